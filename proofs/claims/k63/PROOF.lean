import PyProof.Rows.All
import Wide.All
import OpenK.AllK
import Wide.FinOn
import HandS.ForMost
import HandS.WordsExc
import HandS.IsInst
import HandS.Flow
import HandS.Style
import HandS.Zip
import HandS.Conv
import HandS.Rev
import HandS.SortInts
import HandS.More
import HandS.SetFor
import HandS.Wide
import HandS.ExcBuiltin
import HandS.TupAny
import KE.DataMinMax
import KE.DataEq
import KE.DataFind
import KE.SortData
import HandS.Small
import HandS.Iter
import KE.GoesMore
import KE.GoesEnum
import KE.GoesZip
import KE.DatumIndex
import HandS.SortRule
import KE.SortCalls
import KE.OsSort
import HandS.Strs
import HandS.TupMul
import HandS.TryMany
import HandS.ExcIs
import HandS.SortOrd
import KE.KSortTupAny
import PySem.Challenge.RW_nosumwithin_k63_main_bounds_and_built_fr
set_option Elab.async false
set_option linter.all false
set_option maxRecDepth 100000
/-! The values of a run as trees, the store as a list of slots; what a piece of the text does is a plain function of the slots. -/
namespace L2.EV
open PySem PySem.Spec PyProof.Rows

inductive PV where
  | non | bl (b : Bool) | int (i : Int) | str (x : Str) | ty (n : String) | fn (x : Str)
  | tup (xs : List PV) | lst (xs : List PV) | dct (kvs : List (Key × PV)) | scr (xs : List PV)
  deriving Inhabited

/-- slots by number -/
abbrev Sl := List (Option PV)
inductive Out (α : Type) where
  | ok (a : α) (e : Sl) | exc (c : Str) | stuck
abbrev M (α : Type) := Sl → Out α
/-- how a statement ends -/
inductive Fl where
  | nx (e : Sl) | bk (e : Sl) | ct (e : Sl) | rt (t : PV) (e : Sl) | exc (c : Str) | stuck
abbrev S := Sl → Fl
/-- what a def tells: its value, what became of the objects lent to it -/
inductive FO where
  | ok (t : PV) (mu : List PV) | exc (c : Str) | stuck

/-! ### how values lie -/
/-- the script's list: locked, or an object of the module -/
def ScL (K : PySem.W.Frag) (H : Hp) (a : Addr) (vs : List V) : Prop :=
  (∃ o, H a = some (.frz o (.lst vs))) ∨
    ∃ (o : Obj) (its : Array Value) (n : Nat), K.lookup a = some o ∧ o.cls = .type "list" ∧ o.dict = none ∧ o.data = .seq its n ∧ its.size ≤ sizeLine ∧ Vals vs its.toList
theorem ScL.sq {K : PySem.W.Frag} {H : Hp} {a : Addr} {vs : List V} (h : ScL K H a vs) : SqL K H a vs :=
  h.elim (fun x => .inl (.inr x)) .inr

/-- a tuple that bears no dict -/
def TuL (K : PySem.W.Frag) (H : Hp) (a : Addr) (vs : List V) : Prop :=
  (∃ o : Obj, H a = some (.frz o (.tup vs)) ∧ o.dict = none) ∨
    ∃ (o : Obj) (its : Array Value) (n : Nat), K.lookup a = some o ∧ o.cls = .type "tuple" ∧ o.dict = none ∧ o.data = .seq its n ∧ its.size ≤ sizeLine ∧ Vals vs its.toList
theorem TuL.sq {K : PySem.W.Frag} {H : Hp} {a : Addr} {vs : List V} (h : TuL K H a vs) : SqT K H a vs := by
  rcases h with ⟨o, h, _⟩ | ⟨o, its, n, h1, h2, _, h3, h4, h5⟩
  · exact .inl (.inr ⟨o, h⟩)
  · exact .inr ⟨o, its, n, h1, h2, h3, h4, h5⟩

mutual
inductive Rep (K : PySem.W.Frag) (mg : Str → Option Value) (F : Addr → Prop) (H : Hp) : PV → V → Prop
  | non : Rep K mg F H .non .non
  | bl (b : Bool) : Rep K mg F H (.bl b) (.bl b)
  | int (i : Int) : Rep K mg F H (.int i) (.int i)
  | str (x : Str) : Rep K mg F H (.str x) (.str x)
  | ty (n : String) : Rep K mg F H (.ty n) (.ty n)
  | fn {x : Str} {f : Addr} : mg x = some (.ref f) → Rep K mg F H (.fn x) (.ref f)
  | tup {a : Addr} {vs : List V} {ts : List PV} : TuL K H a vs → RepL K mg F H ts vs → Rep K mg F H (.tup ts) (.ref a)
  | lst {a : Addr} {vs : List V} {ts : List PV} : F a → H a = some (.lst vs) → RepL K mg F H ts vs → Rep K mg F H (.lst ts) (.ref a)
  | scr {a : Addr} {vs : List V} {ts : List PV} : ScL K H a vs → RepL K mg F H ts vs → Rep K mg F H (.scr ts) (.ref a)
  | dct {a : Addr} {kvs : List (Key × V)} {kts : List (Key × PV)} : F a → H a = some (.dK kvs) → RepK K mg F H kts kvs → Rep K mg F H (.dct kts) (.ref a)
inductive RepL (K : PySem.W.Frag) (mg : Str → Option Value) (F : Addr → Prop) (H : Hp) : List PV → List V → Prop
  | nil : RepL K mg F H [] []
  | cons {t : PV} {v : V} {ts : List PV} {vs : List V} : Rep K mg F H t v → RepL K mg F H ts vs → RepL K mg F H (t :: ts) (v :: vs)
inductive RepK (K : PySem.W.Frag) (mg : Str → Option Value) (F : Addr → Prop) (H : Hp) : List (Key × PV) → List (Key × V) → Prop
  | nil : RepK K mg F H [] []
  | cons {k : Key} {t : PV} {v : V} {ts : List (Key × PV)} {vs : List (Key × V)} : Rep K mg F H t v → RepK K mg F H ts vs → RepK K mg F H ((k, t) :: ts) ((k, v) :: vs)
end

section
variable {K : PySem.W.Frag} {mg : Str → Option Value} {F F' : Addr → Prop} {H H' : Hp}
/-- what may not change does not -/
structure Keep (F : Addr → Prop) (H : Hp) (F' : Addr → Prop) (H' : Hp) : Prop where
  fm : ∀ a, F a → F' a
  kp : ∀ a o, H a = some o → (F a ∨ ¬ Mut (some o)) → H' a = some o
theorem Keep.refl : Keep F H F H := ⟨fun _ h => h, fun _ _ h _ => h⟩
theorem Keep.trans {F1 : Addr → Prop} {H1 : Hp} (x : Keep F H F1 H1) (y : Keep F1 H1 F' H') : Keep F H F' H' :=
  ⟨fun a h => y.fm a (x.fm a h), fun a o h d => y.kp a o (x.kp a o h d) (d.imp (x.fm a) id)⟩
theorem Keep.tuL (k : Keep F H F' H') {a : Addr} {vs : List V} (h : TuL K H a vs) : TuL K H' a vs := by
  rcases h with ⟨o, h, d⟩ | h
  · exact .inl ⟨o, k.kp _ _ h (.inr fun z => z), d⟩
  · exact .inr h
theorem Keep.scL (k : Keep F H F' H') {a : Addr} {vs : List V} (h : ScL K H a vs) : ScL K H' a vs := by
  rcases h with ⟨o, h⟩ | h
  · exact .inl ⟨o, k.kp _ _ h (.inr fun z => z)⟩
  · exact .inr h
mutual
theorem Rep.mono (k : Keep F H F' H') : ∀ {t : PV} {v : V}, Rep K mg F H t v → Rep K mg F' H' t v
  | _, _, .non => .non
  | _, _, .bl b => .bl b
  | _, _, .int i => .int i
  | _, _, .str x => .str x
  | _, _, .ty n => .ty n
  | _, _, .fn h => .fn h
  | _, _, .tup h r => .tup (k.tuL h) (RepL.mono k r)
  | _, _, .lst f h r => .lst (k.fm _ f) (k.kp _ _ h (.inl f)) (RepL.mono k r)
  | _, _, .scr h r => .scr (k.scL h) (RepL.mono k r)
  | _, _, .dct f h r => .dct (k.fm _ f) (k.kp _ _ h (.inl f)) (RepK.mono k r)
theorem RepL.mono (k : Keep F H F' H') : ∀ {ts : List PV} {vs : List V}, RepL K mg F H ts vs → RepL K mg F' H' ts vs
  | _, _, .nil => .nil
  | _, _, .cons r q => .cons (Rep.mono k r) (RepL.mono k q)
theorem RepK.mono (k : Keep F H F' H') : ∀ {ts : List (Key × PV)} {vs : List (Key × V)}, RepK K mg F H ts vs → RepK K mg F' H' ts vs
  | _, _, .nil => .nil
  | _, _, .cons r q => .cons (Rep.mono k r) (RepK.mono k q)
end
theorem RepL.length : ∀ {ts : List PV} {vs : List V}, RepL K mg F H ts vs → ts.length = vs.length
  | _, _, .nil => rfl
  | _, _, .cons _ q => congrArg (· + 1) (RepL.length q)
theorem RepL.get : ∀ {ts : List PV} {vs : List V} {i : Nat} {t : PV}, RepL K mg F H ts vs → ts[i]? = some t → ∃ v, vs[i]? = some v ∧ Rep K mg F H t v
  | _, _, _, _, .nil, h => by simp at h
  | _, _, 0, _, .cons r _, h => by simp at h; subst h; exact ⟨_, rfl, r⟩
  | _, _, i + 1, _, .cons _ q, h => by
    obtain ⟨v, h1, h2⟩ := RepL.get (i := i) q (by simpa using h)
    exact ⟨v, by simpa using h1, h2⟩
theorem RepL.at : ∀ {ts : List PV} {vs : List V} {i : Nat} {v : V}, RepL K mg F H ts vs → vs[i]? = some v → ∃ t, ts[i]? = some t ∧ Rep K mg F H t v
  | _, _, _, _, .nil, h => by simp at h
  | _, _, 0, _, .cons r _, h => by simp at h; subst h; exact ⟨_, rfl, r⟩
  | _, _, i + 1, _, .cons _ q, h => by
    obtain ⟨v, h1, h2⟩ := RepL.at (i := i) q (by simpa using h)
    exact ⟨v, by simpa using h1, h2⟩
theorem RepL.append : ∀ {ts ss : List PV} {vs ws : List V}, RepL K mg F H ts vs → RepL K mg F H ss ws → RepL K mg F H (ts ++ ss) (vs ++ ws)
  | _, _, _, _, .nil, q => q
  | _, _, _, _, .cons r q, p => .cons r (RepL.append q p)
theorem RepL.take : ∀ {ts : List PV} {vs : List V} (n : Nat), RepL K mg F H ts vs → RepL K mg F H (ts.take n) (vs.take n)
  | _, _, 0, _ => .nil
  | _, _, _ + 1, .nil => .nil
  | _, _, n + 1, .cons r q => .cons r (RepL.take n q)
theorem RepL.drop : ∀ {ts : List PV} {vs : List V} (n : Nat), RepL K mg F H ts vs → RepL K mg F H (ts.drop n) (vs.drop n)
  | _, _, 0, r => r
  | _, _, _ + 1, .nil => .nil
  | _, _, n + 1, .cons _ q => RepL.drop n q
theorem RepL.set {t : PV} {v : V} (r : Rep K mg F H t v) : ∀ {ts : List PV} {vs : List V} (n : Nat), RepL K mg F H ts vs → RepL K mg F H (ts.set n t) (vs.set n v)
  | _, _, _, .nil => .nil
  | _, _, 0, .cons _ q => .cons r q
  | _, _, n + 1, .cons p q => .cons p (RepL.set r n q)
theorem RepL.eraseIdx : ∀ {ts : List PV} {vs : List V} (n : Nat), RepL K mg F H ts vs → RepL K mg F H (ts.eraseIdx n) (vs.eraseIdx n)
  | _, _, _, .nil => .nil
  | _, _, 0, .cons _ q => q
  | _, _, n + 1, .cons p q => .cons p (RepL.eraseIdx n q)
theorem RepL.dropLast : ∀ {ts : List PV} {vs : List V}, RepL K mg F H ts vs → RepL K mg F H ts.dropLast vs.dropLast
  | _, _, .nil => .nil
  | _, _, .cons _ .nil => .nil
  | _, _, .cons p (.cons q r) => .cons p (RepL.dropLast (.cons q r))
theorem RepL.reverse : ∀ {ts : List PV} {vs : List V}, RepL K mg F H ts vs → RepL K mg F H ts.reverse vs.reverse
  | _, _, .nil => .nil
  | _, _, .cons p q => by
    rw [List.reverse_cons, List.reverse_cons]
    exact RepL.append (RepL.reverse q) (.cons p .nil)
theorem RepL.ints : ∀ {ns : List Int} {vs : List V}, RepL K mg F H (ns.map PV.int) vs → vs = ns.map V.int
  | [], _, .nil => rfl
  | _ :: _, _, .cons (.int _) q => by rw [List.map_cons, RepL.ints q]
theorem RepL.of_ints : ∀ (ns : List Int), RepL K mg F H (ns.map PV.int) (ns.map V.int)
  | [] => .nil
  | n :: ns => .cons (.int n) (RepL.of_ints ns)
theorem RepL.bls : ∀ {ns : List Bool} {vs : List V}, RepL K mg F H (ns.map PV.bl) vs → vs = ns.map V.bl
  | [], _, .nil => rfl
  | _ :: _, _, .cons (.bl _) q => by rw [List.map_cons, RepL.bls q]
theorem RepL.strs : ∀ {ns : List Str} {vs : List V}, RepL K mg F H (ns.map PV.str) vs → vs = ns.map V.str
  | [], _, .nil => rfl
  | _ :: _, _, .cons (.str _) q => by rw [List.map_cons, RepL.strs q]
theorem RepL.of_strs : ∀ (ns : List Str), RepL K mg F H (ns.map PV.str) (ns.map V.str)
  | [] => .nil
  | n :: ns => .cons (.str n) (RepL.of_strs ns)

/-- an object that one slot alone knows -/
def OwnR (K : PySem.W.Frag) (mg : Str → Option Value) (F : Addr → Prop) (H : Hp) (a : Addr) : PV → Prop
  | .lst ts => ∃ vs, H a = some (.lst vs) ∧ RepL K mg F H ts vs
  | .dct kts => ∃ kvs, H a = some (.dK kvs) ∧ RepK K mg F H kts kvs
  | _ => False
theorem OwnR.mut {a : Addr} {t : PV} (h : OwnR K mg F H a t) : Mut (H a) := by
  cases t <;> try exact h.elim
  · obtain ⟨vs, e, _⟩ := h; rw [e]; trivial
  · obtain ⟨vs, e, _⟩ := h; rw [e]; trivial
theorem OwnR.there {a : Addr} {t : PV} (h : OwnR K mg F H a t) : H a ≠ none := by
  intro z
  have m := h.mut
  rw [z] at m
  exact m
theorem OwnR.mono (k : Keep F H F' H') {a : Addr} (e : H' a = H a) : ∀ {t : PV}, OwnR K mg F H a t → OwnR K mg F' H' a t
  | .lst ts, ⟨vs, h, r⟩ => ⟨vs, e.trans h, r.mono k⟩
  | .dct ts, ⟨vs, h, r⟩ => ⟨vs, e.trans h, r.mono k⟩
end

/-! ### a def's state -/
/-- the entry: the heap, what no one changes, the slots of lent objects -/
structure Base where
  H : Hp
  F : Addr → Prop
  L : List (Nat × Addr)
structure Cp where
  K : PySem.W.Frag
  mg : Str → Option Value
  O : List Nat
  B : Base
  W : WX
  /-- the def hands back a new object -/
  fr : Bool := false

/-- what the entry knew is kept -/
structure Bok (B : Base) (F : Addr → Prop) (H : Hp) : Prop where
  fm : ∀ a, B.F a → F a
  kp : ∀ a o, B.H a = some o → a ∉ B.L.map (·.2) → H a = some o
  nof : ∀ a, B.H a ≠ none → F a → B.F a
  dom : ∀ a, B.H a ≠ none → H a ≠ none
  fd : ∀ a, F a → H a ≠ none

/-- the slots -/
structure Now (C : Cp) (env : Sl) (σ : St) (F : Addr → Prop) (H : Hp) : Prop where
  len : env.length = σ.length
  bok : Bok C.B F H
  shr : ∀ i t, i ∉ C.O → env[i]? = some (some t) → ∃ v, σ[i]? = some (some v) ∧ Rep C.K C.mg F H t v
  own : ∀ i t, i ∈ C.O → env[i]? = some (some t) → ∃ a, σ[i]? = some (some (.ref a)) ∧ ¬ F a ∧ OwnR C.K C.mg F H a t ∧ (C.B.H a = none ∨ a ∈ C.B.L.map (·.2))
  emp : ∀ i v, i ∈ C.O → σ[i]? = some (some v) → ∃ t, env[i]? = some (some t)
  dis : ∀ i j a, i ∈ C.O → j ∈ C.O → σ[i]? = some (some (.ref a)) → σ[j]? = some (some (.ref a)) → i = j
  lent : ∀ p ∈ C.B.L, p.1 ∈ C.O ∧ σ[p.1]? = some (some (.ref p.2))

/-- a, an object of a slot -/
def Ow (C : Cp) (σ : St) (a : Addr) : Prop := ∃ i ∈ C.O, σ[i]? = some (some (.ref a))

/-- an expression's end -/
structure Ext (C : Cp) (σ : St) (F : Addr → Prop) (H : Hp) (F' : Addr → Prop) (H' : Hp) : Prop where
  fm : ∀ a, F a → F' a
  kp : ∀ a o, H a = some o → ¬ Ow C σ a → H' a = some o
  dom : ∀ a, H a ≠ none → H' a ≠ none
  nof : ∀ a, H a ≠ none → F' a → F a

section
variable {C : Cp} {env env' : Sl} {σ : St} {F F' F1 : Addr → Prop} {H H' H1 : Hp}
theorem Ext.refl : Ext C σ F H F H := ⟨fun _ h => h, fun _ _ h _ => h, fun _ h => h, fun _ _ h => h⟩
theorem Ext.trans (x : Ext C σ F H F1 H1) (y : Ext C σ F1 H1 F' H') : Ext C σ F H F' H' :=
  ⟨fun a h => y.fm a (x.fm a h), fun a o h n => y.kp a o (x.kp a o h n) n, fun a h => y.dom a (x.dom a h), fun a h f => x.nof a h (y.nof a (x.dom a h) f)⟩
theorem Now.not_shared (n : Now C env σ F H) {a : Addr} (o : Ow C σ a) : ¬ F a ∧ Mut (H a) ∧ H a ≠ none := by
  obtain ⟨i, hi, e⟩ := o
  obtain ⟨t, et⟩ := n.emp i _ hi e
  obtain ⟨b, eb, nf, r, _⟩ := n.own i t hi et
  rw [e] at eb
  cases eb
  exact ⟨nf, r.mut, r.there⟩
/-- what an expression leaves is kept -/
theorem Now.keep (n : Now C env σ F H) (x : Ext C σ F H F' H') : Keep F H F' H' :=
  ⟨x.fm, fun a o h d => x.kp a o h fun w => by
    obtain ⟨nf, m, _⟩ := n.not_shared w
    rcases d with d | d
    · exact nf d
    · rw [h] at m; exact d m⟩
theorem Bok.ext (b : Bok C.B F H) (n : Now C env σ F H) (x : Ext C σ F H F' H') (fd : ∀ a, F' a → H' a ≠ none) : Bok C.B F' H' :=
  ⟨fun a h => x.fm a (b.fm a h), fun a o h nl => x.kp a o (b.kp a o h nl) fun ⟨i, hi, e⟩ => by
      obtain ⟨t, et⟩ := n.emp i _ hi e
      obtain ⟨c, ec, nf, r, q⟩ := n.own i t hi et
      rw [e] at ec
      cases ec
      rcases q with q | q
      · rw [q] at h; cases h
      · exact nl q,
    fun a h f => b.nof a h (x.nof a (b.dom a h) f), fun a h => x.dom a (b.dom a h), fd⟩
/-- nothing that the slots know has changed -/
theorem Now.still (n : Now C env σ F H) (x : Ext C σ F H F' H') (o : ∀ a, Ow C σ a → H' a = H a) (fd : ∀ a, F' a → H' a ≠ none) : Now C env σ F' H' := by
  have k := n.keep x
  refine ⟨n.len, n.bok.ext n x fd, fun i t hi e => ?_, fun i t hi e => ?_, n.emp, n.dis, n.lent⟩
  · obtain ⟨v, e1, r⟩ := n.shr i t hi e
    exact ⟨v, e1, r.mono k⟩
  · obtain ⟨a, e1, nf, r, q⟩ := n.own i t hi e
    refine ⟨a, e1, fun f => nf (x.nof a r.there f), r.mono k (o a ⟨i, hi, e1⟩), q⟩
/-- a new object, known to none -/
theorem Now.laid (n : Now C env σ F H) {p : Addr} {o : HO} (hp : H p = none) : Ext C σ F H F (upd H p o) ∧ Now C env σ F (upd H p o) := by
  have np : ∀ a, H a ≠ none → a ≠ p := fun a h z => h (by rw [z]; exact hp)
  have x : Ext C σ F H F (upd H p o) := ⟨fun _ h => h, fun a q h _ => by rw [upd_ne (np a (by rw [h]; simp))]; exact h, fun a h => by rw [upd_ne (np a h)]; exact h, fun _ _ h => h⟩
  refine ⟨x, n.still x (fun a w => upd_ne (np a (n.not_shared w).2.2)) fun a f => x.dom a (n.bok.fd a f)⟩
/-- .. and shared from now on -/
theorem Now.laidF (n : Now C env σ F H) {p : Addr} {o : HO} (hp : H p = none) : Ext C σ F H (fun a => F a ∨ a = p) (upd H p o) ∧ Now C env σ (fun a => F a ∨ a = p) (upd H p o) := by
  have np : ∀ a, H a ≠ none → a ≠ p := fun a h z => h (by rw [z]; exact hp)
  have x : Ext C σ F H (fun a => F a ∨ a = p) (upd H p o) := ⟨fun _ h => .inl h, fun a q h _ => by rw [upd_ne (np a (by rw [h]; simp))]; exact h, fun a h => by rw [upd_ne (np a h)]; exact h,
    fun a h f => f.elim id fun z => absurd z (np a h)⟩
  refine ⟨x, n.still x (fun a w => upd_ne (np a (n.not_shared w).2.2)) fun a f => ?_⟩
  rcases f with f | f
  · exact x.dom a (n.bok.fd a f)
  · rw [f, upd_same]; simp
/-- a known object is shared from now on -/
theorem Now.froz (n : Now C env σ F H) {p : Addr} (hp : H p ≠ none) (h0 : C.B.H p = none) (ho : ¬ Ow C σ p) : Now C env σ (fun a => F a ∨ a = p) H := by
  have k : Keep F H (fun a => F a ∨ a = p) H := ⟨fun _ h => .inl h, fun _ _ h _ => h⟩
  refine ⟨n.len, ⟨fun a h => .inl (n.bok.fm a h), n.bok.kp, fun a h f => ?_, n.bok.dom, fun a f => ?_⟩, fun i t hi e => ?_, fun i t hi e => ?_, n.emp, n.dis, n.lent⟩
  · rcases f with f | f
    · exact n.bok.nof a h f
    · rw [f] at h; exact absurd h0 h
  · rcases f with f | f
    · exact n.bok.fd a f
    · rw [f]; exact hp
  · obtain ⟨v, e1, r⟩ := n.shr i t hi e
    exact ⟨v, e1, r.mono k⟩
  · obtain ⟨a, e1, nf, r, q⟩ := n.own i t hi e
    exact ⟨a, e1, fun f => f.elim nf fun z => ho (z ▸ ⟨i, hi, e1⟩), r.mono k rfl, q⟩
/-- the object of slot i is changed -/
theorem Now.wrote (n : Now C env σ F H) {i : Nat} {a : Addr} {o : HO} {t : PV} (hi : i ∈ C.O) (e : σ[i]? = some (some (.ref a))) (r : OwnR C.K C.mg F (upd H a o) a t) (ht : ∃ t0, env[i]? = some (some t0)) :
    Ext C σ F H F (upd H a o) ∧ Now C (env.set i (some t)) σ F (upd H a o) := by
  obtain ⟨t0, e0⟩ := ht
  obtain ⟨b, eb, nf, r0, q0⟩ := n.own i t0 hi e0
  rw [e] at eb
  cases eb
  have x : Ext C σ F H F (upd H a o) := ⟨fun _ h => h, fun b q h no => by rw [upd_ne (fun z : b = a => no (by rw [z]; exact ⟨i, hi, e⟩))]; exact h, fun b h => by
      by_cases z : b = a
      · rw [z, upd_same]; simp
      · rw [upd_ne z]; exact h, fun _ _ h => h⟩
  have k := n.keep x
  have hlen : i < env.length := by
    rw [n.len]
    exact (List.getElem?_eq_some_iff.mp e).1
  refine ⟨x, ⟨by simp [n.len], n.bok.ext n x fun b f => x.dom b (n.bok.fd b f), fun j u hj ej => ?_, fun j u hj ej => ?_, fun j v hj ej => ?_, n.dis, n.lent⟩⟩
  · have ne : i ≠ j := fun z => hj (z ▸ hi)
    rw [List.getElem?_set_ne ne] at ej
    obtain ⟨v, e1, r1⟩ := n.shr j u hj ej
    exact ⟨v, e1, r1.mono k⟩
  · by_cases z : i = j
    · subst z
      rw [List.getElem?_set_self hlen] at ej
      cases ej
      exact ⟨a, e, nf, r, q0⟩
    · rw [List.getElem?_set_ne z] at ej
      obtain ⟨c, e1, nf1, r1, q1⟩ := n.own j u hj ej
      refine ⟨c, e1, nf1, r1.mono k (upd_ne fun w => z (n.dis i j a hi hj e (w ▸ e1))), q1⟩
  · by_cases z : i = j
    · subst z
      exact ⟨t, List.getElem?_set_self hlen⟩
    · rw [List.getElem?_set_ne z]
      exact n.emp j v hj ej
/-- a slot that holds a shared value is stored -/
theorem Now.put (n : Now C env σ F H) {i : Nat} {t : PV} {v : V} (hi : i ∉ C.O) (r : Rep C.K C.mg F H t v) : Now C (env.set i (some t)) (σ.set i (some v)) F H := by
  refine ⟨by simp [n.len], n.bok, fun j u hj ej => ?_, fun j u hj ej => ?_, fun j w hj ej => ?_, fun j k a hj hk ej ek => ?_, fun p hp => ?_⟩
  · by_cases z : i = j
    · subst z
      have hl : i < env.length := by
        have := (List.getElem?_eq_some_iff.mp ej).1
        simpa using this
      rw [List.getElem?_set_self hl] at ej
      cases ej
      exact ⟨v, List.getElem?_set_self (by rw [← n.len]; exact hl), r⟩
    · rw [List.getElem?_set_ne z] at ej ⊢
      exact n.shr j u hj ej
  · have z : i ≠ j := fun z => hi (z ▸ hj)
    rw [List.getElem?_set_ne z] at ej ⊢
    exact n.own j u hj ej
  · have z : i ≠ j := fun z => hi (z ▸ hj)
    rw [List.getElem?_set_ne z] at ej ⊢
    exact n.emp j w hj ej
  · have z : i ≠ j := fun z => hi (z ▸ hj)
    have z' : i ≠ k := fun z => hi (z ▸ hk)
    rw [List.getElem?_set_ne z] at ej
    rw [List.getElem?_set_ne z'] at ek
    exact n.dis j k a hj hk ej ek
  · obtain ⟨h1, h2⟩ := n.lent p hp
    refine ⟨h1, ?_⟩
    rw [List.getElem?_set_ne (fun z : i = p.1 => hi (by rw [z]; exact h1))]
    exact h2
/-- a slot gets an object of its own -/
theorem Now.putO (n : Now C env σ F H) {i : Nat} {t : PV} {a : Addr} (hi : i ∈ C.O) (hl : i ∉ C.B.L.map (·.1)) (r : OwnR C.K C.mg F H a t) (nf : ¬ F a) (h0 : C.B.H a = none) (no : ¬ Ow C σ a) :
    Now C (env.set i (some t)) (σ.set i (some (.ref a))) F H := by
  refine ⟨by simp [n.len], n.bok, fun j u hj ej => ?_, fun j u hj ej => ?_, fun j w hj ej => ?_, fun j k b hj hk ej ek => ?_, fun p hp => ?_⟩
  · have z : i ≠ j := fun z => hj (z ▸ hi)
    rw [List.getElem?_set_ne z] at ej ⊢
    exact n.shr j u hj ej
  · by_cases z : i = j
    · subst z
      have hl : i < env.length := by
        have := (List.getElem?_eq_some_iff.mp ej).1
        simpa using this
      rw [List.getElem?_set_self hl] at ej
      cases ej
      exact ⟨a, List.getElem?_set_self (by rw [← n.len]; exact hl), nf, r, .inl h0⟩
    · rw [List.getElem?_set_ne z] at ej ⊢
      exact n.own j u hj ej
  · by_cases z : i = j
    · subst z
      have hl : i < σ.length := by
        have := (List.getElem?_eq_some_iff.mp ej).1
        simpa using this
      exact ⟨t, List.getElem?_set_self (by rw [n.len]; exact hl)⟩
    · rw [List.getElem?_set_ne z] at ej ⊢
      exact n.emp j w hj ej
  · by_cases z : i = j <;> by_cases z' : i = k
    · exact z.symm.trans z'
    · subst z
      have hl : i < σ.length := by
        have := (List.getElem?_eq_some_iff.mp ej).1
        simpa using this
      rw [List.getElem?_set_self hl] at ej
      cases ej
      rw [List.getElem?_set_ne z'] at ek
      exact absurd ⟨k, hk, ek⟩ no
    · subst z'
      have hl : i < σ.length := by
        have := (List.getElem?_eq_some_iff.mp ek).1
        simpa using this
      rw [List.getElem?_set_self hl] at ek
      cases ek
      rw [List.getElem?_set_ne z] at ej
      exact absurd ⟨j, hj, ej⟩ no
    · rw [List.getElem?_set_ne z] at ej
      rw [List.getElem?_set_ne z'] at ek
      exact n.dis j k b hj hk ej ek
  · obtain ⟨h1, h2⟩ := n.lent p hp
    refine ⟨h1, ?_⟩
    rw [List.getElem?_set_ne (fun z : i = p.1 => hl (by rw [z]; exact List.mem_map.mpr ⟨p, hp, rfl⟩))]
    exact h2
end
end L2.EV

set_option Elab.async false
set_option linter.all false
set_option maxRecDepth 100000
namespace L2.EV
open PySem PySem.Spec PyProof.Rows

def mret {α : Type} (a : α) : M α := fun e => .ok a e
def mstuck {α : Type} : M α := fun _ => .stuck
def mbind {α β : Type} (m : M α) (f : α → M β) : M β := fun e => match m e with
  | .ok a e' => f a e'
  | .exc c => .exc c
  | .stuck => .stuck
instance : Monad M where
  pure := mret
  bind := mbind
/-- what is not served is stuck -/
def mlift {α : Type} : Option α → M α
  | some a => mret a
  | none => mstuck
/-- a slot's value -/
def slot (i : Nat) : M PV := fun e => match e[i]? with
  | some (some t) => .ok t e
  | _ => .stuck
def putSlot (i : Nat) (t : PV) : M Unit := fun e => .ok () (e.set i (some t))

/-! ### ends -/
def End {α : Type} (C : Cp) (σ : St) (F : Addr → Prop) (H : Hp) (o : Out α) (P : α → (Addr → Prop) → Hp → Prop) : Prop := match o with
  | .ok a env' => ∀ F' H', Now C env' σ F' H' → Ext C σ F H F' H' → P a F' H'
  | .exc c => ∀ cls σ' F' H', C.mg c = some cls → Bok C.B F' H' → C.W cls none σ' H'
  | .stuck => False
section
variable {α β : Type} {C : Cp} {env : Sl} {σ : St} {F : Addr → Prop} {H : Hp} {P P' : α → (Addr → Prop) → Hp → Prop}
theorem End.imp {o : Out α} (h : End C σ F H o P) (k : ∀ a env' F' H', o = .ok a env' → Now C env' σ F' H' → Ext C σ F H F' H' → P a F' H' → P' a F' H') : End C σ F H o P' := by
  cases o with
  | ok a e => exact fun F' H' n x => k a e F' H' rfl n x (h F' H' n x)
  | exc c => exact h
  | stuck => exact h
theorem End.seq {m : M α} {f : α → M β} {R : β → (Addr → Prop) → Hp → Prop} (h : End C σ F H (mbind m f env) R) : End C σ F H (m env) fun a F1 H1 => ∃ env1, Now C env1 σ F1 H1 ∧ End C σ F1 H1 (f a env1) R := by
  unfold mbind at h
  cases e : m env with
  | ok a e1 =>
    rw [e] at h
    intro F1 H1 n x
    refine ⟨e1, n, ?_⟩
    have h : End C σ F H (f a e1) R := h
    cases e2 : f a e1 with
    | ok b e3 => rw [e2] at h; exact fun F' H' n' x' => h F' H' n' (x.trans x')
    | exc c => rw [e2] at h; exact h
    | stuck => rw [e2] at h; exact h
  | exc c => rw [e] at h; exact h
  | stuck => rw [e] at h; exact h
theorem End.ret {a : α} (n : Now C env σ F H) (h : End C σ F H (mret a env) P) : P a F H := h F H n Ext.refl
theorem End.lift {o : Option α} (n : Now C env σ F H) (h : End C σ F H (mlift o env) P) : ∃ a, o = some a ∧ ∀ F' H', Now C env σ F' H' → Ext C σ F H F' H' → P a F' H' := by
  cases o with
  | none => exact h.elim
  | some a => exact ⟨a, rfl, h⟩
end

/-! ### readings -/
def rd (C : Cp) (m : M PV) : TE := fun σ H Q => ∃ env F, Now C env σ F H ∧ End C σ F H (m env) fun t F' H' => ∀ v, Rep C.K C.mg F' H' t v → Q v H'
/-- a new object, known to no one -/
def rdF (C : Cp) (m : M PV) : TE := fun σ H Q => ∃ env F, Now C env σ F H ∧ End C σ F H (m env) fun t F' H' => ∀ a, OwnR C.K C.mg F' H' a t → ¬ F' a → H a = none → Q (.ref a) H'
def rt (C : Cp) (m : M Bool) : TT := fun σ H Q => ∃ env F, Now C env σ F H ∧ End C σ F H (m env) fun b _ H' => Q b H'
/-- arguments: a value, or the object of a slot, lent -/
inductive ArgR (C : Cp) (σ : St) (F : Addr → Prop) (H : Hp) : List (Option Nat) → List PV → List V → Prop
  | nil : ArgR C σ F H [] [] []
  | val {ms : List (Option Nat)} {t : PV} {v : V} {ts : List PV} {vs : List V} : Rep C.K C.mg F H t v → ArgR C σ F H ms ts vs → ArgR C σ F H (none :: ms) (t :: ts) (v :: vs)
  | lent {ms : List (Option Nat)} {i : Nat} {a : Addr} {t : PV} {ts : List PV} {vs : List V} : i ∈ C.O → σ[i]? = some (some (.ref a)) → ArgR C σ F H ms ts vs → ArgR C σ F H (some i :: ms) (t :: ts) (.ref a :: vs)
def ra (C : Cp) (ms : List (Option Nat)) (m : M (List PV)) : TA := fun σ H Q => ∃ env F, Now C env σ F H ∧ End C σ F H (m env) fun ts F' H' => ∀ vs, ArgR C σ F' H' ms ts vs → Q vs H'
/-- what is handed back -/
def Back (C : Cp) (F : Addr → Prop) (H : Hp) (t : PV) (v : V) : Prop :=
  if C.fr = true then ∃ a, v = .ref a ∧ OwnR C.K C.mg F H a t ∧ ¬ F a ∧ C.B.H a = none else Rep C.K C.mg F H t v
/-- statements -/
def EndS (C : Cp) (D : Ends) (F : Addr → Prop) (H : Hp) (o : Fl) : Prop := match o with
  | .nx e => ∀ σ' F' H', Now C e σ' F' H' → Keep F H F' H' → D.nx σ' H'
  | .bk e => ∀ σ' F' H', Now C e σ' F' H' → Keep F H F' H' → D.bk σ' H'
  | .ct e => ∀ σ' F' H', Now C e σ' F' H' → Keep F H F' H' → D.ct σ' H'
  | .rt t e => ∀ v σ' F' H', Now C e σ' F' H' → Keep F H F' H' → Back C F' H' t v → D.rt v H'
  | .exc c => ∀ cls σ' F' H', C.mg c = some cls → Bok C.B F' H' → C.W cls none σ' H'
  | .stuck => False
def rs (C : Cp) (f : S) : TS := fun D σ H => ∃ env F, Now C env σ F H ∧ EndS C D F H (f env)

theorem EndS.keep {C : Cp} {D : Ends} {F F1 : Addr → Prop} {H H1 : Hp} {o : Fl} (k : Keep F H F1 H1) (h : EndS C D F H o) : EndS C D F1 H1 o := by
  cases o with
  | nx e => exact fun σ' F' H' n q => h σ' F' H' n (k.trans q)
  | bk e => exact fun σ' F' H' n q => h σ' F' H' n (k.trans q)
  | ct e => exact fun σ' F' H' n q => h σ' F' H' n (k.trans q)
  | rt t e => exact fun v σ' F' H' n q r => h v σ' F' H' n (k.trans q) r
  | exc c => exact h
  | stuck => exact h

/-! ### judgements -/
/-- what a context bears -/
structure RC (X : Cx) (C : Cp) (k : Nat) : Prop where
  hK : X.K = C.K
  hmg : X.mg = C.mg
  calm : X.calm = true
  nd : X.N.Nodup
  tk : Takes X C.W
  room : Room k X.A
def sbind {α : Type} (m : M α) (f : α → S) : S := fun env => match m env with
  | .ok a e => f a e
  | .exc c => .exc c
  | .stuck => .stuck
theorem EndS.seq {α : Type} {C : Cp} {D : Ends} {env : Sl} {σ : St} {F : Addr → Prop} {H : Hp} {m : M α} {f : α → S} (n : Now C env σ F H) (h : EndS C D F H (sbind m f env)) :
    End C σ F H (m env) fun a F1 H1 => ∃ env1, Now C env1 σ F1 H1 ∧ EndS C D F1 H1 (f a env1) := by
  unfold sbind at h
  cases e : m env with
  | ok a e1 =>
    rw [e] at h
    exact fun F1 H1 n1 x => ⟨e1, n1, EndS.keep (n.keep x) h⟩
  | exc c => rw [e] at h; exact h
  | stuck => rw [e] at h; exact h
abbrev RE (X : Cx) (C : Cp) (e : Expr) (m : M PV) : Prop := PE X e (rd C m)
abbrev RF (X : Cx) (C : Cp) (e : Expr) (m : M PV) : Prop := PE X e (rdF C m)
abbrev RT (X : Cx) (C : Cp) (e : Expr) (m : M Bool) : Prop := PT X e (rt C m)
abbrev RA (X : Cx) (C : Cp) (ms : List (Option Nat)) (es : List Expr) (m : M (List PV)) : Prop := PA X es (ra C ms m)
abbrev RS (X : Cx) (C : Cp) (st : Stmt) (f : S) : Prop := PS X st (rs C f)
abbrev RSs (X : Cx) (C : Cp) (st : List Stmt) (f : S) : Prop := PSs X st (rs C f)

theorem _root_.L2.PE.imp {X : Cx} {e : Expr} {t t' : TE} (h : PE X e t) (k : ∀ σ H Q, t' σ H Q → t σ H Q) : PE X e t' := ⟨fun pins s σ H Q I q => h.run pins s σ H Q I (k σ H Q q)⟩
theorem _root_.L2.PT.imp {X : Cx} {e : Expr} {t t' : TT} (h : PT X e t) (k : ∀ σ H Q, t' σ H Q → t σ H Q) : PT X e t' := ⟨fun pins s σ H Q I q => h.run pins s σ H Q I (k σ H Q q)⟩
theorem _root_.L2.PW.imp {X : Cx} {e : Expr} {t t' : TT} (h : PW X e t) (k : ∀ σ H Q, t' σ H Q → t σ H Q) : PW X e t' := ⟨fun wh pins s σ H Q I q => h.run wh pins s σ H Q I (k σ H Q q)⟩
theorem _root_.L2.PA.imp {X : Cx} {e : List Expr} {t t' : TA} (h : PA X e t) (k : ∀ σ H Q, t' σ H Q → t σ H Q) : PA X e t' := ⟨fun p pins s σ H Q I q => h.run p pins s σ H Q I (k σ H Q q)⟩
theorem _root_.L2.PS.imp {X : Cx} {e : Stmt} {t t' : TS} (h : PS X e t) (k : ∀ D σ H, t' D σ H → t D σ H) : PS X e t' := ⟨fun pins s σ H D I q => h.run pins s σ H D I (k D σ H q)⟩
theorem _root_.L2.PSs.imp {X : Cx} {e : List Stmt} {t t' : TS} (h : PSs X e t) (k : ∀ D σ H, t' D σ H → t D σ H) : PSs X e t' := ⟨fun pins s σ H D I q => h.run pins s σ H D I (k D σ H q)⟩

section
variable {X : Cx} {C : Cp} {k : Nat} {pos : Pos}

/-! ### names, constants -/
theorem re_var (i : Nat) {x : Str} (hi : i ∉ C.O) (h : PE X (.Name x pos) (tVar i)) : RE X C (.Name x pos) (slot i) := h.imp fun σ H Q ⟨env, F, n, q⟩ => by
  unfold slot at q
  cases e : env[i]? with
  | none => rw [e] at q; exact q.elim
  | some o =>
    cases o with
    | none => rw [e] at q; exact q.elim
    | some t =>
      rw [e] at q
      obtain ⟨v, e1, r⟩ := n.shr i t hi e
      exact ⟨v, e1, q F H n Ext.refl v r⟩
theorem re_c {e : Expr} {v : V} {t : PV} (h : PE X e (tC v)) (r : ∀ F H, Rep C.K C.mg F H t v) : RE X C e (mret t) := h.imp fun σ H Q ⟨env, F, n, q⟩ => q.ret n v (r F H)
theorem re_int {i : Int} {j : Nat} : RE X C (.Constant (.int i) j pos) (mret (.int i)) := re_c pe_int fun _ _ => .int i
theorem re_bl {b : Bool} {j : Nat} : RE X C (.Constant (.bool b) j pos) (mret (.bl b)) := re_c pe_bl fun _ _ => .bl b
theorem re_non {j : Nat} : RE X C (.Constant .none j pos) (mret .non) := re_c pe_non fun _ _ => .non
theorem re_str {x : Str} {j : Nat} : RE X C (.Constant (.str x) j pos) (mret (.str x)) := re_c pe_str fun _ _ => .str x
/-- a def of the top as a value -/
theorem re_fn (rc : RC X C k) {x : Str} {f : Addr} (hg : Gl X x) (hm : C.mg x = some (.ref f)) (hd : (x == ("__debug__" : Str)) = false := by decide) : RE X C (.Name x pos) (mret (.fn x)) :=
  re_c (v := .ref f) (pe_glob hg (by rw [rc.hmg]; exact hm) rfl hd) fun _ _ => .fn hm
/-- a module's int, bool, text -/
theorem re_kint (rc : RC X C k) {x : Str} {i : Int} {tk : Tok} (hg : Gl X x) (hm : C.mg x = some (.int i tk)) (hd : (x == ("__debug__" : Str)) = false := by decide) : RE X C (.Name x pos) (mret (.int i)) :=
  re_c (v := .int i) (pe_glob hg (by rw [rc.hmg]; exact hm) ⟨tk, rfl⟩ hd) fun _ _ => .int i
theorem re_kstr (rc : RC X C k) {x y : Str} {tk : Tok} (hg : Gl X x) (hm : C.mg x = some (.str y tk)) (hd : (x == ("__debug__" : Str)) = false := by decide) : RE X C (.Name x pos) (mret (.str y)) :=
  re_c (v := .str y) (pe_glob hg (by rw [rc.hmg]; exact hm) ⟨tk, rfl⟩ hd) fun _ _ => .str y
/-- a built-in class -/
theorem re_ty (rc : RC X C k) {x : Str} {T : String} (hg : Gl X x) (hm : C.mg x = none) (hv : bootBuiltins x = some (.type T)) (hn : x ≠ "__name__" := by decide) (hd : (x == ("__debug__" : Str)) = false := by decide) : RE X C (.Name x pos) (mret (.ty T)) :=
  re_c (v := .ty T) (pe_bltn hg (by rw [rc.hmg]; exact hm) hv rfl hn hd) fun _ _ => .ty T

/-! ### fresh objects become shared -/
theorem OwnR.rep {K : PySem.W.Frag} {mg : Str → Option Value} {F : Addr → Prop} {H : Hp} {a : Addr} (f : F a) : ∀ {t : PV}, OwnR K mg F H a t → Rep K mg F H t (.ref a)
  | .lst _, ⟨_, h, r⟩ => .lst f h r
  | .dct _, ⟨_, h, r⟩ => .dct f h r
theorem fresh_no {env : Sl} {σ : St} {F : Addr → Prop} {H : Hp} (n : Now C env σ F H) {a : Addr} (ha : H a = none) : C.B.H a = none ∧ ¬ Ow C σ a := by
  refine ⟨?_, fun w => (n.not_shared w).2.2 ha⟩
  cases q : C.B.H a with
  | none => rfl
  | some o => exact absurd ha (n.bok.dom a (by rw [q]; simp))
theorem rd_rdF {m : M PV} {σ : St} {H : Hp} {Q : VK} (h : rd C m σ H Q) : rdF C m σ H Q := by
  obtain ⟨env, F, n, q⟩ := h
  refine ⟨env, F, n, ?_⟩
  cases em : m env with
  | exc c => rw [em] at q; exact q
  | stuck => rw [em] at q; exact q
  | ok t env' =>
    rw [em] at q
    intro F' H' n' x a r nf ha
    obtain ⟨h0, no⟩ := fresh_no n ha
    have n2 := n'.froz (p := a) r.there h0 no
    refine q _ H' n2 ⟨fun b f => .inl (x.fm b f), x.kp, x.dom, fun b hb f => ?_⟩ (.ref a) ?_
    · rcases f with f | f
      · exact x.nof b hb f
      · rw [f] at hb; exact absurd ha hb
    · exact (r.mono (F' := fun b => F' b ∨ b = a) ⟨fun _ h => .inl h, fun _ _ h _ => h⟩ rfl).rep (.inr rfl)
theorem _root_.L2.PE.shared {e : Expr} {m : M PV} (h : RF X C e m) : RE X C e m := h.imp fun _ _ _ h => rd_rdF h
end
end L2.EV

set_option Elab.async false
set_option linter.all false
set_option maxRecDepth 100000
namespace L2.EV
open PySem PySem.Spec PyProof.Rows
/-! Tuples laid: the record itself is known (it bears no dict). -/
section
variable {X : Cx} {es : List Expr} {t : TA} {pos : Pos}
def NewT (H : Hp) (xs : List V) (Q : VK) : Prop := ∀ (p : Addr) (o : Obj), H p = none → o.dict = none → Q (.ref p) (upd H p (.frz o (.tup xs)))
def tTupF (t : TA) : TE := fun σ H Q => t σ H fun xs H1 => xs.length ≤ sizeLine ∧ NewT H1 xs Q
/-- the new tuple at the end of the heap -/
theorem lay_tup {pins : List (Addr × Obj)} {σ : St} {H : Hp} {s : Shared} {h' : Heap} {xs : List V} {its : List Value} {n : Nat} (I : Inv X pins σ H s) (k : ∀ b u, s.heap.get? b = some u → h'.get? b = some u) (r : Vals xs its) (hz : xs.length ≤ sizeLine)
    {p : Addr} (hp : s.heap.objs.size ≤ p) (e : h'.get? p = some { cls := .type "tuple", data := .seq its.toArray n }) {Q : VK} (q : NewT H xs Q) {tk : Nat} : ∃ H', Inv X pins σ H' { s with heap := h', toks := tk } ∧ Q (.ref p) H' :=
  ⟨_, I.laid (t' := tk) (o := .frz { cls := .type "tuple", data := .seq its.toArray n } (.tup xs)) k hp ⟨e, hz, its, r, ⟨_, e, rfl, _, rfl⟩⟩, q p _ (I.hok.fresh hp) rfl⟩
theorem pe_tupF {x1 : Nat} (h : PA X es t) : PE X (.Tuple es x1 pos) (tTupF t) := by
  refine ⟨fun pins s σ H Q I hq => ?_⟩
  refine wpAny_Tuple_spliced (thn (h.run pos pins s σ H _ I hq) fun us s1 ⟨xs, H1, I1, r, z, q⟩ => ⟨by rw [← r.length]; exact z, ?_⟩)
  obtain ⟨H', I', q'⟩ := lay_tup I1 (h' := s1.heap.push { cls := .type "tuple", data := .seq us.toArray }) (fun b u e => Heap.get?_push_of_some _ e) r z (Nat.le_refl _) (Heap.get?_push_size _ rfl) q (tk := s1.toks)
  exact ⟨.ref _, H', I', rfl, q'⟩
theorem call_tuple_ofF : CallR X (.type "tuple") (fun xs H Q => ∃ p ys, xs = [.ref p] ∧ ((SqL X.K H p ys ∧ NewT H ys Q) ∨ (SqT X.K H p ys ∧ Q (.ref p) H))) := by
  intro pins s σ H xs us Q I r h
  obtain ⟨p, ys, rfl, h⟩ := h
  obtain ⟨u, rfl, rx⟩ := vals1 r
  cases rx
  rcases h with ⟨hq, q⟩ | ⟨hq, q⟩
  · obtain ⟨its, r', pl, hz⟩ := I.list hq
    have hlen := r'.length
    refine call_tuple_list pl.isList (fun h' kp => ?_) (by simp only [List.size_toArray] <;> omega)
    have I1 : Inv X pins σ H { s with heap := h' } := I.kept (t' := s.toks) kp
    obtain ⟨H', I', q'⟩ := lay_tup I1 (h' := h'.push { cls := .type "tuple", data := .seq its.toArray }) (fun b u e => Heap.get?_push_of_some _ e) r' hz (Nat.le_refl _) (Heap.get?_push_size _ rfl) q (tk := s.toks)
    exact ⟨.ref _, H', I', rfl, q'⟩
  · obtain ⟨its, r', pl, hz⟩ := I.tuple hq
    exact call_tuple_same pl ⟨.ref p, H, I, rfl, q⟩
def rCatF (K : PySem.W.Frag) : R2 := fun x y H Q => ∃ a b xs ys, x = .ref a ∧ y = .ref b ∧ SqT K H a xs ∧ SqT K H b ys ∧ xs.length + ys.length ≤ sizeLine ∧
  (xs = [] → Q (.ref b) H) ∧ (xs ≠ [] → ys = [] → Q (.ref a) H) ∧ (xs ≠ [] → ys ≠ [] → NewT H (xs ++ ys) Q)
theorem op_catF : OpR X (binaryOp .Add) (rCatF X.K) := by
  intro pins s σ H x y v u Q I rx ry h
  obtain ⟨a, b, xs, ys, rfl, rfl, ha, hb, hz, q0, q1, q2⟩ := h
  cases rx
  cases ry
  obtain ⟨its, r1, p1, _⟩ := I.tuple ha
  obtain ⟨its2, r2, p2, _⟩ := I.tuple hb
  by_cases hx : xs = []
  · subst hx
    cases r1
    exact cat_tup0 p1 p2 ⟨.ref b, H, I, rfl, q0 rfl⟩
  · refine HT.cat_tup p1 p2 (fun z => hx (r1.nil_iff.mp z)) (fun z => ⟨.ref a, H, I, rfl, q1 hx (r2.nil_iff.mp z)⟩) (fun z => ?_) (by rw [← r1.length, ← r2.length]; exact hz)
    obtain ⟨H', I', q'⟩ := lay_tup I (fun b u e => Heap.get?_push_of_some _ e) (r1.append r2) (by rw [List.length_append]; exact hz) (Nat.le_refl _) (Heap.get?_push_size _ rfl) (q2 hx fun w => z (r2.nil_iff.mpr w)) (tk := s.toks)
    exact ⟨.ref _, H', I', rfl, q'⟩
def rSlF (K : PySem.W.Frag) : V → Option Int → Option Int → Hp → VK → Prop := fun x lo hi H Q => ∃ a xs, x = .ref a ∧ SqT K H a xs ∧
  (HT.sIx xs.length 0 lo = 0 ∧ HT.sIx xs.length xs.length hi = xs.length → Q (.ref a) H) ∧ (¬ (HT.sIx xs.length 0 lo = 0 ∧ HT.sIx xs.length xs.length hi = xs.length) → NewT H (cutV xs lo hi) Q)
theorem sl_tupF : SlR X (rSlF X.K) := by
  intro pins s σ H x v vl vu lo hi sl Q I rx hs pl pu h
  obtain ⟨a, xs, rfl, hx, q1, q2⟩ := h
  cases rx
  obtain ⟨its, r, ht, hz⟩ := I.tuple hx
  have hlen : its.toArray.size = xs.length := by rw [List.size_toArray]; exact r.length.symm
  refine ⟨"tuple", _, PyProof.Rows.slot_tuple_getitem.lookup, ht.typeIs, ?_⟩
  by_cases hw : HT.sIx xs.length 0 lo = 0 ∧ HT.sIx xs.length xs.length hi = xs.length
  · exact getItem_tuple_whole ht hs pl pu (by rw [hlen]; exact hw) ⟨.ref a, H, I, rfl, q1 hw⟩
  · refine HT.getItem_tuple_cut ht hs pl pu (by rw [hlen]; exact hw) ?_ (by rw [hlen]; exact hz)
    rw [hlen]
    obtain ⟨H', I', q'⟩ := lay_tup I (fun b u e => Heap.get?_push_of_some _ e) ((r.drop (HT.sIx xs.length 0 lo)).take (HT.sIx xs.length xs.length hi - HT.sIx xs.length 0 lo)) (Nat.le_trans (cutV_length xs lo hi) hz) (Nat.le_refl _) (Heap.get?_push_size _ rfl) (q2 hw) (tk := s.toks)
    exact ⟨.ref _, H', I', rfl, q'⟩
end
end L2.EV

set_option Elab.async false
set_option linter.all false
set_option maxRecDepth 100000
namespace L2.EV
open PySem PySem.Spec PyProof.Rows

/-- what may be read now -/
inductive RepW (K : PySem.W.Frag) (mg : Str → Option Value) (F : Addr → Prop) (H : Hp) : PV → V → Prop
  | rep {t : PV} {v : V} : Rep K mg F H t v → RepW K mg F H t v
  | own {t : PV} {a : Addr} : OwnR K mg F H a t → RepW K mg F H t (.ref a)
section
variable {K : PySem.W.Frag} {mg : Str → Option Value} {F : Addr → Prop} {H : Hp}
theorem RepW.int {i : Int} {v : V} (h : RepW K mg F H (.int i) v) : v = .int i := by
  cases h with
  | rep h => cases h; rfl
  | own h => exact h.elim
theorem RepW.bl {i : Bool} {v : V} (h : RepW K mg F H (.bl i) v) : v = .bl i := by
  cases h with
  | rep h => cases h; rfl
  | own h => exact h.elim
theorem RepW.str {i : Str} {v : V} (h : RepW K mg F H (.str i) v) : v = .str i := by
  cases h with
  | rep h => cases h; rfl
  | own h => exact h.elim
theorem RepW.non {v : V} (h : RepW K mg F H .non v) : v = .non := by
  cases h with
  | rep h => cases h; rfl
  | own h => exact h.elim
theorem RepW.ty {i : String} {v : V} (h : RepW K mg F H (.ty i) v) : v = .ty i := by
  cases h with
  | rep h => cases h; rfl
  | own h => exact h.elim
theorem RepW.tup {ts : List PV} {v : V} (h : RepW K mg F H (.tup ts) v) : ∃ a vs, v = .ref a ∧ TuL K H a vs ∧ RepL K mg F H ts vs := by
  cases h with
  | rep h => cases h with | tup h r => exact ⟨_, _, rfl, h, r⟩
  | own h => exact h.elim
theorem RepW.lst {ts : List PV} {v : V} (h : RepW K mg F H (.lst ts) v) : ∃ a vs, v = .ref a ∧ H a = some (.lst vs) ∧ RepL K mg F H ts vs := by
  cases h with
  | rep h => cases h with | lst f h r => exact ⟨_, _, rfl, h, r⟩
  | own h => obtain ⟨vs, e, r⟩ := h; exact ⟨_, _, rfl, e, r⟩
theorem RepW.scr {ts : List PV} {v : V} (h : RepW K mg F H (.scr ts) v) : ∃ a vs, v = .ref a ∧ ScL K H a vs ∧ RepL K mg F H ts vs := by
  cases h with
  | rep h => cases h with | scr h r => exact ⟨_, _, rfl, h, r⟩
  | own h => exact h.elim
theorem RepW.dct {ts : List (Key × PV)} {v : V} (h : RepW K mg F H (.dct ts) v) : ∃ a vs, v = .ref a ∧ H a = some (.dK vs) ∧ RepK K mg F H ts vs := by
  cases h with
  | rep h => cases h with | dct f h r => exact ⟨_, _, rfl, h, r⟩
  | own h => obtain ⟨vs, e, r⟩ := h; exact ⟨_, _, rfl, e, r⟩
/-- items of whatever is walked by places -/
def items : PV → Option (List PV)
  | .lst ts => some ts
  | .tup ts => some ts
  | .scr ts => some ts
  | _ => none
theorem RepW.seq {t : PV} {ts : List PV} {v : V} (h : RepW K mg F H t v) (e : items t = some ts) : ∃ a vs, v = .ref a ∧ (SqL K H a vs ∨ TuL K H a vs) ∧ RepL K mg F H ts vs := by
  cases t <;> simp only [items, Option.some.injEq, reduceCtorEq] at e
  · subst e
    obtain ⟨a, vs, e1, h1, r⟩ := h.tup
    exact ⟨a, vs, e1, .inr h1, r⟩
  · subst e
    obtain ⟨a, vs, e1, h1, r⟩ := h.lst
    exact ⟨a, vs, e1, .inl (.of h1), r⟩
  · subst e
    obtain ⟨a, vs, e1, h1, r⟩ := h.scr
    exact ⟨a, vs, e1, .inl h1.sq, r⟩
end

def rdW (C : Cp) (m : M PV) : TE := fun σ H Q => ∃ env F, Now C env σ F H ∧ End C σ F H (m env) fun t F' H' => ∀ v, RepW C.K C.mg F' H' t v → Q v H'
abbrev RW (X : Cx) (C : Cp) (e : Expr) (m : M PV) : Prop := PE X e (rdW C m)
theorem _root_.L2.PE.w {X : Cx} {C : Cp} {e : Expr} {m : M PV} (h : RE X C e m) : RW X C e m := h.imp fun _ _ _ ⟨env, F, n, q⟩ => ⟨env, F, n, q.imp fun _ _ _ _ _ _ _ h v r => h v (.rep r)⟩

/-! ### the heap grows -/
def Grow (C : Cp) (σ : St) (F : Addr → Prop) (H : Hp) (F' : Addr → Prop) (H' : Hp) : Prop := ∀ env, Now C env σ F H → Now C env σ F' H' ∧ Ext C σ F H F' H'
section
variable {C : Cp} {σ : St} {F F' F1 : Addr → Prop} {H H' H1 : Hp}
theorem Grow.refl : Grow C σ F H F H := fun _ n => ⟨n, Ext.refl⟩
theorem Grow.trans (x : Grow C σ F H F1 H1) (y : Grow C σ F1 H1 F' H') : Grow C σ F H F' H' := fun env n =>
  let ⟨n1, x1⟩ := x env n
  let ⟨n2, x2⟩ := y env n1
  ⟨n2, x1.trans x2⟩
theorem Grow.new {p : Addr} {o : HO} (hp : H p = none) : Grow C σ F H F (upd H p o) := fun _ n => let ⟨x, m⟩ := n.laid hp; ⟨m, x⟩
theorem Grow.newF {p : Addr} {o : HO} (hp : H p = none) : Grow C σ F H (fun a => F a ∨ a = p) (upd H p o) := fun _ n => let ⟨x, m⟩ := n.laidF hp; ⟨m, x⟩
theorem new_keep {p : Addr} {o : HO} (hp : H p = none) : Keep F H F (upd H p o) := ⟨fun _ h => h, fun a q h _ => by rw [upd_ne (ne_of_none h hp)]; exact h⟩
theorem new_keepF {p : Addr} {o : HO} (hp : H p = none) : Keep F H (fun a => F a ∨ a = p) (upd H p o) := ⟨fun _ h => .inl h, fun a q h _ => by rw [upd_ne (ne_of_none h hp)]; exact h⟩
theorem rep_newT {mg : Str → Option Value} {K : PySem.W.Frag} {ts : List PV} {vs : List V} {p : Addr} {o : Obj} (hp : H p = none) (hd : o.dict = none) (r : RepL K mg F H ts vs) : Rep K mg F (upd H p (.frz o (.tup vs))) (.tup ts) (.ref p) :=
  .tup (.inl ⟨o, upd_same, hd⟩) (r.mono (new_keep hp))
theorem rep_newL {mg : Str → Option Value} {K : PySem.W.Frag} {ts : List PV} {vs : List V} {p : Addr} (hp : H p = none) (r : RepL K mg F H ts vs) : Rep K mg (fun a => F a ∨ a = p) (upd H p (.lst vs)) (.lst ts) (.ref p) :=
  .lst (.inr rfl) upd_same (r.mono (new_keepF hp))
theorem own_newL {mg : Str → Option Value} {K : PySem.W.Frag} {ts : List PV} {vs : List V} {p : Addr} (hp : H p = none) (r : RepL K mg F H ts vs) : OwnR K mg F (upd H p (.lst vs)) p (.lst ts) :=
  ⟨_, upd_same, r.mono (new_keep hp)⟩
theorem own_newD {mg : Str → Option Value} {K : PySem.W.Frag} {ts : List (Key × PV)} {vs : List (Key × V)} {p : Addr} (hp : H p = none) (r : RepK K mg F H ts vs) : OwnR K mg F (upd H p (.dK vs)) p (.dct ts) :=
  ⟨_, upd_same, r.mono (new_keep hp)⟩
end

/-! ### operators by values -/
def OpE (C : Cp) (g : PV → PV → Option PV) (r : R2) : Prop := ∀ (σ : St) (env : Sl) (F : Addr → Prop) (H : Hp) (t u t' : PV) (v w : V) (Q : VK), Now C env σ F H → g t u = some t' → RepW C.K C.mg F H t v → RepW C.K C.mg F H u w →
  (∀ F' H' v', Grow C σ F H F' H' → Rep C.K C.mg F' H' t' v' → Q v' H') → r v w H Q
/-- .. that make a new object -/
def OpN (C : Cp) (g : PV → PV → Option PV) (r : R2) : Prop := ∀ (σ : St) (env : Sl) (F : Addr → Prop) (H : Hp) (t u t' : PV) (v w : V) (Q : VK), Now C env σ F H → g t u = some t' → RepW C.K C.mg F H t v → RepW C.K C.mg F H u w →
  (∀ F' H' a, Grow C σ F H F' H' → OwnR C.K C.mg F' H' a t' → ¬ F' a → H a = none → Q (.ref a) H') → r v w H Q
def bin (g : PV → PV → Option PV) (ma mb : M PV) : M PV := mbind ma fun x => mbind mb fun y => mlift (g x y)
/-- the left one is read where the operation is done -/
def binO (g : PV → PV → Option PV) (i : Nat) (mb : M PV) : M PV := mbind (slot i) fun _ => mbind mb fun y => mbind (slot i) fun x => mlift (g x y)
def asB : PV → M Bool
  | .bl b => mret b
  | _ => mstuck
section
variable {C : Cp} {g : PV → PV → Option PV} {r : R2} {ma mb : M PV} {σ : St} {H : Hp} {Q : VK} {i : Nat}
theorem End.keep {α : Type} {env env' : Sl} {F F' : Addr → Prop} {H H' : Hp} (n : Now C env σ F H) (x : Ext C σ F H F' H') {t : PV} {v : V} (r : Rep C.K C.mg F H t v) : Rep C.K C.mg F' H' t v := r.mono (n.keep x)
/-- a slot's object, read -/
theorem slot_own {env : Sl} {F : Addr → Prop} (hi : i ∈ C.O) (n : Now C env σ F H) {t : PV} (e : env[i]? = some (some t)) : ∃ a, σ[i]? = some (some (.ref a)) ∧ ¬ F a ∧ OwnR C.K C.mg F H a t := by
  obtain ⟨a, h1, h2, h3, _⟩ := n.own i t hi e
  exact ⟨a, h1, h2, h3⟩
theorem End.slot {α : Type} {env : Sl} {F : Addr → Prop} {P : PV → (Addr → Prop) → Hp → Prop} (n : Now C env σ F H) (q : End C σ F H (slot i env) P) : ∃ t, env[i]? = some (some t) ∧ P t F H := by
  unfold EV.slot at q
  cases e : env[i]? with
  | none => rw [e] at q; exact q.elim
  | some o =>
    cases o with
    | none => rw [e] at q; exact q.elim
    | some t => rw [e] at q; exact ⟨t, rfl, q F H n Ext.refl⟩
theorem rw_own (hi : i ∈ C.O) {X : Cx} {x : Str} {pos : Pos} (h : PE X (.Name x pos) (tVar i)) : RW X C (.Name x pos) (slot i) := h.imp fun σ H Q ⟨env, F, n, q⟩ => by
  obtain ⟨t, e, q⟩ := q.slot (α := PV) n
  obtain ⟨a, h1, _, h3⟩ := slot_own hi n e
  exact ⟨_, h1, q _ (.own h3)⟩
theorem bin_rd (oe : OpE C g r) (h : rd C (bin g ma mb) σ H Q) : tOp r (rd C ma) (rdW C mb) σ H Q := by
  obtain ⟨env, F, n, q⟩ := h
  refine ⟨env, F, n, q.seq.imp fun t env1 F1 H1 _ _ _ ⟨env1', n1, q1⟩ v rv => ?_⟩
  refine ⟨env1', F1, n1, q1.seq.imp fun u env2 F2 H2 _ _ x2 ⟨env2', n2, q2⟩ w rw' => ?_⟩
  obtain ⟨t', e, q3⟩ := q2.lift n2
  refine oe σ env2' F2 H2 t u t' v w Q n2 e (.rep (rv.mono (n1.keep x2))) rw' fun F' H' v' gr r' => ?_
  obtain ⟨n', x'⟩ := gr env2' n2
  exact q3 F' H' n' x' v' r'
theorem binO_rd (hi : i ∈ C.O) (oe : OpE C g r) (h : rd C (binO g i mb) σ H Q) : tOp r (tVar i) (rdW C mb) σ H Q := by
  obtain ⟨env, F, n, q⟩ := h
  obtain ⟨t0, e0, env0', n0, q⟩ := q.seq.slot (α := PV) n
  obtain ⟨a, h1, _, _⟩ := slot_own hi n e0
  refine ⟨_, h1, env0', F, n0, q.seq.imp fun u env2 F2 H2 _ _ x2 ⟨env2', n2, q2⟩ w rw' => ?_⟩
  obtain ⟨t, e, env3, n3, q3⟩ := q2.seq.slot (α := PV) n2
  obtain ⟨a', h1', _, h3'⟩ := slot_own hi n2 e
  rw [h1] at h1'
  cases h1'
  obtain ⟨t', e', q4⟩ := q3.lift n3
  refine oe σ env3 F2 H2 t u t' (.ref a) w Q n3 e' (.own h3') rw' fun F' H' v' gr r' => ?_
  obtain ⟨n', x'⟩ := gr env3 n3
  exact q4 F' H' n' x' v' r'
/-- .. the new object -/
theorem bin_rdF (oe : OpN C g r) (h : rdF C (bin g ma mb) σ H Q) : tOp r (rd C ma) (rdW C mb) σ H Q := by
  obtain ⟨env, F, n, q⟩ := h
  refine ⟨env, F, n, q.seq.imp fun t env1 F1 H1 _ _ x1 ⟨env1', n1, q1⟩ v rv => ?_⟩
  refine ⟨env1', F1, n1, q1.seq.imp fun u env2 F2 H2 _ _ x2 ⟨env2', n2, q2⟩ w rw' => ?_⟩
  obtain ⟨t', e, q3⟩ := q2.lift n2
  refine oe σ env2' F2 H2 t u t' v w Q n2 e (.rep (rv.mono (n1.keep x2))) rw' fun F' H' a gr r' nf ha => ?_
  obtain ⟨n', x'⟩ := gr env2' n2
  refine q3 F' H' n' x' a r' nf ?_
  cases z : H a with
  | none => rfl
  | some o => exact absurd ha (x2.dom a (x1.dom a (by rw [z]; simp)))
/-- a value that is a bool -/
theorem rt_asB {m : M PV} {Q : Bool → Hp → Prop} (h : rt C (mbind m asB) σ H Q) : rd C m σ H fun x H' => ∃ k, x = .bl k ∧ Q k H' := by
  obtain ⟨env, F, n, q⟩ := h
  refine ⟨env, F, n, q.seq.imp fun t env1 F1 H1 _ _ _ ⟨env1', n1, q1⟩ v rv => ?_⟩
  cases t <;> try exact q1.elim
  cases rv
  exact ⟨_, rfl, q1.ret n1⟩
end

section
variable {X : Cx} {C : Cp} {k i : Nat} {g : PV → PV → Option PV} {r : R2} {a b : Expr} {ma mb : M PV} {pos p : Pos} {x : Str}
theorem re_bin {op : Operator} (ho : OpR X (binaryOp op) r) (oe : OpE C g r) (ha : RE X C a ma) (hb : RW X C b mb) : RE X C (.BinOp a op b pos) (bin g ma mb) := (pe_op ho ha hb).imp fun _ _ _ h => bin_rd oe h
theorem rf_bin {op : Operator} (ho : OpR X (binaryOp op) r) (oe : OpN C g r) (ha : RE X C a ma) (hb : RW X C b mb) : RF X C (.BinOp a op b pos) (bin g ma mb) := (pe_op ho ha hb).imp fun _ _ _ h => bin_rdF oe h
theorem re_binO {op : Operator} (hi : i ∈ C.O) (ho : OpR X (binaryOp op) r) (oe : OpE C g r) (ha : PE X a (tVar i)) (hb : RW X C b mb) : RE X C (.BinOp a op b pos) (binO g i mb) := (pe_op ho ha hb).imp fun _ _ _ h => binO_rd hi oe h
theorem re_cmp {op : CmpOp} (ho : OpR X (compareOp op) r) (oe : OpE C g r) (ha : RE X C a ma) (hb : RW X C b mb) (hm : behindInMarks op b = false) : RE X C (.Compare a [op] [b] pos) (bin g ma mb) := (pe_cmpR ho ha hb hm).imp fun _ _ _ h => bin_rd oe h
theorem re_cmpO {op : CmpOp} (hi : i ∈ C.O) (ho : OpR X (compareOp op) r) (oe : OpE C g r) (ha : PE X a (tVar i)) (hb : RW X C b mb) (hm : behindInMarks op b = false) : RE X C (.Compare a [op] [b] pos) (binO g i mb) := (pe_cmpR ho ha hb hm).imp fun _ _ _ h => binO_rd hi oe h
theorem rt_cmp {op : CmpOp} (ho : OpR X (compareOp op) r) (oe : OpE C g r) (ha : RE X C a ma) (hb : RW X C b mb) (hm : behindInMarks op b = false) : RT X C (.Compare a [op] [b] pos) (mbind (bin g ma mb) asB) := (pt_cmpR ho ha hb hm).imp fun _ _ _ h => bin_rd oe (rt_asB h)
theorem rt_cmpO {op : CmpOp} (hi : i ∈ C.O) (ho : OpR X (compareOp op) r) (oe : OpE C g r) (ha : PE X a (tVar i)) (hb : RW X C b mb) (hm : behindInMarks op b = false) : RT X C (.Compare a [op] [b] pos) (mbind (binO g i mb) asB) := (pt_cmpR ho ha hb hm).imp fun _ _ _ h => binO_rd hi oe (rt_asB h)
/-- an expression whose value is a bool, as a test -/
theorem rt_val (h : RE X C a ma) (he : ∀ whole, isTrue a X.env whole = (do let v ← whole; standAt a.pos; holding [v] (truthy v)) := by intro _; rfl) : RT X C a (mbind ma asB) := (pt_val h he).imp fun _ _ _ h => rt_asB h

/-! ### and, or, not, if -/
variable {ta tb : M Bool} {rest : List Expr}
def andT (ta tb : M Bool) : M Bool := mbind ta fun c => if c = true then tb else mret false
def orT (ta tb : M Bool) : M Bool := mbind ta fun c => if c = true then mret true else tb
def notT (ta : M Bool) : M Bool := mbind ta fun c => mret (!c)
def iteM {α : Type} (t : M Bool) (a b : M α) : M α := mbind t fun c => if c = true then a else b
abbrev RTW (X : Cx) (C : Cp) (e : Expr) (m : M Bool) : Prop := PW X e (rt C m)
theorem rw_and1 (ha : RT X C a ta) : RTW X C (.BoolOp .And [a] pos) ta := pw_and1 ha
theorem rw_or1 (ha : RT X C a ta) : RTW X C (.BoolOp .Or [a] pos) ta := pw_or1 ha
theorem rw_and (ha : RT X C a ta) (hb : RTW X C (.BoolOp .And (b :: rest) pos) tb) : RTW X C (.BoolOp .And (a :: b :: rest) pos) (andT ta tb) := (pw_and ha hb).imp fun σ H Q ⟨env, F, n, q⟩ => by
  refine ⟨env, F, n, q.seq.imp fun c env1 F1 H1 _ _ _ ⟨env1', n1, q1⟩ => ?_⟩
  cases c with
  | true => exact ⟨env1', F1, n1, q1⟩
  | false => exact q1.ret n1
theorem rw_or (ha : RT X C a ta) (hb : RTW X C (.BoolOp .Or (b :: rest) pos) tb) : RTW X C (.BoolOp .Or (a :: b :: rest) pos) (orT ta tb) := (pw_or ha hb).imp fun σ H Q ⟨env, F, n, q⟩ => by
  refine ⟨env, F, n, q.seq.imp fun c env1 F1 H1 _ _ _ ⟨env1', n1, q1⟩ => ?_⟩
  cases c with
  | true => exact q1.ret n1
  | false => exact ⟨env1', F1, n1, q1⟩
theorem RTW.t {e : Expr} {m : M Bool} (h : RTW X C e m) : RT X C e m := h.pt
theorem rt_not (ha : RT X C a ta) : RT X C (.UnaryOp .Not a pos) (notT ta) := (pt_not ha).imp fun σ H Q ⟨env, F, n, q⟩ => ⟨env, F, n, q.seq.imp fun c env1 F1 H1 _ _ _ ⟨env1', n1, q1⟩ => q1.ret n1⟩
/-- as values -/
def andV (ma mb : M PV) : M PV := mbind (mbind ma asB) fun c => if c = true then mb else mret (.bl false)
def orV (ma mb : M PV) : M PV := mbind (mbind ma asB) fun c => if c = true then mret (.bl true) else mb
def notV (ma : M PV) : M PV := mbind (mbind ma asB) fun c => mret (.bl !c)
theorem re_one {op : BoolOp} (ha : RE X C a ma) : RE X C (.BoolOp op [a] pos) ma := pe_one ha
theorem re_and (ha : RE X C a ma) (hb : RE X C (.BoolOp .And (b :: rest) pos) mb) : RE X C (.BoolOp .And (a :: b :: rest) pos) (andV ma mb) := (pe_and ha hb).imp fun σ H Q ⟨env, F, n, q⟩ => by
  have q' : rt C (mbind ma asB) σ H fun c H1 => if c = true then rd C mb σ H1 Q else Q (.bl false) H1 := ⟨env, F, n, q.seq.imp fun c env1 F1 H1 _ _ _ ⟨env1', n1, q1⟩ => by
    cases c with
    | true => exact ⟨env1', F1, n1, q1⟩
    | false => exact q1.ret n1 _ (.bl false)⟩
  exact rt_asB q'
theorem re_or (ha : RE X C a ma) (hb : RE X C (.BoolOp .Or (b :: rest) pos) mb) : RE X C (.BoolOp .Or (a :: b :: rest) pos) (orV ma mb) := (pe_or ha hb).imp fun σ H Q ⟨env, F, n, q⟩ => by
  have q' : rt C (mbind ma asB) σ H fun c H1 => if c = true then Q (.bl true) H1 else rd C mb σ H1 Q := ⟨env, F, n, q.seq.imp fun c env1 F1 H1 _ _ _ ⟨env1', n1, q1⟩ => by
    cases c with
    | true => exact q1.ret n1 _ (.bl true)
    | false => exact ⟨env1', F1, n1, q1⟩⟩
  exact rt_asB q'
theorem re_not (ha : RE X C a ma) : RE X C (.UnaryOp .Not a pos) (notV ma) := (pe_not ha).imp fun σ H Q ⟨env, F, n, q⟩ => by
  have q' : rt C (mbind ma asB) σ H fun c H1 => Q (.bl !c) H1 := ⟨env, F, n, q.seq.imp fun c env1 F1 H1 _ _ _ ⟨env1', n1, q1⟩ => q1.ret n1 _ (.bl _)⟩
  exact rt_asB q'
theorem re_if {c : Expr} (hc : RT X C c ta) (ha : RE X C a ma) (hb : RE X C b mb) : RE X C (.IfExp c a b pos) (iteM ta ma mb) := (pe_ifExp hc ha hb).imp fun σ H Q ⟨env, F, n, q⟩ => by
  refine ⟨env, F, n, q.seq.imp fun c env1 F1 H1 _ _ _ ⟨env1', n1, q1⟩ => ?_⟩
  cases c with
  | true => exact ⟨env1', F1, n1, q1⟩
  | false => exact ⟨env1', F1, n1, q1⟩
/-- a < b < c -/
def chain (g g' : PV → PV → Option PV) (ma mb mc : M PV) : M PV := mbind ma fun x => mbind mb fun y => mbind (mbind (mlift (g x y)) asB) fun c => if c = true then mbind mc fun z => mlift (g' y z) else mret (.bl false)

/-! ### one operand -/
def UnE (C : Cp) (g : PV → Option PV) (r : V → Hp → VK → Prop) : Prop := ∀ (σ : St) (env : Sl) (F : Addr → Prop) (H : Hp) (t t' : PV) (v : V) (Q : VK), Now C env σ F H → g t = some t' → RepW C.K C.mg F H t v →
  (∀ F' H' v', Grow C σ F H F' H' → Rep C.K C.mg F' H' t' v' → Q v' H') → r v H Q
def UnN (C : Cp) (g : PV → Option PV) (r : V → Hp → VK → Prop) : Prop := ∀ (σ : St) (env : Sl) (F : Addr → Prop) (H : Hp) (t t' : PV) (v : V) (Q : VK), Now C env σ F H → g t = some t' → RepW C.K C.mg F H t v →
  (∀ F' H' a, Grow C σ F H F' H' → OwnR C.K C.mg F' H' a t' → ¬ F' a → H a = none → Q (.ref a) H') → r v H Q
def un (g : PV → Option PV) (ma : M PV) : M PV := mbind ma fun x => mlift (g x)
theorem un_rd {g : PV → Option PV} {r : V → Hp → VK → Prop} {σ : St} {H : Hp} {Q : VK} (oe : UnE C g r) (h : rd C (un g ma) σ H Q) : tUn r (rdW C ma) σ H Q := by
  obtain ⟨env, F, n, q⟩ := h
  refine ⟨env, F, n, q.seq.imp fun t env1 F1 H1 _ _ _ ⟨env1', n1, q1⟩ v rv => ?_⟩
  obtain ⟨t', e, q2⟩ := q1.lift n1
  refine oe σ env1' F1 H1 t t' v Q n1 e rv fun F' H' v' gr r' => ?_
  obtain ⟨n', x'⟩ := gr env1' n1
  exact q2 F' H' n' x' v' r'
theorem un_rdF {g : PV → Option PV} {r : V → Hp → VK → Prop} {σ : St} {H : Hp} {Q : VK} (oe : UnN C g r) (h : rdF C (un g ma) σ H Q) : tUn r (rdW C ma) σ H Q := by
  obtain ⟨env, F, n, q⟩ := h
  refine ⟨env, F, n, q.seq.imp fun t env1 F1 H1 _ _ x1 ⟨env1', n1, q1⟩ v rv => ?_⟩
  obtain ⟨t', e, q2⟩ := q1.lift n1
  refine oe σ env1' F1 H1 t t' v Q n1 e rv fun F' H' a gr r' nf ha => ?_
  obtain ⟨n', x'⟩ := gr env1' n1
  refine q2 F' H' n' x' a r' nf ?_
  cases z : H a with
  | none => rfl
  | some o => exact absurd ha (x1.dom a (by rw [z]; simp))
theorem re_un {op : UnaryOp} {g : PV → Option PV} {r : V → Hp → VK → Prop} (ho : UnR X (unaryOp op) r) (oe : UnE C g r) (ha : RW X C a ma) : RE X C (.UnaryOp op a pos) (un g ma) := (pe_un ho ha).imp fun _ _ _ h => un_rd oe h

/-! ### built-ins called -/
/-- f(e) -/
theorem re_call1 (rc : RC X C k) {id : String} {g : PV → Option PV} {r : List V → Hp → VK → Prop} (hc : CallR X (.builtin id) r) (oe : UnE C g fun v H Q => r [v] H Q) (hg : Gl X x) (hm : C.mg x = none) (hv : bootBuiltins x = some (.builtin id)) (ha : RW X C a ma)
    (hn : x ≠ "__name__" := by decide) (hdb : (x == ("__debug__" : Str)) = false := by decide) (he : starEach [a] X.env = [(false, eval a X.env)] := by rfl) : RE X C (.Call (.Name x p) [a] [] pos) (un g ma) :=
  (pe_callB hc hg (by rw [rc.hmg]; exact hm) hv (pa_cons ha pa_nil (by rw [he]; rfl)) hn hdb (by rw [he]; rfl) rfl).imp fun _ _ _ h => un_rd oe h
theorem re_callT1 (rc : RC X C k) {T : String} {g : PV → Option PV} {r : List V → Hp → VK → Prop} (hc : CallR X (.type T) r) (oe : UnE C g fun v H Q => r [v] H Q) (hg : Gl X x) (hm : C.mg x = none) (hv : bootBuiltins x = some (.type T)) (ha : RW X C a ma)
    (hn : x ≠ "__name__" := by decide) (hdb : (x == ("__debug__" : Str)) = false := by decide) (he : starEach [a] X.env = [(false, eval a X.env)] := by rfl) : RE X C (.Call (.Name x p) [a] [] pos) (un g ma) :=
  (pe_callTy hc hg (by rw [rc.hmg]; exact hm) hv (pa_cons ha pa_nil (by rw [he]; rfl)) hn hdb (by rw [he]; rfl) rfl).imp fun _ _ _ h => un_rd oe h
theorem rf_call1 (rc : RC X C k) {id : String} {g : PV → Option PV} {r : List V → Hp → VK → Prop} (hc : CallR X (.builtin id) r) (oe : UnN C g fun v H Q => r [v] H Q) (hg : Gl X x) (hm : C.mg x = none) (hv : bootBuiltins x = some (.builtin id)) (ha : RW X C a ma)
    (hn : x ≠ "__name__" := by decide) (hdb : (x == ("__debug__" : Str)) = false := by decide) (he : starEach [a] X.env = [(false, eval a X.env)] := by rfl) : RF X C (.Call (.Name x p) [a] [] pos) (un g ma) :=
  (pe_callB hc hg (by rw [rc.hmg]; exact hm) hv (pa_cons ha pa_nil (by rw [he]; rfl)) hn hdb (by rw [he]; rfl) rfl).imp fun _ _ _ h => un_rdF oe h
theorem rf_callT1 (rc : RC X C k) {T : String} {g : PV → Option PV} {r : List V → Hp → VK → Prop} (hc : CallR X (.type T) r) (oe : UnN C g fun v H Q => r [v] H Q) (hg : Gl X x) (hm : C.mg x = none) (hv : bootBuiltins x = some (.type T)) (ha : RW X C a ma)
    (hn : x ≠ "__name__" := by decide) (hdb : (x == ("__debug__" : Str)) = false := by decide) (he : starEach [a] X.env = [(false, eval a X.env)] := by rfl) : RF X C (.Call (.Name x p) [a] [] pos) (un g ma) :=
  (pe_callTy hc hg (by rw [rc.hmg]; exact hm) hv (pa_cons ha pa_nil (by rw [he]; rfl)) hn hdb (by rw [he]; rfl) rfl).imp fun _ _ _ h => un_rdF oe h
/-- f(e, e') -/
theorem re_call2 (rc : RC X C k) {id : String} {r : List V → Hp → VK → Prop} (hc : CallR X (.builtin id) r) (oe : OpE C g fun v w H Q => r [v, w] H Q) (hg : Gl X x) (hm : C.mg x = none) (hv : bootBuiltins x = some (.builtin id)) (ha : RE X C a ma) (hb : RW X C b mb)
    (hn : x ≠ "__name__" := by decide) (hdb : (x == ("__debug__" : Str)) = false := by decide) (he : starEach [a, b] X.env = [(false, eval a X.env), (false, eval b X.env)] := by rfl) (he2 : starEach [b] X.env = [(false, eval b X.env)] := by rfl) : RE X C (.Call (.Name x p) [a, b] [] pos) (bin g ma mb) :=
  (pe_callB hc hg (by rw [rc.hmg]; exact hm) hv (pa_cons ha (pa_cons hb pa_nil (by rw [he2]; rfl)) (by rw [he, he2])) hn hdb (by rw [he, he2]) (by rw [he2]; rfl)).imp fun _ _ _ h => bin_rd oe h

/-! ### o[i] -/
theorem re_ix (hr : IxR X r) (oe : OpE C g r) (ha : RE X C a ma) (hb : RW X C b mb) (hs : PlainIx b := by exact fun _ _ => rfl) : RE X C (.Subscript a b pos) (bin g ma mb) := (pe_ix hr ha hb hs).imp fun _ _ _ h => bin_rd oe h
theorem re_ixO (hi : i ∈ C.O) (hr : IxR X r) (oe : OpE C g r) (ha : PE X a (tVar i)) (hb : RW X C b mb) (hs : PlainIx b := by exact fun _ _ => rfl) : RE X C (.Subscript a b pos) (binO g i mb) := (pe_ix hr ha hb hs).imp fun _ _ _ h => binO_rd hi oe h

/-! ### displays -/
/-- items, each shared -/
inductive ArgS (K : PySem.W.Frag) (mg : Str → Option Value) : Type
def mcons (m : M PV) (ms : M (List PV)) : M (List PV) := mbind m fun x => mbind ms fun xs => mret (x :: xs)
def rl (C : Cp) (m : M (List PV)) : TA := fun σ H Q => ∃ env F, Now C env σ F H ∧ End C σ F H (m env) fun ts F' H' => ∀ vs, RepL C.K C.mg F' H' ts vs → Q vs H'
abbrev RL (X : Cx) (C : Cp) (es : List Expr) (m : M (List PV)) : Prop := PA X es (rl C m)
theorem rl_nil : RL X C [] (mret []) := pa_nil.imp fun _ _ _ ⟨_, _, n, q⟩ => q.ret n _ .nil
theorem rl_cons {es : List Expr} {ms : M (List PV)} (ha : RE X C a ma) (hr : RL X C es ms) (hs : starEach (a :: es) X.env = (false, eval a X.env) :: starEach es X.env := by rfl) : RL X C (a :: es) (mcons ma ms) := (pa_cons ha hr hs).imp fun σ H Q ⟨env, F, n, q⟩ => by
  refine ⟨env, F, n, q.seq.imp fun t env1 F1 H1 _ _ _ ⟨env1', n1, q1⟩ v rv => ?_⟩
  refine ⟨env1', F1, n1, q1.seq.imp fun ts env2 F2 H2 _ _ x2 ⟨env2', n2, q2⟩ vs rvs => ?_⟩
  exact q2.ret n2 _ (.cons (rv.mono (n1.keep x2)) rvs)
/-- at most so many items -/
def tupM (ts : List PV) : M PV := if ts.length ≤ sizeLine then mret (.tup ts) else mstuck
def lstM (ts : List PV) : M PV := if ts.length ≤ sizeLine then mret (.lst ts) else mstuck
theorem re_tup {es : List Expr} {ms : M (List PV)} {c : Nat} (h : RL X C es ms) : RE X C (.Tuple es c pos) (mbind ms tupM) := (pe_tupF h).imp fun σ H Q ⟨env, F, n, q⟩ => by
  refine ⟨env, F, n, q.seq.imp fun ts env1 F1 H1 _ _ _ ⟨env1', n1, q1⟩ vs rv => ?_⟩
  unfold tupM at q1
  split at q1
  · rename_i hz
    refine ⟨by rw [← rv.length]; exact hz, fun p o hp hd => ?_⟩
    obtain ⟨x, m⟩ := n1.laid (o := .frz o (.tup vs)) hp
    exact q1 _ _ m x _ (rep_newT hp hd rv)
  · exact q1.elim
theorem rf_lst {es : List Expr} {ms : M (List PV)} (h : RL X C es ms) : RF X C (.List es pos) (mbind ms lstM) := (pe_lst h).imp fun σ H Q ⟨env, F, n, q⟩ => by
  refine ⟨env, F, n, q.seq.imp fun ts env1 F1 H1 _ _ x1 ⟨env1', n1, q1⟩ vs rv => ?_⟩
  unfold lstM at q1
  split at q1
  · rename_i hz
    refine ⟨by rw [← rv.length]; exact hz, fun p hp => ?_⟩
    obtain ⟨x, m⟩ := n1.laid (o := .lst vs) hp
    refine q1 _ _ m x p (own_newL hp rv) (fun f => n1.bok.fd p f hp) ?_
    cases z : H p with
    | none => rfl
    | some o => exact absurd hp (x1.dom p (by rw [z]; simp))
  · exact q1.elim
end
end L2.EV

set_option Elab.async false
set_option linter.all false
set_option maxRecDepth 100000
namespace L2.EV
open PySem PySem.Spec PyProof.Rows

/-! ### + - * // % ** -/
def pyAdd : PV → PV → Option PV
  | .int i, .int j => some (.int (i + j))
  | .str x, .str y => if x.length + y.length ≤ sizeLine then some (.str (x ++ y)) else none
  | .tup xs, .tup ys => if xs.length + ys.length ≤ sizeLine then some (.tup (xs ++ ys)) else none
  | _, _ => none
/-- lists -/
def pyCat : PV → PV → Option PV
  | .lst xs, .lst ys => if xs.length + ys.length ≤ sizeLine then some (.lst (xs ++ ys)) else none
  | _, _ => none
def pyAddA (t u : PV) : Option PV := match pyAdd t u with
  | some r => some r
  | none => pyCat t u
def rAddV (K : PySem.W.Frag) : R2 := fun x y H Q => (∃ i j, x = .int i ∧ y = .int j ∧ Q (.int (i + j)) H) ∨ ((∃ i j, x = .str i ∧ y = .str j ∧ i.length + j.length ≤ sizeLine ∧ Q (.str (i ++ j)) H) ∨ rCatF K x y H Q)
theorem opr_add {X : Cx} : OpR X (binaryOp .Add) (rAddV X.K) := op_add.or (op_add_str.or op_catF)
theorem ope_add {C : Cp} : OpE C pyAdd (rAddV C.K) := by
  intro σ env F H t u t' v w Q n e r1 r2 q
  unfold pyAdd at e
  split at e
  · cases e
    rw [r1.int, r2.int]
    exact .inl ⟨_, _, rfl, rfl, q F H _ Grow.refl (.int _)⟩
  · split at e
    · rename_i hz
      cases e
      rw [r1.str, r2.str]
      exact .inr (.inl ⟨_, _, rfl, rfl, hz, q F H _ Grow.refl (.str _)⟩)
    · cases e
  · rename_i xs ys
    split at e
    · rename_i hz
      cases e
      obtain ⟨a, vs, rfl, h1, q1⟩ := r1.tup
      obtain ⟨b, ws, rfl, h2, q2⟩ := r2.tup
      refine .inr (.inr ⟨a, b, vs, ws, rfl, rfl, h1.sq, h2.sq, by rw [← q1.length, ← q2.length]; exact hz, fun z => ?_, fun _ z => ?_, fun _ _ p o hp hd => ?_⟩)
      · subst z
        have : xs = [] := List.eq_nil_of_length_eq_zero (by rw [q1.length]; rfl)
        subst this
        exact q F H _ Grow.refl (.tup h2 q2)
      · subst z
        have : ys = [] := List.eq_nil_of_length_eq_zero (by rw [q2.length]; rfl)
        subst this
        rw [List.append_nil] at q
        exact q F H _ Grow.refl (.tup h1 q1)
      · exact q _ _ _ (Grow.new hp) (rep_newT hp hd (q1.append q2))
    · cases e
  · cases e
theorem opn_cat {C : Cp} : OpN C pyCat rCat := by
  intro σ env F H t u t' v w Q n e r1 r2 q
  unfold pyCat at e
  split at e
  · rename_i xs ys
    split at e
    · rename_i hz
      cases e
      obtain ⟨a, vs, rfl, h1, q1⟩ := r1.lst
      obtain ⟨b, ws, rfl, h2, q2⟩ := r2.lst
      refine ⟨a, b, vs, ws, rfl, rfl, h1, h2, by rw [← q1.length, ← q2.length]; exact hz, fun p hp => ?_⟩
      exact q _ _ p (Grow.new hp) (own_newL hp (q1.append q2)) (fun f => n.bok.fd p f hp) hp
    · cases e
  · cases e
/-- a fresh result, shared -/
theorem OpN.e {C : Cp} {g : PV → PV → Option PV} {r : R2} (h : OpN C g r) : OpE C g r := by
  intro σ env F H t u t' v w Q n e r1 r2 q
  refine h σ env F H t u t' v w Q n e r1 r2 fun F' H' a gr ow nf ha => ?_
  refine q (fun b => F' b ∨ b = a) H' (.ref a) (fun env2 n2 => ?_) ((ow.mono (F' := fun b => F' b ∨ b = a) ⟨fun _ h => .inl h, fun _ _ h _ => h⟩ rfl).rep (.inr rfl))
  obtain ⟨n3, x3⟩ := gr env2 n2
  obtain ⟨h0, no⟩ := fresh_no n2 ha
  refine ⟨n3.froz (p := a) ow.there h0 no, ⟨fun b f => .inl (x3.fm b f), x3.kp, x3.dom, fun b hb f => ?_⟩⟩
  rcases f with f | f
  · exact x3.nof b hb f
  · rw [f] at hb; exact absurd ha hb
theorem UnN.e {C : Cp} {g : PV → Option PV} {r : V → Hp → VK → Prop} (h : UnN C g r) : UnE C g r := by
  intro σ env F H t t' v Q n e r1 q
  refine h σ env F H t t' v Q n e r1 fun F' H' a gr ow nf ha => ?_
  refine q (fun b => F' b ∨ b = a) H' (.ref a) (fun env2 n2 => ?_) ((ow.mono (F' := fun b => F' b ∨ b = a) ⟨fun _ h => .inl h, fun _ _ h _ => h⟩ rfl).rep (.inr rfl))
  obtain ⟨n3, x3⟩ := gr env2 n2
  obtain ⟨h0, no⟩ := fresh_no n2 ha
  refine ⟨n3.froz (p := a) ow.there h0 no, ⟨fun b f => .inl (x3.fm b f), x3.kp, x3.dom, fun b hb f => ?_⟩⟩
  rcases f with f | f
  · exact x3.nof b hb f
  · rw [f] at hb; exact absurd ha hb
def rAddA (K : PySem.W.Frag) : R2 := fun x y H Q => rAddV K x y H Q ∨ rCat x y H Q
theorem opr_addA {X : Cx} : OpR X (binaryOp .Add) (rAddA X.K) := opr_add.or op_cat
theorem ope_addA {C : Cp} : OpE C pyAddA (rAddA C.K) := by
  intro σ env F H t u t' v w Q n e r1 r2 q
  unfold pyAddA at e
  cases e1 : pyAdd t u with
  | some r =>
    rw [e1] at e
    cases e
    exact .inl (ope_add σ env F H t u _ v w Q n e1 r1 r2 q)
  | none =>
    rw [e1] at e
    exact .inr (opn_cat.e σ env F H t u _ v w Q n e r1 r2 q)
/-- ints -/
def onInts (ok : Int → Int → Bool) (f : Int → Int → Int) : PV → PV → Option PV
  | .int i, .int j => if ok i j = true then some (.int (f i j)) else none
  | _, _ => none
theorem ope_ints {C : Cp} {ok : Int → Int → Bool} {f : Int → Int → Int} {Cd : Int → Int → Prop} (h : ∀ i j, ok i j = true → Cd i j) : OpE C (onInts ok f) (rI Cd fun i j => .int (f i j)) := by
  intro σ env F H t u t' v w Q n e r1 r2 q
  unfold onInts at e
  split at e
  · split at e
    · rename_i hz
      cases e
      rw [r1.int, r2.int]
      exact ⟨_, _, rfl, rfl, h _ _ hz, q F H _ Grow.refl (.int _)⟩
    · cases e
  · cases e
def pySub : PV → PV → Option PV
  | .int i, .int j => some (.int (i - j))
  | _, _ => none
theorem ope_sub {C : Cp} : OpE C pySub (rI0 fun i j => .int (i - j)) := by
  intro σ env F H t u t' v w Q n e r1 r2 q
  unfold pySub at e
  split at e
  · cases e
    rw [r1.int, r2.int]
    exact ⟨_, _, rfl, rfl, q F H _ Grow.refl (.int _)⟩
  · cases e
/-- one factor between -2^64 and 2^64 -/
def mulOk (i j : Int) : Bool := decide ((-(2 ^ 64) < i ∧ i < 2 ^ 64) ∨ (-(2 ^ 64) < j ∧ j < 2 ^ 64))
def pyMulI : PV → PV → Option PV := onInts mulOk fun i j => i * j
theorem ope_mulI {C : Cp} : OpE C pyMulI (rI CMul fun i j => .int (i * j)) := ope_ints fun i j h => (of_decide_eq_true h : (-(2 ^ 64) < i ∧ i < 2 ^ 64) ∨ (-(2 ^ 64) < j ∧ j < 2 ^ 64))
def divOk (_ j : Int) : Bool := decide (0 < j ∧ j < 1073741824)
def pyDiv : PV → PV → Option PV := onInts divOk fun i j => i / j
theorem ope_div {C : Cp} : OpE C pyDiv (rI CDiv fun i j => .int (i / j)) := ope_ints fun i j h => (of_decide_eq_true h : 0 < j ∧ j < 1073741824)
def pyMod : PV → PV → Option PV := onInts (fun _ j => decide (0 < j)) fun i j => i % j
theorem ope_mod {C : Cp} : OpE C pyMod (rI (fun _ j => 0 < j) fun i j => .int (i % j)) := ope_ints fun _ _ h => of_decide_eq_true h
def powOk (i j : Int) : Bool := decide (0 ≤ j ∧ j ≤ 1000000 ∧ i.natAbs < 2 ^ 64)
def pyPow : PV → PV → Option PV := onInts powOk fun i j => i ^ j.toNat
theorem ope_pow {C : Cp} : OpE C pyPow (rI CPow fun i j => .int (i ^ j.toNat)) := ope_ints fun i j h => (of_decide_eq_true h : 0 ≤ j ∧ j ≤ 1000000 ∧ i.natAbs < 2 ^ 64)

/-! ### < <= > >= -/
def onCmp (p : Int → Int → Bool) : PV → PV → Option PV
  | .int i, .int j => some (.bl (p i j))
  | _, _ => none
theorem ope_cmp {C : Cp} {p : Int → Int → Bool} : OpE C (onCmp p) (rI0 fun i j => .bl (p i j)) := by
  intro σ env F H t u t' v w Q n e r1 r2 q
  unfold onCmp at e
  split at e
  · cases e
    rw [r1.int, r2.int]
    exact ⟨_, _, rfl, rfl, q F H _ Grow.refl (.bl _)⟩
  · cases e
def pyLt := onCmp fun i j => decide (i < j)
def pyLe := onCmp fun i j => decide (i ≤ j)
def pyGt := onCmp fun i j => decide (j < i)
def pyGe := onCmp fun i j => decide (j ≤ i)

/-! ### == != -/
mutual
def toD : PV → Option PyData
  | .non => some .none
  | .bl b => some (.bool b)
  | .int i => some (.int i)
  | .str x => some (.str x)
  | .tup ts => (toDs ts).map .tuple
  | .lst ts => (toDs ts).map .list
  | _ => none
def toDs : List PV → Option (List PyData)
  | [] => some []
  | t :: ts => match toD t, toDs ts with
    | some d, some ds => some (d :: ds)
    | _, _ => none
end
mutual
theorem toD_dp {K : PySem.W.Frag} {mg : Str → Option Value} {F : Addr → Prop} {H : Hp} : ∀ (t : PV) {v : V} {d : PyData}, toD t = some d → Rep K mg F H t v → Dp K H v d
  | .non, _, _, e, h => by
    cases h
    simp only [toD, Option.some.injEq] at e; subst e; exact .non
  | .bl b, _, _, e, h => by
    cases h
    simp only [toD, Option.some.injEq] at e; subst e; exact .bl b
  | .int i, _, _, e, h => by
    cases h
    simp only [toD, Option.some.injEq] at e; subst e; exact .int i
  | .str x, _, _, e, h => by
    cases h
    simp only [toD, Option.some.injEq] at e; subst e; exact .str x
  | .ty _, _, _, e, _ => by simp [toD] at e
  | .fn _, _, _, e, _ => by simp [toD] at e
  | .tup ts, _, _, e, h => by
    cases h with
    | tup h r =>
      simp only [toD, Option.map_eq_some_iff] at e
      obtain ⟨ds, e1, rfl⟩ := e
      exact .tup h.sq (toDs_dp ts e1 r)
  | .lst ts, _, _, e, h => by
    cases h with
    | lst f h r =>
      simp only [toD, Option.map_eq_some_iff] at e
      obtain ⟨ds, e1, rfl⟩ := e
      exact .lst (.of h) (toDs_dp ts e1 r)
  | .scr _, _, _, e, _ => by simp [toD] at e
  | .dct _, _, _, e, _ => by simp [toD] at e
theorem toDs_dp {K : PySem.W.Frag} {mg : Str → Option Value} {F : Addr → Prop} {H : Hp} : ∀ (ts : List PV) {vs : List V} {ds : List PyData}, toDs ts = some ds → RepL K mg F H ts vs → DpAll K H vs ds
  | [], _, _, e, h => by
    cases h
    simp only [toDs, Option.some.injEq] at e; subst e; exact .nil
  | t :: ts, _, _, e, h => by
    cases h with
    | cons r q =>
      unfold toDs at e
      split at e
      · rename_i d ds h1 h2
        cases e
        exact .cons (toD_dp t h1 r) (toDs_dp ts h2 q)
      · cases e
end
theorem toD_dpw {K : PySem.W.Frag} {mg : Str → Option Value} {F : Addr → Prop} {H : Hp} {t : PV} {v : V} {d : PyData} (e : toD t = some d) (h : RepW K mg F H t v) : Dp K H v d := by
  cases h with
  | rep h => exact toD_dp _ e h
  | own h =>
    cases t <;> try exact h.elim
    · obtain ⟨vs, e1, r⟩ := h
      simp only [toD, Option.map_eq_some_iff] at e
      obtain ⟨ds, e2, rfl⟩ := e
      exact .lst (.of e1) (toDs_dp _ e2 r)
    · simp [toD] at e
def eqD (t u : PV) : Option Bool := match toD t, toD u with
  | some d, some e => if SeqAt.shaped d = true ∧ SeqAt.shaped e = true then some (PyData.eqv d e) else none
  | _, _ => none
def pyEqB : PV → PV → Option Bool
  | .int i, .int j => some (decide (i = j))
  | .str x, .str y => some (decide (x = y))
  | .bl a, .bl b => some (decide (a = b))
  | t, u => eqD t u
def pyEq (t u : PV) : Option PV := (pyEqB t u).map .bl
def pyNe (t u : PV) : Option PV := (pyEqB t u).map fun b => .bl !b
def rEqA (K : PySem.W.Frag) : R2 := fun x y H Q => rEq x y H Q ∨ rEqD K x y H Q
def rNeA (K : PySem.W.Frag) : R2 := fun x y H Q => rNe x y H Q ∨ rNeD K x y H Q
theorem opr_eq {X : Cx} (hu : X.A.units + 64 < cLine) : OpR X (compareOp .Eq) (rEqA X.K) := op_eq.or (op_eqD hu)
theorem opr_ne {X : Cx} (hu : X.A.units + 64 < cLine) : OpR X (compareOp .NotEq) (rNeA X.K) := op_ne.or (op_neD hu)
theorem eqD_dp {K : PySem.W.Frag} {mg : Str → Option Value} {F : Addr → Prop} {H : Hp} {t u : PV} {v w : V} {b : Bool} (e : eqD t u = some b) (r1 : RepW K mg F H t v) (r2 : RepW K mg F H u w) :
    ∃ d e, Dp K H v d ∧ Dp K H w e ∧ SeqAt.shaped d = true ∧ SeqAt.shaped e = true ∧ PyData.eqv d e = b := by
  unfold eqD at e
  split at e
  · rename_i d d' h1 h2
    split at e
    · rename_i hs
      cases e
      exact ⟨d, d', toD_dpw h1 r1, toD_dpw h2 r2, hs.1, hs.2, rfl⟩
    · cases e
  · cases e
theorem ope_eq {C : Cp} : OpE C pyEq (rEqA C.K) := by
  intro σ env F H t u t' v w Q n e r1 r2 q
  unfold pyEq at e
  rw [Option.map_eq_some_iff] at e
  obtain ⟨b, e, rfl⟩ := e
  unfold pyEqB at e
  split at e
  · cases e
    rw [r1.int, r2.int]
    refine .inl ⟨rfl, ?_⟩
    rw [dec_int, Bool.beq_eq_decide_eq]
    exact q F H _ Grow.refl (.bl _)
  · cases e
    rw [r1.str, r2.str]
    refine .inl ⟨rfl, ?_⟩
    rw [dec_str, Bool.beq_eq_decide_eq]
    exact q F H _ Grow.refl (.bl _)
  · cases e
    rw [r1.bl, r2.bl]
    refine .inl ⟨rfl, ?_⟩
    rw [dec_bl, Bool.beq_eq_decide_eq]
    exact q F H _ Grow.refl (.bl _)
  · obtain ⟨d, d', h1, h2, s1, s2, e2⟩ := eqD_dp e r1 r2
    refine .inr ⟨d, d', h1, h2, s1, s2, ?_⟩
    rw [e2]
    exact q F H _ Grow.refl (.bl _)
theorem ope_ne {C : Cp} : OpE C pyNe (rNeA C.K) := by
  intro σ env F H t u t' v w Q n e r1 r2 q
  unfold pyNe at e
  rw [Option.map_eq_some_iff] at e
  obtain ⟨b, e, rfl⟩ := e
  unfold pyEqB at e
  split at e
  · cases e
    rw [r1.int, r2.int]
    refine .inl ⟨rfl, ?_⟩
    rw [dec_int, Bool.beq_eq_decide_eq]
    exact q F H _ Grow.refl (.bl _)
  · cases e
    rw [r1.str, r2.str]
    refine .inl ⟨rfl, ?_⟩
    rw [dec_str, Bool.beq_eq_decide_eq]
    exact q F H _ Grow.refl (.bl _)
  · cases e
    rw [r1.bl, r2.bl]
    refine .inl ⟨rfl, ?_⟩
    rw [dec_bl, Bool.beq_eq_decide_eq]
    exact q F H _ Grow.refl (.bl _)
  · obtain ⟨d, d', h1, h2, s1, s2, e2⟩ := eqD_dp e r1 r2
    refine .inr ⟨d, d', h1, h2, s1, s2, ?_⟩
    rw [e2]
    exact q F H _ Grow.refl (.bl _)

/-! ### is None, is True -/
def isNon : PV → Bool
  | .non => true
  | _ => false
theorem RepW.isNon {K : PySem.W.Frag} {mg : Str → Option Value} {F : Addr → Prop} {H : Hp} {t : PV} {v : V} (h : RepW K mg F H t v) : decide (v = .non) = isNon t := by
  cases h with
  | rep h => cases h <;> simp [EV.isNon]
  | own h => cases t <;> first | exact h.elim | simp [EV.isNon]
def pyIs : PV → PV → Option PV
  | t, .non => some (.bl (isNon t))
  | .bl a, .bl b => some (.bl (decide (a = b)))
  | _, _ => none
def pyIsNot : PV → PV → Option PV
  | t, .non => some (.bl (!isNon t))
  | .bl a, .bl b => some (.bl (!decide (a = b)))
  | _, _ => none
theorem opr_is {X : Cx} : OpR X (compareOp .Is) (fun x y H Q => (y = .non ∧ Q (.bl (decide (x = .non))) H) ∨ rIsB x y H Q) := op_isN.or op_isBl
theorem opr_isnot {X : Cx} : OpR X (compareOp .IsNot) (fun x y H Q => (y = .non ∧ Q (.bl (!decide (x = .non))) H) ∨ rNotB x y H Q) := op_notN.or op_notBl
theorem ope_is {C : Cp} : OpE C pyIs (fun x y H Q => (y = .non ∧ Q (.bl (decide (x = .non))) H) ∨ rIsB x y H Q) := by
  intro σ env F H t u t' v w Q n e r1 r2 q
  unfold pyIs at e
  split at e
  · cases e
    refine .inl ⟨r2.non, ?_⟩
    rw [r1.isNon]
    exact q F H _ Grow.refl (.bl _)
  · cases e
    exact .inr ⟨_, _, r1.bl, r2.bl, q F H _ Grow.refl (.bl _)⟩
  · cases e
theorem ope_isnot {C : Cp} : OpE C pyIsNot (fun x y H Q => (y = .non ∧ Q (.bl (!decide (x = .non))) H) ∨ rNotB x y H Q) := by
  intro σ env F H t u t' v w Q n e r1 r2 q
  unfold pyIsNot at e
  split at e
  · cases e
    refine .inl ⟨r2.non, ?_⟩
    rw [r1.isNon]
    exact q F H _ Grow.refl (.bl _)
  · cases e
    exact .inr ⟨_, _, r1.bl, r2.bl, q F H _ Grow.refl (.bl _)⟩
  · cases e
end L2.EV

set_option Elab.async false
set_option linter.all false
set_option maxRecDepth 100000
namespace L2.EV
open PySem PySem.Spec PyProof.Rows

/-! ### all ints, all bools -/
def intsOf : List PV → Option (List Int)
  | [] => some []
  | .int i :: r => (intsOf r).map (i :: ·)
  | _ :: _ => none
def blsOf : List PV → Option (List Bool)
  | [] => some []
  | .bl i :: r => (blsOf r).map (i :: ·)
  | _ :: _ => none
def strsOf : List PV → Option (List Str)
  | [] => some []
  | .str i :: r => (strsOf r).map (i :: ·)
  | _ :: _ => none
theorem intsOf_eq : ∀ {ts : List PV} {ns : List Int}, intsOf ts = some ns → ts = ns.map .int
  | [], _, h => by simp only [intsOf, Option.some.injEq] at h; subst h; rfl
  | t :: r, ns, h => by
    cases t <;> simp only [intsOf, reduceCtorEq, Option.map_eq_some_iff] at h
    obtain ⟨ms, e, rfl⟩ := h
    rw [intsOf_eq e]; rfl
theorem blsOf_eq : ∀ {ts : List PV} {ns : List Bool}, blsOf ts = some ns → ts = ns.map .bl
  | [], _, h => by simp only [blsOf, Option.some.injEq] at h; subst h; rfl
  | t :: r, ns, h => by
    cases t <;> simp only [blsOf, reduceCtorEq, Option.map_eq_some_iff] at h
    obtain ⟨ms, e, rfl⟩ := h
    rw [blsOf_eq e]; rfl
theorem strsOf_eq : ∀ {ts : List PV} {ns : List Str}, strsOf ts = some ns → ts = ns.map .str
  | [], _, h => by simp only [strsOf, Option.some.injEq] at h; subst h; rfl
  | t :: r, ns, h => by
    cases t <;> simp only [strsOf, reduceCtorEq, Option.map_eq_some_iff] at h
    obtain ⟨ms, e, rfl⟩ := h
    rw [strsOf_eq e]; rfl
@[simp] theorem intsOf_map : ∀ ns : List Int, intsOf (ns.map .int) = some ns
  | [] => rfl
  | n :: ns => by simp [intsOf, intsOf_map ns]
@[simp] theorem blsOf_map : ∀ ns : List Bool, blsOf (ns.map .bl) = some ns
  | [] => rfl
  | n :: ns => by simp [blsOf, blsOf_map ns]
@[simp] theorem strsOf_map : ∀ ns : List Str, strsOf (ns.map .str) = some ns
  | [] => rfl
  | n :: ns => by simp [strsOf, strsOf_map ns]

section
variable {X : Cx} {C : Cp} {k : Nat}

/-! ### len -/
def pyLen : PV → Option PV
  | .lst ts => some (.int ts.length)
  | .tup ts => some (.int ts.length)
  | .scr ts => some (.int ts.length)
  | .dct ts => some (.int ts.length)
  | .str x => if x.length ≤ sizeLine then some (.int x.length) else none
  | _ => none
theorem call_lenD : CallR X (.builtin "len") (fun xs H Q => ∃ a kvs, xs = [.ref a] ∧ Rd H a (.dK kvs) ∧ Q (.int kvs.length) H) := by
  intro pins s σ H xs us Q I r h
  obtain ⟨a, kvs, rfl, e, q⟩ := h
  rw [Vals.ref1 r]
  exact d_len I e fun t s' I' => ⟨.int _, H, I', ⟨_, rfl⟩, q⟩
def rLenA (K : PySem.W.Frag) : List V → Hp → VK → Prop := fun xs H Q => (∃ p ys, xs = [.ref p] ∧ (SqL K H p ys ∨ SqT K H p ys) ∧ Q (.int ys.length) H) ∨ ((∃ z, xs = [.str z] ∧ z.length ≤ sizeLine ∧ Q (.int z.length) H) ∨ ∃ a kvs, xs = [.ref a] ∧ Rd H a (.dK kvs) ∧ Q (.int kvs.length) H)
theorem cr_len : CallR X (.builtin "len") (rLenA X.K) := call_len_seq.or (call_len_str.or call_lenD)
theorem RepK.length {K : PySem.W.Frag} {mg : Str → Option Value} {F : Addr → Prop} {H : Hp} : ∀ {ts : List (Key × PV)} {vs : List (Key × V)}, RepK K mg F H ts vs → ts.length = vs.length
  | _, _, .nil => rfl
  | _, _, .cons _ q => congrArg (· + 1) (RepK.length q)
theorem une_len : UnE C pyLen fun v H Q => rLenA C.K [v] H Q := by
  intro σ env F H t t' v Q n e r q
  have seq : ∀ {ts : List PV}, items t = some ts → t' = .int ts.length → rLenA C.K [v] H Q := fun {ts} h1 h2 => by
    obtain ⟨a, vs, rfl, hs, rl⟩ := r.seq h1
    subst h2
    refine .inl ⟨a, vs, rfl, hs.imp id TuL.sq, ?_⟩
    rw [← rl.length]
    exact q F H _ Grow.refl (.int _)
  cases t <;> simp only [pyLen, reduceCtorEq, Option.some.injEq] at e
  · split at e
    · rename_i hz
      cases e
      rw [r.str]
      exact .inr (.inl ⟨_, rfl, hz, q F H _ Grow.refl (.int _)⟩)
    · cases e
  · exact seq rfl e.symm
  · exact seq rfl e.symm
  · subst e
    obtain ⟨a, vs, rfl, hs, rl⟩ := r.dct
    refine .inr (.inr ⟨a, vs, rfl, .inl hs, ?_⟩)
    rw [← rl.length]
    exact q F H _ Grow.refl (.int _)
  · exact seq rfl e.symm

/-! ### abs, int -/
def pyAbs : PV → Option PV
  | .int i => some (.int (if i < 0 then -i else i))
  | _ => none
theorem une_abs : UnE C pyAbs fun v H Q => ∃ i, [v] = [V.int i] ∧ Q (.int (if i < 0 then -i else i)) H := by
  intro σ env F H t t' v Q n e r q
  cases t <;> simp only [pyAbs, reduceCtorEq, Option.some.injEq] at e
  subst e
  rw [r.int]
  exact ⟨_, rfl, q F H _ Grow.refl (.int _)⟩
def pyInt : PV → Option PV
  | .int i => some (.int i)
  | .bl b => some (.int (if b then 1 else 0))
  | _ => none
theorem une_int : UnE C pyInt fun v H Q => (∃ i, [v] = [V.int i] ∧ Q (.int i) H) ∨ ∃ k, [v] = [V.bl k] ∧ Q (.int (if k then 1 else 0)) H := by
  intro σ env F H t t' v Q n e r q
  cases t <;> simp only [pyInt, reduceCtorEq, Option.some.injEq] at e
  · subst e
    rw [r.bl]
    exact .inr ⟨_, rfl, q F H _ Grow.refl (.int _)⟩
  · subst e
    rw [r.int]
    exact .inl ⟨_, rfl, q F H _ Grow.refl (.int _)⟩
def pyNeg : PV → Option PV
  | .int i => some (.int (-i))
  | _ => none
theorem une_neg : UnE C pyNeg (rU fun i => .int (-i)) := by
  intro σ env F H t t' v Q n e r q
  cases t <;> simp only [pyNeg, reduceCtorEq, Option.some.injEq] at e
  subst e
  rw [r.int]
  exact ⟨_, rfl, q F H _ Grow.refl (.int _)⟩

/-! ### all, any -/
def pyAll : PV → Option PV
  | .lst ts => (blsOf ts).map fun bs => .bl (bs.all id)
  | _ => none
def pyAny : PV → Option PV
  | .lst ts => (blsOf ts).map fun bs => .bl (bs.any id)
  | _ => none
theorem une_all : UnE C pyAll fun v H Q => rAll C.K [v] H Q := by
  intro σ env F H t t' v Q n e r q
  cases t <;> simp only [pyAll, reduceCtorEq, Option.map_eq_some_iff] at e
  obtain ⟨bs, e1, rfl⟩ := e
  obtain ⟨a, vs, rfl, hs, rl⟩ := r.lst
  rw [blsOf_eq e1] at rl
  refine ⟨a, bs, rfl, ?_, q F H _ Grow.refl (.bl _)⟩
  rw [← rl.bls]
  exact .of hs
theorem une_any : UnE C pyAny fun v H Q => rAny C.K [v] H Q := by
  intro σ env F H t t' v Q n e r q
  cases t <;> simp only [pyAny, reduceCtorEq, Option.map_eq_some_iff] at e
  obtain ⟨bs, e1, rfl⟩ := e
  obtain ⟨a, vs, rfl, hs, rl⟩ := r.lst
  rw [blsOf_eq e1] at rl
  refine ⟨a, bs, rfl, ?_, q F H _ Grow.refl (.bl _)⟩
  rw [← rl.bls]
  exact .of hs

/-! ### list(x), tuple(x) -/
def pyList (t : PV) : Option PV := (items t).map .lst
def rListOf (K : PySem.W.Frag) : List V → Hp → VK → Prop := fun xs H Q => ∃ p ys, xs = [.ref p] ∧ (SqL K H p ys ∨ SqT K H p ys) ∧ ∀ l, H l = none → Q (.ref l) (upd H l (.lst ys))
theorem unn_list : UnN C pyList fun v H Q => rListOf C.K [v] H Q := by
  intro σ env F H t t' v Q n e r q
  unfold pyList at e
  rw [Option.map_eq_some_iff] at e
  obtain ⟨ts, e1, rfl⟩ := e
  obtain ⟨a, vs, rfl, hs, rl⟩ := r.seq e1
  exact ⟨a, vs, rfl, hs.imp id TuL.sq, fun p hp => q _ _ p (Grow.new hp) (own_newL hp rl) (fun f => n.bok.fd p f hp) hp⟩
def pyTuple (t : PV) : Option PV := (items t).map .tup
def rTupOf (K : PySem.W.Frag) : List V → Hp → VK → Prop := fun xs H Q => ∃ p ys, xs = [.ref p] ∧ ((SqL K H p ys ∧ NewT H ys Q) ∨ (SqT K H p ys ∧ Q (.ref p) H))
theorem une_tuple : UnE C pyTuple fun v H Q => rTupOf C.K [v] H Q := by
  intro σ env F H t t' v Q n e r q
  unfold pyTuple at e
  rw [Option.map_eq_some_iff] at e
  obtain ⟨ts, e1, rfl⟩ := e
  obtain ⟨a, vs, rfl, hs, rl⟩ := r.seq e1
  refine ⟨a, vs, rfl, hs.imp (fun h => ⟨h, fun p o hp hd => q _ _ _ (Grow.new hp) (rep_newT hp hd rl)⟩) fun h => ⟨h.sq, q _ _ _ Grow.refl (.tup h rl)⟩⟩

/-! ### o[i] -/
def rIxD : R2 := fun x y H Q => ∃ a v, x = .ref a ∧ DGet H a y (some v) ∧ Q v H
theorem ix_dict (hu : X.A.units + 1 < cLine) : IxR X rIxD := by
  intro value slice pins s σ H x y v u Q I rx ry h hs
  obtain ⟨a, r, rfl, g, q⟩ := h
  obtain rfl : v = .ref a := rx
  have hT : s.TypeIs (.ref a) "dict" := dict_typeIs I g
  have h2 : wpAny (model X.prog X.w) X.A (getItem (.ref a) u) (EP X pins σ Q) X.xe s := d_getItem hu I g ry fun w' s3 I3 rw' => ⟨r, H, I3, rw', q⟩
  unfold subscriptTail
  refine wpAny_bind ?_
  rw [getitemInPython_of_ne hT.not_modules]
  refine wpAny_bind (wpAny_specialOf hT PySem.F.slot_dict_getitem.lookup ?_)
  have fin : wpAny (model X.prog X.w) X.A (subscripted slice false (.ref a) u) (fun r s₃ => wpAny (model X.prog X.w) X.A (letTemporaryGo value (.ref a) r >>= fun _ => pure r) (EP X pins σ Q) X.xe s₃) X.xe s := by
    rw [hs]
    exact wpAny_operating (wpAny_mono h2 (fun r s₃ h₃ => wpAny_bind (wpAny_letTemporaryGo (wpAny_pure h₃))) fun _ _ x => x)
  first
    | exact wpAny_pure (wpAny_bind fin)
    | exact wpAny_bind (wpAny_pure (wpAny_bind fin))
    | exact wpAny_bind fin
/-- a key of a dict -/
def asKey : PV → Option Key
  | .int i => some (.inl i)
  | .str x => some (.inr x)
  | _ => none
theorem asKey_rep {K : PySem.W.Frag} {mg : Str → Option Value} {F : Addr → Prop} {H : Hp} {t : PV} {v : V} {k : Key} (e : asKey t = some k) (r : RepW K mg F H t v) : v = kV k := by
  cases t <;> simp only [asKey, reduceCtorEq, Option.some.injEq] at e
  · subst e; rw [r.int]; rfl
  · subst e; rw [r.str]; rfl
/-- what stands at a key -/
def getK (kvs : List (Key × PV)) (k : Key) : Option PV := (kvs.find? fun kv => decide (kv.1 = k)).map (·.2)
theorem RepK.val {K : PySem.W.Frag} {mg : Str → Option Value} {F : Addr → Prop} {H : Hp} (k : Key) : ∀ {ts : List (Key × PV)} {vs : List (Key × V)}, RepK K mg F H ts vs →
    (getK ts k = none ∧ valV vs k = none) ∨ ∃ t v, getK ts k = some t ∧ valV vs k = some v ∧ Rep K mg F H t v
  | _, _, .nil => .inl ⟨rfl, rfl⟩
  | _, _, .cons (k := j) (t := t) (v := v) r q => by
    by_cases e : j = k
    · exact .inr ⟨t, v, by simp [getK, List.find?_cons, e], valV_pos e, r⟩
    · have h := RepK.val k q
      have e1 : ∀ ts : List (Key × PV), getK ((j, t) :: ts) k = getK ts k := fun ts => by simp [getK, List.find?_cons, e]
      rw [e1, valV_neg (p := (j, v)) e]
      exact h
def pyIxF : PV → PV → Option PV
  | .str x, .int i => if x.length ≤ sizeLine then (atI x.cps.toList i).map fun c => .str ⟨#[c]⟩ else none
  | .dct kvs, u => (asKey u).bind fun k => getK kvs k
  | t, .int i => (items t).bind fun ts => atI ts i
  | _, _ => none
def rIxA (K : PySem.W.Frag) : R2 := fun x y H Q => rIx K x y H Q ∨ rIxD x y H Q
theorem ixr_all (hu : X.A.units + 1 < cLine) : IxR X (rIxA X.K) := ix_seq.or (ix_dict hu)
theorem RepL.atI {K : PySem.W.Frag} {mg : Str → Option Value} {F : Addr → Prop} {H : Hp} {ts : List PV} {vs : List V} {i : Int} {t : PV} (r : RepL K mg F H ts vs) (e : L2.atI ts i = some t) : ∃ v, L2.atI vs i = some v ∧ Rep K mg F H t v := by
  unfold L2.atI at e ⊢
  rw [r.length] at e
  cases h : ixN vs.length i with
  | none => rw [h] at e; cases e
  | some j =>
    rw [h] at e
    exact r.get (i := j) e
theorem ope_ix : OpE C pyIxF (rIxA C.K) := by
  intro σ env F H t u t' v w Q n e r1 r2 q
  unfold pyIxF at e
  split at e
  · split at e
    · rename_i hz
      rw [Option.map_eq_some_iff] at e
      obtain ⟨c, e1, rfl⟩ := e
      rw [r1.str, r2.int]
      exact .inl (.inr (.inr ⟨_, _, c, rfl, rfl, hz, e1, q F H _ Grow.refl (.str _)⟩))
    · cases e
  · rw [Option.bind_eq_some_iff] at e
    obtain ⟨k, e1, e2⟩ := e
    obtain ⟨a, kvs, rfl, h, rk⟩ := r1.dct
    rw [asKey_rep e1 r2]
    rcases rk.val k with ⟨z, _⟩ | ⟨t2, v2, z1, z2, r⟩
    · rw [z] at e2; cases e2
    · rw [z1] at e2; cases e2
      refine .inr ⟨a, v2, rfl, ?_, q F H _ Grow.refl r⟩
      rw [← z2]
      exact DGet.k h
  · rename_i i hn1 hn2
    rw [Option.bind_eq_some_iff] at e
    obtain ⟨ts, e1, e2⟩ := e
    obtain ⟨a, vs, rfl, hs, rl⟩ := r1.seq e1
    obtain ⟨v2, e3, r⟩ := rl.atI e2
    rw [r2.int]
    rcases hs with hs | hs
    · exact .inl (.inl ⟨a, vs, i, v2, rfl, rfl, hs, e3, q F H _ Grow.refl r⟩)
    · exact .inl (.inr (.inl ⟨a, vs, i, v2, rfl, rfl, hs.sq, e3, q F H _ Grow.refl r⟩))
  · cases e

/-! ### x in y -/
def flatP : PV → Bool
  | .non => true
  | .bl _ => true
  | .int _ => true
  | .str _ => true
  | _ => false
def eqP : PV → PV → Bool
  | .non, .non => true
  | .bl a, .bl b => a == b
  | .bl a, .int b => (if a then 1 else 0) == b
  | .int a, .bl b => a == (if b then 1 else 0)
  | .int a, .int b => a == b
  | .str a, .str b => a == b
  | _, _ => false
theorem flat_rep {K : PySem.W.Frag} {mg : Str → Option Value} {F : Addr → Prop} {H : Hp} {t : PV} {v : V} (f : flatP t = true) (r : Rep K mg F H t v) : flatV v = true := by
  cases r <;> first | rfl | (simp [flatP] at f; done)
theorem flat_w {K : PySem.W.Frag} {mg : Str → Option Value} {F : Addr → Prop} {H : Hp} {t : PV} {v : V} (f : flatP t = true) (r : RepW K mg F H t v) : Rep K mg F H t v := by
  cases r with
  | rep r => exact r
  | own r => cases t <;> first | exact r.elim | (simp [flatP] at f; done)
theorem eqP_rep {K : PySem.W.Frag} {mg : Str → Option Value} {F : Addr → Prop} {H : Hp} {t u : PV} {v w : V} (r : Rep K mg F H t v) (q : Rep K mg F H u w) (f : flatP t = true) (f' : flatP u = true) : eqV v w = eqP t u := by
  cases r <;> first | (simp [flatP] at f; done) | (cases q <;> first | rfl | (simp [flatP] at f'; done))
def inP (x : PV) (xs : List PV) : Bool := xs.any fun y => eqP y x
theorem inP_rep {K : PySem.W.Frag} {mg : Str → Option Value} {F : Addr → Prop} {H : Hp} {t : PV} {v : V} (r : Rep K mg F H t v) (f : flatP t = true) : ∀ {ts : List PV} {vs : List V}, RepL K mg F H ts vs → ts.all flatP = true → vs.all flatV = true ∧ inV v vs = inP t ts
  | _, _, .nil, _ => ⟨rfl, rfl⟩
  | _, _, .cons p q, h => by
    rw [List.all_cons, Bool.and_eq_true] at h
    obtain ⟨h1, h2⟩ := inP_rep r f q h.2
    refine ⟨by rw [List.all_cons, flat_rep h.1 p, h1]; rfl, ?_⟩
    unfold inV inP at h2 ⊢
    rw [List.any_cons, List.any_cons, h2, eqP_rep p r h.1 f]
def pyInB : PV → PV → Option Bool
  | .str x, .str y => some (!(Builtin.Str.occurrences y x 0 y.length 1).isEmpty)
  | t, .dct kvs => (asKey t).map fun k => (getK kvs k).isSome
  | t, u => (items u).bind fun us => if flatP t = true ∧ us.all flatP = true then some (inP t us) else none
def pyIn (t u : PV) : Option PV := (pyInB t u).map .bl
def pyNotIn (t u : PV) : Option PV := (pyInB t u).map fun b => .bl !b
def rInD (neg : Bool) : R2 := fun x y H Q => ∃ a o, y = .ref a ∧ DGet H a x o ∧ Q (.bl (if neg then !o.isSome else o.isSome)) H
theorem op_inD (hu : X.A.units + 1 < cLine) : OpR X (compareOp .In) (rInD false) := by
  intro pins s σ H x y v u Q I rx ry h
  obtain ⟨a, o, rfl, g, q⟩ := h
  obtain rfl : u = .ref a := ry
  exact d_in hu I g rx fun s' I' => ⟨.bl o.isSome, H, I', rfl, q⟩
theorem op_notInD (hu : X.A.units + 1 < cLine) : OpR X (compareOp .NotIn) (rInD true) := by
  intro pins s σ H x y v u Q I rx ry h
  obtain ⟨a, o, rfl, g, q⟩ := h
  obtain rfl : u = .ref a := ry
  exact d_notIn hu I g rx fun s' I' => ⟨.bl (!o.isSome), H, I', rfl, q⟩
def rInA (K : PySem.W.Frag) : R2 := fun x y H Q => rIn K false x y H Q ∨ ((∃ i j, x = .str i ∧ y = .str j ∧ Q (.bl (!(Builtin.Str.occurrences j i 0 j.length 1).isEmpty)) H) ∨ rInD false x y H Q)
def rNotInA (K : PySem.W.Frag) : R2 := fun x y H Q => rIn K true x y H Q ∨ ((∃ i j, x = .str i ∧ y = .str j ∧ Q (.bl (!(!(Builtin.Str.occurrences j i 0 j.length 1).isEmpty))) H) ∨ rInD true x y H Q)
theorem opr_in (hu : X.A.units + 1 < cLine) : OpR X (compareOp .In) (rInA X.K) := op_in_seq.or (op_in_str.or (op_inD hu))
theorem opr_notin (hu : X.A.units + 1 < cLine) : OpR X (compareOp .NotIn) (rNotInA X.K) := op_notIn_seq.or (L2.op_notIn_str.or (op_notInD hu))
theorem in_core {σ : St} {env : Sl} {F : Addr → Prop} {H : Hp} {t u : PV} {b : Bool} {v w : V} (e : pyInB t u = some b) (r1 : RepW C.K C.mg F H t v) (r2 : RepW C.K C.mg F H u w) :
    (∃ x y, v = .str x ∧ w = .str y ∧ b = !(Builtin.Str.occurrences y x 0 y.length 1).isEmpty) ∨ (∃ a o, w = .ref a ∧ DGet H a v o ∧ b = o.isSome) ∨
      ∃ a xs, w = .ref a ∧ (SqL C.K H a xs ∨ SqT C.K H a xs) ∧ flatV v = true ∧ xs.all flatV = true ∧ b = inV v xs := by
  unfold pyInB at e
  split at e
  · cases e
    exact .inl ⟨_, _, r1.str, r2.str, rfl⟩
  · rw [Option.map_eq_some_iff] at e
    obtain ⟨k, e1, rfl⟩ := e
    obtain ⟨a, kvs, rfl, h, rk⟩ := r2.dct
    refine .inr (.inl ⟨a, valV kvs k, rfl, ?_, ?_⟩)
    · rw [asKey_rep e1 r1]
      exact DGet.k h
    · rcases rk.val k with ⟨z1, z2⟩ | ⟨t2, v2, z1, z2, r⟩
      · rw [z1, z2]; rfl
      · rw [z1, z2]; rfl
  · rw [Option.bind_eq_some_iff] at e
    obtain ⟨us, e1, e2⟩ := e
    split at e2
    · rename_i hf
      cases e2
      obtain ⟨a, vs, rfl, hs, rl⟩ := r2.seq e1
      have p := flat_w hf.1 r1
      obtain ⟨h1, h2⟩ := inP_rep p hf.1 rl hf.2
      exact .inr (.inr ⟨a, vs, rfl, hs.imp id TuL.sq, flat_rep hf.1 p, h1, h2.symm⟩)
    · cases e2
theorem ope_in : OpE C pyIn (rInA C.K) := by
  intro σ env F H t u t' v w Q n e r1 r2 q
  unfold pyIn at e
  rw [Option.map_eq_some_iff] at e
  obtain ⟨b, e, rfl⟩ := e
  rcases in_core (σ := σ) (env := env) e r1 r2 with ⟨x, y, rfl, rfl, rfl⟩ | ⟨a, o, rfl, g, rfl⟩ | ⟨a, xs, rfl, hs, f1, f2, rfl⟩
  · exact .inr (.inl ⟨x, y, rfl, rfl, q F H _ Grow.refl (.bl _)⟩)
  · exact .inr (.inr ⟨a, o, rfl, g, q F H _ Grow.refl (.bl _)⟩)
  · exact .inl ⟨a, xs, rfl, hs, f1, f2, q F H _ Grow.refl (.bl _)⟩
theorem ope_notin : OpE C pyNotIn (rNotInA C.K) := by
  intro σ env F H t u t' v w Q n e r1 r2 q
  unfold pyNotIn at e
  rw [Option.map_eq_some_iff] at e
  obtain ⟨b, e, rfl⟩ := e
  rcases in_core (σ := σ) (env := env) e r1 r2 with ⟨x, y, rfl, rfl, rfl⟩ | ⟨a, o, rfl, g, rfl⟩ | ⟨a, xs, rfl, hs, f1, f2, rfl⟩
  · exact .inr (.inl ⟨x, y, rfl, rfl, q F H _ Grow.refl (.bl _)⟩)
  · exact .inr (.inr ⟨a, o, rfl, g, q F H _ Grow.refl (.bl _)⟩)
  · exact .inl ⟨a, xs, rfl, hs, f1, f2, q F H _ Grow.refl (.bl _)⟩

/-! ### isinstance -/
def tyOf : PV → Option String
  | .non => some "NoneType"
  | .bl _ => some "bool"
  | .int _ => some "int"
  | .str _ => some "str"
  | .tup _ => some "tuple"
  | .lst _ => some "list"
  | .dct _ => some "dict"
  | _ => none
theorem SqT.ty {K : PySem.W.Frag} {H : Hp} {a : Addr} {vs : List V} (h : SqT K H a vs) : TyX K H (.ref a) (.type "tuple") := by
  rcases h with (h | ⟨o, h⟩) | ⟨o, its, n, h, c, _⟩
  · exact .base (.tup h)
  · exact .fTuple h
  · exact .kTuple h c
theorem tyOf_rep {K : PySem.W.Frag} {mg : Str → Option Value} {F : Addr → Prop} {H : Hp} {t : PV} {v : V} {T : String} (e : tyOf t = some T) (r : RepW K mg F H t v) : TyX K H v (.type T) := by
  cases t <;> simp only [tyOf, reduceCtorEq, Option.some.injEq] at e
  · subst e; rw [r.non]; exact .base .non
  · subst e; rw [r.bl]; exact .base (.bl _)
  · subst e; rw [r.int]; exact .base (.int _)
  · subst e; rw [r.str]; exact .base (.str _)
  · subst e; obtain ⟨a, vs, rfl, h, _⟩ := r.tup; exact SqT.ty h.sq
  · subst e; obtain ⟨a, vs, rfl, h, _⟩ := r.lst; exact .base (.lst h)
  · subst e; obtain ⟨a, vs, rfl, h, _⟩ := r.dct; exact .base (.dK h)
/-- is the one class the other one, or below it; told for the written ones alone -/
def isaT (T U : String) : Option Bool := if U = "int" then some (T == "int" || T == "bool") else if U ∈ ["bool", "str", "tuple", "list", "dict"] then some (T == U) else none
def tys : List String := ["NoneType", "bool", "int", "str", "tuple", "list", "dict"]
theorem isaT_kit : ∀ T ∈ tys, ∀ U ∈ ["int", "bool", "str", "tuple", "list", "dict"], kitB T U = isaT T U := by decide +kernel
theorem tyOf_mem {t : PV} {T : String} (e : tyOf t = some T) : T ∈ tys := by
  cases t <;> simp only [tyOf, reduceCtorEq, Option.some.injEq] at e <;> subst e <;> decide
theorem isaT_some {T U : String} {b : Bool} (hT : T ∈ tys) (e : isaT T U = some b) : kitB T U = some b := by
  have hU : U ∈ ["int", "bool", "str", "tuple", "list", "dict"] := by
    unfold isaT at e
    split at e
    · rename_i h; rw [h]; decide
    · split at e
      · rename_i h; exact List.mem_cons_of_mem _ h
      · cases e
  rw [isaT_kit T hT U hU]
  exact e
def tyNames : List PV → Option (List String)
  | [] => some []
  | .ty n :: r => (tyNames r).map (n :: ·)
  | _ :: _ => none
def isaAny (T : String) : List String → Option Bool
  | [] => some false
  | U :: r => match isaT T U with
    | some true => some true
    | some false => isaAny T r
    | none => none
def pyIsi : PV → PV → Option PV
  | t, .ty U => (tyOf t).bind fun T => (isaT T U).map .bl
  | t, .tup us => (tyOf t).bind fun T => (tyNames us).bind fun ns => (isaAny T ns).map .bl
  | _, _ => none
def rIsiA (K : PySem.W.Frag) : List V → Hp → VK → Prop := fun xs H Q => rIsi K xs H Q ∨ rIsiT K xs H Q
theorem cr_isi : CallR X (.builtin "isinstance") (rIsiA X.K) := call_isi.or call_isiT
theorem tyNames_rep {K : PySem.W.Frag} {mg : Str → Option Value} {F : Addr → Prop} {H : Hp} : ∀ {us : List PV} {vs : List V} {ns : List String}, tyNames us = some ns → RepL K mg F H us vs → Paired ClsV vs (ns.map Value.type)
  | [], _, _, e, h => by
    cases h
    simp only [tyNames, Option.some.injEq] at e; subst e; exact .nil
  | u :: us, _, _, e, h => by
    cases u <;> simp only [tyNames, reduceCtorEq, Option.map_eq_some_iff] at e
    obtain ⟨ns, e1, rfl⟩ := e
    cases h with
    | cons r q => cases r; exact .cons (.ty _) (tyNames_rep e1 q)
theorem isaAny_kit {K : PySem.W.Frag} {T : String} (hT : T ∈ tys) : ∀ {ns : List String} {b : Bool}, isaAny T ns = some b → PySem.W.kitAny K (.type T) (ns.map Value.type) = some b
  | [], b, e => by simp only [isaAny, Option.some.injEq] at e; subst e; exact kitAny_nil
  | U :: r, b, e => by
    unfold isaAny at e
    split at e
    · rename_i h
      cases e
      exact kitAny_cons (kit_ty (isaT_some hT h)) (fun z => by cases z) fun _ => rfl
    · rename_i h
      exact kitAny_cons (kit_ty (isaT_some hT h)) (fun _ => isaAny_kit hT e) fun z => by cases z
    · cases e
end
end L2.EV

set_option Elab.async false
set_option linter.all false
set_option maxRecDepth 100000
namespace L2.EV
open PySem PySem.Spec PyProof.Rows

/-! ### slices -/
def cutP (xs : List PV) (lo hi : Option Int) : List PV := (xs.drop (HT.sIx xs.length 0 lo)).take (HT.sIx xs.length xs.length hi - HT.sIx xs.length 0 lo)
theorem RepL.cut {K : PySem.W.Frag} {mg : Str → Option Value} {F : Addr → Prop} {H : Hp} {ts : List PV} {vs : List V} (lo hi : Option Int) (r : RepL K mg F H ts vs) : RepL K mg F H (cutP ts lo hi) (cutV vs lo hi) := by
  unfold cutP cutV
  rw [r.length]
  exact (r.drop _).take _
def pyCut (t : PV) (lo hi : Option Int) : Option PV := match t with
  | .tup ts => some (.tup (cutP ts lo hi))
  | .lst ts => some (.lst (cutP ts lo hi))
  | .scr ts => some (.lst (cutP ts lo hi))
  | _ => none
def asI : PV → Option Int
  | .int i => some i
  | _ => none
/-- a part of a slice -/
def part (m : M PV) : M (Option Int) := mbind m fun t => mlift ((asI t).map some)
def noPart : M (Option Int) := mret none
def ro (C : Cp) (m : M (Option Int)) : TO := fun σ H Q => ∃ env F, Now C env σ F H ∧ End C σ F H (m env) fun o _ H' => Q o H'
abbrev RO (X : Cx) (C : Cp) (e : Option Expr) (m : M (Option Int)) : Prop := PO X e (ro C m)
theorem _root_.L2.PO.imp {X : Cx} {e : Option Expr} {t t' : TO} (h : PO X e t) (k : ∀ σ H Q, t' σ H Q → t σ H Q) : PO X e t' := ⟨fun pins s σ H Q I q => h.run pins s σ H Q I (k σ H Q q)⟩
section
variable {X : Cx} {C : Cp} {k i : Nat} {e : Expr} {m : M PV} {pos : Pos}
theorem ro_none : RO X C none noPart := po_none.imp fun _ _ _ ⟨_, _, n, q⟩ => q.ret n
theorem ro_some (h : RE X C e m) : RO X C (some e) (part m) := (po_some h).imp fun σ H Q ⟨env, F, n, q⟩ => ⟨env, F, n, q.seq.imp fun t env1 F1 H1 _ _ _ ⟨env1', n1, q1⟩ v rv => by
  obtain ⟨o, e1, q2⟩ := q1.lift n1
  rw [Option.map_eq_some_iff] at e1
  obtain ⟨j, e2, rfl⟩ := e1
  cases t <;> simp only [asI, reduceCtorEq, Option.some.injEq] at e2
  subst e2
  cases rv
  exact ⟨_, rfl, q2 F1 H1 n1 Ext.refl⟩⟩
def slc (m : M PV) (a b : M (Option Int)) : M PV := mbind m fun t => mbind a fun lo => mbind b fun hi => mlift (pyCut t lo hi)
def rSlAll (K : PySem.W.Frag) : V → Option Int → Option Int → Hp → VK → Prop := fun x lo hi H Q => rSlF K x lo hi H Q ∨ rSlL K x lo hi H Q
theorem sl_all : SlR X (rSlAll X.K) := sl_tupF.or sl_list
theorem sIx_whole {ts : List PV} {lo hi : Option Int} (h : HT.sIx ts.length 0 lo = 0 ∧ HT.sIx ts.length ts.length hi = ts.length) : cutP ts lo hi = ts := by
  unfold cutP
  rw [h.1, h.2, List.drop_zero, Nat.sub_zero, List.take_length]
theorem cut_leaf {σ : St} {env : Sl} {F : Addr → Prop} {H : Hp} {t t' : PV} {v : V} {lo hi : Option Int} {Q : VK} (n : Now C env σ F H) (e : pyCut t lo hi = some t') (r : RepW C.K C.mg F H t v)
    (q : ∀ F' H' v', Grow C σ F H F' H' → Rep C.K C.mg F' H' t' v' → Q v' H') : rSlAll C.K v lo hi H Q := by
  cases t <;> simp only [pyCut, reduceCtorEq, Option.some.injEq] at e
  · subst e
    obtain ⟨a, vs, rfl, hs, rl⟩ := r.tup
    refine .inl ⟨a, vs, rfl, hs.sq, fun z => ?_, fun _ p o hp hd => q _ _ _ (Grow.new hp) (rep_newT hp hd (rl.cut lo hi))⟩
    rw [← rl.length] at z
    rw [sIx_whole z] at q
    exact q _ _ _ Grow.refl (.tup hs rl)
  · subst e
    obtain ⟨a, vs, rfl, hs, rl⟩ := r.lst
    exact .inr ⟨a, vs, rfl, .of hs, fun p hp => q _ _ _ (Grow.newF hp) (rep_newL hp (rl.cut lo hi))⟩
  · subst e
    obtain ⟨a, vs, rfl, hs, rl⟩ := r.scr
    exact .inr ⟨a, vs, rfl, hs.sq, fun p hp => q _ _ _ (Grow.newF hp) (rep_newL hp (rl.cut lo hi))⟩
theorem re_slice {lo hi : Option Expr} {ml mh : M (Option Int)} {p2 : Pos} (he : RE X C e m) (hl : RO X C lo ml) (hh : RO X C hi mh) (hK : X.K = C.K) : RE X C (.Subscript e (.Slice lo hi none p2) pos) (slc m ml mh) :=
  (pe_slice sl_all he hl hh).imp fun σ H Q ⟨env, F, n, q⟩ => ⟨env, F, n, q.seq.imp fun t env1 F1 H1 _ _ _ ⟨env1', n1, q1⟩ v rv =>
    ⟨env1', F1, n1, q1.seq.imp fun o env2 F2 H2 _ _ x2 ⟨env2', n2, q2⟩ => ⟨env2', F2, n2, q2.seq.imp fun o' env3 F3 H3 _ _ x3 ⟨env3', n3, q3⟩ => by
      obtain ⟨t', e1, q4⟩ := q3.lift n3
      rw [hK]
      refine cut_leaf n3 e1 (.rep ((rv.mono (n1.keep x2)).mono (n2.keep x3))) fun F' H' v' gr r' => ?_
      obtain ⟨n', x'⟩ := gr env3' n3
      exact q4 F' H' n' x' v' r'⟩⟩⟩

/-! ### statements -/
variable {st : Stmt} {rest : List Stmt} {f g : S} {D : Ends}
def snx : S := fun env => .nx env
def sbk : S := fun env => .bk env
def sct : S := fun env => .ct env
/-- one behind another -/
def sseq (f g : S) : S := fun env => match f env with
  | .nx e => g e
  | o => o
theorem rss_nil : RSs X C [] snx := pss_nil.imp fun D σ H ⟨env, F, n, q⟩ => q σ F H n Keep.refl
theorem rss_cons (h1 : RS X C st f) (h2 : RSs X C rest g) : RSs X C (st :: rest) (sseq f g) := (pss_cons h1 h2).imp fun D σ H ⟨env, F, n, q⟩ => by
  refine ⟨env, F, n, ?_⟩
  unfold sseq at q
  cases e : f env with
  | nx e1 =>
    rw [e] at q
    exact fun σ' F' H' n' k' => ⟨e1, F', n', EndS.keep k' q⟩
  | bk e1 => rw [e] at q; exact q
  | ct e1 => rw [e] at q; exact q
  | rt t e1 => rw [e] at q; exact q
  | exc c => rw [e] at q; exact q
  | stuck => rw [e] at q; exact q
theorem rss_one (h1 : RS X C st f) : RSs X C [st] f := pss_one h1
theorem rs_pass : RS X C (.Pass pos) snx := ps_pass.imp fun D σ H ⟨env, F, n, q⟩ => q σ F H n Keep.refl
theorem rs_break : RS X C (.Break pos) sbk := ps_break.imp fun D σ H ⟨env, F, n, q⟩ => q σ F H n Keep.refl
theorem rs_continue : RS X C (.Continue pos) sct := ps_continue.imp fun D σ H ⟨env, F, n, q⟩ => q σ F H n Keep.refl
theorem rs_expr (h : RE X C e m) (hs : swapsWith e none pos.line X.env = pure false := by rfl) : RS X C (.Expr e pos) (sbind m fun _ => snx) := (ps_expr h hs).imp fun D σ H ⟨env, F, n, q⟩ =>
  ⟨env, F, n, (EndS.seq n q).imp fun t env1 F1 H1 _ _ _ ⟨env1', n1, q1⟩ v rv => q1 σ F1 H1 n1 Keep.refl⟩
def sput (i : Nat) (t : PV) : S := fun env => .nx (env.set i (some t))
theorem rs_set {x : Str} {pos' : Pos} (i : Nat) (hi : i ∉ C.O) (he : RE X C e m) (h : ∀ {te : TE}, PE X e te → PS X (.Assign [.Name x pos'] e pos) (tAsg te (gName i))) : RS X C (.Assign [.Name x pos'] e pos) (sbind m (sput i)) :=
  (h he).imp fun D σ H ⟨env, F, n, q⟩ => ⟨env, F, n, (EndS.seq n q).imp fun t env1 F1 H1 _ _ _ ⟨env1', n1, q1⟩ v rv => q1 _ F1 H1 (n1.put hi rv) Keep.refl⟩
theorem rs_setO {x : Str} {pos' : Pos} (i : Nat) (hi : i ∈ C.O) (hl : i ∉ C.B.L.map (·.1)) (he : RF X C e m) (h : ∀ {te : TE}, PE X e te → PS X (.Assign [.Name x pos'] e pos) (tAsg te (gName i))) : RS X C (.Assign [.Name x pos'] e pos) (sbind m (sput i)) :=
  (h he).imp fun D σ H ⟨env, F, n, q⟩ => ⟨env, F, n, (EndS.seq n q).imp fun t env1 F1 H1 _ _ _ ⟨env1', n1, q1⟩ a ow nf ha => by
    obtain ⟨h0, no⟩ := fresh_no n ha
    exact q1 _ F1 H1 (n1.putO hi hl ow nf h0 no) Keep.refl⟩
def sret (t : PV) : S := fun env => .rt t env
theorem rs_ret (hf : C.fr = false) (he : RE X C e m) : RS X C (.Return (some e) pos) (sbind m sret) := (ps_ret he).imp fun D σ H ⟨env, F, n, q⟩ =>
  ⟨env, F, n, (EndS.seq n q).imp fun t env1 F1 H1 _ _ _ ⟨env1', n1, q1⟩ v rv => q1 v σ F1 H1 n1 Keep.refl (by unfold Back; rw [if_neg (by rw [hf]; decide)]; exact rv)⟩
theorem rs_retN (hf : C.fr = false) : RS X C (.Return none pos) (sret .non) := ps_retN.imp fun D σ H ⟨env, F, n, q⟩ => q .non σ F H n Keep.refl (by unfold Back; rw [if_neg (by rw [hf]; decide)]; exact .non)
theorem rs_retF (hf : C.fr = true) (he : RF X C e m) : RS X C (.Return (some e) pos) (sbind m sret) := (ps_ret he).imp fun D σ H ⟨env, F, n, q⟩ =>
  ⟨env, F, n, (EndS.seq n q).imp fun t env1 F1 H1 _ _ _ ⟨env1', n1, q1⟩ a ow nf ha => q1 _ σ F1 H1 n1 Keep.refl (by
    unfold Back; rw [if_pos hf]; exact ⟨a, rfl, ow, nf, (fresh_no n ha).1⟩)⟩
/-- a slot's object is let go -/
theorem Now.drop {env : Sl} {σ : St} {F : Addr → Prop} {H : Hp} (n : Now C env σ F H) (hi : i ∈ C.O) (hl : i ∉ C.B.L.map (·.1)) : Now C (env.set i none) (σ.set i none) F H := by
  refine ⟨by simp [n.len], n.bok, fun j u hj ej => ?_, fun j u hj ej => ?_, fun j w hj ej => ?_, fun j k a hj hk ej ek => ?_, fun p hp => ?_⟩
  · have z : i ≠ j := fun z => hj (z ▸ hi)
    rw [List.getElem?_set_ne z] at ej ⊢
    exact n.shr j u hj ej
  · by_cases z : i = j
    · subst z
      have hl : i < env.length := by
        have := (List.getElem?_eq_some_iff.mp ej).1
        simpa using this
      rw [List.getElem?_set_self hl] at ej
      cases ej
    · rw [List.getElem?_set_ne z] at ej ⊢
      exact n.own j u hj ej
  · by_cases z : i = j
    · subst z
      have hl : i < σ.length := by
        have := (List.getElem?_eq_some_iff.mp ej).1
        simpa using this
      rw [List.getElem?_set_self hl] at ej
      cases ej
    · rw [List.getElem?_set_ne z] at ej ⊢
      exact n.emp j w hj ej
  · have up : ∀ {j : Nat}, (σ.set i none)[j]? = some (some (V.ref a)) → σ[j]? = some (some (V.ref a)) := fun {j} ej => by
      by_cases z : i = j
      · subst z
        have hl : i < σ.length := by
          have := (List.getElem?_eq_some_iff.mp ej).1
          simpa using this
        rw [List.getElem?_set_self hl] at ej
        cases ej
      · rw [List.getElem?_set_ne z] at ej
        exact ej
    exact n.dis j k a hj hk (up ej) (up ek)
  · obtain ⟨h1, h2⟩ := n.lent p hp
    refine ⟨h1, ?_⟩
    rw [List.getElem?_set_ne (fun z : i = p.1 => hl (by rw [z]; exact List.mem_map.mpr ⟨p, hp, rfl⟩))]
    exact h2
def sretO (i : Nat) : S := sbind (slot i) fun t env => .rt t (env.set i none)
theorem sbind_slot {D : Ends} {env : Sl} {F : Addr → Prop} {H : Hp} {i : Nat} {f : PV → S} (q : EndS C D F H (sbind (slot i) f env)) : ∃ t, env[i]? = some (some t) ∧ EndS C D F H (f t env) := by
  unfold sbind slot at q
  cases e : env[i]? with
  | none => rw [e] at q; exact q.elim
  | some o =>
    cases o with
    | none => rw [e] at q; exact q.elim
    | some t => rw [e] at q; exact ⟨t, rfl, q⟩
theorem mbind_slot {α : Type} {σ : St} {env : Sl} {F : Addr → Prop} {H : Hp} {i : Nat} {f : PV → M α} {P : α → (Addr → Prop) → Hp → Prop} (q : End C σ F H (mbind (slot i) f env) P) : ∃ t, env[i]? = some (some t) ∧ End C σ F H (f t env) P := by
  unfold mbind slot at q
  cases e : env[i]? with
  | none => rw [e] at q; exact q.elim
  | some o =>
    cases o with
    | none => rw [e] at q; exact q.elim
    | some t => rw [e] at q; exact ⟨t, rfl, q⟩
theorem rs_retO {x : Str} {p : Pos} (i : Nat) (hi : i ∈ C.O) (hl : i ∉ C.B.L.map (·.1)) (h : PE X (.Name x p) (tVar i)) : RS X C (.Return (some (.Name x p)) pos) (sretO i) := (ps_ret h).imp fun D σ H ⟨env, F, n, q⟩ => by
  obtain ⟨t, e, q1⟩ := sbind_slot q
  obtain ⟨a, h1, nf, ow, h0⟩ := n.own i t hi e
  have nl : a ∉ C.B.L.map (·.2) := fun z => by
    obtain ⟨p, hp, ep⟩ := List.mem_map.mp z
    obtain ⟨k1, k2⟩ := n.lent p hp
    rw [ep] at k2
    exact hl (List.mem_map.mpr ⟨p, hp, (n.dis i p.1 a hi k1 h1 k2).symm⟩)
  have h0' : C.B.H a = none := h0.elim id fun z => absurd z nl
  have n1 := n.drop hi hl
  refine ⟨_, h1, ?_⟩
  by_cases hf : C.fr = true
  · exact q1 _ _ F H n1 Keep.refl (by unfold Back; rw [if_pos hf]; exact ⟨a, rfl, ow, nf, h0'⟩)
  · have no : ¬ Ow C (σ.set i none) a := fun ⟨j, hj, ej⟩ => by
      by_cases z : i = j
      · subst z
        have hlt : i < σ.length := by
          have := (List.getElem?_eq_some_iff.mp ej).1
          simpa using this
        rw [List.getElem?_set_self hlt] at ej
        cases ej
      · rw [List.getElem?_set_ne z] at ej
        exact z (n.dis i j a hi hj h1 ej)
    have n2 := n1.froz (p := a) ow.there h0' no
    have kk : Keep F H (fun b => F b ∨ b = a) H := ⟨fun _ h => .inl h, fun _ _ h _ => h⟩
    exact q1 _ _ _ H n2 kk (by unfold Back; rw [if_neg hf]; exact (ow.mono kk rfl).rep (.inr rfl))
def sif (t : M Bool) (f g : S) : S := sbind t fun c => if c = true then f else g
theorem rs_if {c : Expr} {a b : List Stmt} {t : M Bool} (hc : RT X C c t) (ha : RSs X C a f) (hb : RSs X C b g) : RS X C (.If c a b pos) (sif t f g) := (ps_if hc ha hb).imp fun D σ H ⟨env, F, n, q⟩ =>
  ⟨env, F, n, (EndS.seq n q).imp fun c env1 F1 H1 _ _ _ ⟨env1', n1, q1⟩ => by
    cases c with
    | true => exact ⟨env1', F1, n1, q1⟩
    | false => exact ⟨env1', F1, n1, q1⟩⟩

/-! ### raise X() -/
def sexc (c : Str) : S := fun _ => .exc c
/-- an own class of errors, without an __init__ -/
structure Exc (K : PySem.W.Frag) (mg : Str → Option Value) (x : Str) (B newId initId : String) (bmB : List Value) (A : Addr) : Prop where
  g : mg x = some (.ref A)
  q : PySem.W.excIn K A bmB newId = true
  kp : PySem.W.keepIn K (.ref A) = true
  sub : PySem.W.subIn K (.ref A) (.type "BaseException") = some true
  ty : PySem.W.typeIn K (.ref A) = some (.type "type")
theorem pmk_own0 {bmB : List Value} {B newId initId : String} {A : Addr} {x : Str} {p : Pos} (F : ExcBaseFacts B newId initId bmB) (q : PySem.W.excIn X.K A bmB newId = true) (gC : X.mg x = some (.ref A)) (kC : PySem.W.keepIn X.K (.ref A) = true) (r : Raises X (.ref A)) (hg : Gl X x)
    (hdb : (x == ("__debug__" : Str)) = false := by decide) : PMk X (.Call (.Name x p) [] [] pos) (fun _ H Q => Q (.ref A) none H) := by
  intro pins s σ H Q I h
  refine wpAny_Call_Name_kw (ld_glob I hg gC ?_ hdb)
  refine PySem.W.callWith_K0 I.kIn kC ?_
  obtain ⟨bm, N, nm, qn, bs, hdct, sn, sub, ab, col, dd, k0, k1, k2, k3, k5, mN, hC, hN, hni, T⟩ := exc_obj I.kIn q
  refine wpAny_call_exc_subT F T hC hN hni (fun h' e hm => ?_) (Nat.zero_le _)
  exact mk_of I hm r h (I.hok.gone hm.new)
theorem rs_raise (rc : RC X C k) {bmB : List Value} {B newId initId : String} {A : Addr} {x : Str} {p pos2 : Pos} (F : ExcBaseFacts B newId initId bmB) (T : Exc C.K C.mg x B newId initId bmB A) (hg : Gl X x) (hdb : (x == ("__debug__" : Str)) = false := by decide) :
    RS X C (.Raise (some (.Call (.Name x p) [] [] pos2)) none pos) (sexc x) :=
  (ps_raise rc.calm rc.tk (pmk_own0 F (by rw [rc.hK]; exact T.q) (by rw [rc.hmg]; exact T.g) (by rw [rc.hK]; exact T.kp) (raises_own (by rw [rc.hK]; exact T.sub) (by rw [rc.hK]; exact T.ty)) hg hdb)).imp fun D σ H ⟨env, F, n, q⟩ => q _ σ F H T.g n.bok

/-! ### stores into a slot's object -/
def putP (kvs : List (Key × PV)) (k : Key) (v : PV) : List (Key × PV) :=
  if (kvs.any fun kv => decide (kv.1 = k)) = true then kvs.map (fun kv => if kv.1 = k then (kv.1, v) else kv) else kvs ++ [(k, v)]
theorem RepK.any {K : PySem.W.Frag} {mg : Str → Option Value} {F : Addr → Prop} {H : Hp} (k : Key) : ∀ {ts : List (Key × PV)} {vs : List (Key × V)}, RepK K mg F H ts vs → (ts.any fun kv => decide (kv.1 = k)) = vs.any fun kv => decide (kv.1 = k)
  | _, _, .nil => rfl
  | _, _, .cons _ q => by rw [List.any_cons, List.any_cons, RepK.any k q]
theorem RepK.repl {K : PySem.W.Frag} {mg : Str → Option Value} {F : Addr → Prop} {H : Hp} (k : Key) {t : PV} {v : V} (r : Rep K mg F H t v) : ∀ {ts : List (Key × PV)} {vs : List (Key × V)}, RepK K mg F H ts vs →
    RepK K mg F H (ts.map fun kv => if kv.1 = k then (kv.1, t) else kv) (vs.map fun kv => if kv.1 = k then (kv.1, v) else kv)
  | _, _, .nil => .nil
  | _, _, .cons (k := j) p q => by
    rw [List.map_cons, List.map_cons]
    by_cases e : j = k
    · rw [if_pos e, if_pos e]; exact .cons r (RepK.repl k r q)
    · rw [if_neg e, if_neg e]; exact .cons p (RepK.repl k r q)
theorem RepK.append {K : PySem.W.Frag} {mg : Str → Option Value} {F : Addr → Prop} {H : Hp} : ∀ {ts ss : List (Key × PV)} {vs ws : List (Key × V)}, RepK K mg F H ts vs → RepK K mg F H ss ws → RepK K mg F H (ts ++ ss) (vs ++ ws)
  | _, _, _, _, .nil, q => q
  | _, _, _, _, .cons r q, p => .cons r (RepK.append q p)
theorem RepK.put {K : PySem.W.Frag} {mg : Str → Option Value} {F : Addr → Prop} {H : Hp} (k : Key) {t : PV} {v : V} (r : Rep K mg F H t v) {ts : List (Key × PV)} {vs : List (Key × V)} (q : RepK K mg F H ts vs) : RepK K mg F H (putP ts k t) (putK vs k v) := by
  unfold putP putK
  rw [q.any k]
  split
  · exact q.repl k r
  · exact q.append (.cons r .nil)
def setAt (t i v : PV) : Option PV := match t with
  | .lst ts => (asI i).bind fun k => (ixN ts.length k).map fun j => .lst (ts.set j v)
  | .dct kvs => (asKey i).bind fun k => if kvs.length < sizeLine then some (.dct (putP kvs k v)) else none
  | _ => none
theorem asI_rep {K : PySem.W.Frag} {mg : Str → Option Value} {F : Addr → Prop} {H : Hp} {t : PV} {v : V} {i : Int} (e : asI t = some i) (r : RepW K mg F H t v) : v = .int i := by
  cases t <;> simp only [asI, reduceCtorEq, Option.some.injEq] at e
  subst e
  exact r.int
/-- o[i] = v, by values -/
def rSetA : TSet := fun o i v H Q => rSetL o i v H Q ∨ rSetD o i v H Q
theorem PSet.or {t u : TSet} (h : PSet X t) (h' : PSet X u) : PSet X (fun o i v H Q => t o i v H Q ∨ u o i v H Q) := by
  intro pins s σ H o i v ov iv u Q I ro ri rv q
  rcases q with q | q
  · exact h pins s σ H o i v ov iv u Q I ro ri rv q
  · exact h' pins s σ H o i v ov iv u Q I ro ri rv q
theorem set_all (hu : X.A.units + 1 < cLine) : PSet X rSetA := PSet.or set_list (set_dict hu)
/-- the object of slot i, changed -/
theorem wrote_leaf {σ : St} {env : Sl} {F : Addr → Prop} {H : Hp} {i : Nat} {a : Addr} {t t' : PV} {o : HO} (n : Now C env σ F H) (hi : i ∈ C.O) (e : env[i]? = some (some t)) (es : σ[i]? = some (some (.ref a)))
    (ow : Keep F H F (upd H a o) → OwnR C.K C.mg F (upd H a o) a t') : Ext C σ F H F (upd H a o) ∧ Now C (env.set i (some t')) σ F (upd H a o) := by
  obtain ⟨b, eb, nf, r0, q0⟩ := n.own i t hi e
  rw [es] at eb
  cases eb
  have kk : Keep F H F (upd H a o) := ⟨fun _ h => h, fun c q h d => by
    rw [upd_ne]
    · exact h
    · rintro rfl
      rcases d with d | d
      · exact nf d
      · have := r0.mut; rw [h] at this; exact d this⟩
  exact n.wrote hi es (ow kk) ⟨t, e⟩
theorem set_leaf {σ : St} {env : Sl} {F : Addr → Prop} {H : Hp} {i : Nat} {t t' u v : PV} {w x : V} (n : Now C env σ F H) (hi : i ∈ C.O) (e : env[i]? = some (some t)) (es : setAt t u v = some t') (rw' : RepW C.K C.mg F H u w) (rx : Rep C.K C.mg F H v x) :
    ∃ a, σ[i]? = some (some (.ref a)) ∧ ∀ Q : Hp → Prop, (∀ H', Ext C σ F H F H' → Now C (env.set i (some t')) σ F H' → Q H') → rSetA (.ref a) w x H Q := by
  obtain ⟨a, h1, nf, ow, h0⟩ := n.own i t hi e
  refine ⟨a, h1, fun Q q => ?_⟩
  cases t <;> simp only [setAt, reduceCtorEq, Option.bind_eq_some_iff] at es
  · obtain ⟨k, e1, es⟩ := es
    rw [Option.map_eq_some_iff] at es
    obtain ⟨j, e2, rfl⟩ := es
    obtain ⟨vs, hv, rl⟩ := ow
    rw [asI_rep e1 rw']
    obtain ⟨x1, m1⟩ := wrote_leaf (o := .lst (vs.set j x)) (t' := .lst (_)) n hi e h1 (fun kk => ⟨_, upd_same, ((rl.mono kk).set (rx.mono kk) j)⟩)
    exact .inl ⟨a, vs, k, j, rfl, rfl, hv, by rw [← rl.length]; exact e2, q _ x1 m1⟩
  · obtain ⟨k, e1, es⟩ := es
    split at es
    · rename_i hz
      cases es
      obtain ⟨vs, hv, rk⟩ := ow
      rw [asKey_rep e1 rw']
      obtain ⟨x1, m1⟩ := wrote_leaf (o := .dK (putK vs k x)) (t' := .dct (_)) n hi e h1 (fun kk => ⟨_, upd_same, ((rk.mono kk).put k (rx.mono kk))⟩)
      exact .inr ⟨a, _, rfl, DPut.k hv (by rw [← rk.length]; exact hz), q _ x1 m1⟩
    · cases es
/-- slot[i] = v -/
def sset (i : Nat) (mi mv : M PV) : S := sbind mv fun v => sbind (slot i) fun _ => sbind mi fun k => sbind (slot i) fun t => sbind (mlift (setAt t k v)) fun t' => sput i t'
theorem EndS.lift {α : Type} {D : Ends} {env : Sl} {F : Addr → Prop} {H : Hp} {o : Option α} {f : α → S} (q : EndS C D F H (sbind (mlift o) f env)) : ∃ a, o = some a ∧ EndS C D F H (f a env) := by
  cases o with
  | none => exact q.elim
  | some a => exact ⟨a, rfl, q⟩
theorem rs_sub {x : Str} {p sp : Pos} {ix : Expr} {mi mv : M PV} (i : Nat) (hi : i ∈ C.O) (hu : X.A.units + 1 < cLine) (hx : PE X (.Name x p) (tVar i)) (hix : RW X C ix mi) (he : RE X C e mv)
    (h : ∀ {te : TE} {g : TG}, PE X e te → PG X (.Subscript (.Name x p) ix sp) g → PS X (.Assign [.Subscript (.Name x p) ix sp] e pos) (tAsg te g))
    (ha : ∀ v, assign (.Subscript (.Name x p) ix sp) X.env v = (do
      let ov ← holding [v] (eval (.Name x p) X.env)
      let iv ← holding [v, ov] (eval ix X.env)
      standAt sp
      holding [v, ov, iv] (setItem ov iv v)
      release [v, ov, iv] []) := by intro _; rfl) :
    RS X C (.Assign [.Subscript (.Name x p) ix sp] e pos) (sset i mi mv) :=
  (h he (pg_sub hx hix (set_all hu) ha)).imp fun D σ H ⟨env, F, n, q⟩ => ⟨env, F, n, (EndS.seq n q).imp fun v env1 F1 H1 _ _ _ ⟨env1', n1, q1⟩ xv rv => by
    obtain ⟨t0, e0, q2⟩ := sbind_slot q1
    obtain ⟨a0, h1, _, _⟩ := n1.own i t0 hi e0
    refine ⟨_, h1, env1', F1, n1, (EndS.seq n1 q2).imp fun u env2 F2 H2 _ _ x2 ⟨env2', n2, q3⟩ w rw' => ?_⟩
    obtain ⟨t, e2, q4⟩ := sbind_slot q3
    obtain ⟨t', e3, q5⟩ := EndS.lift q4
    obtain ⟨a, h2, leaf⟩ := set_leaf n2 hi e2 e3 rw' (rv.mono (n1.keep x2))
    rw [h1] at h2
    cases h2
    refine leaf _ fun H' x' n' => ?_
    exact q5 σ F2 H' n' (n2.keep x')⟩

/-! ### methods that change a slot's object -/
def appendP (t v : PV) : Option PV := match t with
  | .lst ts => if ts.length < sizeLine then some (.lst (ts ++ [v])) else none
  | _ => none
/-- slot.append(e) -/
def mapp (i : Nat) (mv : M PV) : M PV := mbind (slot i) fun _ => mbind mv fun v => mbind (slot i) fun t => mbind (mlift (appendP t v)) fun t' => mbind (putSlot i t') fun _ => mret .non
def isLst : PV → Bool
  | .lst _ => true
  | _ => false
theorem End.put {α : Type} {σ : St} {env : Sl} {F : Addr → Prop} {H : Hp} {i : Nat} {t : PV} {m : M α} {P : α → (Addr → Prop) → Hp → Prop} (q : End C σ F H (mbind (putSlot i t) (fun _ => m) env) P) : End C σ F H (m (env.set i (some t))) P := q
theorem End.lift2 {α β : Type} {σ : St} {env : Sl} {F : Addr → Prop} {H : Hp} {o : Option α} {f : α → M β} {P : β → (Addr → Prop) → Hp → Prop} (q : End C σ F H (mbind (mlift o) f env) P) : ∃ a, o = some a ∧ End C σ F H (f a env) P := by
  cases o with
  | none => exact q.elim
  | some a => exact ⟨a, rfl, q⟩
/-- the list of slot i, whatever it is now, is a list -/
def chkL (i : Nat) : M Unit := mbind (slot i) fun t => if isLst t = true then mret () else mstuck
theorem chkL_end {α : Type} {σ : St} {env : Sl} {F : Addr → Prop} {H : Hp} {i : Nat} {m : M α} {P : α → (Addr → Prop) → Hp → Prop} (q : End C σ F H (mbind (chkL i) (fun _ => m) env) P) : ∃ ts, env[i]? = some (some (.lst ts)) ∧ End C σ F H (m env) P := by
  unfold mbind chkL at q
  unfold mbind slot at q
  cases e : env[i]? with
  | none => rw [e] at q; exact q.elim
  | some o =>
    cases o with
    | none => rw [e] at q; exact q.elim
    | some t =>
      rw [e] at q
      cases t <;> first | exact ⟨_, rfl, q⟩ | exact q.elim
/-- slot.m(e), m a method of lists that changes it and hands back r -/
def mmut (g : PV → PV → Option (PV × PV)) (i : Nat) (mv : M PV) : M PV := mbind (chkL i) fun _ => mbind mv fun v => mbind (slot i) fun t => mbind (mlift (g t v)) fun p => mbind (putSlot i p.1) fun _ => mret p.2
def MutE (C : Cp) (g : PV → PV → Option (PV × PV)) (r : V → List V → Hp → VK → Prop) : Prop := ∀ (σ : St) (env : Sl) (F : Addr → Prop) (H : Hp) (i : Nat) (a : Addr) (t u t' w : PV) (x : V) (Q : VK), Now C env σ F H → i ∈ C.O → env[i]? = some (some t) → σ[i]? = some (some (.ref a)) → OwnR C.K C.mg F H a t →
  g t u = some (t', w) → RepW C.K C.mg F H u x → (∀ H' y, Ext C σ F H F H' → Now C (env.set i (some t')) σ F H' → Rep C.K C.mg F H' w y → Q y H') → r (.ref a) [x] H Q
theorem re_mut {id : String} {name : Str} {x : Str} {p apos : Pos} {g : PV → PV → Option (PV × PV)} {r : V → List V → Hp → VK → Prop} {mv : M PV} (hK : X.K = C.K) (i : Nat) (hi : i ∈ C.O) (oe : MutE C g r) (hx : PE X (.Name x p) (tVar i)) (he : RW X C e mv)
    (h : ∀ {t : TA}, PA X [e] t → PE X (.Call (.Attribute (.Name x p) name apos) [e] [] pos) (tBM X.K "list" r (tVar i) t))
    (hs : starEach [e] X.env = (false, eval e X.env) :: starEach [] X.env := by rfl) : RE X C (.Call (.Attribute (.Name x p) name apos) [e] [] pos) (mmut g i mv) :=
  (h (pa_cons he pa_nil hs)).imp fun σ H Q ⟨env, F, n, q⟩ => by
    obtain ⟨ts, e0, q1⟩ := chkL_end q
    obtain ⟨a, h1, _, ow, _⟩ := n.own i _ hi e0
    obtain ⟨vs, hv, _⟩ := ow
    refine ⟨_, h1, .inl ⟨rfl, _, by rw [hK]; exact .of hv⟩, env, F, n, q1.seq.imp fun u env1 F1 H1 _ _ x1 ⟨env1', n1, q2⟩ w rw' => ?_⟩
    obtain ⟨t, e2, q3⟩ := mbind_slot q2
    obtain ⟨⟨t', w'⟩, e3, q4⟩ := End.lift2 q3
    obtain ⟨a', h1', _, ow', _⟩ := n1.own i t hi e2
    rw [h1] at h1'
    cases h1'
    refine oe σ env1' F1 H1 i a t u t' w' w Q n1 hi e2 h1 ow' e3 rw' fun H' y x' n' r' => ?_
    have q5 := End.put q4
    exact q5 F1 H' n' x' y r'
def appP (t v : PV) : Option (PV × PV) := match t with
  | .lst ts => if ts.length < sizeLine then some (.lst (ts ++ [v]), .non) else none
  | _ => none
/-- a shared value is needed -/
theorem RepW.shareable {F : Addr → Prop} {H : Hp} {t : PV} {v : V} (h : Rep C.K C.mg F H t v) : RepW C.K C.mg F H t v := .rep h
def MutV (C : Cp) (g : PV → PV → Option (PV × PV)) (r : V → List V → Hp → VK → Prop) : Prop := ∀ (σ : St) (env : Sl) (F : Addr → Prop) (H : Hp) (i : Nat) (a : Addr) (t u t' w : PV) (x : V) (Q : VK), Now C env σ F H → i ∈ C.O → env[i]? = some (some t) → σ[i]? = some (some (.ref a)) → OwnR C.K C.mg F H a t →
  g t u = some (t', w) → Rep C.K C.mg F H u x → (∀ H' y, Ext C σ F H F H' → Now C (env.set i (some t')) σ F H' → Rep C.K C.mg F H' w y → Q y H') → r (.ref a) [x] H Q
theorem re_mutV {id : String} {name : Str} {x : Str} {p apos : Pos} {g : PV → PV → Option (PV × PV)} {r : V → List V → Hp → VK → Prop} {mv : M PV} (hK : X.K = C.K) (i : Nat) (hi : i ∈ C.O) (oe : MutV C g r) (hx : PE X (.Name x p) (tVar i)) (he : RE X C e mv)
    (h : ∀ {t : TA}, PA X [e] t → PE X (.Call (.Attribute (.Name x p) name apos) [e] [] pos) (tBM X.K "list" r (tVar i) t))
    (hs : starEach [e] X.env = (false, eval e X.env) :: starEach [] X.env := by rfl) : RE X C (.Call (.Attribute (.Name x p) name apos) [e] [] pos) (mmut g i mv) :=
  (h (pa_cons he pa_nil hs)).imp fun σ H Q ⟨env, F, n, q⟩ => by
    obtain ⟨ts, e0, q1⟩ := chkL_end q
    obtain ⟨a, h1, _, ow, _⟩ := n.own i _ hi e0
    obtain ⟨vs, hv, _⟩ := ow
    refine ⟨_, h1, .inl ⟨rfl, _, by rw [hK]; exact .of hv⟩, env, F, n, q1.seq.imp fun u env1 F1 H1 _ _ x1 ⟨env1', n1, q2⟩ w rw' => ?_⟩
    obtain ⟨t, e2, q3⟩ := mbind_slot q2
    obtain ⟨⟨t', w'⟩, e3, q4⟩ := End.lift2 q3
    obtain ⟨a', h1', _, ow', _⟩ := n1.own i t hi e2
    rw [h1] at h1'
    cases h1'
    refine oe σ env1' F1 H1 i a t u t' w' w Q n1 hi e2 h1 ow' e3 rw' fun H' y x' n' r' => ?_
    have q5 := End.put q4
    exact q5 F1 H' n' x' y r'
theorem mv_append : MutV C appP rAppend := by
  intro σ env F H i a t u t' w x Q n hi e h1 ow eg rx q
  cases t <;> simp only [appP, reduceCtorEq] at eg
  split at eg
  · rename_i hz
    cases eg
    obtain ⟨vs, hv, rl⟩ := ow
    obtain ⟨x1, m1⟩ := wrote_leaf (o := .lst (vs ++ [x])) (t' := .lst (_)) n hi e h1 (fun kk => ⟨_, upd_same, ((rl.mono kk).append (.cons (rx.mono kk) .nil))⟩)
    exact ⟨a, vs, x, rfl, rfl, hv, by rw [← rl.length]; exact hz, q _ _ x1 m1 .non⟩
  · cases eg
def extP (t v : PV) : Option (PV × PV) := match t, v with
  | .lst ts, .lst us => if ts.length + us.length ≤ sizeLine then some (.lst (ts ++ us), .non) else none
  | _, _ => none
theorem me_extend : MutE C extP rExtend := by
  intro σ env F H i a t u t' w x Q n hi e h1 ow eg rx q
  cases t <;> simp only [extP, reduceCtorEq] at eg
  cases u <;> simp only [reduceCtorEq] at eg
  split at eg
  · rename_i hz
    cases eg
    obtain ⟨vs, hv, rl⟩ := ow
    obtain ⟨b, ws, rfl, hw, rl2⟩ := rx.lst
    obtain ⟨x1, m1⟩ := wrote_leaf (o := .lst (vs ++ ws)) (t' := .lst (_)) n hi e h1 (fun kk => ⟨_, upd_same, ((rl.mono kk).append (rl2.mono kk))⟩)
    exact ⟨a, b, vs, ws, rfl, rfl, hv, hw, by rw [← rl.length, ← rl2.length]; exact hz, q _ _ x1 m1 .non⟩
  · cases eg
def popAtP (t v : PV) : Option (PV × PV) := match t, v with
  | .lst ts, .int k => if -(2 ^ 63) ≤ k ∧ k < 2 ^ 63 then (ixN ts.length k).bind fun j => (ts[j]?).map fun y => (.lst (ts.eraseIdx j), y) else none
  | _, _ => none
theorem me_popAt : MutE C popAtP rPopAt := by
  intro σ env F H i a t u t' w x Q n hi e h1 ow eg rx q
  cases t <;> simp only [popAtP, reduceCtorEq] at eg
  cases u <;> simp only [reduceCtorEq] at eg
  split at eg
  · rename_i hz
    rw [Option.bind_eq_some_iff] at eg
    obtain ⟨j, e2, eg⟩ := eg
    rw [Option.map_eq_some_iff] at eg
    obtain ⟨y, e3, eg⟩ := eg
    cases eg
    obtain ⟨vs, hv, rl⟩ := ow
    obtain ⟨y', e4, ry⟩ := rl.get e3
    rw [rx.int]
    obtain ⟨x1, m1⟩ := wrote_leaf (o := .lst (vs.eraseIdx j)) (t' := .lst (_)) n hi e h1 (fun kk => ⟨_, upd_same, ((rl.mono kk).eraseIdx j)⟩)
    rw [rl.length] at e2
    exact ⟨a, vs, _, j, y', rfl, rfl, hv, hz.1, hz.2, (ixN_seq e2).1, e4, q _ _ x1 m1 (ry.mono (n.keep x1))⟩
  · cases eg
/-- slot.pop() -/
def popP : PV → Option (PV × PV)
  | .lst ts => (ts[ts.length - 1]?).map fun y => (.lst ts.dropLast, y)
  | _ => none
def mpop (i : Nat) : M PV := mbind (chkL i) fun _ => mbind (slot i) fun t => mbind (mlift (popP t)) fun p => mbind (putSlot i p.1) fun _ => mret p.2
theorem re_pop {x : Str} {p apos : Pos} (hK : X.K = C.K) (i : Nat) (hi : i ∈ C.O) (hx : PE X (.Name x p) (tVar i)) (h : PE X (.Call (.Attribute (.Name x p) "pop" apos) [] [] pos) (tBM0 X.K "list" rPop (tVar i))) :
    RE X C (.Call (.Attribute (.Name x p) "pop" apos) [] [] pos) (mpop i) := h.imp fun σ H Q ⟨env, F, n, q⟩ => by
  obtain ⟨ts, e0, q1⟩ := chkL_end q
  obtain ⟨a, h1, _, ow, _⟩ := n.own i _ hi e0
  obtain ⟨vs, hv, rl⟩ := ow
  refine ⟨_, h1, .inl ⟨rfl, _, by rw [hK]; exact .of hv⟩, ?_⟩
  obtain ⟨t, e2, q3⟩ := mbind_slot q1
  rw [e0] at e2
  cases e2
  obtain ⟨⟨t', w'⟩, e3, q4⟩ := End.lift2 q3
  simp only [popP, Option.map_eq_some_iff] at e3
  obtain ⟨y, e4, e5⟩ := e3
  cases e5
  obtain ⟨y', e6, ry⟩ := rl.get e4
  obtain ⟨x1, m1⟩ := wrote_leaf (o := .lst vs.dropLast) (t' := .lst (_)) n hi e0 h1 (fun kk => ⟨_, upd_same, (rl.mono kk).dropLast⟩)
  refine ⟨a, vs, y', rfl, rfl, hv, by rw [← rl.length]; exact e6, ?_⟩
  exact End.put q4 F _ m1 x1 y' (ry.mono (n.keep x1))
end
end L2.EV

set_option Elab.async false
set_option linter.all false
set_option maxRecDepth 100000
namespace L2.EV
open PySem PySem.Spec PyProof.Rows

/-! ### targets -/
abbrev Tg := PV → Sl → Option Sl
/-- slots outside of is are as they were -/
def Out1 (is : List Nat) (σ σ' : St) : Prop := σ'.length = σ.length ∧ ∀ j, j ∉ is → σ'[j]? = σ[j]?
def rg (C : Cp) (is : List Nat) (g : Tg) : TG := fun v σ H Q => ∃ env F t, Now C env σ F H ∧ Rep C.K C.mg F H t v ∧ match g t env with
  | some e => ∀ σ', Now C e σ' F H → Out1 is σ σ' → Q σ' H
  | none => False
abbrev RG (X : Cx) (C : Cp) (is : List Nat) (e : Expr) (g : Tg) : Prop := PG X e (rg C is g)
theorem _root_.L2.PG.imp {X : Cx} {e : Expr} {t t' : TG} (h : PG X e t) (k : ∀ v σ H Q, t' v σ H Q → t v σ H Q) : PG X e t' := ⟨fun pins s σ H v u Q I r q => h.run pins s σ H v u Q I r (k v σ H Q q)⟩
theorem _root_.L2.PGs.imp {X : Cx} {e : List Expr} {t t' : TGs} (h : PGs X e t) (k : ∀ v σ H Q, t' v σ H Q → t v σ H Q) : PGs X e t' := ⟨fun pins s σ H v u Q I r q => h.run pins s σ H v u Q I r (k v σ H Q q)⟩
def tgName (i : Nat) : Tg := fun t env => some (env.set i (some t))
/-- several names in a row -/
def tgs : List Nat → List PV → Sl → Option Sl
  | [], [], env => some env
  | i :: is, t :: ts, env => tgs is ts (env.set i (some t))
  | _, _, _ => none
def tgTup (is : List Nat) : Tg := fun t env => match t with
  | .tup ts => tgs is ts env
  | _ => none
section
variable {X : Cx} {C : Cp} {k i : Nat} {e : Expr} {m : M PV} {pos : Pos}
theorem out1_set {is : List Nat} {σ : St} {i : Nat} {v : Option V} (h : i ∈ is) : Out1 is σ (σ.set i v) := ⟨by simp, fun j hj => List.getElem?_set_ne fun z : i = j => hj (by rw [← z]; exact h)⟩
theorem Out1.trans {is : List Nat} {σ σ1 σ2 : St} (a : Out1 is σ σ1) (b : Out1 is σ1 σ2) : Out1 is σ σ2 := ⟨b.1.trans a.1, fun j hj => (b.2 j hj).trans (a.2 j hj)⟩
theorem Out1.mono {is js : List Nat} {σ σ1 : St} (a : Out1 is σ σ1) (h : ∀ i ∈ is, i ∈ js) : Out1 js σ σ1 := ⟨a.1, fun j hj => a.2 j fun z => hj (h j z)⟩
theorem Out1.refl {is : List Nat} {σ : St} : Out1 is σ σ := ⟨rfl, fun _ _ => rfl⟩
theorem rg_name {x : Str} (i : Nat) (hi : i ∉ C.O) (h : PG X (.Name x pos) (gName i)) : RG X C [i] (.Name x pos) (tgName i) := h.imp fun v σ H Q ⟨env, F, t, n, r, q⟩ => q _ (n.put hi r) (out1_set (by simp))
def rgs (C : Cp) (is : List Nat) : TGs := fun vs σ H Q => ∃ env F ts, Now C env σ F H ∧ RepL C.K C.mg F H ts vs ∧ match tgs is ts env with
  | some e => ∀ σ', Now C e σ' F H → Out1 is σ σ' → Q σ' H
  | none => False
theorem rgs_nil : PGs X [] (rgs C []) := pgs_nil.imp fun vs σ H Q ⟨env, F, ts, n, r, q⟩ => by
  cases r with
  | nil => exact ⟨rfl, q _ n Out1.refl⟩
  | cons _ _ => exact q.elim
theorem rgs_cons {es : List Expr} {is : List Nat} (i : Nat) (hi : i ∉ C.O) (h1 : PG X e (gName i)) (h2 : PGs X es (rgs C is)) (hs : (assignEach (e :: es) X.env).map (·.2) = assign e X.env :: (assignEach es X.env).map (·.2) := by rfl) : PGs X (e :: es) (rgs C (i :: is)) :=
  (pgs_cons h1 h2 hs).imp fun vs σ H Q ⟨env, F, ts, n, r, q⟩ => by
    cases r with
    | nil => exact q.elim
    | @cons t v ts vs r1 r2 =>
      refine ⟨_, _, rfl, _, F, _, n.put hi r1, r2, ?_⟩
      have q' : match tgs is ts (env.set i (some t)) with
        | some e => ∀ σ', Now C e σ' F H → Out1 (i :: is) σ σ' → Q σ' H
        | none => False := q
      cases e1 : tgs is ts (env.set i (some t)) with
      | none => rw [e1] at q'; exact q'
      | some e2 => rw [e1] at q'; exact fun σ' n' o => q' σ' n' ((out1_set (by simp)).trans (o.mono fun j hj => List.mem_cons_of_mem _ hj))
theorem rg_tup {es : List Expr} {is : List Nat} {c len : Nat} (hK : X.K = C.K) (hl : is.length = len) (h : ∀ {t : TGs}, PGs X es t → PG X (.Tuple es c pos) (gTup X.K len t)) (hs : PGs X es (rgs C is)) : RG X C is (.Tuple es c pos) (tgTup is) :=
  (h hs).imp fun v σ H Q ⟨env, F, t, n, r, q⟩ => by
    cases t with
    | tup ts =>
      obtain ⟨a, vs, rfl, hq, rl⟩ := (RepW.rep r).tup
      have hlen : ∀ {is : List Nat} {ts : List PV} {env : Sl} {e : Sl}, tgs is ts env = some e → ts.length = is.length := by
        intro is
        induction is with
        | nil => intro ts env e he; cases ts with | nil => rfl | cons _ _ => cases he
        | cons i is ih => intro ts env e he; cases ts with | nil => cases he | cons t ts => rw [List.length_cons, List.length_cons, ih he]
      have q' : match tgs is ts env with
        | some e => ∀ σ', Now C e σ' F H → Out1 is σ σ' → Q σ' H
        | none => False := q
      refine ⟨a, vs, rfl, by rw [hK]; exact hq.sq, ?_, env, F, ts, n, rl, q'⟩
      cases e1 : tgs is ts env with
      | none => rw [e1] at q'; exact q'.elim
      | some e2 => rw [← rl.length, hlen e1, hl]
    | _ => exact q.elim
/-- targets = value -/
def sasg (g : Tg) (t : PV) : S := fun env => match g t env with
  | some e => .nx e
  | none => .stuck
theorem rs_asg {tg : Expr} {g : Tg} {is : List Nat} (he : RE X C e m) (hg : RG X C is tg g) (h : ∀ {te : TE} {tg' : TG}, PE X e te → PG X tg tg' → PS X (.Assign [tg] e pos) (tAsg te tg')) : RS X C (.Assign [tg] e pos) (sbind m (sasg g)) :=
  (h he hg).imp fun D σ H ⟨env, F, n, q⟩ => ⟨env, F, n, (EndS.seq n q).imp fun t env1 F1 H1 _ _ _ ⟨env1', n1, q1⟩ v rv => by
    refine ⟨env1', F1, t, n1, rv, ?_⟩
    unfold sasg at q1
    cases e1 : g t env1' with
    | none => rw [e1] at q1; exact q1.elim
    | some e2 => rw [e1] at q1; exact fun σ' n' _ => q1 σ' F1 H1 n' Keep.refl⟩

/-! ### a, b = x, y -/
/-- two plain names; o1, o2: whether a slot gets an object of its own -/
def spar (i j : Nat) (ma mb : M PV) : S := sbind ma fun t => sbind mb fun u => fun env => .nx ((env.set i (some t)).set j (some u))
/-- a value for slot i: a shared one, or a new object -/
def Fits (C : Cp) (σ : St) (H0 : Hp) (i : Nat) (F : Addr → Prop) (H : Hp) (t : PV) (v : V) : Prop :=
  (i ∉ C.O ∧ Rep C.K C.mg F H t v) ∨ (i ∈ C.O ∧ i ∉ C.B.L.map (·.1) ∧ ∃ a, v = .ref a ∧ OwnR C.K C.mg F H a t ∧ ¬ F a ∧ H0 a = none)
def rdS (C : Cp) (i : Nat) (m : M PV) : TE := fun σ H Q => ∃ env F, Now C env σ F H ∧ End C σ F H (m env) fun t F' H' => ∀ v, Fits C σ H i F' H' t v → Q v H'
theorem rds_v (hi : i ∉ C.O) (h : RE X C e m) : PE X e (rdS C i m) := h.imp fun σ H Q ⟨env, F, n, q⟩ => ⟨env, F, n, q.imp fun _ _ _ _ _ _ _ h v r => h v (.inl ⟨hi, r⟩)⟩
theorem rds_o (hi : i ∈ C.O) (hl : i ∉ C.B.L.map (·.1)) (h : RF X C e m) : PE X e (rdS C i m) := h.imp fun σ H Q ⟨env, F, n, q⟩ => ⟨env, F, n, q.imp fun _ _ _ _ _ _ _ h a ow nf ha => h _ (.inr ⟨hi, hl, a, rfl, ow, nf, ha⟩)⟩
theorem Fits.put {env : Sl} {σ : St} {H0 : Hp} {F : Addr → Prop} {H : Hp} {t : PV} {v : V} (n : Now C env σ F H) (h : Fits C σ H0 i F H t v) (h0 : ∀ a, H0 a = none → C.B.H a = none ∧ ¬ Ow C σ a) : Now C (env.set i (some t)) (σ.set i (some v)) F H := by
  rcases h with ⟨hi, r⟩ | ⟨hi, hl, a, rfl, ow, nf, ha⟩
  · exact n.put hi r
  · exact n.putO hi hl ow nf (h0 a ha).1 (h0 a ha).2
theorem rs_par {a b : Expr} {ma mb : M PV} {i j : Nat} {tg val : Expr} (hij : i ≠ j) (ha : PE X a (rdS C i ma)) (hb : PE X b (rdS C j mb)) (h : ∀ {ta : TA}, PA X [a, b] ta → PS X (.Assign [tg] val pos) (tPar i j ta))
    (hs : starEach [a, b] X.env = (false, eval a X.env) :: starEach [b] X.env := by rfl) (hs2 : starEach [b] X.env = (false, eval b X.env) :: starEach [] X.env := by rfl) : RS X C (.Assign [tg] val pos) (spar i j ma mb) :=
  (h (pa_cons ha (pa_cons hb pa_nil hs2) hs)).imp fun D σ H ⟨env, F, n, q⟩ => ⟨env, F, n, (EndS.seq n q).imp fun t env1 F1 H1 _ _ x1 ⟨env1', n1, q1⟩ v rv =>
    ⟨env1', F1, n1, (EndS.seq n1 q1).imp fun u env2 F2 H2 _ _ x2 ⟨env2', n2, q2⟩ w rw' => by
      refine ⟨v, w, rfl, ?_⟩
      have fr : ∀ {H0 : Hp} {σ1 : St} {env1 : Sl} {F1 : Addr → Prop}, Now C env1 σ1 F1 H0 → ∀ a, H0 a = none → C.B.H a = none ∧ ¬ Ow C σ1 a := fun n a ha => fresh_no n ha
      have rv2 : Fits C σ H i F2 H2 t v := by
        rcases rv with ⟨hi, r⟩ | ⟨hi, hl, a, rfl, ow, nf, ha⟩
        · exact .inl ⟨hi, r.mono (n1.keep x2)⟩
        · refine .inr ⟨hi, hl, a, rfl, ow.mono (n1.keep x2) ?_, fun f => nf (x2.nof a ow.there f), ha⟩
          cases ho : H1 a with
          | none => exact absurd ho ow.there
          | some o => exact x2.kp a o ho (fr n a ha).2
      have n3 := rv2.put n2 (fr n)
      have rw3 : Now C ((env2'.set i (some t)).set j (some u)) ((σ.set i (some v)).set j (some w)) F2 H2 := by
        refine Fits.put (σ := σ.set i (some v)) (H0 := H1) n3 rw' fun b hb => ⟨(fr n1 b hb).1, fun ⟨l, hl, el⟩ => ?_⟩
        by_cases z : i = l
        · subst z
          have hlt : i < σ.length := by
            have := (List.getElem?_eq_some_iff.mp el).1
            simpa using this
          rw [List.getElem?_set_self hlt] at el
          rcases rv with ⟨hi, _⟩ | ⟨_, _, a, rfl, ow, _, _⟩
          · exact hi hl
          · cases el
            exact ow.there hb
        · rw [List.getElem?_set_ne z] at el
          exact (fr n1 b hb).2 ⟨l, hl, el⟩
      exact q2 _ F2 H2 rw3 Keep.refl⟩⟩

/-! ### name op= e -/
def saug (g : PV → PV → Option PV) (i : Nat) (mb : M PV) : S := sbind (slot i) fun t => sbind mb fun u => sbind (mlift (g t u)) (sput i)
theorem rs_aug {x : Str} {p : Pos} {op : Operator} {ti : TIp} {g : PV → PV → Option PV} {mb : M PV} (i : Nat) (hi : i ∉ C.O) (oe : OpE C g ti) (hb : RE X C e mb) (h : ∀ {te : TE}, PE X e te → PS X (.AugAssign (.Name x p) op e pos) (tAug i te ti)) :
    RS X C (.AugAssign (.Name x p) op e pos) (saug g i mb) := (h hb).imp fun D σ H ⟨env, F, n, q⟩ => by
  obtain ⟨t, e1, q1⟩ := sbind_slot q
  obtain ⟨v, e2, r⟩ := n.shr i t hi e1
  refine ⟨v, e2, env, F, n, (EndS.seq n q1).imp fun u env1 F1 H1 _ _ x1 ⟨env1', n1, q2⟩ w rw' => ?_⟩
  obtain ⟨t', e3, q3⟩ := EndS.lift q2
  refine oe σ env1' F1 H1 t u t' v w _ n1 e3 (.rep (r.mono (n.keep x1))) (.rep rw') fun F' H' v' gr r' => ?_
  obtain ⟨n', x'⟩ := gr env1' n1
  exact q3 _ F' H' (n'.put hi r') (n1.keep x')
def iAdd (K : PySem.W.Frag) : R2 := fun x y H Q => ∃ i j, x = .int i ∧ y = .int j ∧ Q (.int (i + j)) H
def pyAddI : PV → PV → Option PV
  | .int i, .int j => some (.int (i + j))
  | _, _ => none
theorem ope_addI : OpE C pyAddI (ipI fun i j => i + j) := by
  intro σ env F H t u t' v w Q n e r1 r2 q
  unfold pyAddI at e
  split at e
  · cases e
    rw [r1.int, r2.int]
    exact ⟨_, _, rfl, rfl, q F H _ Grow.refl (.int _)⟩
  · cases e

/-! ### what is walked -/
/-- the iterator J yields ts, from the heap H on -/
def Yields (C : Cp) (ts : List PV) (J : It) (F : Addr → Prop) (H : Hp) : Prop := ∀ (i : Nat) (F' : Addr → Prop) (H' : Hp), Keep F H F' H' →
  (∀ t, ts[i]? = some t → J.go i H' ∧ ∀ x H2, J.yld i H' x H2 → ((H2 = H' ∧ Rep C.K C.mg F' H' t x) ∨ ∃ p o, H' p = none ∧ H2 = upd H' p o ∧ Rep C.K C.mg F' H2 t x)) ∧ (ts.length = i → J.stop i H')
def ri (C : Cp) (m : M (List PV)) : TI := fun σ H R => ∃ env F, Now C env σ F H ∧ End C σ F H (m env) fun ts F' H' => ∀ J, Yields C ts J F' H' → R J H'
abbrev RI (X : Cx) (C : Cp) (tg e : Expr) (m : M (List PV)) : Prop := PI X tg e (ri C m)
theorem _root_.L2.PI.imp {X : Cx} {tg e : Expr} {t t' : TI} (h : PI X tg e t) (k : ∀ σ H Q, t' σ H Q → t σ H Q) : PI X tg e t' := ⟨fun pins s σ H Q I q => h.run pins s σ H Q I (k σ H Q q)⟩

/-! ### for -/
def sfor (g : Tg) (b : S) : List PV → S
  | [], env => .nx env
  | t :: ts, env => match g t env with
    | none => .stuck
    | some e1 => match b e1 with
      | .nx e2 => sfor g b ts e2
      | .ct e2 => sfor g b ts e2
      | .bk e2 => .nx e2
      | o => o
theorem rs_for {tg it : Expr} {body : List Stmt} {g : Tg} {b : S} {mi : M (List PV)} {is : List Nat} (hi : RI X C tg it mi) (hg : RG X C is tg g) (hb : RSs X C body b)
    (h : ∀ {wi : TI} {tg' : TG} {tb : TS}, PI X tg it wi → PG X tg tg' → PSs X body tb → PS X (.For tg it body [] pos) (tFor wi tg' tb)) : RS X C (.For tg it body [] pos) (sbind mi (sfor g b)) :=
  (h hi hg hb).imp fun D σ H ⟨env, F, n, q⟩ => ⟨env, F, n, (EndS.seq n q).imp fun ts env1 F1 H1 _ _ x1 ⟨env1', n1, q1⟩ J y => by
    refine ⟨fun i m σ H => m = ts.length - i ∧ i ≤ ts.length ∧ ∃ env F, Now C env σ F H ∧ Keep F1 H1 F H ∧ EndS C D F H (sfor g b (ts.drop i) env), ⟨_, rfl, Nat.zero_le _, env1', F1, n1, Keep.refl, q1⟩, ?_⟩
    rintro i m σ2 H2 ⟨rfl, hi, env2, F2, n2, k2, q2⟩
    obtain ⟨y1, y2⟩ := y i F2 H2 k2
    by_cases hlt : i < ts.length
    · have et : ts[i]? = some ts[i] := List.getElem?_eq_getElem hlt
      obtain ⟨go, yl⟩ := y1 _ et
      rw [List.drop_eq_getElem_cons hlt] at q2
      unfold sfor at q2
      cases e1 : g ts[i] env2 with
      | none => rw [e1] at q2; exact q2.elim
      | some e2 =>
        rw [e1] at q2
        dsimp only at q2
        refine .inr ⟨go, fun σ' H' => ∃ env F, Now C env σ' F H' ∧ Keep F1 H1 F H' ∧ EndS C D F H' (sfor g b (ts.drop (i + 1)) env), fun σ' H' ⟨env, F, n', k', q'⟩ => ⟨_, by omega, rfl, hlt, env, F, n', k', q'⟩, fun x H3 hx => ?_⟩
        have run : ∀ (F3 : Addr → Prop) (H3 : Hp), Now C env2 σ2 F3 H3 → Keep F2 H2 F3 H3 → Rep C.K C.mg F3 H3 ts[i] x →
            rg C is g x σ2 H3 fun σ4 H4 => rs C b { D with nx := fun σ' H' => ∃ env F, Now C env σ' F H' ∧ Keep F1 H1 F H' ∧ EndS C D F H' (sfor g b (ts.drop (i + 1)) env), ct := fun σ' H' => ∃ env F, Now C env σ' F H' ∧ Keep F1 H1 F H' ∧ EndS C D F H' (sfor g b (ts.drop (i + 1)) env), bk := D.nx } σ4 H4 := fun F3 H3 n3 k3 r3 => by
          refine ⟨env2, F3, _, n3, r3, ?_⟩
          rw [e1]
          refine fun σ4 n4 _ => ⟨e2, F3, n4, ?_⟩
          cases e3 : b e2 with
          | nx e4 => rw [e3] at q2; exact fun σ' F' H' n' k' => ⟨e4, F', n', k2.trans (k3.trans k'), EndS.keep (k3.trans k') q2⟩
          | ct e4 => rw [e3] at q2; exact fun σ' F' H' n' k' => ⟨e4, F', n', k2.trans (k3.trans k'), EndS.keep (k3.trans k') q2⟩
          | bk e4 => rw [e3] at q2; exact fun σ' F' H' n' k' => q2 σ' F' H' n' (k3.trans k')
          | rt t e4 => rw [e3] at q2; exact fun v σ' F' H' n' k' => q2 v σ' F' H' n' (k3.trans k')
          | exc c => rw [e3] at q2; exact q2
          | stuck => rw [e3] at q2; exact q2.elim
        rcases yl x H3 hx with ⟨rfl, r3⟩ | ⟨p, o, hp, rfl, r3⟩
        · exact run F2 H3 n2 Keep.refl r3
        · obtain ⟨x3, n3⟩ := n2.laid (o := o) hp
          exact run F2 _ n3 (n2.keep x3) r3
    · have hz : i = ts.length := by omega
      subst hz
      rw [List.drop_length] at q2
      exact .inl ⟨y2 rfl, q2 σ2 F2 H2 n2 Keep.refl⟩⟩

/-! ### while -/
/-- at most fuel turns -/
def swhile (t : M Bool) (b : S) : Nat → S
  | 0, _ => .stuck
  | fuel + 1, env => match t env with
    | .exc c => .exc c
    | .stuck => .stuck
    | .ok false e1 => .nx e1
    | .ok true e1 => match b e1 with
      | .nx e2 => swhile t b fuel e2
      | .ct e2 => swhile t b fuel e2
      | .bk e2 => .nx e2
      | o => o
theorem rs_while {c : Expr} {body : List Stmt} {t : M Bool} {b : S} (fuel : Sl → Nat) (hc : RT X C c t) (hb : RSs X C body b) (h : ∀ {tc : TT} {tb : TS}, PT X c tc → PSs X body tb → PS X (.While c body [] pos) (tWhile tc tb)) :
    RS X C (.While c body [] pos) (fun env => swhile t b (fuel env) env) :=
  (h hc hb).imp fun D σ H ⟨env, F, n, q⟩ => by
    refine ⟨fun m σ2 H2 => ∃ env F2, Now C env σ2 F2 H2 ∧ Keep F H F2 H2 ∧ EndS C D F2 H2 (swhile t b m env), ⟨fuel env, env, F, n, Keep.refl, q⟩, ?_⟩
    rintro m σ2 H2 ⟨env2, F2, n2, k2, q2⟩
    cases m with
    | zero => exact q2.elim
    | succ m =>
      refine ⟨env2, F2, n2, ?_⟩
      unfold swhile at q2
      cases e1 : t env2 with
      | exc c => rw [e1] at q2; exact q2
      | stuck => rw [e1] at q2; exact q2.elim
      | ok c e2 =>
        rw [e1] at q2
        intro F3 H3 n3 x3
        have k3 := n2.keep x3
        cases c with
        | false =>
          dsimp only
          rw [if_neg Bool.false_ne_true]
          exact q2 σ2 F3 H3 n3 k3
        | true =>
          dsimp only
          rw [if_pos rfl]
          refine ⟨fun σ' H' => ∃ env F', Now C env σ' F' H' ∧ Keep F H F' H' ∧ EndS C D F' H' (swhile t b m env), fun σ' H' z => ⟨m, Nat.lt_succ_self m, z⟩, e2, F3, n3, ?_⟩
          simp only at q2
          cases e3 : b e2 with
          | nx e4 => rw [e3] at q2; exact fun σ' F' H' n' k' => ⟨e4, F', n', k2.trans (k3.trans k'), EndS.keep (k3.trans k') q2⟩
          | ct e4 => rw [e3] at q2; exact fun σ' F' H' n' k' => ⟨e4, F', n', k2.trans (k3.trans k'), EndS.keep (k3.trans k') q2⟩
          | bk e4 => rw [e3] at q2; exact fun σ' F' H' n' k' => q2 σ' F' H' n' (k3.trans k')
          | rt t e4 => rw [e3] at q2; exact fun v σ' F' H' n' k' => q2 v σ' F' H' n' (k3.trans k')
          | exc c => rw [e3] at q2; exact q2
          | stuck => rw [e3] at q2; exact q2.elim
end
end L2.EV

set_option Elab.async false
set_option linter.all false
set_option maxRecDepth 100000
namespace L2.EV
open PySem PySem.Spec PyProof.Rows

/-! ### comprehensions -/
/-- within a comprehension no exception leaves -/
def Cp.blk (C : Cp) : Cp := { C with W := fun _ _ _ _ => False }
def wipeE (env : Sl) : List Nat → Sl
  | [] => env
  | v :: vs => (wipeE env vs).set v none
/-- the block's names as they were -/
def unw (env : Sl) : List Nat → Sl → Sl
  | [], e => e
  | v :: vs, e => (unw env vs e).set v (env[v]?).join
/-- the items of the new list -/
def lcL (vs : List Nat) (g : Tg) (tt : M Bool) (te : M PV) : List PV → M (List PV)
  | [], env => .ok [] env
  | t :: ts, env => match g t (wipeE env vs) with
    | none => .stuck
    | some e1 => match tt e1 with
      | .ok false e2 => lcL vs g tt te ts (unw env vs e2)
      | .ok true e2 => match te e2 with
        | .ok y e3 => match lcL vs g tt te ts (unw env vs e3) with
          | .ok ys e4 => .ok (y :: ys) e4
          | _ => .stuck
        | _ => .stuck
      | _ => .stuck
def lcM (vs : List Nat) (g : Tg) (tt : M Bool) (te : M PV) (mi : M (List PV)) : M PV := mbind mi fun ts => mbind (lcL vs g tt te ts) fun ys => if ys.length ≤ sizeLine then mret (.lst ys) else mstuck

section
variable {C : Cp}
theorem Now.toBlk {env : Sl} {σ : St} {F : Addr → Prop} {H : Hp} (n : Now C env σ F H) : Now C.blk env σ F H := ⟨n.len, n.bok, n.shr, n.own, n.emp, n.dis, n.lent⟩
theorem Now.ofBlk {env : Sl} {σ : St} {F : Addr → Prop} {H : Hp} (n : Now C.blk env σ F H) : Now C env σ F H := ⟨n.len, n.bok, n.shr, n.own, n.emp, n.dis, n.lent⟩
theorem Ext.ofBlk {σ : St} {F F' : Addr → Prop} {H H' : Hp} (x : Ext C.blk σ F H F' H') : Ext C σ F H F' H' := ⟨x.fm, x.kp, x.dom, x.nof⟩
theorem Now.wipe1 {env : Sl} {σ : St} {F : Addr → Prop} {H : Hp} {i : Nat} (n : Now C env σ F H) (hi : i ∉ C.O) : Now C (env.set i none) (σ.set i none) F H := by
  have ne : ∀ {j}, j ∈ C.O → i ≠ j := fun hj z => hi (by rw [z]; exact hj)
  refine ⟨by simp [n.len], n.bok, fun j u hj ej => ?_, fun j u hj ej => ?_, fun j w hj ej => ?_, fun j k a hj hk ej ek => ?_, fun p hp => ?_⟩
  · by_cases z : i = j
    · subst z
      have hl : i < env.length := by
        have := (List.getElem?_eq_some_iff.mp ej).1
        simpa using this
      rw [List.getElem?_set_self hl] at ej
      cases ej
    · rw [List.getElem?_set_ne z] at ej ⊢
      exact n.shr j u hj ej
  · rw [List.getElem?_set_ne (ne hj)] at ej ⊢
    exact n.own j u hj ej
  · rw [List.getElem?_set_ne (ne hj)] at ej ⊢
    exact n.emp j w hj ej
  · rw [List.getElem?_set_ne (ne hj)] at ej
    rw [List.getElem?_set_ne (ne hk)] at ek
    exact n.dis j k a hj hk ej ek
  · obtain ⟨h1, h2⟩ := n.lent p hp
    refine ⟨h1, ?_⟩
    rw [List.getElem?_set_ne (ne h1)]
    exact h2
theorem Now.wipe {env : Sl} {σ : St} {F : Addr → Prop} {H : Hp} (n : Now C env σ F H) : ∀ {vs : List Nat}, (∀ i ∈ vs, i ∉ C.O) → Now C (wipeE env vs) (L2.wipe σ vs) F H
  | [], _ => n
  | v :: vs, h => (Now.wipe n fun i hi => h i (List.mem_cons_of_mem _ hi)).wipe1 (h v (by simp))
theorem wipe_get {σ : St} {j : Nat} : ∀ {vs : List Nat}, j ∉ vs → (L2.wipe σ vs)[j]? = σ[j]?
  | [], _ => rfl
  | v :: vs, h => by
    show ((L2.wipe σ vs).set v none)[j]? = σ[j]?
    rw [List.getElem?_set_ne (fun z : v = j => h (by rw [z]; simp)), wipe_get fun z => h (List.mem_cons_of_mem _ z)]
theorem wipe_in {σ : St} {j : Nat} : ∀ {vs : List Nat}, j ∈ vs → (L2.wipe σ vs)[j]? = if j < σ.length then some none else none
  | v :: vs, h => by
    show ((L2.wipe σ vs).set v none)[j]? = _
    by_cases z : v = j
    · subst z
      rw [List.getElem?_set]
      rw [if_pos rfl, wipe_length]
    · rw [List.getElem?_set_ne z]
      exact wipe_in ((List.mem_cons.mp h).elim (fun q => absurd q.symm z) id)
theorem wipe_out {is vs : List Nat} {σ σ' : St} (h : Out1 is (L2.wipe σ vs) σ') (hs : ∀ i ∈ is, i ∈ vs) : L2.wipe σ' vs = L2.wipe σ vs := by
  have hl : σ'.length = σ.length := h.1.trans (wipe_length σ vs)
  refine List.ext_getElem? fun j => ?_
  by_cases hj : j ∈ vs
  · rw [wipe_in hj, wipe_in hj, hl]
  · rw [wipe_get hj, wipe_get hj, h.2 j fun z => hj (hs j z), wipe_get hj]
theorem unw_length {env e : Sl} : ∀ {vs : List Nat}, (unw env vs e).length = e.length
  | [] => rfl
  | v :: vs => by
    show ((unw env vs e).set v _).length = _
    rw [List.length_set, unw_length]
theorem unw_out {env e : Sl} {j : Nat} : ∀ {vs : List Nat}, j ∉ vs → (unw env vs e)[j]? = e[j]?
  | [], _ => rfl
  | v :: vs, h => by
    show ((unw env vs e).set v _)[j]? = _
    rw [List.getElem?_set_ne (fun z : v = j => h (by rw [z]; simp)), unw_out fun z => h (List.mem_cons_of_mem _ z)]
theorem unw_in {env e : Sl} {j : Nat} (hl : env.length = e.length) : ∀ {vs : List Nat}, j ∈ vs → (unw env vs e)[j]? = env[j]?
  | v :: vs, h => by
    show ((unw env vs e).set v _)[j]? = _
    by_cases z : v = j
    · subst z
      rw [List.getElem?_set, if_pos rfl, unw_length]
      by_cases hlt : v < e.length
      · rw [if_pos hlt, List.getElem?_eq_getElem (by omega)]
        rfl
      · rw [if_neg hlt, List.getElem?_eq_none (by omega)]
    · rw [List.getElem?_set_ne z]
      exact unw_in hl ((List.mem_cons.mp h).elim (fun q => absurd q.symm z) id)
/-- behind a turn -/
theorem Now.unwipe {env e : Sl} {σ σ2 : St} {F F' : Addr → Prop} {H H' : Hp} {vs : List Nat} (n : Now C env σ F H) (n2 : Now C e σ2 F' H') (k : Keep F H F' H') (hv : ∀ i ∈ vs, i ∉ C.O) (h : L2.wipe σ2 vs = L2.wipe σ vs) : Now C (unw env vs e) σ F' H' := by
  have hl : σ2.length = σ.length := by
    have := congrArg List.length h
    rwa [wipe_length, wipe_length] at this
  have hle : env.length = e.length := by rw [n.len, n2.len, hl]
  have eq : ∀ {j}, j ∉ vs → σ2[j]? = σ[j]? := fun {j} hj => by
    have := congrArg (fun l => l[j]?) h
    simp only [wipe_get hj] at this
    exact this
  have nv : ∀ {j}, j ∈ C.O → j ∉ vs := fun hj z => hv _ z hj
  refine ⟨by rw [unw_length, ← hle, n.len], n2.bok, fun j u hj ej => ?_, fun j u hj ej => ?_, fun j w hj ej => ?_, n.dis, n.lent⟩
  · by_cases hjv : j ∈ vs
    · rw [unw_in hle hjv] at ej
      obtain ⟨v, e1, r⟩ := n.shr j u hj ej
      exact ⟨v, e1, r.mono k⟩
    · rw [unw_out hjv] at ej
      obtain ⟨v, e1, r⟩ := n2.shr j u hj ej
      exact ⟨v, by rw [← eq hjv]; exact e1, r⟩
  · rw [unw_out (nv hj)] at ej
    obtain ⟨a, e1, r⟩ := n2.own j u hj ej
    exact ⟨a, by rw [← eq (nv hj)]; exact e1, r⟩
  · rw [unw_out (nv hj)]
    rw [← eq (nv hj)] at ej
    exact n2.emp j w hj ej
theorem Ow.wipe {σ σ2 : St} {vs : List Nat} {a : Addr} (hv : ∀ i ∈ vs, i ∉ C.O) (h : L2.wipe σ2 vs = L2.wipe σ vs) : Ow C σ2 a ↔ Ow C σ a := by
  have eq : ∀ {j}, j ∉ vs → σ2[j]? = σ[j]? := fun {j} hj => by
    have := congrArg (fun l => l[j]?) h
    simp only [wipe_get hj] at this
    exact this
  constructor
  · rintro ⟨i, hi, e⟩
    exact ⟨i, hi, by rw [← eq fun z => hv i z hi]; exact e⟩
  · rintro ⟨i, hi, e⟩
    exact ⟨i, hi, by rw [eq fun z => hv i z hi]; exact e⟩
theorem ow_congr {σ σ2 : St} {vs : List Nat} (hv : ∀ i ∈ vs, i ∉ C.O) (h : L2.wipe σ2 vs = L2.wipe σ vs) {F F' : Addr → Prop} {H H' : Hp} (x : Ext C σ2 F H F' H') : Ext C σ F H F' H' :=
  ⟨x.fm, fun a o e no => x.kp a o e fun z => no ((Ow.wipe hv h).mp z), x.dom, x.nof⟩
end

def rtt (C : Cp) (m : M Bool) : TT := rt C m
section
variable {X : Cx} {C : Cp} {k : Nat} {elt tg iter : Expr} {ifs : List Expr} {scope : Scope} {own : List (Str × Nat)} {pos : Pos} {g : Tg} {is : List Nat} {tt : M Bool} {te : M PV} {mi : M (List PV)}
def tYesM : M Bool := mret true
theorem rts_nil : PTs X [] (rt C tYesM) := ⟨fun pins s σ H Q I ⟨env, F, n, q⟩ => pts_nil.run pins s σ H Q I (q.ret n)⟩
theorem rts_one {c : Expr} (h : RT X C c tt) : PTs X [c] (rt C tt) := pts_one h
/-- a list that no slot and no value knows grows -/
theorem Now.over {env : Sl} {σ : St} {F : Addr → Prop} {H : Hp} {D : Addr} {o : HO} (n : Now C env σ F H) (hF : ¬ F D) (ho : ¬ Ow C σ D) (h0 : C.B.H D = none) (hm : Mut (H D)) : Now C env σ F (upd H D o) ∧ Keep F H F (upd H D o) := by
  have kk : Keep F H F (upd H D o) := ⟨fun _ h => h, fun c q h d => by
    rw [upd_ne]
    · exact h
    · rintro rfl
      rcases d with d | d
      · exact hF d
      · rw [h] at hm; exact d hm⟩
  have dm : ∀ a, H a ≠ none → upd H D o a ≠ none := fun a h => by
    by_cases z : a = D
    · rw [z, upd_same]; simp
    · rw [upd_ne z]; exact h
  refine ⟨⟨n.len, ⟨n.bok.fm, fun a q h nl => ?_, n.bok.nof, fun a h => dm a (n.bok.dom a h), fun a f => dm a (n.bok.fd a f)⟩, fun i t hi e => ?_, fun i t hi e => ?_, n.emp, n.dis, n.lent⟩, kk⟩
  · rw [upd_ne (fun z => by rw [z, h0] at h; cases h)]
    exact n.bok.kp a q h nl
  · obtain ⟨v, e1, r⟩ := n.shr i t hi e
    exact ⟨v, e1, r.mono kk⟩
  · obtain ⟨a, e1, nf, r, q⟩ := n.own i t hi e
    exact ⟨a, e1, nf, r.mono kk (upd_ne fun z => ho (z ▸ ⟨i, hi, e1⟩)), q⟩
theorem lcL_exc {vs : List Nat} {c : Str} : ∀ {ts : List PV} {env : Sl}, lcL vs g tt te ts env ≠ .exc c
  | [], _ => fun h => nomatch h
  | t :: ts, env => fun h => by
    unfold lcL at h
    split at h
    · cases h
    · split at h
      · exact lcL_exc h
      · split at h
        · split at h <;> cases h
        · cases h
      · cases h
/-- the reading of a comprehension, from the readings of its parts -/
theorem lc_rd {σ : St} {H : Hp} {Q : VK} {vs : List Nat} (hv : ∀ i ∈ vs, i ∉ C.O) (his : ∀ i ∈ is, i ∈ vs) (h : rdF C (lcM vs g tt te mi) σ H Q) : tLc (ri C mi) (rg C.blk is g) (rt C.blk tt) (rd C.blk te) vs σ H Q := by
  obtain ⟨env, F, n, q⟩ := h
  refine ⟨env, F, n, q.seq.imp fun ts env1 F1 H1 _ _ x1 ⟨env1', n1, q1⟩ J y D hD => ?_⟩
  have hD0 : H D = none := by
    cases z : H D with
    | none => rfl
    | some o => exact absurd hD (x1.dom D (by rw [z]; simp))
  obtain ⟨xD, nD⟩ := n1.laid (o := .lst []) hD
  obtain ⟨hB, hOw⟩ := fresh_no n1 hD
  -- what is still to be done, behind the items so far
  refine ⟨fun i m Hc => m = ts.length - i ∧ i ≤ ts.length ∧ ∃ env F acc vs2, Now C env σ F Hc ∧ Ext C σ F1 H1 F Hc ∧ Hc D = some (.lst vs2) ∧ RepL C.K C.mg F Hc acc vs2 ∧ ¬ F D ∧
      (∃ ys e4, lcL vs g tt te (ts.drop i) env = .ok ys e4 ∧ (acc ++ ys).length ≤ sizeLine ∧ ∀ F' H', Now C e4 σ F' H' → Ext C σ F1 H1 F' H' → OwnR C.K C.mg F' H' D (.lst (acc ++ ys)) → ¬ F' D → Q (.ref D) H'),
    ⟨_, rfl, Nat.zero_le _, env1', F1, [], [], nD, xD, upd_same, .nil, fun f => n1.bok.fd D f hD, ?_⟩, ?_⟩
  · rw [List.drop_zero]
    unfold mbind at q1
    cases e : lcL vs g tt te ts env1' with
    | exc c => exact absurd e lcL_exc
    | stuck => rw [e] at q1; exact q1.elim
    | ok ys e4 =>
      rw [e] at q1
      dsimp only at q1
      split at q1
      · rename_i hz
        exact ⟨ys, e4, rfl, hz, fun F' H' n' x' ow nf => q1 F' H' n' x' D ow nf hD0⟩
      · exact q1.elim
  · rintro i m Hc ⟨rfl, hi, env2, F2, acc, vs2, n2, x2, hDc, rl, nf, ys, e4, el, hz, fin⟩
    obtain ⟨y1, y2⟩ := y i F2 Hc (n1.keep x2)
    by_cases hlt : i < ts.length
    · have et : ts[i]? = some ts[i] := List.getElem?_eq_getElem hlt
      obtain ⟨go, yl⟩ := y1 _ et
      rw [List.drop_eq_getElem_cons hlt] at el
      unfold lcL at el
      cases eg : g ts[i] (wipeE env2 vs) with
      | none => rw [eg] at el; cases el
      | some e1 =>
        rw [eg] at el
        dsimp only at el
        refine .inr ⟨go, fun H' => i + 1 ≤ ts.length ∧ ∃ env F acc vs2, Now C env σ F H' ∧ Ext C σ F1 H1 F H' ∧ H' D = some (.lst vs2) ∧ RepL C.K C.mg F H' acc vs2 ∧ ¬ F D ∧
          (∃ ys e4, lcL vs g tt te (ts.drop (i + 1)) env = .ok ys e4 ∧ (acc ++ ys).length ≤ sizeLine ∧ ∀ F' H', Now C e4 σ F' H' → Ext C σ F1 H1 F' H' → OwnR C.K C.mg F' H' D (.lst (acc ++ ys)) → ¬ F' D → Q (.ref D) H'),
          fun H' z => ⟨_, by omega, rfl, z⟩, fun x H3 hx => ?_⟩
        have run : ∀ (H3 : Hp), Now C env2 σ F2 H3 → Ext C σ F2 Hc F2 H3 → H3 D = some (.lst vs2) → RepL C.K C.mg F2 H3 acc vs2 → Rep C.K C.mg F2 H3 ts[i] x →
            rg C.blk is g x (L2.wipe σ vs) H3 fun σ2 H2 => L2.wipe σ2 vs = L2.wipe σ vs ∧ rt C.blk tt σ2 H2 fun b H4 =>
              if b = true then rd C.blk te σ2 H4 fun y H5 => ∃ acc, H5 D = some (.lst acc) ∧ acc.length < sizeLine ∧ (i + 1 ≤ ts.length ∧ ∃ env F acc_1 vs2, Now C env σ F (upd H5 D (.lst (acc ++ [y]))) ∧ Ext C σ F1 H1 F (upd H5 D (.lst (acc ++ [y]))) ∧ (upd H5 D (.lst (acc ++ [y]))) D = some (.lst vs2) ∧ RepL C.K C.mg F (upd H5 D (.lst (acc ++ [y]))) acc_1 vs2 ∧ ¬ F D ∧
                (∃ ys e4, lcL vs g tt te (ts.drop (i + 1)) env = .ok ys e4 ∧ (acc_1 ++ ys).length ≤ sizeLine ∧ ∀ F' H', Now C e4 σ F' H' → Ext C σ F1 H1 F' H' → OwnR C.K C.mg F' H' D (.lst (acc_1 ++ ys)) → ¬ F' D → Q (.ref D) H'))
              else (i + 1 ≤ ts.length ∧ ∃ env F acc vs2, Now C env σ F H4 ∧ Ext C σ F1 H1 F H4 ∧ H4 D = some (.lst vs2) ∧ RepL C.K C.mg F H4 acc vs2 ∧ ¬ F D ∧
                (∃ ys e4, lcL vs g tt te (ts.drop (i + 1)) env = .ok ys e4 ∧ (acc ++ ys).length ≤ sizeLine ∧ ∀ F' H', Now C e4 σ F' H' → Ext C σ F1 H1 F' H' → OwnR C.K C.mg F' H' D (.lst (acc ++ ys)) → ¬ F' D → Q (.ref D) H')) := by
          intro H3 n3 x3 hD3 rl3 r3
          refine ⟨wipeE env2 vs, F2, _, (n3.wipe hv).toBlk, r3, ?_⟩
          rw [eg]
          intro σ2 n4 o4
          have hw := wipe_out o4 his
          have noD : ¬ Ow C σ2 D := fun z => hOw ((Ow.wipe hv hw).mp z)
          refine ⟨hw, e1, F2, n4, ?_⟩
          cases e5 : tt e1 with
          | exc c => rw [e5] at el; cases el
          | stuck => rw [e5] at el; cases el
          | ok b e6 =>
            rw [e5] at el
            intro F5 H5 n5 x5
            have k5 := n4.keep x5
            have hD5 : H5 D = some (.lst vs2) := x5.kp D _ hD3 noD
            have nf5 : ¬ F5 D := fun f => nf (x5.nof D (by rw [hD3]; simp) f)
            have x35 := x2.trans (x3.trans (ow_congr hv hw x5.ofBlk))
            cases b with
            | false =>
              dsimp only
              rw [if_neg Bool.false_ne_true]
              exact ⟨hlt, unw env2 vs e6, F5, acc, vs2, n3.unwipe n5.ofBlk k5 hv hw, x35, hD5, rl3.mono k5, nf5, ys, e4, el, hz, fin⟩
            | true =>
              dsimp only
              rw [if_pos rfl]
              dsimp only at el
              refine ⟨e6, F5, n5, ?_⟩
              cases e7 : te e6 with
              | exc c => rw [e7] at el; cases el
              | stuck => rw [e7] at el; cases el
              | ok yv e8 =>
                rw [e7] at el
                dsimp only at el
                cases e9 : lcL vs g tt te (ts.drop (i + 1)) (unw env2 vs e8) with
                | exc c => rw [e9] at el; cases el
                | stuck => rw [e9] at el; cases el
                | ok ys2 e10 =>
                  rw [e9] at el
                  dsimp only at el
                  cases el
                  intro F6 H6 n6 x6 v rv
                  have k6 := n5.keep x6
                  have hD6 : H6 D = some (.lst vs2) := x6.kp D _ hD5 noD
                  have nf6 : ¬ F6 D := fun f => nf5 (x6.nof D (by rw [hD5]; simp) f)
                  have n7 := n3.unwipe n6.ofBlk (k5.trans k6) hv hw
                  have x7 := x35.trans (ow_congr hv hw x6.ofBlk)
                  obtain ⟨n8, k8⟩ := n7.over (o := .lst (vs2 ++ [v])) nf6 hOw hB (by rw [hD6]; trivial)
                  have rl6 := (rl3.mono k5).mono k6
                  have hz' : acc.length + (ys2.length + 1) ≤ sizeLine := by simpa using hz
                  refine ⟨vs2, hD6, by rw [← rl6.length]; omega, hlt, unw env2 vs e8, F6, acc ++ [yv], vs2 ++ [v], n8, ⟨x7.fm, fun a o ho no => ?_, fun a ho => ?_, x7.nof⟩, upd_same, (rl6.append (.cons rv .nil)).mono k8, nf6, ys2, _, e9, by simpa using hz, fun F' H' n' x' ow nf' => ?_⟩
                  · rw [upd_ne (fun z => by rw [z, hD] at ho; cases ho)]
                    exact x7.kp a o ho no
                  · by_cases z : a = D
                    · rw [z, upd_same]; simp
                    · rw [upd_ne z]; exact x7.dom a ho
                  · refine fin F' H' n' x' ?_ nf'
                    rw [List.append_assoc, List.singleton_append] at ow
                    exact ow
        rcases yl x H3 hx with ⟨rfl, r3⟩ | ⟨p, o, hp, rfl, r3⟩
        · exact run _ n2 Ext.refl hDc rl r3
        · obtain ⟨x3, n3⟩ := n2.laid (o := o) hp
          exact run _ n3 x3 (by rw [upd_ne (ne_of_none hDc hp)]; exact hDc) (rl.mono (n2.keep x3)) r3
    · have hz' : i = ts.length := by omega
      subst hz'
      rw [List.drop_length] at el
      cases el
      rw [List.append_nil] at fin
      exact .inl ⟨y2 rfl, fin F2 Hc n2 x2 ⟨vs2, hDc, rl⟩ nf⟩
end
end L2.EV

set_option Elab.async false
set_option linter.all false
set_option maxRecDepth 100000
namespace L2.EV
open PySem PySem.Spec PyProof.Rows

section
variable {X : Cx} {C : Cp} {k : Nat}
/-- a block's context -/
theorem RC.blk (rc : RC X C k) {s : Shared} {H : Hp} {scope : Scope} {cenv : Env} {fp : List Addr} : RC (X.blk s H scope cenv fp) C.blk k := ⟨rc.hK, rc.hmg, rc.calm, rc.nd, takes0, rc.room⟩
section
variable {elt tg iter : Expr} {ifs : List Expr} {scope : Scope} {pos : Pos} {g : Tg} {is vs : List Nat} {tt : M Bool} {te : M PV} {mi : M (List PV)}
theorem rf_lc (hv : ∀ i ∈ vs, i ∉ C.O) (his : ∀ i ∈ is, i ∈ vs) {e : Expr} (h : PE X e (tLc (ri C mi) (rg C.blk is g) (rt C.blk tt) (rd C.blk te) vs)) : RF X C e (lcM vs g tt te mi) := h.imp fun _ _ _ h => lc_rd hv his h
theorem rs_setLc {i : Nat} {st : Stmt} (hi : i ∉ C.O) (hv : ∀ i ∈ vs, i ∉ C.O) (his : ∀ i ∈ is, i ∈ vs) (h : PS X st (tAsg (tLc (ri C mi) (rg C.blk is g) (rt C.blk tt) (rd C.blk te) vs) (gName i))) : RS X C st (sbind (lcM vs g tt te mi) (sput i)) :=
  h.imp fun D σ H ⟨env, F, n, q⟩ => lc_rd hv his (rd_rdF ⟨env, F, n, (EndS.seq n q).imp fun t env1 F1 H1 _ _ _ ⟨env1', n1, q1⟩ v rv => q1 _ F1 H1 (n1.put hi rv) Keep.refl⟩)
theorem rs_setLcO {i : Nat} {st : Stmt} (hi : i ∈ C.O) (hl : i ∉ C.B.L.map (·.1)) (hv : ∀ i ∈ vs, i ∉ C.O) (his : ∀ i ∈ is, i ∈ vs) (h : PS X st (tAsg (tLc (ri C mi) (rg C.blk is g) (rt C.blk tt) (rd C.blk te) vs) (gName i))) : RS X C st (sbind (lcM vs g tt te mi) (sput i)) :=
  h.imp fun D σ H ⟨env, F, n, q⟩ => lc_rd hv his ⟨env, F, n, (EndS.seq n q).imp fun t env1 F1 H1 _ _ _ ⟨env1', n1, q1⟩ a ow nf ha => by
    obtain ⟨h0, no⟩ := fresh_no n ha
    exact q1 _ F1 H1 (n1.putO hi hl ow nf h0 no) Keep.refl⟩
end
end

/-! ### what a def promises -/
/-- the arguments: values, and objects lent (with the places of their parameters) -/
inductive ArgL (K : PySem.W.Frag) (mg : Str → Option Value) (F : Addr → Prop) (H : Hp) : Nat → List Bool → List PV → List V → List (Nat × Addr) → Prop
  | nil {n : Nat} : ArgL K mg F H n [] [] [] []
  | val {n : Nat} {sig : List Bool} {t : PV} {v : V} {ts : List PV} {vs : List V} {L : List (Nat × Addr)} : Rep K mg F H t v → ArgL K mg F H (n + 1) sig ts vs L → ArgL K mg F H n (false :: sig) (t :: ts) (v :: vs) L
  | lent {n : Nat} {sig : List Bool} {t : PV} {a : Addr} {ts : List PV} {vs : List V} {L : List (Nat × Addr)} : OwnR K mg F H a t → ¬ F a → a ∉ L.map (·.2) → ArgL K mg F H (n + 1) sig ts vs L →
      ArgL K mg F H n (true :: sig) (t :: ts) (.ref a :: vs) ((n, a) :: L)
inductive MuR (K : PySem.W.Frag) (mg : Str → Option Value) (F : Addr → Prop) (H : Hp) : List (Nat × Addr) → List PV → Prop
  | nil : MuR K mg F H [] []
  | cons {p : Nat × Addr} {t : PV} {L : List (Nat × Addr)} {ts : List PV} : OwnR K mg F H p.2 t → MuR K mg F H L ts → MuR K mg F H (p :: L) (t :: ts)
def RetR (K : PySem.W.Frag) (mg : Str → Option Value) (fr : Bool) (F' : Addr → Prop) (H H' : Hp) (t : PV) (v : V) : Prop :=
  if fr = true then ∃ a, v = .ref a ∧ OwnR K mg F' H' a t ∧ ¬ F' a ∧ H a = none else Rep K mg F' H' t v
def spEv (K : PySem.W.Frag) (mg : Str → Option Value) (sig : List Bool) (fr : Bool) (f : List PV → FO) : Sp := fun vs H Q E => vs.length = sig.length ∧ ∃ F ts L, (∀ a, F a → H a ≠ none) ∧ ArgL K mg F H 0 sig ts vs L ∧ match f ts with
  | .ok t mu => ∀ v F' H', Bok ⟨H, F, L⟩ F' H' → MuR K mg F' H' L mu → RetR K mg fr F' H H' t v → Q v H'
  | .exc c => ∀ cls F' H', mg c = some cls → Bok ⟨H, F, L⟩ F' H' → E cls none H'
  | .stuck => False
/-- every parameter given, none by name -/
def BindsA (fd : FuncData) (ps : List Str) : Prop := ∀ (s : Shared) (us : List Value), us.length = ps.length → BindsTo s fd ⟨us, []⟩ (ps.zip us)
theorem BindsA.b {K : PySem.W.Frag} {fd : FuncData} {ps : List Str} (h : BindsA fd ps) : Binds K fd ps [] := fun s us _ hl => by
  rw [List.append_nil] at hl ⊢
  exact h s us hl
structure Def (P : Program) (w : World) (K : PySem.W.Frag) (mg : Str → Option Value) (k : Nat) (x : Str) (ps : List Str) (sig : List Bool) (fr : Bool) (f : List PV → FO) : Prop where
  ex : ∃ a fd, mg x = some (.ref a) ∧ PySem.W.keepIn K (.ref a) = true ∧ BindsA fd ps ∧ ∀ base : Heap, FnOk P w K mg base (L2.CX P w) k a fd ps (spEv K mg sig fr f)

/-! ### a def by its body -/
/-- the objects lent, as they are now -/
def lentOf (e : Sl) : Nat → List Bool → Option (List PV)
  | _, [] => some []
  | n, false :: r => lentOf e (n + 1) r
  | n, true :: r => match e[n]? with
    | some (some t) => (lentOf e (n + 1) r).map (t :: ·)
    | _ => none
def lentIx : Nat → List Bool → List Nat
  | _, [] => []
  | n, false :: r => lentIx (n + 1) r
  | n, true :: r => n :: lentIx (n + 1) r
def fnM (n : Nat) (sig : List Bool) (fr : Bool) (b : S) : List PV → FO := fun ts => match b (ts.map some ++ List.replicate (n - ts.length) none) with
  | .rt t e => match lentOf e 0 sig with
    | some mu => .ok t mu
    | none => .stuck
  | .nx e => if fr = true then .stuck else match lentOf e 0 sig with
    | some mu => .ok .non mu
    | none => .stuck
  | .exc c => .exc c
  | _ => .stuck
section
variable {K : PySem.W.Frag} {mg : Str → Option Value} {F : Addr → Prop} {H : Hp}
theorem ArgL.len {sig : List Bool} {ts : List PV} {vs : List V} {L : List (Nat × Addr)} {n : Nat} (h : ArgL K mg F H n sig ts vs L) : ts.length = sig.length ∧ vs.length = sig.length := by
  induction h with
  | nil => exact ⟨rfl, rfl⟩
  | val _ _ ih => exact ⟨congrArg (· + 1) ih.1, congrArg (· + 1) ih.2⟩
  | lent _ _ _ _ ih => exact ⟨congrArg (· + 1) ih.1, congrArg (· + 1) ih.2⟩
theorem ArgL.ix {sig : List Bool} {ts : List PV} {vs : List V} {L : List (Nat × Addr)} {n : Nat} (h : ArgL K mg F H n sig ts vs L) : L.map (·.1) = lentIx n sig := by
  induction h with
  | nil => rfl
  | val _ _ ih => exact ih
  | lent _ _ _ _ ih => exact congrArg (_ :: ·) ih
/-- the j-th argument -/
theorem ArgL.at {sig : List Bool} {ts : List PV} {vs : List V} {L : List (Nat × Addr)} {n : Nat} (h : ArgL K mg F H n sig ts vs L) : ∀ (j : Nat) (t : PV), ts[j]? = some t →
    (sig[j]? = some false ∧ ∃ v, vs[j]? = some v ∧ Rep K mg F H t v) ∨ (sig[j]? = some true ∧ ∃ a, vs[j]? = some (.ref a) ∧ OwnR K mg F H a t ∧ ¬ F a ∧ (n + j, a) ∈ L) := by
  induction h with
  | nil => intro j t e; simp at e
  | @val n sig t v ts vs L r _ ih =>
    intro j u e
    cases j with
    | zero => simp at e; subst e; exact .inl ⟨rfl, v, rfl, r⟩
    | succ j =>
      rcases ih j u (by simpa using e) with h | ⟨h1, a, h2, h3, h4, h5⟩
      · exact .inl (by simpa using h)
      · refine .inr ⟨by simpa using h1, a, by simpa using h2, h3, h4, ?_⟩
        rw [show n + (j + 1) = n + 1 + j by omega]
        exact h5
  | @lent n sig t a ts vs L r nf _ _ ih =>
    intro j u e
    cases j with
    | zero => simp at e; subst e; exact .inr ⟨rfl, a, rfl, r, nf, by simp⟩
    | succ j =>
      rcases ih j u (by simpa using e) with h | ⟨h1, b, h2, h3, h4, h5⟩
      · exact .inl (by simpa using h)
      · refine .inr ⟨by simpa using h1, b, by simpa using h2, h3, h4, ?_⟩
        rw [show n + (j + 1) = n + 1 + j by omega]
        exact List.mem_cons_of_mem _ h5
theorem ArgL.mem {sig : List Bool} {ts : List PV} {vs : List V} {L : List (Nat × Addr)} {n : Nat} (h : ArgL K mg F H n sig ts vs L) : ∀ p ∈ L, ∃ j, p.1 = n + j ∧ vs[j]? = some (.ref p.2) := by
  induction h with
  | nil => intro p hp; cases hp
  | @val n sig t v ts vs L r _ ih =>
    intro p hp
    obtain ⟨j, e1, e2⟩ := ih p hp
    exact ⟨j + 1, by omega, by simpa using e2⟩
  | @lent n sig t a ts vs L r nf _ _ ih =>
    intro p hp
    rcases List.mem_cons.mp hp with rfl | hp
    · exact ⟨0, rfl, rfl⟩
    · obtain ⟨j, e1, e2⟩ := ih p hp
      exact ⟨j + 1, by omega, by simpa using e2⟩
theorem ArgL.nodup {sig : List Bool} {ts : List PV} {vs : List V} {L : List (Nat × Addr)} {n : Nat} (h : ArgL K mg F H n sig ts vs L) : (L.map (·.2)).Nodup := by
  induction h with
  | nil => exact .nil
  | val _ _ ih => exact ih
  | lent _ _ na _ ih => exact List.nodup_cons.mpr ⟨na, ih⟩
end
theorem lentOf_mu {C : Cp} {e : Sl} {σ : St} {F : Addr → Prop} {H : Hp} (n : Now C e σ F H) : ∀ {sig : List Bool} {m : Nat} {L : List (Nat × Addr)} {mu : List PV}, L.map (·.1) = lentIx m sig → (∀ p ∈ L, p ∈ C.B.L) → lentOf e m sig = some mu → MuR C.K C.mg F H L mu
  | [], m, L, mu, h, _, e => by
    cases L with
    | nil => simp only [lentOf, Option.some.injEq] at e; subst e; exact .nil
    | cons p L => cases h
  | false :: r, m, L, mu, h, hl, e => lentOf_mu n (sig := r) (m := m + 1) h hl e
  | true :: r, m, L, mu, h, hl, e => by
    cases L with
    | nil => cases h
    | cons p L =>
      rw [List.map_cons] at h
      have h1 : p.1 = m := (List.cons.inj h).1
      have h2 := (List.cons.inj h).2
      unfold lentOf at e
      split at e
      · rename_i t et
        rw [Option.map_eq_some_iff] at e
        obtain ⟨mu', e1, rfl⟩ := e
        obtain ⟨k1, k2⟩ := n.lent p (hl p (by simp))
        obtain ⟨a, e2, _, ow, _⟩ := n.own p.1 t k1 (by rw [h1]; exact et)
        rw [k2] at e2
        cases e2
        exact .cons ow (lentOf_mu n h2 (fun q hq => hl q (List.mem_cons_of_mem _ hq)) e1)
      · cases e
/-- THE RULE for a def -/
theorem def_mk {P : Program} {w : World} {K : PySem.W.Frag} {mg : Str → Option Value} {x qual : Str} {st : Stmt} {f : Addr} {fd : FuncData} {N ps : List Str} {k : Nat} {sig : List Bool} {fr : Bool} {b : S} {O : List Nat}
    (F : Fun K x qual st f fd) (hm : mg x = some (.ref f)) (hb : BindsA fd ps) (S : FnScope N ps (defScope st)) (hs : sig.length = ps.length) (hO : ∀ i, i ∈ O → sig[i]? ≠ some false) (hO2 : ∀ i ∈ lentIx 0 sig, i ∈ O)
    (body : ∀ (base : Heap) (cdv : Value) (A : Around) (outer : List Env) (s : Shared) (H : Hp) (F0 : Addr → Prop) (L : List (Nat × Addr)) (E : XK), L.map (·.1) = lentIx 0 sig →
      RC (cxOf (L2.CX P w) P w K mg base N qual (defScope st) f cdv A outer s H E) ⟨K, mg, O, ⟨H, F0, L⟩, fun cls d _ H' => E cls d H', fr⟩ k →
      PassesOwn (model P w) (cxOf (L2.CX P w) P w K mg base N qual (defScope st) f cdv A outer s H E).A (cxOf (L2.CX P w) P w K mg base N qual (defScope st) f cdv A outer s H E).env (cxOf (L2.CX P w) P w K mg base N qual (defScope st) f cdv A outer s H E).xe →
      RSs (cxOf (L2.CX P w) P w K mg base N qual (defScope st) f cdv A outer s H E) ⟨K, mg, O, ⟨H, F0, L⟩, fun cls d _ H' => E cls d H', fr⟩ (defBody st) b) :
    Def P w K mg (k + 1) x ps sig fr (fnM N.length sig fr b) := by
  have hpN : ps.length ≤ N.length := by have := congrArg List.length S.pre; rw [List.length_take] at this; omega
  refine ⟨f, fd, hm, F.kp, hb, fun base => F.okX S (fun vs H Q E h => h.1.trans hs) fun cdv A outer s H vs Q E hr h => ?_⟩
  obtain ⟨hl, F0, ts, L, fd0, args, q⟩ := h
  refine ⟨_, body base cdv A outer s H F0 L E args.ix ⟨rfl, rfl, rfl, S.nd, takes_of rfl rfl rfl rfl, hr⟩ (passes_of rfl), ?_⟩
  obtain ⟨l1, l2⟩ := args.len
  have hts : ∀ j : Nat, (ts.map some ++ List.replicate (N.length - ts.length) (none : Option PV))[j]? = if j < ts.length then (ts[j]?).map some else if j < N.length then some none else none := fun j => by
    by_cases hj : j < ts.length
    · rw [List.getElem?_append_left (by simpa using hj), List.getElem?_map, if_pos hj]
    · rw [List.getElem?_append_right (by simpa using hj), List.getElem?_replicate, if_neg hj, List.length_map]
      by_cases h2 : j < N.length
      · rw [if_pos h2, if_pos (by omega)]
      · rw [if_neg h2, if_neg (by omega)]
  have hvs : ∀ j : Nat, (start N vs)[j]? = if j < ts.length then (vs[j]?).map some else if j < N.length then some none else none := fun j => by
    unfold start
    by_cases hj : j < ts.length
    · rw [List.getElem?_append_left (by rw [List.length_map]; omega), List.getElem?_map, if_pos hj]
    · rw [List.getElem?_append_right (by rw [List.length_map]; omega), List.getElem?_replicate, if_neg hj, List.length_map]
      by_cases h2 : j < N.length
      · rw [if_pos h2, if_pos (by omega)]
      · rw [if_neg h2, if_neg (by omega)]
  have now : Now ⟨K, mg, O, ⟨H, F0, L⟩, fun cls d _ H' => E cls d H', fr⟩ (ts.map some ++ List.replicate (N.length - ts.length) none) (start N vs) F0 H := by
    have arg : ∀ {i : Nat} {t : PV}, (ts.map some ++ List.replicate (N.length - ts.length) (none : Option PV))[i]? = some (some t) → i < ts.length ∧ ts[i]? = some t := fun {i t} e => by
      rw [hts] at e
      split at e
      · rename_i hi
        rw [Option.map_eq_some_iff] at e
        obtain ⟨u, e1, e2⟩ := e
        cases e2
        exact ⟨hi, e1⟩
      · split at e <;> cases e
    have val : ∀ {i : Nat} {v : V}, (start N vs)[i]? = some (some v) → i < ts.length ∧ vs[i]? = some v := fun {i v} e => by
      rw [hvs] at e
      split at e
      · rename_i hi
        rw [Option.map_eq_some_iff] at e
        obtain ⟨u, e1, e2⟩ := e
        cases e2
        exact ⟨hi, e1⟩
      · split at e <;> cases e
    refine ⟨by unfold start; simp only [List.length_append, List.length_map, List.length_replicate]; omega, ⟨fun _ h => h, fun _ _ h _ => h, fun _ _ h => h, fun _ h => h, fd0⟩, fun i t hi e => ?_, fun i t hi e => ?_, fun i v hi e => ?_, fun i j a hi hj ei ej => ?_, fun p hp => ?_⟩
    · obtain ⟨h1, h2⟩ := arg e
      rcases args.at i t h2 with ⟨_, v, e1, r⟩ | ⟨_, a, e1, _, _, hm'⟩
      · exact ⟨v, by rw [hvs, if_pos h1, e1]; rfl, r⟩
      · refine absurd (hO2 i ?_) hi
        rw [← args.ix]
        exact List.mem_map.mpr ⟨_, hm', by simp⟩
    · obtain ⟨h1, h2⟩ := arg e
      rcases args.at i t h2 with ⟨hf, _⟩ | ⟨_, a, e1, ow, nf, hm'⟩
      · exact absurd hf (hO i hi)
      · refine ⟨a, by rw [hvs, if_pos h1, e1]; rfl, nf, ow, .inr (List.mem_map.mpr ⟨_, hm', rfl⟩)⟩
    · obtain ⟨h1, h2⟩ := val e
      exact ⟨ts[i], by rw [hts, if_pos h1, List.getElem?_eq_getElem h1]; rfl⟩
    · obtain ⟨h1, h2⟩ := val ei
      obtain ⟨h3, h4⟩ := val ej
      rcases args.at i _ (List.getElem?_eq_getElem h1) with ⟨hf, _⟩ | ⟨_, b, e1, _, _, m1⟩
      · exact absurd hf (hO i hi)
      rcases args.at j _ (List.getElem?_eq_getElem h3) with ⟨hf, _⟩ | ⟨_, c, e2, _, _, m2⟩
      · exact absurd hf (hO j hj)
      rw [h2] at e1; cases e1
      rw [h4] at e2; cases e2
      have nd := args.nodup
      obtain ⟨p, hp, ep⟩ := List.getElem_of_mem m1
      obtain ⟨q', hq, eq⟩ := List.getElem_of_mem m2
      have hpq : p = q' := by
        refine (List.getElem_inj (i := p) (j := q') (h₀ := by simpa using hp) (h₁ := by simpa using hq) nd).mp ?_
        rw [List.getElem_map, List.getElem_map, ep, eq]
      subst hpq
      rw [ep] at eq
      have := congrArg Prod.fst eq
      simpa using this
    · obtain ⟨j, e1, e2⟩ := args.mem p hp
      refine ⟨hO2 p.1 (by rw [← args.ix]; exact List.mem_map.mpr ⟨p, hp, rfl⟩), ?_⟩
      have hj : j < ts.length := by
        have := (List.getElem?_eq_some_iff.mp e2).1
        omega
      rw [show p.1 = j by omega, hvs, if_pos hj, e2]
      rfl
  refine ⟨_, F0, now, ?_⟩
  unfold fnM at q
  have hback : ∀ {e : Sl} {t : PV} {mu : List PV} {v : V} {σ' : St} {F' : Addr → Prop} {H' : Hp}, lentOf e 0 sig = some mu → (∀ v F' H', Bok ⟨H, F0, L⟩ F' H' → MuR K mg F' H' L mu → RetR K mg fr F' H H' t v → Q v H') →
      Now ⟨K, mg, O, ⟨H, F0, L⟩, fun cls d _ H' => E cls d H', fr⟩ e σ' F' H' → RetR K mg fr F' H H' t v → Q v H' := fun {e t mu v σ' F' H'} h1 q n r => q v F' H' n.bok (lentOf_mu n args.ix (fun p hp => hp) h1) r
  cases e1 : b (ts.map some ++ List.replicate (N.length - ts.length) none) with
  | nx e =>
    rw [e1] at q
    dsimp only at q
    by_cases hfr : fr = true
    · rw [if_pos hfr] at q
      exact q.elim
    · rw [if_neg hfr] at q
      intro σ' F' H' n' _
      cases e2 : lentOf e 0 sig with
      | none => rw [e2] at q; exact q.elim
      | some mu =>
        rw [e2] at q
        exact hback e2 q n' (by unfold RetR; rw [if_neg hfr]; exact .non)
  | rt t e =>
    rw [e1] at q
    dsimp only at q
    intro v σ' F' H' n' _ bk
    cases e2 : lentOf e 0 sig with
    | none => rw [e2] at q; exact q.elim
    | some mu =>
      rw [e2] at q
      exact hback e2 q n' bk
  | exc c =>
    rw [e1] at q
    exact fun cls σ' F' H' hc bok => q cls F' H' hc bok
  | bk e => rw [e1] at q; exact q.elim
  | ct e => rw [e1] at q; exact q.elim
  | stuck => rw [e1] at q; exact q.elim
end L2.EV

set_option Elab.async false
set_option linter.all false
set_option maxRecDepth 100000
namespace L2.EV
open PySem PySem.Spec PyProof.Rows

/-! ### a def called -/
/-- arguments: some i: the object of slot i, lent -/
def resolve : List (Option Nat) → List PV → Sl → Option (List PV)
  | [], [], _ => some []
  | none :: ms, t :: ts, env => (resolve ms ts env).map (t :: ·)
  | some i :: ms, _ :: ts, env => match env[i]? with
    | some (some t) => (resolve ms ts env).map (t :: ·)
    | _ => none
  | _, _, _ => none
def putMu : List Nat → List PV → Sl → Sl
  | i :: is, t :: ts, env => putMu is ts (env.set i (some t))
  | _, _, env => env
def callM (f : List PV → FO) (ms : List (Option Nat)) (margs : M (List PV)) : M PV := mbind margs fun ts env => match resolve ms ts env with
  | none => .stuck
  | some ts' => match f ts' with
    | .ok t mu => .ok t (putMu (ms.filterMap id) mu env)
    | .exc c => .exc c
    | .stuck => .stuck

section
variable {C : Cp}
/-- all but the objects of some slots -/
structure NowX (C : Cp) (skip : List Nat) (env : Sl) (σ : St) (F : Addr → Prop) (H : Hp) : Prop where
  len : env.length = σ.length
  bok : Bok C.B F H
  shr : ∀ i t, i ∉ C.O → env[i]? = some (some t) → ∃ v, σ[i]? = some (some v) ∧ Rep C.K C.mg F H t v
  own : ∀ i t, i ∈ C.O → i ∉ skip → env[i]? = some (some t) → ∃ a, σ[i]? = some (some (.ref a)) ∧ ¬ F a ∧ OwnR C.K C.mg F H a t ∧ (C.B.H a = none ∨ a ∈ C.B.L.map (·.2))
  emp : ∀ i v, i ∈ C.O → σ[i]? = some (some v) → ∃ t, env[i]? = some (some t)
  dis : ∀ i j a, i ∈ C.O → j ∈ C.O → σ[i]? = some (some (.ref a)) → σ[j]? = some (some (.ref a)) → i = j
  lent : ∀ p ∈ C.B.L, p.1 ∈ C.O ∧ σ[p.1]? = some (some (.ref p.2))
theorem NowX.step {i : Nat} {skip : List Nat} {env : Sl} {σ : St} {F : Addr → Prop} {H : Hp} {a : Addr} {t : PV} (n : NowX C (i :: skip) env σ F H) (hi : i ∈ C.O) (e : σ[i]? = some (some (.ref a))) (nf : ¬ F a) (ow : OwnR C.K C.mg F H a t) (q : C.B.H a = none ∨ a ∈ C.B.L.map (·.2)) :
    NowX C skip (env.set i (some t)) σ F H := by
  have hlt : i < env.length := by
    rw [n.len]
    exact (List.getElem?_eq_some_iff.mp e).1
  refine ⟨by simp [n.len], n.bok, fun j u hj ej => ?_, fun j u hj hs ej => ?_, fun j v hj ej => ?_, n.dis, n.lent⟩
  · rw [List.getElem?_set_ne (fun z : i = j => hj (by rw [← z]; exact hi))] at ej
    exact n.shr j u hj ej
  · by_cases z : i = j
    · subst z
      rw [List.getElem?_set_self hlt] at ej
      cases ej
      exact ⟨a, e, nf, ow, q⟩
    · rw [List.getElem?_set_ne z] at ej
      exact n.own j u hj (fun m => (List.mem_cons.mp m).elim (fun q => z q.symm) hs) ej
  · by_cases z : i = j
    · subst z
      exact ⟨t, List.getElem?_set_self hlt⟩
    · rw [List.getElem?_set_ne z]
      exact n.emp j v hj ej
/-- the slots' objects, lent at an address each -/
inductive LentR (C : Cp) (σ : St) (F : Addr → Prop) : List Nat → List (Nat × Addr) → Prop
  | nil : LentR C σ F [] []
  | cons {i : Nat} {is : List Nat} {p : Nat × Addr} {L : List (Nat × Addr)} : i ∈ C.O → σ[i]? = some (some (.ref p.2)) → ¬ F p.2 → (C.B.H p.2 = none ∨ p.2 ∈ C.B.L.map (·.2)) → LentR C σ F is L → LentR C σ F (i :: is) (p :: L)
theorem NowX.all {σ : St} {F : Addr → Prop} {H : Hp} : ∀ {is : List Nat} {L : List (Nat × Addr)} {mu : List PV} {env : Sl}, LentR C σ F is L → MuR C.K C.mg F H L mu → NowX C is env σ F H → Now C (putMu is mu env) σ F H
  | [], _, _, env, .nil, .nil, n => ⟨n.len, n.bok, n.shr, fun i t hi e => n.own i t hi (by simp) e, n.emp, n.dis, n.lent⟩
  | i :: is, p :: L, t :: mu, env, .cons h1 h2 h3 h4 hr, .cons ow mr, n => NowX.all (is := is) (L := L) (mu := mu) (env := env.set i (some t)) hr mr (n.step h1 h2 h3 ow h4)
theorem LentR.mono {σ : St} {F F' : Addr → Prop} {is : List Nat} {L : List (Nat × Addr)} (h : LentR C σ F is L) (k : ∀ p ∈ L, F' p.2 → F p.2) : LentR C σ F' is L := by
  induction h with
  | nil => exact .nil
  | cons h1 h2 h3 h4 hr ih => exact .cons h1 h2 (fun f => h3 (k _ (by simp) f)) h4 (ih fun p hp => k p (List.mem_cons_of_mem _ hp))
theorem LentR.ow {σ : St} {F : Addr → Prop} {is : List Nat} {L : List (Nat × Addr)} (h : LentR C σ F is L) : ∀ p ∈ L, ∃ i ∈ is, i ∈ C.O ∧ σ[i]? = some (some (.ref p.2)) ∧ (C.B.H p.2 = none ∨ p.2 ∈ C.B.L.map (·.2)) := by
  induction h with
  | nil => intro p hp; cases hp
  | @cons i is p L h1 h2 h3 h4 hr ih =>
    intro q hq
    rcases List.mem_cons.mp hq with rfl | hq
    · exact ⟨i, by simp, h1, h2, h4⟩
    · obtain ⟨j, e1, e2⟩ := ih q hq
      exact ⟨j, List.mem_cons_of_mem _ e1, e2⟩
/-- the arguments, as the callee gets them -/
theorem args_of {env : Sl} {σ : St} {F : Addr → Prop} {H : Hp} (n : Now C env σ F H) : ∀ {ms : List (Option Nat)} {ts ts' : List PV} {vs : List V} {m : Nat}, (ms.filterMap id).Nodup → ArgR C σ F H ms ts vs → resolve ms ts env = some ts' →
    ∃ L, ArgL C.K C.mg F H m (ms.map Option.isSome) ts' vs L ∧ LentR C σ F (ms.filterMap id) L
  | [], _, _, _, m, _, .nil, e => by
    simp only [resolve, Option.some.injEq] at e
    subst e
    exact ⟨[], .nil, .nil⟩
  | none :: ms, _, _, _, m, nd, .val r q, e => by
    simp only [resolve, Option.map_eq_some_iff] at e
    obtain ⟨us, e1, rfl⟩ := e
    obtain ⟨L, h1, h2⟩ := args_of (ms := ms) n (m := m + 1) nd q e1
    exact ⟨L, .val r h1, h2⟩
  | some i :: ms, _, _, _, m, nd, .lent hi e1 q, e => by
    unfold resolve at e
    split at e
    · rename_i t et
      rw [Option.map_eq_some_iff] at e
      obtain ⟨us, e2, rfl⟩ := e
      have nd' : (i :: ms.filterMap id).Nodup := nd
      obtain ⟨L, h1, h2⟩ := args_of (ms := ms) n (m := m + 1) (List.nodup_cons.mp nd').2 q e2
      obtain ⟨a, e3, nf, ow, q0⟩ := n.own i t hi et
      rw [e1] at e3
      cases e3
      refine ⟨(m, _) :: L, .lent ow nf (fun z => ?_) h1, .cons hi e1 nf q0 h2⟩
      obtain ⟨p, hp, ep⟩ := List.mem_map.mp z
      obtain ⟨j, hj, hjO, ej, _⟩ := h2.ow p hp
      rw [ep] at ej
      have := n.dis i j _ hi hjO e1 ej
      subst this
      exact (List.nodup_cons.mp nd').1 hj
    · cases e
theorem call_leaf {env : Sl} {σ : St} {F : Addr → Prop} {H : Hp} {sig : List Bool} {fr : Bool} {f : List PV → FO} {ms : List (Option Nat)} {ts : List PV} {vs : List V} {Q : VK} {P : PV → (Addr → Prop) → Hp → Prop} (nd : (ms.filterMap id).Nodup) (hs : ms.map Option.isSome = sig)
    (n : Now C env σ F H) (ar : ArgR C σ F H ms ts vs) (q : End C σ F H (match resolve ms ts env with
      | none => .stuck
      | some ts' => match f ts' with
        | .ok t mu => .ok t (putMu (ms.filterMap id) mu env)
        | .exc c => .exc c
        | .stuck => .stuck) P)
    (fin : ∀ t v F' H', Ext C σ F H F' H' → P t F' H' → RetR C.K C.mg fr F' H H' t v → Q v H') : spEv C.K C.mg sig fr f vs H Q (WE C.W σ) := by
  cases er : resolve ms ts env with
  | none => rw [er] at q; exact q.elim
  | some ts' =>
    rw [er] at q
    dsimp only at q
    obtain ⟨L, al, lr⟩ := args_of n (m := 0) nd ar er
    rw [hs] at al
    refine ⟨al.len.2, F, ts', L, n.bok.fd, al, ?_⟩
    have hL : ∀ a, a ∈ L.map (·.2) → Ow C σ a ∧ (C.B.H a = none ∨ a ∈ C.B.L.map (·.2)) := fun a ha => by
      obtain ⟨p, hp, ep⟩ := List.mem_map.mp ha
      obtain ⟨i, _, hi, e, z⟩ := lr.ow p hp
      rw [ep] at e z
      exact ⟨⟨i, hi, e⟩, z⟩
    have bokC : ∀ {F' : Addr → Prop} {H' : Hp}, Bok ⟨H, F, L⟩ F' H' → Bok C.B F' H' := fun {F' H'} b =>
      ⟨fun a h => b.fm a (n.bok.fm a h), fun a o h nl => b.kp a o (n.bok.kp a o h nl) fun hl => (hL a hl).2.elim (fun z => by rw [z] at h; cases h) nl,
        fun a h g => n.bok.nof a h (b.nof a (n.bok.dom a h) g), fun a h => b.dom a (n.bok.dom a h), b.fd⟩
    cases ef : f ts' with
    | stuck => rw [ef] at q; exact q.elim
    | exc c =>
      rw [ef] at q
      exact fun cls F' H' hc b => q cls σ F' H' hc (bokC b)
    | ok t mu =>
      rw [ef] at q
      dsimp only at q
      intro v F' H' b mr r
      have x : Ext C σ F H F' H' := ⟨b.fm, fun a o h no => b.kp a o h fun hl => no (hL a hl).1, b.dom, b.nof⟩
      have k := n.keep x
      have nx : NowX C (ms.filterMap id) env σ F' H' := by
        refine ⟨n.len, bokC b, fun i u hi e => ?_, fun i u hi hsk e => ?_, n.emp, n.dis, n.lent⟩
        · obtain ⟨w, e1, r1⟩ := n.shr i u hi e
          exact ⟨w, e1, r1.mono k⟩
        · obtain ⟨a, e1, nf, ow, z⟩ := n.own i u hi e
          refine ⟨a, e1, fun g => nf (b.nof a ow.there g), ow.mono k ?_, z⟩
          cases ho : H a with
          | none => exact absurd ho ow.there
          | some o =>
            refine b.kp a o ho fun hl => ?_
            obtain ⟨p, hp, ep⟩ := List.mem_map.mp hl
            obtain ⟨j, hj, hjO, ej, _⟩ := lr.ow p hp
            rw [ep] at ej
            have := n.dis i j a hi hjO e1 ej
            subst this
            exact hsk hj
      have n' := NowX.all (lr.mono fun p hp g => b.nof p.2 (by
        obtain ⟨i, _, hi, e, _⟩ := lr.ow p hp
        exact (n.not_shared ⟨i, hi, e⟩).2.2) g) mr nx
      exact fin t v F' H' x (q F' H' n' x) r
end

section
variable {X : Cx} {C : Cp} {k kf : Nat} {x : Str} {ps : List Str} {sig : List Bool} {f : List PV → FO} {ms : List (Option Nat)} {margs : M (List PV)} {e : Expr} {es : List Expr} {p pos : Pos}
theorem pa_args {ms : List (Option Nat)} {es : List Expr} (h : RA X C ms es margs) : RA X C ms es margs := h
theorem ra_nil : RA X C [] [] (mret []) := pa_nil.imp fun _ _ _ ⟨_, _, n, q⟩ => q.ret n _ .nil
theorem ra_val {m : M PV} {mr : M (List PV)} (h : RE X C e m) (hr : RA X C ms es mr) (hs : starEach (e :: es) X.env = (false, eval e X.env) :: starEach es X.env := by rfl) : RA X C (none :: ms) (e :: es) (mcons m mr) :=
  (pa_cons h hr hs).imp fun σ H Q ⟨env, F, n, q⟩ => ⟨env, F, n, q.seq.imp fun t env1 F1 H1 _ _ _ ⟨env1', n1, q1⟩ v rv => ⟨env1', F1, n1, q1.seq.imp fun ts env2 F2 H2 _ _ x2 ⟨env2', n2, q2⟩ vs rvs =>
    q2.ret n2 _ (.val (rv.mono (n1.keep x2)) rvs)⟩⟩
theorem ra_lent {x : Str} {mr : M (List PV)} (i : Nat) (hi : i ∈ C.O) (h : PE X (.Name x p) (tVar i)) (hr : RA X C ms es mr) (hs : starEach (.Name x p :: es) X.env = (false, eval (.Name x p) X.env) :: starEach es X.env := by rfl) : RA X C (some i :: ms) (.Name x p :: es) (mcons (slot i) mr) :=
  (pa_cons h hr hs).imp fun σ H Q ⟨env, F, n, q⟩ => by
    obtain ⟨t, e1, q1⟩ := mbind_slot q
    obtain ⟨a, h1, _, _⟩ := slot_own hi n e1
    exact ⟨_, h1, env, F, n, q1.seq.imp fun ts env2 F2 H2 _ _ x2 ⟨env2', n2, q2⟩ vs rvs => q2.ret n2 _ (.lent hi h1 rvs)⟩
theorem re_call (rc : RC X C k) (D : Def X.prog X.w C.K C.mg kf x ps sig false f) (hk : kf ≤ k) (hg : Gl X x) (hargs : RA X C ms (e :: es) margs) (nd : (ms.filterMap id).Nodup := by decide) (hs : ms.map Option.isSome = sig := by rfl)
    (hdb : (x == ("__debug__" : Str)) = false := by decide) (he : starEach (e :: es) X.env = (false, eval e X.env) :: starEach es X.env := by rfl) (hpl : (backTo pos (starEach es X.env)).any (·.1) = false := by rfl) :
    RE X C (.Call (.Name x p) (e :: es) [] pos) (callM f ms margs) := by
  obtain ⟨a, fd, hm, hkp, hb, F⟩ := D.ex
  have F' : FnOk X.prog X.w X.K X.mg X.base (L2.CX X.prog X.w) kf a fd ps (spEv C.K C.mg sig false f) := by rw [rc.hK, rc.hmg]; exact F X.base
  refine (pe_callS F' (rc.room.mono hk) hg (by rw [rc.hmg]; exact hm) (by rw [rc.hK]; exact hkp) (by rw [rc.hK]; exact hb.b) (fun σ => passAt rc.tk σ) hargs hdb he hpl).imp fun σ H Q ⟨env, F, n, q⟩ => ?_
  refine ⟨env, F, n, q.seq.imp fun ts env1 F1 H1 _ _ x1 ⟨env1', n1, q1⟩ vs ar => ?_⟩
  exact call_leaf nd hs n1 ar q1 fun t v F' H' x hp r => hp v (by
    unfold RetR at r
    rw [if_neg (by decide)] at r
    exact r)
theorem rf_call (rc : RC X C k) (D : Def X.prog X.w C.K C.mg kf x ps sig true f) (hk : kf ≤ k) (hg : Gl X x) (hargs : RA X C ms (e :: es) margs) (nd : (ms.filterMap id).Nodup := by decide) (hs : ms.map Option.isSome = sig := by rfl)
    (hdb : (x == ("__debug__" : Str)) = false := by decide) (he : starEach (e :: es) X.env = (false, eval e X.env) :: starEach es X.env := by rfl) (hpl : (backTo pos (starEach es X.env)).any (·.1) = false := by rfl) :
    RF X C (.Call (.Name x p) (e :: es) [] pos) (callM f ms margs) := by
  obtain ⟨a, fd, hm, hkp, hb, F⟩ := D.ex
  have F' : FnOk X.prog X.w X.K X.mg X.base (L2.CX X.prog X.w) kf a fd ps (spEv C.K C.mg sig true f) := by rw [rc.hK, rc.hmg]; exact F X.base
  refine (pe_callS F' (rc.room.mono hk) hg (by rw [rc.hmg]; exact hm) (by rw [rc.hK]; exact hkp) (by rw [rc.hK]; exact hb.b) (fun σ => passAt rc.tk σ) hargs hdb he hpl).imp fun σ H Q ⟨env, F, n, q⟩ => ?_
  refine ⟨env, F, n, q.seq.imp fun ts env1 F1 H1 _ _ x1 ⟨env1', n1, q1⟩ vs ar => ?_⟩
  refine call_leaf nd hs n1 ar q1 fun t v F' H' x hp r => ?_
  unfold RetR at r
  rw [if_pos rfl] at r
  obtain ⟨a, rfl, ow, nf, ha⟩ := r
  refine hp a ow nf ?_
  cases z : H a with
  | none => rfl
  | some o => exact absurd ha (x1.dom a (by rw [z]; simp))
end
end L2.EV

set_option Elab.async false
set_option linter.all false
set_option maxRecDepth 100000
namespace L2.EV
open PySem PySem.Spec PyProof.Rows

/-! ### what a for walks -/
/-- a list (l) or a tuple -/
def SqB (K : PySem.W.Frag) (l : Bool) (H : Hp) (a : Addr) (xs : List V) : Prop := if l = true then SqL K H a xs else SqT K H a xs
def IterB (l : Bool) (h : Heap) (it a : Addr) (i : Nat) : Prop := if l = true then h.IsListIter it a i else h.IsTupleIter it a i
theorem IterB.get {l : Bool} {h : Heap} {it a : Addr} {i : Nat} (x : IterB l h it a i) : ∃ o, h.get? it = some o ∧ ∀ v, o.data ≠ .cell v := by
  unfold IterB at x
  split at x
  · obtain ⟨o, e, _, d⟩ := x; exact ⟨o, e, fun v q => by rw [d] at q; cases q⟩
  · obtain ⟨o, e, _, d⟩ := x; exact ⟨o, e, fun v q => by rw [d] at q; cases q⟩
theorem IterB.at {l : Bool} {h h' : Heap} {it a : Addr} {i : Nat} (x : IterB l h it a i) (k : ∀ o, h.get? it = some o → h'.get? it = some o) : IterB l h' it a i := by
  unfold IterB at x ⊢
  split
  · rename_i z; rw [if_pos z] at x; exact x.at k
  · rename_i z; rw [if_neg z] at x; exact x.at k
section
variable {X : Cx}
/-- a draw over what stands -/
def IsB (l : Bool) (h : Heap) (a : Addr) (its : Array Value) : Prop := if l = true then h.IsList a its else h.IsTuple a its
theorem Draws.ofB {prog : Program} {w : World} {A : Around} (hh : A.handled = none) (l : Bool) (it a : Addr) (hne : a ≠ it) (items : Array Value) :
    Draws prog w A it [it, a] items.size (fun i v => items[i]? = some v) (fun i h => IterB l h it a i ∧ IsB l h a items) := by
  cases l with
  | true => exact Draws.list hh it a hne items
  | false => exact Draws.tuple hh it a hne items
theorem SqB.its {pins : List (Addr × Obj)} {σ : L2.St} {H : Hp} {s : Shared} {l : Bool} {a : Addr} {xs : List V} (I : Inv X pins σ H s) (h : SqB X.K l H a xs) : ∃ its : List Value, Vals xs its ∧ IsB l s.heap a its.toArray ∧ ∃ o, s.heap.get? a = some o := by
  unfold SqB at h
  unfold IsB
  split at h
  · rename_i z; subst z
    obtain ⟨its, rv, p, _⟩ := I.list h
    refine ⟨its, rv, ?_, ?_⟩
    · rw [if_pos rfl]; exact p.isList
    · obtain ⟨o, e, _⟩ := p.isList; exact ⟨o, e⟩
  · rename_i z
    obtain ⟨its, rv, p, _⟩ := I.tuple h
    refine ⟨its, rv, ?_, ?_⟩
    · rw [if_neg z]; exact p
    · have p' : s.heap.IsTuple a its.toArray := p
      obtain ⟨o, e, _⟩ := p'; exact ⟨o, e⟩
theorem SqB.inj {pins : List (Addr × Obj)} {σ : L2.St} {H : Hp} {s : Shared} {l : Bool} {a : Addr} {xs ys : List V} (I : Inv X pins σ H s) (h : SqB X.K l H a xs) (h' : SqB X.K l H a ys) : xs = ys := by
  unfold SqB at h h'
  split at h
  · rename_i z; rw [if_pos z] at h'; exact I.list_inj h h'
  · rename_i z; rw [if_neg z] at h'; exact I.tuple_inj h h'
end
/-- new pairs of the items -/
def ItzB (K : PySem.W.Frag) (l1 l2 : Bool) (a b : Addr) : It :=
  ⟨fun i H => ∃ (xs ys : List V) (x y : V), SqB K l1 H a xs ∧ SqB K l2 H b ys ∧ xs[i]? = some x ∧ ys[i]? = some y,
    fun i H v H' => ∃ T x y, v = .ref T ∧ H T = none ∧ (∃ o : Obj, o.dict = none ∧ H' = upd H T (.frz o (.tup [x, y]))) ∧ (∀ xs, SqB K l1 H a xs → xs[i]? = some x) ∧ ∀ ys, SqB K l2 H b ys → ys[i]? = some y,
    fun i H => ∃ xs ys : List V, SqB K l1 H a xs ∧ SqB K l2 H b ys ∧ i ≤ xs.length ∧ i ≤ ys.length ∧ (xs.length = i ∨ ys.length = i)⟩
theorem turn_zipB {P : Program} {w : World} {K : PySem.W.Frag} {elts : List Expr} {kk : Nat} {tpos : Pos} {l1 l2 : Bool} {a b z TI TO i1 i2 : Addr} (D : ZipSep2 z TI TO i1 i2 [i1, a] [i2, b]) (hTIi1 : TI ≠ i1) (hai : a ≠ i1) (hbi : b ≠ i2) :
    Turn P w K (.Tuple elts kk tpos) (ItzB K l1 l2 a b) [z, TI, TO, i1, i2] z (fun i h => IsZip h z TI TO .none ∧ IsTupOf2 h TI (.ref i1) (.ref i2) ∧ (∃ x y, IsTupOf2 h TO x y) ∧ IterB l1 h i1 a i ∧ IterB l2 h i2 b i) where
  mem := by simp
  obj := fun i h st c hc => by
    obtain ⟨hz, hTI, ⟨x, y, hTO⟩, h1, h2⟩ := st
    have e' : c = z ∨ c = TI ∨ c = TO ∨ c = i1 ∨ c = i2 := by simpa using hc
    rcases e' with q | q | q | q | q
    · rw [q]; exact ⟨_, hz, fun v q => nomatch q⟩
    · rw [q]; exact ⟨_, hTI, fun v q => nomatch q⟩
    · rw [q]; exact ⟨_, hTO, fun v q => nomatch q⟩
    · rw [q]; exact h1.get
    · rw [q]; exact h2.get
  keep := fun i h h' st k => by
    obtain ⟨hz, hTI, ⟨x, y, hTO⟩, h1, h2⟩ := st
    exact ⟨k z (by simp) _ hz, k TI (by simp) _ hTI, ⟨x, y, k TO (by simp) _ hTO⟩, h1.at fun o q => k i1 (by simp) o q, h2.at fun o q => k i2 (by simp) o q⟩
  item := by
    intro X hP hw hK hc i pins s σ H E I hf st hg
    subst hP hw hK
    obtain ⟨hz, hTI, ⟨x0, y0, hTO⟩, h1, h2⟩ := st
    obtain ⟨xs, ys, x, y, hqx, hqy, hx, hy⟩ := hg
    obtain ⟨its, rv, p, _⟩ := hqx.its I
    obtain ⟨its2, rv2, p2, _⟩ := hqy.its I
    obtain ⟨u, hu, ru⟩ := rv.get hx
    obtain ⟨u2, hu2, ru2⟩ := rv2.get hy
    have hzl : z < s.heap.objs.size := Heap.lt_size hz
    have hh := I.ok.hd hc
    refine wpAny_pyNext_zipD2_item D (Draws.ofB (A := X.A.in1) hh l1 i1 a hai its.toArray) (Draws.ofB (A := X.A.in1) hh l2 i2 b hbi its2.toArray) hz hTI hTO ⟨h1, p⟩ ⟨h2, p2⟩ (by have := (List.getElem?_eq_some_iff.mp hu).1; simpa using this) (by have := (List.getElem?_eq_some_iff.mp hu2).1; simpa using this) fun x1 x2 h' tk e1 e2 z' TO' h1' h2' hT hsz hk => ?_
    have e1' : x1 = u := by simpa [hu] using e1.symm
    have e2' : x2 = u2 := by simpa [hu2] using e2.symm
    subst e1' e2'
    refine ⟨_, rfl, wpAny_letOwnedTupleGo_zip (s := { s with heap := h', toks := tk }) z' fun h'' z'' sb => ?_⟩
    have hT2 : h''.get? s.heap.objs.size = some { cls := .type "tuple", data := .seq #[x1, x2] } := (sb.2 _ (Nat.ne_of_gt hzl)).trans hT
    have new : ObjOk X.prog X.w (upd H s.heap.objs.size (.frz { cls := .type "tuple", data := .seq #[x1, x2] } (.tup [x, y]))) h'' s.heap.objs.size (.frz { cls := .type "tuple", data := .seq #[x1, x2] } (.tup [x, y])) :=
      ⟨hT2, by show 2 ≤ sizeLine; decide, [x1, x2], .cons ru (.cons ru2 .nil), ⟨_, hT2, rfl, _, rfl⟩⟩
    have I1 : Inv X pins σ (upd H s.heap.objs.size (.frz { cls := .type "tuple", data := .seq #[x1, x2] } (.tup [x, y]))) { s with heap := h'', toks := tk } :=
      I.turnedNew (ch := [z, TI, TO, i1, i2]) (fun c o hb q => (sb.2 c (fun q' => hb (by simp [q']))).trans (hk c o (fun q' => hb (by simp [q'])) (fun q' => hb (by simp [q'])) (fun q' => hb (by simp [q'])) (fun q' => hb (by simp [q'])) q)) hf (Nat.le_refl _) new
    refine ⟨.ref s.heap.objs.size, _, I1, rfl, ⟨_, x, y, rfl, I.hok.fresh (Nat.le_refl _), ⟨_, rfl, rfl⟩, fun l hl => by rw [hl.inj I hqx]; exact hx, fun l hl => by rw [hl.inj I hqy]; exact hy⟩, ⟨z'', ?_, ⟨x1, x2, ?_⟩, ?_, ?_⟩, fun c hcm => ?_⟩
    · exact (sb.2 _ D.TIz).trans (hk _ _ D.TIz D.TITO D.TIi1 D.TIi2 hTI)
    · exact (sb.2 _ D.TOz).trans TO'
    · exact h1'.1.at fun o q => (sb.2 _ (Ne.symm D.zi1)).trans q
    · exact h2'.1.at fun o q => (sb.2 _ (Ne.symm D.zi2)).trans q
    · have hlt : c < s.heap.objs.size := by
        have e' : c = z ∨ c = TI ∨ c = TO ∨ c = i1 ∨ c = i2 := by simpa using hcm
        rcases e' with q | q | q | q | q
        · rw [q]; exact hzl
        · rw [q]; exact Heap.lt_size hTI
        · rw [q]; exact Heap.lt_size hTO
        · rw [q]; obtain ⟨_, e1, _⟩ := h1.get; exact Heap.lt_size e1
        · rw [q]; obtain ⟨_, e2, _⟩ := h2.get; exact Heap.lt_size e2
      rw [upd_ne (Nat.ne_of_lt hlt)]
      exact (hf c hcm).1
  done := by
    intro X hP hw hK hc i pins s σ H E I hf st hg
    subst hP hw hK
    obtain ⟨hz, hTI, ⟨x0, y0, hTO⟩, h1, h2⟩ := st
    obtain ⟨xs, ys, hqx, hqy, hl1, hl2, hend⟩ := hg
    obtain ⟨its, rv, p, _⟩ := hqx.its I
    obtain ⟨its2, rv2, p2, _⟩ := hqy.its I
    have e1 := rv.length
    have e2 := rv2.length
    have hh := I.ok.hd hc
    refine wpAny_pyNext_zipD2_end D (Draws.ofB (A := X.A.in1) hh l1 i1 a hai its.toArray) (Draws.ofB (A := X.A.in1) hh l2 i2 b hbi its2.toArray) hz hTI hTO ⟨h1, p⟩ ⟨h2, p2⟩ (by simp; omega) (by simp; omega) (by simp; omega) fun h' tk hk => ⟨rfl, I.turnedL (ch := [z, TI, TO, i1, i2]) (fun c o hb q =>
      hk c o (fun q' => hb (by simp [q'])) (fun q' => hb (by simp [q'])) (fun q' => hb (by simp [q'])) (fun q' => hb (by simp [q'])) q) hf⟩
  self := fun A i s Q E st h => wpAny_pyIter_zip st.1 h
/-- enumerate -/
def IteB (K : PySem.W.Frag) (l : Bool) (a : Addr) : It :=
  ⟨fun i H => ∃ (xs : List V) (x : V), SqB K l H a xs ∧ xs[i]? = some x, fun i H v H' => ∃ T x, v = .ref T ∧ H T = none ∧ (∃ o : Obj, o.dict = none ∧ H' = upd H T (.frz o (.tup [.int (i : Nat), x]))) ∧ ∀ xs, SqB K l H a xs → xs[i]? = some x, fun i H => ∃ xs : List V, SqB K l H a xs ∧ xs.length = i⟩
theorem turn_enumB {P : Program} {w : World} {K : PySem.W.Frag} {elts : List Expr} {kk : Nat} {tpos : Pos} {l : Bool} (a e it : Addr) (hea : e ≠ a) (hai : a ≠ it) :
    Turn P w K (.Tuple elts kk tpos) (IteB K l a) [e, it] e (fun i h => (∃ old, IsEnum h e it ((0 : Int) + (i : Nat)) old) ∧ IterB l h it a i ∧ e ≠ it) where
  mem := by simp
  obj := fun i h st b hb => by
    obtain ⟨⟨old, he⟩, hi, _⟩ := st
    have e' : b = e ∨ b = it := by simpa using hb
    rcases e' with z | z
    · rw [z]; exact ⟨_, he, fun v q => nomatch q⟩
    · rw [z]; exact hi.get
  keep := fun i h h' st k => let ⟨⟨old, he⟩, hi, hne⟩ := st; ⟨⟨old, k e (by simp) _ he⟩, hi.at fun o q => k it (by simp) o q, hne⟩
  item := by
    intro X hP hw hK hc i pins s σ H E I hf st hg
    subst hP hw hK
    obtain ⟨⟨old, he⟩, hit, hne⟩ := st
    obtain ⟨xs, x, hq, hx⟩ := hg
    obtain ⟨its, rv, p, _⟩ := hq.its I
    obtain ⟨u, hu, ru⟩ := rv.get hx
    have hel : e < s.heap.objs.size := Heap.lt_size he
    have hil : it < s.heap.objs.size := by obtain ⟨_, q, _⟩ := hit.get; exact Heap.lt_size q
    have hh := I.ok.hd hc
    refine wpAny_pyNext_enum_itemC (Draws.ofB (A := X.A.in1) hh l it a hai its.toArray) he ⟨hit, p⟩ (by have := (List.getElem?_eq_some_iff.mp hu).1; simpa using this) hne (by simp [hne, hea]) fun x' h' tk hx' ho hit' hT hsz hk => ?_
    have ex : x' = u := by simpa [hu] using hx'.symm
    subst ex
    refine ⟨_, rfl, wpAny_letOwnedTupleGo_enum (s := { s with heap := h', toks := tk + 1 }) ho fun h'' he' sb => ?_⟩
    have hT2 : h''.get? s.heap.objs.size = some { cls := .type "tuple", data := .seq #[.int ((0 : Int) + (i : Nat)) tk, x'] } := (sb.2 _ (Nat.ne_of_gt hel)).trans hT
    have ez : (0 : Int) + (i : Nat) = ((i : Nat) : Int) := Int.zero_add _
    rw [ez] at hT2
    have new : ObjOk X.prog X.w (upd H s.heap.objs.size (.frz { cls := .type "tuple", data := .seq #[.int (i : Nat) tk, x'] } (.tup [.int (i : Nat), x]))) h'' s.heap.objs.size (.frz { cls := .type "tuple", data := .seq #[.int (i : Nat) tk, x'] } (.tup [.int (i : Nat), x])) :=
      ⟨hT2, by show 2 ≤ sizeLine; decide, [.int (i : Nat) tk, x'], .cons ⟨_, rfl⟩ (.cons ru .nil), ⟨_, hT2, rfl, _, rfl⟩⟩
    have I1 : Inv X pins σ (upd H s.heap.objs.size (.frz { cls := .type "tuple", data := .seq #[.int (i : Nat) tk, x'] } (.tup [.int (i : Nat), x]))) { s with heap := h'', toks := tk + 1 } :=
      I.turnedNew (ch := [e, it]) (fun b ob hb q => (sb.2 b (fun z => hb (by simp [z]))).trans (hk b ob (fun z => hb (by simp [z])) (fun z => hb (by simp [z])) q)) hf (Nat.le_refl _) new
    refine ⟨.ref s.heap.objs.size, _, I1, rfl, ⟨_, x, rfl, I.hok.fresh (Nat.le_refl _), ⟨_, rfl, rfl⟩, fun ys hy => by rw [hy.inj I hq]; exact hx⟩, ⟨⟨x', ?_⟩, hit'.1.at fun o q => (sb.2 it (Ne.symm hne)).trans q, hne⟩, fun b hb => ?_⟩
    · have e1 : (0 : Int) + ((i + 1 : Nat) : Int) = (0 : Int) + (i : Int) + 1 := by omega
      rw [e1]
      exact he'
    · have hb' : b < s.heap.objs.size := by
        have e' : b = e ∨ b = it := by simpa using hb
        rcases e' with z | z
        · rw [z]; exact hel
        · rw [z]; exact hil
      rw [upd_ne (Nat.ne_of_lt hb')]
      exact (hf b hb).1
  done := by
    intro X hP hw hK hc i pins s σ H E I hf st hg
    subst hP hw hK
    obtain ⟨⟨old, he⟩, hit, hne⟩ := st
    obtain ⟨xs, hq, hx⟩ := hg
    obtain ⟨its, rv, p, _⟩ := hq.its I
    have hl := rv.length
    have hh := I.ok.hd hc
    have W := WalksT.enumFrom (prog := X.prog) (w := X.w) (A := X.A) (0 : Int) (Draws.ofB (A := X.A.in1) hh l it a hai its.toArray) e hne (by simp [hne, hea]) (by simp)
    have hz : its.toArray.size = i := by simp; omega
    rw [hz] at W
    exact W.done s _ _ ⟨⟨old, he⟩, hit, p⟩ fun h' tk hk => ⟨rfl, I.turnedL (ch := [e, it]) (fun b o hb q => hk b o hb q) hf⟩
  self := fun A i s Q E st h => let ⟨⟨_, he⟩, _⟩ := st; wpAny_pyIter_enum he h

/-! ### the rules -/
section
variable {X : Cx} {tg : Expr}
def iVals' (K : PySem.W.Frag) (te : TE) : TI := fun σ H R => te σ H fun v H1 => (∃ a, v = .ref a ∧ (∃ xs, SqL K H1 a xs) ∧ R (Itl K a) H1) ∨ (∃ a, v = .ref a ∧ (∃ xs, SqT K H1 a xs) ∧ R (Itt K a) H1) ∨ ∃ x, v = .str x ∧ R (Its x) H1
theorem pi_any {e : Expr} {te : TE} (he : PE X e te) : PI X tg e (iVals' X.K te) := by
  refine ⟨fun pins s σ H R I h => ?_⟩
  refine thn (he.run pins s σ H _ I h) fun v s1 ⟨y, H1, I1, r1, q⟩ => ?_
  rcases q with ⟨a, rfl, ⟨xs, hq⟩, q⟩ | ⟨a, rfl, ⟨xs, hq⟩, q⟩ | ⟨x, rfl, q⟩
  · cases r1
    obtain ⟨its, rv, p, hz⟩ := I1.list hq
    exact wpAny_pyIter_list p.isList (pi_one (tk := s1.toks) I1 _ (turn_list a _) ⟨_, Heap.get?_push_size _ rfl, rfl, rfl⟩ q)
  · cases r1
    obtain ⟨its, rv, p, hz⟩ := I1.tuple hq
    exact wpAny_pyIter_tuple (show s1.heap.IsTuple a its.toArray from p) (pi_one (tk := s1.toks) I1 _ (turn_tuple a _) ⟨_, Heap.get?_push_size _ rfl, rfl, rfl⟩ q)
  · obtain ⟨t, rfl⟩ := r1
    cases ha : x.cps.all (· < 128)
    · exact wpAny_pyIter_wide ha (pi_one (tk := s1.toks) I1 _ (turn_str _ x t "str_iterator" (.inr rfl)) ⟨_, Heap.get?_push_size _ rfl, rfl, rfl⟩ q)
    · exact wpAny_pyIter_ascii ha (pi_one (tk := s1.toks) I1 _ (turn_str _ x t "str_ascii_iterator" (.inl rfl)) ⟨_, Heap.get?_push_size _ rfl, rfl, rfl⟩ q)
theorem IsB.lt {l : Bool} {h : Heap} {a : Addr} {its : Array Value} (x : IsB l h a its) : a < h.objs.size := by
  unfold IsB at x
  split at x
  · obtain ⟨o, e, _⟩ := x; exact Heap.lt_size e
  · obtain ⟨o, e, _⟩ := x; exact Heap.lt_size e
/-- the new iterator -/
def iterObj (l : Bool) (a : Addr) : Obj := if l = true then { cls := .type "list_iterator", data := .fields #[.ref a, .int 0 0] } else { cls := .type "tuple_iterator", data := .fields #[.ref a, .int 0 0] }
theorem begins_B (l : Bool) (a : Addr) (its : Array Value) : Begins (.ref a) (iterObj l a) fun h => IsB l h a its := by
  cases l with
  | true => exact begins_list a its
  | false => exact begins_tuple a its
theorem iterObj_at {l : Bool} {h : Heap} {it a : Addr} (e : h.get? it = some (iterObj l a)) : IterB l h it a 0 := by
  cases l with
  | true => exact ⟨_, e, rfl, rfl⟩
  | false => exact ⟨_, e, rfl, rfl⟩
def iZipB (K : PySem.W.Frag) (ta : TA) : TI := fun σ H R => ta σ H fun vs H1 => ∃ l1 l2 a b xs ys, vs = [.ref a, .ref b] ∧ SqB K l1 H1 a xs ∧ SqB K l2 H1 b ys ∧ R (ItzB K l1 l2 a b) H1
theorem pi_zipB {e e2 : Expr} {ta : TA} {p pos tpos : Pos} {elts : List Expr} {kk : Nat} (hg : Gl X "zip") (hm : X.mg "zip" = none) (ha : PA X [e, e2] ta)
    (hs : starEach [e, e2] X.env = (false, eval e X.env) :: starEach [e2] X.env := by rfl) (hpl : (backTo pos (starEach [e2] X.env)).any (·.1) = false := by rfl) :
    PI X (.Tuple elts kk tpos) (.Call (.Name "zip" p) [e, e2] [] pos) (iZipB X.K ta) := by
  refine ⟨fun pins s σ H R I h => ?_⟩
  refine Call_ (ld_blt I hg hm PyProof.Rows.boot_zip (PyProof.Rows.callWith_type1 (thn (ha.run pos pins s σ H _ I h) fun us s1 ⟨vs, H1, I1, r1, q1⟩ => ?_) hs hpl))
  obtain ⟨l1, l2, a, b, xs, ys, ex, hqx, hqy, q⟩ := q1
  subst ex
  cases r1 with
  | cons r rr =>
    cases rr with
    | cons r' rr =>
      cases rr
      cases r
      cases r'
      obtain ⟨its, rv, p1, _⟩ := hqx.its I1
      obtain ⟨its2, rv2, p2, _⟩ := hqy.its I1
      have la := p1.lt
      have lb := p2.lt
      refine zip_begins2 (begins_B l1 a its.toArray) (begins_B l2 b its2.toArray) p1 p2 fun h' hz hTI hTO h1 h2 hsz hk => wpAny_pyIter_zip hz ?_
      have I2 : Inv X pins σ H1 { s1 with heap := h' } := I1.kept (t' := s1.toks) hk
      refine ⟨s1.heap.objs.size + 4, [s1.heap.objs.size + 4, s1.heap.objs.size + 2, s1.heap.objs.size + 3, s1.heap.objs.size, s1.heap.objs.size + 1], _, _, H1, rfl, I2,
        turn_zipB (l1 := l1) (l2 := l2) (a := a) (b := b) (zip_sep2 (N := s1.heap.objs.size) (fp1 := [a]) (fp2 := [b]) (fun c hc => by rw [List.mem_singleton.mp hc]; exact la) (fun c hc => by rw [List.mem_singleton.mp hc]; exact lb)) (Nat.ne_of_gt (Nat.lt_add_of_pos_right (by decide))) (Nat.ne_of_lt la) (Nat.ne_of_lt (Nat.lt_succ_of_lt lb)),
        ⟨hz, hTI, ⟨_, _, hTO⟩, iterObj_at h1, iterObj_at h2⟩, fun c hcm => ?_, q⟩
      have e' : c = s1.heap.objs.size + 4 ∨ c = s1.heap.objs.size + 2 ∨ c = s1.heap.objs.size + 3 ∨ c = s1.heap.objs.size ∨ c = s1.heap.objs.size + 1 := by simpa using hcm
      have hle : s1.heap.objs.size ≤ c := by
        rcases e' with z | z | z | z | z
        · rw [z]; exact Nat.le_add_right _ _
        · rw [z]; exact Nat.le_add_right _ _
        · rw [z]; exact Nat.le_add_right _ _
        · rw [z]; exact Nat.le_refl _
        · rw [z]; exact Nat.le_add_right _ _
      exact I1.fpOk hle (I1.hok.fresh hle)
def iEnumB (K : PySem.W.Frag) (ta : TA) : TI := fun σ H R => ta σ H fun vs H1 => ∃ l a xs, vs = [.ref a] ∧ SqB K l H1 a xs ∧ R (IteB K l a) H1
end
end L2.EV

set_option Elab.async false
set_option linter.all false
set_option maxRecDepth 100000
namespace L2.EV
open PySem PySem.Spec PyProof.Rows

set_option maxHeartbeats 1000000 in
theorem meets_enum_newB1 {v : Value} {o : Obj} {H : Heap → Prop} (B : Begins v o H) :
    Meets (Builtin.«enumerate.__new__» ⟨[.type "enumerate", v], []⟩) (fun _ R s => H s.heap ∧
      R (.ok (.ret (.ref (s.heap.push o).objs.size))) { s with heap := (s.heap.push o).push { cls := .type "enumerate", data := .fields #[.none, .bool false, .ref s.heap.objs.size, rawInt 0, .none, .none] } }) :=
  .of_wp fun prog w A R s h => by
    obtain ⟨hp, g, d, tk, os⟩ := s; obtain ⟨h1, h⟩ := h
    have hsub := sub_enumerate
    have q1 : ∀ {A' : Around} {E : Value → Shared → Prop} {Q : Value → Shared → Prop}, Q (.ref hp.objs.size) ⟨hp.push o, g, d, tk, os⟩ → wpAny (model prog w) A' (pyIter v) Q E ⟨hp, g, d, tk, os⟩ :=
      fun q => B.iter prog w _ _ ⟨hp, g, d, tk, os⟩ _ h1 q
    wp_walk using q1
    refine wpAny_stack_any fun st => wpAny_pure ?_
    split
    · rename_i c _ _ _ _ _
      cases (c == Value.type "enumerate")
      · wp_walk using q1
        exact ⟨_, rfl, h⟩
      · wp_walk using q1
        exact ⟨_, rfl, h⟩
    · wp_walk using q1
      exact ⟨_, rfl, h⟩
theorem enum_begins1 {prog : Program} {w : World} {A : Around} {E : Value → Shared → Prop} {s : Shared} {v : Value} {o : Obj} {H : Heap → Prop} {Q : Value → Shared → Prop} (B : Begins v o H) (h1 : H s.heap)
    (h : ∀ h', IsEnum h' (s.heap.objs.size + 1) s.heap.objs.size 0 .none → h'.get? s.heap.objs.size = some o → h'.objs.size = s.heap.objs.size + 2 →
      (∀ b o, s.heap.get? b = some o → h'.get? b = some o) → Q (.ref (s.heap.objs.size + 1)) { s with heap := h' }) :
    wpAny (model prog w) A (call (.type "enumerate") [v]) Q E s := by
  refine callType_new F.called_enumerate (by decide) (F.typeCall_enumerate_1 _) (F.newCall_enumerate_1 _) (fun obj => F.args_object_init_2 obj _) F.entry_enumerate_new
    (meets_enum_newB1 B) ⟨h1, ?_⟩
  have hz : (s.heap.push o).objs.size = s.heap.objs.size + 1 := Heap.size_push ..
  show _ ∧ _
  rw [hz]
  have he : IsEnum ((s.heap.push o).push { cls := .type "enumerate", data := .fields #[.none, .bool false, .ref s.heap.objs.size, rawInt 0, .none, .none] }) (s.heap.objs.size + 1) s.heap.objs.size 0 .none := by
    have := Heap.get?_push_size (s.heap.push o) (o := { cls := .type "enumerate", data := .fields #[.none, .bool false, .ref s.heap.objs.size, rawInt 0, .none, .none] }) rfl
    rw [hz] at this; exact this
  refine ⟨⟨_, he, rfl⟩, h _ he (Heap.get?_push_of_some _ (Heap.get?_push_size _ B.free)) (by rw [Heap.size_push, hz]) fun b o x => Heap.get?_push_of_some _ (Heap.get?_push_of_some _ x)⟩

section
variable {X : Cx} {tg : Expr} {C : Cp} {k : Nat}
theorem pi_enumB {e : Expr} {ta : TA} {p pos tpos : Pos} {elts : List Expr} {kk : Nat} (hg : Gl X "enumerate") (hm : X.mg "enumerate" = none) (ha : PA X [e] ta) (hs : starEach [e] X.env = [(false, eval e X.env)] := by rfl) :
    PI X (.Tuple elts kk tpos) (.Call (.Name "enumerate" p) [e] [] pos) (iEnumB X.K ta) := by
  refine ⟨fun pins s σ H R I h => ?_⟩
  refine Call_ (ld_blt I hg hm boot_enumerate (PyProof.Rows.callWith_type1 (thn (ha.run pos pins s σ H _ I h) fun us s1 ⟨vs, H1, I1, r1, q1⟩ => ?_) hs rfl))
  obtain ⟨l, a, xs, ex, hq, q⟩ := q1
  subst ex
  cases r1 with
  | cons r rr =>
    cases rr
    cases r
    obtain ⟨its, rv, p1, _⟩ := hq.its I1
    have la := p1.lt
    refine enum_begins1 (begins_B l a its.toArray) p1 fun h' he hit hsz hk => wpAny_pyIter_enum he ?_
    have I2 : Inv X pins σ H1 { s1 with heap := h' } := I1.kept (t' := s1.toks) hk
    refine ⟨s1.heap.objs.size + 1, [s1.heap.objs.size + 1, s1.heap.objs.size], _, _, H1, rfl, I2, turn_enumB (l := l) a (s1.heap.objs.size + 1) s1.heap.objs.size (Nat.ne_of_gt (Nat.lt_succ_of_lt la)) (Nat.ne_of_lt la), ⟨⟨.none, he⟩, iterObj_at hit, Nat.succ_ne_self _⟩, fun b hb => ?_, q⟩
    have e' : b = s1.heap.objs.size + 1 ∨ b = s1.heap.objs.size := by simpa using hb
    have hle : s1.heap.objs.size ≤ b := by
      rcases e' with z | z
      · rw [z]; exact Nat.le_add_right _ _
      · rw [z]; exact Nat.le_refl _
    exact I1.fpOk hle (I1.hok.fresh hle)

/-! ### read as rows -/
def seqB : PV → Bool
  | .tup _ => false
  | _ => true
theorem Rep.sq {F : Addr → Prop} {H : Hp} {t : PV} {ts : List PV} {v : V} (h : Rep C.K C.mg F H t v) (e : items t = some ts) : ∃ a vs, v = .ref a ∧ SqB C.K (seqB t) H a vs ∧ RepL C.K C.mg F H ts vs := by
  cases t <;> simp only [items, Option.some.injEq, reduceCtorEq] at e
  · subst e
    obtain ⟨a, vs, e1, h1, r⟩ := (RepW.rep h).tup
    exact ⟨a, vs, e1, h1.sq, r⟩
  · subst e
    obtain ⟨a, vs, e1, h1, r⟩ := (RepW.rep h).lst
    exact ⟨a, vs, e1, .of h1, r⟩
  · subst e
    obtain ⟨a, vs, e1, h1, r⟩ := (RepW.rep h).scr
    exact ⟨a, vs, e1, h1.sq, r⟩
theorem sqB_keep {F F' : Addr → Prop} {H H' : Hp} {t : PV} {ts : List PV} {a : Addr} (k : Keep F H F' H') (h : Rep C.K C.mg F H t (.ref a)) (e : items t = some ts) : ∃ vs, SqB C.K (seqB t) H' a vs ∧ RepL C.K C.mg F' H' ts vs := by
  obtain ⟨b, vs, e1, h1, r⟩ := (h.mono k).sq e
  cases e1
  exact ⟨vs, h1, r⟩

/-! #### lists, tuples, texts -/
def chars (x : Str) : List PV := x.cps.toList.map fun c => .str ⟨#[c]⟩
def iterOf (t : PV) : Option (List PV) := match t with
  | .str x => some (chars x)
  | t => items t
def itM (m : M PV) : M (List PV) := mbind m fun t => mlift (iterOf t)
theorem yields_L {ts : List PV} {F : Addr → Prop} {H : Hp} {t : PV} {a : Addr} (h : Rep C.K C.mg F H t (.ref a)) (e : items t = some ts) (hl : seqB t = true) : Yields C ts (Itl C.K a) F H := fun i F' H' k => by
  obtain ⟨vs, h1, r⟩ := sqB_keep k h e
  rw [hl] at h1
  have h2 : SqL C.K H' a vs := h1
  refine ⟨fun u hu => ?_, fun hz => ⟨vs, h2, by rw [← r.length]; omega⟩⟩
  obtain ⟨w, hw, rw'⟩ := r.get hu
  refine ⟨⟨vs, w, h2, hw⟩, fun x H2 ⟨e1, e2⟩ => .inl ⟨e1, ?_⟩⟩
  have := e2 vs h2
  rw [hw] at this
  cases this
  exact rw'
theorem yields_T {ts : List PV} {F : Addr → Prop} {H : Hp} {t : PV} {a : Addr} (h : Rep C.K C.mg F H t (.ref a)) (e : items t = some ts) (hl : seqB t = false) : Yields C ts (Itt C.K a) F H := fun i F' H' k => by
  obtain ⟨vs, h1, r⟩ := sqB_keep k h e
  rw [hl] at h1
  have h2 : SqT C.K H' a vs := h1
  refine ⟨fun u hu => ?_, fun hz => ⟨vs, h2, by rw [← r.length]; omega⟩⟩
  obtain ⟨w, hw, rw'⟩ := r.get hu
  refine ⟨⟨vs, w, h2, hw⟩, fun x H2 ⟨e1, e2⟩ => .inl ⟨e1, ?_⟩⟩
  have := e2 vs h2
  rw [hw] at this
  cases this
  exact rw'
theorem yields_S {F : Addr → Prop} {H : Hp} {x : Str} : Yields C (chars x) (Its x) F H := fun i F' H' k => by
  refine ⟨fun u hu => ?_, fun hz => ?_⟩
  · unfold chars at hu
    rw [List.getElem?_map, Option.map_eq_some_iff] at hu
    obtain ⟨c, hc, rfl⟩ := hu
    have hlt : i < x.cps.size := by
      have := (List.getElem?_eq_some_iff.mp hc).1
      simpa using this
    refine ⟨hlt, fun v H2 ⟨e1, d, hd, e2⟩ => .inl ⟨e1, ?_⟩⟩
    rw [Array.getElem?_toList] at hc
    rw [hc] at hd
    cases hd
    rw [e2]
    exact .str _
  · unfold chars at hz
    show x.cps.size ≤ i
    simp at hz
    omega
theorem items_not {t : PV} (h : ∀ x, t ≠ .str x) : iterOf t = items t := by cases t <;> first | rfl | exact absurd rfl (h _)
theorem ri_val (rc : RC X C k) {e : Expr} {m : M PV} (h : RE X C e m) : RI X C tg e (itM m) := (pi_any h).imp fun σ H R ⟨env, F, n, q⟩ => ⟨env, F, n, q.seq.imp fun t env1 F1 H1 _ _ _ ⟨env1', n1, q1⟩ v rv => by
  rw [rc.hK]
  obtain ⟨ts, e1, q2⟩ := q1.lift n1
  have q3 := q2 F1 H1 n1 Ext.refl
  cases t with
  | str x =>
    cases rv
    cases e1
    exact .inr (.inr ⟨x, rfl, q3 _ yields_S⟩)
  | lst us =>
    obtain ⟨a, vs, rfl, h1, r⟩ := (RepW.rep rv).lst
    cases e1
    exact .inl ⟨a, rfl, ⟨vs, .of h1⟩, q3 _ (yields_L rv rfl rfl)⟩
  | scr us =>
    obtain ⟨a, vs, rfl, h1, r⟩ := (RepW.rep rv).scr
    cases e1
    exact .inl ⟨a, rfl, ⟨vs, h1.sq⟩, q3 _ (yields_L rv rfl rfl)⟩
  | tup us =>
    obtain ⟨a, vs, rfl, h1, r⟩ := (RepW.rep rv).tup
    cases e1
    exact .inr (.inl ⟨a, rfl, ⟨vs, h1.sq⟩, q3 _ (yields_T rv rfl rfl)⟩)
  | _ => cases e1⟩

/-! #### range -/
def rgOk (i : Int) : Bool := decide (-(2 ^ 62) ≤ i ∧ i < 2 ^ 62)
def rng1 (j : Int) : List PV := (List.range j.toNat).map fun k => .int (k : Nat)
def rng2 (i j : Int) : List PV := (List.range (j - i).toNat).map fun k => .int (i + (k : Nat))
def rng3 (i c : Int) (n : Nat) : List PV := (List.range n).map fun k => .int (i + (k : Nat) * c)
def rgOk3 (i j c : Int) : Bool := decide (c ≠ 0 ∧ c.natAbs < 1073741824 ∧ Builtin.Range.small i j c = true ∧ 0 ≤ Builtin.Range.rangeSize i j c)
def rngM1 (ma : M PV) : M (List PV) := mbind ma fun t => match t with
  | .int j => if rgOk j = true then mret (rng1 j) else mstuck
  | _ => mstuck
def rngM2 (ma mb : M PV) : M (List PV) := mbind ma fun t => mbind mb fun u => match t, u with
  | .int i, .int j => if (rgOk i && rgOk j) = true then mret (rng2 i j) else mstuck
  | _, _ => mstuck
def rngM3 (ma mb mc : M PV) : M (List PV) := mbind ma fun t => mbind mb fun u => mbind mc fun v => match t, u, v with
  | .int i, .int j, .int c => if rgOk3 i j c = true then mret (rng3 i c (Builtin.Range.rangeSize i j c).toNat) else mstuck
  | _, _, _ => mstuck
theorem yields_R {lo : Int} {n : Nat} {F : Addr → Prop} {H : Hp} {ts : List PV} (hts : ts = (List.range n).map fun k => .int (lo + (k : Nat))) : Yields C ts (Itr lo n) F H := fun i F' H' k => by
  subst hts
  refine ⟨fun u hu => ?_, fun hz => ?_⟩
  · rw [List.getElem?_map, Option.map_eq_some_iff] at hu
    obtain ⟨j, hj, rfl⟩ := hu
    obtain ⟨h1, h2⟩ := List.getElem?_eq_some_iff.mp hj
    rw [List.length_range] at h1
    rw [List.getElem_range] at h2
    subst h2
    exact ⟨h1, fun x H2 ⟨e1, e2⟩ => .inl ⟨e1, by rw [e2]; exact .int _⟩⟩
  · rw [List.length_map, List.length_range] at hz
    exact Nat.le_of_eq hz
theorem yields_C {lo c : Int} {n : Nat} {F : Addr → Prop} {H : Hp} : Yields C (rng3 lo c n) (Itc lo c n) F H := fun i F' H' k => by
  unfold rng3
  refine ⟨fun u hu => ?_, fun hz => ?_⟩
  · rw [List.getElem?_map, Option.map_eq_some_iff] at hu
    obtain ⟨j, hj, rfl⟩ := hu
    obtain ⟨h1, h2⟩ := List.getElem?_eq_some_iff.mp hj
    rw [List.length_range] at h1
    rw [List.getElem_range] at h2
    subst h2
    exact ⟨h1, fun x H2 ⟨e1, e2⟩ => .inl ⟨e1, by rw [e2]; exact .int _⟩⟩
  · rw [List.length_map, List.length_range] at hz
    exact Nat.le_of_eq hz
theorem rg_bnd {i : Int} (h : rgOk i = true) : -(2 ^ 62) ≤ i ∧ i < 2 ^ 62 := of_decide_eq_true h
variable {a b c : Expr} {ma mb mc : M PV} {p pos : Pos}
theorem ri_range1 (rc : RC X C k) (hg : Gl X "range") (hm : C.mg "range" = none) (ha : RE X C a ma) (hs : starEach [a] X.env = [(false, eval a X.env)] := by rfl) : RI X C tg (.Call (.Name "range" p) [a] [] pos) (rngM1 ma) :=
  (pi_range1 hg (by rw [rc.hmg]; exact hm) (pa_cons ha pa_nil (by rw [hs]; rfl)) hs).imp fun σ H R ⟨env, F, n, q⟩ => ⟨env, F, n, q.seq.imp fun t env1 F1 H1 _ _ _ ⟨env1', n1, q1⟩ v rv => by
    cases t <;> try exact q1.elim
    cases rv
    dsimp only at q1
    split at q1
    · rename_i z
      obtain ⟨z1, z2⟩ := rg_bnd z
      exact ⟨_, rfl, z1, z2, q1.ret n1 _ (yields_R (by unfold rng1; simp))⟩
    · exact q1.elim⟩
theorem ri_range2 (rc : RC X C k) (hg : Gl X "range") (hm : C.mg "range" = none) (ha : RE X C a ma) (hb : RE X C b mb) (hs : starEach [a, b] X.env = [(false, eval a X.env), (false, eval b X.env)] := by rfl) (hs2 : starEach [b] X.env = [(false, eval b X.env)] := by rfl) :
    RI X C tg (.Call (.Name "range" p) [a, b] [] pos) (rngM2 ma mb) :=
  (pi_range2 hg (by rw [rc.hmg]; exact hm) (pa_cons ha (pa_cons hb pa_nil (by rw [hs2]; rfl)) (by rw [hs, hs2])) hs hs2).imp fun σ H R ⟨env, F, n, q⟩ => ⟨env, F, n, q.seq.imp fun t env1 F1 H1 _ _ _ ⟨env1', n1, q1⟩ v rv => ⟨env1', F1, n1, q1.seq.imp fun u env2 F2 H2 _ _ _ ⟨env2', n2, q2⟩ w rw' => by
    cases t <;> cases u <;> try exact q2.elim
    cases rv
    cases rw'
    dsimp only at q2
    split at q2
    · rename_i z
      rw [Bool.and_eq_true] at z
      obtain ⟨z1, z2⟩ := rg_bnd z.1
      obtain ⟨z3, z4⟩ := rg_bnd z.2
      exact ⟨_, _, rfl, ⟨z1, z2, z3, z4⟩, q2.ret n2 _ (yields_R rfl)⟩
    · exact q2.elim⟩⟩
theorem ri_range3 (rc : RC X C k) (hg : Gl X "range") (hm : C.mg "range" = none) (ha : RE X C a ma) (hb : RE X C b mb) (hc : RE X C c mc) (hs : starEach [a, b, c] X.env = (false, eval a X.env) :: starEach [b, c] X.env := by rfl)
    (hs2 : starEach [b, c] X.env = (false, eval b X.env) :: starEach [c] X.env := by rfl) (hs3 : starEach [c] X.env = (false, eval c X.env) :: starEach [] X.env := by rfl) (hpl : (backTo pos (starEach [b, c] X.env)).any (·.1) = false := by rfl) :
    RI X C tg (.Call (.Name "range" p) [a, b, c] [] pos) (rngM3 ma mb mc) :=
  (pi_range3 hg (by rw [rc.hmg]; exact hm) (pa_cons ha (pa_cons hb (pa_cons hc pa_nil hs3) hs2) hs) hs hpl).imp fun σ H R ⟨env, F, n, q⟩ => ⟨env, F, n, q.seq.imp fun t env1 F1 H1 _ _ _ ⟨env1', n1, q1⟩ v rv => ⟨env1', F1, n1, q1.seq.imp fun u env2 F2 H2 _ _ _ ⟨env2', n2, q2⟩ w rw' =>
    ⟨env2', F2, n2, q2.seq.imp fun x env3 F3 H3 _ _ _ ⟨env3', n3, q3⟩ y ry => by
    cases t <;> cases u <;> cases x <;> try exact q3.elim
    cases rv
    cases rw'
    cases ry
    dsimp only at q3
    split at q3
    · rename_i z
      unfold rgOk3 at z
      obtain ⟨z1, z2, z3, z4⟩ := of_decide_eq_true z
      exact ⟨_, _, _, _, rfl, ⟨z1, z2, z3, by omega⟩, q3.ret n3 _ yields_C⟩
    · exact q3.elim⟩⟩⟩

/-! #### zip, enumerate -/
def zipL (ts us : List PV) : List PV := List.zipWith (fun x y => .tup [x, y]) ts us
def zipM (ma mb : M PV) : M (List PV) := mbind ma fun t => mbind mb fun u => mbind (mlift (items t)) fun ts => mbind (mlift (items u)) fun us => mret (zipL ts us)
def enumL (i : Nat) : List PV → List PV
  | [] => []
  | t :: ts => .tup [.int (i : Nat), t] :: enumL (i + 1) ts
def enumM (ma : M PV) : M (List PV) := mbind ma fun t => mbind (mlift (items t)) fun ts => mret (enumL 0 ts)
theorem enumL_get : ∀ {ts : List PV} {j i : Nat} {u : PV}, (enumL j ts)[i]? = some u → ∃ t, ts[i]? = some t ∧ u = .tup [.int ((j + i : Nat) : Int), t]
  | [], _, _, _, h => by simp [enumL] at h
  | t :: ts, j, 0, u, h => by simp [enumL] at h; exact ⟨t, rfl, by rw [← h]; rfl⟩
  | t :: ts, j, i + 1, u, h => by
    obtain ⟨x, h1, h2⟩ := enumL_get (ts := ts) (j := j + 1) (i := i) (by simpa [enumL] using h)
    exact ⟨x, by simpa using h1, by rw [h2, show j + 1 + i = j + (i + 1) by omega]⟩
theorem enumL_length : ∀ {ts : List PV} {j : Nat}, (enumL j ts).length = ts.length
  | [], _ => rfl
  | _ :: ts, j => congrArg (· + 1) (enumL_length (ts := ts) (j := j + 1))
theorem yields_Z {t u : PV} {ts us : List PV} {F : Addr → Prop} {H : Hp} {a b : Addr} (h1 : Rep C.K C.mg F H t (.ref a)) (e1 : items t = some ts) (h2 : Rep C.K C.mg F H u (.ref b)) (e2 : items u = some us) :
    Yields C (zipL ts us) (ItzB C.K (seqB t) (seqB u) a b) F H := fun i F' H' kp => by
  obtain ⟨vs, q1, r1⟩ := sqB_keep kp h1 e1
  obtain ⟨ws, q2, r2⟩ := sqB_keep kp h2 e2
  refine ⟨fun x hx => ?_, fun hz => ?_⟩
  · unfold zipL at hx
    rw [List.getElem?_zipWith] at hx
    split at hx
    · rename_i x1 x2 ex1 ex2
      cases hx
      obtain ⟨w1, hw1, rw1⟩ := r1.get ex1
      obtain ⟨w2, hw2, rw2⟩ := r2.get ex2
      refine ⟨⟨vs, ws, w1, w2, q1, q2, hw1, hw2⟩, fun v H2 ⟨T, y1, y2, ev, hT, ⟨o, hd, eH⟩, f1, f2⟩ => .inr ⟨T, _, hT, eH, ?_⟩⟩
      have g1 := f1 vs q1
      have g2 := f2 ws q2
      rw [hw1] at g1
      rw [hw2] at g2
      cases g1
      cases g2
      subst ev eH
      exact rep_newT hT hd (.cons rw1 (.cons rw2 .nil))
    · cases hx
  · unfold zipL at hz
    rw [List.length_zipWith] at hz
    have l1 := r1.length
    have l2 := r2.length
    exact ⟨vs, ws, q1, q2, by omega, by omega, by omega⟩
theorem yields_E {t : PV} {ts : List PV} {F : Addr → Prop} {H : Hp} {a : Addr} (h1 : Rep C.K C.mg F H t (.ref a)) (e1 : items t = some ts) : Yields C (enumL 0 ts) (IteB C.K (seqB t) a) F H := fun i F' H' kp => by
  obtain ⟨vs, q1, r1⟩ := sqB_keep kp h1 e1
  refine ⟨fun x hx => ?_, fun hz => ?_⟩
  · obtain ⟨y, hy, rfl⟩ := enumL_get hx
    obtain ⟨w1, hw1, rw1⟩ := r1.get hy
    refine ⟨⟨vs, w1, q1, hw1⟩, fun v H2 ⟨T, y1, ev, hT, ⟨o, hd, eH⟩, f1⟩ => .inr ⟨T, _, hT, eH, ?_⟩⟩
    have g1 := f1 vs q1
    rw [hw1] at g1
    cases g1
    subst ev eH
    rw [Nat.zero_add]
    exact rep_newT hT hd (.cons (.int _) (.cons rw1 .nil))
  · rw [enumL_length] at hz
    exact ⟨vs, q1, by rw [← r1.length]; exact hz⟩
theorem ri_zip (rc : RC X C k) {tpos : Pos} {elts : List Expr} {kk : Nat} (hg : Gl X "zip") (hm : C.mg "zip" = none) (ha : RE X C a ma) (hb : RE X C b mb)
    (hs : starEach [a, b] X.env = (false, eval a X.env) :: starEach [b] X.env := by rfl) (hs2 : starEach [b] X.env = (false, eval b X.env) :: starEach [] X.env := by rfl) (hpl : (backTo pos (starEach [b] X.env)).any (·.1) = false := by rfl) :
    RI X C (.Tuple elts kk tpos) (.Call (.Name "zip" p) [a, b] [] pos) (zipM ma mb) :=
  (pi_zipB hg (by rw [rc.hmg]; exact hm) (pa_cons ha (pa_cons hb pa_nil hs2) hs) hs hpl).imp fun σ H R ⟨env, F, n, q⟩ => ⟨env, F, n, q.seq.imp fun t env1 F1 H1 _ _ _ ⟨env1', n1, q1⟩ v rv => ⟨env1', F1, n1, q1.seq.imp fun u env2 F2 H2 _ _ x2 ⟨env2', n2, q2⟩ w rw' => by
    obtain ⟨ts, e1, q3⟩ := q2.lift2
    obtain ⟨us, e2, q4⟩ := q3.lift2
    have rv' := rv.mono (n1.keep x2)
    obtain ⟨a1, vs, rfl, h1, r1⟩ := rv'.sq e1
    obtain ⟨b1, ws, rfl, h2, r2⟩ := rw'.sq e2
    rw [rc.hK]
    exact ⟨_, _, a1, b1, vs, ws, rfl, h1, h2, q4.ret n2 _ (yields_Z rv' e1 rw' e2)⟩⟩⟩
theorem ri_enum (rc : RC X C k) {tpos : Pos} {elts : List Expr} {kk : Nat} (hg : Gl X "enumerate") (hm : C.mg "enumerate" = none) (ha : RE X C a ma) (hs : starEach [a] X.env = [(false, eval a X.env)] := by rfl) :
    RI X C (.Tuple elts kk tpos) (.Call (.Name "enumerate" p) [a] [] pos) (enumM ma) :=
  (pi_enumB hg (by rw [rc.hmg]; exact hm) (pa_cons ha pa_nil (by rw [hs]; rfl)) hs).imp fun σ H R ⟨env, F, n, q⟩ => ⟨env, F, n, q.seq.imp fun t env1 F1 H1 _ _ _ ⟨env1', n1, q1⟩ v rv => by
    obtain ⟨ts, e1, q3⟩ := q1.lift2
    obtain ⟨a1, vs, rfl, h1, r1⟩ := rv.sq e1
    rw [rc.hK]
    exact ⟨_, a1, vs, rfl, h1, q3.ret n1 _ (yields_E rv e1)⟩⟩
end
end L2.EV

set_option Elab.async false
set_option linter.all false
set_option maxRecDepth 100000
namespace L2.EV
open PySem PySem.Spec PyProof.Rows
section
variable {X : Cx} {C : Cp} {k i : Nat} {a b c : Expr} {ma mb mc : M PV} {pos p : Pos}

/-! ### a < b < c -/
theorem chain_rd {g g' : PV → PV → Option PV} {r r' : R2} {σ : St} {H : Hp} {Q : VK} (oe : OpE C g r) (oe' : OpE C g' r') (h : rd C (chain g g' ma mb mc) σ H Q) : tChain r r' (rd C ma) (rd C mb) (rd C mc) σ H Q := by
  obtain ⟨env, F, n, q⟩ := h
  refine ⟨env, F, n, q.seq.imp fun x env1 F1 H1 _ _ _ ⟨env1', n1, q1⟩ v rv => ⟨env1', F1, n1, q1.seq.imp fun y env2 F2 H2 _ _ x2 ⟨env2', n2, q2⟩ w rw' => ?_⟩⟩
  have rv2 := rv.mono (n1.keep x2)
  have q3 := q2.seq
  have q4 := q3.seq
  obtain ⟨z, e1, q5⟩ := q4.lift n2
  refine oe σ env2' F2 H2 x y z v w _ n2 e1 (.rep rv2) (.rep rw') fun F' H' v' gr r1 => ?_
  obtain ⟨n3, x3⟩ := gr env2' n2
  obtain ⟨env3, n3', q6⟩ := q5 F' H' n3 x3
  cases z <;> try exact q6.elim
  rename_i bb
  cases r1
  obtain ⟨env4, n4, q7⟩ := q6 F' H' n3' Ext.refl
  refine ⟨bb, rfl, ?_⟩
  cases bb with
  | false =>
    rw [if_neg Bool.false_ne_true] at q7 ⊢
    exact q7 F' H' n4 Ext.refl _ (.bl false)
  | true =>
    rw [if_pos rfl] at q7 ⊢
    refine ⟨env4, F', n4, q7.seq.imp fun u env5 F5 H5 _ _ x5 ⟨env5', n5, q8⟩ t rt' => ?_⟩
    obtain ⟨z', e2, q9⟩ := q8.lift n5
    have rw5 := (rw'.mono (n2.keep x3)).mono (n4.keep x5)
    refine oe' σ env5' F5 H5 y u z' w t _ n5 e2 (.rep rw5) (.rep rt') fun F6 H6 v6 gr6 r6 => ?_
    obtain ⟨n6, x6⟩ := gr6 env5' n5
    exact q9 F6 H6 n6 x6 v6 r6
theorem re_chain {op op' : CmpOp} {g g' : PV → PV → Option PV} {r r' : R2} (ho : OpR X (compareOp op) r) (ho' : OpR X (compareOp op') r') (oe : OpE C g r) (oe' : OpE C g' r') (ha : RE X C a ma) (hb : RE X C b mb) (hc : RE X C c mc)
    (hm : lastMarks [op, op'] [b, c] = false := by with_unfolding_all rfl) : RE X C (.Compare a [op, op'] [b, c] pos) (chain g g' ma mb mc) := (pe_chain ho ho' ha hb hc hm).imp fun _ _ _ h => chain_rd oe oe' h
theorem rt_chain {op op' : CmpOp} {g g' : PV → PV → Option PV} {r r' : R2} (ho : OpR X (compareOp op) r) (ho' : OpR X (compareOp op') r') (oe : OpE C g r) (oe' : OpE C g' r') (ha : RE X C a ma) (hb : RE X C b mb) (hc : RE X C c mc)
    (hm : lastMarks [op, op'] [b, c] = false := by with_unfolding_all rfl) : RT X C (.Compare a [op, op'] [b, c] pos) (mbind (chain g g' ma mb mc) asB) := (pt_chain ho ho' ha hb hc hm).imp fun _ _ _ h => chain_rd oe oe' (rt_asB h)

/-! ### isinstance -/
def isiP (us : List String) (t : PV) : Option PV := (tyOf t).bind fun T => (isaAny T us).map .bl
theorem re_isi1 (rc : RC X C k) {U : String} (hg : Gl X "isinstance") (hm : C.mg "isinstance" = none) (ha : RW X C a ma) (hb : PE X b (tC (.ty U))) (hv : bootBuiltins "isinstance" = some (.builtin "isinstance") := by rfl)
    (he : starEach [a, b] X.env = (false, eval a X.env) :: starEach [b] X.env := by rfl) (he2 : starEach [b] X.env = (false, eval b X.env) :: starEach [] X.env := by rfl) (hpl : (backTo pos (starEach [b] X.env)).any (·.1) = false := by rfl) : RE X C (.Call (.Name "isinstance" p) [a, b] [] pos) (un (isiP [U]) ma) :=
  (pe_callB call_isi hg (by rw [rc.hmg]; exact hm) hv (pa_cons ha (pa_cons hb pa_nil he2) he) (by decide) (by decide) he hpl).imp fun σ H Q ⟨env, F, n, q⟩ => ⟨env, F, n, q.seq.imp fun t env1 F1 H1 _ _ _ ⟨env1', n1, q1⟩ v rv => by
    obtain ⟨t', e, q2⟩ := q1.lift n1
    unfold isiP at e
    rw [Option.bind_eq_some_iff] at e
    obtain ⟨T, e1, e2⟩ := e
    rw [Option.map_eq_some_iff] at e2
    obtain ⟨bb, e3, rfl⟩ := e2
    have e4 : isaT T U = some bb := by
      unfold isaAny isaAny at e3
      split at e3
      · rename_i h; rw [h]; exact e3
      · rename_i h; rw [h]; exact e3
      · cases e3
    have ty : TyX C.K H1 v (.type T) := tyOf_rep e1 rv
    exact ⟨v, .ty U, .type T, .type U, bb, rfl, .ty U, by rw [rc.hK]; exact ty, kit_ty (isaT_some (tyOf_mem e1) e4), q2 F1 H1 n1 Ext.refl _ (.bl bb)⟩⟩

/-- classes by name, in a row -/
def tTys (us : List String) : TA := fun _ H Q => Q (us.map V.ty) H
theorem tys_nil : PA X [] (tTys []) := pa_nil.imp fun _ _ _ q => q
theorem tys_cons {e : Expr} {es : List Expr} {U : String} {us : List String} (h : PE X e (tC (.ty U))) (h2 : PA X es (tTys us)) (hs : starEach (e :: es) X.env = (false, eval e X.env) :: starEach es X.env := by rfl) : PA X (e :: es) (tTys (U :: us)) := (pa_cons h h2 hs).imp fun _ _ _ q => q
theorem re_isi (rc : RC X C k) {us : List String} {es : List Expr} {p2 : Pos} {ct : Nat} (hg : Gl X "isinstance") (hm : C.mg "isinstance" = none) (ha : RW X C a ma) (hb : PA X es (tTys us)) (hz : us.length ≤ sizeLine := by decide) (hv : bootBuiltins "isinstance" = some (.builtin "isinstance") := by rfl)
    (he : starEach [a, .Tuple es ct p2] X.env = (false, eval a X.env) :: starEach [.Tuple es ct p2] X.env := by rfl) (he2 : starEach [.Tuple es ct p2] X.env = (false, eval (.Tuple es ct p2) X.env) :: starEach [] X.env := by rfl) (hpl : (backTo pos (starEach [.Tuple es ct p2] X.env)).any (·.1) = false := by rfl) :
    RE X C (.Call (.Name "isinstance" p) [a, .Tuple es ct p2] [] pos) (un (isiP us) ma) :=
  (pe_callB call_isiT hg (by rw [rc.hmg]; exact hm) hv (pa_cons ha (pa_cons (pe_tup hb) pa_nil he2) he) (by decide) (by decide) he hpl).imp fun σ H Q ⟨env, F, n, q⟩ => ⟨env, F, n, q.seq.imp fun t env1 F1 H1 _ _ _ ⟨env1', n1, q1⟩ v rv => by
    obtain ⟨t', e, q2⟩ := q1.lift n1
    unfold isiP at e
    rw [Option.bind_eq_some_iff] at e
    obtain ⟨T, e1, e2⟩ := e
    rw [Option.map_eq_some_iff] at e2
    obtain ⟨bb, e3, rfl⟩ := e2
    refine ⟨by rw [List.length_map]; exact hz, fun pt hp => ?_⟩
    obtain ⟨x', n'⟩ := n1.laid (o := .tup (us.map V.ty)) hp
    have ty : TyX C.K (upd H1 pt (.tup (us.map V.ty))) v (.type T) := tyOf_rep e1 (by
      cases rv with
      | rep r => exact .rep (r.mono (n1.keep x'))
      | own ow => exact .own (ow.mono (n1.keep x') (upd_ne fun z => ow.there (by rw [z]; exact hp))))
    have cl : ∀ us : List String, Paired ClsV (us.map V.ty) (us.map Value.type) := fun us => by
      induction us with
      | nil => exact .nil
      | cons u us ih => exact .cons (.ty u) ih
    exact ⟨v, pt, _, .type T, us.map Value.type, bb, rfl, upd_same, cl us, by rw [rc.hK]; exact ty, by rw [rc.hK]; exact isaAny_kit (tyOf_mem e1) e3, q2 _ _ n' x' _ (.bl bb)⟩⟩

end
end L2.EV

set_option Elab.async false
set_option linter.all false
set_option maxRecDepth 100000
namespace L2.EV
open PySem PySem.Spec PyProof.Rows
section
variable {P : Program} {w : World} {A : Around} {E : Value → Shared → Prop} {s : Shared}
set_option maxRecDepth 100000 in
set_option maxHeartbeats 3200000 in
theorem call_set_lstI {l : Addr} {items : Array Value} (ns : List Int) {Q : Value → Shared → Prop} (hh : A.handled = none) (hl : s.heap.IsList l items) (hit : IntsAre items.toList ns) (hb : ns.length + 1 < scanBound)
    (h : ∀ (h' : Heap) (tk c : Nat), SetR w h' s.heap.objs.size (fun j => decide (j ∈ ns)) c → c ≤ ns.length → (∀ b o, s.heap.get? b = some o → h'.get? b = some o) → Q (.ref s.heap.objs.size) { s with heap := h', toks := tk }) :
    wpAny (model P w) A (call (.type "set") [.ref l]) Q E s := by
  have hisz : items.size = ns.length := by
    have q := IntsAre.length hit
    rw [Array.length_toList] at q
    exact q
  obtain ⟨c, tl, hmro⟩ := F.called_set.mro
  have hmade := F.called_set.made
  have hsub := F.called_set.sub
  refine wpAny_call (codeAny_of_tree ?_)
  show wpAny _ _ (callAny (.type "set") _) _ _ _
  refine wpAny_pure ⟨Code.quiet_builtin _ (by decide +kernel), codeAny_builtin F.entry_type_call ?_⟩
  rw [Around.under_plain (weight_type_call_type "set" [.ref l] []) rfl]
  have h1 := F.called_set.notType
  have h2 := F.called_set.canCreate
  have hct := F.typeCall_set_1 (.ref l)
  repeat (any_goals (first | assumption | wp_step))

  refine codeAny_mono (code_set_led1 (.ref l) (E := E) (Q₁ := fun obj s₁ => obj = .ref s.heap.objs.size ∧ s₁ = { s with heap := s.heap.push { cls := .type "set", dict := none, data := .set #[] 0 (.fresh 0 0 (!w.params.followText "set-order")) } }) ⟨rfl, rfl⟩) fun r s₁ hr => ?_
  cases r with
  | error e => exact hr
  | ok fl =>
    cases fl with
    | ret obj =>
      obtain ⟨rfl, rfl⟩ := hr
      have hS : (s.heap.push { cls := .type "set", dict := none, data := .set #[] 0 (.fresh 0 0 (!w.params.followText "set-order")) }).get? s.heap.objs.size = some { cls := .type "set", dict := none, data := .set #[] 0 (.fresh 0 0 (!w.params.followText "set-order")) } := Heap.get?_push_size _ rfl
      have hT : Shared.TypeIs { s with heap := s.heap.push { cls := .type "set", dict := none, data := .set #[] 0 (.fresh 0 0 (!w.params.followText "set-order")) } } (.ref s.heap.objs.size) "set" := ⟨_, hS, rfl⟩
      have hli := F.called_set.init.lookup
      have hbi := F.called_set.init.bind (.ref s.heap.objs.size)
      repeat (any_goals (first | assumption | wp_step))

      refine codeAny_mono (codeAny_call_builtin (R := wants (fun r s₂ => r = .none ∧ ∃ h' tk c, s₂ = { s with heap := h', toks := tk } ∧ SetR w h' s.heap.objs.size (fun j => decide (j ∈ ns)) c ∧ c ≤ ns.length ∧
          (∀ b o, s.heap.get? b = some o → h'.get? b = some o)) E) F.called_set.init.plain F.entry_set_init (check_set_init_1 hT ?_)) fun r₂ s₂ hr₂ => ?_
      · obtain ⟨ol, hol, hcl, nl, hdl⟩ := hl
        obtain ⟨ocls, odict, odata, oslots⟩ := ol
        simp only at hcl hdl
        subst hcl; subst hdl
        have hol' : (s.heap.push { cls := .type "set", dict := none, data := .set #[] 0 (.fresh 0 0 (!w.params.followText "set-order")) }).get? l = some { cls := .type "list", dict := odict, data := .seq items nl, slots := oslots } := Heap.get?_push_of_some _ hol
        have hsls := F.sub_list_set
        have hslf := F.sub_list_frozenset
        have hne : (Value.type "list" == Value.type "dict") = false := by decide
        have hl1 : (s.heap.push { cls := .type "set", dict := none, data := .set #[] 0 (.fresh 0 0 (!w.params.followText "set-order")) }).IsList l items := ⟨_, hol', rfl, nl, rfl⟩
        unfold Builtin.«set.__init__» noKeywords Builtin.Frozenset.updateFrom
        generalize hPI : pyIter = PI
        wp_walk
        subst hPI

        refine wpAny_pyIter_list hl1 ?_
        refine wpAny_bind (wpAny_runValue ?_)
        have hlS : l < s.heap.objs.size := Heap.lt_size hol
        have hh3 : A.in1.in1.in1.handled = none := by simp [hh]
        have hz1 : (s.heap.push { cls := .type "set", dict := none, data := .set #[] 0 (.fresh 0 0 (!w.params.followText "set-order")) }).objs.size = s.heap.objs.size + 1 := Heap.size_push ..
        have hneI : l ≠ (s.heap.push { cls := .type "set", dict := none, data := .set #[] 0 (.fresh 0 0 (!w.params.followText "set-order")) }).objs.size := by
          rw [Heap.size_push]; exact Nat.ne_of_lt (Nat.lt_succ_of_lt hlS)
        have hSf : s.heap.objs.size ∉ [(s.heap.push { cls := .type "set", dict := none, data := .set #[] 0 (.fresh 0 0 (!w.params.followText "set-order")) }).objs.size, l] := by
          rw [Heap.size_push]; simp only [List.mem_cons, List.mem_singleton, List.not_mem_nil, or_false, not_or]
          exact ⟨Nat.ne_of_lt (Nat.lt_succ_self _), Nat.ne_of_gt hlS⟩
        have hval : ∀ (i : Nat) (v : Value), items[i]? = some v → ∃ k t, ns[i]? = some k ∧ v = .int k t := fun i v hv => by
          have hi : i < ns.length := by rw [← hisz]; exact (Array.getElem?_eq_some_iff.mp hv).1
          obtain ⟨t, e⟩ := PyProof.Rows.IntsAre.int_at hit i v (by rw [Array.getElem?_toList]; exact hv)
          refine ⟨ns[i], t, List.getElem?_eq_getElem hi, ?_⟩
          rw [e, List.getD_eq_getElem?_getD, List.getElem?_eq_getElem hi] <;> rfl
        refine set_update_ints ((Walks.list hh3 _ l hneI items).toS) s.heap.objs.size
          hSf ns hisz hb hval (items.size - 0) 0 _ (by omega) (Nat.zero_le _)
          ⟨⟨_, Heap.get?_push_size _ rfl, rfl, rfl⟩, hl1.at fun o e => Heap.get?_push_of_some _ e⟩ ?hS0 ?hR
        case hS0 =>
          have hget : ((s.heap.push { cls := .type "set", dict := none, data := .set #[] 0 (.fresh 0 0 (!w.params.followText "set-order")) }).push { cls := .type "list_iterator", data := .fields #[.ref l, .int 0 0] }).get? s.heap.objs.size
              = some { cls := .type "set", dict := none, data := .set #[] 0 (.fresh 0 0 (!w.params.followText "set-order")) } := Heap.get?_push_of_some _ hS
          exact ⟨0, Nat.le_refl 0, setR_new_at hget⟩
        case hR =>
          intro s' c' hm hc' hS'
          obtain ⟨h', g2, d', tk', os'⟩ := s'
          have eg : g2 = s.gens := hm.gens
          have ed : d' = s.drawn := hm.drawn
          have eo : os' = s.os := hm.os
          subst eg; subst ed; subst eo
          show wpAny _ _ _ _ _ _
          refine wpAny_pure ?_
          show wpAny _ _ (ret Value.none) _ _ _
          rw [hisz] at hc'
          refine wpAny_pure ⟨rfl, h', tk', c', rfl, hS', hc', fun b o e => ?_⟩
          have hb0 : b < s.heap.objs.size := Heap.lt_size e
          have hb1 : b ≠ s.heap.objs.size := Nat.ne_of_lt hb0
          have hb2 : b ≠ (s.heap.push { cls := .type "set", dict := none, data := .set #[] 0 (.fresh 0 0 (!w.params.followText "set-order")) }).objs.size := by
            rw [Heap.size_push]; exact Nat.ne_of_lt (Nat.lt_succ_of_lt hb0)
          exact hm.heap b o (by simp only [List.mem_cons, List.mem_singleton, List.not_mem_nil, or_false, not_or]; exact ⟨hb1, hb2⟩) (Heap.get?_push_of_some _ (Heap.get?_push_of_some _ e))

      · cases r₂ with
        | error e => exact hr₂
        | ok fl₂ =>
          cases fl₂ with
          | ret r =>
            obtain ⟨rfl, h', tk, c', rfl, hS', hc', hk'⟩ := hr₂
            repeat (any_goals (first | assumption | wp_step))
            exact h _ _ _ hS' hc' hk'
          | _ => exact hr₂.elim
    | _ => exact hr.elim


theorem call_set_B {l : Bool} {a : Addr} {items : Array Value} (ns : List Int) {Q : Value → Shared → Prop} (hh : A.handled = none) (hl : IsB l s.heap a items) (hit : IntsAre items.toList ns) (hb : ns.length + 1 < scanBound)
    (h : ∀ (h' : Heap) (tk c : Nat), SetR w h' s.heap.objs.size (fun j => decide (j ∈ ns)) c → c ≤ ns.length → (∀ b o, s.heap.get? b = some o → h'.get? b = some o) → Q (.ref s.heap.objs.size) { s with heap := h', toks := tk }) :
    wpAny (model P w) A (call (.type "set") [.ref a]) Q E s := by
  cases l with
  | true => exact call_set_lstI ns hh hl hit hb h
  | false => exact call_set_tupI ns hh hl hit hb h
end

end L2.EV

set_option Elab.async false
set_option linter.all false
set_option maxRecDepth 100000
namespace L2.EV
open PySem PySem.Spec PyProof.Rows
open PySem.W (copyHeap copyHeap_at copyHeap_old)
open PySem.Calls

/-! ### sorted -/
section
variable {prog : Program} {w : World} {A : Around} {E : Value → Shared → Prop} {s : Shared}
theorem collect_tup {l : Addr} {vs : List Value} {Q : List Value → Shared → Prop} (hl : s.heap.IsTuple l vs.toArray)
    (h : Q vs { s with heap := (s.heap.push (seqObj "list" #[] 0)).update s.heap.objs.size (Obj.mapSeq (· ++ vs.toArray)) }) (hsz : vs.length ≤ sizeLine := by size_fits) :
    wpAny (model prog w) A (collect (.ref l)) Q E s := by
  obtain ⟨o, ho, hc, n, hd⟩ := id hl
  unfold collect
  refine wpAny_bind (wpAny_runValue (codeAny_builtin entry_proto_collect' ?_))
  show wpAny _ _ (do again (.builtin "list.__iadd__" ⟨[← newList [], .ref l], []⟩)) _ _ s
  refine wpAny_bind (wpAny_newList (wpAny_pure ⟨Code.quiet_builtin _ (by decide +kernel), codeAny_builtin entry_list_iadd' ?_⟩))
  show wpAny _ _ (Builtin.List.listExtendWith (.ref s.heap.objs.size) (.ref l) (.ref s.heap.objs.size)) _ _ { s with heap := s.heap.push (seqObj "list" #[] 0) }
  unfold Builtin.List.listExtendWith
  have ho' : (s.heap.push (seqObj "list" #[] 0)).get? l = some o := Heap.get?_push_of_some _ ho
  refine wpAny_bind (wpAny_typeOf (T := "tuple") ⟨o, ho', hc⟩ ?_)
  have ht : (Value.type "tuple" == Value.type "tuple") = true := by rfl
  rw [if_pos (by rw [ht]; simp)]
  refine wpAny_bind (listItems_at ho' hd ?_)
  refine wpAny_bind (listItems_at (xs := #[]) (n := 0) (Heap.get?_push_size _ rfl) rfl ?_)
  rw [if_neg (by simp)]
  refine wpAny_bind (listUpdate_at (xs := #[]) (n := 0) (Heap.get?_push_size _ rfl) rfl ?_ (Nat.zero_le _) (by show (#[] ++ vs.toArray).size ≤ sizeLine + 1; simp only [Array.size_append, List.size_toArray, List.length_nil]; omega))
  refine wpAny_pure ?_
  show wpAny (model prog w) A (do
      let o ← load s.heap.objs.size
      match o.data with
      | .seq xs _ => pure xs.toList
      | _ => unsupported "internal:collect") Q E { s with heap := (s.heap.push (seqObj "list" #[] 0)).update s.heap.objs.size (Obj.mapSeq (· ++ vs.toArray)) }
  refine wpAny_bind (wpAny_load (get?_update_seq (Heap.get?_push_size _ rfl) _) ?_)
  show wpAny _ _ (pure ((#[] : Array Value) ++ vs.toArray).toList) Q E _
  rw [show ((#[] : Array Value) ++ vs.toArray).toList = vs by simp]
  exact wpAny_pure h
theorem collect_B {b : Bool} {l : Addr} {vs : List Value} {Q : List Value → Shared → Prop} (hl : IsB b s.heap l vs.toArray)
    (h : Q vs { s with heap := (s.heap.push (seqObj "list" #[] 0)).update s.heap.objs.size (Obj.mapSeq (· ++ vs.toArray)) }) (hsz : vs.length ≤ sizeLine := by size_fits) :
    wpAny (model prog w) A (collect (.ref l)) Q E s := by
  cases b with
  | true => exact collect_list hl h hsz
  | false => exact collect_tup hl h hsz
/-- sorted(x) is list.sort() on a new list of x's items -/
theorem sorted_of_B {b : Bool} {l : Addr} {vs : List Value} {Q : Value → Shared → Prop} (hl : IsB b s.heap l vs.toArray) (hL : vs.length ≤ sizeLine)
    (body : ∀ E' : Value → Shared → Prop, wpAny (model prog w) A.in1.in1 (Builtin.«list.sort» ⟨[.ref (s.heap.objs.size + 1)], []⟩) (fun f s' => f = .done (.ret .none) ∧ Q (.ref (s.heap.objs.size + 1)) s') E' { s with heap := copyHeap s.heap vs }) :
    wpAny (model prog w) A (call (.builtin "sorted") [.ref l] []) Q E s := by
  refine PyProof.Rows.call_function_entry_kw kind_sorted plain_sorted entry_sorted (args_sorted1 _) ?_
  unfold Builtin.«sorted»
  refine wpAny_bind (m := checkCount "sorted" 1 1 _) (wpAny_pure ?_)
  refine wpAny_bind (collect_B hl ?_ hL)
  refine wpAny_bind (wpAny_newList ?_ hL)
  have hsz : ((s.heap.push (seqObj "list" #[] 0)).update s.heap.objs.size (Obj.mapSeq (· ++ vs.toArray))).objs.size = s.heap.objs.size + 1 := by
    rw [Heap.size_update, size_push']
  show wpAny _ _ _ _ _ { s with heap := copyHeap s.heap vs }
  rw [hsz]
  refine wpAny_bind (wpAny_holding (PyProof.Rows.wpAny_call_entry_kw slot_list_sort ⟨_, copyHeap_at s.heap vs, rfl⟩ entry_list_sort ?body (PyProof.Rows.args_list_sort _)))
  case body =>
    show wpAny (model prog w) A.in1.in1 (Builtin.«list.sort» ⟨[.ref (s.heap.objs.size + 1)], []⟩) _ _ _
    refine wpAny_mono (body _) (fun f s' hf => ?_) fun _ _ e => e
    obtain ⟨rfl, hq⟩ := hf
    exact ⟨_, rfl, wpAny_pure ⟨_, rfl, hq⟩⟩
end

/-! ### plain lists of ints: sorted, without doublets -/
def insS (x : Int) : List Int → List Int
  | [] => [x]
  | y :: r => if x ≤ y then x :: y :: r else y :: insS x r
def sortI : List Int → List Int
  | [] => []
  | x :: r => insS x (sortI r)
theorem insS_perm (x : Int) : ∀ l, (insS x l).Perm (x :: l)
  | [] => .refl _
  | y :: r => by
    unfold insS
    split
    · exact .refl _
    · exact ((insS_perm x r).cons y).trans (.swap x y r)
theorem sortI_perm : ∀ l, (sortI l).Perm l
  | [] => .refl _
  | x :: r => (insS_perm x _).trans ((sortI_perm r).cons x)
theorem insS_sorted (x : Int) : ∀ {l : List Int}, l.Pairwise (· ≤ ·) → (insS x l).Pairwise (· ≤ ·)
  | [], _ => List.pairwise_singleton ..
  | y :: r, h => by
    obtain ⟨h1, h2⟩ := List.pairwise_cons.mp h
    unfold insS
    split
    · rename_i hx
      refine List.pairwise_cons.mpr ⟨fun z hz => ?_, h⟩
      rcases List.mem_cons.mp hz with rfl | hz
      · exact hx
      · exact Int.le_trans hx (h1 z hz)
    · rename_i hx
      refine List.pairwise_cons.mpr ⟨fun z hz => ?_, insS_sorted x h2⟩
      rcases List.mem_cons.mp ((insS_perm x r).mem_iff.mp hz) with rfl | hz
      · omega
      · exact h1 z hz
theorem sortI_sorted : ∀ l, (sortI l).Pairwise (· ≤ ·)
  | [] => .nil
  | x :: r => insS_sorted x (sortI_sorted r)
theorem sortI_eq {a b : List Int} (h : a.Perm b) (ha : a.Pairwise (· ≤ ·)) : a = sortI b := PySem.W.os_sorted_one (h.trans (sortI_perm b).symm) ha (sortI_sorted b)
theorem sortI_length (l : List Int) : (sortI l).length = l.length := (sortI_perm l).length_eq
def insD (x : Int) : List Int → List Int
  | [] => [x]
  | y :: r => if x < y then x :: y :: r else if x = y then y :: r else y :: insD x r
def setI : List Int → List Int
  | [] => []
  | x :: r => insD x (setI r)
theorem insD_mem (x k : Int) : ∀ l, k ∈ insD x l ↔ k = x ∨ k ∈ l
  | [] => by simp [insD]
  | y :: r => by
    unfold insD
    split
    · simp
    · split
      · rename_i h; subst h; simp
      · rw [List.mem_cons, insD_mem x k r, List.mem_cons]
        constructor
        · rintro (h | h | h)
          · exact .inr (.inl h)
          · exact .inl h
          · exact .inr (.inr h)
        · rintro (h | h | h)
          · exact .inr (.inl h)
          · exact .inl h
          · exact .inr (.inr h)
theorem setI_mem (k : Int) : ∀ l, k ∈ setI l ↔ k ∈ l
  | [] => Iff.rfl
  | x :: r => by
    show k ∈ insD x (setI r) ↔ _
    rw [insD_mem, setI_mem k r, List.mem_cons]
theorem insD_sorted (x : Int) : ∀ {l : List Int}, l.Pairwise (· < ·) → (insD x l).Pairwise (· < ·)
  | [], _ => List.pairwise_singleton ..
  | y :: r, h => by
    obtain ⟨h1, h2⟩ := List.pairwise_cons.mp h
    unfold insD
    split
    · rename_i hx
      refine List.pairwise_cons.mpr ⟨fun z hz => ?_, h⟩
      rcases List.mem_cons.mp hz with rfl | hz
      · exact hx
      · exact Int.lt_trans hx (h1 z hz)
    · split
      · exact h
      · rename_i hx hx2
        refine List.pairwise_cons.mpr ⟨fun z hz => ?_, insD_sorted x h2⟩
        rcases (insD_mem x z r).mp hz with rfl | hz
        · omega
        · exact h1 z hz
theorem setI_sorted : ∀ l, (setI l).Pairwise (· < ·)
  | [] => .nil
  | x :: r => insD_sorted x (setI_sorted r)
theorem setI_nodup (l : List Int) : (setI l).Nodup := (setI_sorted l).imp fun h => Int.ne_of_lt h
theorem insD_len (x : Int) : ∀ l, (insD x l).length ≤ l.length + 1
  | [] => Nat.le_refl _
  | y :: r => by
    unfold insD
    split
    · exact Nat.le_refl _
    · split
      · simp
      · have := insD_len x r
        simp only [List.length_cons]
        omega
theorem setI_len : ∀ l, (setI l).length ≤ l.length
  | [] => Nat.le_refl _
  | x :: r => Nat.le_trans (insD_len x _) (Nat.succ_le_succ (setI_len r))
theorem lt_le {l : List Int} (h : l.Pairwise (· < ·)) : l.Pairwise (· ≤ ·) := h.imp fun h => Int.le_of_lt h
theorem setI_eq {a b : List Int} (ha : a.Pairwise (· < ·)) (h : ∀ k, k ∈ a ↔ k ∈ b) : a = setI b :=
  PySem.W.os_sorted_one ((List.perm_ext_iff_of_nodup (ha.imp fun h => Int.ne_of_lt h) (setI_nodup b)).mpr fun k => (h k).trans (setI_mem k b).symm) (lt_le ha) (lt_le (setI_sorted b))

/-! ### the calls -/
section
variable {X : Cx} {C : Cp} {k i : Nat} {a b c : Expr} {ma mb mc : M PV} {pos p : Pos}
/-- where the items are ints -/
def onI (f : List Int → Option PV) (t : PV) : Option PV := (items t).bind fun ts => (intsOf ts).bind f
theorem onI_rep {F : Addr → Prop} {H : Hp} {t t' : PV} {f : List Int → Option PV} {v : V} (e : onI f t = some t') (r : RepW C.K C.mg F H t v) : ∃ l ad ns, v = .ref ad ∧ SqB C.K l H ad (ns.map V.int) ∧ f ns = some t' := by
  unfold onI at e
  rw [Option.bind_eq_some_iff] at e
  obtain ⟨ts, e1, e2⟩ := e
  rw [Option.bind_eq_some_iff] at e2
  obtain ⟨ns, e3, e4⟩ := e2
  have := intsOf_eq e3
  subst this
  obtain ⟨ad, vs, rfl, hs, rl⟩ := r.seq e1
  have := rl.ints
  subst this
  rcases hs with hs | hs
  · exact ⟨true, ad, ns, rfl, hs, e4⟩
  · exact ⟨false, ad, ns, rfl, hs.sq, e4⟩
def rSortB (K : PySem.W.Frag) : List V → Hp → VK → Prop := fun vs H Q => ∃ (l : Bool) (ad : Addr) (ns : List Int), vs = [V.ref ad] ∧ SqB K l H ad (ns.map V.int) ∧ ∀ p, H p = none → Q (.ref p) (upd H p (.lst ((sortI ns).map V.int)))
theorem isB_its {pins : List (Addr × Obj)} {σ : L2.St} {H : Hp} {s : Shared} {l : Bool} {ad : Addr} {xs : List V} (I : Inv X pins σ H s) (h : SqB X.K l H ad xs) : ∃ its : List Value, Vals xs its ∧ IsB l s.heap ad its.toArray ∧ xs.length ≤ sizeLine := by
  unfold SqB at h
  unfold IsB
  cases l with
  | true =>
    obtain ⟨its, rv, p, hz⟩ := I.list h
    exact ⟨its, rv, p.isList, hz⟩
  | false =>
    obtain ⟨its, rv, p, hz⟩ := I.tuple h
    exact ⟨its, rv, p, hz⟩
theorem cr_sortB : CallR X (.builtin "sorted") (rSortB X.K) := by
  intro pins s σ H vs us Q I r h
  obtain ⟨l, ad, ns, rfl, hs, q⟩ := h
  obtain ⟨its, rv, hl, hz⟩ := isB_its I hs
  rw [Vals.ref1 r]
  have hi := rv.ints
  have hlen : its.length ≤ sizeLine := by rw [← rv.length]; exact hz
  refine sorted_of_B hl hlen fun E' => ?_
  refine SrtO.list_sort_ord (s := { s with heap := copyHeap s.heap its }) SrtO.swo_int (copyHeap_at s.heap its) hlen (fun h2 => SrtO.ints_sortable hi h2) fun out h1 h2 => ⟨rfl, ?_⟩
  obtain ⟨k1, k2, k3⟩ := SrtO.ints_out hi h1 h2
  have hk := sortI_eq k2 k3
  obtain ⟨ep, he'⟩ := PyProof.Rows.sortedAll_at s.heap its out.toArray
  have hz' : ((sortI ns).map V.int).length ≤ sizeLine := by
    rw [List.length_map, sortI_length]
    rw [List.length_map] at hz
    exact hz
  exact ⟨.ref _, upd H (s.heap.objs.size + 1) (.lst ((sortI ns).map V.int)), I.laid (t' := s.toks) (fun _ _ => PyProof.Rows.sortedAll_old) (Nat.le_succ _) ⟨hz', out, ep, by rw [← hk]; exact vals_of_ints k1, he'⟩, rfl, q _ (I.hok.fresh (Nat.le_succ _))⟩
def pySortI : PV → Option PV := onI fun ns => some (.lst ((sortI ns).map .int))
theorem unn_sortI : UnN C pySortI fun v H Q => rSortB C.K [v] H Q := by
  intro σ env F H t t' v Q n e r q
  obtain ⟨l, ad, ns, rfl, hs, e1⟩ := onI_rep e r
  cases e1
  exact ⟨l, ad, ns, rfl, hs, fun p hp => q _ _ p (Grow.new hp) (own_newL hp (RepL.of_ints _)) (fun f => n.bok.fd p f hp) hp⟩

/-! #### sum -/
theorem preSum_take (ns : List Int) : ∀ m, PySem.preSum (fun i => ns.getD i 0) m = (ns.take m).sum
  | 0 => by simp [PySem.preSum]
  | m + 1 => by
    show PySem.preSum (fun i => ns.getD i 0) m + ns.getD m 0 = _
    rw [preSum_take ns m, List.take_add_one, List.sum_append, List.getD_eq_getElem?_getD]
    cases ns[m]? <;> simp
def rSumB (K : PySem.W.Frag) : List V → Hp → VK → Prop := fun vs H Q => ∃ (l : Bool) (ad : Addr) (ns : List Int), vs = [V.ref ad] ∧ SqB K l H ad (ns.map V.int) ∧ Q (.int ns.sum) H
theorem cr_sumB (hc : X.calm = true) : CallR X (.builtin "sum") (rSumB X.K) := by
  intro pins s σ H vs us Q I r h
  obtain ⟨l, ad, ns, rfl, hs, q⟩ := h
  cases l with
  | true => exact cr_sum hc pins s σ H _ us Q I r ⟨ad, ns, rfl, hs, q⟩
  | false =>
    obtain ⟨its, rv, hl, hz⟩ := I.tuple hs
    rw [Vals.ref1 r]
    have hi := rv.ints
    have hl' : s.heap.IsTuple ad its.toArray := hl
    have hlt : ad < s.heap.objs.size := by obtain ⟨o, e, _⟩ := hl'; exact Heap.lt_size e
    have hsz : its.toArray.size = ns.length := by
      have := hi.length
      rw [List.size_toArray]
      exact this
    refine call_sum_walkG (wpAny_pyIter_tuple hl' ?_)
    refine ⟨_, _, _, _, _, _, fun i => ns.getD i 0, rfl, Walks.tuple (A := X.A.in1) (I.ok.hd hc) s.heap.objs.size ad (Nat.ne_of_lt hlt) its.toArray, ⟨⟨_, Heap.get?_push_size _ rfl, rfl, rfl⟩, hl'.at fun o e => Heap.get?_push_of_some _ e⟩, fun b hb => ?_, fun i v hv => ?_, fun h' tk t' hk => ?_⟩
    · have e : b = s.heap.objs.size ∨ b = ad := by simpa using hb
      show b < (s.heap.push _).objs.size
      rw [Heap.size_push]
      rcases e with e | e
      · rw [e]; exact Nat.lt_succ_self _
      · rw [e]; exact Nat.lt_succ_of_lt hlt
    · exact PyProof.Rows.IntsAre.int_at hi i v (by simpa using hv)
    · have e : PySem.preSum (fun i => ns.getD i 0) its.toArray.size = ns.sum := by
        rw [preSum_take, hsz, List.take_length]
      rw [e]
      refine ⟨.int _, H, I.kept fun b o eb => hk b o (fun hb => ?_) (Heap.get?_push_of_some _ eb), ⟨_, rfl⟩, q⟩
      have : b = s.heap.objs.size := by simpa using hb
      exact absurd (Heap.lt_size eb) (by rw [this]; exact Nat.lt_irrefl _)
def pySum : PV → Option PV := onI fun ns => some (.int ns.sum)
theorem une_sum : UnE C pySum fun v H Q => rSumB C.K [v] H Q := by
  intro σ env F H t t' v Q n e r q
  obtain ⟨l, ad, ns, rfl, hs, e1⟩ := onI_rep e r
  cases e1
  exact ⟨l, ad, ns, rfl, hs, q F H _ Grow.refl (.int _)⟩

/-! #### min, max -/
def rMinB (K : PySem.W.Frag) (mx : Bool) : List V → Hp → VK → Prop := fun vs H Q => ∃ (l : Bool) (ad : Addr) (n : Int) (ns : List Int), vs = [V.ref ad] ∧ SqB K l H ad ((n :: ns).map V.int) ∧ Q (.int (if mx = true then ns.foldl max n else ns.foldl min n)) H
theorem holdAll_ints {h : Heap} : ∀ {vs : List Value} {ns : List Int}, IntsAre vs ns → PySem.W.HoldAll h vs ns
  | _, _, .nil => PySem.W.HoldAll.nil
  | _, _, .cons n t r => PySem.W.HoldAll.cons (PySem.W.holds_int n t) (holdAll_ints r)
theorem reads_ints {h : Heap} : ∀ {vs : List Value} {ns : List Int}, IntsAre vs ns → ∃ as, ReadsAll h vs (ns.map PyData.int) as
  | _, _, .nil => ⟨_, .nil⟩
  | _, _, .cons n t r => by
    obtain ⟨as, ra⟩ := reads_ints (h := h) r
    exact ⟨_, .cons (.int n t) ra⟩
theorem alike_ints (ns : List Int) : PySem.W.AlikeAll (ns.map PyData.int) := by
  refine ⟨fun x hx y hy => ?_, fun x hx => ?_⟩
  · obtain ⟨i, _, rfl⟩ := List.mem_map.mp hx
    obtain ⟨j, _, rfl⟩ := List.mem_map.mp hy
    rfl
  · obtain ⟨i, _, rfl⟩ := List.mem_map.mp hx
    intro z
    cases z
theorem depth_ints : ∀ ns : List Int, PyData.depthAll (ns.map PyData.int) = 0
  | [] => rfl
  | n :: r => by
    show Nat.max (PyData.depth (.int n)) (PyData.depthAll (r.map PyData.int)) = 0
    rw [depth_ints r]
    rfl
theorem cr_minB (hc : X.calm = true) (hu : X.A.units + 1 < cLine) : CallR X (.builtin "min") (rMinB X.K false) := by
  intro pins s σ H vs us Q I r h
  obtain ⟨l, ad, m, ns, rfl, hs, q⟩ := h
  obtain ⟨its, rv, hl, hz⟩ := isB_its I hs
  rw [Vals.ref1 r]
  have hi := rv.ints
  obtain ⟨as, hr⟩ := reads_ints (h := s.heap) hi
  have hd : X.A.units + 1 + PyData.depthAll ((m :: ns).map PyData.int) < cLine := by rw [depth_ints]; exact hu
  have fin : ∀ (v : Value) (h' : Heap) (tk : Nat) (bs : List Addr), Reads h' v (PySem.W.minD (.int m) (ns.map .int)) bs → (∀ b o, s.heap.get? b = some o → h'.get? b = some o) → EP X pins σ Q v { s with heap := h', toks := tk } := fun v h' tk bs rd hk => by
    rw [PySem.W.minD_ints] at rd
    cases rd
    rw [if_neg Bool.false_ne_true] at q
    exact ⟨.int _, H, I.kept hk, ⟨_, rfl⟩, q⟩
  cases l with
  | true => exact PySem.W.min_list_data (vs := its.toArray) (I.ok.hd hc) hl hr (alike_ints (m :: ns)) hd fun i v h' tk bs _ rd hk => fin v h' tk bs rd hk
  | false => exact PySem.W.min_tuple_data (vs := its.toArray) (I.ok.hd hc) hl hr (alike_ints (m :: ns)) hd fun i v h' tk bs _ rd hk => fin v h' tk bs rd hk
theorem cr_maxB (hc : X.calm = true) (hu : X.A.units + 1 < cLine) : CallR X (.builtin "max") (rMinB X.K true) := by
  intro pins s σ H vs us Q I r h
  obtain ⟨l, ad, m, ns, rfl, hs, q⟩ := h
  obtain ⟨its, rv, hl, hz⟩ := isB_its I hs
  rw [Vals.ref1 r]
  have hi := rv.ints
  obtain ⟨as, hr⟩ := reads_ints (h := s.heap) hi
  have hd : X.A.units + 1 + PyData.depthAll ((m :: ns).map PyData.int) < cLine := by rw [depth_ints]; exact hu
  have fin : ∀ (v : Value) (h' : Heap) (tk : Nat) (bs : List Addr), Reads h' v (PySem.W.maxD (.int m) (ns.map .int)) bs → (∀ b o, s.heap.get? b = some o → h'.get? b = some o) → EP X pins σ Q v { s with heap := h', toks := tk } := fun v h' tk bs rd hk => by
    rw [PySem.W.maxD_ints] at rd
    cases rd
    rw [if_pos rfl] at q
    exact ⟨.int _, H, I.kept hk, ⟨_, rfl⟩, q⟩
  cases l with
  | true => exact PySem.W.max_list_data (vs := its.toArray) (I.ok.hd hc) hl hr (alike_ints (m :: ns)) hd fun i v h' tk bs _ rd hk => fin v h' tk bs rd hk
  | false => exact PySem.W.max_tuple_data (vs := its.toArray) (I.ok.hd hc) hl hr (alike_ints (m :: ns)) hd fun i v h' tk bs _ rd hk => fin v h' tk bs rd hk
def minL : List Int → Option PV
  | [] => none
  | n :: ns => some (.int (ns.foldl min n))
def maxL : List Int → Option PV
  | [] => none
  | n :: ns => some (.int (ns.foldl max n))
def pyMin : PV → Option PV := onI minL
def pyMax : PV → Option PV := onI maxL
theorem une_min : UnE C pyMin fun v H Q => rMinB C.K false [v] H Q := by
  intro σ env F H t t' v Q n e r q
  obtain ⟨l, ad, ns, rfl, hs, e1⟩ := onI_rep e r
  cases ns with
  | nil => cases e1
  | cons m ns =>
    cases e1
    exact ⟨l, ad, m, ns, rfl, hs, by rw [if_neg Bool.false_ne_true]; exact q F H _ Grow.refl (.int _)⟩
theorem une_max : UnE C pyMax fun v H Q => rMinB C.K true [v] H Q := by
  intro σ env F H t t' v Q n e r q
  obtain ⟨l, ad, ns, rfl, hs, e1⟩ := onI_rep e r
  cases ns with
  | nil => cases e1
  | cons m ns =>
    cases e1
    exact ⟨l, ad, m, ns, rfl, hs, by rw [if_pos rfl]; exact q F H _ Grow.refl (.int _)⟩
def pyMin2 : PV → PV → Option PV
  | .int i, .int j => some (.int (if j < i then j else i))
  | _, _ => none
def pyMax2 : PV → PV → Option PV
  | .int i, .int j => some (.int (if j > i then j else i))
  | _, _ => none
theorem ope_min2 : OpE C pyMin2 fun v w H Q => ∃ i j, [v, w] = [V.int i, V.int j] ∧ Q (.int (if j < i then j else i)) H := by
  intro σ env F H t u t' v w Q n e r1 r2 q
  unfold pyMin2 at e
  split at e
  · cases e
    rw [r1.int, r2.int]
    exact ⟨_, _, rfl, q F H _ Grow.refl (.int _)⟩
  · cases e
theorem ope_max2 : OpE C pyMax2 fun v w H Q => ∃ i j, [v, w] = [V.int i, V.int j] ∧ Q (.int (if j > i then j else i)) H := by
  intro σ env F H t u t' v w Q n e r1 r2 q
  unfold pyMax2 at e
  split at e
  · cases e
    rw [r1.int, r2.int]
    exact ⟨_, _, rfl, q F H _ Grow.refl (.int _)⟩
  · cases e

/-! #### sorted(set(x)), len(set(x)) -/
def rSetB (K : PySem.W.Frag) (w : World) : List V → Hp → VK → Prop := fun vs H Q => ∃ (l : Bool) (ad : Addr) (ns : List Int), vs = [V.ref ad] ∧ SqB K l H ad (ns.map V.int) ∧ ns.length ≤ 4000 ∧ ∀ p, H p = none → Q (.ref p) (upd H p (SetO w p (fun j => decide (j ∈ ns)) (setI ns).length))
theorem SetR.size {w : World} {h : Heap} {a : Addr} {ns : List Int} {c : Nat} (R : SetR w h a (fun j => decide (j ∈ ns)) c) : c = (setI ns).length := by
  obtain ⟨o, es, ep, t, _, _, _, _, nd, hm, _, _, hn, _, _⟩ := R
  have hp : (es.toList.map keyOf).Perm (setI ns) := (List.perm_ext_iff_of_nodup nd (setI_nodup ns)).mpr fun k => by
    rw [← hm k, setI_mem]
    exact decide_eq_true_iff
  rw [← hp.length_eq, List.length_map, Array.length_toList]
  exact hn.symm
theorem cr_setB (hc : X.calm = true) : CallR X (.type "set") (rSetB X.K X.w) := by
  intro pins s σ H vs us Q I r h
  obtain ⟨l, ad, ns, rfl, hs, hz, q⟩ := h
  obtain ⟨its, rv, hl, _⟩ := isB_its I hs
  rw [Vals.ref1 r]
  have hi := rv.ints
  refine call_set_B ns (I.ok.hd hc) hl (by simpa using hi) (by unfold scanBound; omega) fun h' tk c R hcn k => ?_
  have e := SetR.size R
  subst e
  exact ⟨.ref _, upd H s.heap.objs.size (SetO X.w s.heap.objs.size (fun j => decide (j ∈ ns)) (setI ns).length), I.laid (t' := tk) k (Nat.le_refl _) (setO_new R), rfl, q _ (I.hok.fresh (Nat.le_refl _))⟩
def setM (t : PV) : Option (List Int) := (items t).bind fun ts => (intsOf ts).bind fun ns => if ns.length ≤ 4000 then some (setI ns) else none
theorem setM_rep {F : Addr → Prop} {H : Hp} {t : PV} {ms : List Int} {v : V} (e : setM t = some ms) (r : RepW C.K C.mg F H t v) : ∃ l ad ns, v = .ref ad ∧ SqB C.K l H ad (ns.map V.int) ∧ ns.length ≤ 4000 ∧ ms = setI ns := by
  have e' : onI (fun ns => if ns.length ≤ 4000 then some (.lst ((setI ns).map .int)) else none) t = some (.lst (ms.map .int)) := by
    unfold setM at e
    unfold onI
    rw [Option.bind_eq_some_iff] at e
    obtain ⟨ts, e1, e2⟩ := e
    rw [e1, Option.bind_some]
    rw [Option.bind_eq_some_iff] at e2
    obtain ⟨ns, e3, e4⟩ := e2
    rw [e3, Option.bind_some]
    split at e4
    · rename_i hz
      cases e4
      rw [if_pos hz]
    · cases e4
  obtain ⟨l, ad, ns, e1, hs, e2⟩ := onI_rep e' r
  split at e2
  · rename_i hz
    have e3 : (setI ns).map PV.int = ms.map PV.int := by
      have := Option.some.inj e2
      simpa using this
    refine ⟨l, ad, ns, e1, hs, hz, ?_⟩
    have : ∀ {a b : List Int}, a.map PV.int = b.map PV.int → a = b := fun {a} => by
      induction a with
      | nil => intro b h; cases b with | nil => rfl | cons _ _ => cases h
      | cons x a ih => intro b h; cases b with | nil => cases h | cons y b => injection h with h1 h2; injection h1 with h3; rw [h3, ih h2]
    exact (this e3).symm
  · cases e2
/-- a set's reading: only what is taken from it at once -/
def tSet (C : Cp) (w : World) (m : M PV) : TE := fun σ H Q => ∃ env F, Now C env σ F H ∧ End C σ F H (mbind m (fun t => mlift (setM t)) env) fun ms F' H' => ∀ p F2 H2 ns, Grow C σ F' H' F2 H2 → ms = setI ns → H2 p = some (SetO w p (fun j => decide (j ∈ ns)) ms.length) → Q (.ref p) H2
theorem pe_set (rc : RC X C k) (hg : Gl X "set") (hm : C.mg "set" = none) (ha : RW X C a ma) (he : starEach [a] X.env = [(false, eval a X.env)] := by rfl) (hv : bootBuiltins "set" = some (.type "set") := by rfl) : PE X (.Call (.Name "set" p) [a] [] pos) (tSet C X.w ma) :=
  (pe_callTy (cr_setB rc.calm) hg (by rw [rc.hmg]; exact hm) hv (pa_cons ha pa_nil (by rw [he]; rfl)) (by decide) (by decide) (by rw [he]; rfl) rfl).imp fun σ H Q ⟨env, F, n, q⟩ => ⟨env, F, n, q.seq.imp fun t env1 F1 H1 _ _ _ ⟨env1', n1, q1⟩ v rv => by
    obtain ⟨ms, e1, q2⟩ := q1.lift n1
    obtain ⟨l, ad, ns, rfl, hs, hz, rfl⟩ := setM_rep e1 rv
    refine ⟨l, ad, ns, rfl, by rw [rc.hK]; exact hs, hz, fun pp hp => ?_⟩
    exact q2 F1 H1 n1 Ext.refl pp F1 _ ns (Grow.new hp) rfl upd_same⟩
def sortSet (m : M PV) : M PV := mbind (mbind m fun t => mlift (setM t)) fun ms => if ms.length < 64 then mret (.lst (ms.map .int)) else mstuck
def lenSet (m : M PV) : M PV := mbind (mbind m fun t => mlift (setM t)) fun ms => mret (.int ms.length)
theorem rf_sortSet (rc : RC X C k) {p2 pos2 : Pos} (hg : Gl X "set") (hm : C.mg "set" = none) (hg2 : Gl X "sorted") (hm2 : C.mg "sorted" = none) (ha : RW X C a ma) (he : starEach [a] X.env = [(false, eval a X.env)] := by rfl)
    (he2 : starEach [.Call (.Name "set" p) [a] [] pos] X.env = [(false, eval (.Call (.Name "set" p) [a] [] pos) X.env)] := by rfl) (hv : bootBuiltins "set" = some (.type "set") := by rfl) (hv2 : bootBuiltins "sorted" = some (.builtin "sorted") := by rfl) :
    RF X C (.Call (.Name "sorted" p2) [.Call (.Name "set" p) [a] [] pos] [] pos2) (sortSet ma) :=
  (pe_callB (cr_sortedSet rc.calm) hg2 (by rw [rc.hmg]; exact hm2) hv2 (pa_cons (pe_set rc hg hm ha he hv) pa_nil (by rw [he2]; rfl)) (by decide) (by decide) (by rw [he2]; rfl) rfl).imp fun σ H Q ⟨env, F, n, q⟩ => ⟨env, F, n, q.seq.imp fun ms env1 F1 H1 _ _ x1 ⟨env1', n1, q1⟩ pp F2 H2 ns gr e1 hp => by
    obtain ⟨n2, x2⟩ := gr env1' n1
    split at q1
    · rename_i hz
      refine ⟨pp, _, _, rfl, hp, hz, fun ns2 p3 h1 h2 _ h4 => ?_⟩
      have e2 : ns2 = ms := by
        rw [e1]
        exact setI_eq h1 fun k => (h2 k).trans decide_eq_true_iff
      subst e2
      have g3 : Grow C σ F2 H2 F2 (upd H2 p3 (.lst (ns2.map V.int))) := Grow.new h4
      obtain ⟨n3, x3⟩ := g3 env1' n2
      refine q1 F2 _ n3 (x2.trans x3) p3 (own_newL h4 (RepL.of_ints _)) (fun f => n2.bok.fd p3 f h4) ?_
      cases z : H p3 with
      | none => rfl
      | some o => exact absurd h4 (x2.dom p3 (x1.dom p3 (by rw [z]; simp)))
    · exact q1.elim⟩
theorem cr_lenSet : CallR X (.builtin "len") (fun vs H Q => ∃ (ad : Addr) (S : Int → Bool) (n : Nat), vs = [V.ref ad] ∧ H ad = some (SetO X.w ad S n) ∧ Q (.int n) H) := by
  intro pins s σ H vs us Q I r h
  obtain ⟨ad, S, n, rfl, hs, q⟩ := h
  rw [Vals.ref1 r]
  obtain ⟨o, es, ep, t, ho, hex, hd, _, _, _, hb, hf, hn, _, _⟩ := setO_get I hs
  refine call_len_set ho hex hd hf (by unfold scanBound at hb; omega) ⟨.int n, H, I.tok _, ⟨_, by rw [hn]⟩, q⟩
theorem re_lenSet (rc : RC X C k) {p2 pos2 : Pos} (hg : Gl X "set") (hm : C.mg "set" = none) (hg2 : Gl X "len") (hm2 : C.mg "len" = none) (ha : RW X C a ma) (he : starEach [a] X.env = [(false, eval a X.env)] := by rfl)
    (he2 : starEach [.Call (.Name "set" p) [a] [] pos] X.env = [(false, eval (.Call (.Name "set" p) [a] [] pos) X.env)] := by rfl) (hv : bootBuiltins "set" = some (.type "set") := by rfl) (hv2 : bootBuiltins "len" = some (.builtin "len") := by rfl) :
    RE X C (.Call (.Name "len" p2) [.Call (.Name "set" p) [a] [] pos] [] pos2) (lenSet ma) :=
  (pe_callB cr_lenSet hg2 (by rw [rc.hmg]; exact hm2) hv2 (pa_cons (pe_set rc hg hm ha he hv) pa_nil (by rw [he2]; rfl)) (by decide) (by decide) (by rw [he2]; rfl) rfl).imp fun σ H Q ⟨env, F, n, q⟩ => ⟨env, F, n, q.seq.imp fun ms env1 F1 H1 _ _ x1 ⟨env1', n1, q1⟩ pp F2 H2 ns gr e1 hp => by
    obtain ⟨n2, x2⟩ := gr env1' n1
    exact ⟨pp, _, _, rfl, hp, q1 F2 H2 n2 x2 _ (.int _)⟩⟩
end
end L2.EV

set_option Elab.async false
set_option linter.all false
set_option maxRecDepth 100000
namespace L2.EV
open PySem PySem.Spec PyProof.Rows
section
variable {X : Cx} {C : Cp} {k i : Nat} {a b c e : Expr} {ma mb mc m mv : M PV} {pos p apos : Pos}

/-! ### count, index: of a list or a tuple -/
theorem TuL.raw {pins : List (Addr × Obj)} {σ : L2.St} {H : Hp} {s : Shared} {ad : Addr} {vs : List V} (I : Inv X pins σ H s) (h : TuL X.K H ad vs) : ∃ o, s.heap.get? ad = some o ∧ o.cls = .type "tuple" ∧ o.dict = none := by
  rcases h with ⟨o, h, hd⟩ | ⟨o, its, n, h1, h2, h3, _⟩
  · obtain ⟨e, _, its, _, o', e', hc, _⟩ := I.hok ad _ h
    rw [e] at e'
    cases e'
    exact ⟨o, e, hc, hd⟩
  · exact ⟨o, I.kIn ad o h1, h2, h3⟩
/-- a list, or a tuple that bears no dict -/
def SqM (K : PySem.W.Frag) (l : Bool) (H : Hp) (ad : Addr) (xs : List V) : Prop := if l = true then SqL K H ad xs else TuL K H ad xs
theorem sqM_b {K : PySem.W.Frag} {l : Bool} {H : Hp} {ad : Addr} {xs : List V} (h : SqM K l H ad xs) : SqB K l H ad xs := by
  unfold SqM at h
  unfold SqB
  split at h
  · rename_i z; rw [if_pos z]; exact h
  · rename_i z; rw [if_neg z]; exact h.sq
def tySeq (l : Bool) : String := if l = true then "list" else "tuple"
/-- o.name(e) where o is a list or a tuple; both methods act alike -/
def tSeqM (K : PySem.W.Frag) (r : Bool → Addr → List V → Hp → VK → Prop) (to : TE) (t : TA) : TE := fun σ H Q => to σ H fun x H1 => (∃ l ad xs, x = .ref ad ∧ SqM K l H1 ad xs) ∧ t σ H1 fun xs H2 => ∃ l ad, x = .ref ad ∧ (∃ ys, SqM K l H1 ad ys) ∧ r l ad xs H2 Q
theorem pe_seqM {name : Str} {id : Bool → String} {r : Bool → Addr → List V → Hp → VK → Prop} {o : Expr} {to : TE} {t : TA} {es : List Expr} (slot : ∀ l, Slot (tySeq l) name (id l)) (hty : ∀ l, typeOf (.builtin (id l)) = pure (.type "method_descriptor"))
    (hm : ∀ (l : Bool) (pins : List (Addr × Obj)) (s : Shared) (σ : L2.St) (H : Hp) (ad : Addr) (xs : List V) (us : List Value) (Q : VK), Inv X pins σ H s → Vals xs us → r l ad xs H Q → wpAny (model X.prog X.w) X.A (call (.builtin (id l)) (.ref ad :: us)) (EP X pins σ Q) X.xe s)
    (ho : PE X o to) (ha : PA X (e :: es) t)
    (hbase : attributeBase o name X.env (eval o X.env) = eval o X.env := by rfl)
    (hfew : ((backTo pos (starEach (e :: es) X.env)).all (fun x => !x.1) && (backToKw pos (keywordEach [] X.env)).all (fun x => x.1.isSome)
      && decide ((e :: es).length + ([] : List Keyword).length + (if ([] : List Keyword).isEmpty then 0 else 1) < 30)) = true := by rfl)
    (hline : (apos.endLine == pos.line) = true := by rfl) (hs : starEach (e :: es) X.env = (false, eval e X.env) :: starEach es X.env := by rfl) (hplain : (backTo pos (starEach es X.env)).any (·.1) = false := by rfl) :
    PE X (.Call (.Attribute o name apos) (e :: es) [] pos) (tSeqM X.K r to t) := by
  refine ⟨fun pins s σ H Q I h => ?_⟩
  refine wpAny_Call_method_late hbase hfew hline rfl (thn (ho.run pins s σ H _ I h) fun v s1 ⟨x, H1, I1, r1, ty, q1⟩ => ?_)
  obtain ⟨l, ad, ys, rfl, hq⟩ := ty
  cases r1
  have key : PlainAttrs (tySeq l) ∧ s1.TypeIs (.ref ad) (tySeq l) ∧ ∃ ob, s1.heap.get? ad = some ob ∧ ob.dict = none := by
    cases l with
    | true =>
      have hq' : SqL X.K H1 ad ys := hq
      obtain ⟨its, rv, ⟨o, n, ho, hc, hd, hdat⟩, _⟩ := I1.list hq'
      exact ⟨PySem.F.plainAttrs_list, ⟨o, ho, hc⟩, o, ho, hd⟩
    | false =>
      have hq' : TuL X.K H1 ad ys := hq
      obtain ⟨o, ho, hc, hd⟩ := hq'.raw I1
      exact ⟨PySem.F.plainAttrs_tuple, ⟨o, ho, hc⟩, o, ho, hd⟩
  refine ⟨tySeq l, id l, key.1, slot l, hty l, key.2.1, fun a' ea => by cases ea; exact key.2.2, ?_⟩
  have hA := ha.run pos pins s1 σ H1 _ I1 q1
  rw [hs] at hA ⊢
  refine Calls.callWith_builtin (by show (false || (backTo pos (starEach es X.env)).any (·.1)) = false; rw [hplain] <;> rfl) (Calls.evalArgs_plain ?_)
  refine thn hA fun us s2 ⟨vs, H2, I2, r2, q2⟩ => ?_
  obtain ⟨l', ad', ea, ⟨ys', hq'⟩, q3⟩ := q2
  cases ea
  have hl : l' = l := by
    have t1 : s1.TypeIs (.ref ad) (tySeq l) := key.2.1
    have t2 : s1.TypeIs (.ref ad) (tySeq l') := by
      cases l' with
      | true =>
        have hq2 : SqL X.K H1 ad ys' := hq'
        obtain ⟨its, rv, ⟨o, n, ho, hc, hd, hdat⟩, _⟩ := I1.list hq2
        exact ⟨o, ho, hc⟩
      | false =>
        have hq2 : TuL X.K H1 ad ys' := hq'
        obtain ⟨o, ho, hc, hd⟩ := hq2.raw I1
        exact ⟨o, ho, hc⟩
    obtain ⟨o, ho, hc⟩ := t1
    obtain ⟨o', ho', hc'⟩ := t2
    rw [ho] at ho'
    cases ho'
    rw [hc] at hc'
    have hc2 : tySeq l = tySeq l' := by injection hc'
    cases l <;> cases l' <;> first | rfl | exact absurd hc2 (by decide)
  subst hl
  exact hm l' pins s2 σ H2 ad vs us Q I2 r2 q3
/-- an int among ints -/
def rFind (K : PySem.W.Frag) (f : List Int → Int → Option Int) (l : Bool) (ad : Addr) (xs : List V) (H : Hp) (Q : VK) : Prop := ∃ ns k j, xs = [V.int k] ∧ SqB K l H ad (ns.map V.int) ∧ f ns k = some j ∧ Q (.int j) H
def cntI (ns : List Int) (k : Int) : Option Int := some (ns.count k : Nat)
def idxI (ns : List Int) (k : Int) : Option Int := if k ∈ ns then some (ns.idxOf k : Nat) else none
theorem find_cnt (hu : X.A.units + 1 < cLine) (l : Bool) (pins : List (Addr × Obj)) (s : Shared) (σ : L2.St) (H : Hp) (ad : Addr) (xs : List V) (us : List Value) (Q : VK) (I : Inv X pins σ H s) (rv : Vals xs us) (h : rFind X.K cntI l ad xs H Q) :
    wpAny (model X.prog X.w) X.A (call (.builtin (tySeq l ++ ".count")) (.ref ad :: us)) (EP X pins σ Q) X.xe s := by
  obtain ⟨ns, kk, j, rfl, hs, e, q⟩ := h
  cases e
  obtain ⟨u, rfl, t, rfl⟩ := vals1 rv
  obtain ⟨its, r, hl, hz⟩ := isB_its I hs
  obtain ⟨as, hr⟩ := reads_ints (h := s.heap) r.ints
  have hd : X.A.units + 1 + min (PyData.depthAll (ns.map PyData.int)) (PyData.depth (.int kk)) < cLine := by rw [depth_ints]; simpa using hu
  have hpl : PyData.plainAll (ns.map PyData.int) = true := by
    clear q hs r hr hd hz
    induction ns with
    | nil => rfl
    | cons n ns ih => exact ih
  have hc : ((ns.map PyData.int).countP fun y => PyData.eqv y (.int kk)) = ns.count kk := by
    rw [List.countP_map, List.count]
    congr 1

  have fin : EP X pins σ Q (.int (((ns.map PyData.int).countP fun y => PyData.eqv y (.int kk) : Nat) : Int) s.toks) { s with toks := s.toks + 1 } := by
    rw [hc]
    exact ⟨.int _, H, I.tok _, ⟨_, rfl⟩, q⟩
  cases l with
  | true => exact PySem.SeqAt.count_list_data hl hr (.int kk t) hpl rfl hd fin
  | false => exact PySem.SeqAt.count_tuple_data hl hr (.int kk t) hpl rfl hd fin
theorem find_idx (hu : X.A.units + 1 < cLine) (l : Bool) (pins : List (Addr × Obj)) (s : Shared) (σ : L2.St) (H : Hp) (ad : Addr) (xs : List V) (us : List Value) (Q : VK) (I : Inv X pins σ H s) (rv : Vals xs us) (h : rFind X.K idxI l ad xs H Q) :
    wpAny (model X.prog X.w) X.A (call (.builtin (tySeq l ++ ".index")) (.ref ad :: us)) (EP X pins σ Q) X.xe s := by
  obtain ⟨ns, kk, j, rfl, hs, e, q⟩ := h
  unfold idxI at e
  split at e
  · rename_i hin
    cases e
    obtain ⟨u, rfl, t, rfl⟩ := vals1 rv
    obtain ⟨its, r, hl, hz⟩ := isB_its I hs
    have H1 := holdAll_ints (h := s.heap) r.ints
    have H2 := PySem.W.holds_int (h := s.heap) kk t
    rw [List.length_map] at hz
    cases l with
    | true => exact PySem.W.index_list_datum hl H1 H2 (by simpa [PySem.W.Datum.depth] using hu) hz hin ⟨.int _, H, I.tok _, ⟨_, rfl⟩, q⟩
    | false => exact PySem.W.index_tuple_datum hl H1 H2 (by simpa [PySem.W.Datum.depth] using hu) hin ⟨.int _, H, I.tok _, ⟨_, rfl⟩, q⟩
  · cases e
def findM (f : List Int → Int → Option Int) (mo mx : M PV) : M PV := mbind mo fun t => mbind (mlift (items t)) fun _ => mbind mx fun u => mlift (match u with
  | .int k => onI (fun ns => (f ns k).map .int) t
  | _ => none)
theorem Rep.sqM {F : Addr → Prop} {H : Hp} {t : PV} {ts : List PV} {v : V} (h : Rep C.K C.mg F H t v) (e : items t = some ts) : ∃ ad vs, v = .ref ad ∧ SqM C.K (seqB t) H ad vs ∧ RepL C.K C.mg F H ts vs := by
  cases t <;> simp only [items, Option.some.injEq, reduceCtorEq] at e
  · subst e
    obtain ⟨a, vs, e1, h1, r⟩ := (RepW.rep h).tup
    exact ⟨a, vs, e1, h1, r⟩
  · subst e
    obtain ⟨a, vs, e1, h1, r⟩ := (RepW.rep h).lst
    exact ⟨a, vs, e1, SqL.of h1, r⟩
  · subst e
    obtain ⟨a, vs, e1, h1, r⟩ := (RepW.rep h).scr
    exact ⟨a, vs, e1, h1.sq, r⟩
theorem find_rd (rc : RC X C k) {σ : L2.St} {H : Hp} {Q : VK} {f : List Int → Int → Option Int} (h : rd C (findM f ma mb) σ H Q) : tSeqM X.K (rFind X.K f) (rd C ma) (tCons (rd C mb) tNil) σ H Q := by
  obtain ⟨env, F, n, q⟩ := h
  refine ⟨env, F, n, q.seq.imp fun t env1 F1 H1 _ _ _ ⟨env1', n1, q1⟩ v rv => ?_⟩
  rw [rc.hK]
  obtain ⟨ts, e1, q2⟩ := End.lift2 q1
  obtain ⟨ad, vs, rfl, hs, rl⟩ := rv.sqM e1
  refine ⟨⟨_, ad, vs, rfl, hs⟩, env1', F1, n1, q2.seq.imp fun u env2 F2 H2 _ _ x2 ⟨env2', n2, q3⟩ w rw' => ?_⟩
  obtain ⟨t', e2, q4⟩ := q3.lift n2
  cases u <;> try cases e2
  cases rw'
  have kp := n1.keep x2
  refine ⟨_, ad, rfl, ⟨vs, hs⟩, ?_⟩
  obtain ⟨ad2, vs2, ea, hs2, rl2⟩ := (rv.mono kp).sq e1
  cases ea
  dsimp only at e2
  unfold onI at e2
  rw [e1, Option.bind_some, Option.bind_eq_some_iff] at e2
  obtain ⟨ns, e4, e5⟩ := e2
  rw [Option.map_eq_some_iff] at e5
  obtain ⟨j, e6, rfl⟩ := e5
  have := intsOf_eq e4
  subst this
  have := rl2.ints
  subst this
  exact ⟨ns, _, j, rfl, hs2, e6, q4 F2 H2 n2 Ext.refl _ (.int _)⟩
theorem cnt_slot (l : Bool) : Slot (tySeq l) "count" (tySeq l ++ ".count") := by
  cases l
  · exact PySem.F.slot_tuple_count
  · exact PySem.F.slot_list_count
theorem idx_slot (l : Bool) : Slot (tySeq l) "index" (tySeq l ++ ".index") := by
  cases l
  · exact PySem.F.slot_tuple_index
  · exact PySem.F.slot_list_index
theorem cnt_type (l : Bool) : typeOf (.builtin (tySeq l ++ ".count")) = pure (.type "method_descriptor") := by
  cases l
  · exact PySem.F.type_tuple_count
  · exact PySem.F.type_list_count
theorem idx_type (l : Bool) : typeOf (.builtin (tySeq l ++ ".index")) = pure (.type "method_descriptor") := by
  cases l
  · exact PySem.F.type_tuple_index
  · exact PySem.F.type_list_index
theorem re_count (rc : RC X C k) (hu : X.A.units + 1 < cLine) (ha : RE X C a ma) (hb : RE X C b mb)
    (hbase : attributeBase a "count" X.env (eval a X.env) = eval a X.env := by rfl)
    (hfew : ((backTo pos (starEach [b] X.env)).all (fun x => !x.1) && (backToKw pos (keywordEach [] X.env)).all (fun x => x.1.isSome)
      && decide ([b].length + ([] : List Keyword).length + (if ([] : List Keyword).isEmpty then 0 else 1) < 30)) = true := by rfl)
    (hline : (apos.endLine == pos.line) = true := by rfl) (hs : starEach [b] X.env = (false, eval b X.env) :: starEach [] X.env := by rfl) : RE X C (.Call (.Attribute a "count" apos) [b] [] pos) (findM cntI ma mb) :=
  (pe_seqM cnt_slot cnt_type (find_cnt hu) ha (pa_cons hb pa_nil hs) hbase hfew hline hs rfl).imp fun _ _ _ h => find_rd rc h
theorem re_index (rc : RC X C k) (hu : X.A.units + 1 < cLine) (ha : RE X C a ma) (hb : RE X C b mb)
    (hbase : attributeBase a "index" X.env (eval a X.env) = eval a X.env := by rfl)
    (hfew : ((backTo pos (starEach [b] X.env)).all (fun x => !x.1) && (backToKw pos (keywordEach [] X.env)).all (fun x => x.1.isSome)
      && decide ([b].length + ([] : List Keyword).length + (if ([] : List Keyword).isEmpty then 0 else 1) < 30)) = true := by rfl)
    (hline : (apos.endLine == pos.line) = true := by rfl) (hs : starEach [b] X.env = (false, eval b X.env) :: starEach [] X.env := by rfl) : RE X C (.Call (.Attribute a "index" apos) [b] [] pos) (findM idxI ma mb) :=
  (pe_seqM idx_slot idx_type (find_idx hu) ha (pa_cons hb pa_nil hs) hbase hfew hline hs rfl).imp fun _ _ _ h => find_rd rc h
end
end L2.EV

set_option Elab.async false
set_option linter.all false
set_option maxRecDepth 100000
namespace L2.EV
open PySem PySem.Spec PyProof.Rows
open HT (slicePart_)

/-! ### x[::-1] -/
section
variable {prog : Program} {w : World} {A : Around} {E : Value → Shared → Prop} {s : Shared}
theorem adjust_rev (n : Nat) : Builtin.Slice.sliceAdjust none none (-1) (n : Int) = ((n : Int) - 1, -1) := by
  unfold Builtin.Slice.sliceAdjust
  rfl
theorem places_rev (n : Nat) : Builtin.Slice.slicePlaces ((n : Int) - 1) (-1) (-1) = n := by
  unfold Builtin.Slice.slicePlaces
  rw [if_neg (by decide)]
  have e : (((n : Int) - 1 - -1 - 1) / - -1) = (n : Int) - 1 := by rw [show (- -1 : Int) = 1 from rfl, Int.ediv_one]; omega
  rw [e]
  split <;> omega
theorem pick_rev (xs : Array Value) : ((List.range xs.size).filterMap fun (m : Nat) => xs[(((xs.size : Int) - 1) + (m : Int) * (-1)).toNat]?).toArray = xs.toList.reverse.toArray := by
  congr 1
  have e : ∀ m, m < xs.size → xs[(((xs.size : Int) - 1) + (m : Int) * (-1)).toNat]? = some (xs.toList.reverse.getD m .none) := fun m hm => by
    have e1 : (((xs.size : Int) - 1) + (m : Int) * (-1)).toNat = xs.size - 1 - m := by omega
    rw [e1, List.getD_eq_getElem?_getD, List.getElem?_reverse (by simpa using hm), Array.length_toList, Array.getElem?_toList]
    rw [Array.getElem?_eq_getElem (by omega)]
    rfl
  have fc : ∀ (l : List Nat) (f g : Nat → Option Value), (∀ m ∈ l, f m = g m) → l.filterMap f = l.filterMap g := fun l f g h => by
    induction l with
    | nil => rfl
    | cons x l ih => rw [List.filterMap_cons, List.filterMap_cons, h x (by simp), ih fun m hm => h m (by simp [hm])]
  have e2 : (List.range xs.size).filterMap (fun (m : Nat) => xs[(((xs.size : Int) - 1) + (m : Int) * (-1)).toNat]?) = (List.range xs.size).filterMap (fun m => some (xs.toList.reverse.getD m .none)) :=
    fc _ _ _ fun m hm => e m (List.mem_range.mp hm)
  rw [e2]
  have e3 : (fun m => some (xs.toList.reverse.getD m Value.none)) = some ∘ fun m => xs.toList.reverse.getD m .none := rfl
  rw [e3, List.filterMap_eq_map]
  refine List.ext_getElem? fun i => ?_
  rw [List.getElem?_map]
  by_cases hi : i < xs.size
  · rw [List.getElem?_range hi]
    rw [Option.map_some, List.getD_eq_getElem?_getD, List.getElem?_eq_getElem (by simpa using hi)]
    rfl
  · rw [List.getElem?_eq_none (by simpa using hi), List.getElem?_eq_none (by simpa using hi)]
    rfl
theorem getItem_tuple_rev {t sl : Addr} {items : Array Value} {vs : Value} {Q : Value → Shared → Prop} (ht : IsTup s.heap t items) (hs : s.heap.IsSliceOf sl .none .none vs) (ps : IsPart vs (some (-1)))
    (h : Q (.ref s.heap.objs.size) { s with heap := s.heap.push { cls := .type "tuple", data := .seq items.toList.reverse.toArray } })
    (hsz : items.size ≤ sizeLine) : wpAny (model prog w) A (getItem (.ref t) (.ref sl)) Q E s := by
  have htake : sizeOk (.seq items.toList.reverse.toArray) := by
    show items.toList.reverse.toArray.size ≤ sizeLine
    rw [List.size_toArray, List.length_reverse, Array.length_toList]
    exact hsz
  obtain ⟨os, hos, hcs, hds⟩ := id hs
  have hTs : s.TypeIs (.ref sl) "slice" := ⟨os, hos, hcs⟩
  unfold getItem
  try with_reducible refine wpAny_holding ?_
  first | refine wpAny_bind (wpAny_pure ?_) | skip
  refine wpAny_bind (wpAny_sequenceKey ht.typeIs (by decide) ?_)
  refine wpAny_bind (wpAny_callSpecial?_slot (name := Str.ofString "__getitem__") ht.typeIs PyProof.Rows.slot_tuple_getitem
    (wpAny_call_entry PyProof.Rows.slot_tuple_getitem ht.typeIs entry_tuple_getitem ?_ (args_tuple_getitem _ _)))
  show wpAny _ _ (Builtin.Tuple.tupleItemsOf (.ref t) >>= _) _ _ s
  refine wpAny_bind (tupleItemsOf_ ht ?_)
  refine wpAny_bind (wpAny_typeOf hTs ?_)
  rw [if_pos (by decide)]
  refine wpAny_bind (m := Builtin.Slice.sliceApplied (.ref sl) (pure (items.size : Int))) ?_
  unfold Builtin.Slice.sliceApplied Builtin.Slice.sliceFields
  refine wpAny_bind (wpAny_bind (wpAny_field hos hds (x := .none) rfl (wpAny_bind (wpAny_field hos hds (x := .none) rfl (wpAny_bind (wpAny_field hos hds (x := vs) rfl (wpAny_pure ?_)))))))
  refine wpAny_bind (slicePart_ ps ?_)
  show wpAny _ _ (if ((-1 : Int) == 0) = true then _ else _) _ _ s
  rw [if_neg (by decide)]
  refine wpAny_bind (slicePart_none (wpAny_bind (slicePart_none (wpAny_bind (wpAny_pure ?_)))))
  show wpAny _ _ (match Builtin.Slice.sliceAdjust none none (-1) (items.size : Int) with | (lo, hi) => pure (lo, (-1 : Int), Builtin.Slice.slicePlaces lo hi (-1))) _ _ s
  rw [adjust_rev]
  show wpAny _ _ (pure ((items.size : Int) - 1, (-1 : Int), Builtin.Slice.slicePlaces ((items.size : Int) - 1) (-1) (-1))) _ _ s
  rw [places_rev]
  refine wpAny_pure ?_
  have hno : ¬ ((((items.size : Int) - 1) == 0 && (-1 : Int) == 1 && items.size == items.size) = true) := by
    rw [show ((-1 : Int) == 1) = false from by decide]
    simp
  show wpAny _ _ (if (((items.size : Int) - 1) == 0 && (-1 : Int) == 1 && items.size == items.size) = true then _ else _) _ _ s
  rw [if_neg hno, pick_rev]
  first
    | exact wpAny_bind (m := Builtin.Tuple.tupleExact _) (wpAny_newObj_type (wpAny_pure ⟨_, rfl, wpAny_pure h⟩) htake)
    | exact wpAny_bind (m := Builtin.Tuple.tupleExact _) (wpAny_newObj_type (wpAny_bind (wpAny_pure (wpAny_pure ⟨_, rfl, wpAny_pure h⟩))) htake)
    | exact wpAny_bind (wpAny_bind (m := Builtin.Tuple.tupleExact _) (wpAny_newObj_type (wpAny_pure (wpAny_pure ⟨_, rfl, wpAny_pure h⟩)) htake))
    | exact wpAny_bind (wpAny_bind (m := Builtin.Tuple.tupleExact _) (wpAny_newObj_type (wpAny_pure ⟨_, rfl, wpAny_pure h⟩) htake))
end
section
variable {X : Cx} {C : Cp} {k i : Nat} {e a b : Expr} {m ma mb : M PV} {pos p : Pos}
def tRevB (K : PySem.W.Frag) (te : TE) : TE := fun σ H Q => te σ H fun x H1 => ∃ a xs, x = .ref a ∧ ((SqL K H1 a xs ∧ ∀ p, H1 p = none → Q (.ref p) (upd H1 p (.lst xs.reverse))) ∨ (SqT K H1 a xs ∧ NewT H1 xs.reverse Q))
theorem pe_revB {te : TE} {k : Nat} {p1 p2 p3 : Pos} (he : PE X e te) : PE X (.Subscript e (.Slice none none (some (.UnaryOp .USub (.Constant (.int 1) k p1) p2)) p3) pos) (tRevB X.K te) := by
  refine ⟨fun pins s σ H Q I h => ?_⟩
  refine Subscript_ (thn (he.run pins s σ H _ I h) fun v s1 ⟨x, H1, I1, r1, q1⟩ => ?_)
  obtain ⟨a, xs, ex, q⟩ := q1
  subst ex
  cases r1
  have hst : PO X (some (.UnaryOp .USub (.Constant (.int 1) k p1) p2)) (tPart (tUn (rU fun i => .int (-i)) (tC (.int 1)))) := po_some (pe_un un_neg pe_int)
  refine wpAny_Slice (thn (po_none.run pins s1 σ H1 (fun o H2 => o = none ∧ H2 = H1) I1 ⟨rfl, rfl⟩) fun vl s2 ⟨l, H2, I2, pl, el, e2⟩ => ?_)
  subst el e2
  refine thn (po_none.run pins s2 σ H2 (fun o H3 => o = none ∧ H3 = H2) I2 ⟨rfl, rfl⟩) fun vu s3 ⟨u, H3, I3, pu, eu, e3⟩ => ?_
  subst eu e3
  refine thn (hst.run pins s3 σ H3 (fun o H4 => o = some (-1) ∧ H4 = H3) I3 ⟨1, rfl, -1, rfl, rfl, rfl⟩) fun vs s4 ⟨o, H4, I4, ps, eo, e4⟩ => ?_
  subst eo e4
  have I5 : Inv X pins σ H4 { s4 with heap := s4.heap.push { cls := .type "slice", data := .fields #[vl, vu, vs] } } := I4.kept (t' := s4.toks) fun b ob q => Heap.get?_push_of_some _ q
  show wpAny (model X.prog X.w) X.A (subscriptTail e (.Slice none none (some (.UnaryOp .USub (.Constant (.int 1) k p1) p2)) p3) (.ref a) (.ref s4.heap.objs.size)) (EP X pins σ Q) X.xe { s4 with heap := s4.heap.push { cls := .type "slice", data := .fields #[vl, vu, vs] } }
  rcases q with ⟨hx, q⟩ | ⟨hx, q⟩
  · obtain ⟨its, r, ht, hz⟩ := I5.list hx
    have hlen := r.length
    refine tail_any (ops := [.ref a, .ref s4.heap.objs.size]) ht.isList.typeIs (PySem.slot_list_getitem.lookup) ?_ (by with_unfolding_all rfl)
    refine wpAny_getItem_list_slice ht.isList (Heap.IsSliceOf.new _ vl vu vs) pl pu ps (by decide) ?_ (by rw [List.size_toArray]; omega)
    rw [PySem.W.krv_pick]
    refine ⟨.ref _, _, I5.laid (t' := s4.toks) (o := .lst xs.reverse) (fun b ob q => Heap.get?_push_of_some _ q) (Nat.le_refl _) ?_, rfl, q _ (I5.hok.fresh (Nat.le_refl _))⟩
    exact ⟨by rw [List.length_reverse]; exact hz, _, 0, r.reverse, Heap.get?_push_size _ rfl⟩
  · obtain ⟨its, r, ht, hz⟩ := I5.tuple hx
    have hlen := r.length
    cases pl
    cases pu
    refine tail_any (ops := [.ref a, .ref s4.heap.objs.size]) ht.typeIs (PyProof.Rows.slot_tuple_getitem.lookup) ?_ (by with_unfolding_all rfl)
    refine getItem_tuple_rev ht (Heap.IsSliceOf.new _ .none .none vs) ps ?_ (by rw [List.size_toArray]; omega)
    obtain ⟨H', I', q'⟩ := lay_tup I5 (fun b u e => Heap.get?_push_of_some _ e) r.reverse (by rw [List.length_reverse]; exact hz) (Nat.le_refl _) (Heap.get?_push_size _ rfl) q (tk := s4.toks)
    exact ⟨.ref _, H', I', rfl, q'⟩
def pyRev (t : PV) : Option PV := match t with
  | .tup ts => some (.tup ts.reverse)
  | .lst ts => some (.lst ts.reverse)
  | .scr ts => some (.lst ts.reverse)
  | _ => none
theorem re_rev (rc : RC X C k) {j : Nat} {p1 p2 p3 : Pos} (he : RE X C e m) : RE X C (.Subscript e (.Slice none none (some (.UnaryOp .USub (.Constant (.int 1) j p1) p2)) p3) pos) (un pyRev m) :=
  (pe_revB he).imp fun σ H Q ⟨env, F, n, q⟩ => ⟨env, F, n, q.seq.imp fun t env1 F1 H1 _ _ _ ⟨env1', n1, q1⟩ v rv => by
    obtain ⟨t', e1, q2⟩ := q1.lift n1
    rw [rc.hK]
    have fin : ∀ {F' : Addr → Prop} {H' : Hp} {v' : V}, Grow C σ F1 H1 F' H' → Rep C.K C.mg F' H' t' v' → Q v' H' := fun {F' H' v'} g r => by
      obtain ⟨n2, x2⟩ := g env1' n1
      exact q2 F' H' n2 x2 v' r
    cases t <;> simp only [pyRev, reduceCtorEq, Option.some.injEq] at e1
    · subst e1
      obtain ⟨a, vs, rfl, h1, r⟩ := (RepW.rep rv).tup
      exact ⟨a, vs, rfl, .inr ⟨h1.sq, fun pp o hp hd => fin (Grow.new hp) (rep_newT hp hd r.reverse)⟩⟩
    · subst e1
      obtain ⟨a, vs, rfl, h1, r⟩ := (RepW.rep rv).lst
      exact ⟨a, vs, rfl, .inl ⟨.of h1, fun pp hp => fin (Grow.newF hp) (rep_newL hp r.reverse)⟩⟩
    · subst e1
      obtain ⟨a, vs, rfl, h1, r⟩ := (RepW.rep rv).scr
      exact ⟨a, vs, rfl, .inl ⟨h1.sq, fun pp hp => fin (Grow.newF hp) (rep_newL hp r.reverse)⟩⟩⟩

/-! ### x or y, x a list, a tuple, ..: by truth -/
def truP : PV → Option Bool
  | .non => some false
  | .bl b => some b
  | .int i => some (i != 0)
  | .lst ts => some (!ts.isEmpty)
  | .tup ts => some (!ts.isEmpty)
  | _ => none
theorem isEmpty_rep {K : PySem.W.Frag} {mg : Str → Option Value} {F : Addr → Prop} {H : Hp} {ts : List PV} {vs : List V} (r : RepL K mg F H ts vs) : vs.isEmpty = ts.isEmpty := by cases r <;> rfl
theorem truP_rep {F : Addr → Prop} {H : Hp} {t : PV} {v : V} {bb : Bool} (e : truP t = some bb) (r : RepW C.K C.mg F H t v) : TruV C.K v H bb := by
  cases t <;> simp only [truP, reduceCtorEq, Option.some.injEq] at e
  · rw [r.non]; exact e.symm
  · rw [r.bl]; exact e.symm
  · rw [r.int]; exact e.symm
  · obtain ⟨a, vs, rfl, h1, rl⟩ := r.tup
    exact .inr (.inl ⟨vs, h1.sq, by rw [isEmpty_rep rl]; exact e.symm⟩)
  · obtain ⟨a, vs, rfl, h1, rl⟩ := r.lst
    exact .inl ⟨vs, .of h1, by rw [isEmpty_rep rl]; exact e.symm⟩
def orF (ma mb : M PV) : M PV := mbind ma fun t => mbind (mlift (truP t)) fun c => if c = true then mret t else mb
theorem rf_or (rc : RC X C k) {rest : List Expr} (ha : RF X C a ma) (hb : RF X C (.BoolOp .Or (b :: rest) pos) mb) : RF X C (.BoolOp .Or (a :: b :: rest) pos) (orF ma mb) := (pe_orT ha hb).imp fun σ H Q ⟨env, F, n, q⟩ => ⟨env, F, n, q.seq.imp fun t env1 F1 H1 _ _ x1 ⟨env1', n1, q1⟩ ad ow nf ha0 => by
  obtain ⟨cc, e1, q2⟩ := End.lift2 q1
  rw [rc.hK]
  refine ⟨cc, truP_rep e1 (.own ow), ?_⟩
  cases cc with
  | true =>
    rw [if_pos rfl] at q2 ⊢
    exact q2.ret n1 ad ow nf ha0
  | false =>
    rw [if_neg Bool.false_ne_true] at q2 ⊢
    refine ⟨env1', F1, n1, q2.imp fun t2 env2 F2 H2 _ _ x2 h ad2 ow2 nf2 h2 => h ad2 ow2 nf2 ?_⟩
    cases z : H ad2 with
    | none => rfl
    | some o => exact absurd h2 (x1.dom ad2 (by rw [z]; simp))⟩
theorem rf_one {op : BoolOp} (ha : RF X C a ma) : RF X C (.BoolOp op [a] pos) ma := pe_one ha

/-! ### [..] * n, (..) * n -/
def pyRepL (t u : PV) : Option PV := match t, u with
  | .lst ts, .int k => if -(2 ^ 63) ≤ k ∧ k < 2 ^ 63 ∧ ts.length * k.toNat ≤ sizeLine then some (.lst (List.replicate k.toNat ts).flatten) else none
  | _, _ => none
theorem RepL.rep {K : PySem.W.Frag} {mg : Str → Option Value} {F : Addr → Prop} {H : Hp} {ts : List PV} {vs : List V} (r : RepL K mg F H ts vs) : ∀ n : Nat, RepL K mg F H (List.replicate n ts).flatten (List.replicate n vs).flatten
  | 0 => .nil
  | n + 1 => by
    rw [List.replicate_succ, List.replicate_succ, List.flatten_cons, List.flatten_cons]
    exact r.append (RepL.rep r n)
theorem opn_rep : OpN C pyRepL rRep := by
  intro σ env F H t u t' v w Q n e r1 r2 q
  unfold pyRepL at e
  split at e
  · split at e
    · rename_i hz
      cases e
      obtain ⟨a, vs, rfl, h1, rl⟩ := r1.lst
      rw [r2.int]
      exact ⟨a, _, vs, rfl, rfl, h1, hz.1, hz.2.1, by rw [← rl.length]; exact hz.2.2, fun pp hp => q _ _ pp (Grow.new hp) (own_newL hp (rl.rep _)) (fun f => n.bok.fd pp f hp) hp⟩
    · cases e
  · cases e

/-! ### dict([(k, v), ..]) -/
def pairsOf : List PV → Option (List (Key × PV))
  | [] => some []
  | .tup [k, v] :: r => (asKey k).bind fun k => (pairsOf r).map ((k, v) :: ·)
  | _ :: _ => none
def mergeP (acc : List (Key × PV)) : List (Key × PV) → List (Key × PV)
  | [] => acc
  | kv :: r => mergeP (putP acc kv.1 kv.2) r
theorem RepK.merge {K : PySem.W.Frag} {mg : Str → Option Value} {F : Addr → Prop} {H : Hp} : ∀ {ts : List (Key × PV)} {vs : List (Key × V)} {acc : List (Key × PV)} {acc' : List (Key × V)}, RepK K mg F H ts vs → RepK K mg F H acc acc' → RepK K mg F H (mergeP acc ts) (mergeK acc' vs)
  | _, _, _, _, .nil, r => r
  | _ :: ts, _ :: vs, _, _, .cons (k := k) r q, r0 => RepK.merge (ts := ts) (vs := vs) q (r0.put k r)
theorem pairsOf_rep {F : Addr → Prop} {H : Hp} : ∀ {ts : List PV} {vs : List V} {kts : List (Key × PV)}, pairsOf ts = some kts → RepL C.K C.mg F H ts vs → ∃ (ps : List Addr) (kvs : List (Key × V)), vs = ps.map V.ref ∧ Paired (fun p kv => SqT C.K H p [kV kv.1, kv.2]) ps kvs ∧ RepK C.K C.mg F H kts kvs
  | [], _, _, e, .nil => by
    cases e
    exact ⟨[], [], rfl, .nil, .nil⟩
  | t :: ts, _, _, e, .cons r q => by
    unfold pairsOf at e
    split at e
    · rename_i heq
      cases heq
    · rename_i k v r' heq
      injection heq with h1 h2
      subst h1 h2
      rw [Option.bind_eq_some_iff] at e
      obtain ⟨kk, e1, e2⟩ := e
      rw [Option.map_eq_some_iff] at e2
      obtain ⟨kts, e3, rfl⟩ := e2
      obtain ⟨ps, kvs, rfl, h1, h2⟩ := pairsOf_rep e3 q
      obtain ⟨a, vs, rfl, hs, rl⟩ := (RepW.rep r).tup
      cases rl with
      | cons rk rl =>
        cases rl with
        | cons rv rl =>
          cases rl
          have := asKey_rep e1 (.rep rk)
          subst this
          exact ⟨a :: ps, (kk, _) :: kvs, rfl, .cons hs.sq h1, .cons rv h2⟩
    · cases e
def pyDict (t : PV) : Option PV := match t with
  | .lst ts => (pairsOf ts).map fun kts => .dct (mergeP [] kts)
  | _ => none
def rDictP (K : PySem.W.Frag) : List V → Hp → VK → Prop := fun xs H Q => ∃ (a : Addr) (ps : List Addr) (kvs : List (Key × V)), xs = [.ref a] ∧ SqL K H a (ps.map V.ref) ∧ Paired (fun p kv => SqT K H p [kV kv.1, kv.2]) ps kvs ∧
    ∀ p, H p = none → Q (.ref p) (upd H p (.dK (mergeK [] kvs)))
theorem cr_dictP (hc : X.calm = true) : CallR X (.type "dict") (rDictP X.K) := call_dictP hc
theorem unn_dict : UnN C pyDict fun v H Q => rDictP C.K [v] H Q := by
  intro σ env F H t t' v Q n e r q
  unfold pyDict at e
  split at e
  · rw [Option.map_eq_some_iff] at e
    obtain ⟨kts, e1, rfl⟩ := e
    obtain ⟨a, vs, rfl, hs, rl⟩ := r.lst
    obtain ⟨ps, kvs, rfl, h1, h2⟩ := pairsOf_rep e1 rl
    exact ⟨a, ps, kvs, rfl, .of hs, h1, fun pp hp => q _ _ pp (Grow.new hp) (own_newD hp (h2.merge .nil)) (fun f => n.bok.fd pp f hp) hp⟩
  · cases e
theorem rf_dict0 : RF X C (.Dict [] [] pos) (mret (.dct [])) := pe_dnewK.imp fun σ H Q ⟨env, F, n, q⟩ => fun pp hp => by
  obtain ⟨x, m⟩ := n.laid (o := .dK []) hp
  exact q F _ m x pp (own_newD hp .nil) (fun f => n.bok.fd pp f hp) hp

/-! ### list(range(..)) -/
def lstRg (i j : Int) : Option PV := if -(2 ^ 62) ≤ i ∧ i < 2 ^ 62 ∧ -(2 ^ 62) ≤ j ∧ j < 2 ^ 62 ∧ (j - i).toNat ≤ 2 ^ 24 then some (.lst (rng2 i j)) else none
def lstRg1 (t : PV) : Option PV := match t with
  | .int j => lstRg 0 j
  | _ => none
def lstRg2 (t u : PV) : Option PV := match t, u with
  | .int i, .int j => lstRg i j
  | _, _ => none
theorem lstRg_leaf {σ : L2.St} {env : Sl} {F : Addr → Prop} {H : Hp} {i j : Int} {t' : PV} {P : PV → (Addr → Prop) → Hp → Prop} (n : Now C env σ F H) (e : lstRg i j = some t') : RgOk i j ∧ ∀ q, H q = none → OwnR C.K C.mg F (upd H q (.lst (rgV i j))) q t' := by
  unfold lstRg at e
  split at e
  · rename_i hz
    cases e
    refine ⟨hz, fun q hq => own_newL hq ?_⟩
    have e1 : rng2 i j = ((List.range (j - i).toNat).map fun k => i + (k : Nat)).map PV.int := by unfold rng2; rw [List.map_map]; rfl
    have e2 : rgV i j = ((List.range (j - i).toNat).map fun k => i + (k : Nat)).map V.int := by unfold rgV; rw [List.map_map]; rfl
    rw [e1, e2]
    exact RepL.of_ints _
  · cases e
theorem rf_lstRg1 (rc : RC X C k) {p2 pos2 : Pos} (hg : Gl X "range") (hm : C.mg "range" = none) (hg2 : Gl X "list") (hm2 : C.mg "list" = none) (ha : RE X C a ma) (na : starEach [a] X.env = (false, eval a X.env) :: starEach [] X.env := by rfl)
    (na2 : starEach [.Call (.Name "range" p) [a] [] pos] X.env = (false, eval (.Call (.Name "range" p) [a] [] pos) X.env) :: starEach [] X.env := by rfl) : RF X C (.Call (.Name "list" p2) [.Call (.Name "range" p) [a] [] pos] [] pos2) (un lstRg1 ma) :=
  (pe_listRg rc.calm hg2 (by rw [rc.hmg]; exact hm2) (prg_1 hg (by rw [rc.hmg]; exact hm) ha na) na2).imp fun σ H Q ⟨env, F, n, q⟩ => ⟨env, F, n, q.seq.imp fun t env1 F1 H1 _ _ x1 ⟨env1', n1, q1⟩ v rv => by
    obtain ⟨t', e1, q2⟩ := q1.lift n1
    cases t <;> try cases e1
    cases rv
    obtain ⟨h1, h2⟩ := lstRg_leaf (P := fun _ _ _ => True) n1 e1
    refine ⟨_, rfl, h1, fun pp hp => ?_⟩
    obtain ⟨x, m⟩ := n1.laid (o := .lst (rgV 0 _)) hp
    refine q2 F1 _ m x pp (h2 pp hp) (fun f => n1.bok.fd pp f hp) ?_
    cases z : H pp with
    | none => rfl
    | some o => exact absurd hp (x1.dom pp (by rw [z]; simp))⟩
theorem rf_lstRg2 (rc : RC X C k) {p2 pos2 : Pos} (hg : Gl X "range") (hm : C.mg "range" = none) (hg2 : Gl X "list") (hm2 : C.mg "list" = none) (ha : RE X C a ma) (hb : RE X C b mb) (na : starEach [a, b] X.env = (false, eval a X.env) :: starEach [b] X.env := by rfl) (nb : starEach [b] X.env = (false, eval b X.env) :: starEach [] X.env := by rfl) (hpl : (backTo pos (starEach [b] X.env)).any (·.1) = false := by rfl)
    (na2 : starEach [.Call (.Name "range" p) [a, b] [] pos] X.env = (false, eval (.Call (.Name "range" p) [a, b] [] pos) X.env) :: starEach [] X.env := by rfl) : RF X C (.Call (.Name "list" p2) [.Call (.Name "range" p) [a, b] [] pos] [] pos2) (bin lstRg2 ma mb) :=
  (pe_listRg rc.calm hg2 (by rw [rc.hmg]; exact hm2) (prg_2 hg (by rw [rc.hmg]; exact hm) ha hb na nb hpl) na2).imp fun σ H Q ⟨env, F, n, q⟩ => ⟨env, F, n, q.seq.imp fun t env1 F1 H1 _ _ x1 ⟨env1', n1, q1⟩ v rv => ⟨env1', F1, n1, q1.seq.imp fun u env2 F2 H2 _ _ x2 ⟨env2', n2, q3⟩ w rw' => by
    obtain ⟨t', e1, q2⟩ := q3.lift n2
    cases t <;> cases u <;> try cases e1
    cases rv
    cases rw'
    obtain ⟨h1, h2⟩ := lstRg_leaf (P := fun _ _ _ => True) n2 e1
    refine ⟨_, _, rfl, rfl, h1, fun pp hp => ?_⟩
    obtain ⟨x, m⟩ := n2.laid (o := .lst (rgV _ _)) hp
    refine q2 F2 _ m x pp (h2 pp hp) (fun f => n2.bok.fd pp f hp) ?_
    cases z : H pp with
    | none => rfl
    | some o => exact absurd hp (x2.dom pp (x1.dom pp (by rw [z]; simp)))⟩⟩
end
end L2.EV

set_option Elab.async false
set_option linter.all false
set_option maxRecDepth 100000
namespace L2.EV
open PySem PySem.Spec PyProof.Rows
section
variable {X : Cx} {C : Cp} {k i : Nat} {e a b ix : Expr} {m ma mb mi mv : M PV} {pos p : Pos}

/-! ### slot[i] op= v, ints in a list -/
def rGetL : V → V → Hp → VK → Prop := fun o y H Q => ∃ ad xs j x, o = V.ref ad ∧ y = V.int (j : Nat) ∧ H ad = some (.lst xs) ∧ xs[j]? = some x ∧ Q x H
theorem pget_list : PGet X rGetL := by
  intro pins s σ H o y ov iv Q I ro ri h
  obtain ⟨ad, xs, j, x, rfl, rfl, hl, hx, q⟩ := h
  cases ro
  obtain ⟨t, rfl⟩ := ri
  obtain ⟨hz, its, n, rv, hob⟩ := I.hok ad _ hl
  obtain ⟨u, hu, ru⟩ := rv.get hx
  have hj : j < xs.length := (List.getElem?_eq_some_iff.mp hx).1
  have hsz := line63
  exact wpAny_getItem_list (l := ad) (items := its.toArray) ⟨_, hob, rfl, n, rfl⟩ (by omega) (by omega) (by simpa using hu) ⟨x, H, I, ru, q⟩
def augGet (t kk : PV) : Option PV := match t, kk with
  | .lst ts, .int j => if 0 ≤ j then ts[j.toNat]? else none
  | _, _ => none
def saugS (g : PV → PV → Option PV) (i : Nat) (mi mv : M PV) : S := sbind (slot i) fun _ => sbind mi fun kk => sbind (slot i) fun t => sbind (mlift (augGet t kk)) fun x => sbind mv fun y => sbind (mlift (g x y)) fun z => sbind (slot i) fun t2 => sbind (mlift (setAt t2 kk z)) fun t' => sput i t'
theorem rs_augS {x : Str} {p sp : Pos} {op : Operator} {g : PV → PV → Option PV} {ti : TIp} (i : Nat) (hi : i ∈ C.O) (hu : X.A.units + 1 < cLine) (oe : OpE C g ti) (hx : PE X (.Name x p) (tVar i)) (hix : RE X C ix mi) (he : RE X C e mv) (hp : PIp X op ti)
    (ha : ∀ ov iv new, augStore ix ov iv new = (do holding [new, ov, iv] (setItem ov iv new); release [new, ov, iv] []; pure .next) := by intros; rfl)
     :
    RS X C (.AugAssign (.Subscript (.Name x p) ix sp) op e pos) (saugS g i mi mv) :=
  (ps_augS hx hix pget_list he hp (set_all hu) ha).imp fun D σ H ⟨env, F, n, q⟩ => by
    obtain ⟨t0, e0, q1⟩ := sbind_slot q
    obtain ⟨a0, h1, _, _⟩ := n.own i t0 hi e0
    refine ⟨_, h1, env, F, n, (EndS.seq n q1).imp fun kk env1 F1 H1 _ _ x1 ⟨env1', n1, q2⟩ w rw' => ?_⟩
    obtain ⟨t, e1, q3⟩ := sbind_slot q2
    obtain ⟨a1, h2, nf, ow, _⟩ := n1.own i t hi e1
    rw [h1] at h2
    cases h2
    obtain ⟨x0, e2, q4⟩ := EndS.lift q3
    unfold augGet at e2
    split at e2
    · rename_i ts j
      split at e2
      · rename_i hj
        cases rw'
        obtain ⟨vs, hv, rl⟩ := ow
        obtain ⟨v0, hv0, rv0⟩ := rl.get e2
        refine ⟨a0, vs, _, v0, rfl, by rw [Int.toNat_of_nonneg hj], hv, hv0, env1', F1, n1, (EndS.seq n1 q4).imp fun y env2 F2 H2 _ _ x2 ⟨env2', n2, q4⟩ w2 rw2 => ?_⟩
        obtain ⟨z, e3, q5⟩ := EndS.lift q4
        refine oe σ env2' F2 H2 x0 y z v0 w2 _ n2 e3 (.rep (rv0.mono (n1.keep x2))) (.rep rw2) fun F3 H3 v3 gr r3 => ?_
        obtain ⟨n3, x3⟩ := gr env2' n2
        obtain ⟨t2, e4, q6⟩ := sbind_slot q5
        obtain ⟨t', e5, q7⟩ := EndS.lift q6
        obtain ⟨a, h3, leaf⟩ := set_leaf n3 hi e4 e5 (.rep (.int _)) r3
        rw [h1] at h3
        cases h3
        refine leaf _ fun H' x' n' => ?_
        exact q7 σ F3 H' n' ((n2.keep x3).trans (n3.keep x'))
      · cases e2
    · cases e2

/-! ### from now on a slot's object is shared -/
/-- the same, slot i no more one of an object of its own -/
def Cp.sh (C : Cp) (i : Nat) : Cp := { C with O := C.O.filter fun j => j != i }
theorem mem_sh {i j : Nat} : j ∈ (C.sh i).O ↔ j ∈ C.O ∧ j ≠ i := by
  unfold Cp.sh
  simp
end
end L2.EV

set_option Elab.async false
set_option linter.all false
set_option maxRecDepth 100000
namespace L2.EV
open PySem PySem.Spec PyProof.Rows
section
variable {X : Cx} {C : Cp} {k i j l : Nat} {e a b c : Expr} {m ma mb mc : M PV} {ta : M Bool} {pos p : Pos}
theorem pe_ty (rc : RC X C k) {x : Str} {T : String} (hg : Gl X x) (hm : C.mg x = none) (hv : bootBuiltins x = some (.type T)) (hn : x ≠ "__name__" := by decide) (hd : (x == ("__debug__" : Str)) = false := by decide) : PE X (.Name x pos) (tC (.ty T)) :=
  pe_bltn hg (by rw [rc.hmg]; exact hm) hv rfl hn hd
theorem rf_if (hc : RT X C c ta) (ha : RF X C a ma) (hb : RF X C b mb) : RF X C (.IfExp c a b pos) (iteM ta ma mb) := (pe_ifExp hc ha hb).imp fun σ H Q ⟨env, F, n, q⟩ => by
  refine ⟨env, F, n, q.seq.imp fun c env1 F1 H1 _ _ x1 ⟨env1', n1, q1⟩ => ?_⟩
  have fin : ∀ {m : M PV}, End C σ F1 H1 (m env1') (fun t F' H' => ∀ a, OwnR C.K C.mg F' H' a t → ¬ F' a → H a = none → Q (.ref a) H') → rdF C m σ H1 Q := fun {m} q => ⟨env1', F1, n1, q.imp fun t _ F2 H2 _ _ x2 h a ow nf ha => h a ow nf (by
    cases z : H a with
    | none => rfl
    | some o => exact absurd ha (x1.dom a (by rw [z]; simp)))⟩
  cases c with
  | true => exact fin q1
  | false => exact fin q1
def spar3 (i j l : Nat) (ma mb mc : M PV) : S := sbind ma fun t => sbind mb fun u => sbind mc fun v => fun env => .nx (((env.set i (some t)).set j (some u)).set l (some v))
theorem rs_par3 {tg val : Expr} (hi : i ∉ C.O) (hj : j ∉ C.O) (hl : l ∉ C.O) (ha : RE X C a ma) (hb : RE X C b mb) (hc : RE X C c mc) (h : ∀ {ta : TA}, PA X [a, b, c] ta → PS X (.Assign [tg] val pos) (tPar3 i j l ta))
    (hs : starEach [a, b, c] X.env = (false, eval a X.env) :: starEach [b, c] X.env := by rfl) (hs2 : starEach [b, c] X.env = (false, eval b X.env) :: starEach [c] X.env := by rfl) (hs3 : starEach [c] X.env = (false, eval c X.env) :: starEach [] X.env := by rfl) : RS X C (.Assign [tg] val pos) (spar3 i j l ma mb mc) :=
  (h (pa_cons ha (pa_cons hb (pa_cons hc pa_nil hs3) hs2) hs)).imp fun D σ H ⟨env, F, n, q⟩ => ⟨env, F, n, (EndS.seq n q).imp fun t env1 F1 H1 _ _ x1 ⟨env1', n1, q1⟩ v rv =>
    ⟨env1', F1, n1, (EndS.seq n1 q1).imp fun u env2 F2 H2 _ _ x2 ⟨env2', n2, q2⟩ w rw' => ⟨env2', F2, n2, (EndS.seq n2 q2).imp fun x env3 F3 H3 _ _ x3 ⟨env3', n3, q3⟩ y ry =>
      ⟨v, w, y, rfl, q3 _ F3 H3 (((n3.put hi ((rv.mono (n1.keep x2)).mono (n2.keep x3))).put hj (rw'.mono (n2.keep x3))).put hl ry) Keep.refl⟩⟩⟩⟩
/-- the most turns of a while that are looked at -/
def whileFuel : Sl → Nat := fun _ => 4000
theorem no_by {O : List Nat} {i : Nat} (h : O.elem i = false) : i ∉ O := fun z => by
  rw [List.elem_eq_true_of_mem z] at h
  cases h
theorem in_by {O : List Nat} {i : Nat} (h : O.elem i = true) : i ∈ O := List.mem_of_elem_eq_true h
theorem vs_by {O vs : List Nat} (h : (vs.all fun i => !O.elem i) = true) : ∀ i ∈ vs, i ∉ O := fun i hi => no_by (by
  have := List.all_eq_true.mp h i hi
  simpa using this)
theorem nl_by {L : List (Nat × Addr)} {ix : List Nat} {i : Nat} (h : L.map (·.1) = ix) (e : ix.elem i = false) : i ∉ L.map (·.1) := by
  rw [h]
  exact no_by e
theorem ownOk_by {O : List Nat} {sig : List Bool} (h : (O.all fun i => sig[i]? != some false) = true) : ∀ i, i ∈ O → sig[i]? ≠ some false := fun i hi z => by
  have := List.all_eq_true.mp h i hi
  rw [z] at this
  exact absurd this (by decide)
end
section
variable {P : Program} {w : World} {K : PySem.W.Frag} {mg : Str → Option Value}
/-- no turns left: nothing is said -/
theorem def_mk0 {x qual : Str} {st : Stmt} {f : Addr} {fd : FuncData} {N ps : List Str} {k : Nat} {sig : List Bool} {fr : Bool} (F : Fun K x qual st f fd) (hm : mg x = some (.ref f)) (hb : BindsA fd ps) (S : FnScope N ps (defScope st)) (hs : sig.length = ps.length) :
    Def P w K mg (k + 1) x ps sig fr (fun _ => .stuck) := by
  refine ⟨f, fd, hm, F.kp, hb, fun base => F.okX S (fun vs H Q E h => h.1.trans hs) fun cdv A outer s H vs Q E hr h => ?_⟩
  obtain ⟨_, _, _, _, _, _, q⟩ := h
  exact q.elim
/-- a def that the top has laid -/
structure FnT (K : PySem.W.Frag) (mg : Str → Option Value) (x : Str) (st : Stmt) (ps : List Str) : Prop where
  ex : ∃ f fd, Fun K x x st f fd ∧ mg x = some (.ref f) ∧ BindsA fd ps
theorem fnT_mk {h : Heap} (X : K.In h) (G : h.Ns mainGlobals mg) {x : Str} {st : Stmt} {ps : List Str} {f : Addr} {oc : Value} {od an : Option Addr} {osl : Array (Option Value)} {kV doc pm cdv ct : Value}
    (a : PySem.W.nsIn K mainGlobals x = some (some (.ref f))) (l : K.lookup f = some ⟨oc, od, .func (PySem.W.fnOf x x (defArgs st) (defBody st) (defScope st) .none kV doc pm an cdv ct), osl⟩)
    (c : PySem.W.codeIn K cdv x = true) (k : PySem.W.keepIn K (.ref f) = true)
    (hb : ∀ (kV doc pm : Value) (an : Option Addr) (cdv ct : Value) (us : List Value), us.length = ps.length → bindArgs (PySem.W.fnOf x x (defArgs st) (defBody st) (defScope st) .none kV doc pm an cdv ct) ⟨us, []⟩ = pure (ps.zip us)) : FnT K mg x st ps :=
  ⟨f, _, fun_mk l c k, PySem.W.mg_of X G a, fun s us hl => .of_eq (hb kV doc pm an cdv ct us hl)⟩
def ExcT (K : PySem.W.Frag) (mg : Str → Option Value) (x : Str) (B newId initId : String) (bmB : List Value) : Prop := ∃ A, Exc K mg x B newId initId bmB A
theorem excT_mk {h : Heap} (X : K.In h) (G : h.Ns mainGlobals mg) {x : Str} {B newId initId : String} {bmB : List Value} {A : Addr} (a : PySem.W.nsIn K mainGlobals x = some (some (.ref A))) (q : PySem.W.excIn K A bmB newId = true) (kp : PySem.W.keepIn K (.ref A) = true)
    (sub : PySem.W.subIn K (.ref A) (.type "BaseException") = some true) (ty : PySem.W.typeIn K (.ref A) = some (.type "type")) : ExcT K mg x B newId initId bmB := ⟨A, PySem.W.mg_of X G a, q, kp, sub, ty⟩
theorem cI_mk {h : Heap} (X : K.In h) (G : h.Ns mainGlobals mg) {x : Str} {i : Int} {tk : Tok} (a : PySem.W.nsIn K mainGlobals x = some (some (.int i tk))) : ∃ tk, mg x = some (.int i tk) := ⟨tk, PySem.W.mg_of X G a⟩
theorem cS_mk {h : Heap} (X : K.In h) (G : h.Ns mainGlobals mg) {x y : Str} {tk : Tok} (a : PySem.W.nsIn K mainGlobals x = some (some (.str y tk))) : ∃ tk, mg x = some (.str y tk) := ⟨tk, PySem.W.mg_of X G a⟩
/-- what is to be shown of a law's mirror -/
def LawOk (f : List PV → FO) : Prop := ∀ ns : List Int, ns.length ≤ 63 → f [.scr (ns.map .int)] = .ok (.bl true) []
theorem law_end {k : Nat} {f : List PV → FO} (D : Def P w K mg k "law" ["script"] [false] false f) {fa : Addr} (hfa : mg "law" = some (.ref fa)) : ∃ fd : FuncData, BindsA fd ["script"] ∧ ∀ base : Heap, FnOk P w K mg base (L2.CX P w) k fa fd ["script"] (spEv K mg [false] false f) := by
  obtain ⟨a, fd, hm, _, hb, F⟩ := D.ex
  have e := hfa.symm.trans hm
  cases e
  exact ⟨fd, hb, F⟩
/-- the law's own promise: no word of the top in it -/
def spLaw (K : PySem.W.Frag) : Sp := fun vs H Q _ => ∃ (a : Addr) (ns : List Int), vs = [.ref a] ∧ ns.length ≤ 63 ∧ Only H ∧ SqL K H a (ns.map V.int) ∧ ∀ H', Q (.bl true) H'
theorem law_fin {k : Nat} {f : List PV → FO} (ok : LawOk f) (D : Def P w K mg k "law" ["script"] [false] false f) {fa : Addr} (hfa : mg "law" = some (.ref fa)) : ∃ fd : FuncData, BindsA fd ["script"] ∧ ∀ base : Heap, FnOk P w K mg base (L2.CX P w) k fa fd ["script"] (spLaw K) := by
  obtain ⟨fd, hb, F⟩ := law_end D hfa
  refine ⟨fd, hb, fun base => (F base).imp fun vs H Q E h => ?_⟩
  obtain ⟨a, ns, rfl, hl, hO, hS, q⟩ := h
  have sc : ScL K H a (ns.map V.int) := by
    rcases hS with (h | h) | h
    · rcases hO a with z | ⟨o, xs, z⟩
      · rw [z] at h; cases h
      · rw [z] at h; cases h
    · exact .inl h
    · exact .inr h
  refine ⟨rfl, fun _ => False, [.scr (ns.map .int)], [], fun a f => f.elim, .val (.scr sc (RepL.of_ints ns)) .nil, ?_⟩
  rw [ok ns hl]
  intro v F' H' b mr r
  unfold RetR at r
  rw [if_neg (by decide)] at r
  cases r
  exact q H'
theorem fin_mk {k : Nat} {f : List PV → FO} (ok : LawOk f) (D : Def P w K mg k "law" ["script"] [false] false f) {fa : Addr} (hfa : mg "law" = some (.ref fa)) :
    ∃ fd : FuncData, (∀ (s : Shared) (u : Value), BindsTo s fd ⟨[u], []⟩ [("script", u)]) ∧ ∀ base : Heap, K.In base → base.Ns mainGlobals mg → FnOk P w K mg base (L2.CX P w) k fa fd ["script"] (spLaw K) := by
  obtain ⟨fd, hb, hF⟩ := law_fin ok D hfa
  exact ⟨fd, fun s v => hb s [v] rfl, fun base _ _ => hF base⟩
end
end L2.EV

set_option Elab.async false
set_option linter.all false
set_option maxRecDepth 100000
namespace L2.EV
open PySem PySem.Spec PyProof.Rows
/-! The mirrors simp -implicitDefEqProofs [sseq_r, sbind_r, mbind_r, mret_r, mlift_s, slot_r, bin_r, binO_r, un_r, asB_r, andT_r, orT_r, notT_r, iteM_r, andV_r, orV_r, notV_r, chain_r, mcons_r, tupM_z, lstM_z, ite_r, callM_r, part_r, noPart_r, slc_r, itM_r, zipM_r, enumM_r, lcM_z, sm_nil, sm_cons, sm_map, rngM1_r, rngM2_r, rngM3_r, orF_r, findM_r, sortSet_r, lenSet_r, chkL_r, putSlot_r, mmut_r, mpop_r, snx_r, sbk_r, sct_r, sput_r, sret_r, sretO_r, sif_r, sexc_r, spar_r, spar3_r, saug_r, sset_r, saugS_r, sasg_r, fnM_r, mstuck_r, isiP, tyOf, isaAny, isaT, pyNeg, wipeE, unw, tgName, tgTup, tgs, Function.comp_def, sizeLine_eq, resolve, putMu, lentOf, iterOf, items, asI], by equations that want the slots. -/
section
variable {α β : Type} {e e1 : Sl} {t u v : PV} {a : α} {m : M α} {f : α → M β} {g g' : PV → PV → Option PV} {h : PV → Option PV} {ma mb mc : M PV} {ta tb : M Bool} {s s' : S} {k : α → S} {i j l : Nat} {c : Str} {b : Bool} {ml : M (List PV)}
theorem mstuck_r : (mstuck : M α) e = .stuck := rfl
theorem mret_r : mret a e = .ok a e := rfl
theorem mbind_r : mbind m f e = (match m e with | .ok a e' => f a e' | .exc c => .exc c | .stuck => .stuck) := rfl
theorem mlift_s : mlift (some a) e = .ok a e := rfl
theorem slot_r : slot i e = (match e[i]? with | some (some t) => .ok t e | _ => .stuck) := rfl
theorem bin_r : bin g ma mb e = mbind ma (fun x => mbind mb fun y => mlift (g x y)) e := rfl
theorem binO_r : binO g i mb e = mbind (slot i) (fun _ => mbind mb fun y => mbind (slot i) fun x => mlift (g x y)) e := rfl
theorem un_r : un h ma e = mbind ma (fun x => mlift (h x)) e := rfl
theorem asB_r : asB (.bl b) e = .ok b e := rfl
theorem andT_r : andT ta tb e = mbind ta (fun c => if c = true then tb else mret false) e := rfl
theorem orT_r : orT ta tb e = mbind ta (fun c => if c = true then mret true else tb) e := rfl
theorem notT_r : notT ta e = mbind ta (fun c => mret (!c)) e := rfl
theorem iteM_r {x y : M α} : iteM ta x y e = mbind ta (fun c => if c = true then x else y) e := rfl
theorem andV_r : andV ma mb e = mbind (mbind ma asB) (fun c => if c = true then mb else mret (.bl false)) e := rfl
theorem orV_r : orV ma mb e = mbind (mbind ma asB) (fun c => if c = true then mret (.bl true) else mb) e := rfl
theorem notV_r : notV ma e = mbind (mbind ma asB) (fun c => mret (.bl !c)) e := rfl
theorem chain_r : chain g g' ma mb mc e = mbind ma (fun x => mbind mb fun y => mbind (mbind (mlift (g x y)) asB) fun c => if c = true then mbind mc fun z => mlift (g' y z) else mret (.bl false)) e := rfl
theorem mcons_r : mcons ma ml e = mbind ma (fun x => mbind ml fun xs => mret (x :: xs)) e := rfl
theorem tupM_r {ts : List PV} : tupM ts e = if ts.length ≤ 16777216 then .ok (.tup ts) e else .stuck := by
  unfold tupM
  rw [sizeLine_eq]
  split <;> rfl
theorem lstM_r {ts : List PV} : lstM ts e = if ts.length ≤ 16777216 then .ok (.lst ts) e else .stuck := by
  unfold lstM
  rw [sizeLine_eq]
  split <;> rfl
theorem ite_r {γ : Type} {p : Prop} [Decidable p] {x y : Sl → γ} : (if p then x else y) e = if p then x e else y e := by split <;> rfl
theorem callM_r {fn : List PV → FO} {ms : List (Option Nat)} {margs : M (List PV)} : callM fn ms margs e = (match margs e with
    | .ok ts e1 => (match resolve ms ts e1 with
      | none => .stuck
      | some ts' => (match fn ts' with
        | .ok t mu => .ok t (putMu (ms.filterMap id) mu e1)
        | .exc c => .exc c
        | .stuck => .stuck))
    | .exc c => .exc c
    | .stuck => .stuck) := by
  unfold callM
  rw [mbind_r]
  cases margs e with
  | ok ts e1 =>
    first
      | rfl
      | (dsimp only; cases resolve ms ts e1 <;> first | rfl | (rename_i z; dsimp only; cases fn z <;> rfl))
  | exc c => rfl
  | stuck => rfl
theorem part_r : part ma e = mbind ma (fun t => mlift ((asI t).map some)) e := rfl
theorem noPart_r : noPart e = .ok none e := rfl
theorem slc_r {x y : M (Option Int)} : slc ma x y e = mbind ma (fun t => mbind x fun lo => mbind y fun hi => mlift (pyCut t lo hi)) e := rfl
theorem itM_r : itM ma e = mbind ma (fun t => mlift (iterOf t)) e := rfl
theorem zipM_r : zipM ma mb e = mbind ma (fun t => mbind mb fun u => mbind (mlift (items t)) fun ts => mbind (mlift (items u)) fun us => mret (zipL ts us)) e := rfl
theorem enumM_r : enumM ma e = mbind ma (fun t => mbind (mlift (items t)) fun ts => mret (enumL 0 ts)) e := rfl
theorem lcM_r {vs : List Nat} {tg : Tg} {tt : M Bool} {te : M PV} {mi : M (List PV)} : lcM vs tg tt te mi e = mbind mi (fun ts => mbind (lcL vs tg tt te ts) fun ys e => if ys.length ≤ 16777216 then .ok (.lst ys) e else .stuck) e := by
  unfold lcM
  rw [sizeLine_eq]
  congr 1
  funext ts
  congr 1
  funext ys e
  split <;> rfl
theorem rngM1_r : rngM1 ma e = mbind ma (fun t => match t with | .int j => if rgOk j = true then mret (rng1 j) else mstuck | _ => mstuck) e := rfl
theorem rngM2_r : rngM2 ma mb e = mbind ma (fun t => mbind mb fun u => match t, u with | .int i, .int j => if (rgOk i && rgOk j) = true then mret (rng2 i j) else mstuck | _, _ => mstuck) e := rfl
theorem orF_r : orF ma mb e = mbind ma (fun t => mbind (mlift (truP t)) fun c => if c = true then mret t else mb) e := rfl
theorem findM_r {fi : List Int → Int → Option Int} : findM fi ma mb e = mbind ma (fun t => mbind (mlift (items t)) fun _ => mbind mb fun u => mlift (match u with | .int k => onI (fun ns => (fi ns k).map .int) t | _ => none)) e := rfl
theorem sortSet_r : sortSet ma e = mbind (mbind ma fun t => mlift (setM t)) (fun ms => if ms.length < 64 then mret (.lst (ms.map .int)) else mstuck) e := rfl
theorem lenSet_r : lenSet ma e = mbind (mbind ma fun t => mlift (setM t)) (fun ms => mret (.int ms.length)) e := rfl
theorem chkL_r : chkL i e = (match e[i]? with | some (some t) => if isLst t = true then .ok () e else .stuck | _ => .stuck) := by
  show mbind (slot i) _ e = _
  rw [mbind_r, slot_r]
  cases e[i]? with
  | none => rfl
  | some o =>
    cases o with
    | none => rfl
    | some t =>
      show (if isLst t = true then mret () else mstuck) e = _
      rw [ite_r]
      rfl
theorem putSlot_r : putSlot i t e = .ok () (e.set i (some t)) := rfl
theorem mmut_r {w : PV → PV → Option (PV × PV)} : mmut w i ma e = mbind (chkL i) (fun _ => mbind ma fun v => mbind (slot i) fun t => mbind (mlift (w t v)) fun p => mbind (putSlot i p.1) fun _ => mret p.2) e := rfl
theorem mpop_r : mpop i e = mbind (chkL i) (fun _ => mbind (slot i) fun t => mbind (mlift (popP t)) fun p => mbind (putSlot i p.1) fun _ => mret p.2) e := rfl
theorem sbind_r : sbind m k e = (match m e with | .ok a e' => k a e' | .exc c => .exc c | .stuck => .stuck) := rfl
theorem sseq_r : sseq s s' e = (match s e with | .nx e' => s' e' | .bk e' => .bk e' | .ct e' => .ct e' | .rt t e' => .rt t e' | .exc c => .exc c | .stuck => .stuck) := by
  unfold sseq
  cases s e <;> rfl
theorem snx_r : snx e = .nx e := rfl
theorem sbk_r : sbk e = .bk e := rfl
theorem sct_r : sct e = .ct e := rfl
theorem sput_r : sput i t e = .nx (e.set i (some t)) := rfl
theorem sret_r : sret t e = .rt t e := rfl
theorem sretO_r : sretO i e = sbind (slot i) (fun t env => .rt t (env.set i none)) e := rfl
theorem sif_r : sif ta s s' e = sbind ta (fun c => if c = true then s else s') e := rfl
theorem sexc_r : sexc c e = .exc c := rfl
theorem spar_r : spar i j ma mb e = sbind ma (fun t => sbind mb fun u env => .nx ((env.set i (some t)).set j (some u))) e := rfl
theorem spar3_r : spar3 i j l ma mb mc e = sbind ma (fun t => sbind mb fun u => sbind mc fun v env => .nx (((env.set i (some t)).set j (some u)).set l (some v))) e := rfl
theorem saug_r : saug g i mb e = sbind (slot i) (fun t => sbind mb fun u => sbind (mlift (g t u)) (sput i)) e := rfl
theorem sset_r : sset i ma mb e = sbind mb (fun v => sbind (slot i) fun _ => sbind ma fun k => sbind (slot i) fun t => sbind (mlift (setAt t k v)) fun t' => sput i t') e := rfl
theorem saugS_r : saugS g i ma mb e = sbind (slot i) (fun _ => sbind ma fun kk => sbind (slot i) fun t => sbind (mlift (augGet t kk)) fun x => sbind mb fun y => sbind (mlift (g x y)) fun z => sbind (slot i) fun t2 => sbind (mlift (setAt t2 kk z)) fun t' => sput i t') e := rfl
theorem sasg_r {tg : Tg} : sasg tg t e = (match tg t e with | some e => .nx e | none => .stuck) := rfl
theorem fnM_r {n : Nat} {sig : List Bool} {fr : Bool} {ts : List PV} : fnM n sig fr s ts = (match s (ts.map some ++ List.replicate (n - ts.length) none) with
  | .rt t e => (match lentOf e 0 sig with
    | some mu => .ok t mu
    | none => .stuck)
  | .nx e => if fr = true then .stuck else (match lentOf e 0 sig with
    | some mu => .ok .non mu
    | none => .stuck)
  | .exc c => .exc c
  | _ => .stuck) := rfl
end

theorem sfor_inv {g : Tg} {b : S} (I : List PV → Sl → Prop) (h : ∀ t ts env, I (t :: ts) env → ∃ e1, g t env = some e1 ∧ ∃ e2, (b e1 = .nx e2 ∨ b e1 = .ct e2) ∧ I ts e2) :
    ∀ {ts : List PV} {env : Sl}, I ts env → ∃ e', sfor g b ts env = .nx e' ∧ I [] e'
  | [], env, i => ⟨env, rfl, i⟩
  | t :: ts, env, i => by
    obtain ⟨e1, h1, e2, h2, i2⟩ := h t ts env i
    obtain ⟨e', h3, i3⟩ := sfor_inv I h i2
    refine ⟨e', ?_, i3⟩
    unfold sfor
    rw [h1]
    rcases h2 with h2 | h2
    · simp only [h2, h3]
    · simp only [h2, h3]
theorem sfor_cons {g : Tg} {b : S} {t : PV} {ts : List PV} {env e1 e2 : Sl} (h1 : g t env = some e1) (h2 : b e1 = .nx e2) : sfor g b (t :: ts) env = sfor g b ts e2 := by
  conv => lhs; unfold sfor
  rw [h1]
  simp only [h2]
/-- a comprehension whose parts leave the slots as they are -/
theorem lcL_pure {vs : List Nat} {g : Tg} {tt : M Bool} {te : M PV} {env : Sl} (p : PV → Bool) (f : PV → PV) : ∀ {ts : List PV}, (∀ t ∈ ts, ∃ e1, g t (wipeE env vs) = some e1 ∧ tt e1 = .ok (p t) e1 ∧ (p t = true → te e1 = .ok (f t) e1) ∧ unw env vs e1 = env) →
    lcL vs g tt te ts env = .ok ((ts.filter p).map f) env
  | [], _ => rfl
  | t :: ts, h => by
    obtain ⟨e1, h1, h2, h3, h4⟩ := h t (by simp)
    have ih := lcL_pure (ts := ts) p f fun u hu => h u (by simp [hu])
    unfold lcL
    rw [h1]
    simp only [h2]
    cases hp : p t with
    | false => simp only [h4, ih, List.filter_cons, hp]; rfl
    | true => simp only [h3 hp, h4, ih, List.filter_cons, hp]; rfl
/-- .. without a test -/
theorem lcL_map {vs : List Nat} {g : Tg} {te : M PV} {env : Sl} (f : PV → PV) {ts : List PV} (h : ∀ t ∈ ts, ∃ e1, g t (wipeE env vs) = some e1 ∧ te e1 = .ok (f t) e1 ∧ unw env vs e1 = env) :
    lcL vs g tYesM te ts env = .ok (ts.map f) env := by
  have := lcL_pure (vs := vs) (g := g) (tt := tYesM) (te := te) (env := env) (fun _ => true) f (ts := ts) fun t ht => by
    obtain ⟨e1, h1, h2, h3⟩ := h t ht
    exact ⟨e1, h1, rfl, fun _ => h2, h3⟩
  rw [this]
  congr 2
  rw [List.filter_eq_self.mpr (fun _ _ => rfl)]
/-- a comprehension whose parts change the slots: J says what is still to come, what there is, the slots -/
theorem lcL_inv {vs : List Nat} {g : Tg} {tt : M Bool} {te : M PV} (J : List PV → List PV → Sl → Prop)
    (h : ∀ t ts acc env, J (t :: ts) acc env → ∃ e1, g t (wipeE env vs) = some e1 ∧ ∃ e2, (tt e1 = .ok false e2 ∧ J ts acc (unw env vs e2)) ∨ (tt e1 = .ok true e2 ∧ ∃ y e3, te e2 = .ok y e3 ∧ J ts (acc ++ [y]) (unw env vs e3))) :
    ∀ {ts acc : List PV} {env : Sl}, J ts acc env → ∃ ys e', lcL vs g tt te ts env = .ok ys e' ∧ J [] (acc ++ ys) e'
  | [], acc, env, j => ⟨[], env, rfl, by rw [List.append_nil]; exact j⟩
  | t :: ts, acc, env, j => by
    obtain ⟨e1, h1, e2, h2⟩ := h t ts acc env j
    rcases h2 with ⟨h2, j2⟩ | ⟨h2, y, e3, h3, j3⟩
    · obtain ⟨ys, e', h4, j4⟩ := lcL_inv J h j2
      exact ⟨ys, e', by unfold lcL; rw [h1]; simp only [h2, h4], j4⟩
    · obtain ⟨ys, e', h4, j4⟩ := lcL_inv J h j3
      refine ⟨y :: ys, e', by unfold lcL; rw [h1]; simp only [h2, h3, h4], ?_⟩
      rw [List.append_assoc, List.singleton_append] at j4
      exact j4
abbrev tupI (l : List Int) : PV := .tup (l.map .int)
abbrev lstI (l : List Int) : PV := .lst (l.map .int)
end L2.EV

set_option Elab.async false
set_option linter.all false
set_option maxRecDepth 100000
namespace L2.EV
open PySem PySem.Spec PyProof.Rows

/-! ### comprehensions of two clauses -/
def lcL2 (vs : List Nat) (g : Tg) (tt : M Bool) (vs1 : List Nat) (mi1 : M (List PV)) (g1 : Tg) (tt1 : M Bool) (te : M PV) : List PV → M (List PV)
  | [], env => .ok [] env
  | t :: ts, env => match g t (wipeE env vs) with
    | none => .stuck
    | some e1 => match tt e1 with
      | .ok false e2 => lcL2 vs g tt vs1 mi1 g1 tt1 te ts (unw env vs e2)
      | .ok true e2 => match mi1 e2 with
        | .ok ts1 e3 => match lcL vs1 g1 tt1 te ts1 e3 with
          | .ok ys e4 => match lcL2 vs g tt vs1 mi1 g1 tt1 te ts (unw env vs e4) with
            | .ok zs e5 => .ok (ys ++ zs) e5
            | _ => .stuck
          | _ => .stuck
        | _ => .stuck
      | _ => .stuck
def lcM2 (vs : List Nat) (g : Tg) (tt : M Bool) (vs1 : List Nat) (mi1 : M (List PV)) (g1 : Tg) (tt1 : M Bool) (te : M PV) (mi : M (List PV)) : M PV := mbind mi fun ts => mbind (lcL2 vs g tt vs1 mi1 g1 tt1 te ts) fun ys => if ys.length ≤ sizeLine then mret (.lst ys) else mstuck
section
variable {C : Cp}
theorem Ext.toBlk {σ : St} {F F' : Addr → Prop} {H H' : Hp} (x : Ext C σ F H F' H') : Ext C.blk σ F H F' H' := ⟨x.fm, x.kp, x.dom, x.nof⟩
variable {g : Tg} {is : List Nat} {tt : M Bool} {te : M PV}
/-- the turns of one clause, the list D partly filled -/
theorem lc_turns {σ : St} {Fb F1 : Addr → Prop} {Hb H1 : Hp} {vs : List Nat} {env1 e4 : Sl} {ts acc0 ys : List PV} {vs0 : List V} {D : Addr} {J : It} {Nx : Hp → Prop} (hv : ∀ i ∈ vs, i ∉ C.O) (his : ∀ i ∈ is, i ∈ vs)
    (n1 : Now C env1 σ F1 H1) (xb : Ext C σ Fb Hb F1 H1) (hDb : Hb D = none) (hD1 : H1 D = some (.lst vs0)) (rl0 : RepL C.K C.mg F1 H1 acc0 vs0) (nf0 : ¬ F1 D) (hOw : ¬ Ow C σ D) (hB : C.B.H D = none)
    (y : Yields C ts J F1 H1) (el0 : lcL vs g tt te ts env1 = .ok ys e4) (hz0 : (acc0 ++ ys).length ≤ sizeLine)
    (fin0 : ∀ F' H' vs', Now C e4 σ F' H' → Ext C σ Fb Hb F' H' → Keep F1 H1 F' H' → H' D = some (.lst vs') → RepL C.K C.mg F' H' (acc0 ++ ys) vs' → ¬ F' D → Nx H') :
    ∃ W : Nat → Nat → Hp → Prop, (∃ m, W 0 m H1) ∧ ∀ i m H, W i m H →
      (J.stop i H ∧ Nx H) ∨ (J.go i H ∧ ∃ Nx1 : Hp → Prop, (∀ H', Nx1 H' → ∃ m', m' < m ∧ W (i + 1) m' H') ∧ ∀ x H', J.yld i H x H' → rg C.blk is g x (L2.wipe σ vs) H' fun σ2 H2 => L2.wipe σ2 vs = L2.wipe σ vs ∧ rt C.blk tt σ2 H2 fun b H3 =>
        if b = true then rd C.blk te σ2 H3 fun y H4 => ∃ acc, H4 D = some (.lst acc) ∧ acc.length < sizeLine ∧ Nx1 (upd H4 D (.lst (acc ++ [y]))) else Nx1 H3) := by
  refine ⟨fun i m Hc => m = ts.length - i ∧ i ≤ ts.length ∧ ∃ env F acc vs2, Now C env σ F Hc ∧ Ext C σ Fb Hb F Hc ∧ Keep F1 H1 F Hc ∧ Hc D = some (.lst vs2) ∧ RepL C.K C.mg F Hc acc vs2 ∧ ¬ F D ∧
      (∃ ys e4, lcL vs g tt te (ts.drop i) env = .ok ys e4 ∧ (acc ++ ys).length ≤ sizeLine ∧ ∀ F' H' vs', Now C e4 σ F' H' → Ext C σ Fb Hb F' H' → Keep F1 H1 F' H' → H' D = some (.lst vs') → RepL C.K C.mg F' H' (acc ++ ys) vs' → ¬ F' D → Nx H'),
    ⟨_, rfl, Nat.zero_le _, env1, F1, acc0, vs0, n1, xb, Keep.refl, hD1, rl0, nf0, ys, e4, by rw [List.drop_zero]; exact el0, hz0, fin0⟩, ?_⟩
  rintro i m Hc ⟨rfl, hi, env2, F2, acc, vs2, n2, x2, kk2, hDc, rl, nf, ys, e4, el, hz, fin⟩
  obtain ⟨y1, y2⟩ := y i F2 Hc kk2
  by_cases hlt : i < ts.length
  · have et : ts[i]? = some ts[i] := List.getElem?_eq_getElem hlt
    obtain ⟨go, yl⟩ := y1 _ et
    rw [List.drop_eq_getElem_cons hlt] at el
    unfold lcL at el
    cases eg : g ts[i] (wipeE env2 vs) with
    | none => rw [eg] at el; cases el
    | some e1 =>
      rw [eg] at el
      dsimp only at el
      refine .inr ⟨go, fun H' => i + 1 ≤ ts.length ∧ ∃ env F acc vs2, Now C env σ F H' ∧ Ext C σ Fb Hb F H' ∧ Keep F1 H1 F H' ∧ H' D = some (.lst vs2) ∧ RepL C.K C.mg F H' acc vs2 ∧ ¬ F D ∧
        (∃ ys e4, lcL vs g tt te (ts.drop (i + 1)) env = .ok ys e4 ∧ (acc ++ ys).length ≤ sizeLine ∧ ∀ F' H' vs', Now C e4 σ F' H' → Ext C σ Fb Hb F' H' → Keep F1 H1 F' H' → H' D = some (.lst vs') → RepL C.K C.mg F' H' (acc ++ ys) vs' → ¬ F' D → Nx H'),
        fun H' z => ⟨_, by omega, rfl, z⟩, fun x H3 hx => ?_⟩
      have run : ∀ (H3 : Hp), Now C env2 σ F2 H3 → Ext C σ F2 Hc F2 H3 → H3 D = some (.lst vs2) → RepL C.K C.mg F2 H3 acc vs2 → Rep C.K C.mg F2 H3 ts[i] x →
          rg C.blk is g x (L2.wipe σ vs) H3 fun σ2 H2 => L2.wipe σ2 vs = L2.wipe σ vs ∧ rt C.blk tt σ2 H2 fun b H4 =>
            if b = true then rd C.blk te σ2 H4 fun y H5 => ∃ acc, H5 D = some (.lst acc) ∧ acc.length < sizeLine ∧ (i + 1 ≤ ts.length ∧ ∃ env F acc_1 vs2, Now C env σ F (upd H5 D (.lst (acc ++ [y]))) ∧ Ext C σ Fb Hb F (upd H5 D (.lst (acc ++ [y]))) ∧ Keep F1 H1 F (upd H5 D (.lst (acc ++ [y]))) ∧ (upd H5 D (.lst (acc ++ [y]))) D = some (.lst vs2) ∧ RepL C.K C.mg F (upd H5 D (.lst (acc ++ [y]))) acc_1 vs2 ∧ ¬ F D ∧
              (∃ ys e4, lcL vs g tt te (ts.drop (i + 1)) env = .ok ys e4 ∧ (acc_1 ++ ys).length ≤ sizeLine ∧ ∀ F' H' vs', Now C e4 σ F' H' → Ext C σ Fb Hb F' H' → Keep F1 H1 F' H' → H' D = some (.lst vs') → RepL C.K C.mg F' H' (acc_1 ++ ys) vs' → ¬ F' D → Nx H'))
            else (i + 1 ≤ ts.length ∧ ∃ env F acc vs2, Now C env σ F H4 ∧ Ext C σ Fb Hb F H4 ∧ Keep F1 H1 F H4 ∧ H4 D = some (.lst vs2) ∧ RepL C.K C.mg F H4 acc vs2 ∧ ¬ F D ∧
              (∃ ys e4, lcL vs g tt te (ts.drop (i + 1)) env = .ok ys e4 ∧ (acc ++ ys).length ≤ sizeLine ∧ ∀ F' H' vs', Now C e4 σ F' H' → Ext C σ Fb Hb F' H' → Keep F1 H1 F' H' → H' D = some (.lst vs') → RepL C.K C.mg F' H' (acc ++ ys) vs' → ¬ F' D → Nx H')) := by
        intro H3 n3 x3 hD3 rl3 r3
        have k3 := kk2.trans (n2.keep x3)
        refine ⟨wipeE env2 vs, F2, _, (n3.wipe hv).toBlk, r3, ?_⟩
        rw [eg]
        intro σ2 n4 o4
        have hw := wipe_out o4 his
        have noD : ¬ Ow C σ2 D := fun z => hOw ((Ow.wipe hv hw).mp z)
        refine ⟨hw, e1, F2, n4, ?_⟩
        cases e5 : tt e1 with
        | exc c => rw [e5] at el; cases el
        | stuck => rw [e5] at el; cases el
        | ok b e6 =>
          rw [e5] at el
          intro F5 H5 n5 x5
          have k5 := n4.keep x5
          have hD5 : H5 D = some (.lst vs2) := x5.kp D _ hD3 noD
          have nf5 : ¬ F5 D := fun f => nf (x5.nof D (by rw [hD3]; simp) f)
          have x35 := x2.trans (x3.trans (ow_congr hv hw x5.ofBlk))
          cases b with
          | false =>
            dsimp only
            rw [if_neg Bool.false_ne_true]
            exact ⟨hlt, unw env2 vs e6, F5, acc, vs2, n3.unwipe n5.ofBlk k5 hv hw, x35, k3.trans k5, hD5, rl3.mono k5, nf5, ys, e4, el, hz, fin⟩
          | true =>
            dsimp only
            rw [if_pos rfl]
            dsimp only at el
            refine ⟨e6, F5, n5, ?_⟩
            cases e7 : te e6 with
            | exc c => rw [e7] at el; cases el
            | stuck => rw [e7] at el; cases el
            | ok yv e8 =>
              rw [e7] at el
              dsimp only at el
              cases e9 : lcL vs g tt te (ts.drop (i + 1)) (unw env2 vs e8) with
              | exc c => rw [e9] at el; cases el
              | stuck => rw [e9] at el; cases el
              | ok ys2 e10 =>
                rw [e9] at el
                dsimp only at el
                cases el
                intro F6 H6 n6 x6 v rv
                have k6 := n5.keep x6
                have hD6 : H6 D = some (.lst vs2) := x6.kp D _ hD5 noD
                have nf6 : ¬ F6 D := fun f => nf5 (x6.nof D (by rw [hD5]; simp) f)
                have n7 := n3.unwipe n6.ofBlk (k5.trans k6) hv hw
                have x7 := x35.trans (ow_congr hv hw x6.ofBlk)
                obtain ⟨n8, k8⟩ := n7.over (o := .lst (vs2 ++ [v])) nf6 hOw hB (by rw [hD6]; trivial)
                have rl6 := (rl3.mono k5).mono k6
                have hz' : acc.length + (ys2.length + 1) ≤ sizeLine := by simpa using hz
                refine ⟨vs2, hD6, by rw [← rl6.length]; omega, hlt, unw env2 vs e8, F6, acc ++ [yv], vs2 ++ [v], n8, ⟨x7.fm, fun a o ho no => ?_, fun a ho => ?_, x7.nof⟩, ((k3.trans k5).trans k6).trans k8, upd_same, (rl6.append (.cons rv .nil)).mono k8, nf6, ys2, _, e9, by simpa using hz, fun F' H' vs' n' x' k' hd' ow nf' => ?_⟩
                · rw [upd_ne (fun z => by rw [z, hDb] at ho; cases ho)]
                  exact x7.kp a o ho no
                · by_cases z : a = D
                  · rw [z, upd_same]; simp
                  · rw [upd_ne z]; exact x7.dom a ho
                · refine fin F' H' vs' n' x' k' hd' ?_ nf'
                  rw [List.append_assoc, List.singleton_append] at ow
                  exact ow
      rcases yl x H3 hx with ⟨rfl, r3⟩ | ⟨p, o, hp, rfl, r3⟩
      · exact run _ n2 Ext.refl hDc rl r3
      · obtain ⟨x3, n3⟩ := n2.laid (o := o) hp
        exact run _ n3 x3 (by rw [upd_ne (ne_of_none hDc hp)]; exact hDc) (rl.mono (n2.keep x3)) r3
  · have hz' : i = ts.length := by omega
    subst hz'
    rw [List.drop_length] at el
    cases el
    exact .inl ⟨y2 rfl, fin F2 Hc vs2 n2 x2 kk2 hDc (by rw [List.append_nil]; exact rl) nf⟩
variable {X : Cx} {k : Nat} {g1 : Tg} {is1 : List Nat} {tt1 : M Bool} {mi mi1 : M (List PV)}
theorem lcL2_exc {vs vs1 : List Nat} {c : Str} : ∀ {ts : List PV} {env : Sl}, lcL2 vs g tt vs1 mi1 g1 tt1 te ts env ≠ .exc c
  | [], _ => fun h => nomatch h
  | t :: ts, env => fun h => by
    unfold lcL2 at h
    split at h
    · cases h
    · split at h
      · exact lcL2_exc h
      · split at h
        · split at h
          · split at h <;> cases h
          · cases h
        · cases h
      · cases h
theorem lc2_rd {σ : St} {H : Hp} {Q : VK} {vs vs1 : List Nat} (hv : ∀ i ∈ vs, i ∉ C.O) (his : ∀ i ∈ is, i ∈ vs) (hv1 : ∀ i ∈ vs1, i ∉ C.O) (his1 : ∀ i ∈ is1, i ∈ vs1) (h : rdF C (lcM2 vs g tt vs1 mi1 g1 tt1 te mi) σ H Q) :
    tLc2 (ri C mi) (rg C.blk is g) (rt C.blk tt) (ri C.blk mi1) (rg C.blk is1 g1) (rt C.blk tt1) (rd C.blk te) vs vs1 σ H Q := by
  obtain ⟨env, F, n, q⟩ := h
  refine ⟨env, F, n, q.seq.imp fun ts env1 F1 H1 _ _ x1 ⟨env1', n1, q1⟩ J y D hD => ?_⟩
  have hD0 : H D = none := by
    cases z : H D with
    | none => rfl
    | some o => exact absurd hD (x1.dom D (by rw [z]; simp))
  obtain ⟨xD, nD⟩ := n1.laid (o := .lst []) hD
  obtain ⟨hB, hOw⟩ := fresh_no n1 hD
  refine ⟨fun i m Hc => m = ts.length - i ∧ i ≤ ts.length ∧ ∃ env F acc vs2, Now C env σ F Hc ∧ Ext C σ F1 H1 F Hc ∧ Hc D = some (.lst vs2) ∧ RepL C.K C.mg F Hc acc vs2 ∧ ¬ F D ∧
      (∃ ys e4, lcL2 vs g tt vs1 mi1 g1 tt1 te (ts.drop i) env = .ok ys e4 ∧ (acc ++ ys).length ≤ sizeLine ∧ ∀ F' H', Now C e4 σ F' H' → Ext C σ F1 H1 F' H' → OwnR C.K C.mg F' H' D (.lst (acc ++ ys)) → ¬ F' D → Q (.ref D) H'),
    ⟨_, rfl, Nat.zero_le _, env1', F1, [], [], nD, xD, upd_same, .nil, fun f => n1.bok.fd D f hD, ?_⟩, ?_⟩
  · rw [List.drop_zero]
    unfold mbind at q1
    cases e : lcL2 vs g tt vs1 mi1 g1 tt1 te ts env1' with
    | exc c => exact absurd e lcL2_exc
    | stuck => rw [e] at q1; exact q1.elim
    | ok ys e4 =>
      rw [e] at q1
      dsimp only at q1
      split at q1
      · rename_i hz
        exact ⟨ys, e4, rfl, hz, fun F' H' n' x' ow nf => q1 F' H' n' x' D ow nf hD0⟩
      · exact q1.elim
  · rintro i m Hc ⟨rfl, hi, env2, F2, acc, vs2, n2, x2, hDc, rl, nf, ys, e4, el, hz, fin⟩
    obtain ⟨y1, y2⟩ := y i F2 Hc (n1.keep x2)
    by_cases hlt : i < ts.length
    · have et : ts[i]? = some ts[i] := List.getElem?_eq_getElem hlt
      obtain ⟨go, yl⟩ := y1 _ et
      rw [List.drop_eq_getElem_cons hlt] at el
      unfold lcL2 at el
      cases eg : g ts[i] (wipeE env2 vs) with
      | none => rw [eg] at el; cases el
      | some e1 =>
        rw [eg] at el
        dsimp only at el
        refine .inr ⟨go, fun H' => i + 1 ≤ ts.length ∧ ∃ env F acc vs2, Now C env σ F H' ∧ Ext C σ F1 H1 F H' ∧ H' D = some (.lst vs2) ∧ RepL C.K C.mg F H' acc vs2 ∧ ¬ F D ∧
          (∃ ys e4, lcL2 vs g tt vs1 mi1 g1 tt1 te (ts.drop (i + 1)) env = .ok ys e4 ∧ (acc ++ ys).length ≤ sizeLine ∧ ∀ F' H', Now C e4 σ F' H' → Ext C σ F1 H1 F' H' → OwnR C.K C.mg F' H' D (.lst (acc ++ ys)) → ¬ F' D → Q (.ref D) H'),
          fun H' z => ⟨_, by omega, rfl, z⟩, fun x H3 hx => ?_⟩
        have run : ∀ (H3 : Hp), Now C env2 σ F2 H3 → Ext C σ F2 Hc F2 H3 → H3 D = some (.lst vs2) → RepL C.K C.mg F2 H3 acc vs2 → Rep C.K C.mg F2 H3 ts[i] x →
            rg C.blk is g x (L2.wipe σ vs) H3 fun σ2 H2 => L2.wipe σ2 vs = L2.wipe σ vs ∧ rt C.blk tt σ2 H2 fun b H4 =>
              if b = true then ri C.blk mi1 σ2 H4 fun J1 H5 => ∃ W1 : Nat → Nat → Hp → Prop, (∃ m, W1 0 m H5) ∧ ∀ j k H, W1 j k H →
                (J1.stop j H ∧ (i + 1 ≤ ts.length ∧ ∃ env F acc vs2, Now C env σ F H ∧ Ext C σ F1 H1 F H ∧ H D = some (.lst vs2) ∧ RepL C.K C.mg F H acc vs2 ∧ ¬ F D ∧
                  (∃ ys e4, lcL2 vs g tt vs1 mi1 g1 tt1 te (ts.drop (i + 1)) env = .ok ys e4 ∧ (acc ++ ys).length ≤ sizeLine ∧ ∀ F' H', Now C e4 σ F' H' → Ext C σ F1 H1 F' H' → OwnR C.K C.mg F' H' D (.lst (acc ++ ys)) → ¬ F' D → Q (.ref D) H'))) ∨
                (J1.go j H ∧ ∃ Nx1 : Hp → Prop, (∀ H', Nx1 H' → ∃ k', k' < k ∧ W1 (j + 1) k' H') ∧ ∀ x H', J1.yld j H x H' → rg C.blk is1 g1 x (L2.wipe σ2 vs1) H' fun σ3 H5 => L2.wipe σ3 vs1 = L2.wipe σ2 vs1 ∧ rt C.blk tt1 σ3 H5 fun b H6 =>
                  if b = true then rd C.blk te σ3 H6 fun y H7 => ∃ acc, H7 D = some (.lst acc) ∧ acc.length < sizeLine ∧ Nx1 (upd H7 D (.lst (acc ++ [y]))) else Nx1 H6)
              else (i + 1 ≤ ts.length ∧ ∃ env F acc vs2, Now C env σ F H4 ∧ Ext C σ F1 H1 F H4 ∧ H4 D = some (.lst vs2) ∧ RepL C.K C.mg F H4 acc vs2 ∧ ¬ F D ∧
                (∃ ys e4, lcL2 vs g tt vs1 mi1 g1 tt1 te (ts.drop (i + 1)) env = .ok ys e4 ∧ (acc ++ ys).length ≤ sizeLine ∧ ∀ F' H', Now C e4 σ F' H' → Ext C σ F1 H1 F' H' → OwnR C.K C.mg F' H' D (.lst (acc ++ ys)) → ¬ F' D → Q (.ref D) H')) := by
          intro H3 n3 x3 hD3 rl3 r3
          refine ⟨wipeE env2 vs, F2, _, (n3.wipe hv).toBlk, r3, ?_⟩
          rw [eg]
          intro σ2 n4 o4
          have hw := wipe_out o4 his
          have noD : ¬ Ow C σ2 D := fun z => hOw ((Ow.wipe hv hw).mp z)
          refine ⟨hw, e1, F2, n4, ?_⟩
          cases e5 : tt e1 with
          | exc c => rw [e5] at el; cases el
          | stuck => rw [e5] at el; cases el
          | ok b e6 =>
            rw [e5] at el
            intro F5 H5 n5 x5
            have k5 := n4.keep x5
            have hD5 : H5 D = some (.lst vs2) := x5.kp D _ hD3 noD
            have nf5 : ¬ F5 D := fun f => nf (x5.nof D (by rw [hD3]; simp) f)
            have x35 := x2.trans (x3.trans (ow_congr hv hw x5.ofBlk))
            cases b with
            | false =>
              dsimp only
              rw [if_neg Bool.false_ne_true]
              exact ⟨hlt, unw env2 vs e6, F5, acc, vs2, n3.unwipe n5.ofBlk k5 hv hw, x35, hD5, rl3.mono k5, nf5, ys, e4, el, hz, fin⟩
            | true =>
              dsimp only
              rw [if_pos rfl]
              dsimp only at el
              refine ⟨e6, F5, n5, ?_⟩
              cases e7 : mi1 e6 with
              | exc c => rw [e7] at el; cases el
              | stuck => rw [e7] at el; cases el
              | ok ts1 e8 =>
                rw [e7] at el
                dsimp only at el
                cases e9 : lcL vs1 g1 tt1 te ts1 e8 with
                | exc c => rw [e9] at el; cases el
                | stuck => rw [e9] at el; cases el
                | ok ys1 e10 =>
                  rw [e9] at el
                  dsimp only at el
                  cases e11 : lcL2 vs g tt vs1 mi1 g1 tt1 te (ts.drop (i + 1)) (unw env2 vs e10) with
                  | exc c => rw [e11] at el; cases el
                  | stuck => rw [e11] at el; cases el
                  | ok ys2 e12 =>
                    rw [e11] at el
                    dsimp only at el
                    cases el
                    intro F6 H6 n6 x6 J1 yy
                    have k6 := n5.keep x6
                    have hD6 : H6 D = some (.lst vs2) := x6.kp D _ hD5 noD
                    have nf6 : ¬ F6 D := fun f => nf5 (x6.nof D (by rw [hD5]; simp) f)
                    have x36 := x35.trans (ow_congr hv hw x6.ofBlk)
                    have rl6 := (rl3.mono k5).mono k6
                    have hz' : acc.length + (ys1.length + ys2.length) ≤ sizeLine := by simpa using hz
                    refine lc_turns (C := C.blk) (Fb := F1) (Hb := H1) (vs := vs1) hv1 his1 n6 (ow_congr hv hw.symm x36).toBlk hD hD6 rl6 nf6 noD hB yy e9 (by rw [List.length_append]; omega) fun F' H' vs' n' x' k' hd' rl' nf' => ?_
                    refine ⟨hlt, unw env2 vs e10, F', acc ++ ys1, vs', n3.unwipe n'.ofBlk ((k5.trans k6).trans k') hv hw, ow_congr hv hw x'.ofBlk, hd', rl', nf', ys2, _, e11, by rw [List.append_assoc]; exact hz, fun F'' H'' n'' x'' ow'' nf'' => ?_⟩
                    refine fin F'' H'' n'' x'' ?_ nf''
                    rw [List.append_assoc] at ow''
                    exact ow''
        rcases yl x H3 hx with ⟨rfl, r3⟩ | ⟨p, o, hp, rfl, r3⟩
        · exact run _ n2 Ext.refl hDc rl r3
        · obtain ⟨x3, n3⟩ := n2.laid (o := o) hp
          exact run _ n3 x3 (by rw [upd_ne (ne_of_none hDc hp)]; exact hDc) (rl.mono (n2.keep x3)) r3
    · have hz' : i = ts.length := by omega
      subst hz'
      rw [List.drop_length] at el
      cases el
      rw [List.append_nil] at fin
      exact .inl ⟨y2 rfl, fin F2 Hc n2 x2 ⟨vs2, hDc, rl⟩ nf⟩
theorem rf_lc2 {vs vs1 : List Nat} (hv : ∀ i ∈ vs, i ∉ C.O) (his : ∀ i ∈ is, i ∈ vs) (hv1 : ∀ i ∈ vs1, i ∉ C.O) (his1 : ∀ i ∈ is1, i ∈ vs1) {e : Expr} (h : PE X e (tLc2 (ri C mi) (rg C.blk is g) (rt C.blk tt) (ri C.blk mi1) (rg C.blk is1 g1) (rt C.blk tt1) (rd C.blk te) vs vs1)) : RF X C e (lcM2 vs g tt vs1 mi1 g1 tt1 te mi) := h.imp fun _ _ _ h => lc2_rd hv his hv1 his1 h
theorem rs_setLc2 {vs vs1 : List Nat} {i : Nat} {st : Stmt} (hi : i ∉ C.O) (hv : ∀ i ∈ vs, i ∉ C.O) (his : ∀ i ∈ is, i ∈ vs) (hv1 : ∀ i ∈ vs1, i ∉ C.O) (his1 : ∀ i ∈ is1, i ∈ vs1) (h : PS X st (tAsg (tLc2 (ri C mi) (rg C.blk is g) (rt C.blk tt) (ri C.blk mi1) (rg C.blk is1 g1) (rt C.blk tt1) (rd C.blk te) vs vs1) (gName i))) : RS X C st (sbind (lcM2 vs g tt vs1 mi1 g1 tt1 te mi) (sput i)) :=
  h.imp fun D σ H ⟨env, F, n, q⟩ => lc2_rd hv his hv1 his1 (rd_rdF ⟨env, F, n, (EndS.seq n q).imp fun t env1 F1 H1 _ _ _ ⟨env1', n1, q1⟩ v rv => q1 _ F1 H1 (n1.put hi rv) Keep.refl⟩)
theorem rs_setLc2O {vs vs1 : List Nat} {i : Nat} {st : Stmt} (hi : i ∈ C.O) (hl : i ∉ C.B.L.map (·.1)) (hv : ∀ i ∈ vs, i ∉ C.O) (his : ∀ i ∈ is, i ∈ vs) (hv1 : ∀ i ∈ vs1, i ∉ C.O) (his1 : ∀ i ∈ is1, i ∈ vs1) (h : PS X st (tAsg (tLc2 (ri C mi) (rg C.blk is g) (rt C.blk tt) (ri C.blk mi1) (rg C.blk is1 g1) (rt C.blk tt1) (rd C.blk te) vs vs1) (gName i))) : RS X C st (sbind (lcM2 vs g tt vs1 mi1 g1 tt1 te mi) (sput i)) :=
  h.imp fun D σ H ⟨env, F, n, q⟩ => lc2_rd hv his hv1 his1 ⟨env, F, n, (EndS.seq n q).imp fun t env1 F1 H1 _ _ _ ⟨env1', n1, q1⟩ a ow nf ha => by
    obtain ⟨h0, no⟩ := fresh_no n ha
    exact q1 _ F1 H1 (n1.putO hi hl ow nf h0 no) Keep.refl⟩
end
end L2.EV

set_option Elab.async false
set_option linter.all false
set_option maxRecDepth 100000
namespace L2.EV
open PySem PySem.Spec PyProof.Rows
section
variable {X : Cx} {C : Cp} {i j l : Nat} {a b c : Expr} {ma mb mc : M PV} {pos : Pos}
theorem Fits.ext {σ σ' : St} {H0 : Hp} {env : Sl} {F F' : Addr → Prop} {H H' : Hp} {t : PV} {v : V} (h : Fits C σ H0 i F H t v) (n : Now C env σ' F H) (x : Ext C σ' F H F' H') (fr : ∀ a, H0 a = none → ¬ Ow C σ' a) : Fits C σ H0 i F' H' t v := by
  rcases h with ⟨hi, r⟩ | ⟨hi, hl, a, rfl, ow, nf, ha⟩
  · exact .inl ⟨hi, r.mono (n.keep x)⟩
  · refine .inr ⟨hi, hl, a, rfl, ow.mono (n.keep x) ?_, fun f => nf (x.nof a ow.there f), ha⟩
    cases ho : H a with
    | none => exact absurd ho ow.there
    | some o => exact x.kp a o ho (fr a ha)
theorem Fits.free {σ σ' : St} {H0 : Hp} {F : Addr → Prop} {H : Hp} {t : PV} {v : V} {p : Addr} (h : Fits C σ H0 i F H t v) (hp : H p = none) (no : ¬ Ow C σ' p) : ¬ Ow C (σ'.set i (some v)) p := by
  rintro ⟨q, hq, eq⟩
  by_cases z : i = q
  · subst z
    have hlt : i < σ'.length := by
      have := (List.getElem?_eq_some_iff.mp eq).1
      simpa using this
    rw [List.getElem?_set_self hlt] at eq
    rcases h with ⟨hi, _⟩ | ⟨_, _, a, rfl, ow, _, _⟩
    · exact hi hq
    · cases eq
      exact ow.there hp
  · rw [List.getElem?_set_ne z] at eq
    exact no ⟨q, hq, eq⟩
theorem rs_par3f {tg val : Expr} (ha : PE X a (rdS C i ma)) (hb : PE X b (rdS C j mb)) (hc : PE X c (rdS C l mc)) (h : ∀ {ta : TA}, PA X [a, b, c] ta → PS X (.Assign [tg] val pos) (tPar3 i j l ta))
    (hs : starEach [a, b, c] X.env = (false, eval a X.env) :: starEach [b, c] X.env := by rfl) (hs2 : starEach [b, c] X.env = (false, eval b X.env) :: starEach [c] X.env := by rfl) (hs3 : starEach [c] X.env = (false, eval c X.env) :: starEach [] X.env := by rfl) : RS X C (.Assign [tg] val pos) (spar3 i j l ma mb mc) :=
  (h (pa_cons ha (pa_cons hb (pa_cons hc pa_nil hs3) hs2) hs)).imp fun D σ H ⟨env, F, n, q⟩ => ⟨env, F, n, (EndS.seq n q).imp fun t env1 F1 H1 _ _ x1 ⟨env1', n1, q1⟩ v rv =>
    ⟨env1', F1, n1, (EndS.seq n1 q1).imp fun u env2 F2 H2 _ _ x2 ⟨env2', n2, q2⟩ w rw' => ⟨env2', F2, n2, (EndS.seq n2 q2).imp fun x env3 F3 H3 _ _ x3 ⟨env3', n3, q3⟩ y ry => by
      refine ⟨v, w, y, rfl, ?_⟩
      have fr : ∀ {H0 : Hp} {env1 : Sl} {F1 : Addr → Prop}, Now C env1 σ F1 H0 → ∀ a, H0 a = none → C.B.H a = none ∧ ¬ Ow C σ a := fun n a ha => fresh_no n ha
      have rv2 := rv.ext n1 x2 fun a z => (fr n a z).2
      have rv3 := rv2.ext n2 x3 fun a z => (fr n a z).2
      have rw3 := rw'.ext n2 x3 fun a z => (fr n1 a z).2
      have m1 := rv3.put n3 (fr n)
      have m2 := Fits.put (σ := σ.set i (some v)) (H0 := H1) m1 rw3 fun p hp => ⟨(fr n1 p hp).1, rv.free hp (fr n1 p hp).2⟩
      have m3 := Fits.put (σ := (σ.set i (some v)).set j (some w)) (H0 := H2) m2 ry fun p hp => ⟨(fr n2 p hp).1, rw'.free hp (rv2.free hp (fr n2 p hp).2)⟩
      exact q3 _ F3 H3 m3 Keep.refl⟩⟩⟩
end
end L2.EV

set_option Elab.async false
set_option linter.all false
set_option maxRecDepth 100000
namespace L2.EV
open PySem PySem.Spec PyProof.Rows
/-! Slots whose object is shared from a statement on; own objects read by a def; a call of a local name. -/
section
variable {C : Cp}
/-! ### from now on a slot's object is shared -/
def Cp.wO (C : Cp) (O : List Nat) : Cp := { C with O := O }
/-- the ends of the rest of a def: which slots bear objects of their own may have changed -/
def EndF (C : Cp) (D : Ends) (F : Addr → Prop) (H : Hp) (o : Fl) : Prop := match o with
  | .nx e => ∀ O' σ' F' H', (∀ p ∈ C.B.L, p.1 ∈ O') → Now (C.wO O') e σ' F' H' → Keep F H F' H' → D.nx σ' H'
  | .bk e => ∀ O' σ' F' H', (∀ p ∈ C.B.L, p.1 ∈ O') → Now (C.wO O') e σ' F' H' → Keep F H F' H' → D.bk σ' H'
  | .ct e => ∀ O' σ' F' H', (∀ p ∈ C.B.L, p.1 ∈ O') → Now (C.wO O') e σ' F' H' → Keep F H F' H' → D.ct σ' H'
  | .rt t e => ∀ O' v σ' F' H', (∀ p ∈ C.B.L, p.1 ∈ O') → Now (C.wO O') e σ' F' H' → Keep F H F' H' → Back C F' H' t v → D.rt v H'
  | .exc c => ∀ cls σ' F' H', C.mg c = some cls → Bok C.B F' H' → C.W cls none σ' H'
  | .stuck => False
def rsF (C : Cp) (f : S) : TS := fun D σ H => ∃ env F, Now C env σ F H ∧ EndF C D F H (f env)
abbrev RSsF (X : Cx) (C : Cp) (st : List Stmt) (f : S) : Prop := PSs X st (rsF C f)
theorem EndF.s {D : Ends} {env : Sl} {σ : St} {F : Addr → Prop} {H : Hp} {o : Fl} (n : Now C env σ F H) (h : EndF C D F H o) : EndS C D F H o := by
  have l : ∀ p ∈ C.B.L, p.1 ∈ C.O := fun p hp => (n.lent p hp).1
  cases o with
  | nx e => exact fun σ' F' H' n' k => h C.O σ' F' H' l n' k
  | bk e => exact fun σ' F' H' n' k => h C.O σ' F' H' l n' k
  | ct e => exact fun σ' F' H' n' k => h C.O σ' F' H' l n' k
  | rt t e => exact fun v σ' F' H' n' k b => h C.O v σ' F' H' l n' k b
  | exc c => exact h
  | stuck => exact h
theorem EndF.keep {D : Ends} {F F1 : Addr → Prop} {H H1 : Hp} {o : Fl} (k : Keep F H F1 H1) (h : EndF C D F H o) : EndF C D F1 H1 o := by
  cases o with
  | nx e => exact fun O' σ' F' H' l n q => h O' σ' F' H' l n (k.trans q)
  | bk e => exact fun O' σ' F' H' l n q => h O' σ' F' H' l n (k.trans q)
  | ct e => exact fun O' σ' F' H' l n q => h O' σ' F' H' l n (k.trans q)
  | rt t e => exact fun O' v σ' F' H' l n q b => h O' v σ' F' H' l n (k.trans q) b
  | exc c => exact h
  | stuck => exact h
section
variable {X : Cx} {k : Nat} {st : List Stmt} {s : Stmt} {f g : S}
theorem RC.sh (rc : RC X C k) {i : Nat} : RC X (C.sh i) k := ⟨rc.hK, rc.hmg, rc.calm, rc.nd, rc.tk, rc.room⟩
theorem rssF_of (h : RSs X C st f) : RSsF X C st f := h.imp fun D σ H ⟨env, F, n, q⟩ => ⟨env, F, n, q.s n⟩
theorem rssF_cons (h1 : RS X C s f) (h2 : RSsF X C st g) : RSsF X C (s :: st) (sseq f g) := (pss_cons h1 h2).imp fun D σ H ⟨env, F, n, q⟩ => by
  refine ⟨env, F, n, ?_⟩
  unfold sseq at q
  cases e : f env with
  | nx e1 =>
    rw [e] at q
    exact fun σ' F' H' n' k => ⟨e1, F', n', EndF.keep k q⟩
  | bk e1 => rw [e] at q; exact EndF.s n q
  | ct e1 => rw [e] at q; exact EndF.s n q
  | rt t e1 => rw [e] at q; exact EndF.s n q
  | exc c => rw [e] at q; exact q
  | stuck => rw [e] at q; exact q
theorem Now.share {env : Sl} {σ : St} {F : Addr → Prop} {H : Hp} {i : Nat} (n : Now C env σ F H) (hl : i ∉ C.B.L.map (·.1)) : ∃ F', Now (C.sh i) env σ F' H ∧ Keep F H F' H := by
  have sh : ∀ {F' : Addr → Prop}, Now C env σ F' H → (∀ t, i ∈ C.O → env[i]? = some (some t) → False) → Now (C.sh i) env σ F' H := fun {F'} n h => by
    refine ⟨n.len, n.bok, fun j t hj e => ?_, fun j t hj e => n.own j t (mem_sh.mp hj).1 e, fun j v hj e => n.emp j v (mem_sh.mp hj).1 e, fun j l a hj hl => n.dis j l a (mem_sh.mp hj).1 (mem_sh.mp hl).1, fun p hp => ⟨mem_sh.mpr ⟨(n.lent p hp).1, fun z => hl (List.mem_map.mpr ⟨p, hp, z⟩)⟩, (n.lent p hp).2⟩⟩
    by_cases hO : j ∈ C.O
    · by_cases z : j = i
      · subst z; exact (h t hO e).elim
      · exact (hj (mem_sh.mpr ⟨hO, z⟩)).elim
    · exact n.shr j t hO e
  by_cases hO : i ∈ C.O
  · by_cases he : ∃ t, env[i]? = some (some t)
    · obtain ⟨t, et⟩ := he
      obtain ⟨a, e1, nf, ow, q⟩ := n.own i t hO et
      have k : Keep F H (fun b => F b ∨ b = a) H := ⟨fun _ h => .inl h, fun _ _ h _ => h⟩
      refine ⟨fun b => F b ∨ b = a, ?_, k⟩
      have h0 : C.B.H a = none := by
        rcases q with q | q
        · exact q
        · obtain ⟨p, hp, ep⟩ := List.mem_map.mp q
          obtain ⟨l1, l2⟩ := n.lent p hp
          rw [ep] at l2
          exact absurd (List.mem_map.mpr ⟨p, hp, n.dis p.1 i a l1 hO l2 e1⟩) hl
      refine ⟨n.len, ⟨fun a h => .inl (n.bok.fm a h), n.bok.kp, fun b h f => ?_, n.bok.dom, fun b f => ?_⟩, fun j u hj e => ?_, fun j u hj e => ?_, fun j v hj e => n.emp j v (mem_sh.mp hj).1 e, fun j l a hj hl => n.dis j l a (mem_sh.mp hj).1 (mem_sh.mp hl).1, fun p hp => ⟨mem_sh.mpr ⟨(n.lent p hp).1, fun z => hl (List.mem_map.mpr ⟨p, hp, z⟩)⟩, (n.lent p hp).2⟩⟩
      · rcases f with f | f
        · exact n.bok.nof b h f
        · rw [f] at h; exact absurd h0 h
      · rcases f with f | f
        · exact n.bok.fd b f
        · rw [f]; exact ow.there
      · by_cases z : j = i
        · subst z
          rw [et] at e
          cases e
          exact ⟨_, e1, (ow.mono k rfl).rep (.inr rfl)⟩
        · obtain ⟨v, e2, r⟩ := n.shr j u (fun hO' => hj (mem_sh.mpr ⟨hO', z⟩)) e
          exact ⟨v, e2, r.mono k⟩
      · obtain ⟨hj1, hj2⟩ := mem_sh.mp hj
        obtain ⟨b, e2, nf2, ow2, q2⟩ := n.own j u hj1 e
        refine ⟨b, e2, fun f => ?_, ow2.mono k rfl, q2⟩
        rcases f with f | f
        · exact nf2 f
        · rw [f] at e2; exact hj2 (n.dis j i a hj1 hO e2 e1)
    · exact ⟨F, sh n fun t _ e => he ⟨t, e⟩, Keep.refl⟩
  · exact ⟨F, sh n fun t h _ => hO h, Keep.refl⟩
theorem rssF_sh (i : Nat) (hl : i ∉ C.B.L.map (·.1)) (h : RSsF X (C.sh i) st f) : RSsF X C st f := h.imp fun D σ H ⟨env, F, n, q⟩ => by
  obtain ⟨F', n', k⟩ := n.share hl
  refine ⟨env, F', n', ?_⟩
  have q' := EndF.keep k q
  cases e : f env with
  | nx e1 => rw [e] at q'; exact q'
  | bk e1 => rw [e] at q'; exact q'
  | ct e1 => rw [e] at q'; exact q'
  | rt t e1 => rw [e] at q'; exact q'
  | exc c => rw [e] at q'; exact q'
  | stuck => rw [e] at q'; exact q'
end
end

/-! ### own objects read by a def -/
/-- a value that holds no list and no dict -/
def plainP : PV → Bool
  | .non => true
  | .bl _ => true
  | .int _ => true
  | .str _ => true
  | .ty _ => true
  | .fn _ => true
  | _ => false
theorem plain_rep {K : PySem.W.Frag} {mg : Str → Option Value} {F F' : Addr → Prop} {H H' : Hp} {t : PV} {v : V} (p : plainP t = true) (r : Rep K mg F H t v) : Rep K mg F' H' t v := by
  cases r <;> first | exact .non | exact .bl _ | exact .int _ | exact .str _ | exact .ty _ | (rename_i h; exact .fn h) | cases p
def callB (f : List PV → FO) (ms : List (Option Nat)) (margs : M (List PV)) : M PV := mbind margs fun ts env => match resolve ms ts env with
  | none => .stuck
  | some ts' => match f ts' with
    | .ok t _ => if plainP t = true then .ok t env else .stuck
    | .exc c => .exc c
    | .stuck => .stuck
section
variable {C : Cp}
/-- a is lent to be read -/
def Bw (σ : St) (ms : List (Option Nat)) (a : Addr) : Prop := ∃ i ∈ ms.filterMap id, σ[i]? = some (some (.ref a))
theorem argsB_of {env : Sl} {σ : St} {F F1 : Addr → Prop} {H : Hp} (n : Now C env σ F H) (hF : ∀ a, F a → F1 a) : ∀ {ms : List (Option Nat)} {ts ts' : List PV} {vs : List V} {m : Nat}, (∀ a, Bw σ ms a → F1 a) → ArgR C σ F H ms ts vs → resolve ms ts env = some ts' →
    ArgL C.K C.mg F1 H m (ms.map fun _ => false) ts' vs []
  | [], _, _, _, m, _, .nil, e => by
    simp only [resolve, Option.some.injEq] at e
    subst e
    exact .nil
  | none :: ms, _, _, _, m, hb, .val r q, e => by
    simp only [resolve, Option.map_eq_some_iff] at e
    obtain ⟨us, e1, rfl⟩ := e
    exact .val (r.mono ⟨hF, fun _ _ h _ => h⟩) (argsB_of (ms := ms) n hF (m := m + 1) (fun a ⟨i, hi, e⟩ => hb a ⟨i, hi, e⟩) q e1)
  | some i :: ms, _, _, _, m, hb, .lent hi e1 q, e => by
    unfold resolve at e
    split at e
    · rename_i t et
      rw [Option.map_eq_some_iff] at e
      obtain ⟨us, e2, rfl⟩ := e
      obtain ⟨a, e3, nf, ow, q0⟩ := n.own i t hi et
      rw [e1] at e3
      cases e3
      refine .val ((ow.mono (F' := F1) ⟨hF, fun _ _ h _ => h⟩ rfl).rep (hb _ ⟨i, by simp, e1⟩)) (argsB_of (ms := ms) n hF (m := m + 1) (fun a ⟨j, hj, e⟩ => hb a ⟨j, by simp at hj ⊢; exact .inr hj, e⟩) q e2)
    · cases e
theorem ArgR.inO {σ : St} {F : Addr → Prop} {H : Hp} : ∀ {ms : List (Option Nat)} {ts : List PV} {vs : List V}, ArgR C σ F H ms ts vs → ∀ i ∈ ms.filterMap id, i ∈ C.O
  | _, _, _, .nil, i, h => by simp at h
  | _, _, _, .val _ q, i, h => ArgR.inO q i (by simpa using h)
  | _, _, _, .lent hi _ q, i, h => by
    simp at h
    rcases h with rfl | h
    · exact hi
    · exact ArgR.inO q i (by simpa using h)
theorem callB_leaf {env : Sl} {σ : St} {F : Addr → Prop} {H : Hp} {sig : List Bool} {f : List PV → FO} {ms : List (Option Nat)} {ts : List PV} {vs : List V} {Q : VK} {P : PV → (Addr → Prop) → Hp → Prop} (hs : (ms.map fun _ => false) = sig)
    (n : Now C env σ F H) (ar : ArgR C σ F H ms ts vs) (q : End C σ F H (match resolve ms ts env with
      | none => .stuck
      | some ts' => match f ts' with
        | .ok t _ => if plainP t = true then .ok t env else .stuck
        | .exc c => .exc c
        | .stuck => .stuck) P)
    (fin : ∀ t v F' H', P t F' H' → Rep C.K C.mg F' H' t v → Q v H') : spEv C.K C.mg sig false f vs H Q (WE C.W σ) := by
  cases er : resolve ms ts env with
  | none => rw [er] at q; exact q.elim
  | some ts' =>
    rw [er] at q
    dsimp only at q
    have hO := ar.inO
    have hB : ∀ a, Bw σ ms a → Ow C σ a := fun a ⟨i, hi, e⟩ => ⟨i, hO i hi, e⟩
    have al := argsB_of n (F1 := fun a => F a ∨ Bw σ ms a) (m := 0) (fun _ h => .inl h) (fun _ h => .inr h) ar er
    rw [hs] at al
    refine ⟨al.len.2, fun a => F a ∨ Bw σ ms a, ts', [], fun a h => ?_, al, ?_⟩
    · rcases h with h | h
      · exact n.bok.fd a h
      · exact (n.not_shared (hB a h)).2.2
    have x : ∀ {F' : Addr → Prop} {H' : Hp}, Bok ⟨H, fun a => F a ∨ Bw σ ms a, []⟩ F' H' → Ext C σ F H (fun a => F' a ∧ ¬ Bw σ ms a) H' := fun {F' H'} b =>
      ⟨fun a h => ⟨b.fm a (.inl h), fun w => (n.not_shared (hB a w)).1 h⟩, fun a o h _ => b.kp a o h (by simp), b.dom, fun a h f => (b.nof a h f.1).elim id fun w => absurd w f.2⟩
    have fdx : ∀ {F' : Addr → Prop} {H' : Hp}, Bok ⟨H, fun a => F a ∨ Bw σ ms a, []⟩ F' H' → ∀ a, (F' a ∧ ¬ Bw σ ms a) → H' a ≠ none := fun b a f => b.fd a f.1
    cases ef : f ts' with
    | stuck => rw [ef] at q; exact q.elim
    | exc c =>
      rw [ef] at q
      exact fun cls F' H' hc b => q cls σ _ H' hc (n.bok.ext n (x b) (fdx b))
    | ok t mu =>
      rw [ef] at q
      dsimp only at q
      intro v F' H' b mr r
      by_cases hp : plainP t = true
      · rw [if_pos hp] at q
        have n' := n.still (x b) (fun a w => by
          cases ho : H a with
          | none => exact absurd ho (n.not_shared w).2.2
          | some o => exact b.kp a o ho (by simp)) (fdx b)
        refine fin t v _ H' (q _ H' n' (x b)) ?_
        unfold RetR at r
        rw [if_neg (by decide)] at r
        exact plain_rep hp r
      · rw [if_neg hp] at q
        exact q.elim
end
section
variable {X : Cx} {C : Cp} {k kf : Nat} {x : Str} {ps : List Str} {sig : List Bool} {f : List PV → FO} {ms : List (Option Nat)} {margs : M (List PV)} {e : Expr} {es : List Expr} {p pos : Pos}
theorem re_callB (rc : RC X C k) (D : Def X.prog X.w C.K C.mg kf x ps sig false f) (hk : kf ≤ k) (hg : Gl X x) (hargs : RA X C ms (e :: es) margs) (hs : (ms.map fun _ => false) = sig := by rfl)
    (hdb : (x == ("__debug__" : Str)) = false := by decide) (he : starEach (e :: es) X.env = (false, eval e X.env) :: starEach es X.env := by rfl) (hpl : (backTo pos (starEach es X.env)).any (·.1) = false := by rfl) :
    RE X C (.Call (.Name x p) (e :: es) [] pos) (callB f ms margs) := by
  obtain ⟨a, fd, hm, hkp, hb, F⟩ := D.ex
  have F' : FnOk X.prog X.w X.K X.mg X.base (L2.CX X.prog X.w) kf a fd ps (spEv C.K C.mg sig false f) := by rw [rc.hK, rc.hmg]; exact F X.base
  refine (pe_callS F' (rc.room.mono hk) hg (by rw [rc.hmg]; exact hm) (by rw [rc.hK]; exact hkp) (by rw [rc.hK]; exact hb.b) (fun σ => passAt rc.tk σ) hargs hdb he hpl).imp fun σ H Q ⟨env, F, n, q⟩ => ?_
  refine ⟨env, F, n, q.seq.imp fun ts env1 F1 H1 _ _ x1 ⟨env1', n1, q1⟩ vs ar => ?_⟩
  exact callB_leaf hs n1 ar q1 fun t v F' H' hp r => hp v r

/-! ### a local name called -/
theorem spEv_sh {K : PySem.W.Frag} {mg : Str → Option Value} {vs : List V} {H : Hp} {Q : VK} {E : XK} (h : spEv K mg sig false f vs H Q E) : spEv K mg sig true f vs H Q E := by
  obtain ⟨hl, F, ts, L, fd, al, q⟩ := h
  refine ⟨hl, F, ts, L, fd, al, ?_⟩
  cases ef : f ts with
  | stuck => rw [ef] at q; exact q
  | exc c => rw [ef] at q; exact q
  | ok t mu =>
    rw [ef] at q
    intro v F' H' b mr r
    unfold RetR at r
    rw [if_pos rfl] at r
    obtain ⟨a, rfl, ow, nf, ha⟩ := r
    have kk : Keep F' H' (fun b => F' b ∨ b = a) H' := ⟨fun _ h => .inl h, fun _ _ h _ => h⟩
    refine q (.ref a) (fun b => F' b ∨ b = a) H' ⟨fun c h => .inl (b.fm c h), b.kp, fun c h g => ?_, b.dom, fun c g => ?_⟩ ?_ ?_
    · rcases g with g | g
      · exact b.nof c h g
      · rw [g] at h; exact absurd ha h
    · rcases g with g | g
      · exact b.fd c g
      · rw [g]; exact ow.there
    · clear q ef b al
      induction mr with
      | nil => exact .nil
      | cons o _ ih => exact .cons (o.mono kk rfl) ih
    · unfold RetR
      rw [if_neg (by decide)]
      exact (ow.mono kk rfl).rep (.inr rfl)
/-- the defs that a local name may hold, by their names: how many arguments, what they do -/
abbrev Disp := Str → Option (Nat × (List PV → FO))
def callL (disp : Disp) (i : Nat) (margs : M (List PV)) : M PV := mbind (slot i) fun d => match d with
  | .fn x => match disp x with
    | some (n, f) => mbind margs fun ts env => if ts.length = n then (match f ts with
      | .ok t _ => .ok t env
      | .exc c => .exc c
      | .stuck => .stuck) else .stuck
    | none => mstuck
  | _ => mstuck
/-- what they promise -/
def DispOk (P : Program) (w : World) (K : PySem.W.Frag) (mg : Str → Option Value) (k : Nat) (disp : Disp) : Prop := ∀ x n f, disp x = some (n, f) → ∃ kf ps fr, kf ≤ k ∧ Def P w K mg kf x ps (List.replicate n false) fr f
theorem argR_of {σ : St} {F : Addr → Prop} {H : Hp} : ∀ {ts : List PV} {vs : List V}, RepL C.K C.mg F H ts vs → ArgR C σ F H (List.replicate ts.length none) ts vs
  | _, _, .nil => .nil
  | _, _, .cons r q => .val r (argR_of q)
theorem resolve_none {env : Sl} : ∀ {ts : List PV}, resolve (List.replicate ts.length none) ts env = some ts
  | [] => rfl
  | t :: ts => by
    show (resolve (List.replicate ts.length none) ts env).map (t :: ·) = _
    rw [resolve_none]
    rfl
theorem fm_none (n : Nat) : (List.replicate n (none : Option Nat)).filterMap id = [] := by
  induction n with
  | zero => rfl
  | succ n ih => rw [List.replicate_succ, List.filterMap_cons_none rfl, ih]
theorem re_callL (rc : RC X C k) {disp : Disp} (hd : DispOk X.prog X.w C.K C.mg k disp) (i : Nat) (hi : i ∉ C.O) (hx : PE X (.Name x p) (tVar i)) (hargs : RL X C (e :: es) margs)
    (he : starEach (e :: es) X.env = (false, eval e X.env) :: starEach es X.env := by rfl) (hpl : (backTo pos (starEach es X.env)).any (·.1) = false := by rfl) :
    RE X C (.Call (.Name x p) (e :: es) [] pos) (callL disp i margs) := by
  refine ⟨fun pins s σ H Q I h => ?_⟩
  obtain ⟨env, F, n, q⟩ := h
  unfold callL at q
  obtain ⟨d, ed, q1⟩ := mbind_slot q
  obtain ⟨v, ev, rv⟩ := n.shr i d hi ed
  cases d with
  | fn y =>
    dsimp only at q1
    cases ey : disp y with
    | none => rw [ey] at q1; exact q1.elim
    | some nf =>
      obtain ⟨m, f⟩ := nf
      rw [ey] at q1
      dsimp only at q1
      obtain ⟨kf, ps, fr, hk, D⟩ := hd y m f ey
      obtain ⟨a, fd, hm, hkp, hb, F0⟩ := D.ex
      have F' : FnOk X.prog X.w X.K X.mg X.base (L2.CX X.prog X.w) kf a fd ps (spEv C.K C.mg (List.replicate m false) fr f) := by rw [rc.hK, rc.hmg]; exact F0 X.base
      have hv : v = .ref a := by
        cases rv with
        | fn h2 => rw [hm] at h2; cases h2; rfl
      subst hv
      refine wpAny_Call_Name_kw (thn (hx.run pins s σ H (fun v1 H1 => v1 = .ref a ∧ H1 = H) I ⟨_, ev, rfl, rfl⟩) fun u s1 ⟨v1, H1, I1, r1, z1, z2⟩ => ?_)
      subst z1 z2
      cases r1
      refine PySem.W.callWith_K (h₀ := X.base) I1.ok.mod.kin (by rw [rc.hK]; exact hkp) (thn (hargs.run pos pins s1 σ _ (fun vs H2 => spEv C.K C.mg (List.replicate m false) fr f vs H2 Q (WE C.W σ)) I1 ⟨env, F, n, q1.seq.imp fun ts env1 F1 H1 _ _ x1 ⟨env1', n1, q2⟩ vs ar => ?_⟩) fun us s2 ⟨vs, H2, I2, r2, q2⟩ => ⟨I2.kIn, run_fnS F' (rc.room.mono hk) (by rw [rc.hK]; exact hb.b) (passAt rc.tk σ) I2 r2 q2⟩) he hpl
      by_cases hlen : ts.length = m
      · subst hlen
        rw [if_pos rfl] at q2
        have leaf : spEv C.K C.mg (List.replicate ts.length false) false f vs H1 Q (WE C.W σ) := by
          refine call_leaf (ms := List.replicate ts.length none) (P := fun t F' H' => ∀ v, Rep C.K C.mg F' H' t v → Q v H') (by rw [fm_none]; exact .nil) (by rw [List.map_replicate]; rfl) n1 (argR_of ar) ?_ fun t v F' H' _ hp r => hp v ?_
          · rw [resolve_none, fm_none]
            dsimp only
            cases ef : f ts with
            | stuck => rw [ef] at q2; exact q2
            | exc c => rw [ef] at q2; exact q2
            | ok t mu => rw [ef] at q2; exact q2
          · unfold RetR at r
            rw [if_neg (by decide)] at r
            exact r
        cases fr with
        | false => exact leaf
        | true => exact spEv_sh leaf
      · rw [if_neg hlen] at q2
        exact q2.elim
  | _ => exact q1.elim
end
end L2.EV

set_option Elab.async false
set_option linter.all false
set_option maxRecDepth 100000
namespace L2.EV
open PySem PySem.Spec PyProof.Rows
/-- the rule for a def; slots may be shared from a statement on -/
theorem def_mkF {P : Program} {w : World} {K : PySem.W.Frag} {mg : Str → Option Value} {x qual : Str} {st : Stmt} {f : Addr} {fd : FuncData} {N ps : List Str} {k : Nat} {sig : List Bool} {fr : Bool} {b : S} {O : List Nat}
    (F : Fun K x qual st f fd) (hm : mg x = some (.ref f)) (hb : BindsA fd ps) (S : FnScope N ps (defScope st)) (hs : sig.length = ps.length) (hO : ∀ i, i ∈ O → sig[i]? ≠ some false) (hO2 : ∀ i ∈ lentIx 0 sig, i ∈ O)
    (body : ∀ (base : Heap) (cdv : Value) (A : Around) (outer : List Env) (s : Shared) (H : Hp) (F0 : Addr → Prop) (L : List (Nat × Addr)) (E : XK), L.map (·.1) = lentIx 0 sig →
      RC (cxOf (L2.CX P w) P w K mg base N qual (defScope st) f cdv A outer s H E) ⟨K, mg, O, ⟨H, F0, L⟩, fun cls d _ H' => E cls d H', fr⟩ k →
      PassesOwn (model P w) (cxOf (L2.CX P w) P w K mg base N qual (defScope st) f cdv A outer s H E).A (cxOf (L2.CX P w) P w K mg base N qual (defScope st) f cdv A outer s H E).env (cxOf (L2.CX P w) P w K mg base N qual (defScope st) f cdv A outer s H E).xe →
      RSsF (cxOf (L2.CX P w) P w K mg base N qual (defScope st) f cdv A outer s H E) ⟨K, mg, O, ⟨H, F0, L⟩, fun cls d _ H' => E cls d H', fr⟩ (defBody st) b) :
    Def P w K mg (k + 1) x ps sig fr (fnM N.length sig fr b) := by
  have hpN : ps.length ≤ N.length := by have := congrArg List.length S.pre; rw [List.length_take] at this; omega
  refine ⟨f, fd, hm, F.kp, hb, fun base => F.okX S (fun vs H Q E h => h.1.trans hs) fun cdv A outer s H vs Q E hr h => ?_⟩
  obtain ⟨hl, F0, ts, L, fd0, args, q⟩ := h
  refine ⟨_, body base cdv A outer s H F0 L E args.ix ⟨rfl, rfl, rfl, S.nd, takes_of rfl rfl rfl rfl, hr⟩ (passes_of rfl), ?_⟩
  obtain ⟨l1, l2⟩ := args.len
  have hts : ∀ j : Nat, (ts.map some ++ List.replicate (N.length - ts.length) (none : Option PV))[j]? = if j < ts.length then (ts[j]?).map some else if j < N.length then some none else none := fun j => by
    by_cases hj : j < ts.length
    · rw [List.getElem?_append_left (by simpa using hj), List.getElem?_map, if_pos hj]
    · rw [List.getElem?_append_right (by simpa using hj), List.getElem?_replicate, if_neg hj, List.length_map]
      by_cases h2 : j < N.length
      · rw [if_pos h2, if_pos (by omega)]
      · rw [if_neg h2, if_neg (by omega)]
  have hvs : ∀ j : Nat, (start N vs)[j]? = if j < ts.length then (vs[j]?).map some else if j < N.length then some none else none := fun j => by
    unfold start
    by_cases hj : j < ts.length
    · rw [List.getElem?_append_left (by rw [List.length_map]; omega), List.getElem?_map, if_pos hj]
    · rw [List.getElem?_append_right (by rw [List.length_map]; omega), List.getElem?_replicate, if_neg hj, List.length_map]
      by_cases h2 : j < N.length
      · rw [if_pos h2, if_pos (by omega)]
      · rw [if_neg h2, if_neg (by omega)]
  have now : Now ⟨K, mg, O, ⟨H, F0, L⟩, fun cls d _ H' => E cls d H', fr⟩ (ts.map some ++ List.replicate (N.length - ts.length) none) (start N vs) F0 H := by
    have arg : ∀ {i : Nat} {t : PV}, (ts.map some ++ List.replicate (N.length - ts.length) (none : Option PV))[i]? = some (some t) → i < ts.length ∧ ts[i]? = some t := fun {i t} e => by
      rw [hts] at e
      split at e
      · rename_i hi
        rw [Option.map_eq_some_iff] at e
        obtain ⟨u, e1, e2⟩ := e
        cases e2
        exact ⟨hi, e1⟩
      · split at e <;> cases e
    have val : ∀ {i : Nat} {v : V}, (start N vs)[i]? = some (some v) → i < ts.length ∧ vs[i]? = some v := fun {i v} e => by
      rw [hvs] at e
      split at e
      · rename_i hi
        rw [Option.map_eq_some_iff] at e
        obtain ⟨u, e1, e2⟩ := e
        cases e2
        exact ⟨hi, e1⟩
      · split at e <;> cases e
    refine ⟨by unfold start; simp only [List.length_append, List.length_map, List.length_replicate]; omega, ⟨fun _ h => h, fun _ _ h _ => h, fun _ _ h => h, fun _ h => h, fd0⟩, fun i t hi e => ?_, fun i t hi e => ?_, fun i v hi e => ?_, fun i j a hi hj ei ej => ?_, fun p hp => ?_⟩
    · obtain ⟨h1, h2⟩ := arg e
      rcases args.at i t h2 with ⟨_, v, e1, r⟩ | ⟨_, a, e1, _, _, hm'⟩
      · exact ⟨v, by rw [hvs, if_pos h1, e1]; rfl, r⟩
      · refine absurd (hO2 i ?_) hi
        rw [← args.ix]
        exact List.mem_map.mpr ⟨_, hm', by simp⟩
    · obtain ⟨h1, h2⟩ := arg e
      rcases args.at i t h2 with ⟨hf, _⟩ | ⟨_, a, e1, ow, nf, hm'⟩
      · exact absurd hf (hO i hi)
      · refine ⟨a, by rw [hvs, if_pos h1, e1]; rfl, nf, ow, .inr (List.mem_map.mpr ⟨_, hm', rfl⟩)⟩
    · obtain ⟨h1, h2⟩ := val e
      exact ⟨ts[i], by rw [hts, if_pos h1, List.getElem?_eq_getElem h1]; rfl⟩
    · obtain ⟨h1, h2⟩ := val ei
      obtain ⟨h3, h4⟩ := val ej
      rcases args.at i _ (List.getElem?_eq_getElem h1) with ⟨hf, _⟩ | ⟨_, b, e1, _, _, m1⟩
      · exact absurd hf (hO i hi)
      rcases args.at j _ (List.getElem?_eq_getElem h3) with ⟨hf, _⟩ | ⟨_, c, e2, _, _, m2⟩
      · exact absurd hf (hO j hj)
      rw [h2] at e1; cases e1
      rw [h4] at e2; cases e2
      have nd := args.nodup
      obtain ⟨p, hp, ep⟩ := List.getElem_of_mem m1
      obtain ⟨q', hq, eq⟩ := List.getElem_of_mem m2
      have hpq : p = q' := by
        refine (List.getElem_inj (i := p) (j := q') (h₀ := by simpa using hp) (h₁ := by simpa using hq) nd).mp ?_
        rw [List.getElem_map, List.getElem_map, ep, eq]
      subst hpq
      rw [ep] at eq
      have := congrArg Prod.fst eq
      simpa using this
    · obtain ⟨j, e1, e2⟩ := args.mem p hp
      refine ⟨hO2 p.1 (by rw [← args.ix]; exact List.mem_map.mpr ⟨p, hp, rfl⟩), ?_⟩
      have hj : j < ts.length := by
        have := (List.getElem?_eq_some_iff.mp e2).1
        omega
      rw [show p.1 = j by omega, hvs, if_pos hj, e2]
      rfl
  refine ⟨_, F0, now, ?_⟩
  unfold fnM at q
  have hback : ∀ {O1 : List Nat} {e : Sl} {t : PV} {mu : List PV} {v : V} {σ' : St} {F' : Addr → Prop} {H' : Hp}, lentOf e 0 sig = some mu → (∀ v F' H', Bok ⟨H, F0, L⟩ F' H' → MuR K mg F' H' L mu → RetR K mg fr F' H H' t v → Q v H') →
      Now ⟨K, mg, O1, ⟨H, F0, L⟩, fun cls d _ H' => E cls d H', fr⟩ e σ' F' H' → RetR K mg fr F' H H' t v → Q v H' := fun {O1 e t mu v σ' F' H'} h1 q n r => q v F' H' n.bok (lentOf_mu n args.ix (fun p hp => hp) h1) r
  cases e1 : b (ts.map some ++ List.replicate (N.length - ts.length) none) with
  | nx e =>
    rw [e1] at q
    dsimp only at q
    by_cases hfr : fr = true
    · rw [if_pos hfr] at q
      exact q.elim
    · rw [if_neg hfr] at q
      intro O' σ' F' H' _ n' _
      cases e2 : lentOf e 0 sig with
      | none => rw [e2] at q; exact q.elim
      | some mu =>
        rw [e2] at q
        exact hback e2 q n' (by unfold RetR; rw [if_neg hfr]; exact .non)
  | rt t e =>
    rw [e1] at q
    dsimp only at q
    intro O' v σ' F' H' _ n' _ bk
    cases e2 : lentOf e 0 sig with
    | none => rw [e2] at q; exact q.elim
    | some mu =>
      rw [e2] at q
      exact hback e2 q n' bk
  | exc c =>
    rw [e1] at q
    exact fun cls σ' F' H' hc bok => q cls F' H' hc bok
  | bk e => rw [e1] at q; exact q.elim
  | ct e => rw [e1] at q; exact q.elim
  | stuck => rw [e1] at q; exact q.elim
end L2.EV

set_option Elab.async false
set_option linter.all false
set_option maxRecDepth 100000
/-! try: .. except X as n: return A if isinstance(n, T) else B, several clauses. -/
namespace L2.EV
open PySem PySem.Spec PyProof.Rows

/-- several clauses 'except X as n' -/
def wManyAs (K : PySem.W.Frag) (Wout : WX) (D : Ends) : List (Value × Nat × (Addr → Value → Option Addr → TS)) → WX
  | [] => Wout
  | (c, i, ts) :: r => wAs K c i ts (wManyAs K Wout D r) D
inductive HdsAs (X : Cx) : List ExceptHandler → List (Value × Nat × (Addr → Value → Option Addr → TS)) → Prop
  | nil : HdsAs X [] []
  | cons {x n : Str} {c : Value} {i : Nat} {ts : Addr → Value → Option Addr → TS} {b₀ : Stmt} {suite : List Stmt} {np pos' : Pos} {hds : List ExceptHandler} {l : List (Value × Nat × (Addr → Value → Option Addr → TS))} (hc : Names X x c)
      (hi : X.N[i]? = some n) (hln : X.env.kindOf n = some .local)
      (hsu : ∀ (a : Addr) (oe : Obj) (cls : Value) (d : Option Addr) (pn : List (Addr × Obj)), Zc cls d oe → (∃ vs, oe.data = .fields vs) → PSs (X.suite a ((a, oe) :: pn)) (b₀ :: suite) (ts a cls d)) (r : HdsAs X hds l) :
      HdsAs X (.ExceptHandler (some (.Name x np)) (some n) (b₀ :: suite) pos' :: hds) ((c, i, ts) :: l)
section
variable {X : Cx} {body : List Stmt} {h₀ : ExceptHandler} {hds : List ExceptHandler} {l : List (Value × Nat × (Addr → Value → Option Addr → TS))} {pos : Pos} {tb : WX → TS} {Wout : WX}
theorem ps_try_manyAs (hs : X.stack = X.env :: X.outer) (hf : X.env.frame = some X.env.locals) (hN : X.N.Nodup) (tk : Takes X Wout)
    (hb : ∀ (W : WX) (pn : List (Addr × Obj)) (xe : Value → Shared → Prop), Takes (X.tr pn xe) W → PassesOwn (model X.prog X.w) X.A X.env xe → PSs (X.tr pn xe) body (tb W))
    (hh : HdsAs X (h₀ :: hds) l) : PS X (.Try body (h₀ :: hds) [] [] pos) (fun D σ H => tb (wManyAs X.K Wout D l) D σ H) := by
  refine ⟨fun pins s σ H D I h => ?_⟩
  have ok := I.ok
  have hfr : X.A.frames = some (X.env :: X.outer) := by rw [ok.frames, hs]
  refine wpAny_Try_except ?_
  refine wpAny_mono ((hb (wManyAs X.K Wout D l) (X.pn ++ pins) (fun e s₁ => wpAny (model X.prog X.w) X.A (noteFrame e X.env) (fun _ s₂ => wpAny (model X.prog X.w) X.A (setFlight e none) (fun _ s₃ =>
    wpAny (model X.prog X.w) X.A (handleBy e X.env (h₀ :: hds)) (SP X pins D) X.xe s₃) X.xe s₂) X.xe s₁) (fun u s' xx => ?_) PassesOwn.looking).run [] s σ H D (I.toTry _) h) (fun f s1 hsp => ?_) (fun e s1 he => he)
  · -- the catch
    obtain ⟨a, B, sI, pins', σ', H', cls, d, rfl, J', nb, up, sky, na, os, ag, w⟩ := xx
    have J : Inv X pins σ' H' sI := J'.ofTry ok
    have sky' : Sky B (X.env :: X.outer) a (Zc cls d) X.env.locals s'.heap := by rw [← hs]; exact sky
    show wpAny (model X.prog X.w) X.A (noteFrame (.ref a) X.env) _ _ _
    refine Sky.land Zc.steady hfr hf sky' fun h3 fl3 up3 => ?_
    have J3 : Inv X pins σ' H' { s' with heap := h3 } := J.landed nb fl3.1 (up.trans up3) os ag
    obtain ⟨oe3, vs3, he3, hz3, hd3⟩ := fl3.there
    have notFr : ∀ {h : Heap} {o : Obj} {vs : Array Value}, h.FunFrames B (X.env :: X.outer) → h.get? a = some o → o.data = .fields vs → a ∉ frs (X.env :: X.outer) := fun {h o vs} ff e dd hm => by
      obtain ⟨_, o', e', hnf⟩ := ff.mem hm
      rw [e] at e'; cases e'
      exact hnf _ dd
    have nfr := notFr fl3.2.2.1 he3 hd3
    have nL : a ≠ X.env.locals := fun z => nfr (List.mem_filterMap.mpr ⟨X.env, List.mem_cons_self, by rw [hf, z]⟩)
    have nF : a ∉ X.fs := fun hm => by
      obtain ⟨e, he, q⟩ := List.mem_filterMap.mp hm
      exact nfr (List.mem_filterMap.mpr ⟨e, List.mem_cons_of_mem _ he, q⟩)
    have S3 := J3.suite he3 hd3 na nL nF
    have go : ∀ {hds' : List ExceptHandler} {l' : List (Value × Nat × (Addr → Value → Option Addr → TS))}, HdsAs X hds' l' → wManyAs X.K Wout D l' cls d σ' H' →
        wpAny (model X.prog X.w) X.A (handleBy (.ref a) X.env hds') (SP X pins D) X.xe { s' with heap := h3 } := by
      intro hds' l' hk
      induction hk with
      | nil =>
        intro w
        refine wpAny_handleBy_nil ?_
        obtain ⟨k1, k2, k3, oe, vs, T, oT, ts', he, hz, hd, h1, hr⟩ := id fl3
        unfold PySem.passOn
        refine wpAny_bind (wpAny_field he hd h1 ?_)
        rw [if_neg (show ¬ ((Value.ref T == Value.none) = true) from by simp)]
        have fin : wpAny (model X.prog X.w) X.A (setFlight (.ref a) X.env.frame) (fun _ s4 => wpAny (model X.prog X.w) X.A (throw (.ref a) : Sem Flow) (SP X pins D) X.xe s4) X.xe { s' with heap := h3 } := by
          rw [hf]
          refine HandSPX.setFlight_upZ fl3 fun h4 hh4 up4 => wpAny_throw (tk _ _ ?_)
          exact ⟨a, B, sI, pins, σ', H', cls, d, rfl, J, nb, (up.trans up3).trans up4, .inr (.inr (by rw [hs]; exact hh4)), na, os, ag, w⟩
        first
          | exact wpAny_bind (wpAny_pure (wpAny_bind fin))
          | exact wpAny_bind fin
      | @cons x n c i ts b₀ suite np pos' hds2 l2 hc hi hln hsu r ih =>
        intro w
        obtain ⟨b, hb1, hyes, hno⟩ := w
        have hloc : Loc X.env.scope n := .inl hln
        refine wpAny_handleBy_cons (codeAny_handlers_test ?_) (by intro q; cases q)
        have LT : PySem.W.Looks (model X.prog X.w) h3 (typeOf (.ref a)) cls := fun A Q E s k q => wpAny_typeOf_ref (k _ _ he3) (by rw [hz3.1]; exact q)
        have LM := PySem.W.exm_one (M := model X.prog X.w) (J3.kIn) LT hb1
        have test : ∀ {Q : Value → Shared → Prop} {E : Value → Shared → Prop}, Q c { s' with heap := h3 } → wpAny (model X.prog X.w) (X.A.mark (some (.ref a))) (eval (.Name x np) X.env) Q E { s' with heap := h3 } := fun {Q E} q => by
          obtain ⟨hg, hdbg, hm | ⟨hm, hv, hnn⟩⟩ := hc
          · exact ld_glob (X := X.suite a ((a, oe3) :: (X.pn ++ pins))) S3 hg hm q hdbg
          · exact ld_blt (X := X.suite a ((a, oe3) :: (X.pn ++ pins))) S3 hg hm hv q hnn hdbg
        refine test (LM.here ?_)
        cases b with
        | true =>
          refine codeAny_handlers_suite_as ?_
          refine HandSPX.lands_againZ fl3 fun h4 fl4 up4 => ?_
          have J4 : Inv X pins σ' H' { s' with heap := h4 } := J.landed nb fl4.1 ((up.trans up3).trans up4) os ag
          obtain ⟨oe4, vs4, he4, hz4, hd4⟩ := fl4.there
          have S4 := J4.suite he4 hd4 na nL nF
          refine store_ok (X := X.suite a ((a, oe4) :: (X.pn ++ pins))) (v := .ref a) S4 hN hi hloc rfl (fun s5 S5 => ?_) (.inr hln)
          refine wpAny_mono ((hsu a oe4 cls d (X.pn ++ pins) hz4 ⟨_, hd4⟩).run [] s5 _ H' _ S5 (hyes rfl a na)) (fun f s6 hsp => ?_) (fun _ _ z => False.elim z)
          have end_ : ∀ {σ6 : St} {H6 : Hp} {Q : Shared → Prop}, Inv (X.suite a ((a, oe4) :: (X.pn ++ pins))) [] σ6 H6 s6 → (∀ s7, Inv X pins (σ6.set i none) H6 s7 → Q s7) →
              wpAny (model X.prog X.w) X.A (do bindName X.env n .none; unbindBehindTheSuite X.env n pos') (fun _ s7 => Q s7) X.xe s6 := fun {σ6 H6 Q} S6 hq => gone_ok (S6.unsuite ok) hN hi hln hq
          cases f with
          | next =>
            obtain ⟨σ6, H6, S6, q6⟩ := hsp
            exact end_ S6 fun s7 J7 => ⟨_, _, J7, q6⟩
          | brk =>
            obtain ⟨σ6, H6, S6, q6⟩ := hsp
            exact end_ S6 fun s7 J7 => ⟨_, _, J7, q6⟩
          | cont =>
            obtain ⟨σ6, H6, S6, q6⟩ := hsp
            exact end_ S6 fun s7 J7 => ⟨_, _, J7, q6⟩
          | ret u =>
            obtain ⟨v6, σ6, H6, S6, r6, q6⟩ := hsp
            exact end_ S6 fun s7 J7 => ⟨_, _, _, J7, r6, q6⟩
        | false =>
          show wpAny _ X.A (handleBy (.ref a) X.env hds2) _ _ _
          exact ih (hno rfl)
    exact go hh w
  · cases f with
    | next =>
      obtain ⟨σ', H', J', q⟩ := hsp
      exact wpAny_execs_nil ⟨σ', H', J'.ofTry ok, q⟩
    | brk =>
      obtain ⟨σ', H', J', q⟩ := hsp
      exact ⟨σ', H', J'.ofTry ok, q⟩
    | cont =>
      obtain ⟨σ', H', J', q⟩ := hsp
      exact ⟨σ', H', J'.ofTry ok, q⟩
    | ret u =>
      obtain ⟨v, σ', H', J', r, q⟩ := hsp
      exact ⟨v, σ', H', J'.ofTry ok, r, q⟩
end

/-! ### what is known of the classes -/
/-- a class of the program, an exception; instances of it are instances of ValueError -/
structure XCls (K : PySem.W.Frag) (mg : Str → Option Value) (c : Str) (A : Addr) : Prop where
  g : mg c = some (.ref A)
  ex : ExcC K A
  ve : PySem.W.kitOne K (.ref A) (.type "ValueError") = some true
/-- which is caught by which -/
def XHit (K : PySem.W.Frag) (mg : Str → Option Value) (c c' : Str) : Prop := ∀ A A', mg c = some (.ref A) → mg c' = some (.ref A') → PySem.W.exmOne K (.ref A) (.ref A') = some (decide (c = c'))

/-- the clauses: the class, what is handed back -/
abbrev Hd := List (Str × Str)
def stryR (b : S) (hs : Hd) : S := fun env => match b env with
  | .exc c => match hs.find? fun h => decide (h.1 = c) with
    | some h => .rt (.str h.2) (env.map fun _ => none)
    | none => .stuck
  | o => o
section
variable {X : Cx} {C : Cp} {k : Nat} {body : List Stmt} {pos : Pos} {b : S}
/-- the wish of a clause's suite -/
def tHd (A : Addr) (i : Nat) (y : Str) (a : Addr) (cls : Value) (d : Option Addr) : TS := fun D σ H => cls = .ref A ∧ d = none ∧ σ[i]? = some (some (.ref a)) ∧ D.rt (.str y) H
/-- the clauses as the laws write them; hs: what they hand back, cs: the classes, all -/
inductive HdL (X : Cx) (C : Cp) (cs : List Str) : List ExceptHandler → List (Value × Nat × (Addr → Value → Option Addr → TS)) → Hd → Prop
  | nil : HdL X C cs [] [] []
  | cons {hds : List ExceptHandler} {l : List (Value × Nat × (Addr → Value → Option Addr → TS))} {hs : Hd} {x n y : Str} {i : Nat} {A : Addr} {b₀ : Stmt} {suite : List Stmt} {p1 p2 : Pos} (T : XCls C.K C.mg x A) (hit : ∀ c ∈ cs, XHit C.K C.mg c x)
      (hc : Names X x (.ref A)) (hi : X.N[i]? = some n) (hln : X.env.kindOf n = some .local)
      (hsu : ∀ (a : Addr) (oe : Obj) (cls : Value) (d : Option Addr) (pn : List (Addr × Obj)), Zc cls d oe → (∃ vs, oe.data = .fields vs) → PSs (X.suite a ((a, oe) :: pn)) (b₀ :: suite) (tHd A i y a cls d))
      (r : HdL X C cs hds l hs) : HdL X C cs (.ExceptHandler (some (.Name x p1)) (some n) (b₀ :: suite) p2 :: hds) ((.ref A, i, tHd A i y) :: l) ((x, y) :: hs)
/-- return A if isinstance(n, ValueError) else B -/
theorem pss_isRet (rc : RC X C k) {x n y z : Str} {i : Nat} {A : Addr} (T : XCls C.K C.mg x A) (hi : X.N[i]? = some n) (hln : X.env.kindOf n = some .local) (hgi : Gl X "isinstance") (hmi : C.mg "isinstance" = none) (hgv : Gl X "ValueError") (hmv : C.mg "ValueError" = none)
    {p2 p3 p4 p5 p6 p7 p8 p9 : Pos} {j1 j2 : Nat} (hdn : (n == ("__debug__" : Str)) = false := by decide) (hcn : (n == ("__classdict__" : Str)) = false := by decide) (a : Addr) (oe : Obj) (cls : Value) (d : Option Addr) (pn : List (Addr × Obj)) (hz : Zc cls d oe) (hf : ∃ vs, oe.data = .fields vs) :
    PSs (X.suite a ((a, oe) :: pn)) [.Return (some (.IfExp (.Call (.Name "isinstance" p2) [.Name n p3, .Name "ValueError" p4] [] p5) (.Constant (.str y) j1 p6) (.Constant (.str z) j2 p7) p8)) p9] (tHd A i y a cls d) := by
  refine ⟨fun pins s σ H D I q => ?_⟩
  obtain ⟨rfl, rfl, e3, q⟩ := q
  have vis : Vis X.env.scope n := .inl hln
  have call := pe_callB (X := X.suite a ((a, oe) :: pn)) (x := "isinstance") (p := p2) (pos := p5) (call_isE (X := X) (pn := pn) (by rw [rc.hK]; exact T.ex) hz hf) hgi (by rw [← rc.hmg] at hmi; exact hmi) (by rfl)
    (pa_cons (pe_var (X := X.suite a ((a, oe) :: pn)) (pos := p3) hi vis hdn hcn) (pa_cons (pe_bltn (X := X.suite a ((a, oe) :: pn)) (v := .ty "ValueError") (pos := p4) hgv (by rw [← rc.hmg] at hmv; exact hmv) (by rfl) rfl) pa_nil))
  refine (pss_one (ps_ret (pos := p9) (pe_ifExp (pos := p8) (pt_val call) (pe_str (x := y) (j := j1) (pos := p6)) (pe_str (x := z) (j := j2) (pos := p7))))).run pins s σ H D I ?_
  refine ⟨_, e3, .ty "ValueError", .type "ValueError", true, rfl, fun u hu => hu, ?_, ?_⟩
  · rw [rc.hK]; exact T.ve
  · refine ⟨true, rfl, ?_⟩
    exact q
theorem HdL.as {cs : List Str} {hds : List ExceptHandler} {l : List (Value × Nat × (Addr → Value → Option Addr → TS))} {hs : Hd} (h : HdL X C cs hds l hs) : HdsAs X hds l := by
  induction h with
  | nil => exact .nil
  | cons T hit hc hi hln hsu r ih => exact .cons hc hi hln hsu ih
theorem HdL.wish {cs : List Str} {hds : List ExceptHandler} {l : List (Value × Nat × (Addr → Value → Option Addr → TS))} {hs : Hd} (h : HdL X C cs hds l hs) {c y : Str} {B : Addr} (hc : c ∈ cs) (gB : C.mg c = some (.ref B)) {Wout : WX} {D : Ends} {σ : St} {H : Hp} (hlen : σ.length = X.N.length) (hK : X.K = C.K)
    (e : hs.find? (fun h => decide (h.1 = c)) = some (c, y)) (q : D.rt (.str y) H) : wManyAs X.K Wout D l (.ref B) none σ H := by
  induction h with
  | nil => cases e
  | @cons hds l hs x n y' i A b₀ suite p1 p2 T hit hcn hi hln hsu r ih =>
    refine ⟨decide (c = x), by rw [hK]; exact hit c hc B A gB T.g, fun hx a ha => ?_, fun hx => ?_⟩
    · have hx := of_decide_eq_true hx
      subst hx
      rw [List.find?_cons_of_pos (by simp)] at e
      have e' := congrArg Prod.snd (Option.some.inj e)
      have e' : y' = y := e'
      subst e'
      rw [T.g] at gB
      cases gB
      have : i < σ.length := by rw [hlen]; exact (List.getElem?_eq_some_iff.mp hi).1
      exact ⟨rfl, rfl, List.getElem?_set_self this, q⟩
    · have hx := of_decide_eq_false hx
      rw [List.find?_cons_of_neg (by simpa using fun z : x = c => hx z.symm)] at e
      exact ih e
theorem rs_tryR (rc : RC X C k) (hst : X.stack = X.env :: X.outer) (hfr : X.env.frame = some X.env.locals) (hO : C.O = []) (hf : C.fr = false) {cs : List Str} {h₀ : ExceptHandler} {hds : List ExceptHandler} {l : List (Value × Nat × (Addr → Value → Option Addr → TS))} {hs : Hd}
    (hcs : hs.map (·.1) = cs) (hA : ∀ c ∈ cs, ∃ A, C.mg c = some (.ref A))
    (hh : HdL X C cs (h₀ :: hds) l hs)
    (hb : ∀ (B : Base) (W : WX) (pn : List (Addr × Obj)) (xe : Value → Shared → Prop), PassesOwn (model X.prog X.w) X.A X.env xe → RC (X.tr pn xe) ⟨C.K, C.mg, [], B, W, C.fr⟩ k → RSs (X.tr pn xe) ⟨C.K, C.mg, [], B, W, C.fr⟩ body b) :
    RS X C (.Try body (h₀ :: hds) [] [] pos) (stryR b hs) := by
  refine (ps_try_manyAs (tb := fun W D σ H => ∃ env F, Now ⟨C.K, C.mg, [], ⟨H, F, []⟩, fun cls d σ' H' => σ'.length = X.N.length → W cls d σ' H', C.fr⟩ env σ F H ∧ EndS ⟨C.K, C.mg, [], ⟨H, F, []⟩, fun cls d σ' H' => σ'.length = X.N.length → W cls d σ' H', C.fr⟩ D F H (b env)) hst hfr rc.nd rc.tk (fun W pn xe tk po => ⟨fun pins s σ H D I ⟨env, F, n, q⟩ => ?_⟩) hh.as).imp fun D σ H ⟨env, F, n, q⟩ => ?_
  · have tk' : Takes (X.tr pn xe) (fun cls d σ' H' => σ'.length = X.N.length → W cls d σ' H') := fun u s' ⟨a, B, sI, pins, σ, H, cls, d, e, I, nb, up, sky, na, os, ag, w⟩ =>
      tk u s' ⟨a, B, sI, pins, σ, H, cls, d, e, I, nb, up, sky, na, os, ag, w I.len⟩
    exact (hb ⟨H, F, []⟩ _ pn xe po ⟨rc.hK, rc.hmg, rc.calm, rc.nd, tk', rc.room⟩).run pins s σ H D I ⟨env, F, n, q⟩
  · have nO : ∀ {i}, i ∉ C.O := fun {i} h => by rw [hO] at h; cases h
    have nL : C.B.L = [] := by
      cases e : C.B.L with
      | nil => rfl
      | cons p L => exact absurd (n.lent p (by rw [e]; simp)).1 nO
    refine ⟨env, F, ⟨n.len, ⟨fun _ h => h, fun _ _ h _ => h, fun _ _ h => h, fun _ h => h, n.bok.fd⟩, fun i t _ e => n.shr i t nO e, fun i t h => (nomatch h), fun i v h => (nomatch h), fun i j a h => (nomatch h), fun p hp => (nomatch hp)⟩, ?_⟩
    have bok : ∀ {F' : Addr → Prop} {H' : Hp}, Bok ⟨H, F, []⟩ F' H' → Bok C.B F' H' := fun {F' H'} b =>
      ⟨fun a h => b.fm a (n.bok.fm a h), fun a o h nl => b.kp a o (n.bok.kp a o h nl) (by simp), fun a h g => n.bok.nof a h (b.nof a (n.bok.dom a h) g), fun a h => b.dom a (n.bok.dom a h), b.fd⟩
    have kp : ∀ {F' : Addr → Prop} {H' : Hp}, Bok ⟨H, F, []⟩ F' H' → Keep F H F' H' := fun {F' H'} b => ⟨b.fm, fun a o h _ => b.kp a o h (by simp)⟩
    have up : ∀ {e : Sl} {σ' : St} {F' : Addr → Prop} {H' : Hp} {W : WX}, Now ⟨C.K, C.mg, [], ⟨H, F, []⟩, W, C.fr⟩ e σ' F' H' → Now C e σ' F' H' := fun {e σ' F' H' W} n' =>
      ⟨n'.len, bok n'.bok, fun i t _ e => n'.shr i t (by simp) e, fun i t h => absurd h nO, fun i v h => absurd h nO, fun i j a h => absurd h nO, fun p hp => by rw [nL] at hp; cases hp⟩
    unfold stryR at q
    cases e : b env with
    | nx e1 => rw [e] at q; exact fun σ' F' H' n' k' => q σ' F' H' (up n') k'
    | bk e1 => rw [e] at q; exact fun σ' F' H' n' k' => q σ' F' H' (up n') k'
    | ct e1 => rw [e] at q; exact fun σ' F' H' n' k' => q σ' F' H' (up n') k'
    | rt t e1 =>
      rw [e] at q
      refine fun v σ' F' H' n' k' bk => q v σ' F' H' (up n') k' ?_
      unfold Back at bk ⊢
      have hf' : (⟨C.K, C.mg, [], ⟨H, F, []⟩, fun cls d σ' H' => σ'.length = X.N.length → wManyAs X.K C.W D l cls d σ' H', C.fr⟩ : Cp).fr = false := hf
      rw [if_neg (by rw [hf']; decide)] at bk
      rw [if_neg (by rw [hf]; decide)]
      exact bk
    | stuck => rw [e] at q; exact q
    | exc c =>
      rw [e] at q
      dsimp only at q
      intro cls σ' F' H' hc b' hlen
      cases ef : hs.find? (fun h => decide (h.1 = c)) with
      | none => rw [ef] at q; exact q.elim
      | some h =>
        rw [ef] at q
        have hcm : h.1 = c := by simpa using List.find?_some ef
        have hin : c ∈ cs := by
          rw [← hcs, ← hcm]
          exact List.mem_map.mpr ⟨h, List.mem_of_find?_eq_some ef, rfl⟩
        obtain ⟨A, hA⟩ := hA c hin
        have hc : C.mg c = some cls := hc
        rw [hA] at hc
        cases hc
        have hlen0 : env.length = X.N.length ∨ True := .inr trivial
        refine hh.wish (y := h.2) hin hA hlen rc.hK (by rw [ef, ← hcm]) ?_
        refine q (.str h.2) (env.map fun _ => none) F' H' ⟨by simp, bok b', fun i t _ e => ?_, fun i t h => absurd h nO, fun i v h => absurd h nO, fun i j a h => absurd h nO, fun p hp => by rw [nL] at hp; cases hp⟩ (kp b') ?_
        · rw [List.getElem?_map] at e
          cases z : env[i]? with
          | none => rw [z] at e; cases e
          | some o => rw [z] at e; cases e
        · unfold Back
          rw [if_neg (by rw [hf]; decide)]
          exact .str _
end
end L2.EV

set_option Elab.async false
set_option linter.all false
set_option maxRecDepth 100000
namespace L2.EV
open PySem PySem.Spec PyProof.Rows
section
variable {X : Cx} {C : Cp} {k : Nat} {st : List Stmt} {s : Stmt} {f g : S} {m : M PV} {e : Expr} {pos : Pos}
/-! ### a slot that gets an object of its own from a statement on -/
def Cp.ad (C : Cp) (i : Nat) : Cp := { C with O := i :: C.O }
theorem RC.ad (rc : RC X C k) {i : Nat} : RC X (C.ad i) k := ⟨rc.hK, rc.hmg, rc.calm, rc.nd, rc.tk, rc.room⟩
theorem Now.adO {env : Sl} {σ : St} {F : Addr → Prop} {H : Hp} {i : Nat} {t : PV} {a : Addr} (n : Now C env σ F H) (hi : i ∉ C.O) (r : OwnR C.K C.mg F H a t) (nf : ¬ F a) (h0 : C.B.H a = none) (no : ¬ Ow C σ a) (hlt : i < σ.length) : Now (C.ad i) (env.set i (some t)) (σ.set i (some (.ref a))) F H := by
  have ne : ∀ {j}, j ∈ C.O → i ≠ j := fun hj z => hi (by rw [z]; exact hj)
  have mem : ∀ {j}, j ∈ (C.ad i).O → i ≠ j → j ∈ C.O := fun {j} hj z => (List.mem_cons.mp hj).elim (fun q => absurd q.symm z) id
  refine ⟨by simp [n.len], n.bok, fun j u hj ej => ?_, fun j u hj ej => ?_, fun j w hj ej => ?_, fun j l b hj hl ej el => ?_, fun p hp => ?_⟩
  · have z : i ≠ j := fun z => hj (by rw [z]; exact List.mem_cons_self)
    rw [List.getElem?_set_ne z] at ej ⊢
    exact n.shr j u (fun w => hj (List.mem_cons_of_mem _ w)) ej
  · by_cases z : i = j
    · subst z
      rw [List.getElem?_set_self (by rw [n.len]; exact hlt)] at ej
      cases ej
      exact ⟨a, List.getElem?_set_self hlt, nf, r, .inl h0⟩
    · rw [List.getElem?_set_ne z] at ej ⊢
      exact n.own j u (mem hj z) ej
  · by_cases z : i = j
    · subst z
      exact ⟨t, List.getElem?_set_self (by rw [n.len]; exact hlt)⟩
    · rw [List.getElem?_set_ne z] at ej ⊢
      exact n.emp j w (mem hj z) ej
  · by_cases z : i = j <;> by_cases z' : i = l
    · exact z.symm.trans z'
    · subst z
      rw [List.getElem?_set_self hlt] at ej
      cases ej
      rw [List.getElem?_set_ne z'] at el
      exact absurd ⟨l, mem hl z', el⟩ no
    · subst z'
      rw [List.getElem?_set_self hlt] at el
      cases el
      rw [List.getElem?_set_ne z] at ej
      exact absurd ⟨j, mem hj z, ej⟩ no
    · rw [List.getElem?_set_ne z] at ej
      rw [List.getElem?_set_ne z'] at el
      exact n.dis j l b (mem hj z) (mem hl z') ej el
  · obtain ⟨h1, h2⟩ := n.lent p hp
    refine ⟨List.mem_cons_of_mem _ h1, ?_⟩
    rw [List.getElem?_set_ne (ne h1)]
    exact h2
theorem rssF_setO {x : Str} {pos' : Pos} (i : Nat) (hi : i ∉ C.O) (hN : i < X.N.length) (he : RF X C e m) (h : ∀ {te : TE}, PE X e te → PS X (.Assign [.Name x pos'] e pos) (tAsg te (gName i))) (ht : RSsF X (C.ad i) st g) :
    RSsF X C (.Assign [.Name x pos'] e pos :: st) (sseq (sbind m (sput i)) g) := by
  have w : PSs X (.Assign [.Name x pos'] e pos :: st) _ := pss_cons (h he) ht
  refine ⟨fun pins s σ H D I ⟨env, F, n, q⟩ => w.run pins s σ H D I ?_⟩
  have hlt : i < σ.length := by rw [I.len]; exact hN
  refine ⟨env, F, n, ?_⟩
  unfold sseq sbind at q
  cases em : m env with
  | exc c => rw [em] at q; exact q
  | stuck => rw [em] at q; exact q
  | ok t env' =>
    rw [em] at q
    intro F' H' n' x a r nf ha
    obtain ⟨h0, no⟩ := fresh_no n ha
    exact ⟨_, F', n'.adO hi r nf h0 no hlt, EndF.keep (n.keep x) q⟩
theorem Def.mgx {P : Program} {w : World} {K : PySem.W.Frag} {mg : Str → Option Value} {k : Nat} {x : Str} {ps : List Str} {sig : List Bool} {fr : Bool} {f : List PV → FO} (D : Def P w K mg k x ps sig fr f) : ∃ a, mg x = some (.ref a) := by
  obtain ⟨a, _, h, _⟩ := D.ex
  exact ⟨a, h⟩
/-- a def of the top as a value -/
theorem re_fnD (rc : RC X C k) {x : Str} {kf : Nat} {ps : List Str} {sig : List Bool} {fr : Bool} {f : List PV → FO} (hg : Gl X x) (D : Def X.prog X.w C.K C.mg kf x ps sig fr f) (hd : (x == ("__debug__" : Str)) = false := by decide) : RE X C (.Name x pos) (mret (.fn x)) := by
  obtain ⟨a, h⟩ := D.mgx
  exact re_fn rc hg h hd
theorem lt_by {i n : Nat} (h : Nat.blt i n = true) : i < n := Nat.le_of_ble_eq_true h
theorem hits_nil {K : PySem.W.Frag} {mg : Str → Option Value} {x : Str} : ∀ c ∈ ([] : List Str), XHit K mg c x := fun _ h => nomatch h
theorem hits_cons {K : PySem.W.Frag} {mg : Str → Option Value} {x c : Str} {cs : List Str} (h : XHit K mg c x) (r : ∀ c ∈ cs, XHit K mg c x) : ∀ d ∈ c :: cs, XHit K mg d x := fun d hd => (List.mem_cons.mp hd).elim (fun e => e ▸ h) (r d)
theorem refs_nil {mg : Str → Option Value} : ∀ c ∈ ([] : List Str), ∃ A, mg c = some (.ref A) := fun _ h => nomatch h
theorem refs_cons {mg : Str → Option Value} {c : Str} {cs : List Str} (h : ∃ A, mg c = some (.ref A)) (r : ∀ c ∈ cs, ∃ A, mg c = some (.ref A)) : ∀ d ∈ c :: cs, ∃ A, mg d = some (.ref A) := fun d hd => (List.mem_cons.mp hd).elim (fun e => e ▸ h) (r d)
end
theorem kitOne_ve {K : PySem.W.Frag} {A : Addr} (h : PySem.W.subIn K (.ref A) (.type "ValueError") = some true) : PySem.W.kitOne K (.ref A) (.type "ValueError") = some true := by
  have e1 : ((Value.ref A) == (Value.type "ValueError")) = false := rfl
  have e2 : PySem.W.kitMeta "ValueError" = true := by decide +kernel
  unfold PySem.W.kitOne
  rw [e1, if_neg Bool.false_ne_true]
  show (if PySem.W.kitMeta "ValueError" = true then PySem.W.subIn K (.ref A) (.type "ValueError") else none) = _
  rw [if_pos e2]
  exact h
theorem xcls_mk {K : PySem.W.Frag} {mg : Str → Option Value} {h : Heap} (X : K.In h) (G : h.Ns mainGlobals mg) {x : Str} {A : Addr} (a : PySem.W.nsIn K mainGlobals x = some (some (.ref A)))
    (hg : PySem.W.findIn K (.ref A) "__getattribute__" = some (some (.builtin "BaseException.__getattribute__"))) (hk : PySem.W.findIn K (.ref A) "__getattr__" = some none) (hs : PySem.W.subIn K (.ref A) (.type "BaseException") = some true)
    (hd : PySem.W.hasDictIn K A = true) (ha : PySem.W.findIn K (.ref A) "__class__" = some (some (.builtin "object.__class__"))) (hn : PySem.W.specialIn K (.builtin "object.__class__") "__get__" = some (some (.builtin "getset_descriptor.__get__")))
    (ht : PySem.W.takesIn K (.builtin "object.__class__") = some true) (hm : PySem.W.mroIn K A (.type "object") = some true) (ve : PySem.W.subIn K (.ref A) (.type "ValueError") = some true) : ∃ A, XCls K mg x A :=
  ⟨A, PySem.W.mg_of X G a, ⟨hg, hk, hs, hd, ha, hn, ht, hm⟩, kitOne_ve ve⟩
theorem xhit_mk {K : PySem.W.Frag} {mg : Str → Option Value} {h : Heap} (X : K.In h) (G : h.Ns mainGlobals mg) {x y : Str} {A B : Addr} (a : PySem.W.nsIn K mainGlobals x = some (some (.ref A))) (b : PySem.W.nsIn K mainGlobals y = some (some (.ref B)))
    {z : Bool} (s : PySem.W.subIn K (.ref B) (.type "BaseException") = some true) (d : PySem.W.hasDictIn K B = true) (t : PySem.W.typeIn K (.ref B) = some (.type "type")) (e : PySem.W.subIn K (.ref A) (.ref B) = some z) (hz : z = decide (x = y)) : XHit K mg x y := fun A' B' ha hb => by
  rw [PySem.W.mg_of X G a] at ha
  rw [PySem.W.mg_of X G b] at hb
  cases ha
  cases hb
  rw [PySem.W.exm_ref s d t e, hz]
end L2.EV

set_option Elab.async false
set_option linter.all false
set_option maxRecDepth 100000
set_option maxHeartbeats 1000000
/-! sorted(list of tuples of ints), any lengths, any number. -/
namespace L2.EV
open PySem PySem.Spec PyProof.Rows
def lexL : List Int → List Int → Bool
  | [], [] => false
  | [], _ :: _ => true
  | _ :: _, [] => false
  | a :: r, b :: t => if a = b then lexL r t else decide (a < b)
theorem lexL_irr : ∀ a, lexL a a = false
  | [] => rfl
  | a :: r => by simp [lexL, lexL_irr r]
theorem lexL_asym : ∀ a b, lexL a b = true → lexL b a = false
  | [], [], h => by cases h
  | [], _ :: _, _ => rfl
  | _ :: _, [], h => by cases h
  | a :: r, b :: t, h => by
    unfold lexL at h ⊢
    by_cases e : a = b
    · rw [if_pos e] at h
      rw [if_pos e.symm]
      exact lexL_asym r t h
    · rw [if_neg e] at h
      rw [if_neg fun z => e z.symm]
      have := of_decide_eq_true h
      exact decide_eq_false (by omega)
theorem lexL_tr : ∀ x y z, lexL y x = false → lexL z y = false → lexL z x = false
  | [], y, z, h1, h2 => by cases z <;> rfl
  | a :: r, [], z, h1, h2 => by cases h1
  | a :: r, b :: t, [], h1, h2 => by cases h2
  | a :: r, b :: t, c :: u, h1, h2 => by
    unfold lexL at h1 h2 ⊢
    by_cases e1 : b = a
    · subst e1
      rw [if_pos rfl] at h1
      by_cases e2 : c = b
      · subst e2
        rw [if_pos rfl] at h2 ⊢
        exact lexL_tr r t u h1 h2
      · rw [if_neg e2] at h2 ⊢
        exact h2
    · rw [if_neg e1] at h1
      have h1 := of_decide_eq_false h1
      by_cases e2 : c = b
      · subst e2
        rw [if_neg e1]
        exact decide_eq_false h1
      · rw [if_neg e2] at h2
        have h2 := of_decide_eq_false h2
        rw [if_neg (by omega)]
        exact decide_eq_false (by omega)
theorem lexL_tot : ∀ x y, lexL x y = false → lexL y x = false → x = y
  | [], [], _, _ => rfl
  | [], _ :: _, h, _ => by cases h
  | _ :: _, [], _, h => by cases h
  | a :: r, b :: t, h1, h2 => by
    unfold lexL at h1 h2
    by_cases e : a = b
    · subst e
      rw [if_pos rfl] at h1 h2
      rw [lexL_tot r t h1 h2]
    · rw [if_neg e] at h1
      rw [if_neg fun z => e z.symm] at h2
      have h1 := of_decide_eq_false h1
      have h2 := of_decide_eq_false h2
      exact absurd (by omega) e
theorem swo_lexL {α : Type} (k : α → List Int) : SrtO.Swo fun v u => lexL (k v) (k u) := ⟨fun x y => lexL_asym _ _, fun x y z => lexL_tr _ _ _⟩
/-- sorted by lexL -/
def insT (x : List Int) : List (List Int) → List (List Int)
  | [] => [x]
  | y :: r => if lexL y x = true then y :: insT x r else x :: y :: r
def sortT : List (List Int) → List (List Int)
  | [] => []
  | x :: r => insT x (sortT r)
theorem insT_perm (x : List Int) : ∀ l, (insT x l).Perm (x :: l)
  | [] => .refl _
  | y :: r => by
    unfold insT
    split
    · exact ((insT_perm x r).cons y).trans (.swap ..)
    · exact .refl _
theorem sortT_perm : ∀ l, (sortT l).Perm l
  | [] => .refl _
  | x :: r => (insT_perm x _).trans ((sortT_perm r).cons x)
abbrev SrtT (l : List (List Int)) : Prop := l.Pairwise fun x y => lexL y x = false
theorem insT_srt (x : List Int) : ∀ {l : List (List Int)}, SrtT l → SrtT (insT x l)
  | [], _ => List.pairwise_singleton ..
  | y :: r, h => by
    unfold insT
    obtain ⟨h1, h2⟩ := List.pairwise_cons.mp h
    split
    · rename_i hy
      refine List.pairwise_cons.mpr ⟨fun z hz => ?_, insT_srt x h2⟩
      rcases List.mem_cons.mp ((insT_perm x r).mem_iff.mp hz) with rfl | hz
      · exact lexL_asym _ _ hy
      · exact h1 z hz
    · rename_i hy
      have hy : lexL y x = false := by simpa using hy
      refine List.pairwise_cons.mpr ⟨fun z hz => ?_, h⟩
      rcases List.mem_cons.mp hz with rfl | hz
      · exact hy
      · exact lexL_tr _ _ _ hy (h1 z hz)
theorem sortT_srt : ∀ l, SrtT (sortT l)
  | [] => .nil
  | x :: r => insT_srt x (sortT_srt r)
theorem srtT_one : ∀ {a b : List (List Int)}, a.Perm b → SrtT a → SrtT b → a = b := fun {a b} p ha hb => p.eq_of_pairwise (fun x y _ _ h1 h2 => lexL_tot _ _ h2 h1) ha hb
theorem sortT_eq {a b : List (List Int)} (h : a.Perm b) (ha : SrtT a) : a = sortT b := srtT_one (h.trans (sortT_perm b).symm) ha (sortT_srt b)
theorem sortT_length (l : List (List Int)) : (sortT l).length = l.length := (sortT_perm l).length_eq

section
variable {prog : Program} {w : World} {A : Around} {E : Value → Shared → Prop} {s : Shared}
/-- a tuple of ints of the heap -/
def IsTI (h : Heap) (v : Value) (ns : List Int) : Prop := ∃ (a : Addr) (o : Obj) (us : List Value) (n : Nat), v = .ref a ∧ h.get? a = some o ∧ o.cls = .type "tuple" ∧ o.data = .seq us.toArray n ∧ Vals (ns.map V.int) us
theorem vals_ints_inj : ∀ {a b : List Int} {us : List Value}, Vals (a.map V.int) us → Vals (b.map V.int) us → a = b
  | [], [], _, _, _ => rfl
  | [], _ :: _, _, h, g => by cases h; cases g
  | _ :: _, [], _, h, g => by cases g; cases h
  | x :: a, y :: b, _, .cons r h, .cons q g => by
    obtain ⟨t, rfl⟩ := r
    obtain ⟨u, e⟩ := q
    cases e
    rw [vals_ints_inj h g]
theorem IsTI.inj {h : Heap} {v : Value} {a b : List Int} (x : IsTI h v a) (y : IsTI h v b) : a = b := by
  obtain ⟨p, o, us, n, rfl, e, _, d, r⟩ := x
  obtain ⟨p', o', us', n', e1, e', _, d', r'⟩ := y
  cases e1
  rw [e] at e'
  cases e'
  rw [d] at d'
  have : us = us' := by
    have := Data.seq.inj d'
    have := congrArg Array.toList this.1
    simpa using this
  subst this
  exact vals_ints_inj r r'
theorem IsTI.keeps {h h' : Heap} {v : Value} {ns : List Int} (x : IsTI h v ns) (k : ∀ b o, h.get? b = some o → o.cls = .type "tuple" → h'.get? b = some o) : IsTI h' v ns := by
  obtain ⟨p, o, us, n, rfl, e, c, d, r⟩ := x
  exact ⟨p, o, us, n, rfl, k p o e c, c, d, r⟩
theorem tupItems_ints : ∀ {ns : List Int} {us : List Value} {i : Nat}, Vals (ns.map V.int) us → tupItems (fun _ => false) i us = some (ns.map Sum.inl)
  | [], _, _, .nil => rfl
  | n :: ns, _, i, .cons r q => by
    obtain ⟨t, rfl⟩ := r
    show (if (fun _ => false) i = true then none else (tupItems (fun _ => false) (i + 1) _).map (Sum.inl n :: ·)) = _
    rw [if_neg Bool.false_ne_true, tupItems_ints q]
    rfl
theorem lexLt_ints : ∀ a b : List Int, lexLt itemOrd (a.map Sum.inl) (b.map Sum.inl) = lexL a b
  | [], [] => rfl
  | [], _ :: _ => rfl
  | _ :: _, [] => rfl
  | x :: a, y :: b => by
    have ih := lexLt_ints a b
    show (decide (x < y) || (!decide (y < x) && lexLt itemOrd (a.map Sum.inl) (b.map Sum.inl))) = _
    rw [ih]
    show _ = if x = y then lexL a b else decide (x < y)
    by_cases e : x = y
    · subst e; simp
    · rw [if_neg e]
      by_cases l : x < y
      · simp [l]
      · have : y < x := by omega
        simp [l, this]
theorem tups_cmp {vs : List Value} {k : Value → List Int} (hp : ∀ v ∈ vs, IsTI s.heap v (k v)) : SrtO.Cmp prog w A s (tuples' true) (fun p => p.1 ∈ vs) (SrtO.lt2 fun v u => lexL (k v) (k u)) := by
  intro p q hm hm'
  obtain ⟨a, o, us, n, e, ho, hc, hd, r⟩ := hp _ hm
  obtain ⟨a', o', us', n', e', ho', hc', hd', r'⟩ := hp _ hm'
  show wpAny (model prog w) A (keyLt' (tuples' true) p.1 q.1) (fun r s' => s' = s ∧ r = lexL (k p.1) (k q.1)) (fun _ _ => False) s
  generalize k p.1 = x at r ⊢
  generalize k q.1 = y at r' ⊢
  rw [e, e']
  refine PySem.W.kat_lt ho hd ho' hd' ?_
  refine tup_lex (shape := fun _ => false) us us' 0 _ _ (tupItems_ints r) (tupItems_ints r') (by simp) ⟨rfl, ?_⟩
  exact lexLt_ints _ _
theorem firsts_ti {h : Heap} : ∀ {vs : List Value} {k : Value → List Int}, (∀ v ∈ vs, IsTI h v (k v) ∧ k v ≠ []) → ∃ fs : List Value, PySem.W.KatTups h vs fs ∧ fs.length = vs.length ∧ ∀ f ∈ fs, ∃ x t, f = Value.int x t
  | [], _, _ => ⟨[], PySem.W.KatTups.nil, rfl, fun _ hm => by simp at hm⟩
  | v :: vs, k, hp => by
    obtain ⟨fs, h1, h2, h3⟩ := firsts_ti (vs := vs) (k := k) fun v' hm => hp v' (List.mem_cons_of_mem _ hm)
    obtain ⟨⟨a, o, us, n, e, ho, hc, hd, r⟩, hne⟩ := hp v (List.mem_cons_self ..)
    generalize k v = ns at r hne
    subst e
    cases ns with
    | nil => exact absurd rfl hne
    | cons x ns =>
      cases r with
      | cons r0 q =>
        obtain ⟨t, rfl⟩ := r0
        refine ⟨.int x t :: fs, PySem.W.KatTups.cons ho hc hd rfl h1, by rw [List.length_cons, List.length_cons, h2], fun f hm => ?_⟩
        rcases List.mem_cons.mp hm with rfl | hm
        · exact ⟨x, t, rfl⟩
        · exact h3 f hm
theorem tups_sortableO {a : Addr} {vs : List Value} {k : Value → List Int} (h0 : 0 < vs.length) (hp : ∀ v ∈ vs, IsTI s.heap v (k v) ∧ k v ≠ []) (ha : ∀ o, s.heap.get? a = some o → o.cls ≠ .type "tuple") : SrtO.SortableO prog w A s a vs fun v u => lexL (k v) (k u) := by
  intro h' keep
  have hp' : ∀ v ∈ vs, IsTI h' v (k v) ∧ k v ≠ [] := fun v hm => ⟨(hp v hm).1.keeps fun b o e c => keep b o (fun z => by subst z; exact ha o e c) e, (hp v hm).2⟩
  obtain ⟨fs, h1, h2, h3⟩ := firsts_ti hp'
  refine ⟨tuples' true, fun Q E hq => ?_, tups_cmp fun v hm => (hp' v hm).1⟩
  refine PySem.W.kat_kind (T := .type "int") h1 (by omega) (fun f hm => ?_) (by rfl) ?_
  · obtain ⟨x, t, rfl⟩ := h3 f hm
    exact PySem.W.Looks.now
  · have e : (Value.type "int" != Value.type "tuple") = true := by first | decide +kernel | rfl | decide
    rw [e]
    exact hq
/-- sorted(l) of tuples of ints -/
theorem sorted_tis {l : Addr} {vs : List Value} {k : Value → List Int} {Q : Value → Shared → Prop} (hl : s.heap.IsList l vs.toArray) (hz : vs.length ≤ sizeLine) (hp : ∀ v ∈ vs, IsTI s.heap v (k v)) (hne : vs.length < 2 ∨ ∀ v ∈ vs, k v ≠ [])
    (h : ∀ (h' : Heap) (d : Addr) (out : List Value), out.Perm vs → out.map k = sortT (vs.map k) → (∀ b o, s.heap.get? b = some o → h'.get? b = some o) → s.heap.objs.size ≤ d → (∃ n, h'.get? d = some (seqObj "list" out.toArray n)) → Q (.ref d) { s with heap := h' }) :
    wpAny (model prog w) A (call (.builtin "sorted") [.ref l]) Q E s := by
  refine SrtO.sorted_ord (swo_lexL k) hl hz (fun h2 h₁ a ha kk => ?_) fun out hs hb => ?_
  · have hne : ∀ v ∈ vs, k v ≠ [] := hne.elim (fun z => absurd z (by omega)) id
    refine tups_sortableO (s := { s with heap := h₁ }) (by omega) (fun v hm => ⟨(hp v hm).keeps fun b o e _ => (kk b o e).2, hne v hm⟩) fun o e => ?_
    have e' : some o = some (seqObj "list" vs.toArray 0) := e.symm.trans ha
    cases e'
    intro c
    exact absurd (Value.type.inj c) (by decide)
  · refine h _ _ out hb.perm (sortT_eq (hb.perm.map k) ?_) (fun b o e => sortedAll_old e) (Nat.le_succ _) (sortedAll_at s.heap vs out.toArray)
    exact List.pairwise_map.mpr hs
end

/-! ### over the layer -/
inductive TisV (K : PySem.W.Frag) (H : Hp) : List V → List (List Int) → Prop
  | nil : TisV K H [] []
  | cons {t : Addr} {xs : List V} {ns : List Int} {nss : List (List Int)} : SqT K H t (ns.map V.int) → TisV K H xs nss → TisV K H (.ref t :: xs) (ns :: nss)
def rSortT (K : PySem.W.Frag) : List V → Hp → VK → Prop := fun vs H Q => ∃ (ad : Addr) (xs : List V) (nss : List (List Int)), vs = [V.ref ad] ∧ SqL K H ad xs ∧ TisV K H xs nss ∧ (nss.length < 2 ∨ ∀ ns ∈ nss, ns ≠ []) ∧
  ∀ (p : Addr) (ys : List V), H p = none → ys.length = nss.length → (∀ (i : Nat) (y : V) (ns : List Int), ys[i]? = some y → (sortT nss)[i]? = some ns → ∃ j : Nat, xs[j]? = some y ∧ nss[j]? = some ns) → Q (.ref p) (upd H p (.lst ys))
section
variable {X : Cx}
theorem TisV.length {K : PySem.W.Frag} {H : Hp} {xs : List V} {nss : List (List Int)} (h : TisV K H xs nss) : xs.length = nss.length := by
  induction h with
  | nil => rfl
  | cons _ _ ih => simp [ih]
theorem TisV.its {pins : List (Addr × Obj)} {σ : L2.St} {H : Hp} {s : Shared} (I : Inv X pins σ H s) {xs : List V} {nss : List (List Int)} (h : TisV X.K H xs nss) : ∀ {us : List Value}, Vals xs us → ∀ (i : Nat) (u : Value), us[i]? = some u → ∃ ns, nss[i]? = some ns ∧ IsTI s.heap u ns := by
  induction h with
  | nil => intro us r i u e; cases r; simp at e
  | @cons t xs ns nss hq _ ih =>
    intro us r i u e
    cases r with
    | cons r0 q =>
      cases i with
      | zero =>
        simp at e
        subst e
        obtain rfl : _ = Value.ref t := r0
        obtain ⟨its, rv, ⟨o, e1, e2, n, e3⟩, hz⟩ := I.tuple hq
        exact ⟨ns, rfl, t, o, its, n, rfl, e1, e2, e3, rv⟩
      | succ i =>
        obtain ⟨ns', e1, e2⟩ := ih q i u (by simpa using e)
        exact ⟨ns', by simpa using e1, e2⟩
theorem TisV.refs {xs : List V} {nss : List (List Int)} {K : PySem.W.Frag} {H : Hp} (h : TisV K H xs nss) : ∀ x ∈ xs, ∃ t, x = V.ref t := by
  induction h with
  | nil => intro x hx; cases hx
  | cons _ _ ih =>
    intro x hx
    rcases List.mem_cons.mp hx with rfl | hx
    · exact ⟨_, rfl⟩
    · exact ih x hx
theorem backV_refs {xs : List V} {nss : List (List Int)} {K : PySem.W.Frag} {H : Hp} (h : TisV K H xs nss) : ∀ {us : List Value}, Vals xs us → ∀ u ∈ us, ∃ a, u = Value.ref a := by
  induction h with
  | nil => intro us r u hu; cases r; cases hu
  | cons _ _ ih =>
    intro us r u hu
    cases r with
    | cons r0 q =>
      rcases List.mem_cons.mp hu with rfl | hu
      · exact ⟨_, r0⟩
      · exact ih q u hu
theorem cr_sortTup : CallR X (.builtin "sorted") (rSortT X.K) := by
  intro pins s σ H vs us Q I r h
  obtain ⟨ad, xs, nss, rfl, hs, ht, hne, q⟩ := h
  obtain ⟨its, rv, hl, hz⟩ := I.list hs
  rw [Vals.ref1 r]
  have hat := ht.its I rv
  have hlen := rv.length
  have hl2 := ht.length
  have hex : ∀ v ∈ its, ∃ ns, IsTI s.heap v ns := fun v hv => by
    obtain ⟨i, e⟩ := List.getElem?_of_mem hv
    obtain ⟨ns, _, h⟩ := hat i v e
    exact ⟨ns, h⟩
  classical
  let k : Value → List Int := fun v => if h : ∃ ns, IsTI s.heap v ns then h.choose else []
  have hk : ∀ v ns, IsTI s.heap v ns → k v = ns := fun v ns h => by
    have h2 : ∃ ns, IsTI s.heap v ns := ⟨ns, h⟩
    show (if h : ∃ ns, IsTI s.heap v ns then h.choose else []) = ns
    rw [dif_pos h2]
    exact IsTI.inj h2.choose_spec h
  have hki : ∀ v ∈ its, IsTI s.heap v (k v) := fun v hv => by
    obtain ⟨ns, h⟩ := hex v hv
    rw [hk v ns h]
    exact h
  have hmap : its.map k = nss := by
    refine List.ext_getElem? fun i => ?_
    rw [List.getElem?_map]
    cases e : its[i]? with
    | none =>
      have : its.length ≤ i := List.getElem?_eq_none_iff.mp e
      rw [List.getElem?_eq_none (by omega)]
      rfl
    | some v =>
      obtain ⟨ns, e1, e2⟩ := hat i v e
      rw [e1]
      show some (k v) = some ns
      rw [hk v ns e2]
  refine sorted_tis (k := k) hl.isList (by rw [← hlen]; exact hz) hki ?_ fun h' d out hp hm kp hd hn => ?_
  · rcases hne with h | h
    · exact .inl (by omega)
    · exact .inr fun v hv => h (k v) (by rw [← hmap]; exact List.mem_map.mpr ⟨v, hv, rfl⟩)
  · have hr : ∀ u ∈ out, ∃ a, u = Value.ref a := fun u hu => backV_refs ht rv u (hp.mem_iff.mp hu)
    obtain ⟨n, hn⟩ := hn
    have hlo : out.length = its.length := hp.length_eq
    have hv := vals_back hr
    refine ⟨.ref d, upd H d (.lst (out.map backV)), I.laid (t' := s.toks) kp hd ⟨by rw [List.length_map, hlo, ← hlen]; exact hz, out, n, hv, hn⟩, rfl, q d _ (I.hok.fresh hd) (by rw [List.length_map]; omega) fun i y ns ey en => ?_⟩
    rw [List.getElem?_map] at ey
    cases eo : out[i]? with
    | none => rw [eo] at ey; cases ey
    | some u =>
      rw [eo] at ey
      cases ey
      rw [← hmap, ← hm, List.getElem?_map, eo] at en
      cases en
      obtain ⟨j, ej⟩ := List.getElem?_of_mem (hp.mem_iff.mp (List.mem_of_getElem? eo))
      refine ⟨j, ?_, by rw [← hmap, List.getElem?_map, ej]; rfl⟩
      obtain ⟨a, rfl⟩ := hr u (List.mem_of_getElem? eo)
      have hx : j < xs.length := by
        have := (List.getElem?_eq_some_iff.mp ej).1
        omega
      obtain ⟨w, e1, rw'⟩ := rv.get (List.getElem?_eq_getElem hx)
      rw [ej] at e1
      cases e1
      have : xs[j] = V.ref a := by
        have hh : xs[j] ∈ xs := List.getElem_mem hx
        obtain ⟨t, e2⟩ := ht.refs _ hh
        rw [e2] at rw'
        cases (show Value.ref a = Value.ref t from rw')
        exact e2
      rw [List.getElem?_eq_getElem hx, this]
      rfl
/-- the tuples of ints -/
def tupsOf : List PV → Option (List (List Int))
  | [] => some []
  | .tup ts :: r => (intsOf ts).bind fun ns => (tupsOf r).map (ns :: ·)
  | _ => none
theorem tupsOf_eq : ∀ {ts : List PV} {nss : List (List Int)}, tupsOf ts = some nss → ts = nss.map tupI
  | [], nss, h => by simp only [tupsOf, Option.some.injEq] at h; subst h; rfl
  | .tup xs :: r, nss, h => by
    unfold tupsOf at h
    rw [Option.bind_eq_some_iff] at h
    obtain ⟨ns, h1, h2⟩ := h
    rw [Option.map_eq_some_iff] at h2
    obtain ⟨q, h3, rfl⟩ := h2
    rw [tupsOf_eq h3, intsOf_eq h1]
    rfl
  | .non :: r, nss, h => by cases h
  | .bl _ :: r, nss, h => by cases h
  | .int _ :: r, nss, h => by cases h
  | .str _ :: r, nss, h => by cases h
  | .ty _ :: r, nss, h => by cases h
  | .fn _ :: r, nss, h => by cases h
  | .lst _ :: r, nss, h => by cases h
  | .dct _ :: r, nss, h => by cases h
  | .scr _ :: r, nss, h => by cases h
theorem tupsOf_map : ∀ nss : List (List Int), tupsOf (nss.map tupI) = some nss
  | [] => rfl
  | ns :: r => by
    show (intsOf (ns.map PV.int)).bind (fun ns => (tupsOf (r.map tupI)).map (ns :: ·)) = _
    rw [tupsOf_map r, intsOf_map]
    rfl
def pySortT : PV → Option PV
  | .lst ts => (tupsOf ts).bind fun nss => if nss.length < 2 ∨ nss.all (fun ns => !ns.isEmpty) = true then some (.lst ((sortT nss).map tupI)) else none
  | _ => none
theorem tisV_of {K : PySem.W.Frag} {mg : Str → Option Value} {F : Addr → Prop} {H : Hp} : ∀ {nss : List (List Int)} {xs : List V}, RepL K mg F H (nss.map tupI) xs → TisV K H xs nss
  | [], _, .nil => .nil
  | ns :: r, _, .cons (.tup h rl) q => by
    have := rl.ints
    subst this
    exact .cons h.sq (tisV_of q)
theorem repL_of_get {K : PySem.W.Frag} {mg : Str → Option Value} {F : Addr → Prop} {H : Hp} : ∀ {ts : List PV} {vs : List V}, ts.length = vs.length → (∀ (i : Nat) (t : PV) (v : V), ts[i]? = some t → vs[i]? = some v → Rep K mg F H t v) → RepL K mg F H ts vs
  | [], [], _, _ => .nil
  | [], _ :: _, h, _ => by cases h
  | _ :: _, [], h, _ => by cases h
  | t :: ts, v :: vs, h, r => .cons (r 0 t v rfl rfl) (repL_of_get (by simpa using h) fun i t v e1 e2 => r (i + 1) t v (by simpa using e1) (by simpa using e2))
theorem unn_sortT {C : Cp} : UnN C pySortT fun v H Q => rSortT C.K [v] H Q := by
  intro σ env F H t t' v Q n e r q
  cases t with
  | lst ts =>
    unfold pySortT at e
    rw [Option.bind_eq_some_iff] at e
    obtain ⟨nss, h1, h2⟩ := e
    split at h2
    · rename_i hne
      cases h2
      have e1 := tupsOf_eq h1
      subst e1
      obtain ⟨ad, xs, rfl, hs, rl⟩ := r.lst
      refine ⟨ad, xs, nss, rfl, .inl (.inl hs), tisV_of rl, ?_, fun p ys hp hl hy => ?_⟩
      · rcases hne with h | h
        · exact .inl h
        · refine .inr fun ns hm z => ?_
          have := List.all_eq_true.mp h ns hm
          rw [z] at this
          cases this
      · obtain ⟨x, m⟩ := n.laid (o := .lst ys) hp
        have k := n.keep x
        refine q _ _ p (Grow.new hp) ⟨ys, upd_same, repL_of_get (by rw [List.length_map, sortT_length, hl]) fun i t v e1 e2 => ?_⟩ (fun f => n.bok.fd p f hp) hp
        rw [List.getElem?_map] at e1
        cases e3 : (sortT nss)[i]? with
        | none => rw [e3] at e1; cases e1
        | some ns =>
          rw [e3] at e1
          cases e1
          obtain ⟨j, h3, h4⟩ := hy i v ns e2 e3
          obtain ⟨w, h5, h6⟩ := rl.get (i := j) (t := tupI ns) (by rw [List.getElem?_map, h4]; rfl)
          rw [h3] at h5
          cases h5
          exact h6.mono k
    · cases h2
  | _ => cases e
/-- ints or tuples of ints -/
def pySortA (t : PV) : Option PV := match pySortI t with
  | some r => some r
  | none => pySortT t
def rSortA (K : PySem.W.Frag) : List V → Hp → VK → Prop := fun xs H Q => rSortB K xs H Q ∨ rSortT K xs H Q
theorem cr_sortA : CallR X (.builtin "sorted") (rSortA X.K) := cr_sortB.or cr_sortTup
theorem unn_sortA {C : Cp} : UnN C pySortA fun v H Q => rSortA C.K [v] H Q := by
  intro σ env F H t t' v Q n e r q
  unfold pySortA at e
  cases e1 : pySortI t with
  | some r0 =>
    rw [e1] at e
    cases e
    exact .inl (unn_sortI σ env F H t _ v Q n e1 r q)
  | none =>
    rw [e1] at e
    exact .inr (unn_sortT σ env F H t t' v Q n e r q)
end
end L2.EV

set_option Elab.async false
set_option linter.all false
set_option maxRecDepth 100000
/-! tuple(range(..)), tuple * int, dict displays, get, setdefault, update. -/
namespace L2.EV
open PySem PySem.Spec PyProof.Rows
/-! ### tuple(range(..)) -/
/-- an expression that makes a range -/
def PRc (X : Cx) (e : Expr) (t : St → Hp → (Int → Int → Int → Nat → Hp → Prop) → Prop) : Prop :=
  ∀ (pins : List (Addr × Obj)) (s : Shared) (σ : St) (H : Hp) (Q : Int → Int → Int → Nat → Hp → Prop), Inv X pins σ H s → t σ H Q →
    wpAny (model X.prog X.w) X.A (eval e X.env) (fun x s' => ∃ r i j c n t u v H', x = .ref r ∧ IsRange s'.heap r i j c t u v ∧ Inv X pins σ H' s' ∧ Q i j c n H') X.xe s
def rgVc (i c : Int) (n : Nat) : List V := (List.range n).map fun k => V.int (i + (k : Nat) * c)
theorem vals_rgc {i c : Int} {n : Nat} {acc : Array Value} (h : ItemsOf (fun k v => ∃ t, v = .int (i + k * c) t) acc n) : Vals (rgVc i c n) acc.toList := by
  have e : acc.toList.length = n := by rw [Array.length_toList]; exact h.1
  unfold rgVc
  rw [← e]
  refine vals_of_get acc.toList _ fun j u hj => ?_
  obtain ⟨t, rfl⟩ := h.2 j u (by rw [← hj, Array.getElem?_toList])
  exact ⟨t, rfl⟩
section
variable {X : Cx} {a b c e : Expr} {ta tb tc : TE} {p pos : Pos} {t : St → Hp → (Int → Int → Int → Nat → Hp → Prop) → Prop}
theorem pe_tupRc (hc : X.calm = true) (hg : Gl X "tuple") (hm : X.mg "tuple" = none) (he : PRc X e t) (na : starEach [e] X.env = (false, eval e X.env) :: starEach [] X.env := by rfl) :
    PE X (.Call (.Name "tuple" p) [e] [] pos) (fun σ H Q => t σ H fun i j c n H1 => RgC i j c n ∧ n ≤ 2 ^ 24 ∧ NewT H1 (rgVc i c n) Q) := by
  refine ⟨fun pins s σ H Q I h => ?_⟩
  refine Call_ (ld_blt I hg hm boot_tuple (PyProof.Rows.callWith_type1 (args_cons (thn (he pins s σ H _ I h) fun x s1 ⟨r, i, j, c, n, t, u, v, H1, ex, hr, I1, ⟨c0, c1, c2, c3⟩, c4, q⟩ => args_nil ?_) na) na))
  subst ex
  refine call_tuple_range (n := n) (I1.ok.hd hc) hr c2 c3 c4 fun h' tk acc hk hi => ?_
  have I2 : Inv X pins σ H1 { s1 with heap := h', toks := tk } := I1.kept hk
  have z : (rgVc i c n).length ≤ sizeLine := by unfold rgVc; rw [List.length_map, List.length_range, sizeLine_eq]; exact c4
  obtain ⟨H', I', q'⟩ := lay_tup I2 (its := acc.toList) (n := 0) (h' := h'.push { cls := .type "tuple", data := .seq acc.toList.toArray }) (fun b u e => Heap.get?_push_of_some _ e) (vals_rgc hi) z (Nat.le_refl _) (Heap.get?_push_size _ rfl) q (tk := tk)
  rw [Array.toArray_toList] at I'
  exact ⟨.ref _, H', I', rfl, q'⟩
theorem prc_1 (hg : Gl X "range") (hm : X.mg "range" = none) (ha : PE X a ta) (na : starEach [a] X.env = (false, eval a X.env) :: starEach [] X.env := by rfl) : PRc X (.Call (.Name "range" p) [a] [] pos) (fun σ H Q => ta σ H fun x H1 => ∃ n, x = .int n ∧ Q 0 n 1 n.toNat H1) := by
  intro pins s σ H Q I h
  refine Call_ (ld_blt I hg hm boot_range (PyProof.Rows.callWith_type1 (one_arg ha I h (fun v s2 x H2 I2 r q => ?_) na) na))
  obtain ⟨n, rfl, q⟩ := q
  obtain ⟨t, rfl⟩ := r
  exact call_range_1 ⟨_, 0, n, 1, _, _, _, _, H2, rfl, IsRange.new _ _ _ _ _ _ _, I2.kept fun b u e => Heap.get?_push_of_some _ e, q⟩
theorem prc_2 (hg : Gl X "range") (hm : X.mg "range" = none) (ha : PE X a ta) (hb : PE X b tb) (na : starEach [a, b] X.env = (false, eval a X.env) :: starEach [b] X.env := by rfl)
    (nb : starEach [b] X.env = (false, eval b X.env) :: starEach [] X.env := by rfl) (hp : (backTo pos (starEach [b] X.env)).any (·.1) = false := by rfl) : PRc X (.Call (.Name "range" p) [a, b] [] pos) (fun σ H Q => ta σ H fun x H1 => tb σ H1 fun y H2 => ∃ i j, x = .int i ∧ y = .int j ∧ Q i j 1 (j - i).toNat H2) := by
  intro pins s σ H Q I h
  refine Call_ (ld_blt I hg hm boot_range (PyProof.Rows.callWith_type1 (args_cons (thn (ha.run pins s σ H _ I h) fun v s1 ⟨x, H1, I1, r1, q1⟩ => one_arg hb I1 q1 (fun u s2 y H2 I2 r2 q => ?_) nb) na) na hp))
  obtain ⟨i, j, rfl, rfl, q⟩ := q
  obtain ⟨t, rfl⟩ := r1
  obtain ⟨t', rfl⟩ := r2
  exact call_range_2 ⟨_, i, j, 1, _, _, _, _, H2, rfl, IsRange.new _ _ _ _ _ _ _, I2.kept fun b u e => Heap.get?_push_of_some _ e, q⟩
theorem prc_3 {ta : TA} (hg : Gl X "range") (hm : X.mg "range" = none) (ha : PA X [a, b, c] ta) (hs : starEach [a, b, c] X.env = (false, eval a X.env) :: starEach [b, c] X.env := by rfl) (hpl : (backTo pos (starEach [b, c] X.env)).any (·.1) = false := by rfl) :
    PRc X (.Call (.Name "range" p) [a, b, c] [] pos) (fun σ H Q => ta σ H fun vs H1 => ∃ i j c n, vs = [.int i, .int j, .int c] ∧ RgC i j c n ∧ Q i j c n H1) := by
  intro pins s σ H Q I h
  refine Call_ (ld_blt I hg hm boot_range (PyProof.Rows.callWith_type1 (thn (ha.run pos pins s σ H _ I h) fun us s1 ⟨vs, H1, I1, r1, q1⟩ => ?_) hs hpl))
  obtain ⟨i, j, k, n, e, ⟨c0, c1, c2, c3⟩, q⟩ := q1
  subst e
  cases r1 with
  | cons r rr =>
    cases rr with
    | cons r' rr =>
      cases rr with
      | cons r'' rr =>
        cases rr
        obtain ⟨t, rfl⟩ := r
        obtain ⟨t', rfl⟩ := r'
        obtain ⟨t'', rfl⟩ := r''
        exact call_range_3 c0 ⟨_, i, j, k, n, _, _, _, H1, rfl, IsRange.new _ _ _ _ _ _ _, I1.kept (t' := s1.toks) fun b u e => Heap.get?_push_of_some _ e, q⟩ (.inl (PyProof.noPylong_small c1))
end
section
variable {X : Cx} {C : Cp} {k : Nat} {a b c : Expr} {ma mb mc : M PV} {p pos p2 pos2 : Pos}
theorem tupRg_leaf {env : Sl} {σ : St} {F : Addr → Prop} {H : Hp} {i c : Int} {n : Nat} {ts : List PV} {Q : VK} (nw : Now C env σ F H) (hts : ts = (List.range n).map fun k => PV.int (i + (k : Nat) * c)) (q : End C σ F H (tupM ts env) fun t F' H' => ∀ v, Rep C.K C.mg F' H' t v → Q v H') : n ≤ 2 ^ 24 ∧ NewT H (rgVc i c n) Q := by
  unfold tupM at q
  split at q
  · rename_i hz
    have hl : ts.length = n := by rw [hts]; simp
    refine ⟨by rw [sizeLine_eq] at hz; omega, fun pp o hp hd => ?_⟩
    obtain ⟨x, m⟩ := nw.laid (o := .frz o (.tup (rgVc i c n))) hp
    refine q _ _ m x _ (rep_newT hp hd ?_)
    rw [hts]
    unfold rgVc
    have := RepL.of_ints (K := C.K) (mg := C.mg) (F := F) (H := H) ((List.range n).map fun k => i + ((k : Nat) : Int) * c)
    rw [List.map_map, List.map_map] at this
    exact this
  · exact q.elim
theorem re_tupRg1 (rc : RC X C k) (hg : Gl X "range") (hm : C.mg "range" = none) (hg2 : Gl X "tuple") (hm2 : C.mg "tuple" = none) (ha : RE X C a ma) (na : starEach [a] X.env = (false, eval a X.env) :: starEach [] X.env := by rfl)
    (na2 : starEach [.Call (.Name "range" p) [a] [] pos] X.env = (false, eval (.Call (.Name "range" p) [a] [] pos) X.env) :: starEach [] X.env := by rfl) : RE X C (.Call (.Name "tuple" p2) [.Call (.Name "range" p) [a] [] pos] [] pos2) (mbind (rngM1 ma) tupM) :=
  (pe_tupRc rc.calm hg2 (by rw [rc.hmg]; exact hm2) (prc_1 hg (by rw [rc.hmg]; exact hm) ha na) na2).imp fun σ H Q ⟨env, F, n, q⟩ => ⟨env, F, n, q.seq.seq.imp fun t env1 F1 H1 _ _ x1 ⟨env1', n1, q1⟩ v rv => by
    obtain ⟨j, rfl⟩ : ∃ j, t = .int j := by cases t <;> first | exact ⟨_, rfl⟩ | exact (q1 : False).elim
    cases rv
    dsimp only at q1
    split at q1
    · rename_i ok
      obtain ⟨e2, n2, q3⟩ := q1.ret n1
      have ok := of_decide_eq_true ok
      obtain ⟨h1, h2⟩ := tupRg_leaf (i := 0) (c := 1) (n := j.toNat) n2 (by unfold rng1; exact List.map_congr_left fun k _ => by simp) q3
      exact ⟨_, rfl, ⟨by decide, by decide, small_one (by decide) (by decide) ok.1 ok.2, by have := rangeSize_nat 0 j; rw [Int.sub_zero] at this; exact this⟩, h1, h2⟩
    · exact (q1 : False).elim⟩
theorem re_tupRg2 (rc : RC X C k) (hg : Gl X "range") (hm : C.mg "range" = none) (hg2 : Gl X "tuple") (hm2 : C.mg "tuple" = none) (ha : RE X C a ma) (hb : RE X C b mb) (na : starEach [a, b] X.env = (false, eval a X.env) :: starEach [b] X.env := by rfl)
    (nb : starEach [b] X.env = (false, eval b X.env) :: starEach [] X.env := by rfl) (hpl : (backTo pos (starEach [b] X.env)).any (·.1) = false := by rfl)
    (na2 : starEach [.Call (.Name "range" p) [a, b] [] pos] X.env = (false, eval (.Call (.Name "range" p) [a, b] [] pos) X.env) :: starEach [] X.env := by rfl) : RE X C (.Call (.Name "tuple" p2) [.Call (.Name "range" p) [a, b] [] pos] [] pos2) (mbind (rngM2 ma mb) tupM) :=
  (pe_tupRc rc.calm hg2 (by rw [rc.hmg]; exact hm2) (prc_2 hg (by rw [rc.hmg]; exact hm) ha hb na nb hpl) na2).imp fun σ H Q ⟨env, F, n, q⟩ => ⟨env, F, n, q.seq.seq.imp fun t env1 F1 H1 _ _ x1 ⟨env1', n1, q1⟩ v rv => ⟨env1', F1, n1, q1.seq.imp fun u env2 F2 H2 _ _ x2 ⟨env2', n2, q2⟩ w rw' => by
    obtain ⟨i, j, rfl, rfl⟩ : ∃ i j, t = .int i ∧ u = .int j := by cases t <;> cases u <;> first | exact ⟨_, _, rfl, rfl⟩ | exact (q2 : False).elim
    cases rv
    cases rw'
    dsimp only at q2
    split at q2
    · rename_i ok
      rw [Bool.and_eq_true] at ok
      obtain ⟨e2, n3, q3⟩ := q2.ret n2
      have ok1 := of_decide_eq_true ok.1
      have ok2 := of_decide_eq_true ok.2
      obtain ⟨h1, h2⟩ := tupRg_leaf (i := i) (c := 1) (n := (j - i).toNat) n3 (by unfold rng2; exact List.map_congr_left fun k _ => by simp) q3
      exact ⟨_, _, rfl, rfl, ⟨by decide, by decide, small_one ok1.1 ok1.2 ok2.1 ok2.2, rangeSize_nat i j⟩, h1, h2⟩
    · exact (q2 : False).elim⟩⟩
theorem re_tupRg3 (rc : RC X C k) (hg : Gl X "range") (hm : C.mg "range" = none) (hg2 : Gl X "tuple") (hm2 : C.mg "tuple" = none) (ha : RE X C a ma) (hb : RE X C b mb) (hc : RE X C c mc) (hs : starEach [a, b, c] X.env = (false, eval a X.env) :: starEach [b, c] X.env := by rfl)
    (hs2 : starEach [b, c] X.env = (false, eval b X.env) :: starEach [c] X.env := by rfl) (hs3 : starEach [c] X.env = (false, eval c X.env) :: starEach [] X.env := by rfl) (hpl : (backTo pos (starEach [b, c] X.env)).any (·.1) = false := by rfl)
    (na2 : starEach [.Call (.Name "range" p) [a, b, c] [] pos] X.env = (false, eval (.Call (.Name "range" p) [a, b, c] [] pos) X.env) :: starEach [] X.env := by rfl) : RE X C (.Call (.Name "tuple" p2) [.Call (.Name "range" p) [a, b, c] [] pos] [] pos2) (mbind (rngM3 ma mb mc) tupM) :=
  (pe_tupRc rc.calm hg2 (by rw [rc.hmg]; exact hm2) (prc_3 hg (by rw [rc.hmg]; exact hm) (pa_cons ha (pa_cons hb (pa_cons hc pa_nil hs3) hs2) hs) hs hpl) na2).imp fun σ H Q ⟨env, F, n, q⟩ => ⟨env, F, n, q.seq.seq.imp fun t env1 F1 H1 _ _ x1 ⟨env1', n1, q1⟩ v rv => ⟨env1', F1, n1, q1.seq.imp fun u env2 F2 H2 _ _ x2 ⟨env2', n2, q2⟩ w rw' =>
    ⟨env2', F2, n2, q2.seq.imp fun x env3 F3 H3 _ _ _ ⟨env3', n3, q3⟩ y ry => by
    cases t <;> cases u <;> cases x <;> try exact (q3 : False).elim
    cases rv
    cases rw'
    cases ry
    dsimp only at q3
    split at q3
    · rename_i z
      unfold rgOk3 at z
      obtain ⟨z1, z2, z3, z4⟩ := of_decide_eq_true z
      obtain ⟨e2, n4, q4⟩ := q3.ret n3
      obtain ⟨h1, h2⟩ := tupRg_leaf n4 rfl q4
      exact ⟨_, _, _, _, rfl, ⟨z1, z2, z3, by omega⟩, ⟨z1, z2, z3, by omega⟩, h1, h2⟩
    · exact (q3 : False).elim⟩⟩⟩
end
end L2.EV

set_option Elab.async false
set_option linter.all false
set_option maxRecDepth 100000
/-! The run of a mirror, by simp; values as plain data. -/
namespace L2.EV
open PySem PySem.Spec PyProof.Rows L2
theorem rngM3_r {e : Sl} {ma mb mc : M PV} : rngM3 ma mb mc e = mbind ma (fun t => mbind mb fun u => mbind mc fun v => match t, u, v with
  | .int i, .int j, .int c => if rgOk3 i j c = true then mret (rng3 i c (Builtin.Range.rangeSize i j c).toNat) else mstuck
  | _, _, _ => mstuck) e := rfl

/-- at most so many items -/
def Sm {α : Type} (k : Nat) (l : List α) : Prop := l.length + k ≤ 16777216
instance {α : Type} (k : Nat) (l : List α) : Decidable (Sm k l) := inferInstanceAs (Decidable (_ ≤ _))
theorem sm_nil {α : Type} {k : Nat} : Sm k ([] : List α) ↔ k ≤ 16777216 := by unfold Sm; simp
theorem sm_cons {α : Type} {k : Nat} {a : α} {l : List α} : Sm k (a :: l) ↔ Sm (k + 1) l := by unfold Sm; rw [List.length_cons]; constructor <;> (intro h; omega)
theorem sm_map {α β : Type} {k : Nat} {f : α → β} {l : List α} : Sm k (l.map f) ↔ Sm k l := by unfold Sm; rw [List.length_map]
theorem sm_filter {α : Type} {p : α → Bool} {l : List α} (h : Sm 0 l) : Sm 0 (l.filter p) := Nat.le_trans (List.length_filter_le _ _) h
theorem sm_of {α : Type} {l : List α} (h : l.length ≤ 16777216) : Sm 0 l := h
theorem sm_len {α : Type} {l : List α} (h : Sm 0 l) : l.length ≤ 16777216 := h
theorem tupM_z {e : Sl} {ts : List PV} : tupM ts e = if Sm 0 ts then .ok (.tup ts) e else .stuck := tupM_r
theorem lstM_z {e : Sl} {ts : List PV} : lstM ts e = if Sm 0 ts then .ok (.lst ts) e else .stuck := lstM_r
theorem lcM_z {e : Sl} {vs : List Nat} {tg : Tg} {tt : M Bool} {te : M PV} {mi : M (List PV)} : lcM vs tg tt te mi e = mbind mi (fun ts => mbind (lcL vs tg tt te ts) fun ys e => if Sm 0 ys then .ok (.lst ys) e else .stuck) e := lcM_r
section
variable {α β γ : Type} {enc : α → PV} {vs : List Nat} {g : Tg} {tt : M Bool} {te : M PV} {env : Sl} {b : S}
/-! ### comprehensions -/
theorem lc_map (f : α → PV) : ∀ {l : List α}, (∀ x ∈ l, ∃ e1, g (enc x) (wipeE env vs) = some e1 ∧ te e1 = .ok (f x) e1 ∧ unw env vs e1 = env) → lcL vs g tYesM te (l.map enc) env = .ok (l.map f) env
  | [], _ => rfl
  | x :: l, h => by
    obtain ⟨e1, h1, h2, h3⟩ := h x (by simp)
    have ih := lc_map f (l := l) fun y hy => h y (by simp [hy])
    rw [List.map_cons]
    unfold lcL
    have h4 : (tYesM : M Bool) e1 = .ok true e1 := rfl
    simp only [h1, h4, h2, h3, ih, List.map_cons]
theorem lc_fil (p : α → Bool) (f : α → PV) : ∀ {l : List α}, (∀ x ∈ l, ∃ e1, g (enc x) (wipeE env vs) = some e1 ∧ tt e1 = .ok (p x) e1 ∧ (p x = true → te e1 = .ok (f x) e1) ∧ unw env vs e1 = env) → lcL vs g tt te (l.map enc) env = .ok ((l.filter p).map f) env
  | [], _ => rfl
  | x :: l, h => by
    obtain ⟨e1, h1, h2, h3, h4⟩ := h x (by simp)
    have ih := lc_fil p f (l := l) fun y hy => h y (by simp [hy])
    rw [List.map_cons]
    unfold lcL
    cases hp : p x with
    | false =>
      rw [hp] at h2
      simp only [h1, h2, h4, ih]
      rw [List.filter_cons_of_neg (by simp [hp])]
    | true =>
      rw [hp] at h2
      simp only [h1, h2, h3 hp, h4, ih]
      rw [List.filter_cons_of_pos hp]
      rfl
/-! ### loops -/
/-- E s o: the slots, s what is kept, o the rest -/
theorem sfor_fold (E : β → γ → Sl) (step : β → α → β) (P : β → Prop) : ∀ {l : List α} {s : β} {o : γ}, P s → (∀ s o x, x ∈ l → P s → ∃ e1, g (enc x) (E s o) = some e1 ∧ (∃ o', b e1 = .nx (E (step s x) o') ∨ b e1 = .ct (E (step s x) o')) ∧ P (step s x)) →
    ∃ o', sfor g b (l.map enc) (E s o) = .nx (E (l.foldl step s) o') ∧ P (l.foldl step s)
  | [], s, o, hP, _ => ⟨o, rfl, hP⟩
  | x :: l, s, o, hP, h => by
    obtain ⟨e1, h1, ⟨o1, h2⟩, h3⟩ := h s o x (by simp) hP
    obtain ⟨o2, h4, h5⟩ := sfor_fold E step P (l := l) (o := o1) h3 fun s o y hy hs => h s o y (by simp [hy]) hs
    refine ⟨o2, ?_, h5⟩
    rw [List.map_cons]
    unfold sfor
    rcases h2 with h2 | h2 <;> simp only [h1, h2, h4, List.foldl_cons]
/-- a loop that hands back at the first item with an answer -/
theorem sfor_find (E : γ → Sl) (f : α → Option PV) (Q : Sl → Prop) : ∀ {l : List α} {o : γ}, (∀ o x, x ∈ l → ∃ e1, g (enc x) (E o) = some e1 ∧ match f x with
      | none => ∃ o', b e1 = .nx (E o') ∨ b e1 = .ct (E o')
      | some t => ∃ e2, b e1 = .rt t e2 ∧ Q e2) →
    match l.findSome? f with
    | none => ∃ o', sfor g b (l.map enc) (E o) = .nx (E o')
    | some t => ∃ e2, sfor g b (l.map enc) (E o) = .rt t e2 ∧ Q e2
  | [], o, _ => ⟨o, rfl⟩
  | x :: l, o, h => by
    obtain ⟨e1, h1, h2⟩ := h o x (by simp)
    rw [List.map_cons]
    unfold sfor
    simp only [h1]
    rw [List.findSome?_cons]
    cases hf : f x with
    | some t =>
      rw [hf] at h2
      obtain ⟨e2, h3, h4⟩ := h2
      exact ⟨e2, by rw [h3], h4⟩
    | none =>
      rw [hf] at h2
      obtain ⟨o1, h3⟩ := h2
      have ih := sfor_find E f Q (l := l) (o := o1) fun o y hy => h o y (by simp [hy])
      rcases h3 with h3 | h3 <;> (simp only [h3]; exact ih)
end

/-! ### ints -/
theorem pyAddA_i (a b : Int) : pyAddA (.int a) (.int b) = some (.int (a + b)) := rfl
theorem pySub_i (a b : Int) : pySub (.int a) (.int b) = some (.int (a - b)) := rfl
theorem pyLt_i (a b : Int) : pyLt (.int a) (.int b) = some (.bl (decide (a < b))) := rfl
theorem pyLe_i (a b : Int) : pyLe (.int a) (.int b) = some (.bl (decide (a ≤ b))) := rfl
theorem pyGt_i (a b : Int) : pyGt (.int a) (.int b) = some (.bl (decide (b < a))) := rfl
theorem pyGe_i (a b : Int) : pyGe (.int a) (.int b) = some (.bl (decide (b ≤ a))) := rfl
theorem pyEq_i (a b : Int) : pyEq (.int a) (.int b) = some (.bl (decide (a = b))) := rfl
theorem pyNe_i (a b : Int) : pyNe (.int a) (.int b) = some (.bl (!decide (a = b))) := rfl
theorem pyMod_i {a b : Int} (h : 0 < b) : pyMod (.int a) (.int b) = some (.int (a % b)) := by simp [pyMod, onInts, h]
theorem pyDiv_i {a b : Int} (h : 0 < b ∧ b < 1073741824) : pyDiv (.int a) (.int b) = some (.int (a / b)) := by simp [pyDiv, onInts, divOk, h]
theorem pyMulI_r {a b : Int} (h : -(2 ^ 64) < b ∧ b < 2 ^ 64) : pyMulI (.int a) (.int b) = some (.int (a * b)) := by
  have : mulOk a b = true := decide_eq_true (.inr h)
  simp only [pyMulI, onInts, this, if_true]
theorem pyMulI_l {a b : Int} (h : -(2 ^ 64) < a ∧ a < 2 ^ 64) : pyMulI (.int a) (.int b) = some (.int (a * b)) := by
  have : mulOk a b = true := decide_eq_true (.inl h)
  simp only [pyMulI, onInts, this, if_true]
theorem pyPow_i {a b : Int} (h : 0 ≤ b ∧ b ≤ 1000000 ∧ a.natAbs < 2 ^ 64) : pyPow (.int a) (.int b) = some (.int (a ^ b.toNat)) := by
  have : powOk a b = true := decide_eq_true h
  simp only [pyPow, onInts, this, if_true]
theorem pyLen_t (ts : List PV) : pyLen (.tup ts) = some (.int ts.length) := rfl
theorem pyLen_l (ts : List PV) : pyLen (.lst ts) = some (.int ts.length) := rfl
theorem pyInt_i (a : Int) : pyInt (.int a) = some (.int a) := rfl
theorem pyInt_b (a : Bool) : pyInt (.bl a) = some (.int (if a then 1 else 0)) := rfl
theorem pyIs_n (t : PV) : pyIs t .non = some (.bl (isNon t)) := by cases t <;> rfl
theorem pyIsNot_n (t : PV) : pyIsNot t .non = some (.bl (!isNon t)) := by cases t <;> rfl
theorem blsOf_all {α : Type} (f : α → Bool) : ∀ l : List α, blsOf (l.map fun x => PV.bl (f x)) = some (l.map f)
  | [] => rfl
  | x :: r => by
    have ih := blsOf_all f r
    rw [List.map_cons, List.map_cons]
    unfold blsOf
    rw [ih]
    rfl
theorem pyAll_m {α : Type} (f : α → Bool) (l : List α) : pyAll (.lst (l.map fun x => PV.bl (f x))) = some (.bl (l.all f)) := by
  show (blsOf (l.map fun x => PV.bl (f x))).map (fun bs => PV.bl (bs.all id)) = _
  rw [blsOf_all, Option.map_some, List.all_map]
  rfl
theorem pyAny_m {α : Type} (f : α → Bool) (l : List α) : pyAny (.lst (l.map fun x => PV.bl (f x))) = some (.bl (l.any f)) := by
  show (blsOf (l.map fun x => PV.bl (f x))).map (fun bs => PV.bl (bs.any id)) = _
  rw [blsOf_all, Option.map_some, List.any_map]
  rfl
theorem intsOf_m {α : Type} (f : α → Int) (l : List α) : intsOf (l.map fun x => PV.int (f x)) = some (l.map f) := by
  have := intsOf_map (l.map f)
  rw [List.map_map] at this
  exact this
theorem pyMax_m {α : Type} (f : α → Int) (l : List α) : pyMax (.lst (l.map fun x => PV.int (f x))) = maxL (l.map f) := by
  show (intsOf (l.map fun x => PV.int (f x))).bind maxL = _
  rw [intsOf_m]
  rfl
theorem pyMin_m {α : Type} (f : α → Int) (l : List α) : pyMin (.lst (l.map fun x => PV.int (f x))) = minL (l.map f) := by
  show (intsOf (l.map fun x => PV.int (f x))).bind minL = _
  rw [intsOf_m]
  rfl
theorem pySum_m {α : Type} (f : α → Int) (l : List α) : pySum (.lst (l.map fun x => PV.int (f x))) = some (.int (l.map f).sum) := by
  show (intsOf (l.map fun x => PV.int (f x))).bind (fun ns => some (PV.int ns.sum)) = _
  rw [intsOf_m]
  rfl
/-! ### membership -/
theorem inP_i (k : Int) : ∀ l : List Int, inP (.int k) (l.map PV.int) = decide (k ∈ l)
  | [] => by simp [inP]
  | x :: r => by
    have ih := inP_i k r
    unfold inP at ih ⊢
    rw [List.map_cons, List.any_cons, ih]
    show ((x == k) || decide (k ∈ r)) = decide (k ∈ x :: r)
    by_cases h : x = k
    · subst h; simp
    · have h' : ¬ k = x := fun z => h z.symm
      simp [h, h']
theorem flat_i : ∀ l : List Int, (l.map PV.int).all flatP = true
  | [] => rfl
  | x :: r => by rw [List.map_cons, List.all_cons, flat_i r]; rfl
theorem pyInB_i (k : Int) (l : List Int) : (if flatP (.int k) = true ∧ (l.map PV.int).all flatP = true then some (inP (.int k) (l.map PV.int)) else none) = some (decide (k ∈ l)) := by rw [if_pos ⟨rfl, flat_i l⟩, inP_i]
theorem pyIn_t (k : Int) (l : List Int) : pyIn (.int k) (.tup (l.map PV.int)) = some (.bl (decide (k ∈ l))) := by
  show (if flatP (.int k) = true ∧ (l.map PV.int).all flatP = true then some (inP (.int k) (l.map PV.int)) else none).map PV.bl = _
  rw [pyInB_i]; rfl
theorem pyIn_l (k : Int) (l : List Int) : pyIn (.int k) (.lst (l.map PV.int)) = some (.bl (decide (k ∈ l))) := pyIn_t k l
theorem pyNotIn_t (k : Int) (l : List Int) : pyNotIn (.int k) (.tup (l.map PV.int)) = some (.bl (!decide (k ∈ l))) := by
  show (if flatP (.int k) = true ∧ (l.map PV.int).all flatP = true then some (inP (.int k) (l.map PV.int)) else none).map (fun b => PV.bl !b) = _
  rw [pyInB_i]; rfl
theorem pyNotIn_l (k : Int) (l : List Int) : pyNotIn (.int k) (.lst (l.map PV.int)) = some (.bl (!decide (k ∈ l))) := pyNotIn_t k l
theorem pyTuple_l (ts : List PV) : pyTuple (.lst ts) = some (.tup ts) := rfl
theorem pyTuple_t (ts : List PV) : pyTuple (.tup ts) = some (.tup ts) := rfl
theorem pyList_t (ts : List PV) : pyList (.tup ts) = some (.lst ts) := rfl
theorem pyList_l (ts : List PV) : pyList (.lst ts) = some (.lst ts) := rfl
theorem pyAddA_t {xs ys : List PV} (h : xs.length + ys.length ≤ 16777216) : pyAddA (.tup xs) (.tup ys) = some (.tup (xs ++ ys)) := by
  have e : pyAdd (.tup xs) (.tup ys) = some (.tup (xs ++ ys)) := by
    show (if xs.length + ys.length ≤ sizeLine then some (PV.tup (xs ++ ys)) else none) = _
    rw [sizeLine_eq, if_pos h]
  unfold pyAddA
  rw [e]
theorem pyAddA_l {xs ys : List PV} (h : xs.length + ys.length ≤ 16777216) : pyAddA (.lst xs) (.lst ys) = some (.lst (xs ++ ys)) := by
  show (if xs.length + ys.length ≤ sizeLine then some (PV.lst (xs ++ ys)) else none) = _
  rw [sizeLine_eq, if_pos h]
theorem pyRepL_s {ts : List PV} {k : Int} (h : 0 ≤ k ∧ k ≤ 1000000 ∧ ts.length * k.toNat ≤ 16777216) : pyRepL (.lst ts) (.int k) = some (.lst (List.replicate k.toNat ts).flatten) := by
  show (if -(2 ^ 63) ≤ k ∧ k < 2 ^ 63 ∧ ts.length * k.toNat ≤ sizeLine then some (PV.lst (List.replicate k.toNat ts).flatten) else none) = _
  rw [sizeLine_eq, if_pos ⟨by omega, by omega, h.2.2⟩]
theorem pySortA_i (l : List Int) {t : PV} (ht : items t = some (l.map PV.int)) : pySortA t = some (.lst ((sortI l).map PV.int)) := by
  have : pySortI t = some (.lst ((sortI l).map PV.int)) := by
    show (items t).bind (fun ts => (intsOf ts).bind fun ns => some (PV.lst ((sortI ns).map PV.int))) = _
    rw [ht, Option.bind_some, intsOf_map, Option.bind_some]
  unfold pySortA
  rw [this]
theorem pySortA_t {nss : List (List Int)} (h : nss.length < 2 ∨ ∀ ns ∈ nss, ns ≠ []) : pySortA (.lst (nss.map tupI)) = some (.lst ((sortT nss).map tupI)) := by
  have e2 : pySortT (.lst (nss.map tupI)) = some (.lst ((sortT nss).map tupI)) := by
    show (tupsOf (nss.map tupI)).bind _ = _
    rw [tupsOf_map, Option.bind_some, if_pos]
    rcases h with h | h
    · exact .inl h
    · exact .inr (List.all_eq_true.mpr fun ns hn => by
        cases ns with
        | nil => exact absurd rfl (h [] hn)
        | cons _ _ => rfl)
  unfold pySortA
  cases nss with
  | nil => rfl
  | cons x r =>
    have e1 : pySortI (.lst ((x :: r).map tupI)) = none := rfl
    rw [e1]
    exact e2
/-! ### 0 .. n - 1 and a .. b - 1 -/
def rgI (n : Int) : List Int := (List.range n.toNat).map fun k => ((k : Nat) : Int)
def rgJ (i j : Int) : List Int := (List.range (j - i).toNat).map fun k => i + ((k : Nat) : Int)
theorem rng1_eq (n : Int) : rng1 n = (rgI n).map PV.int := by
  unfold rng1 rgI
  rw [List.map_map]
  rfl
theorem rng2_eq (i j : Int) : rng2 i j = (rgJ i j).map PV.int := by
  unfold rng2 rgJ
  rw [List.map_map]
  rfl
theorem rgI_len (n : Int) : (rgI n).length = n.toNat := by simp [rgI]
theorem rgJ_len (i j : Int) : (rgJ i j).length = (j - i).toNat := by simp [rgJ]
theorem rgI_mem {n k : Int} : k ∈ rgI n ↔ 0 ≤ k ∧ k < n := by
  unfold rgI
  rw [List.mem_map]
  constructor
  · rintro ⟨j, hj, rfl⟩
    have := List.mem_range.mp hj
    omega
  · rintro ⟨h1, h2⟩
    exact ⟨k.toNat, List.mem_range.mpr (by omega), by omega⟩
theorem rgJ_mem {i j k : Int} : k ∈ rgJ i j ↔ i ≤ k ∧ k < j := by
  unfold rgJ
  rw [List.mem_map]
  constructor
  · rintro ⟨l, hl, rfl⟩
    have := List.mem_range.mp hl
    omega
  · rintro ⟨h1, h2⟩
    exact ⟨(k - i).toNat, List.mem_range.mpr (by omega), by omega⟩
theorem rgI_nodup (n : Int) : (rgI n).Nodup := by
  unfold rgI
  exact List.pairwise_map.mpr (List.nodup_range.imp fun h z => h (Int.ofNat.inj z))
theorem rgJ_asc (i j : Int) : (rgJ i j).Pairwise (· < ·) := by
  unfold rgJ
  exact List.pairwise_map.mpr (List.pairwise_lt_range.imp fun h => by omega)
theorem rgI_asc (n : Int) : (rgI n).Pairwise (· < ·) := by
  unfold rgI
  exact List.pairwise_map.mpr (List.pairwise_lt_range.imp fun h => by omega)
theorem rgJ_snoc {i j : Int} (h : i ≤ j) : rgJ i (j + 1) = rgJ i j ++ [j] := by
  unfold rgJ
  have e : (j + 1 - i).toNat = (j - i).toNat + 1 := by omega
  rw [e, List.range_succ, List.map_append]
  congr 1
  simp
  omega
theorem rgOk_s {n : Int} (h : -1000000000 ≤ n ∧ n ≤ 1000000000) : rgOk n = true := decide_eq_true ⟨by omega, by omega⟩
theorem lstRg1_s {n : Int} (h : 0 ≤ n ∧ n ≤ 10000000) : lstRg1 (.int n) = some (.lst ((rgI n).map PV.int)) := by
  show lstRg 0 n = _
  unfold lstRg
  rw [if_pos ⟨by decide, by decide, by omega, by omega, by omega⟩, rng2_eq]
  unfold rgJ rgI
  rw [Int.sub_zero]
  congr 3
  exact List.map_congr_left fun i _ => by simp
theorem lstRg2_s {i j : Int} (h : -1000000 ≤ i ∧ i ≤ j ∧ j ≤ 1000000) : lstRg2 (.int i) (.int j) = some (.lst ((rgJ i j).map PV.int)) := by
  show lstRg i j = _
  unfold lstRg
  rw [if_pos ⟨by omega, by omega, by omega, by omega, by omega⟩, rng2_eq]
end L2.EV

set_option Elab.async false
set_option linter.all false
set_option maxRecDepth 100000
/-! == of plain data. -/
namespace L2.EV
open PySem PySem.Spec PyProof.Rows L2
mutual
/-- plain data, at most so deep -/
def okD : Nat → PV → Bool
  | _, .non => true
  | _, .bl _ => true
  | _, .int _ => true
  | _, .str x => PyData.canLay0 (.str x)
  | k + 1, .tup ts => okDs k ts
  | k + 1, .lst ts => okDs k ts
  | _, _ => false
def okDs : Nat → List PV → Bool
  | _, [] => true
  | k, t :: ts => okD k t && okDs k ts
end
mutual
theorem toD_ok : ∀ (k : Nat) (t : PV), okD k t = true → ∃ d, toD t = some d ∧ PyData.canLay0 d = true ∧ d.depth ≤ k
  | _, .non, _ => ⟨_, rfl, rfl, Nat.zero_le _⟩
  | _, .bl _, _ => ⟨_, rfl, rfl, Nat.zero_le _⟩
  | _, .int _, _ => ⟨_, rfl, rfl, Nat.zero_le _⟩
  | _, .str _, h => ⟨_, rfl, by simpa [okD] using h, Nat.zero_le _⟩
  | k + 1, .tup ts, h => by
    obtain ⟨ds, h1, h2, h3⟩ := toDs_ok k ts (by simpa [okD] using h)
    exact ⟨.tuple ds, by simp only [toD, h1, Option.map_some], h2, Nat.succ_le_succ h3⟩
  | k + 1, .lst ts, h => by
    obtain ⟨ds, h1, h2, h3⟩ := toDs_ok k ts (by simpa [okD] using h)
    exact ⟨.list ds, by simp only [toD, h1, Option.map_some], h2, Nat.succ_le_succ h3⟩
  | 0, .tup _, h => by simp [okD] at h
  | 0, .lst _, h => by simp [okD] at h
  | _, .ty _, h => by simp [okD] at h
  | _, .fn _, h => by simp [okD] at h
  | _, .dct _, h => by simp [okD] at h
  | _, .scr _, h => by simp [okD] at h
theorem toDs_ok : ∀ (k : Nat) (ts : List PV), okDs k ts = true → ∃ ds, toDs ts = some ds ∧ PyData.canLayAll0 ds = true ∧ PyData.depthAll ds ≤ k
  | _, [], _ => ⟨[], rfl, rfl, Nat.zero_le _⟩
  | k, t :: ts, h => by
    rw [okDs, Bool.and_eq_true] at h
    obtain ⟨d, h1, h2, h3⟩ := toD_ok k t h.1
    obtain ⟨ds, h4, h5, h6⟩ := toDs_ok k ts h.2
    refine ⟨d :: ds, by simp only [toDs, h1, h4], ?_, Nat.max_le.mpr ⟨h3, h6⟩⟩
    show (PyData.canLay0 d && PyData.canLayAll0 ds) = true
    rw [h2, h5]
    rfl
end
def pvE (t u : PV) : Bool := match toD t, toD u with
  | some d, some e => PyData.eqv d e
  | _, _ => false
theorem eqD_ok {t u : PV} (h : okD 60 t = true) (h' : okD 60 u = true) : eqD t u = some (pvE t u) := by
  obtain ⟨d, h1, h2, h3⟩ := toD_ok 60 t h
  obtain ⟨e, h4, h5, h6⟩ := toD_ok 60 u h'
  have s1 : SeqAt.shaped d = true := by
    unfold SeqAt.shaped
    rw [h2, decide_eq_true (show d.depth ≤ 64 by omega)]
    rfl
  have s2 : SeqAt.shaped e = true := by
    unfold SeqAt.shaped
    rw [h5, decide_eq_true (show e.depth ≤ 64 by omega)]
    rfl
  unfold eqD pvE
  rw [h1, h4]
  simp only [s1, s2, and_self, if_true]
theorem pyEqB_ok {t u : PV} (h : okD 60 t = true) (h' : okD 60 u = true) : pyEqB t u = some (pvE t u) := by
  unfold pyEqB
  split
  · rfl
  · rfl
  · rfl
  · exact eqD_ok h h'
theorem pyEq_ok {t u : PV} (h : okD 60 t = true) (h' : okD 60 u = true) : pyEq t u = some (.bl (pvE t u)) := by
  unfold pyEq
  rw [pyEqB_ok h h']
  rfl
theorem pyNe_ok {t u : PV} (h : okD 60 t = true) (h' : okD 60 u = true) : pyNe t u = some (.bl !(pvE t u)) := by
  unfold pyNe
  rw [pyEqB_ok h h']
  rfl
mutual
theorem okD_le : ∀ (k l : Nat) (t : PV), k ≤ l → okD k t = true → okD l t = true
  | _, _, .non, _, _ => by unfold okD; rfl
  | _, _, .bl _, _, _ => by unfold okD; rfl
  | _, _, .int _, _, _ => by unfold okD; rfl
  | _, _, .str _, _, o => by unfold okD at o ⊢; exact o
  | k + 1, l + 1, .tup ts, h, o => by
    unfold okD at o ⊢
    exact okDs_le k l ts (Nat.le_of_succ_le_succ h) o
  | k + 1, l + 1, .lst ts, h, o => by
    unfold okD at o ⊢
    exact okDs_le k l ts (Nat.le_of_succ_le_succ h) o
  | 0, _, .tup _, _, o => by simp [okD] at o
  | 0, _, .lst _, _, o => by simp [okD] at o
  | _ + 1, 0, _, h, _ => absurd h (by omega)
  | _, _, .ty _, _, o => by simp [okD] at o
  | _, _, .fn _, _, o => by simp [okD] at o
  | _, _, .dct _, _, o => by simp [okD] at o
  | _, _, .scr _, _, o => by simp [okD] at o
theorem okDs_le : ∀ (k l : Nat) (ts : List PV), k ≤ l → okDs k ts = true → okDs l ts = true
  | _, _, [], _, _ => by unfold okDs; rfl
  | k, l, t :: ts, h, o => by
    unfold okDs at o ⊢
    rw [Bool.and_eq_true] at o ⊢
    exact ⟨okD_le k l t h o.1, okDs_le k l ts h o.2⟩
end
theorem okDs_all {k : Nat} : ∀ {ts : List PV}, (∀ t ∈ ts, okD k t = true) → okDs k ts = true
  | [], _ => by unfold okDs; rfl
  | t :: ts, h => by
    unfold okDs
    rw [h t (by simp), okDs_all fun u hu => h u (by simp [hu])]
    rfl
theorem okDs_ints {k : Nat} (l : List Int) : okDs k (l.map PV.int) = true := okDs_all fun t ht => by
  obtain ⟨i, _, rfl⟩ := List.mem_map.mp ht
  unfold okD
  rfl
theorem okD_tupI {k : Nat} (l : List Int) : okD (k + 1) (.tup (l.map PV.int)) = true := by unfold okD; exact okDs_ints l
theorem okD_lstI {k : Nat} (l : List Int) : okD (k + 1) (.lst (l.map PV.int)) = true := by unfold okD; exact okDs_ints l
theorem okD_tupL {k : Nat} {ts : List PV} (h : ∀ t ∈ ts, okD k t = true) : okD (k + 1) (.tup ts) = true := by unfold okD; exact okDs_all h
theorem okD_lstL {k : Nat} {ts : List PV} (h : ∀ t ∈ ts, okD k t = true) : okD (k + 1) (.lst ts) = true := by unfold okD; exact okDs_all h
mutual
/-- plain data without bools -/
def nbD : PV → Bool
  | .non => true
  | .int _ => true
  | .str _ => true
  | .tup ts => nbDs ts
  | .lst ts => nbDs ts
  | _ => false
def nbDs : List PV → Bool
  | [] => true
  | t :: ts => nbD t && nbDs ts
end
mutual
theorem toD_inj : ∀ (t u : PV), nbD t = true → nbD u = true → ∀ d e, toD t = some d → toD u = some e → (PyData.eqv d e = true ↔ t = u)
  | .non, u, _, hu, d, e, h1, h2 => by
    cases u <;> simp [nbD, toD] at hu h1 h2 <;> subst h1 <;> try subst h2
    · simp [PyData.eqv]
    · simp [PyData.eqv]
    · simp [PyData.eqv]
    · obtain ⟨ds, _, rfl⟩ := h2; simp [PyData.eqv]
    · obtain ⟨ds, _, rfl⟩ := h2; simp [PyData.eqv]
  | .int i, u, _, hu, d, e, h1, h2 => by
    cases u <;> simp [nbD, toD] at hu h1 h2 <;> subst h1 <;> try subst h2
    · simp [PyData.eqv]
    · simp [PyData.eqv]
    · simp [PyData.eqv]
    · obtain ⟨ds, _, rfl⟩ := h2; simp [PyData.eqv]
    · obtain ⟨ds, _, rfl⟩ := h2; simp [PyData.eqv]
  | .str x, u, _, hu, d, e, h1, h2 => by
    cases u <;> simp [nbD, toD] at hu h1 h2 <;> subst h1 <;> try subst h2
    · simp [PyData.eqv]
    · simp [PyData.eqv]
    · simp [PyData.eqv]
    · obtain ⟨ds, _, rfl⟩ := h2; simp [PyData.eqv]
    · obtain ⟨ds, _, rfl⟩ := h2; simp [PyData.eqv]
  | .tup ts, u, ht, hu, d, e, h1, h2 => by
    have h1 : (toDs ts).map PyData.tuple = some d := by simpa [toD] using h1
    obtain ⟨ds, h3, rfl⟩ := Option.map_eq_some_iff.mp h1
    cases u <;> simp [nbD, toD] at hu h2 <;> try subst h2
    · simp [PyData.eqv]
    · simp [PyData.eqv]
    · simp [PyData.eqv]
    · rename_i us
      obtain ⟨es, h4, rfl⟩ := h2
      have := toDs_inj ts us (by simpa [nbD] using ht) hu ds es h3 h4
      simpa [PyData.eqv] using this
    · obtain ⟨es, h4, rfl⟩ := h2; simp [PyData.eqv]
  | .lst ts, u, ht, hu, d, e, h1, h2 => by
    have h1 : (toDs ts).map PyData.list = some d := by simpa [toD] using h1
    obtain ⟨ds, h3, rfl⟩ := Option.map_eq_some_iff.mp h1
    cases u <;> simp [nbD, toD] at hu h2 <;> try subst h2
    · simp [PyData.eqv]
    · simp [PyData.eqv]
    · simp [PyData.eqv]
    · obtain ⟨es, h4, rfl⟩ := h2; simp [PyData.eqv]
    · rename_i us
      obtain ⟨es, h4, rfl⟩ := h2
      have := toDs_inj ts us (by simpa [nbD] using ht) hu ds es h3 h4
      simpa [PyData.eqv] using this
  | .bl _, _, h, _, _, _, _, _ => by simp [nbD] at h
  | .ty _, _, h, _, _, _, _, _ => by simp [nbD] at h
  | .fn _, _, h, _, _, _, _, _ => by simp [nbD] at h
  | .dct _, _, h, _, _, _, _, _ => by simp [nbD] at h
  | .scr _, _, h, _, _, _, _, _ => by simp [nbD] at h
theorem toDs_inj : ∀ (ts us : List PV), nbDs ts = true → nbDs us = true → ∀ ds es, toDs ts = some ds → toDs us = some es → (PyData.eqvAll ds es = true ↔ ts = us)
  | [], [], _, _, ds, es, h1, h2 => by
    simp [toDs] at h1 h2
    subst h1 h2
    simp [PyData.eqvAll]
  | [], u :: us, _, _, ds, es, h1, h2 => by
    simp [toDs] at h1
    subst h1
    unfold toDs at h2
    split at h2
    · cases h2; simp [PyData.eqvAll]
    · cases h2
  | t :: ts, [], _, _, ds, es, h1, h2 => by
    simp [toDs] at h2
    subst h2
    unfold toDs at h1
    split at h1
    · cases h1; simp [PyData.eqvAll]
    · cases h1
  | t :: ts, u :: us, ht, hu, ds, es, h1, h2 => by
    unfold toDs at h1 h2
    split at h1
    · rename_i d ds' e1 e2
      cases h1
      split at h2
      · rename_i e es' e3 e4
        cases h2
        rw [nbDs, Bool.and_eq_true] at ht hu
        have i1 := toD_inj t u ht.1 hu.1 d e e1 e3
        have i2 := toDs_inj ts us ht.2 hu.2 ds' es' e2 e4
        rw [PyData.eqvAll, Bool.and_eq_true, i1, i2, List.cons.injEq]
      · cases h2
    · cases h1
end
theorem pvE_iff {t u : PV} (o : okD 60 t = true) (o' : okD 60 u = true) (h : nbD t = true) (h' : nbD u = true) : pvE t u = true ↔ t = u := by
  obtain ⟨d, h1, _⟩ := toD_ok 60 t o
  obtain ⟨e, h2, _⟩ := toD_ok 60 u o'
  unfold pvE
  rw [h1, h2]
  exact toD_inj t u h h' d e h1 h2
theorem nbDs_all : ∀ {ts : List PV}, (∀ t ∈ ts, nbD t = true) → nbDs ts = true
  | [], _ => by unfold nbDs; rfl
  | t :: ts, h => by
    unfold nbDs
    rw [h t (by simp), nbDs_all fun u hu => h u (by simp [hu])]
    rfl
theorem nbDs_ints (l : List Int) : nbDs (l.map PV.int) = true := nbDs_all fun t ht => by
  obtain ⟨i, _, rfl⟩ := List.mem_map.mp ht
  unfold nbD
  rfl
theorem map_int_inj {a b : List Int} : a.map PV.int = b.map PV.int ↔ a = b :=
  ⟨fun h => (List.map_inj_right (fun x y h => PV.int.inj h)).mp h, fun h => by rw [h]⟩
theorem map_tupI_inj {a b : List (List Int)} : a.map tupI = b.map tupI ↔ a = b :=
  ⟨fun h => (List.map_inj_right (fun x y h => map_int_inj.mp (PV.tup.inj h))).mp h, fun h => by rw [h]⟩
theorem bool_of_iff {b : Bool} {p : Prop} [Decidable p] (h : b = true ↔ p) : b = decide p := by
  by_cases hp : p
  · rw [decide_eq_true hp, h.mpr hp]
  · rw [decide_eq_false hp]
    cases b with
    | false => rfl
    | true => exact absurd (h.mp rfl) hp
theorem pvE_t (a b : List Int) : pvE (.tup (a.map PV.int)) (.tup (b.map PV.int)) = decide (a = b) :=
  bool_of_iff ((pvE_iff (okD_tupI a) (okD_tupI b) (by unfold nbD; exact nbDs_ints a) (by unfold nbD; exact nbDs_ints b)).trans (by rw [PV.tup.injEq, map_int_inj]))
theorem pvE_l (a b : List Int) : pvE (.lst (a.map PV.int)) (.lst (b.map PV.int)) = decide (a = b) :=
  bool_of_iff ((pvE_iff (okD_lstI a) (okD_lstI b) (by unfold nbD; exact nbDs_ints a) (by unfold nbD; exact nbDs_ints b)).trans (by rw [PV.lst.injEq, map_int_inj]))
theorem pyEq_t (a b : List Int) : pyEq (.tup (a.map PV.int)) (.tup (b.map PV.int)) = some (.bl (decide (a = b))) := by rw [pyEq_ok (okD_tupI a) (okD_tupI b), pvE_t]
theorem pyNe_t (a b : List Int) : pyNe (.tup (a.map PV.int)) (.tup (b.map PV.int)) = some (.bl (!decide (a = b))) := by rw [pyNe_ok (okD_tupI a) (okD_tupI b), pvE_t]
theorem pyEq_l (a b : List Int) : pyEq (.lst (a.map PV.int)) (.lst (b.map PV.int)) = some (.bl (decide (a = b))) := by rw [pyEq_ok (okD_lstI a) (okD_lstI b), pvE_l]
theorem pyNe_l (a b : List Int) : pyNe (.lst (a.map PV.int)) (.lst (b.map PV.int)) = some (.bl (!decide (a = b))) := by rw [pyNe_ok (okD_lstI a) (okD_lstI b), pvE_l]
theorem pyEq_t0 (a : List Int) : pyEq (.tup (a.map PV.int)) (.tup []) = some (.bl a.isEmpty) := by
  have := pyEq_t a []
  rw [show (([] : List Int).map PV.int) = [] from rfl] at this
  rw [this]
  cases a <;> rfl
theorem pyNe_t0 (a : List Int) : pyNe (.tup (a.map PV.int)) (.tup []) = some (.bl !a.isEmpty) := by
  have := pyNe_t a []
  rw [show (([] : List Int).map PV.int) = [] from rfl] at this
  rw [this]
  cases a <;> rfl
/-- a list, empty or not -/
theorem pvE_l0 {ts : List PV} (h : okD 60 (.lst ts) = true) : pvE (.lst ts) (.lst []) = ts.isEmpty := by
  obtain ⟨d, h1, _⟩ := toD_ok 60 _ h
  have h2 : (toDs ts).map PyData.list = some d := by simpa [toD] using h1
  obtain ⟨ds, h3, rfl⟩ := Option.map_eq_some_iff.mp h2
  unfold pvE
  rw [h1]
  cases ts with
  | nil => simp [toDs] at h3; subst h3; rfl
  | cons t ts =>
    unfold toDs at h3
    split at h3
    · cases h3; rfl
    · cases h3
theorem okD_nil {k : Nat} : okD (k + 1) (.lst []) = true := by unfold okD okDs; rfl
theorem pyEq_l0 {ts : List PV} (h : okD 60 (.lst ts) = true) : pyEq (.lst ts) (.lst []) = some (.bl ts.isEmpty) := by rw [pyEq_ok h okD_nil, pvE_l0 h]
theorem pyNe_l0 {ts : List PV} (h : okD 60 (.lst ts) = true) : pyNe (.lst ts) (.lst []) = some (.bl !ts.isEmpty) := by rw [pyNe_ok h okD_nil, pvE_l0 h]
theorem pyEq_li0 (l : List Int) : pyEq (.lst (l.map PV.int)) (.lst []) = some (.bl l.isEmpty) := by
  rw [pyEq_l0 (okD_lstI l)]
  cases l <;> rfl
theorem pyNe_li0 (l : List Int) : pyNe (.lst (l.map PV.int)) (.lst []) = some (.bl !l.isEmpty) := by
  rw [pyNe_l0 (okD_lstI l)]
  cases l <;> rfl
theorem okD_lstT {k : Nat} (l : List (List Int)) : okD (k + 2) (.lst (l.map tupI)) = true := okD_lstL fun t ht => by
  obtain ⟨a, _, rfl⟩ := List.mem_map.mp ht
  exact okD_tupI a
theorem pyEq_lt0 (l : List (List Int)) : pyEq (.lst (l.map tupI)) (.lst []) = some (.bl l.isEmpty) := by
  rw [pyEq_l0 (okD_lstT l)]
  cases l <;> rfl
theorem pyNe_lt0 (l : List (List Int)) : pyNe (.lst (l.map tupI)) (.lst []) = some (.bl !l.isEmpty) := by
  rw [pyNe_l0 (okD_lstT l)]
  cases l <;> rfl
end L2.EV

set_option Elab.async false
set_option linter.all false
set_option maxRecDepth 100000
/-! Lists of ints: places, parts. -/
namespace L2.EV
open PySem PySem.Spec PyProof.Rows L2
theorem mulOk_r {a b : Int} (h : -1000000 ≤ b ∧ b ≤ 1000000) : mulOk a b = true := by
  unfold mulOk
  refine decide_eq_true (.inr ⟨?_, ?_⟩) <;> omega
theorem divOk_r {a b : Int} (h : 0 < b ∧ b ≤ 1000000) : divOk a b = true := by
  unfold divOk
  refine decide_eq_true ⟨?_, ?_⟩ <;> omega
theorem rgOk_r {n : Int} (h : -1000000 ≤ n ∧ n ≤ 1000000) : rgOk n = true := decide_eq_true ⟨by omega, by omega⟩
theorem atI_nat {α : Type} {l : List α} {i : Int} {t : α} (h0 : 0 ≤ i) (h : l[i.toNat]? = some t) : L2.atI l i = some t := by
  obtain ⟨h1, _⟩ := List.getElem?_eq_some_iff.mp h
  unfold L2.atI L2.ixN
  rw [if_pos h0, if_pos (by omega)]
  exact h
theorem atI_last {α : Type} {l : List α} {t : α} (h : l.getLast? = some t) : L2.atI l (-1) = some t := by
  rw [List.getLast?_eq_getElem?] at h
  obtain ⟨h1, _⟩ := List.getElem?_eq_some_iff.mp h
  unfold L2.atI L2.ixN
  rw [if_neg (by decide), if_pos (by omega)]
  have e : ((-1 : Int) + (l.length : Int)).toNat = l.length - 1 := by omega
  rw [e]
  exact h
theorem setAt_lst {l : List Int} {k v : Int} (h0 : 0 ≤ k) (h1 : k < l.length) : setAt (lstI l) (.int k) (.int v) = some (lstI (l.set k.toNat v)) := by
  have e : L2.ixN (l.map PV.int).length k = some k.toNat := by
    unfold L2.ixN
    rw [if_pos h0, if_pos (by rw [List.length_map]; exact h1)]
  show ((asI (PV.int k)).bind fun k => (L2.ixN (l.map PV.int).length k).map fun j => PV.lst ((l.map PV.int).set j (.int v))) = _
  simp only [asI, Option.bind_some, e, Option.map_some]
  show _ = some (PV.lst ((l.set k.toNat v).map PV.int))
  rw [List.map_set]
theorem augGet_lst {l : List Int} {k : Int} (h0 : 0 ≤ k) (h1 : k < l.length) : augGet (lstI l) (.int k) = some (.int (l[k.toNat]?.getD 0)) := by
  show (if 0 ≤ k then (l.map PV.int)[k.toNat]? else none) = _
  rw [if_pos h0, List.getElem?_map, List.getElem?_eq_getElem (by omega)]
  rfl
theorem lst_at {l : List Int} {k : Int} (h0 : 0 ≤ k) (h1 : k < l.length) : pyIxF (lstI l) (.int k) = some (.int (l[k.toNat]?.getD 0)) := by
  show L2.atI (l.map PV.int) k = _
  refine atI_nat h0 ?_
  rw [List.getElem?_map, List.getElem?_eq_getElem (by omega)]
  rfl
theorem map_erase : ∀ (p : List Int) (i : Nat), (p.map PV.int).eraseIdx i = (p.eraseIdx i).map PV.int
  | [], _ => by simp
  | a :: p, 0 => by simp
  | a :: p, i + 1 => by simp [map_erase p i]
theorem perm_erase : ∀ (p : List Int) (i : Nat) (h : i < p.length), (p[i] :: p.eraseIdx i).Perm p
  | [], _, h => by simp at h
  | a :: p, 0, h => by simp
  | a :: p, i + 1, h => by
    have hi : i < p.length := by simpa using h
    have ih := perm_erase p i hi
    simp only [List.getElem_cons_succ, List.eraseIdx_cons_succ]
    exact (List.Perm.swap a p[i] _).trans (ih.cons a)
theorem cut_take {α : Type} (f : α → PV) (l : List α) {m : Int} (h : 0 ≤ m) : cutP (l.map f) none (some m) = (l.take m.toNat).map f := by
  unfold cutP
  have e1 : HT.sIx (l.map f).length (l.map f).length (some m) = min m.toNat l.length := by
    have := HT.sIx_nat (l.map f).length (l.map f).length m.toNat
    rw [Int.toNat_of_nonneg h] at this
    rw [this, List.length_map]
  rw [e1, HT.sIx_none, List.drop_zero, Nat.sub_zero, ← List.map_take]
  congr 1
  by_cases hm : m.toNat ≤ l.length
  · rw [Nat.min_eq_left hm]
  · rw [Nat.min_eq_right (by omega), List.take_of_length_le (Nat.le_refl _), List.take_of_length_le (by omega)]
theorem cut_part {α : Type} (f : α → PV) (l : List α) {m k : Int} (h : 0 ≤ m) (h2 : 0 ≤ k) : ∃ q : List α, cutP (l.map f) (some m) (some k) = q.map f ∧ q.length ≤ k.toNat - m.toNat ∧ (q ≠ [] → m.toNat < l.length) := by
  unfold cutP
  have e1 : HT.sIx (l.map f).length 0 (some m) = min m.toNat l.length := by
    have := HT.sIx_nat (l.map f).length 0 m.toNat
    rw [Int.toNat_of_nonneg h] at this
    rw [this, List.length_map]
  have e2 : HT.sIx (l.map f).length (l.map f).length (some k) = min k.toNat l.length := by
    have := HT.sIx_nat (l.map f).length (l.map f).length k.toNat
    rw [Int.toNat_of_nonneg h2] at this
    rw [this, List.length_map]
  rw [e1, e2]
  refine ⟨(l.drop (min m.toNat l.length)).take (min k.toNat l.length - min m.toNat l.length), by rw [List.map_take, List.map_drop], ?_, fun hn => ?_⟩
  · rw [List.length_take, List.length_drop]
    omega
  · have := List.length_pos_iff.mpr hn
    rw [List.length_take, List.length_drop] at this
    omega
theorem zip_self : ∀ ts : List PV, zipL ts ts = ts.map fun t => PV.tup [t, t]
  | [] => rfl
  | t :: r => by
    show PV.tup [t, t] :: zipL r r = _
    rw [zip_self r]
    rfl
theorem pyAll_true (n : Nat) : pyAll (.lst (List.replicate n (.bl true))) = some (.bl true) := by
  have bb : blsOf (List.replicate n (PV.bl true)) = some (List.replicate n true) := by
    have := blsOf_map (List.replicate n true)
    rw [List.map_replicate] at this
    exact this
  simp [pyAll, bb]
/-- a loop over a .. m - 1: f n is what is kept ahead of n -/
theorem sfor_rgJ {β γ : Type} {g : Tg} {b : S} (E : β → γ → Sl) (f : Int → β) {a m : Int} (h : ∀ (n : Int) (o : γ), a ≤ n → n < m → ∃ e1, g (.int n) (E (f n) o) = some e1 ∧ ∃ o', b e1 = .nx (E (f (n + 1)) o')) (ham : a ≤ m) (o : γ) :
    ∃ o', sfor g b ((rgJ a m).map PV.int) (E (f a) o) = .nx (E (f m) o') := by
  obtain ⟨k, rfl⟩ : ∃ k : Nat, m = a + k := ⟨(m - a).toNat, by omega⟩
  clear ham
  induction k generalizing a o with
  | zero =>
    refine ⟨o, ?_⟩
    have : rgJ a (a + (0 : Nat)) = [] := by unfold rgJ; simp
    rw [this, show a + ((0 : Nat) : Int) = a by omega]
    rfl
  | succ k ih =>
    have e0 : rgJ a (a + ((k + 1 : Nat) : Int)) = a :: rgJ (a + 1) (a + 1 + (k : Int)) := by
      unfold rgJ
      have e1 : (a + ((k + 1 : Nat) : Int) - a).toNat = k + 1 := by omega
      have e2 : (a + 1 + (k : Int) - (a + 1)).toNat = k := by omega
      rw [e1, e2, List.range_succ_eq_map, List.map_cons, List.map_map]
      congr 1
      · simp
      · exact List.map_congr_left fun i _ => by simp; omega
    obtain ⟨e1, h1, o1, h2⟩ := h a o (Int.le_refl _) (by omega)
    obtain ⟨o2, h3⟩ := ih o1 (a := a + 1) (fun n o h1 h2 => h n o (by omega) (by omega))
    refine ⟨o2, ?_⟩
    rw [e0, List.map_cons]
    unfold sfor
    simp only [h1, h2]
    rw [show a + ((k + 1 : Nat) : Int) = a + 1 + (k : Int) by omega]
    exact h3
theorem rgJ_self (a : Int) : rgJ a a = [] := by unfold rgJ; simp
theorem rgJ_cons {a m : Int} (h : a < m) : rgJ a m = a :: rgJ (a + 1) m := by
  unfold rgJ
  obtain ⟨k, hk⟩ : ∃ k : Nat, (m - a).toNat = k + 1 := ⟨(m - a).toNat - 1, by omega⟩
  have e2 : (m - (a + 1)).toNat = k := by omega
  rw [hk, e2, List.range_succ_eq_map, List.map_cons, List.map_map]
  congr 1
  · simp
  · exact List.map_congr_left fun i _ => by simp; omega
/-! step by step -/
theorem sseq_nx {f g : S} {e e1 : Sl} (h : f e = .nx e1) : sseq f g e = g e1 := by unfold sseq; rw [h]
theorem sseq_rt {f g : S} {e e1 : Sl} {t : PV} (h : f e = .rt t e1) : sseq f g e = .rt t e1 := by unfold sseq; rw [h]
theorem fnM_rt {n : Nat} {sig : List Bool} {fr : Bool} {b : S} {ts : List PV} {t : PV} {e : Sl} {mu : List PV} (h : b (ts.map some ++ List.replicate (n - ts.length) none) = .rt t e) (hl : lentOf e 0 sig = some mu) : fnM n sig fr b ts = .ok t mu := by
  unfold fnM
  rw [h]
  dsimp only
  rw [hl]
theorem mcons_ok {m : M PV} {ms : M (List PV)} {e e1 e2 : Sl} {x : PV} {xs : List PV} (h : m e = .ok x e1) (hs : ms e1 = .ok xs e2) : mcons m ms e = .ok (x :: xs) e2 := by
  unfold mcons mbind
  rw [h]
  dsimp only
  rw [hs]
  rfl
theorem mnil_ok {e : Sl} : (mret ([] : List PV)) e = .ok [] e := rfl
theorem mret_ok {α : Type} {x : α} {e : Sl} : mret x e = .ok x e := rfl
theorem mbind_ok {α β : Type} {m : M α} {f : α → M β} {e e1 : Sl} {x : α} {r : Out β} (h : m e = .ok x e1) (hf : f x e1 = r) : mbind m f e = r := by
  unfold mbind
  rw [h]
  exact hf
theorem sbind_ok {α : Type} {m : M α} {f : α → S} {e e1 : Sl} {x : α} {r : Fl} (h : m e = .ok x e1) (hf : f x e1 = r) : sbind m f e = r := by
  unfold sbind
  rw [h]
  exact hf
theorem sm_1 {a : PV} : Sm 0 [a] := by unfold Sm; simp
theorem sm_2 {a b : PV} : Sm 0 [a, b] := by unfold Sm; simp
theorem lstM_ok {ts : List PV} {e : Sl} (h : Sm 0 ts) : lstM ts e = .ok (.lst ts) e := by rw [lstM_z, if_pos h]
theorem tupM_ok {ts : List PV} {e : Sl} (h : Sm 0 ts) : tupM ts e = .ok (.tup ts) e := by rw [tupM_z, if_pos h]
theorem callM_ok {f : List PV → FO} {ms : List (Option Nat)} {margs : M (List PV)} {e e1 : Sl} {ts ts' : List PV} {t : PV} {mu : List PV} (h : margs e = .ok ts e1) (hr : resolve ms ts e1 = some ts') (hf : f ts' = .ok t mu) : callM f ms margs e = .ok t (putMu (ms.filterMap id) mu e1) := by
  unfold callM mbind
  rw [h]
  dsimp only
  rw [hr]
  dsimp only
  rw [hf]
end L2.EV

set_option Elab.async false
set_option linter.all false
set_option maxRecDepth 100000
/-! dicts of what is held; comprehensions of two clauses. -/
namespace L2.EV
open PySem PySem.Spec PyProof.Rows L2
def heldK (l : List Int) : List (Key × PV) := mergeP [] (l.map fun x => ((Sum.inl x : Key), PV.bl true))
theorem getK_put (kvs : List (Key × PV)) (k j : Key) (v : PV) : (getK (putP kvs k v) j).isSome = (decide (j = k) || (getK kvs j).isSome) := by
  have fs : ∀ l : List (Key × PV), (getK l j).isSome = l.any fun kv => decide (kv.1 = j) := fun l => by
    unfold getK
    rw [Option.isSome_map]
    induction l with
    | nil => rfl
    | cons x r ih =>
      rw [List.find?_cons, List.any_cons]
      cases decide (x.1 = j) with
      | true => rfl
      | false => exact ih
  rw [fs, fs]
  unfold putP
  split
  · rename_i h
    obtain ⟨y, hy, e⟩ := List.any_eq_true.mp h
    have e := of_decide_eq_true e
    have e1 : ((kvs.map fun kv => if kv.1 = k then (kv.1, v) else kv).any fun kv => decide (kv.1 = j)) = kvs.any fun kv => decide (kv.1 = j) := by
      rw [List.any_map]
      congr 1
      funext kv
      show decide ((if kv.1 = k then (kv.1, v) else kv).1 = j) = _
      split <;> rfl
    rw [e1]
    by_cases hj : j = k
    · have : (kvs.any fun kv => decide (kv.1 = j)) = true := List.any_eq_true.mpr ⟨y, hy, decide_eq_true (by rw [e, hj])⟩
      rw [this, Bool.or_true]
    · rw [decide_eq_false hj, Bool.false_or]
  · rw [List.any_append, List.any_cons, List.any_nil, Bool.or_false, Bool.or_comm]
    congr 1
    by_cases hj : j = k
    · rw [decide_eq_true hj, decide_eq_true hj.symm]
    · rw [decide_eq_false hj, decide_eq_false (fun z => hj z.symm)]
theorem getK_merge (j : Key) : ∀ (ks acc : List (Key × PV)), (getK (mergeP acc ks) j).isSome = ((getK acc j).isSome || ks.any fun kv => decide (j = kv.1))
  | [], acc => by simp [mergeP]
  | kv :: r, acc => by
    show (getK (mergeP (putP acc kv.1 kv.2) r) j).isSome = _
    rw [getK_merge j r, getK_put, List.any_cons]
    cases decide (j = kv.1) <;> cases (getK acc j).isSome <;> rfl
theorem held_in (l : List Int) (k : Int) : (getK (heldK l) (.inl k)).isSome = decide (k ∈ l) := by
  unfold heldK
  rw [getK_merge]
  show (false || _) = _
  rw [Bool.false_or, List.any_map]
  have : ((fun kv : Key × PV => decide ((Sum.inl k : Key) = kv.1)) ∘ fun x : Int => ((Sum.inl x : Key), PV.bl true)) = fun x => decide (k = x) := by
    funext x
    show decide ((Sum.inl k : Key) = Sum.inl x) = _
    by_cases h : k = x
    · rw [decide_eq_true h, decide_eq_true (by rw [h])]
    · rw [decide_eq_false h, decide_eq_false (fun z => h (Sum.inl.inj z))]
  rw [this]
  by_cases h : k ∈ l
  · rw [decide_eq_true h, List.any_eq_true]
    exact ⟨k, h, decide_eq_true rfl⟩
  · rw [decide_eq_false h, List.any_eq_false]
    intro x hx z
    exact h (of_decide_eq_true z ▸ hx)
theorem pairs_held : ∀ l : List Int, pairsOf (l.map fun x => PV.tup [.int x, .bl true]) = some (l.map fun x => ((Sum.inl x : Key), PV.bl true))
  | [] => rfl
  | x :: r => by simp [pairsOf, asKey, pairs_held r]
theorem pyDict_held (l : List Int) : pyDict (.lst (l.map fun x => PV.tup [.int x, .bl true])) = some (.dct (heldK l)) := by
  unfold pyDict
  simp only [pairs_held, Option.map_some]
  rfl
theorem pyIn_held (l : List Int) (k : Int) : pyIn (.int k) (.dct (heldK l)) = some (.bl (decide (k ∈ l))) := by
  show ((some ((getK (heldK l) (.inl k)).isSome)).map PV.bl) = _
  rw [held_in]
  rfl
theorem pyNotIn_held (l : List Int) (k : Int) : pyNotIn (.int k) (.dct (heldK l)) = some (.bl (!decide (k ∈ l))) := by
  show ((some ((getK (heldK l) (.inl k)).isSome)).map fun b => PV.bl !b) = _
  rw [held_in]
  rfl
theorem held_map {α : Type} (f : α → Int) (l : List α) : pyDict (.lst (l.map fun x => PV.tup [.int (f x), .bl true])) = some (.dct (heldK (l.map f))) := by
  have := pyDict_held (l.map f)
  rw [List.map_map] at this
  exact this
section
variable {α : Type} {enc : α → PV} {vs vs1 : List Nat} {g g1 : Tg} {mi1 : M (List PV)} {tt1 : M Bool} {te : M PV} {env : Sl}
theorem lc2_map (r : α → List PV) : ∀ {l : List α}, (∀ x ∈ l, ∃ e1 ts, g (enc x) (wipeE env vs) = some e1 ∧ mi1 e1 = .ok ts e1 ∧ lcL vs1 g1 tt1 te ts e1 = .ok (r x) e1 ∧ unw env vs e1 = env) →
    lcL2 vs g tYesM vs1 mi1 g1 tt1 te (l.map enc) env = .ok (l.flatMap r) env
  | [], _ => rfl
  | x :: l, h => by
    obtain ⟨e1, ts, h1, h2, h3, h4⟩ := h x (by simp)
    have ih := lc2_map r (l := l) fun y hy => h y (by simp [hy])
    rw [List.map_cons]
    unfold lcL2
    have h5 : (tYesM : M Bool) e1 = .ok true e1 := rfl
    simp only [h1, h5, h2, h3, h4, ih, List.flatMap_cons]
theorem lcM2_z {e : Sl} {tt : M Bool} {mi : M (List PV)} : lcM2 vs g tt vs1 mi1 g1 tt1 te mi e = mbind mi (fun ts => mbind (lcL2 vs g tt vs1 mi1 g1 tt1 te ts) fun ys e => if Sm 0 ys then .ok (.lst ys) e else .stuck) e := by
  unfold lcM2 mbind
  cases mi e with
  | ok ts e1 =>
    dsimp only
    cases lcL2 vs g tt vs1 mi1 g1 tt1 te ts e1 with
    | ok ys e2 =>
      dsimp only
      have : (ys.length ≤ sizeLine) = Sm 0 ys := by unfold Sm; rw [sizeLine_eq]; rfl
      by_cases hz : Sm 0 ys
      · rw [if_pos hz, if_pos (by rw [this]; exact hz)]
        rfl
      · rw [if_neg hz, if_neg (by rw [this]; exact hz)]
        rfl
    | exc c => rfl
    | stuck => rfl
  | exc c => rfl
  | stuck => rfl
end
end L2.EV

set_option Elab.async false
set_option linter.all false
set_option maxRecDepth 100000
set_option maxHeartbeats 0
namespace L2.EV.k63
open PySem PySem.Spec PyProof.Rows L2 L2.EV
def b_is_number : S := (sbind (andV (un (isiP ["int"]) (slot 0)) (notV (un (isiP ["bool"]) (slot 0)))) sret)
def m_is_number : List PV → FO := fnM 1 [false] false b_is_number
def b_primes_in : S := (sseq (spar3 1 2 3 (mbind (mret []) lstM) (slot 0) (mret (.int 2)))
  (sseq (fun env => swhile (mbind (bin pyGt (slot 2) (mret (.int 1))) asB) (sseq (sif (mbind (bin pyEq (bin pyMod (slot 2) (slot 3)) (mret (.int 0))) asB)
  (sseq (sbind (mmut appP 1 (slot 3)) fun _ => snx)
  (fun env => swhile (mbind (bin pyEq (bin pyMod (slot 2) (slot 3)) (mret (.int 0))) asB) (sbind (bin pyDiv (slot 2) (slot 3)) (sput 2)) (whileFuel env) env))
  snx)
  (saug pyAddI 3 (mret (.int 1)))) (whileFuel env) env)
  (sretO 1)))
def m_primes_in : List PV → FO := fnM 4 [false] false b_primes_in
def b_size_in : S := (sseq (sbind (mret (.int 1)) (sput 1))
  (sseq (sbind (itM (slot 0)) (sfor (tgName 2)
  (sbind (bin pyMulI (slot 1) (slot 2)) (sput 1))))
  (sbind (slot 1) sret)))
def m_size_in : List PV → FO := fnM 3 [false] false b_size_in
def b_lead_in : S := (sseq (sbind (callM m_primes_in [none] (mcons (callM m_size_in [none] (mcons (slot 0) (mret []))) (mret []))) (sput 1))
  (sseq (sbind (lcM [3] (tgName 3) (mbind (bin pyEq (bin pyMod (slot 3) (mret (.int 3))) (mret (.int 2))) asB) (slot 3) (itM (slot 1))) (sput 2))
  (sseq (sif (mbind (bin pyNe (slot 2) (mbind (mret []) lstM)) asB)
  (sbind (bin pyIxF (slot 2) (mret (.int 0))) sret)
  snx)
  (sbind (iteM (mbind (bin pyIn (mret (.int 3)) (slot 1)) asB) (mret (.int 3)) (bin pyIxF (slot 1) (un pyNeg (mret (.int 1))))) sret))))
def m_lead_in : List PV → FO := fnM 4 [false] false b_lead_in
def b_most_in : S := (sseq (spar 1 2 (callM m_size_in [none] (mcons (slot 0) (mret []))) (callM m_lead_in [none] (mcons (slot 0) (mret []))))
  (sseq (sif (mbind (bin pyEq (bin pyMod (slot 2) (mret (.int 3))) (mret (.int 2))) asB)
  (sbind (bin pyDiv (bin pyMulI (slot 1) (bin pyAddA (slot 2) (mret (.int 1)))) (bin pyMulI (mret (.int 3)) (slot 2))) sret)
  snx)
  (sbind (iteM (mbind (bin pyEq (slot 2) (mret (.int 3))) asB) (bin pyDiv (slot 1) (mret (.int 3))) (bin pyDiv (bin pySub (slot 1) (mret (.int 1))) (mret (.int 3)))) sret)))
def m_most_in : List PV → FO := fnM 3 [false] false b_most_in
def b_are_numbers : S := (sbind (andV (un (isiP ["tuple"]) (slot 0)) (un pyAll (lcM [1] (tgName 1) tYesM (callM m_is_number [none] (mcons (slot 1) (mret []))) (itM (slot 0))))) sret)
def m_are_numbers : List PV → FO := fnM 2 [false] false b_are_numbers
def b_is_heap_in : S := (sseq (sif (orT (notT (mbind (callM m_are_numbers [none] (mcons (slot 0) (mret []))) asB)) (orT (notT (mbind (chain pyLe pyLe (mret (.int 1)) (un pyLen (slot 0)) (mret (.int 3))) asB)) (notT (mbind (un pyAll (lcM [1] (tgName 1) tYesM (bin pyGe (slot 1) (mret (.int 2))) (itM (slot 0)))) asB))))
  (sbind (mret (.bl false)) sret)
  snx)
  (sbind (bin pyLe (callM m_size_in [none] (mcons (slot 0) (mret []))) (mret (.int 40))) sret))
def m_is_heap_in : List PV → FO := fnM 2 [false] false b_is_heap_in
def b_tupled (fd : List PV → FO) : S := (sbind (iteM (mbind (un (isiP ["list", "tuple"]) (slot 0)) asB) (un pyTuple (lcM [1] (tgName 1) tYesM (callM fd [none] (mcons (slot 1) (mret []))) (itM (slot 0)))) (slot 0)) sret)
def m_tupled : Nat → List PV → FO
  | 0 => fun _ => .stuck
  | d + 1 => fnM 2 [false] false (b_tupled (m_tupled d))
def b_sure_heap : S := (sseq (sbind (callM (m_tupled 12) [none] (mcons (slot 0) (mret []))) (sput 1))
  (sseq (sif (notT (mbind (callM m_is_heap_in [none] (mcons (slot 1) (mret []))) asB))
  (sexc "Unfit")
  snx)
  (sbind (slot 1) sret)))
def m_sure_heap : List PV → FO := fnM 2 [false] false b_sure_heap
def b_most : S := (sbind (callM m_most_in [none] (mcons (callM m_sure_heap [none] (mcons (slot 0) (mret []))) (mret []))) sret)
def m_most : List PV → FO := fnM 1 [false] false b_most
def b_is_within : S := (sbind (andV (callM m_is_number [none] (mcons (slot 0) (mret []))) (chain pyLe pyLe (slot 1) (slot 0) (slot 2))) sret)
def m_is_within : List PV → FO := fnM 3 [false, false, false] false b_is_within
def b_ascends : S := (sbind (un pyAll (lcM [1, 2] (tgTup [1, 2]) tYesM (bin pyLt (slot 1) (slot 2)) (zipM (slot 0) (slc (slot 0) (part (mret (.int 1))) noPart)))) sret)
def m_ascends : List PV → FO := fnM 3 [false] false b_ascends
def b_sure_within : S := (sseq (sif (notT (mbind (callM m_is_within [none, none, none] (mcons (slot 0) (mcons (slot 1) (mcons (slot 2) (mret []))))) asB))
  (sexc "Unfit")
  snx)
  (sbind (slot 0) sret))
def m_sure_within : List PV → FO := fnM 3 [false, false, false] false b_sure_within
def b_rests_in : S := (sseq (spar 3 4 (mbind (mret []) tupM) (slot 1))
  (sseq (sbind (itM (un pyRev (slot 0))) (sfor (tgName 2)
  (sseq (sbind (bin pyAddA (mbind (mcons (bin pyMod (slot 4) (slot 2)) (mret [])) tupM) (slot 3)) (sput 3))
  (sbind (bin pyDiv (slot 4) (slot 2)) (sput 4)))))
  (sbind (slot 3) sret)))
def m_rests_in : List PV → FO := fnM 5 [false, false] false b_rests_in
def b_member_in : S := (sseq (sbind (mret (.int 0)) (sput 2))
  (sseq (sbind (zipM (slot 0) (slot 1)) (sfor (tgTup [3, 4])
  (sbind (bin pyAddA (bin pyMulI (slot 2) (slot 3)) (bin pyMod (slot 4) (slot 3))) (sput 2))))
  (sbind (slot 2) sret)))
def m_member_in : List PV → FO := fnM 5 [false, false] false b_member_in
def b_added_in : S := (sbind (callM m_member_in [none, none] (mcons (slot 0) (mcons (lcM [3, 4] (tgTup [3, 4]) tYesM (bin pyAddA (slot 3) (slot 4)) (zipM (callM m_rests_in [none, none] (mcons (slot 0) (mcons (slot 1) (mret [])))) (callM m_rests_in [none, none] (mcons (slot 0) (mcons (slot 2) (mret [])))))) (mret [])))) sret)
def m_added_in : List PV → FO := fnM 5 [false, false, false] false b_added_in
def b_is_lot_in : S := (sseq (sif (orT (notT (mbind (callM m_are_numbers [none] (mcons (slot 1) (mret []))) asB)) (notT (mbind (callM m_ascends [none] (mcons (slot 1) (mret []))) asB)))
  (sbind (mret (.bl false)) sret)
  snx)
  (sbind (orV (bin pyEq (slot 1) (mbind (mret []) tupM)) (andV (bin pyLe (mret (.int 0)) (bin pyIxF (slot 1) (mret (.int 0)))) (bin pyLt (bin pyIxF (slot 1) (un pyNeg (mret (.int 1)))) (callM m_size_in [none] (mcons (slot 0) (mret [])))))) sret))
def m_is_lot_in : List PV → FO := fnM 2 [false, false] false b_is_lot_in
def b_sure_lot : S := (sseq (sbind (callM (m_tupled 12) [none] (mcons (slot 1) (mret []))) (sput 2))
  (sseq (sif (notT (mbind (callM m_is_lot_in [none, none] (mcons (slot 0) (mcons (slot 2) (mret [])))) asB))
  (sexc "Unfit")
  snx)
  (sbind (slot 2) sret)))
def m_sure_lot : List PV → FO := fnM 3 [false, false] false b_sure_lot
def b_divisors_in : S := (sbind (lcM [1] (tgName 1) (mbind (bin pyEq (bin pyMod (slot 0) (slot 1)) (mret (.int 0))) asB) (slot 1) (rngM2 (mret (.int 1)) (bin pyAddA (slot 0) (mret (.int 1))))) sret)
def m_divisors_in : List PV → FO := fnM 2 [false] false b_divisors_in
def b_bound_in : S := (sbind (bin pyMulI (bin pyDiv (callM m_size_in [none] (mcons (slot 0) (mret []))) (slot 1)) (bin pyDiv (bin pyAddA (slot 1) (mret (.int 1))) (mret (.int 3)))) sret)
def m_bound_in : List PV → FO := fnM 2 [false, false] false b_bound_in
def b_bounds : S := (sseq (sbind (callM m_sure_heap [none] (mcons (slot 0) (mret []))) (sput 1))
  (sbind (lcM [2] (tgName 2) tYesM (mbind (mcons (slot 2) (mcons (callM m_bound_in [none, none] (mcons (slot 1) (mcons (slot 2) (mret [])))) (mret []))) tupM) (itM (callM m_divisors_in [none] (mcons (callM m_size_in [none] (mcons (slot 1) (mret []))) (mret []))))) sret))
def m_bounds : List PV → FO := fnM 3 [false] false b_bounds
def b_sums_table : S := (sbind (lcM [1] (tgName 1) tYesM (lcM [2] (tgName 2) tYesM (callM m_added_in [none, none, none] (mcons (slot 0) (mcons (slot 1) (mcons (slot 2) (mret []))))) (rngM1 (callM m_size_in [none] (mcons (slot 0) (mret []))))) (rngM1 (callM m_size_in [none] (mcons (slot 0) (mret []))))) sret)
def m_sums_table : List PV → FO := fnM 3 [false] false b_sums_table
def b_common_of : S := (sseq (fun env => swhile (mbind (bin pyNe (slot 1) (mret (.int 0))) asB) (spar 0 1 (slot 1) (bin pyMod (slot 0) (slot 1))) (whileFuel env) env)
  (sbind (slot 0) sret))
def m_common_of : List PV → FO := fnM 2 [false, false] false b_common_of
def b_folded : S := (sseq (sbind (un pyTuple (slot 1)) (sput 3))
  (sseq (sbind (rngM1 (bin pySub (slot 2) (mret (.int 1)))) (sfor (tgName 4)
  (sbind (un pyTuple (sortSet (lcM2 [5, 6] (tgName 5) tYesM [6] (itM (slot 1)) (tgName 6) tYesM (bin pyIxF (bin pyIxF (slot 0) (slot 5)) (slot 6)) (itM (slot 3))))) (sput 3))))
  (sbind (slot 3) sret)))
def m_folded : List PV → FO := fnM 7 [false, false, false] false b_folded
def b_common_in : S := (sseq (sbind (un pyDict (lcM [5] (tgName 5) tYesM (mbind (mcons (slot 5) (mcons (mret (.bl true)) (mret []))) tupM) (itM (callM m_folded [none, none, none] (mcons (slot 0) (mcons (slot 1) (mcons (slot 3) (mret [])))))))) (sput 4))
  (sbind (un pyTuple (lcM [5] (tgName 5) (mbind (bin pyIn (slot 5) (slot 4)) asB) (slot 5) (itM (callM m_folded [none, none, none] (mcons (slot 0) (mcons (slot 1) (mcons (slot 2) (mret [])))))))) sret))
def m_common_in : List PV → FO := fnM 6 [false, false, false, false] false b_common_in
def b_size_free : S := (sseq (spar 5 6 (bin pyAddA (slot 1) (slot 2)) (callM m_common_of [none, none] (mcons (slot 0) (mcons (bin pySub (slot 1) (slot 2)) (mret [])))))
  (sseq (sbind (bin pyDiv (bin pySub (bin pyAddA (bin pySub (slot 0) (slot 6)) (slot 5)) (mret (.int 1))) (slot 5)) (sput 3))
  (sseq (sbind (bin pySub (slot 6) (bin pyMod (bin pyMulI (slot 2) (slot 3)) (slot 6))) (sput 4))
  (sbind (bin pyDiv (bin pySub (bin pyAddA (bin pySub (slot 0) (slot 4)) (slot 5)) (mret (.int 1))) (slot 5)) sret))))
def m_size_free : List PV → FO := fnM 7 [false, false, false] false b_size_free
def b_bounds_in : S := (sbind (lcM [3] (tgName 3) tYesM (mbind (mcons (slot 3) (mcons (bin pyMulI (bin pyDiv (slot 0) (slot 3)) (callM m_size_free [none, none, none] (mcons (slot 3) (mcons (slot 1) (mcons (slot 2) (mret [])))))) (mret []))) tupM) (itM (callM m_divisors_in [none] (mcons (slot 0) (mret []))))) sret)
def m_bounds_in : List PV → FO := fnM 4 [false, false, false] false b_bounds_in
def b_begin_free : S := (sseq (sbind (rngM1 (slot 0)) (sfor (tgName 4)
  (sseq (sbind (bin pyMod (bin pyMulI (bin pySub (slot 2) (slot 3)) (slot 4)) (slot 0)) (sput 5))
  (sif (mbind (chain pyLt pyLt (bin pyMulI (slot 3) (bin pySub (slot 1) (mret (.int 1)))) (slot 5) (bin pySub (slot 0) (bin pyMulI (slot 2) (bin pySub (slot 1) (mret (.int 1)))))) asB)
  (sbind (slot 4) sret)
  snx))))
  (sbind (mret .non) sret))
def m_begin_free : List PV → FO := fnM 6 [false, false, false, false] false b_begin_free
def b_best_in : S := (sseq (sbind (callM m_bounds_in [none, none, none] (mcons (slot 0) (mcons (slot 1) (mcons (slot 2) (mret []))))) (sput 3))
  (sseq (sbind (un pyMax (lcM [5] (tgName 5) tYesM (bin pyIxF (slot 5) (mret (.int 1))) (itM (slot 3)))) (sput 4))
  (sbind (bin pyIxF (lcM [5] (tgName 5) (mbind (bin pyEq (bin pyIxF (slot 5) (mret (.int 1))) (slot 4)) asB) (slot 5) (itM (slot 3))) (mret (.int 0))) sret)))
def m_best_in : List PV → FO := fnM 6 [false, false, false] false b_best_in
def b_built_in_one : S := (sseq (sbind (callM m_best_in [none, none, none] (mcons (slot 0) (mcons (slot 1) (mcons (slot 2) (mret []))))) (sasg (tgTup [5, 6])))
  (sseq (sif (mbind (bin pyEq (slot 6) (mret (.int 0))) asB)
  (sbind (mbind (mret []) tupM) sret)
  snx)
  (sseq (sbind (callM m_size_free [none, none, none] (mcons (slot 5) (mcons (slot 1) (mcons (slot 2) (mret []))))) (sput 3))
  (sseq (sbind (callM m_begin_free [none, none, none, none] (mcons (slot 5) (mcons (slot 3) (mcons (slot 1) (mcons (slot 2) (mret [])))))) (sput 4))
  (sbind (un pyTuple (lcM [7] (tgName 7) (mbind (bin pyLt (bin pyMod (bin pySub (slot 7) (slot 4)) (slot 5)) (slot 3)) asB) (slot 7) (rngM1 (slot 0)))) sret)))))
def m_built_in_one : List PV → FO := fnM 8 [false, false, false] false b_built_in_one
def b_sure_times : S := (sseq (sbind (callM m_sure_within [none, none, none] (mcons (slot 0) (mcons (mret (.int 2)) (mcons (mret (.int 6)) (mret []))))) (sput 2))
  (sbind (mbind (mcons (slot 2) (mcons (callM m_sure_within [none, none, none] (mcons (slot 1) (mcons (mret (.int 1)) (mcons (bin pySub (slot 2) (mret (.int 1))) (mret []))))) (mret []))) tupM) sret))
def m_sure_times : List PV → FO := fnM 3 [false, false] false b_sure_times
def b_sure_one_round : S := (sseq (sbind (callM m_sure_heap [none] (mcons (slot 0) (mret []))) (sput 3))
  (sseq (sbind (callM m_sure_times [none, none] (mcons (slot 1) (mcons (slot 2) (mret [])))) (sasg (tgTup [4, 5])))
  (sseq (sif (mbind (bin pyGt (un pyLen (slot 3)) (mret (.int 1))) asB)
  (sexc "CanNot")
  snx)
  (sbind (mbind (mcons (bin pyIxF (slot 3) (mret (.int 0))) (mcons (slot 4) (mcons (slot 5) (mret [])))) tupM) sret))))
def m_sure_one_round : List PV → FO := fnM 6 [false, false, false] false b_sure_one_round
def b_common_fold : S := (sseq (sbind (callM m_sure_heap [none] (mcons (slot 0) (mret []))) (sput 4))
  (sseq (sbind (callM m_sure_lot [none, none] (mcons (slot 4) (mcons (slot 1) (mret [])))) (sput 5))
  (sseq (sbind (callM m_sure_times [none, none] (mcons (slot 2) (mcons (slot 3) (mret [])))) (sasg (tgTup [6, 7])))
  (sbind (callM m_common_in [none, none, none, none] (mcons (callM m_sums_table [none] (mcons (slot 4) (mret []))) (mcons (slot 5) (mcons (slot 6) (mcons (slot 7) (mret [])))))) sret))))
def m_common_fold : List PV → FO := fnM 8 [false, false, false, false] false b_common_fold
def b_is_free : S := (sbind (bin pyEq (callM m_common_fold [none, none, none, none] (mcons (slot 0) (mcons (slot 1) (mcons (slot 2) (mcons (slot 3) (mret [])))))) (mbind (mret []) tupM)) sret)
def m_is_free : List PV → FO := fnM 4 [false, false, false, false] false b_is_free
def b_bounds_free : S := (sseq (sbind (callM m_sure_one_round [none, none, none] (mcons (slot 0) (mcons (slot 1) (mcons (slot 2) (mret []))))) (sasg (tgTup [3, 4, 5])))
  (sbind (callM m_bounds_in [none, none, none] (mcons (slot 3) (mcons (slot 4) (mcons (slot 5) (mret []))))) sret))
def m_bounds_free : List PV → FO := fnM 6 [false, false, false] false b_bounds_free
def b_most_free : S := (sseq (sbind (callM m_sure_one_round [none, none, none] (mcons (slot 0) (mcons (slot 1) (mcons (slot 2) (mret []))))) (sasg (tgTup [3, 4, 5])))
  (sbind (bin pyIxF (callM m_best_in [none, none, none] (mcons (slot 3) (mcons (slot 4) (mcons (slot 5) (mret []))))) (mret (.int 1))) sret))
def m_most_free : List PV → FO := fnM 6 [false, false, false] false b_most_free
def b_built_free : S := (sseq (sbind (callM m_sure_one_round [none, none, none] (mcons (slot 0) (mcons (slot 1) (mcons (slot 2) (mret []))))) (sasg (tgTup [3, 4, 5])))
  (sbind (callM m_built_in_one [none, none, none] (mcons (slot 3) (mcons (slot 4) (mcons (slot 5) (mret []))))) sret))
def m_built_free : List PV → FO := fnM 6 [false, false, false] false b_built_free
def b__law_box : S := (sseq (sbind (iteM (mbind (bin pyLt (slot 1) (un pyLen (slot 0))) asB) (bin pyIxF (slot 0) (slot 1)) (mret (.int 0))) (sput 2))
  (sbind (mbind (mcons (bin pyMulI (un pyAbs (slot 2)) (un pyInt (bin pyGe (un pyAbs (slot 2)) (bin pyPow (mret (.int 10)) (mret (.int 18)))))) (mcons (bin pyAddA (bin pyAddA (bin pyMod (un pyInt (slot 2)) (mret (.int 2305843009213693951))) (bin pyMulI (mret (.int 39373)) (slot 1))) (mret (.int 26307))) (mcons (mret (.int 0)) (mret [])))) lstM) sret))
def m__law_box : List PV → FO := fnM 3 [false, false] true b__law_box
def b__law_take : S := (sseq (sif (mbind (bin pyGt (binO pyIxF 0 (mret (.int 0))) (mret (.int 0))) asB)
  (sseq (sbind (bin pyMod (un pyInt (binO pyIxF 0 (mret (.int 0)))) (slot 1)) (sput 5))
  (sseq (sset 0 (mret (.int 0)) (bin pyDiv (binO pyIxF 0 (mret (.int 0))) (slot 1)))
  (sbind (slot 5) sret)))
  snx)
  (sseq (sset 0 (mret (.int 2)) (bin pyAddA (binO pyIxF 0 (mret (.int 2))) (mret (.int 1))))
  (sseq (sbind (bin pyMod (un pyInt (bin pyMulI (bin pyAddA (binO pyIxF 0 (mret (.int 1))) (bin pyMulI (mret (.int 48271)) (binO pyIxF 0 (mret (.int 2))))) (bin pyAddA (mret (.int 39373)) (binO pyIxF 0 (mret (.int 2)))))) (mret (.int 2147483647))) (sput 2))
  (sseq (sbind (bin pyAddA (bin pyMod (un pyInt (slot 2)) (mret (.int 40009))) (mret (.int 7))) (sput 3))
  (sseq (sbind (bin pyMod (un pyInt (bin pyMulI (bin pyAddA (bin pyAddA (slot 2) (binO pyIxF 0 (mret (.int 2)))) (bin pyDiv (binO pyIxF 0 (mret (.int 1))) (mret (.int 1000003)))) (slot 3))) (mret (.int 2147483629))) (sput 4))
  (sbind (bin pyMod (un pyInt (bin pyDiv (bin pyMod (un pyInt (bin pyAddA (bin pyMulI (slot 4) (mret (.int 48271))) (slot 2))) (mret (.int 2147483587))) (mret (.int 64)))) (slot 1)) sret))))))
def m__law_take : List PV → FO := fnM 6 [true, false] false b__law_take
def b__law_cells : S := (sseq (sbind (orF (un pyList (slc (slot 0) noPart (part (slot 1)))) (mbind (mcons (mret (.int 0)) (mret [])) lstM)) (sput 2))
  (sseq (sbind (enumM (slc (slot 0) (part (slot 1)) (part (mret (.int 63))))) (sfor (tgTup [3, 4])
  (sseq (sbind (bin pyMod (un pyInt (slot 3)) (slot 1)) (sput 5))
  (sset 2 (slot 5) (bin pyAddA (binO pyIxF 2 (slot 5)) (bin pyMulI (slot 4) (bin pyAddA (slot 3) (mret (.int 2)))))))))
  (sretO 2)))
def m__law_cells : List PV → FO := fnM 6 [false, false] false b__law_cells
def b__law_same (fd : List PV → FO) : S := (sseq (sif (mbind (un (isiP ["list", "tuple"]) (slot 1)) asB)
  (sseq (sif (orT (mbind (bin pyNe (un (isiP ["list"]) (slot 0)) (un (isiP ["list"]) (slot 1))) asB) (mbind (bin pyNe (un (isiP ["tuple"]) (slot 0)) (un (isiP ["tuple"]) (slot 1))) asB))
  (sbind (mret (.bl false)) sret)
  snx)
  (sbind (andV (bin pyEq (un pyLen (slot 0)) (un pyLen (slot 1))) (un pyAll (lcM [2, 3] (tgTup [2, 3]) tYesM (callM fd [none, none] (mcons (slot 2) (mcons (slot 3) (mret [])))) (zipM (slot 0) (slot 1))))) sret))
  snx)
  (sseq (sif (mbind (bin pyIs (slot 1) (mret .non)) asB)
  (sbind (bin pyIs (slot 0) (mret .non)) sret)
  snx)
  (sseq (sif (mbind (un (isiP ["bool", "str"]) (slot 1)) asB)
  (sbind (andV (bin pyEq (un (isiP ["bool"]) (slot 0)) (un (isiP ["bool"]) (slot 1))) (andV (bin pyEq (un (isiP ["str"]) (slot 0)) (un (isiP ["str"]) (slot 1))) (bin pyEq (slot 0) (slot 1)))) sret)
  snx)
  (sbind (andV (un (isiP ["int"]) (slot 0)) (andV (notV (un (isiP ["bool"]) (slot 0))) (bin pyEq (slot 0) (slot 1)))) sret))))
def m__law_same : Nat → List PV → FO
  | 0 => fun _ => .stuck
  | d + 1 => fnM 4 [false, false] false (b__law_same (m__law_same d))
def b__law_flat : S := (sseq (sbind (mbind (mret []) lstM) (sput 1))
  (sseq (sbind (itM (slot 0)) (sfor (tgName 2)
  (sbind (mmut extP 1 (slot 2)) fun _ => snx)))
  (sretO 1)))
def m__law_flat : List PV → FO := fnM 3 [false] false b__law_flat
def b__law_gcd : S := (sseq (spar 0 1 (un pyAbs (slot 0)) (un pyAbs (slot 1)))
  (sseq (sbind (rngM1 (mret (.int 9000))) (sfor (tgName 2)
  (sseq (sif (mbind (bin pyEq (slot 1) (mret (.int 0))) asB)
  sbk
  snx)
  (spar 0 1 (slot 1) (bin pyMod (slot 0) (slot 1))))))
  (sbind (slot 0) sret)))
def m__law_gcd : List PV → FO := fnM 3 [false, false] false b__law_gcd
def b__law_up : S := (sbind (bin pyDiv (bin pySub (bin pyAddA (slot 0) (slot 1)) (mret (.int 1))) (slot 1)) sret)
def m__law_up : List PV → FO := fnM 2 [false, false] false b__law_up
def b__law_bound : S := (sseq (sbind (callM m__law_gcd [none, none] (mcons (slot 1) (mcons (bin pySub (slot 2) (slot 3)) (mret [])))) (sput 4))
  (sseq (sbind (bin pyMod (bin pyMulI (slot 3) (callM m__law_up [none, none] (mcons (bin pySub (slot 1) (slot 4)) (mcons (bin pyAddA (slot 2) (slot 3)) (mret []))))) (slot 4)) (sput 5))
  (sbind (bin pyMulI (bin pyDiv (slot 0) (slot 1)) (callM m__law_up [none, none] (mcons (bin pySub (slot 1) (bin pySub (slot 4) (slot 5))) (mcons (bin pyAddA (slot 2) (slot 3)) (mret []))))) sret)))
def m__law_bound : List PV → FO := fnM 6 [false, false, false, false] false b__law_bound
def b__law_parts : S := (sbind (lcM [1] (tgName 1) (mbind (bin pyEq (bin pyMod (slot 0) (slot 1)) (mret (.int 0))) asB) (slot 1) (rngM2 (mret (.int 1)) (bin pyAddA (slot 0) (mret (.int 1))))) sret)
def m__law_parts : List PV → FO := fnM 2 [false] false b__law_parts
def b__law_row_free : S := (sseq (sbind (mbind (mcons (sortSet (slot 1)) (mcons (sortSet (slot 1)) (mret []))) tupM) (sasg (tgTup [6, 7])))
  (sseq (sbind (mbind (mcons (slot 7) (mret [])) lstM) (sput 4))
  (sseq (sbind (rngM1 (bin pySub (slot 2) (mret (.int 1)))) (sfor (tgName 5)
  (sseq (sbind (sortSet (callM m__law_flat [none] (mcons (lcM [9] (tgName 9) tYesM (lcM [10] (tgName 10) tYesM (bin pyMod (bin pyAddA (slot 9) (slot 10)) (slot 0)) (itM (slot 6))) (itM (slot 7))) (mret [])))) (sput 7))
  (sbind (mmut appP 4 (slot 7)) fun _ => snx))))
  (sbind (bin pyEq (lcM [8] (tgName 8) (mbind (bin pyIn (slot 8) (binO pyIxF 4 (bin pySub (slot 3) (mret (.int 1))))) asB) (slot 8) (itM (binO pyIxF 4 (bin pySub (slot 2) (mret (.int 1)))))) (mbind (mret []) lstM)) sret))))
def m__law_row_free : List PV → FO := fnM 11 [false, false, false, false] false b__law_row_free
def b__law_lap_one : S := (sseq (sbind (bin pyAddA (mret (.int 2)) (callM m__law_take [some 0, none] (mcons (slot 0) (mcons (mret (.int 39)) (mret []))))) (sput 1))
  (sseq (sbind (bin pyAddA (mret (.int 2)) (callM m__law_take [some 0, none] (mcons (slot 0) (mcons (mret (.int 5)) (mret []))))) (sput 2))
  (sseq (sbind (bin pyAddA (mret (.int 1)) (callM m__law_take [some 0, none] (mcons (slot 0) (mcons (bin pySub (slot 2) (mret (.int 1))) (mret []))))) (sput 3))
  (sseq (sbind (lcM [7] (tgName 7) tYesM (mbind (mcons (slot 7) (mcons (callM m__law_bound [none, none, none, none] (mcons (slot 1) (mcons (slot 7) (mcons (slot 2) (mcons (slot 3) (mret [])))))) (mret []))) tupM) (itM (callM m__law_parts [none] (mcons (slot 1) (mret []))))) (sput 4))
  (sseq (sbind (un pyMax (lcM [14] (tgName 14) tYesM (bin pyIxF (slot 14) (mret (.int 1))) (itM (slot 4)))) (sput 5))
  (sseq (sif (notT (mbind (callM (m__law_same 12) [none, none] (mcons (mbind (mcons (callM m_bounds_free [none, none, none] (mcons (mbind (mcons (slot 1) (mret [])) tupM) (mcons (slot 2) (mcons (slot 3) (mret []))))) (mcons (callM m_most_free [none, none, none] (mcons (mbind (mcons (slot 1) (mret [])) lstM) (mcons (slot 2) (mcons (slot 3) (mret []))))) (mret []))) lstM) (mcons (mbind (mcons (slot 4) (mcons (slot 5) (mret []))) lstM) (mret [])))) asB))
  (sbind (mret (.bl false)) sret)
  snx)
  (sseq (sbind (callM m_built_free [none, none, none] (mcons (mbind (mcons (slot 1) (mret [])) tupM) (mcons (slot 2) (mcons (slot 3) (mret []))))) (sput 6))
  (sseq (sif (mbind (bin pyEq (slot 5) (mret (.int 0))) asB)
  (sbind (bin pyEq (slot 6) (mbind (mret []) tupM)) sret)
  snx)
  (sseq (sbind (bin pyIxF (lcM [14] (tgName 14) (mbind (bin pyEq (bin pyIxF (slot 14) (mret (.int 1))) (slot 5)) asB) (bin pyIxF (slot 14) (mret (.int 0))) (itM (slot 4))) (mret (.int 0))) (sput 7))
  (sseq (sbind (bin pyDiv (bin pyMulI (slot 5) (slot 7)) (slot 1)) (sput 8))
  (sseq (sbind (lcM [12] (tgName 12) (mbind (callM m__law_row_free [none, none, none, none] (mcons (slot 7) (mcons (lcM [13] (tgName 13) tYesM (bin pyMod (bin pyAddA (slot 12) (slot 13)) (slot 7)) (rngM1 (slot 8))) (mcons (slot 2) (mcons (slot 3) (mret [])))))) asB) (slot 12) (rngM1 (slot 7))) (sput 9))
  (sseq (sif (mbind (bin pyEq (slot 9) (mbind (mret []) lstM)) asB)
  (sbind (mret (.bl false)) sret)
  snx)
  (sseq (sbind (lcM [13] (tgName 13) tYesM (bin pyMod (bin pyAddA (bin pyIxF (slot 9) (mret (.int 0))) (slot 13)) (slot 7)) (rngM1 (slot 8))) (sput 10))
  (sseq (sif (notT (mbind (callM (m__law_same 12) [none, none] (mcons (slot 6) (mcons (un pyTuple (lcM [13] (tgName 13) (mbind (bin pyIn (bin pyMod (slot 13) (slot 7)) (slot 10)) asB) (slot 13) (rngM1 (slot 1)))) (mret [])))) asB))
  (sbind (mret (.bl false)) sret)
  snx)
  (sseq (sif (notT (mbind (callM (m__law_same 12) [none, none] (mcons (mbind (mcons (callM m_is_free [none, none, none, none] (mcons (mbind (mcons (slot 1) (mret [])) tupM) (mcons (slot 6) (mcons (slot 2) (mcons (slot 3) (mret [])))))) (mcons (un pyLen (slot 6)) (mret []))) lstM) (mcons (mbind (mcons (mret (.bl true)) (mcons (slot 5) (mret []))) lstM) (mret [])))) asB))
  (sbind (mret (.bl false)) sret)
  snx)
  (sseq (sbind (lcM [12] (tgName 12) (andT (mbind (bin pyLt (slot 8) (slot 7)) asB) (mbind (callM m__law_row_free [none, none, none, none] (mcons (slot 7) (mcons (lcM [13] (tgName 13) tYesM (bin pyMod (bin pyAddA (slot 12) (slot 13)) (slot 7)) (rngM1 (bin pyAddA (slot 8) (mret (.int 1))))) (mcons (slot 2) (mcons (slot 3) (mret [])))))) asB)) (slot 12) (rngM1 (slot 7))) (sput 11))
  (sbind (andV (bin pyEq (slot 11) (mbind (mret []) lstM)) (callM (m__law_same 12) [none, none] (mcons (mbind (mcons (callM m_bounds_free [none, none, none] (mcons (mbind (mcons (slot 1) (mret [])) tupM) (mcons (mret (.int 2)) (mcons (mret (.int 1)) (mret []))))) (mcons (callM m_most_free [none, none, none] (mcons (mbind (mcons (slot 1) (mret [])) tupM) (mcons (mret (.int 2)) (mcons (mret (.int 1)) (mret []))))) (mret []))) lstM) (mcons (mbind (mcons (callM m_bounds [none] (mcons (mbind (mcons (slot 1) (mret [])) tupM) (mret []))) (mcons (callM m_most [none] (mcons (mbind (mcons (slot 1) (mret [])) tupM) (mret []))) (mret []))) lstM) (mret []))))) sret)))))))))))))))))
def m__law_lap_one : List PV → FO := fnM 15 [true] false b__law_lap_one
def b_law : S := (sseq (sbind (callM m__law_box [none, none] (mcons (callM m__law_cells [none, none] (mcons (slot 0) (mcons (mret (.int 1)) (mret [])))) (mcons (mret (.int 0)) (mret [])))) (sput 1))
  (sseq (sbind (rngM1 (mret (.int 4))) (sfor (tgName 2)
  (sif (notT (mbind (callM m__law_lap_one [some 1] (mcons (slot 1) (mret []))) asB))
  (sbind (mret (.bl false)) sret)
  snx)))
  (sbind (callM (m__law_same 12) [none, none] (mcons (mbind (mcons (callM m_built_free [none, none, none] (mcons (mbind (mcons (mret (.int 9)) (mret [])) tupM) (mcons (mret (.int 4)) (mcons (mret (.int 1)) (mret []))))) (mcons (callM m_built_free [none, none, none] (mcons (mbind (mcons (mret (.int 12)) (mret [])) tupM) (mcons (mret (.int 3)) (mcons (mret (.int 1)) (mret []))))) (mcons (callM m_most_free [none, none, none] (mcons (mbind (mcons (mret (.int 40)) (mret [])) tupM) (mcons (mret (.int 6)) (mcons (mret (.int 5)) (mret []))))) (mcons (callM m_bounds_free [none, none, none] (mcons (mbind (mcons (mret (.int 2)) (mret [])) tupM) (mcons (mret (.int 4)) (mcons (mret (.int 2)) (mret []))))) (mret []))))) lstM) (mcons (mbind (mcons (mbind (mcons (mret (.int 1)) (mcons (mret (.int 2)) (mret []))) tupM) (mcons (mbind (mcons (mret (.int 1)) (mcons (mret (.int 4)) (mcons (mret (.int 7)) (mcons (mret (.int 10)) (mret []))))) tupM) (mcons (mret (.int 20)) (mcons (mbind (mcons (mbind (mcons (mret (.int 1)) (mcons (mret (.int 0)) (mret []))) tupM) (mcons (mbind (mcons (mret (.int 2)) (mcons (mret (.int 0)) (mret []))) tupM) (mret []))) lstM) (mret []))))) lstM) (mret [])))) sret)))
def m_law : List PV → FO := fnM 3 [false] false b_law
end L2.EV.k63

set_option Elab.async false
set_option linter.all false
set_option maxRecDepth 100000
set_option maxHeartbeats 0
namespace L2.EV.k63
open PySem PySem.Spec PyProof.Rows L2 L2.EV
def topS (i : Nat) : Stmt := PySem.Challenge.pw_nosumwithin_k63_main_bounds_and_built_fr.main.body.getD i (.Pass ⟨0, 0, 0, 0⟩)
structure Top (K : PySem.W.Frag) (mg : Str → Option Value) : Prop where
  f_is_number : FnT K mg "is_number" (topS 4) ["thing"]
  f_primes_in : FnT K mg "primes_in" (topS 22) ["number"]
  f_size_in : FnT K mg "size_in" (topS 15) ["heap"]
  f_lead_in : FnT K mg "lead_in" (topS 23) ["heap"]
  f_most_in : FnT K mg "most_in" (topS 24) ["heap"]
  f_are_numbers : FnT K mg "are_numbers" (topS 6) ["thing"]
  f_is_heap_in : FnT K mg "is_heap_in" (topS 13) ["thing"]
  f_tupled : FnT K mg "tupled" (topS 8) ["value"]
  f_sure_heap : FnT K mg "sure_heap" (topS 14) ["value"]
  f_most : FnT K mg "most" (topS 27) ["heap"]
  f_is_within : FnT K mg "is_within" (topS 5) ["thing", "least", "most"]
  f_ascends : FnT K mg "ascends" (topS 7) ["row"]
  f_sure_within : FnT K mg "sure_within" (topS 9) ["thing", "least", "most"]
  f_rests_in : FnT K mg "rests_in" (topS 16) ["heap", "member"]
  f_member_in : FnT K mg "member_in" (topS 17) ["heap", "rests"]
  f_added_in : FnT K mg "added_in" (topS 18) ["heap", "one", "other"]
  f_is_lot_in : FnT K mg "is_lot_in" (topS 19) ["heap", "thing"]
  f_sure_lot : FnT K mg "sure_lot" (topS 20) ["heap", "value"]
  f_divisors_in : FnT K mg "divisors_in" (topS 25) ["number"]
  f_bound_in : FnT K mg "bound_in" (topS 26) ["heap", "parts"]
  f_bounds : FnT K mg "bounds" (topS 28) ["heap"]
  f_sums_table : FnT K mg "sums_table" (topS 30) ["heap"]
  f_common_of : FnT K mg "common_of" (topS 33) ["one", "other"]
  f_folded : FnT K mg "folded" (topS 34) ["table", "lot", "many"]
  f_common_in : FnT K mg "common_in" (topS 35) ["table", "lot", "times", "fewer"]
  f_size_free : FnT K mg "size_free" (topS 36) ["parts", "times", "fewer"]
  f_bounds_in : FnT K mg "bounds_in" (topS 37) ["size", "times", "fewer"]
  f_begin_free : FnT K mg "begin_free" (topS 38) ["parts", "many", "times", "fewer"]
  f_best_in : FnT K mg "best_in" (topS 39) ["size", "times", "fewer"]
  f_built_in_one : FnT K mg "built_in_one" (topS 40) ["size", "times", "fewer"]
  f_sure_times : FnT K mg "sure_times" (topS 41) ["times", "fewer"]
  f_sure_one_round : FnT K mg "sure_one_round" (topS 42) ["heap", "times", "fewer"]
  f_common_fold : FnT K mg "common_fold" (topS 43) ["heap", "lot", "times", "fewer"]
  f_is_free : FnT K mg "is_free" (topS 44) ["heap", "lot", "times", "fewer"]
  f_bounds_free : FnT K mg "bounds_free" (topS 45) ["heap", "times", "fewer"]
  f_most_free : FnT K mg "most_free" (topS 46) ["heap", "times", "fewer"]
  f_built_free : FnT K mg "built_free" (topS 47) ["heap", "times", "fewer"]
  f__law_box : FnT K mg "_law_box" (topS 49) ["script", "k"]
  f__law_take : FnT K mg "_law_take" (topS 50) ["tin", "below_so"]
  f__law_cells : FnT K mg "_law_cells" (topS 51) ["script", "most_so"]
  f__law_same : FnT K mg "_law_same" (topS 52) ["got", "due"]
  f__law_flat : FnT K mg "_law_flat" (topS 53) ["rows_so"]
  f__law_gcd : FnT K mg "_law_gcd" (topS 54) ["one", "two"]
  f__law_up : FnT K mg "_law_up" (topS 55) ["over_so", "by_so"]
  f__law_bound : FnT K mg "_law_bound" (topS 56) ["size_so", "q", "times_so", "fewer_so"]
  f__law_parts : FnT K mg "_law_parts" (topS 57) ["size_so"]
  f__law_row_free : FnT K mg "_law_row_free" (topS 58) ["q", "row_so", "times_so", "fewer_so"]
  f__law_lap_one : FnT K mg "_law_lap_one" (topS 59) ["tin"]
  f_law : FnT K mg "law" (topS 60) ["script"]
  n_abs : mg "abs" = none
  n_all : mg "all" = none
  n_bool : mg "bool" = none
  n_dict : mg "dict" = none
  n_enumerate : mg "enumerate" = none
  n_int : mg "int" = none
  n_isinstance : mg "isinstance" = none
  n_len : mg "len" = none
  n_list : mg "list" = none
  n_max : mg "max" = none
  n_range : mg "range" = none
  n_set : mg "set" = none
  n_sorted : mg "sorted" = none
  n_str : mg "str" = none
  n_tuple : mg "tuple" = none
  n_zip : mg "zip" = none
  c_MOST_MEMBERS : ∃ tk, mg "MOST_MEMBERS" = some (.int 40 tk)
  c_MOST_ROUNDS : ∃ tk, mg "MOST_ROUNDS" = some (.int 3 tk)
  c_MOST_TIMES : ∃ tk, mg "MOST_TIMES" = some (.int 6 tk)
  e_CanNot : ExcT K mg "CanNot" "ValueError" "ValueError.__new__" "ValueError.__init__" [.type "ValueError", .type "Exception", .type "BaseException", .type "object"]
  e_Unfit : ExcT K mg "Unfit" "ValueError" "ValueError.__new__" "ValueError.__init__" [.type "ValueError", .type "Exception", .type "BaseException", .type "object"]
section
variable {P : Program} {w : World} {K : PySem.W.Frag} {mg : Str → Option Value}
theorem sc_is_number : FnScope ["thing"] ["thing"] (defScope (topS 4)) := ⟨rfl, rfl, rfl, by decide +kernel, rfl, by decide +kernel, by decide +kernel⟩
theorem d_is_number (T : Top K mg) : Def P w K mg 1 "is_number" ["thing"] [false] false m_is_number := by
  obtain ⟨f, fd, F, ma, b⟩ := T.f_is_number.ex
  exact def_mk (k := 0) (N := ["thing"]) (O := []) (b := b_is_number) F ma b sc_is_number rfl (by intro i; revert i; exact ownOk_by (by decide)) (by decide) (fun base cdv A outer s H F0 L E hL rc po => by
  have hu := rc.room.units
  have hu1 := hu_of rc.room
  exact (rss_one (rs_ret rfl (re_and (re_isi1 rc (by rfl) T.n_isinstance (PE.w (re_var 0 (no_by rfl) (pv 0))) (pe_ty rc (by rfl) T.n_int (by rfl))) (re_one (re_not (re_isi1 rc (by rfl) T.n_isinstance (PE.w (re_var 0 (no_by rfl) (pv 0))) (pe_ty rc (by rfl) T.n_bool (by rfl)))))))))
theorem sc_primes_in : FnScope ["number", "found", "left", "own"] ["number"] (defScope (topS 22)) := ⟨rfl, rfl, rfl, by decide +kernel, rfl, by decide +kernel, by decide +kernel⟩
theorem d_primes_in (T : Top K mg) : Def P w K mg 1 "primes_in" ["number"] [false] false m_primes_in := by
  obtain ⟨f, fd, F, ma, b⟩ := T.f_primes_in.ex
  exact def_mk (k := 0) (N := ["number", "found", "left", "own"]) (O := [1]) (b := b_primes_in) F ma b sc_primes_in rfl (by intro i; revert i; exact ownOk_by (by decide)) (by decide) (fun base cdv A outer s H F0 L E hL rc po => by
  have hu := rc.room.units
  have hu1 := hu_of rc.room
  exact (rss_cons (rs_par3f (rds_o (in_by rfl) (nl_by hL rfl) (rf_lst rl_nil)) (rds_v (no_by rfl) (re_var 0 (no_by rfl) (pv 0))) (rds_v (no_by rfl) re_int) (fun ha => ps_par3 rc.calm rc.nd rfl rfl rfl (by decide) (by decide) (by decide) rfl rfl rfl ha rfl))
  (rss_cons (rs_while whileFuel (rt_cmp op_gt ope_cmp (re_var 2 (no_by rfl) (pv 2)) (PE.w re_int) (nomark _)) (rss_cons (rs_if (rt_cmp (opr_eq hu) ope_eq (re_bin op_mod ope_mod (re_var 2 (no_by rfl) (pv 2)) (PE.w (re_var 3 (no_by rfl) (pv 3)))) (PE.w re_int) (nomark _))
  (rss_cons (rs_expr (re_mutV (id := "") rc.hK 1 (in_by rfl) mv_append (pv 1) (re_var 3 (no_by rfl) (pv 3)) (fun ht => pe_bm PySem.F.plainAttrs_list PySem.F.slot_list_append PySem.F.type_list_append mt_append (pv 1) ht)))
  (rss_one (rs_while whileFuel (rt_cmp (opr_eq hu) ope_eq (re_bin op_mod ope_mod (re_var 2 (no_by rfl) (pv 2)) (PE.w (re_var 3 (no_by rfl) (pv 3)))) (PE.w re_int) (nomark _)) (rss_one (rs_set 2 (no_by rfl) (re_bin op_fdiv ope_div (re_var 2 (no_by rfl) (pv 2)) (PE.w (re_var 3 (no_by rfl) (pv 3)))) (fun he => ps_set rc.nd rfl (Or.inl rfl) he))) (fun hc hb => ps_while po hc hb))))
  rss_nil)
  (rss_one (rs_aug 3 (no_by rfl) ope_addI re_int (fun he => ps_aug rc.nd rfl (Or.inl rfl) he ip_add)))) (fun hc hb => ps_while po hc hb))
  (rss_one (rs_retO 1 (in_by rfl) (nl_by hL rfl) (pv 1))))))
theorem sc_size_in : FnScope ["heap", "found", "own"] ["heap"] (defScope (topS 15)) := ⟨rfl, rfl, rfl, by decide +kernel, rfl, by decide +kernel, by decide +kernel⟩
theorem d_size_in (T : Top K mg) : Def P w K mg 1 "size_in" ["heap"] [false] false m_size_in := by
  obtain ⟨f, fd, F, ma, b⟩ := T.f_size_in.ex
  exact def_mk (k := 0) (N := ["heap", "found", "own"]) (O := []) (b := b_size_in) F ma b sc_size_in rfl (by intro i; revert i; exact ownOk_by (by decide)) (by decide) (fun base cdv A outer s H F0 L E hL rc po => by
  have hu := rc.room.units
  have hu1 := hu_of rc.room
  exact (rss_cons (rs_set 1 (no_by rfl) re_int (fun he => ps_set rc.nd rfl (Or.inl rfl) he))
  (rss_cons (rs_for (ri_val rc (re_var 0 (no_by rfl) (pv 0))) (rg_name 2 (no_by rfl) (pg_name (i := 2) rc.nd rfl (Or.inl rfl)))
  (rss_one (rs_set 1 (no_by rfl) (re_bin op_mul ope_mulI (re_var 1 (no_by rfl) (pv 1)) (PE.w (re_var 2 (no_by rfl) (pv 2)))) (fun he => ps_set rc.nd rfl (Or.inl rfl) he))) (fun hi hg hb => ps_for po rc.calm hi hg hb))
  (rss_one (rs_ret rfl (re_var 1 (no_by rfl) (pv 1)))))))
theorem sc_lead_in : FnScope ["heap", "primes", "twos", "own"] ["heap"] (defScope (topS 23)) := ⟨rfl, rfl, rfl, by decide +kernel, rfl, by decide +kernel, by decide +kernel⟩
theorem d_lead_in (T : Top K mg) : Def P w K mg 2 "lead_in" ["heap"] [false] false m_lead_in := by
  obtain ⟨f, fd, F, ma, b⟩ := T.f_lead_in.ex
  exact def_mk (k := 1) (N := ["heap", "primes", "twos", "own"]) (O := []) (b := b_lead_in) F ma b sc_lead_in rfl (by intro i; revert i; exact ownOk_by (by decide)) (by decide) (fun base cdv A outer s H F0 L E hL rc po => by
  have hu := rc.room.units
  have hu1 := hu_of rc.room
  exact (rss_cons (rs_set 1 (no_by rfl) (re_call rc (d_primes_in T) (by decide) (by rfl) (ra_val (re_call rc (d_size_in T) (by decide) (by rfl) (ra_val (re_var 0 (no_by rfl) (pv 0)) ra_nil)) ra_nil)) (fun he => ps_set rc.nd rfl (Or.inl rfl) he))
  (rss_cons (rs_setLc (vs := [3]) (is := [3]) (no_by rfl) (vs_by rfl) (by decide) (ps_setLc (i := 2) (own := [("own", 3)]) rc.calm rc.nd rfl rfl (sw_true rfl rfl rfl (by decide +kernel)) (ri_val rc (re_var 1 (no_by rfl) (pv 1))) (blkOk_by (by kernel_rfl)) (fun s H C cl fp => (rg_name 3 (no_by rfl) (pg_name (i := 3) (RC.blk rc).nd rfl (Or.inl rfl)))) (fun s H C cl fp => (rts_one (rt_cmp (opr_eq hu) ope_eq (re_bin op_mod ope_mod (re_var 3 (no_by rfl) (pv 3)) (PE.w re_int)) (PE.w re_int) (nomark _)))) (fun s H C cl fp => (re_var 3 (no_by rfl) (pv 3)))))
  (rss_cons (rs_if (rt_cmp (opr_ne hu) ope_ne (re_var 2 (no_by rfl) (pv 2)) (PE.w (PE.shared (rf_lst rl_nil))) (nomark _))
  (rss_one (rs_ret rfl (re_ix (ixr_all hu1) ope_ix (re_var 2 (no_by rfl) (pv 2)) (PE.w re_int))))
  rss_nil)
  (rss_one (rs_ret rfl (re_if (rt_cmp (opr_in hu1) ope_in re_int (PE.w (re_var 1 (no_by rfl) (pv 1))) rfl) re_int (re_ix (ixr_all hu1) ope_ix (re_var 1 (no_by rfl) (pv 1)) (PE.w (re_un un_neg une_neg (PE.w re_int)))))))))))
theorem sc_most_in : FnScope ["heap", "size", "lead"] ["heap"] (defScope (topS 24)) := ⟨rfl, rfl, rfl, by decide +kernel, rfl, by decide +kernel, by decide +kernel⟩
theorem d_most_in (T : Top K mg) : Def P w K mg 3 "most_in" ["heap"] [false] false m_most_in := by
  obtain ⟨f, fd, F, ma, b⟩ := T.f_most_in.ex
  exact def_mk (k := 2) (N := ["heap", "size", "lead"]) (O := []) (b := b_most_in) F ma b sc_most_in rfl (by intro i; revert i; exact ownOk_by (by decide)) (by decide) (fun base cdv A outer s H F0 L E hL rc po => by
  have hu := rc.room.units
  have hu1 := hu_of rc.room
  exact (rss_cons (rs_par (by decide) (rds_v (no_by rfl) (re_call rc (d_size_in T) (by decide) (by rfl) (ra_val (re_var 0 (no_by rfl) (pv 0)) ra_nil))) (rds_v (no_by rfl) (re_call rc (d_lead_in T) (by decide) (by rfl) (ra_val (re_var 0 (no_by rfl) (pv 0)) ra_nil))) (fun ha => ps_par rc.calm rc.nd rfl rfl (by decide) rfl rfl ha rfl))
  (rss_cons (rs_if (rt_cmp (opr_eq hu) ope_eq (re_bin op_mod ope_mod (re_var 2 (no_by rfl) (pv 2)) (PE.w re_int)) (PE.w re_int) (nomark _))
  (rss_one (rs_ret rfl (re_bin op_fdiv ope_div (re_bin op_mul ope_mulI (re_var 1 (no_by rfl) (pv 1)) (PE.w (re_bin opr_addA ope_addA (re_var 2 (no_by rfl) (pv 2)) (PE.w re_int)))) (PE.w (re_bin op_mul ope_mulI re_int (PE.w (re_var 2 (no_by rfl) (pv 2))))))))
  rss_nil)
  (rss_one (rs_ret rfl (re_if (rt_cmp (opr_eq hu) ope_eq (re_var 2 (no_by rfl) (pv 2)) (PE.w re_int) (nomark _)) (re_bin op_fdiv ope_div (re_var 1 (no_by rfl) (pv 1)) (PE.w re_int)) (re_bin op_fdiv ope_div (re_bin op_sub ope_sub (re_var 1 (no_by rfl) (pv 1)) (PE.w re_int)) (PE.w re_int))))))))
theorem sc_are_numbers : FnScope ["thing", "own"] ["thing"] (defScope (topS 6)) := ⟨rfl, rfl, rfl, by decide +kernel, rfl, by decide +kernel, by decide +kernel⟩
theorem d_are_numbers (T : Top K mg) : Def P w K mg 2 "are_numbers" ["thing"] [false] false m_are_numbers := by
  obtain ⟨f, fd, F, ma, b⟩ := T.f_are_numbers.ex
  exact def_mk (k := 1) (N := ["thing", "own"]) (O := []) (b := b_are_numbers) F ma b sc_are_numbers rfl (by intro i; revert i; exact ownOk_by (by decide)) (by decide) (fun base cdv A outer s H F0 L E hL rc po => by
  have hu := rc.room.units
  have hu1 := hu_of rc.room
  exact (rss_one (rs_ret rfl (re_and (re_isi1 rc (by rfl) T.n_isinstance (PE.w (re_var 0 (no_by rfl) (pv 0))) (pe_ty rc (by rfl) T.n_tuple (by rfl))) (re_one (re_call1 rc (cr_all rc.calm) une_all (by rfl) T.n_all (by rfl) (PE.w (PE.shared (rf_lc (vs := [1]) (is := [1]) (vs_by rfl) (by decide) (pe_lc (own := [("own", 1)]) rc.calm rc.nd (ri_val rc (re_var 0 (no_by rfl) (pv 0))) (blkOk_by (by kernel_rfl)) (fun s H C cl fp => (rg_name 1 (no_by rfl) (pg_name (i := 1) (RC.blk rc).nd rfl (Or.inl rfl)))) (fun s H C cl fp => rts_nil) (fun s H C cl fp => (re_call (RC.blk rc) (d_is_number T) (by decide) (by rfl) (ra_val (re_var 1 (no_by rfl) (pv 1)) ra_nil)))))))))))))
theorem sc_is_heap_in : FnScope ["thing", "own"] ["thing"] (defScope (topS 13)) := ⟨rfl, rfl, rfl, by decide +kernel, rfl, by decide +kernel, by decide +kernel⟩
theorem d_is_heap_in (T : Top K mg) : Def P w K mg 3 "is_heap_in" ["thing"] [false] false m_is_heap_in := by
  obtain ⟨f, fd, F, ma, b⟩ := T.f_is_heap_in.ex
  exact def_mk (k := 2) (N := ["thing", "own"]) (O := []) (b := b_is_heap_in) F ma b sc_is_heap_in rfl (by intro i; revert i; exact ownOk_by (by decide)) (by decide) (fun base cdv A outer s H F0 L E hL rc po => by
  have hu := rc.room.units
  have hu1 := hu_of rc.room
  exact (rss_cons (rs_if (RTW.t (rw_or (rt_not (rt_val (re_call rc (d_are_numbers T) (by decide) (by rfl) (ra_val (re_var 0 (no_by rfl) (pv 0)) ra_nil)))) (rw_or (rt_not (rt_chain op_le op_le ope_cmp ope_cmp re_int (re_call1 rc cr_len une_len (by rfl) T.n_len (by rfl) (PE.w (re_var 0 (no_by rfl) (pv 0)))) (re_kint rc (by rfl) T.c_MOST_ROUNDS.choose_spec))) (rw_or1 (rt_not (rt_val (re_call1 rc (cr_all rc.calm) une_all (by rfl) T.n_all (by rfl) (PE.w (PE.shared (rf_lc (vs := [1]) (is := [1]) (vs_by rfl) (by decide) (pe_lc (own := [("own", 1)]) rc.calm rc.nd (ri_val rc (re_var 0 (no_by rfl) (pv 0))) (blkOk_by (by kernel_rfl)) (fun s H C cl fp => (rg_name 1 (no_by rfl) (pg_name (i := 1) (RC.blk rc).nd rfl (Or.inl rfl)))) (fun s H C cl fp => rts_nil) (fun s H C cl fp => (re_cmp op_ge ope_cmp (re_var 1 (no_by rfl) (pv 1)) (PE.w re_int) (nomark _))))))))))))))
  (rss_one (rs_ret rfl re_bl))
  rss_nil)
  (rss_one (rs_ret rfl (re_cmp op_le ope_cmp (re_call rc (d_size_in T) (by decide) (by rfl) (ra_val (re_var 0 (no_by rfl) (pv 0)) ra_nil)) (PE.w (re_kint rc (by rfl) T.c_MOST_MEMBERS.choose_spec)) (nomark _))))))
theorem sc_tupled : FnScope ["value", "own"] ["value"] (defScope (topS 8)) := ⟨rfl, rfl, rfl, by decide +kernel, rfl, by decide +kernel, by decide +kernel⟩
theorem d_tupled (T : Top K mg) : ∀ d : Nat, Def P w K mg (1 + d) "tupled" ["value"] [false] false (m_tupled d)
  | 0 => by
    obtain ⟨f, fd, F, ma, b⟩ := T.f_tupled.ex
    exact def_mk0 (sig := [false]) (k := 0) (N := ["value", "own"]) F ma b sc_tupled rfl
  | d + 1 => by
    have D0 := d_tupled T d
    obtain ⟨f, fd, F, ma, b⟩ := T.f_tupled.ex
    exact def_mk (sig := [false]) (k := 1 + d) (N := ["value", "own"]) (O := []) (b := b_tupled (m_tupled d)) F ma b sc_tupled rfl (by intro i; revert i; exact ownOk_by (by decide)) (by decide) (fun base cdv A outer s H F0 L E hL rc po => by
  have hu := rc.room.units
  have hu1 := hu_of rc.room
  exact (rss_one (rs_ret rfl (re_if (rt_val (re_isi rc (us := ["list", "tuple"]) (by rfl) T.n_isinstance (PE.w (re_var 0 (no_by rfl) (pv 0))) (tys_cons (pe_ty rc (by rfl) T.n_list (by rfl)) (tys_cons (pe_ty rc (by rfl) T.n_tuple (by rfl)) tys_nil)))) (re_callT1 rc call_tuple_ofF une_tuple (by rfl) T.n_tuple (by rfl) (PE.w (PE.shared (rf_lc (vs := [1]) (is := [1]) (vs_by rfl) (by decide) (pe_lc (own := [("own", 1)]) rc.calm rc.nd (ri_val rc (re_var 0 (no_by rfl) (pv 0))) (blkOk_by (by kernel_rfl)) (fun s H C cl fp => (rg_name 1 (no_by rfl) (pg_name (i := 1) (RC.blk rc).nd rfl (Or.inl rfl)))) (fun s H C cl fp => rts_nil) (fun s H C cl fp => (re_call (RC.blk rc) D0 (Nat.le_refl _) (by rfl) (ra_val (re_var 1 (no_by rfl) (pv 1)) ra_nil)))))))) (re_var 0 (no_by rfl) (pv 0))))))
theorem sc_sure_heap : FnScope ["value", "own"] ["value"] (defScope (topS 14)) := ⟨rfl, rfl, rfl, by decide +kernel, rfl, by decide +kernel, by decide +kernel⟩
theorem d_sure_heap (T : Top K mg) : Def P w K mg 15 "sure_heap" ["value"] [false] false m_sure_heap := by
  obtain ⟨f, fd, F, ma, b⟩ := T.f_sure_heap.ex
  exact def_mk (k := 14) (N := ["value", "own"]) (O := []) (b := b_sure_heap) F ma b sc_sure_heap rfl (by intro i; revert i; exact ownOk_by (by decide)) (by decide) (fun base cdv A outer s H F0 L E hL rc po => by
  have hu := rc.room.units
  have hu1 := hu_of rc.room
  exact (rss_cons (rs_set 1 (no_by rfl) (re_call rc (d_tupled T 12) (by decide) (by rfl) (ra_val (re_var 0 (no_by rfl) (pv 0)) ra_nil)) (fun he => ps_set rc.nd rfl (Or.inl rfl) he))
  (rss_cons (rs_if (rt_not (rt_val (re_call rc (d_is_heap_in T) (by decide) (by rfl) (ra_val (re_var 1 (no_by rfl) (pv 1)) ra_nil))))
  (rss_one (rs_raise rc PySem.F.excBase_ValueError T.e_Unfit.choose_spec (by rfl)))
  rss_nil)
  (rss_one (rs_ret rfl (re_var 1 (no_by rfl) (pv 1)))))))
theorem sc_most : FnScope ["heap"] ["heap"] (defScope (topS 27)) := ⟨rfl, rfl, rfl, by decide +kernel, rfl, by decide +kernel, by decide +kernel⟩
theorem d_most (T : Top K mg) : Def P w K mg 16 "most" ["heap"] [false] false m_most := by
  obtain ⟨f, fd, F, ma, b⟩ := T.f_most.ex
  exact def_mk (k := 15) (N := ["heap"]) (O := []) (b := b_most) F ma b sc_most rfl (by intro i; revert i; exact ownOk_by (by decide)) (by decide) (fun base cdv A outer s H F0 L E hL rc po => by
  have hu := rc.room.units
  have hu1 := hu_of rc.room
  exact (rss_one (rs_ret rfl (re_call rc (d_most_in T) (by decide) (by rfl) (ra_val (re_call rc (d_sure_heap T) (by decide) (by rfl) (ra_val (re_var 0 (no_by rfl) (pv 0)) ra_nil)) ra_nil)))))
theorem sc_is_within : FnScope ["thing", "least", "most"] ["thing", "least", "most"] (defScope (topS 5)) := ⟨rfl, rfl, rfl, by decide +kernel, rfl, by decide +kernel, by decide +kernel⟩
theorem d_is_within (T : Top K mg) : Def P w K mg 17 "is_within" ["thing", "least", "most"] [false, false, false] false m_is_within := by
  obtain ⟨f, fd, F, ma, b⟩ := T.f_is_within.ex
  exact def_mk (k := 16) (N := ["thing", "least", "most"]) (O := []) (b := b_is_within) F ma b sc_is_within rfl (by intro i; revert i; exact ownOk_by (by decide)) (by decide) (fun base cdv A outer s H F0 L E hL rc po => by
  have hu := rc.room.units
  have hu1 := hu_of rc.room
  exact (rss_one (rs_ret rfl (re_and (re_call rc (d_is_number T) (by decide) (by rfl) (ra_val (re_var 0 (no_by rfl) (pv 0)) ra_nil)) (re_one (re_chain op_le op_le ope_cmp ope_cmp (re_var 1 (no_by rfl) (pv 1)) (re_var 0 (no_by rfl) (pv 0)) (re_var 2 (no_by rfl) (pv 2))))))))
theorem sc_ascends : FnScope ["row", "one", "other"] ["row"] (defScope (topS 7)) := ⟨rfl, rfl, rfl, by decide +kernel, rfl, by decide +kernel, by decide +kernel⟩
theorem d_ascends (T : Top K mg) : Def P w K mg 1 "ascends" ["row"] [false] false m_ascends := by
  obtain ⟨f, fd, F, ma, b⟩ := T.f_ascends.ex
  exact def_mk (k := 0) (N := ["row", "one", "other"]) (O := []) (b := b_ascends) F ma b sc_ascends rfl (by intro i; revert i; exact ownOk_by (by decide)) (by decide) (fun base cdv A outer s H F0 L E hL rc po => by
  have hu := rc.room.units
  have hu1 := hu_of rc.room
  exact (rss_one (rs_ret rfl (re_call1 rc (cr_all rc.calm) une_all (by rfl) T.n_all (by rfl) (PE.w (PE.shared (rf_lc (vs := [1, 2]) (is := [1, 2]) (vs_by rfl) (by decide) (pe_lc (own := [("one", 1), ("other", 2)]) rc.calm rc.nd (ri_zip rc (by rfl) T.n_zip (re_var 0 (no_by rfl) (pv 0)) (re_slice (re_var 0 (no_by rfl) (pv 0)) (ro_some re_int) ro_none rc.hK)) (blkOk_by (by kernel_rfl)) (fun s H C cl fp => (rg_tup (RC.blk rc).hK rfl (fun ht => pg_tup (RC.blk rc).calm ht) (rgs_cons 1 (no_by rfl) (pg_name (i := 1) (RC.blk rc).nd rfl (Or.inl rfl)) (rgs_cons 2 (no_by rfl) (pg_name (i := 2) (RC.blk rc).nd rfl (Or.inl rfl)) rgs_nil)))) (fun s H C cl fp => rts_nil) (fun s H C cl fp => (re_cmp op_lt ope_cmp (re_var 1 (no_by rfl) (pv 1)) (PE.w (re_var 2 (no_by rfl) (pv 2))) (nomark _)))))))))))
theorem sc_sure_within : FnScope ["thing", "least", "most"] ["thing", "least", "most"] (defScope (topS 9)) := ⟨rfl, rfl, rfl, by decide +kernel, rfl, by decide +kernel, by decide +kernel⟩
theorem d_sure_within (T : Top K mg) : Def P w K mg 18 "sure_within" ["thing", "least", "most"] [false, false, false] false m_sure_within := by
  obtain ⟨f, fd, F, ma, b⟩ := T.f_sure_within.ex
  exact def_mk (k := 17) (N := ["thing", "least", "most"]) (O := []) (b := b_sure_within) F ma b sc_sure_within rfl (by intro i; revert i; exact ownOk_by (by decide)) (by decide) (fun base cdv A outer s H F0 L E hL rc po => by
  have hu := rc.room.units
  have hu1 := hu_of rc.room
  exact (rss_cons (rs_if (rt_not (rt_val (re_call rc (d_is_within T) (by decide) (by rfl) (ra_val (re_var 0 (no_by rfl) (pv 0)) (ra_val (re_var 1 (no_by rfl) (pv 1)) (ra_val (re_var 2 (no_by rfl) (pv 2)) ra_nil))))))
  (rss_one (rs_raise rc PySem.F.excBase_ValueError T.e_Unfit.choose_spec (by rfl)))
  rss_nil)
  (rss_one (rs_ret rfl (re_var 0 (no_by rfl) (pv 0))))))
theorem sc_rests_in : FnScope ["heap", "member", "own", "found", "left"] ["heap", "member"] (defScope (topS 16)) := ⟨rfl, rfl, rfl, by decide +kernel, rfl, by decide +kernel, by decide +kernel⟩
theorem d_rests_in (T : Top K mg) : Def P w K mg 1 "rests_in" ["heap", "member"] [false, false] false m_rests_in := by
  obtain ⟨f, fd, F, ma, b⟩ := T.f_rests_in.ex
  exact def_mk (k := 0) (N := ["heap", "member", "own", "found", "left"]) (O := []) (b := b_rests_in) F ma b sc_rests_in rfl (by intro i; revert i; exact ownOk_by (by decide)) (by decide) (fun base cdv A outer s H F0 L E hL rc po => by
  have hu := rc.room.units
  have hu1 := hu_of rc.room
  exact (rss_cons (rs_par (by decide) (rds_v (no_by rfl) (re_tup rl_nil)) (rds_v (no_by rfl) (re_var 1 (no_by rfl) (pv 1))) (fun ha => ps_par rc.calm rc.nd rfl rfl (by decide) rfl rfl ha rfl))
  (rss_cons (rs_for (ri_val rc (re_rev rc (re_var 0 (no_by rfl) (pv 0)))) (rg_name 2 (no_by rfl) (pg_name (i := 2) rc.nd rfl (Or.inl rfl)))
  (rss_cons (rs_set 3 (no_by rfl) (re_bin opr_addA ope_addA (re_tup (rl_cons (re_bin op_mod ope_mod (re_var 4 (no_by rfl) (pv 4)) (PE.w (re_var 2 (no_by rfl) (pv 2)))) rl_nil)) (PE.w (re_var 3 (no_by rfl) (pv 3)))) (fun he => ps_set rc.nd rfl (Or.inl rfl) he))
  (rss_one (rs_set 4 (no_by rfl) (re_bin op_fdiv ope_div (re_var 4 (no_by rfl) (pv 4)) (PE.w (re_var 2 (no_by rfl) (pv 2)))) (fun he => ps_set rc.nd rfl (Or.inl rfl) he)))) (fun hi hg hb => ps_for po rc.calm hi hg hb))
  (rss_one (rs_ret rfl (re_var 3 (no_by rfl) (pv 3)))))))
theorem sc_member_in : FnScope ["heap", "rests", "found", "own", "rest"] ["heap", "rests"] (defScope (topS 17)) := ⟨rfl, rfl, rfl, by decide +kernel, rfl, by decide +kernel, by decide +kernel⟩
theorem d_member_in (T : Top K mg) : Def P w K mg 1 "member_in" ["heap", "rests"] [false, false] false m_member_in := by
  obtain ⟨f, fd, F, ma, b⟩ := T.f_member_in.ex
  exact def_mk (k := 0) (N := ["heap", "rests", "found", "own", "rest"]) (O := []) (b := b_member_in) F ma b sc_member_in rfl (by intro i; revert i; exact ownOk_by (by decide)) (by decide) (fun base cdv A outer s H F0 L E hL rc po => by
  have hu := rc.room.units
  have hu1 := hu_of rc.room
  exact (rss_cons (rs_set 2 (no_by rfl) re_int (fun he => ps_set rc.nd rfl (Or.inl rfl) he))
  (rss_cons (rs_for (ri_zip rc (by rfl) T.n_zip (re_var 0 (no_by rfl) (pv 0)) (re_var 1 (no_by rfl) (pv 1))) (rg_tup rc.hK rfl (fun ht => pg_tup rc.calm ht) (rgs_cons 3 (no_by rfl) (pg_name (i := 3) rc.nd rfl (Or.inl rfl)) (rgs_cons 4 (no_by rfl) (pg_name (i := 4) rc.nd rfl (Or.inl rfl)) rgs_nil)))
  (rss_one (rs_set 2 (no_by rfl) (re_bin opr_addA ope_addA (re_bin op_mul ope_mulI (re_var 2 (no_by rfl) (pv 2)) (PE.w (re_var 3 (no_by rfl) (pv 3)))) (PE.w (re_bin op_mod ope_mod (re_var 4 (no_by rfl) (pv 4)) (PE.w (re_var 3 (no_by rfl) (pv 3)))))) (fun he => ps_set rc.nd rfl (Or.inl rfl) he))) (fun hi hg hb => ps_for po rc.calm hi hg hb))
  (rss_one (rs_ret rfl (re_var 2 (no_by rfl) (pv 2)))))))
theorem sc_added_in : FnScope ["heap", "one", "other", "near", "far"] ["heap", "one", "other"] (defScope (topS 18)) := ⟨rfl, rfl, rfl, by decide +kernel, rfl, by decide +kernel, by decide +kernel⟩
theorem d_added_in (T : Top K mg) : Def P w K mg 2 "added_in" ["heap", "one", "other"] [false, false, false] false m_added_in := by
  obtain ⟨f, fd, F, ma, b⟩ := T.f_added_in.ex
  exact def_mk (k := 1) (N := ["heap", "one", "other", "near", "far"]) (O := []) (b := b_added_in) F ma b sc_added_in rfl (by intro i; revert i; exact ownOk_by (by decide)) (by decide) (fun base cdv A outer s H F0 L E hL rc po => by
  have hu := rc.room.units
  have hu1 := hu_of rc.room
  exact (rss_one (rs_ret rfl (re_call rc (d_member_in T) (by decide) (by rfl) (ra_val (re_var 0 (no_by rfl) (pv 0)) (ra_val (PE.shared (rf_lc (vs := [3, 4]) (is := [3, 4]) (vs_by rfl) (by decide) (pe_lc (own := [("near", 3), ("far", 4)]) rc.calm rc.nd (ri_zip rc (by rfl) T.n_zip (re_call rc (d_rests_in T) (by decide) (by rfl) (ra_val (re_var 0 (no_by rfl) (pv 0)) (ra_val (re_var 1 (no_by rfl) (pv 1)) ra_nil))) (re_call rc (d_rests_in T) (by decide) (by rfl) (ra_val (re_var 0 (no_by rfl) (pv 0)) (ra_val (re_var 2 (no_by rfl) (pv 2)) ra_nil)))) (blkOk_by (by kernel_rfl)) (fun s H C cl fp => (rg_tup (RC.blk rc).hK rfl (fun ht => pg_tup (RC.blk rc).calm ht) (rgs_cons 3 (no_by rfl) (pg_name (i := 3) (RC.blk rc).nd rfl (Or.inl rfl)) (rgs_cons 4 (no_by rfl) (pg_name (i := 4) (RC.blk rc).nd rfl (Or.inl rfl)) rgs_nil)))) (fun s H C cl fp => rts_nil) (fun s H C cl fp => (re_bin opr_addA ope_addA (re_var 3 (no_by rfl) (pv 3)) (PE.w (re_var 4 (no_by rfl) (pv 4)))))))) ra_nil))))))
theorem sc_is_lot_in : FnScope ["heap", "thing"] ["heap", "thing"] (defScope (topS 19)) := ⟨rfl, rfl, rfl, by decide +kernel, rfl, by decide +kernel, by decide +kernel⟩
theorem d_is_lot_in (T : Top K mg) : Def P w K mg 3 "is_lot_in" ["heap", "thing"] [false, false] false m_is_lot_in := by
  obtain ⟨f, fd, F, ma, b⟩ := T.f_is_lot_in.ex
  exact def_mk (k := 2) (N := ["heap", "thing"]) (O := []) (b := b_is_lot_in) F ma b sc_is_lot_in rfl (by intro i; revert i; exact ownOk_by (by decide)) (by decide) (fun base cdv A outer s H F0 L E hL rc po => by
  have hu := rc.room.units
  have hu1 := hu_of rc.room
  exact (rss_cons (rs_if (RTW.t (rw_or (rt_not (rt_val (re_call rc (d_are_numbers T) (by decide) (by rfl) (ra_val (re_var 1 (no_by rfl) (pv 1)) ra_nil)))) (rw_or1 (rt_not (rt_val (re_call rc (d_ascends T) (by decide) (by rfl) (ra_val (re_var 1 (no_by rfl) (pv 1)) ra_nil)))))))
  (rss_one (rs_ret rfl re_bl))
  rss_nil)
  (rss_one (rs_ret rfl (re_or (re_cmp (opr_eq hu) ope_eq (re_var 1 (no_by rfl) (pv 1)) (PE.w (re_tup rl_nil)) (nomark _)) (re_one (re_and (re_cmp op_le ope_cmp re_int (PE.w (re_ix (ixr_all hu1) ope_ix (re_var 1 (no_by rfl) (pv 1)) (PE.w re_int))) (nomark _)) (re_one (re_cmp op_lt ope_cmp (re_ix (ixr_all hu1) ope_ix (re_var 1 (no_by rfl) (pv 1)) (PE.w (re_un un_neg une_neg (PE.w re_int)))) (PE.w (re_call rc (d_size_in T) (by decide) (by rfl) (ra_val (re_var 0 (no_by rfl) (pv 0)) ra_nil))) (nomark _))))))))))
theorem sc_sure_lot : FnScope ["heap", "value", "own"] ["heap", "value"] (defScope (topS 20)) := ⟨rfl, rfl, rfl, by decide +kernel, rfl, by decide +kernel, by decide +kernel⟩
theorem d_sure_lot (T : Top K mg) : Def P w K mg 15 "sure_lot" ["heap", "value"] [false, false] false m_sure_lot := by
  obtain ⟨f, fd, F, ma, b⟩ := T.f_sure_lot.ex
  exact def_mk (k := 14) (N := ["heap", "value", "own"]) (O := []) (b := b_sure_lot) F ma b sc_sure_lot rfl (by intro i; revert i; exact ownOk_by (by decide)) (by decide) (fun base cdv A outer s H F0 L E hL rc po => by
  have hu := rc.room.units
  have hu1 := hu_of rc.room
  exact (rss_cons (rs_set 2 (no_by rfl) (re_call rc (d_tupled T 12) (by decide) (by rfl) (ra_val (re_var 1 (no_by rfl) (pv 1)) ra_nil)) (fun he => ps_set rc.nd rfl (Or.inl rfl) he))
  (rss_cons (rs_if (rt_not (rt_val (re_call rc (d_is_lot_in T) (by decide) (by rfl) (ra_val (re_var 0 (no_by rfl) (pv 0)) (ra_val (re_var 2 (no_by rfl) (pv 2)) ra_nil)))))
  (rss_one (rs_raise rc PySem.F.excBase_ValueError T.e_Unfit.choose_spec (by rfl)))
  rss_nil)
  (rss_one (rs_ret rfl (re_var 2 (no_by rfl) (pv 2)))))))
theorem sc_divisors_in : FnScope ["number", "own"] ["number"] (defScope (topS 25)) := ⟨rfl, rfl, rfl, by decide +kernel, rfl, by decide +kernel, by decide +kernel⟩
theorem d_divisors_in (T : Top K mg) : Def P w K mg 1 "divisors_in" ["number"] [false] false m_divisors_in := by
  obtain ⟨f, fd, F, ma, b⟩ := T.f_divisors_in.ex
  exact def_mk (k := 0) (N := ["number", "own"]) (O := []) (b := b_divisors_in) F ma b sc_divisors_in rfl (by intro i; revert i; exact ownOk_by (by decide)) (by decide) (fun base cdv A outer s H F0 L E hL rc po => by
  have hu := rc.room.units
  have hu1 := hu_of rc.room
  exact (rss_one (rs_ret rfl (PE.shared (rf_lc (vs := [1]) (is := [1]) (vs_by rfl) (by decide) (pe_lc (own := [("own", 1)]) rc.calm rc.nd (ri_range2 rc (by rfl) T.n_range re_int (re_bin opr_addA ope_addA (re_var 0 (no_by rfl) (pv 0)) (PE.w re_int))) (blkOk_by (by kernel_rfl)) (fun s H C cl fp => (rg_name 1 (no_by rfl) (pg_name (i := 1) (RC.blk rc).nd rfl (Or.inl rfl)))) (fun s H C cl fp => (rts_one (rt_cmp (opr_eq hu) ope_eq (re_bin op_mod ope_mod (re_var 0 (no_by rfl) (pv 0)) (PE.w (re_var 1 (no_by rfl) (pv 1)))) (PE.w re_int) (nomark _)))) (fun s H C cl fp => (re_var 1 (no_by rfl) (pv 1)))))))))
theorem sc_bound_in : FnScope ["heap", "parts"] ["heap", "parts"] (defScope (topS 26)) := ⟨rfl, rfl, rfl, by decide +kernel, rfl, by decide +kernel, by decide +kernel⟩
theorem d_bound_in (T : Top K mg) : Def P w K mg 2 "bound_in" ["heap", "parts"] [false, false] false m_bound_in := by
  obtain ⟨f, fd, F, ma, b⟩ := T.f_bound_in.ex
  exact def_mk (k := 1) (N := ["heap", "parts"]) (O := []) (b := b_bound_in) F ma b sc_bound_in rfl (by intro i; revert i; exact ownOk_by (by decide)) (by decide) (fun base cdv A outer s H F0 L E hL rc po => by
  have hu := rc.room.units
  have hu1 := hu_of rc.room
  exact (rss_one (rs_ret rfl (re_bin op_mul ope_mulI (re_bin op_fdiv ope_div (re_call rc (d_size_in T) (by decide) (by rfl) (ra_val (re_var 0 (no_by rfl) (pv 0)) ra_nil)) (PE.w (re_var 1 (no_by rfl) (pv 1)))) (PE.w (re_bin op_fdiv ope_div (re_bin opr_addA ope_addA (re_var 1 (no_by rfl) (pv 1)) (PE.w re_int)) (PE.w re_int)))))))
theorem sc_bounds : FnScope ["heap", "own", "its"] ["heap"] (defScope (topS 28)) := ⟨rfl, rfl, rfl, by decide +kernel, rfl, by decide +kernel, by decide +kernel⟩
theorem d_bounds (T : Top K mg) : Def P w K mg 16 "bounds" ["heap"] [false] false m_bounds := by
  obtain ⟨f, fd, F, ma, b⟩ := T.f_bounds.ex
  exact def_mk (k := 15) (N := ["heap", "own", "its"]) (O := []) (b := b_bounds) F ma b sc_bounds rfl (by intro i; revert i; exact ownOk_by (by decide)) (by decide) (fun base cdv A outer s H F0 L E hL rc po => by
  have hu := rc.room.units
  have hu1 := hu_of rc.room
  exact (rss_cons (rs_set 1 (no_by rfl) (re_call rc (d_sure_heap T) (by decide) (by rfl) (ra_val (re_var 0 (no_by rfl) (pv 0)) ra_nil)) (fun he => ps_set rc.nd rfl (Or.inr rfl) he))
  (rss_one (rs_ret rfl (PE.shared (rf_lc (vs := [2]) (is := [2]) (vs_by rfl) (by decide) (pe_lc (own := [("its", 2)]) rc.calm rc.nd (ri_val rc (re_call rc (d_divisors_in T) (by decide) (by rfl) (ra_val (re_call rc (d_size_in T) (by decide) (by rfl) (ra_val (re_var 1 (no_by rfl) (pv 1)) ra_nil)) ra_nil))) (blkOk_by (by kernel_rfl)) (fun s H C cl fp => (rg_name 2 (no_by rfl) (pg_name (i := 2) (RC.blk rc).nd rfl (Or.inl rfl)))) (fun s H C cl fp => rts_nil) (fun s H C cl fp => (re_tup (rl_cons (re_var 2 (no_by rfl) (pv 2)) (rl_cons (re_call (RC.blk rc) (d_bound_in T) (by decide) (by rfl) (ra_val (re_var 1 (no_by rfl) (pv 1)) (ra_val (re_var 2 (no_by rfl) (pv 2)) ra_nil))) rl_nil)))))))))))
theorem sc_sums_table : FnScope ["heap", "one", "other"] ["heap"] (defScope (topS 30)) := ⟨rfl, rfl, rfl, by decide +kernel, rfl, by decide +kernel, by decide +kernel⟩
theorem d_sums_table (T : Top K mg) : Def P w K mg 3 "sums_table" ["heap"] [false] false m_sums_table := by
  obtain ⟨f, fd, F, ma, b⟩ := T.f_sums_table.ex
  exact def_mk (k := 2) (N := ["heap", "one", "other"]) (O := []) (b := b_sums_table) F ma b sc_sums_table rfl (by intro i; revert i; exact ownOk_by (by decide)) (by decide) (fun base cdv A outer s H F0 L E hL rc po => by
  have hu := rc.room.units
  have hu1 := hu_of rc.room
  exact (rss_one (rs_ret rfl (PE.shared (rf_lc (vs := [1]) (is := [1]) (vs_by rfl) (by decide) (pe_lc (own := [("one", 1)]) rc.calm rc.nd (ri_range1 rc (by rfl) T.n_range (re_call rc (d_size_in T) (by decide) (by rfl) (ra_val (re_var 0 (no_by rfl) (pv 0)) ra_nil))) (blkOk_by (by kernel_rfl)) (fun s H C cl fp => (rg_name 1 (no_by rfl) (pg_name (i := 1) (RC.blk rc).nd rfl (Or.inr rfl)))) (fun s H C cl fp => rts_nil) (fun s H C cl fp => (PE.shared (rf_lc (vs := [2]) (is := [2]) (vs_by rfl) (by decide) (pe_lc (own := [("other", 2)]) (RC.blk rc).calm (RC.blk rc).nd (ri_range1 (RC.blk rc) (by rfl) T.n_range (re_call (RC.blk rc) (d_size_in T) (by decide) (by rfl) (ra_val (re_var 0 (no_by rfl) (pv 0)) ra_nil))) (blkOk_by (by kernel_rfl)) (fun s H C cl fp => (rg_name 2 (no_by rfl) (pg_name (i := 2) (RC.blk (RC.blk rc)).nd rfl (Or.inl rfl)))) (fun s H C cl fp => rts_nil) (fun s H C cl fp => (re_call (RC.blk (RC.blk rc)) (d_added_in T) (by decide) (by rfl) (ra_val (re_var 0 (no_by rfl) (pv 0)) (ra_val (re_var 1 (no_by rfl) (pv 1)) (ra_val (re_var 2 (no_by rfl) (pv 2)) ra_nil)))))))))))))))
theorem sc_common_of : FnScope ["one", "other"] ["one", "other"] (defScope (topS 33)) := ⟨rfl, rfl, rfl, by decide +kernel, rfl, by decide +kernel, by decide +kernel⟩
theorem d_common_of (T : Top K mg) : Def P w K mg 1 "common_of" ["one", "other"] [false, false] false m_common_of := by
  obtain ⟨f, fd, F, ma, b⟩ := T.f_common_of.ex
  exact def_mk (k := 0) (N := ["one", "other"]) (O := []) (b := b_common_of) F ma b sc_common_of rfl (by intro i; revert i; exact ownOk_by (by decide)) (by decide) (fun base cdv A outer s H F0 L E hL rc po => by
  have hu := rc.room.units
  have hu1 := hu_of rc.room
  exact (rss_cons (rs_while whileFuel (rt_cmp (opr_ne hu) ope_ne (re_var 1 (no_by rfl) (pv 1)) (PE.w re_int) (nomark _)) (rss_one (rs_par (by decide) (rds_v (no_by rfl) (re_var 1 (no_by rfl) (pv 1))) (rds_v (no_by rfl) (re_bin op_mod ope_mod (re_var 0 (no_by rfl) (pv 0)) (PE.w (re_var 1 (no_by rfl) (pv 1))))) (fun ha => ps_par rc.calm rc.nd rfl rfl (by decide) rfl rfl ha rfl))) (fun hc hb => ps_while po hc hb))
  (rss_one (rs_ret rfl (re_var 0 (no_by rfl) (pv 0))))))
theorem sc_folded : FnScope ["table", "lot", "many", "found", "lap", "near", "far"] ["table", "lot", "many"] (defScope (topS 34)) := ⟨rfl, rfl, rfl, by decide +kernel, rfl, by decide +kernel, by decide +kernel⟩
theorem d_folded (T : Top K mg) : Def P w K mg 1 "folded" ["table", "lot", "many"] [false, false, false] false m_folded := by
  obtain ⟨f, fd, F, ma, b⟩ := T.f_folded.ex
  exact def_mk (k := 0) (N := ["table", "lot", "many", "found", "lap", "near", "far"]) (O := []) (b := b_folded) F ma b sc_folded rfl (by intro i; revert i; exact ownOk_by (by decide)) (by decide) (fun base cdv A outer s H F0 L E hL rc po => by
  have hu := rc.room.units
  have hu1 := hu_of rc.room
  exact (rss_cons (rs_set 3 (no_by rfl) (re_callT1 rc call_tuple_ofF une_tuple (by rfl) T.n_tuple (by rfl) (PE.w (re_var 1 (no_by rfl) (pv 1)))) (fun he => ps_set rc.nd rfl (Or.inl rfl) he))
  (rss_cons (rs_for (ri_range1 rc (by rfl) T.n_range (re_bin op_sub ope_sub (re_var 2 (no_by rfl) (pv 2)) (PE.w re_int))) (rg_name 4 (no_by rfl) (pg_name (i := 4) rc.nd rfl (Or.inl rfl)))
  (rss_one (rs_set 3 (no_by rfl) (re_callT1 rc call_tuple_ofF une_tuple (by rfl) T.n_tuple (by rfl) (PE.w (PE.shared (rf_sortSet rc (by rfl) T.n_set (by rfl) T.n_sorted (PE.w (PE.shared (rf_lc2 (vs := [5, 6]) (vs1 := [6]) (is := [5]) (is1 := [6]) (vs_by rfl) (by decide) (vs_by rfl) (by decide) (pe_lc2 (own := [("near", 5), ("far", 6)]) rc.calm rc.nd (ri_val rc (re_var 3 (no_by rfl) (pv 3))) (blkOk_by (by kernel_rfl)) (by decide) (fun s H C cl fp => (rg_name 5 (no_by rfl) (pg_name (i := 5) (RC.blk rc).nd rfl (Or.inl rfl)))) (fun s H C cl fp => rts_nil) (fun s H C cl fp => (ri_val (RC.blk rc) (re_var 1 (no_by rfl) (pv 1)))) (fun s H C cl fp => (rg_name 6 (no_by rfl) (pg_name (i := 6) (RC.blk rc).nd rfl (Or.inl rfl)))) (fun s H C cl fp => rts_nil) (fun s H C cl fp => (re_ix (ixr_all hu1) ope_ix (re_ix (ixr_all hu1) ope_ix (re_var 0 (no_by rfl) (pv 0)) (PE.w (re_var 5 (no_by rfl) (pv 5)))) (PE.w (re_var 6 (no_by rfl) (pv 6))))))))))))) (fun he => ps_set rc.nd rfl (Or.inl rfl) he))) (fun hi hg hb => ps_for po rc.calm hi hg hb))
  (rss_one (rs_ret rfl (re_var 3 (no_by rfl) (pv 3)))))))
theorem sc_common_in : FnScope ["table", "lot", "times", "fewer", "held", "own"] ["table", "lot", "times", "fewer"] (defScope (topS 35)) := ⟨rfl, rfl, rfl, by decide +kernel, rfl, by decide +kernel, by decide +kernel⟩
theorem d_common_in (T : Top K mg) : Def P w K mg 2 "common_in" ["table", "lot", "times", "fewer"] [false, false, false, false] false m_common_in := by
  obtain ⟨f, fd, F, ma, b⟩ := T.f_common_in.ex
  exact def_mk (k := 1) (N := ["table", "lot", "times", "fewer", "held", "own"]) (O := []) (b := b_common_in) F ma b sc_common_in rfl (by intro i; revert i; exact ownOk_by (by decide)) (by decide) (fun base cdv A outer s H F0 L E hL rc po => by
  have hu := rc.room.units
  have hu1 := hu_of rc.room
  exact (rss_cons (rs_set 4 (no_by rfl) (PE.shared (rf_callT1 rc (cr_dictP rc.calm) unn_dict (by rfl) T.n_dict (by rfl) (PE.w (PE.shared (rf_lc (vs := [5]) (is := [5]) (vs_by rfl) (by decide) (pe_lc (own := [("own", 5)]) rc.calm rc.nd (ri_val rc (re_call rc (d_folded T) (by decide) (by rfl) (ra_val (re_var 0 (no_by rfl) (pv 0)) (ra_val (re_var 1 (no_by rfl) (pv 1)) (ra_val (re_var 3 (no_by rfl) (pv 3)) ra_nil))))) (blkOk_by (by kernel_rfl)) (fun s H C cl fp => (rg_name 5 (no_by rfl) (pg_name (i := 5) (RC.blk rc).nd rfl (Or.inl rfl)))) (fun s H C cl fp => rts_nil) (fun s H C cl fp => (re_tup (rl_cons (re_var 5 (no_by rfl) (pv 5)) (rl_cons re_bl rl_nil)))))))))) (fun he => ps_set rc.nd rfl (Or.inr rfl) he))
  (rss_one (rs_ret rfl (re_callT1 rc call_tuple_ofF une_tuple (by rfl) T.n_tuple (by rfl) (PE.w (PE.shared (rf_lc (vs := [5]) (is := [5]) (vs_by rfl) (by decide) (pe_lc (own := [("own", 5)]) rc.calm rc.nd (ri_val rc (re_call rc (d_folded T) (by decide) (by rfl) (ra_val (re_var 0 (no_by rfl) (pv 0)) (ra_val (re_var 1 (no_by rfl) (pv 1)) (ra_val (re_var 2 (no_by rfl) (pv 2)) ra_nil))))) (blkOk_by (by kernel_rfl)) (fun s H C cl fp => (rg_name 5 (no_by rfl) (pg_name (i := 5) (RC.blk rc).nd rfl (Or.inl rfl)))) (fun s H C cl fp => (rts_one (rt_cmp (opr_in hu1) ope_in (re_var 5 (no_by rfl) (pv 5)) (PE.w (re_var 4 (no_by rfl) (pv 4))) rfl))) (fun s H C cl fp => (re_var 5 (no_by rfl) (pv 5))))))))))))
theorem sc_size_free : FnScope ["parts", "times", "fewer", "most", "left", "both", "shared"] ["parts", "times", "fewer"] (defScope (topS 36)) := ⟨rfl, rfl, rfl, by decide +kernel, rfl, by decide +kernel, by decide +kernel⟩
theorem d_size_free (T : Top K mg) : Def P w K mg 17 "size_free" ["parts", "times", "fewer"] [false, false, false] false m_size_free := by
  obtain ⟨f, fd, F, ma, b⟩ := T.f_size_free.ex
  exact def_mk (k := 16) (N := ["parts", "times", "fewer", "most", "left", "both", "shared"]) (O := []) (b := b_size_free) F ma b sc_size_free rfl (by intro i; revert i; exact ownOk_by (by decide)) (by decide) (fun base cdv A outer s H F0 L E hL rc po => by
  have hu := rc.room.units
  have hu1 := hu_of rc.room
  exact (rss_cons (rs_par (by decide) (rds_v (no_by rfl) (re_bin opr_addA ope_addA (re_var 1 (no_by rfl) (pv 1)) (PE.w (re_var 2 (no_by rfl) (pv 2))))) (rds_v (no_by rfl) (re_call rc (d_common_of T) (by decide) (by rfl) (ra_val (re_var 0 (no_by rfl) (pv 0)) (ra_val (re_bin op_sub ope_sub (re_var 1 (no_by rfl) (pv 1)) (PE.w (re_var 2 (no_by rfl) (pv 2)))) ra_nil)))) (fun ha => ps_par rc.calm rc.nd rfl rfl (by decide) rfl rfl ha rfl))
  (rss_cons (rs_set 3 (no_by rfl) (re_bin op_fdiv ope_div (re_bin op_sub ope_sub (re_bin opr_addA ope_addA (re_bin op_sub ope_sub (re_var 0 (no_by rfl) (pv 0)) (PE.w (re_var 6 (no_by rfl) (pv 6)))) (PE.w (re_var 5 (no_by rfl) (pv 5)))) (PE.w re_int)) (PE.w (re_var 5 (no_by rfl) (pv 5)))) (fun he => ps_set rc.nd rfl (Or.inl rfl) he))
  (rss_cons (rs_set 4 (no_by rfl) (re_bin op_sub ope_sub (re_var 6 (no_by rfl) (pv 6)) (PE.w (re_bin op_mod ope_mod (re_bin op_mul ope_mulI (re_var 2 (no_by rfl) (pv 2)) (PE.w (re_var 3 (no_by rfl) (pv 3)))) (PE.w (re_var 6 (no_by rfl) (pv 6)))))) (fun he => ps_set rc.nd rfl (Or.inl rfl) he))
  (rss_one (rs_ret rfl (re_bin op_fdiv ope_div (re_bin op_sub ope_sub (re_bin opr_addA ope_addA (re_bin op_sub ope_sub (re_var 0 (no_by rfl) (pv 0)) (PE.w (re_var 4 (no_by rfl) (pv 4)))) (PE.w (re_var 5 (no_by rfl) (pv 5)))) (PE.w re_int)) (PE.w (re_var 5 (no_by rfl) (pv 5))))))))))
theorem sc_bounds_in : FnScope ["size", "times", "fewer", "own"] ["size", "times", "fewer"] (defScope (topS 37)) := ⟨rfl, rfl, rfl, by decide +kernel, rfl, by decide +kernel, by decide +kernel⟩
theorem d_bounds_in (T : Top K mg) : Def P w K mg 18 "bounds_in" ["size", "times", "fewer"] [false, false, false] false m_bounds_in := by
  obtain ⟨f, fd, F, ma, b⟩ := T.f_bounds_in.ex
  exact def_mk (k := 17) (N := ["size", "times", "fewer", "own"]) (O := []) (b := b_bounds_in) F ma b sc_bounds_in rfl (by intro i; revert i; exact ownOk_by (by decide)) (by decide) (fun base cdv A outer s H F0 L E hL rc po => by
  have hu := rc.room.units
  have hu1 := hu_of rc.room
  exact (rss_one (rs_ret rfl (PE.shared (rf_lc (vs := [3]) (is := [3]) (vs_by rfl) (by decide) (pe_lc (own := [("own", 3)]) rc.calm rc.nd (ri_val rc (re_call rc (d_divisors_in T) (by decide) (by rfl) (ra_val (re_var 0 (no_by rfl) (pv 0)) ra_nil))) (blkOk_by (by kernel_rfl)) (fun s H C cl fp => (rg_name 3 (no_by rfl) (pg_name (i := 3) (RC.blk rc).nd rfl (Or.inl rfl)))) (fun s H C cl fp => rts_nil) (fun s H C cl fp => (re_tup (rl_cons (re_var 3 (no_by rfl) (pv 3)) (rl_cons (re_bin op_mul ope_mulI (re_bin op_fdiv ope_div (re_var 0 (no_by rfl) (pv 0)) (PE.w (re_var 3 (no_by rfl) (pv 3)))) (PE.w (re_call (RC.blk rc) (d_size_free T) (by decide) (by rfl) (ra_val (re_var 3 (no_by rfl) (pv 3)) (ra_val (re_var 1 (no_by rfl) (pv 1)) (ra_val (re_var 2 (no_by rfl) (pv 2)) ra_nil)))))) rl_nil))))))))))
theorem sc_begin_free : FnScope ["parts", "many", "times", "fewer", "begin", "gap"] ["parts", "many", "times", "fewer"] (defScope (topS 38)) := ⟨rfl, rfl, rfl, by decide +kernel, rfl, by decide +kernel, by decide +kernel⟩
theorem d_begin_free (T : Top K mg) : Def P w K mg 1 "begin_free" ["parts", "many", "times", "fewer"] [false, false, false, false] false m_begin_free := by
  obtain ⟨f, fd, F, ma, b⟩ := T.f_begin_free.ex
  exact def_mk (k := 0) (N := ["parts", "many", "times", "fewer", "begin", "gap"]) (O := []) (b := b_begin_free) F ma b sc_begin_free rfl (by intro i; revert i; exact ownOk_by (by decide)) (by decide) (fun base cdv A outer s H F0 L E hL rc po => by
  have hu := rc.room.units
  have hu1 := hu_of rc.room
  exact (rss_cons (rs_for (ri_range1 rc (by rfl) T.n_range (re_var 0 (no_by rfl) (pv 0))) (rg_name 4 (no_by rfl) (pg_name (i := 4) rc.nd rfl (Or.inl rfl)))
  (rss_cons (rs_set 5 (no_by rfl) (re_bin op_mod ope_mod (re_bin op_mul ope_mulI (re_bin op_sub ope_sub (re_var 2 (no_by rfl) (pv 2)) (PE.w (re_var 3 (no_by rfl) (pv 3)))) (PE.w (re_var 4 (no_by rfl) (pv 4)))) (PE.w (re_var 0 (no_by rfl) (pv 0)))) (fun he => ps_set rc.nd rfl (Or.inl rfl) he))
  (rss_one (rs_if (rt_chain op_lt op_lt ope_cmp ope_cmp (re_bin op_mul ope_mulI (re_var 3 (no_by rfl) (pv 3)) (PE.w (re_bin op_sub ope_sub (re_var 1 (no_by rfl) (pv 1)) (PE.w re_int)))) (re_var 5 (no_by rfl) (pv 5)) (re_bin op_sub ope_sub (re_var 0 (no_by rfl) (pv 0)) (PE.w (re_bin op_mul ope_mulI (re_var 2 (no_by rfl) (pv 2)) (PE.w (re_bin op_sub ope_sub (re_var 1 (no_by rfl) (pv 1)) (PE.w re_int)))))))
  (rss_one (rs_ret rfl (re_var 4 (no_by rfl) (pv 4))))
  rss_nil))) (fun hi hg hb => ps_for po rc.calm hi hg hb))
  (rss_one (rs_ret rfl re_non))))
theorem sc_best_in : FnScope ["size", "times", "fewer", "rows", "most", "own"] ["size", "times", "fewer"] (defScope (topS 39)) := ⟨rfl, rfl, rfl, by decide +kernel, rfl, by decide +kernel, by decide +kernel⟩
theorem d_best_in (T : Top K mg) : Def P w K mg 19 "best_in" ["size", "times", "fewer"] [false, false, false] false m_best_in := by
  obtain ⟨f, fd, F, ma, b⟩ := T.f_best_in.ex
  exact def_mk (k := 18) (N := ["size", "times", "fewer", "rows", "most", "own"]) (O := []) (b := b_best_in) F ma b sc_best_in rfl (by intro i; revert i; exact ownOk_by (by decide)) (by decide) (fun base cdv A outer s H F0 L E hL rc po => by
  have hu := rc.room.units
  have hu1 := hu_of rc.room
  exact (rss_cons (rs_set 3 (no_by rfl) (re_call rc (d_bounds_in T) (by decide) (by rfl) (ra_val (re_var 0 (no_by rfl) (pv 0)) (ra_val (re_var 1 (no_by rfl) (pv 1)) (ra_val (re_var 2 (no_by rfl) (pv 2)) ra_nil)))) (fun he => ps_set rc.nd rfl (Or.inl rfl) he))
  (rss_cons (rs_set 4 (no_by rfl) (re_call1 rc (cr_maxB rc.calm hu1) une_max (by rfl) T.n_max (by rfl) (PE.w (PE.shared (rf_lc (vs := [5]) (is := [5]) (vs_by rfl) (by decide) (pe_lc (own := [("own", 5)]) rc.calm rc.nd (ri_val rc (re_var 3 (no_by rfl) (pv 3))) (blkOk_by (by kernel_rfl)) (fun s H C cl fp => (rg_name 5 (no_by rfl) (pg_name (i := 5) (RC.blk rc).nd rfl (Or.inl rfl)))) (fun s H C cl fp => rts_nil) (fun s H C cl fp => (re_ix (ixr_all hu1) ope_ix (re_var 5 (no_by rfl) (pv 5)) (PE.w re_int)))))))) (fun he => ps_set rc.nd rfl (Or.inr rfl) he))
  (rss_one (rs_ret rfl (re_ix (ixr_all hu1) ope_ix (PE.shared (rf_lc (vs := [5]) (is := [5]) (vs_by rfl) (by decide) (pe_lc (own := [("own", 5)]) rc.calm rc.nd (ri_val rc (re_var 3 (no_by rfl) (pv 3))) (blkOk_by (by kernel_rfl)) (fun s H C cl fp => (rg_name 5 (no_by rfl) (pg_name (i := 5) (RC.blk rc).nd rfl (Or.inl rfl)))) (fun s H C cl fp => (rts_one (rt_cmp (opr_eq hu) ope_eq (re_ix (ixr_all hu1) ope_ix (re_var 5 (no_by rfl) (pv 5)) (PE.w re_int)) (PE.w (re_var 4 (no_by rfl) (pv 4))) (nomark _)))) (fun s H C cl fp => (re_var 5 (no_by rfl) (pv 5)))))) (PE.w re_int)))))))
theorem sc_built_in_one : FnScope ["size", "times", "fewer", "many", "begin", "parts", "most", "own"] ["size", "times", "fewer"] (defScope (topS 40)) := ⟨rfl, rfl, rfl, by decide +kernel, rfl, by decide +kernel, by decide +kernel⟩
theorem d_built_in_one (T : Top K mg) : Def P w K mg 20 "built_in_one" ["size", "times", "fewer"] [false, false, false] false m_built_in_one := by
  obtain ⟨f, fd, F, ma, b⟩ := T.f_built_in_one.ex
  exact def_mk (k := 19) (N := ["size", "times", "fewer", "many", "begin", "parts", "most", "own"]) (O := []) (b := b_built_in_one) F ma b sc_built_in_one rfl (by intro i; revert i; exact ownOk_by (by decide)) (by decide) (fun base cdv A outer s H F0 L E hL rc po => by
  have hu := rc.room.units
  have hu1 := hu_of rc.room
  exact (rss_cons (rs_asg (re_call rc (d_best_in T) (by decide) (by rfl) (ra_val (re_var 0 (no_by rfl) (pv 0)) (ra_val (re_var 1 (no_by rfl) (pv 1)) (ra_val (re_var 2 (no_by rfl) (pv 2)) ra_nil)))) (rg_tup rc.hK rfl (fun ht => pg_tup rc.calm ht) (rgs_cons 5 (no_by rfl) (pg_name (i := 5) rc.nd rfl (Or.inr rfl)) (rgs_cons 6 (no_by rfl) (pg_name (i := 6) rc.nd rfl (Or.inl rfl)) rgs_nil))) (fun he hg => ps_asg he hg))
  (rss_cons (rs_if (rt_cmp (opr_eq hu) ope_eq (re_var 6 (no_by rfl) (pv 6)) (PE.w re_int) (nomark _))
  (rss_one (rs_ret rfl (re_tup rl_nil)))
  rss_nil)
  (rss_cons (rs_set 3 (no_by rfl) (re_call rc (d_size_free T) (by decide) (by rfl) (ra_val (re_var 5 (no_by rfl) (pv 5)) (ra_val (re_var 1 (no_by rfl) (pv 1)) (ra_val (re_var 2 (no_by rfl) (pv 2)) ra_nil)))) (fun he => ps_set rc.nd rfl (Or.inr rfl) he))
  (rss_cons (rs_set 4 (no_by rfl) (re_call rc (d_begin_free T) (by decide) (by rfl) (ra_val (re_var 5 (no_by rfl) (pv 5)) (ra_val (re_var 3 (no_by rfl) (pv 3)) (ra_val (re_var 1 (no_by rfl) (pv 1)) (ra_val (re_var 2 (no_by rfl) (pv 2)) ra_nil))))) (fun he => ps_set rc.nd rfl (Or.inr rfl) he))
  (rss_one (rs_ret rfl (re_callT1 rc call_tuple_ofF une_tuple (by rfl) T.n_tuple (by rfl) (PE.w (PE.shared (rf_lc (vs := [7]) (is := [7]) (vs_by rfl) (by decide) (pe_lc (own := [("own", 7)]) rc.calm rc.nd (ri_range1 rc (by rfl) T.n_range (re_var 0 (no_by rfl) (pv 0))) (blkOk_by (by kernel_rfl)) (fun s H C cl fp => (rg_name 7 (no_by rfl) (pg_name (i := 7) (RC.blk rc).nd rfl (Or.inl rfl)))) (fun s H C cl fp => (rts_one (rt_cmp op_lt ope_cmp (re_bin op_mod ope_mod (re_bin op_sub ope_sub (re_var 7 (no_by rfl) (pv 7)) (PE.w (re_var 4 (no_by rfl) (pv 4)))) (PE.w (re_var 5 (no_by rfl) (pv 5)))) (PE.w (re_var 3 (no_by rfl) (pv 3))) (nomark _)))) (fun s H C cl fp => (re_var 7 (no_by rfl) (pv 7)))))))))))))))
theorem sc_sure_times : FnScope ["times", "fewer", "many"] ["times", "fewer"] (defScope (topS 41)) := ⟨rfl, rfl, rfl, by decide +kernel, rfl, by decide +kernel, by decide +kernel⟩
theorem d_sure_times (T : Top K mg) : Def P w K mg 19 "sure_times" ["times", "fewer"] [false, false] false m_sure_times := by
  obtain ⟨f, fd, F, ma, b⟩ := T.f_sure_times.ex
  exact def_mk (k := 18) (N := ["times", "fewer", "many"]) (O := []) (b := b_sure_times) F ma b sc_sure_times rfl (by intro i; revert i; exact ownOk_by (by decide)) (by decide) (fun base cdv A outer s H F0 L E hL rc po => by
  have hu := rc.room.units
  have hu1 := hu_of rc.room
  exact (rss_cons (rs_set 2 (no_by rfl) (re_call rc (d_sure_within T) (by decide) (by rfl) (ra_val (re_var 0 (no_by rfl) (pv 0)) (ra_val re_int (ra_val (re_kint rc (by rfl) T.c_MOST_TIMES.choose_spec) ra_nil)))) (fun he => ps_set rc.nd rfl (Or.inl rfl) he))
  (rss_one (rs_ret rfl (re_tup (rl_cons (re_var 2 (no_by rfl) (pv 2)) (rl_cons (re_call rc (d_sure_within T) (by decide) (by rfl) (ra_val (re_var 1 (no_by rfl) (pv 1)) (ra_val re_int (ra_val (re_bin op_sub ope_sub (re_var 2 (no_by rfl) (pv 2)) (PE.w re_int)) ra_nil)))) rl_nil)))))))
theorem sc_sure_one_round : FnScope ["heap", "times", "fewer", "own", "many", "less"] ["heap", "times", "fewer"] (defScope (topS 42)) := ⟨rfl, rfl, rfl, by decide +kernel, rfl, by decide +kernel, by decide +kernel⟩
theorem d_sure_one_round (T : Top K mg) : Def P w K mg 20 "sure_one_round" ["heap", "times", "fewer"] [false, false, false] false m_sure_one_round := by
  obtain ⟨f, fd, F, ma, b⟩ := T.f_sure_one_round.ex
  exact def_mk (k := 19) (N := ["heap", "times", "fewer", "own", "many", "less"]) (O := []) (b := b_sure_one_round) F ma b sc_sure_one_round rfl (by intro i; revert i; exact ownOk_by (by decide)) (by decide) (fun base cdv A outer s H F0 L E hL rc po => by
  have hu := rc.room.units
  have hu1 := hu_of rc.room
  exact (rss_cons (rs_set 3 (no_by rfl) (re_call rc (d_sure_heap T) (by decide) (by rfl) (ra_val (re_var 0 (no_by rfl) (pv 0)) ra_nil)) (fun he => ps_set rc.nd rfl (Or.inl rfl) he))
  (rss_cons (rs_asg (re_call rc (d_sure_times T) (by decide) (by rfl) (ra_val (re_var 1 (no_by rfl) (pv 1)) (ra_val (re_var 2 (no_by rfl) (pv 2)) ra_nil))) (rg_tup rc.hK rfl (fun ht => pg_tup rc.calm ht) (rgs_cons 4 (no_by rfl) (pg_name (i := 4) rc.nd rfl (Or.inl rfl)) (rgs_cons 5 (no_by rfl) (pg_name (i := 5) rc.nd rfl (Or.inl rfl)) rgs_nil))) (fun he hg => ps_asg he hg))
  (rss_cons (rs_if (rt_cmp op_gt ope_cmp (re_call1 rc cr_len une_len (by rfl) T.n_len (by rfl) (PE.w (re_var 3 (no_by rfl) (pv 3)))) (PE.w re_int) (nomark _))
  (rss_one (rs_raise rc PySem.F.excBase_ValueError T.e_CanNot.choose_spec (by rfl)))
  rss_nil)
  (rss_one (rs_ret rfl (re_tup (rl_cons (re_ix (ixr_all hu1) ope_ix (re_var 3 (no_by rfl) (pv 3)) (PE.w re_int)) (rl_cons (re_var 4 (no_by rfl) (pv 4)) (rl_cons (re_var 5 (no_by rfl) (pv 5)) rl_nil))))))))))
theorem sc_common_fold : FnScope ["heap", "lot", "times", "fewer", "own", "told", "many", "less"] ["heap", "lot", "times", "fewer"] (defScope (topS 43)) := ⟨rfl, rfl, rfl, by decide +kernel, rfl, by decide +kernel, by decide +kernel⟩
theorem d_common_fold (T : Top K mg) : Def P w K mg 20 "common_fold" ["heap", "lot", "times", "fewer"] [false, false, false, false] false m_common_fold := by
  obtain ⟨f, fd, F, ma, b⟩ := T.f_common_fold.ex
  exact def_mk (k := 19) (N := ["heap", "lot", "times", "fewer", "own", "told", "many", "less"]) (O := []) (b := b_common_fold) F ma b sc_common_fold rfl (by intro i; revert i; exact ownOk_by (by decide)) (by decide) (fun base cdv A outer s H F0 L E hL rc po => by
  have hu := rc.room.units
  have hu1 := hu_of rc.room
  exact (rss_cons (rs_set 4 (no_by rfl) (re_call rc (d_sure_heap T) (by decide) (by rfl) (ra_val (re_var 0 (no_by rfl) (pv 0)) ra_nil)) (fun he => ps_set rc.nd rfl (Or.inl rfl) he))
  (rss_cons (rs_set 5 (no_by rfl) (re_call rc (d_sure_lot T) (by decide) (by rfl) (ra_val (re_var 4 (no_by rfl) (pv 4)) (ra_val (re_var 1 (no_by rfl) (pv 1)) ra_nil))) (fun he => ps_set rc.nd rfl (Or.inl rfl) he))
  (rss_cons (rs_asg (re_call rc (d_sure_times T) (by decide) (by rfl) (ra_val (re_var 2 (no_by rfl) (pv 2)) (ra_val (re_var 3 (no_by rfl) (pv 3)) ra_nil))) (rg_tup rc.hK rfl (fun ht => pg_tup rc.calm ht) (rgs_cons 6 (no_by rfl) (pg_name (i := 6) rc.nd rfl (Or.inl rfl)) (rgs_cons 7 (no_by rfl) (pg_name (i := 7) rc.nd rfl (Or.inl rfl)) rgs_nil))) (fun he hg => ps_asg he hg))
  (rss_one (rs_ret rfl (re_call rc (d_common_in T) (by decide) (by rfl) (ra_val (re_call rc (d_sums_table T) (by decide) (by rfl) (ra_val (re_var 4 (no_by rfl) (pv 4)) ra_nil)) (ra_val (re_var 5 (no_by rfl) (pv 5)) (ra_val (re_var 6 (no_by rfl) (pv 6)) (ra_val (re_var 7 (no_by rfl) (pv 7)) ra_nil)))))))))))
theorem sc_is_free : FnScope ["heap", "lot", "times", "fewer"] ["heap", "lot", "times", "fewer"] (defScope (topS 44)) := ⟨rfl, rfl, rfl, by decide +kernel, rfl, by decide +kernel, by decide +kernel⟩
theorem d_is_free (T : Top K mg) : Def P w K mg 21 "is_free" ["heap", "lot", "times", "fewer"] [false, false, false, false] false m_is_free := by
  obtain ⟨f, fd, F, ma, b⟩ := T.f_is_free.ex
  exact def_mk (k := 20) (N := ["heap", "lot", "times", "fewer"]) (O := []) (b := b_is_free) F ma b sc_is_free rfl (by intro i; revert i; exact ownOk_by (by decide)) (by decide) (fun base cdv A outer s H F0 L E hL rc po => by
  have hu := rc.room.units
  have hu1 := hu_of rc.room
  exact (rss_one (rs_ret rfl (re_cmp (opr_eq hu) ope_eq (re_call rc (d_common_fold T) (by decide) (by rfl) (ra_val (re_var 0 (no_by rfl) (pv 0)) (ra_val (re_var 1 (no_by rfl) (pv 1)) (ra_val (re_var 2 (no_by rfl) (pv 2)) (ra_val (re_var 3 (no_by rfl) (pv 3)) ra_nil))))) (PE.w (re_tup rl_nil)) (nomark _)))))
theorem sc_bounds_free : FnScope ["heap", "times", "fewer", "size", "many", "less"] ["heap", "times", "fewer"] (defScope (topS 45)) := ⟨rfl, rfl, rfl, by decide +kernel, rfl, by decide +kernel, by decide +kernel⟩
theorem d_bounds_free (T : Top K mg) : Def P w K mg 21 "bounds_free" ["heap", "times", "fewer"] [false, false, false] false m_bounds_free := by
  obtain ⟨f, fd, F, ma, b⟩ := T.f_bounds_free.ex
  exact def_mk (k := 20) (N := ["heap", "times", "fewer", "size", "many", "less"]) (O := []) (b := b_bounds_free) F ma b sc_bounds_free rfl (by intro i; revert i; exact ownOk_by (by decide)) (by decide) (fun base cdv A outer s H F0 L E hL rc po => by
  have hu := rc.room.units
  have hu1 := hu_of rc.room
  exact (rss_cons (rs_asg (re_call rc (d_sure_one_round T) (by decide) (by rfl) (ra_val (re_var 0 (no_by rfl) (pv 0)) (ra_val (re_var 1 (no_by rfl) (pv 1)) (ra_val (re_var 2 (no_by rfl) (pv 2)) ra_nil)))) (rg_tup rc.hK rfl (fun ht => pg_tup rc.calm ht) (rgs_cons 3 (no_by rfl) (pg_name (i := 3) rc.nd rfl (Or.inl rfl)) (rgs_cons 4 (no_by rfl) (pg_name (i := 4) rc.nd rfl (Or.inl rfl)) (rgs_cons 5 (no_by rfl) (pg_name (i := 5) rc.nd rfl (Or.inl rfl)) rgs_nil)))) (fun he hg => ps_asg he hg))
  (rss_one (rs_ret rfl (re_call rc (d_bounds_in T) (by decide) (by rfl) (ra_val (re_var 3 (no_by rfl) (pv 3)) (ra_val (re_var 4 (no_by rfl) (pv 4)) (ra_val (re_var 5 (no_by rfl) (pv 5)) ra_nil))))))))
theorem sc_most_free : FnScope ["heap", "times", "fewer", "size", "many", "less"] ["heap", "times", "fewer"] (defScope (topS 46)) := ⟨rfl, rfl, rfl, by decide +kernel, rfl, by decide +kernel, by decide +kernel⟩
theorem d_most_free (T : Top K mg) : Def P w K mg 21 "most_free" ["heap", "times", "fewer"] [false, false, false] false m_most_free := by
  obtain ⟨f, fd, F, ma, b⟩ := T.f_most_free.ex
  exact def_mk (k := 20) (N := ["heap", "times", "fewer", "size", "many", "less"]) (O := []) (b := b_most_free) F ma b sc_most_free rfl (by intro i; revert i; exact ownOk_by (by decide)) (by decide) (fun base cdv A outer s H F0 L E hL rc po => by
  have hu := rc.room.units
  have hu1 := hu_of rc.room
  exact (rss_cons (rs_asg (re_call rc (d_sure_one_round T) (by decide) (by rfl) (ra_val (re_var 0 (no_by rfl) (pv 0)) (ra_val (re_var 1 (no_by rfl) (pv 1)) (ra_val (re_var 2 (no_by rfl) (pv 2)) ra_nil)))) (rg_tup rc.hK rfl (fun ht => pg_tup rc.calm ht) (rgs_cons 3 (no_by rfl) (pg_name (i := 3) rc.nd rfl (Or.inl rfl)) (rgs_cons 4 (no_by rfl) (pg_name (i := 4) rc.nd rfl (Or.inl rfl)) (rgs_cons 5 (no_by rfl) (pg_name (i := 5) rc.nd rfl (Or.inl rfl)) rgs_nil)))) (fun he hg => ps_asg he hg))
  (rss_one (rs_ret rfl (re_ix (ixr_all hu1) ope_ix (re_call rc (d_best_in T) (by decide) (by rfl) (ra_val (re_var 3 (no_by rfl) (pv 3)) (ra_val (re_var 4 (no_by rfl) (pv 4)) (ra_val (re_var 5 (no_by rfl) (pv 5)) ra_nil)))) (PE.w re_int))))))
theorem sc_built_free : FnScope ["heap", "times", "fewer", "size", "many", "less"] ["heap", "times", "fewer"] (defScope (topS 47)) := ⟨rfl, rfl, rfl, by decide +kernel, rfl, by decide +kernel, by decide +kernel⟩
theorem d_built_free (T : Top K mg) : Def P w K mg 21 "built_free" ["heap", "times", "fewer"] [false, false, false] false m_built_free := by
  obtain ⟨f, fd, F, ma, b⟩ := T.f_built_free.ex
  exact def_mk (k := 20) (N := ["heap", "times", "fewer", "size", "many", "less"]) (O := []) (b := b_built_free) F ma b sc_built_free rfl (by intro i; revert i; exact ownOk_by (by decide)) (by decide) (fun base cdv A outer s H F0 L E hL rc po => by
  have hu := rc.room.units
  have hu1 := hu_of rc.room
  exact (rss_cons (rs_asg (re_call rc (d_sure_one_round T) (by decide) (by rfl) (ra_val (re_var 0 (no_by rfl) (pv 0)) (ra_val (re_var 1 (no_by rfl) (pv 1)) (ra_val (re_var 2 (no_by rfl) (pv 2)) ra_nil)))) (rg_tup rc.hK rfl (fun ht => pg_tup rc.calm ht) (rgs_cons 3 (no_by rfl) (pg_name (i := 3) rc.nd rfl (Or.inl rfl)) (rgs_cons 4 (no_by rfl) (pg_name (i := 4) rc.nd rfl (Or.inl rfl)) (rgs_cons 5 (no_by rfl) (pg_name (i := 5) rc.nd rfl (Or.inl rfl)) rgs_nil)))) (fun he hg => ps_asg he hg))
  (rss_one (rs_ret rfl (re_call rc (d_built_in_one T) (by decide) (by rfl) (ra_val (re_var 3 (no_by rfl) (pv 3)) (ra_val (re_var 4 (no_by rfl) (pv 4)) (ra_val (re_var 5 (no_by rfl) (pv 5)) ra_nil))))))))
theorem sc__law_box : FnScope ["script", "k", "bit_so"] ["script", "k"] (defScope (topS 49)) := ⟨rfl, rfl, rfl, by decide +kernel, rfl, by decide +kernel, by decide +kernel⟩
theorem d__law_box (T : Top K mg) : Def P w K mg 1 "_law_box" ["script", "k"] [false, false] true m__law_box := by
  obtain ⟨f, fd, F, ma, b⟩ := T.f__law_box.ex
  exact def_mk (k := 0) (N := ["script", "k", "bit_so"]) (O := []) (b := b__law_box) F ma b sc__law_box rfl (by intro i; revert i; exact ownOk_by (by decide)) (by decide) (fun base cdv A outer s H F0 L E hL rc po => by
  have hu := rc.room.units
  have hu1 := hu_of rc.room
  exact (rss_cons (rs_set 2 (no_by rfl) (re_if (rt_cmp op_lt ope_cmp (re_var 1 (no_by rfl) (pv 1)) (PE.w (re_call1 rc cr_len une_len (by rfl) T.n_len (by rfl) (PE.w (re_var 0 (no_by rfl) (pv 0))))) (nomark _)) (re_ix (ixr_all hu1) ope_ix (re_var 0 (no_by rfl) (pv 0)) (PE.w (re_var 1 (no_by rfl) (pv 1)))) re_int) (fun he => ps_set rc.nd rfl (Or.inl rfl) he))
  (rss_one (rs_retF rfl (rf_lst (rl_cons (re_bin op_mul ope_mulI (re_call1 rc call_abs une_abs (by rfl) T.n_abs (by rfl) (PE.w (re_var 2 (no_by rfl) (pv 2)))) (PE.w (re_callT1 rc call_int1 une_int (by rfl) T.n_int (by rfl) (PE.w (re_cmp op_ge ope_cmp (re_call1 rc call_abs une_abs (by rfl) T.n_abs (by rfl) (PE.w (re_var 2 (no_by rfl) (pv 2)))) (PE.w (re_bin op_pow ope_pow re_int (PE.w re_int))) (nomark _)))))) (rl_cons (re_bin opr_addA ope_addA (re_bin opr_addA ope_addA (re_bin op_mod ope_mod (re_callT1 rc call_int1 une_int (by rfl) T.n_int (by rfl) (PE.w (re_var 2 (no_by rfl) (pv 2)))) (PE.w re_int)) (PE.w (re_bin op_mul ope_mulI re_int (PE.w (re_var 1 (no_by rfl) (pv 1)))))) (PE.w re_int)) (rl_cons re_int rl_nil))))))))
theorem sc__law_take : FnScope ["tin", "below_so", "once_so", "wide_so", "twice_so", "drawn_so"] ["tin", "below_so"] (defScope (topS 50)) := ⟨rfl, rfl, rfl, by decide +kernel, rfl, by decide +kernel, by decide +kernel⟩
theorem d__law_take (T : Top K mg) : Def P w K mg 1 "_law_take" ["tin", "below_so"] [true, false] false m__law_take := by
  obtain ⟨f, fd, F, ma, b⟩ := T.f__law_take.ex
  exact def_mk (k := 0) (N := ["tin", "below_so", "once_so", "wide_so", "twice_so", "drawn_so"]) (O := [0]) (b := b__law_take) F ma b sc__law_take rfl (by intro i; revert i; exact ownOk_by (by decide)) (by decide) (fun base cdv A outer s H F0 L E hL rc po => by
  have hu := rc.room.units
  have hu1 := hu_of rc.room
  exact (rss_cons (rs_if (rt_cmp op_gt ope_cmp (re_ixO (in_by rfl) (ixr_all hu1) ope_ix (pv 0) (PE.w re_int)) (PE.w re_int) (nomark _))
  (rss_cons (rs_set 5 (no_by rfl) (re_bin op_mod ope_mod (re_callT1 rc call_int1 une_int (by rfl) T.n_int (by rfl) (PE.w (re_ixO (in_by rfl) (ixr_all hu1) ope_ix (pv 0) (PE.w re_int)))) (PE.w (re_var 1 (no_by rfl) (pv 1)))) (fun he => ps_set rc.nd rfl (Or.inl rfl) he))
  (rss_cons (rs_sub 0 (in_by rfl) hu1 (pv 0) (PE.w re_int) (re_bin op_fdiv ope_div (re_ixO (in_by rfl) (ixr_all hu1) ope_ix (pv 0) (PE.w re_int)) (PE.w (re_var 1 (no_by rfl) (pv 1)))) (fun he hg => ps_asg he hg))
  (rss_one (rs_ret rfl (re_var 5 (no_by rfl) (pv 5))))))
  rss_nil)
  (rss_cons (rs_sub 0 (in_by rfl) hu1 (pv 0) (PE.w re_int) (re_bin opr_addA ope_addA (re_ixO (in_by rfl) (ixr_all hu1) ope_ix (pv 0) (PE.w re_int)) (PE.w re_int)) (fun he hg => ps_asg he hg))
  (rss_cons (rs_set 2 (no_by rfl) (re_bin op_mod ope_mod (re_callT1 rc call_int1 une_int (by rfl) T.n_int (by rfl) (PE.w (re_bin op_mul ope_mulI (re_bin opr_addA ope_addA (re_ixO (in_by rfl) (ixr_all hu1) ope_ix (pv 0) (PE.w re_int)) (PE.w (re_bin op_mul ope_mulI re_int (PE.w (re_ixO (in_by rfl) (ixr_all hu1) ope_ix (pv 0) (PE.w re_int)))))) (PE.w (re_bin opr_addA ope_addA re_int (PE.w (re_ixO (in_by rfl) (ixr_all hu1) ope_ix (pv 0) (PE.w re_int)))))))) (PE.w re_int)) (fun he => ps_set rc.nd rfl (Or.inl rfl) he))
  (rss_cons (rs_set 3 (no_by rfl) (re_bin opr_addA ope_addA (re_bin op_mod ope_mod (re_callT1 rc call_int1 une_int (by rfl) T.n_int (by rfl) (PE.w (re_var 2 (no_by rfl) (pv 2)))) (PE.w re_int)) (PE.w re_int)) (fun he => ps_set rc.nd rfl (Or.inl rfl) he))
  (rss_cons (rs_set 4 (no_by rfl) (re_bin op_mod ope_mod (re_callT1 rc call_int1 une_int (by rfl) T.n_int (by rfl) (PE.w (re_bin op_mul ope_mulI (re_bin opr_addA ope_addA (re_bin opr_addA ope_addA (re_var 2 (no_by rfl) (pv 2)) (PE.w (re_ixO (in_by rfl) (ixr_all hu1) ope_ix (pv 0) (PE.w re_int)))) (PE.w (re_bin op_fdiv ope_div (re_ixO (in_by rfl) (ixr_all hu1) ope_ix (pv 0) (PE.w re_int)) (PE.w re_int)))) (PE.w (re_var 3 (no_by rfl) (pv 3)))))) (PE.w re_int)) (fun he => ps_set rc.nd rfl (Or.inl rfl) he))
  (rss_one (rs_ret rfl (re_bin op_mod ope_mod (re_callT1 rc call_int1 une_int (by rfl) T.n_int (by rfl) (PE.w (re_bin op_fdiv ope_div (re_bin op_mod ope_mod (re_callT1 rc call_int1 une_int (by rfl) T.n_int (by rfl) (PE.w (re_bin opr_addA ope_addA (re_bin op_mul ope_mulI (re_var 4 (no_by rfl) (pv 4)) (PE.w re_int)) (PE.w (re_var 2 (no_by rfl) (pv 2)))))) (PE.w re_int)) (PE.w re_int)))) (PE.w (re_var 1 (no_by rfl) (pv 1))))))))))))
theorem sc__law_cells : FnScope ["script", "most_so", "cells_so", "k", "bit_so", "at_so"] ["script", "most_so"] (defScope (topS 51)) := ⟨rfl, rfl, rfl, by decide +kernel, rfl, by decide +kernel, by decide +kernel⟩
theorem d__law_cells (T : Top K mg) : Def P w K mg 1 "_law_cells" ["script", "most_so"] [false, false] false m__law_cells := by
  obtain ⟨f, fd, F, ma, b⟩ := T.f__law_cells.ex
  exact def_mk (k := 0) (N := ["script", "most_so", "cells_so", "k", "bit_so", "at_so"]) (O := [2]) (b := b__law_cells) F ma b sc__law_cells rfl (by intro i; revert i; exact ownOk_by (by decide)) (by decide) (fun base cdv A outer s H F0 L E hL rc po => by
  have hu := rc.room.units
  have hu1 := hu_of rc.room
  exact (rss_cons (rs_setO 2 (in_by rfl) (nl_by hL rfl) (rf_or rc (rf_callT1 rc call_list_of unn_list (by rfl) T.n_list (by rfl) (PE.w (re_slice (re_var 0 (no_by rfl) (pv 0)) ro_none (ro_some (re_var 1 (no_by rfl) (pv 1))) rc.hK))) (rf_one (rf_lst (rl_cons re_int rl_nil)))) (fun he => ps_set rc.nd rfl (Or.inl rfl) he))
  (rss_cons (rs_for (ri_enum rc (by rfl) T.n_enumerate (re_slice (re_var 0 (no_by rfl) (pv 0)) (ro_some (re_var 1 (no_by rfl) (pv 1))) (ro_some re_int) rc.hK)) (rg_tup rc.hK rfl (fun ht => pg_tup rc.calm ht) (rgs_cons 3 (no_by rfl) (pg_name (i := 3) rc.nd rfl (Or.inl rfl)) (rgs_cons 4 (no_by rfl) (pg_name (i := 4) rc.nd rfl (Or.inl rfl)) rgs_nil)))
  (rss_cons (rs_set 5 (no_by rfl) (re_bin op_mod ope_mod (re_callT1 rc call_int1 une_int (by rfl) T.n_int (by rfl) (PE.w (re_var 3 (no_by rfl) (pv 3)))) (PE.w (re_var 1 (no_by rfl) (pv 1)))) (fun he => ps_set rc.nd rfl (Or.inl rfl) he))
  (rss_one (rs_sub 2 (in_by rfl) hu1 (pv 2) (PE.w (re_var 5 (no_by rfl) (pv 5))) (re_bin opr_addA ope_addA (re_ixO (in_by rfl) (ixr_all hu1) ope_ix (pv 2) (PE.w (re_var 5 (no_by rfl) (pv 5)))) (PE.w (re_bin op_mul ope_mulI (re_var 4 (no_by rfl) (pv 4)) (PE.w (re_bin opr_addA ope_addA (re_var 3 (no_by rfl) (pv 3)) (PE.w re_int)))))) (fun he hg => ps_asg he hg)))) (fun hi hg hb => ps_for po rc.calm hi hg hb))
  (rss_one (rs_retO 2 (in_by rfl) (nl_by hL rfl) (pv 2))))))
theorem sc__law_same : FnScope ["got", "due", "mine", "its"] ["got", "due"] (defScope (topS 52)) := ⟨rfl, rfl, rfl, by decide +kernel, rfl, by decide +kernel, by decide +kernel⟩
theorem d__law_same (T : Top K mg) : ∀ d : Nat, Def P w K mg (1 + d) "_law_same" ["got", "due"] [false, false] false (m__law_same d)
  | 0 => by
    obtain ⟨f, fd, F, ma, b⟩ := T.f__law_same.ex
    exact def_mk0 (sig := [false, false]) (k := 0) (N := ["got", "due", "mine", "its"]) F ma b sc__law_same rfl
  | d + 1 => by
    have D0 := d__law_same T d
    obtain ⟨f, fd, F, ma, b⟩ := T.f__law_same.ex
    exact def_mk (sig := [false, false]) (k := 1 + d) (N := ["got", "due", "mine", "its"]) (O := []) (b := b__law_same (m__law_same d)) F ma b sc__law_same rfl (by intro i; revert i; exact ownOk_by (by decide)) (by decide) (fun base cdv A outer s H F0 L E hL rc po => by
  have hu := rc.room.units
  have hu1 := hu_of rc.room
  exact (rss_cons (rs_if (rt_val (re_isi rc (us := ["list", "tuple"]) (by rfl) T.n_isinstance (PE.w (re_var 1 (no_by rfl) (pv 1))) (tys_cons (pe_ty rc (by rfl) T.n_list (by rfl)) (tys_cons (pe_ty rc (by rfl) T.n_tuple (by rfl)) tys_nil))))
  (rss_cons (rs_if (RTW.t (rw_or (rt_cmp (opr_ne hu) ope_ne (re_isi1 rc (by rfl) T.n_isinstance (PE.w (re_var 0 (no_by rfl) (pv 0))) (pe_ty rc (by rfl) T.n_list (by rfl))) (PE.w (re_isi1 rc (by rfl) T.n_isinstance (PE.w (re_var 1 (no_by rfl) (pv 1))) (pe_ty rc (by rfl) T.n_list (by rfl)))) (nomark _)) (rw_or1 (rt_cmp (opr_ne hu) ope_ne (re_isi1 rc (by rfl) T.n_isinstance (PE.w (re_var 0 (no_by rfl) (pv 0))) (pe_ty rc (by rfl) T.n_tuple (by rfl))) (PE.w (re_isi1 rc (by rfl) T.n_isinstance (PE.w (re_var 1 (no_by rfl) (pv 1))) (pe_ty rc (by rfl) T.n_tuple (by rfl)))) (nomark _)))))
  (rss_one (rs_ret rfl re_bl))
  rss_nil)
  (rss_one (rs_ret rfl (re_and (re_cmp (opr_eq hu) ope_eq (re_call1 rc cr_len une_len (by rfl) T.n_len (by rfl) (PE.w (re_var 0 (no_by rfl) (pv 0)))) (PE.w (re_call1 rc cr_len une_len (by rfl) T.n_len (by rfl) (PE.w (re_var 1 (no_by rfl) (pv 1))))) (nomark _)) (re_one (re_call1 rc (cr_all rc.calm) une_all (by rfl) T.n_all (by rfl) (PE.w (PE.shared (rf_lc (vs := [2, 3]) (is := [2, 3]) (vs_by rfl) (by decide) (pe_lc (own := [("mine", 2), ("its", 3)]) rc.calm rc.nd (ri_zip rc (by rfl) T.n_zip (re_var 0 (no_by rfl) (pv 0)) (re_var 1 (no_by rfl) (pv 1))) (blkOk_by (by kernel_rfl)) (fun s H C cl fp => (rg_tup (RC.blk rc).hK rfl (fun ht => pg_tup (RC.blk rc).calm ht) (rgs_cons 2 (no_by rfl) (pg_name (i := 2) (RC.blk rc).nd rfl (Or.inl rfl)) (rgs_cons 3 (no_by rfl) (pg_name (i := 3) (RC.blk rc).nd rfl (Or.inl rfl)) rgs_nil)))) (fun s H C cl fp => rts_nil) (fun s H C cl fp => (re_call (RC.blk rc) D0 (Nat.le_refl _) (by rfl) (ra_val (re_var 2 (no_by rfl) (pv 2)) (ra_val (re_var 3 (no_by rfl) (pv 3)) ra_nil))))))))))))))
  rss_nil)
  (rss_cons (rs_if (rt_cmp opr_is ope_is (re_var 1 (no_by rfl) (pv 1)) (PE.w re_non) (nomark _))
  (rss_one (rs_ret rfl (re_cmp opr_is ope_is (re_var 0 (no_by rfl) (pv 0)) (PE.w re_non) (nomark _))))
  rss_nil)
  (rss_cons (rs_if (rt_val (re_isi rc (us := ["bool", "str"]) (by rfl) T.n_isinstance (PE.w (re_var 1 (no_by rfl) (pv 1))) (tys_cons (pe_ty rc (by rfl) T.n_bool (by rfl)) (tys_cons (pe_ty rc (by rfl) T.n_str (by rfl)) tys_nil))))
  (rss_one (rs_ret rfl (re_and (re_cmp (opr_eq hu) ope_eq (re_isi1 rc (by rfl) T.n_isinstance (PE.w (re_var 0 (no_by rfl) (pv 0))) (pe_ty rc (by rfl) T.n_bool (by rfl))) (PE.w (re_isi1 rc (by rfl) T.n_isinstance (PE.w (re_var 1 (no_by rfl) (pv 1))) (pe_ty rc (by rfl) T.n_bool (by rfl)))) (nomark _)) (re_and (re_cmp (opr_eq hu) ope_eq (re_isi1 rc (by rfl) T.n_isinstance (PE.w (re_var 0 (no_by rfl) (pv 0))) (pe_ty rc (by rfl) T.n_str (by rfl))) (PE.w (re_isi1 rc (by rfl) T.n_isinstance (PE.w (re_var 1 (no_by rfl) (pv 1))) (pe_ty rc (by rfl) T.n_str (by rfl)))) (nomark _)) (re_one (re_cmp (opr_eq hu) ope_eq (re_var 0 (no_by rfl) (pv 0)) (PE.w (re_var 1 (no_by rfl) (pv 1))) (nomark _)))))))
  rss_nil)
  (rss_one (rs_ret rfl (re_and (re_isi1 rc (by rfl) T.n_isinstance (PE.w (re_var 0 (no_by rfl) (pv 0))) (pe_ty rc (by rfl) T.n_int (by rfl))) (re_and (re_not (re_isi1 rc (by rfl) T.n_isinstance (PE.w (re_var 0 (no_by rfl) (pv 0))) (pe_ty rc (by rfl) T.n_bool (by rfl)))) (re_one (re_cmp (opr_eq hu) ope_eq (re_var 0 (no_by rfl) (pv 0)) (PE.w (re_var 1 (no_by rfl) (pv 1))) (nomark _)))))))))))
theorem sc__law_flat : FnScope ["rows_so", "found", "own"] ["rows_so"] (defScope (topS 53)) := ⟨rfl, rfl, rfl, by decide +kernel, rfl, by decide +kernel, by decide +kernel⟩
theorem d__law_flat (T : Top K mg) : Def P w K mg 1 "_law_flat" ["rows_so"] [false] false m__law_flat := by
  obtain ⟨f, fd, F, ma, b⟩ := T.f__law_flat.ex
  exact def_mk (k := 0) (N := ["rows_so", "found", "own"]) (O := [1]) (b := b__law_flat) F ma b sc__law_flat rfl (by intro i; revert i; exact ownOk_by (by decide)) (by decide) (fun base cdv A outer s H F0 L E hL rc po => by
  have hu := rc.room.units
  have hu1 := hu_of rc.room
  exact (rss_cons (rs_setO 1 (in_by rfl) (nl_by hL rfl) (rf_lst rl_nil) (fun he => ps_set rc.nd rfl (Or.inl rfl) he))
  (rss_cons (rs_for (ri_val rc (re_var 0 (no_by rfl) (pv 0))) (rg_name 2 (no_by rfl) (pg_name (i := 2) rc.nd rfl (Or.inl rfl)))
  (rss_one (rs_expr (re_mut (id := "") rc.hK 1 (in_by rfl) me_extend (pv 1) (PE.w (re_var 2 (no_by rfl) (pv 2))) (fun ht => pe_bm PySem.F.plainAttrs_list PySem.F.slot_list_extend PySem.F.type_list_extend mt_extend (pv 1) ht)))) (fun hi hg hb => ps_for po rc.calm hi hg hb))
  (rss_one (rs_retO 1 (in_by rfl) (nl_by hL rfl) (pv 1))))))
theorem sc__law_gcd : FnScope ["one", "two", "lap"] ["one", "two"] (defScope (topS 54)) := ⟨rfl, rfl, rfl, by decide +kernel, rfl, by decide +kernel, by decide +kernel⟩
theorem d__law_gcd (T : Top K mg) : Def P w K mg 1 "_law_gcd" ["one", "two"] [false, false] false m__law_gcd := by
  obtain ⟨f, fd, F, ma, b⟩ := T.f__law_gcd.ex
  exact def_mk (k := 0) (N := ["one", "two", "lap"]) (O := []) (b := b__law_gcd) F ma b sc__law_gcd rfl (by intro i; revert i; exact ownOk_by (by decide)) (by decide) (fun base cdv A outer s H F0 L E hL rc po => by
  have hu := rc.room.units
  have hu1 := hu_of rc.room
  exact (rss_cons (rs_par (by decide) (rds_v (no_by rfl) (re_call1 rc call_abs une_abs (by rfl) T.n_abs (by rfl) (PE.w (re_var 0 (no_by rfl) (pv 0))))) (rds_v (no_by rfl) (re_call1 rc call_abs une_abs (by rfl) T.n_abs (by rfl) (PE.w (re_var 1 (no_by rfl) (pv 1))))) (fun ha => ps_par rc.calm rc.nd rfl rfl (by decide) rfl rfl ha rfl))
  (rss_cons (rs_for (ri_range1 rc (by rfl) T.n_range re_int) (rg_name 2 (no_by rfl) (pg_name (i := 2) rc.nd rfl (Or.inl rfl)))
  (rss_cons (rs_if (rt_cmp (opr_eq hu) ope_eq (re_var 1 (no_by rfl) (pv 1)) (PE.w re_int) (nomark _))
  (rss_one rs_break)
  rss_nil)
  (rss_one (rs_par (by decide) (rds_v (no_by rfl) (re_var 1 (no_by rfl) (pv 1))) (rds_v (no_by rfl) (re_bin op_mod ope_mod (re_var 0 (no_by rfl) (pv 0)) (PE.w (re_var 1 (no_by rfl) (pv 1))))) (fun ha => ps_par rc.calm rc.nd rfl rfl (by decide) rfl rfl ha rfl)))) (fun hi hg hb => ps_for po rc.calm hi hg hb))
  (rss_one (rs_ret rfl (re_var 0 (no_by rfl) (pv 0)))))))
theorem sc__law_up : FnScope ["over_so", "by_so"] ["over_so", "by_so"] (defScope (topS 55)) := ⟨rfl, rfl, rfl, by decide +kernel, rfl, by decide +kernel, by decide +kernel⟩
theorem d__law_up (T : Top K mg) : Def P w K mg 1 "_law_up" ["over_so", "by_so"] [false, false] false m__law_up := by
  obtain ⟨f, fd, F, ma, b⟩ := T.f__law_up.ex
  exact def_mk (k := 0) (N := ["over_so", "by_so"]) (O := []) (b := b__law_up) F ma b sc__law_up rfl (by intro i; revert i; exact ownOk_by (by decide)) (by decide) (fun base cdv A outer s H F0 L E hL rc po => by
  have hu := rc.room.units
  have hu1 := hu_of rc.room
  exact (rss_one (rs_ret rfl (re_bin op_fdiv ope_div (re_bin op_sub ope_sub (re_bin opr_addA ope_addA (re_var 0 (no_by rfl) (pv 0)) (PE.w (re_var 1 (no_by rfl) (pv 1)))) (PE.w re_int)) (PE.w (re_var 1 (no_by rfl) (pv 1)))))))
theorem sc__law_bound : FnScope ["size_so", "q", "times_so", "fewer_so", "g", "r"] ["size_so", "q", "times_so", "fewer_so"] (defScope (topS 56)) := ⟨rfl, rfl, rfl, by decide +kernel, rfl, by decide +kernel, by decide +kernel⟩
theorem d__law_bound (T : Top K mg) : Def P w K mg 2 "_law_bound" ["size_so", "q", "times_so", "fewer_so"] [false, false, false, false] false m__law_bound := by
  obtain ⟨f, fd, F, ma, b⟩ := T.f__law_bound.ex
  exact def_mk (k := 1) (N := ["size_so", "q", "times_so", "fewer_so", "g", "r"]) (O := []) (b := b__law_bound) F ma b sc__law_bound rfl (by intro i; revert i; exact ownOk_by (by decide)) (by decide) (fun base cdv A outer s H F0 L E hL rc po => by
  have hu := rc.room.units
  have hu1 := hu_of rc.room
  exact (rss_cons (rs_set 4 (no_by rfl) (re_call rc (d__law_gcd T) (by decide) (by rfl) (ra_val (re_var 1 (no_by rfl) (pv 1)) (ra_val (re_bin op_sub ope_sub (re_var 2 (no_by rfl) (pv 2)) (PE.w (re_var 3 (no_by rfl) (pv 3)))) ra_nil))) (fun he => ps_set rc.nd rfl (Or.inl rfl) he))
  (rss_cons (rs_set 5 (no_by rfl) (re_bin op_mod ope_mod (re_bin op_mul ope_mulI (re_var 3 (no_by rfl) (pv 3)) (PE.w (re_call rc (d__law_up T) (by decide) (by rfl) (ra_val (re_bin op_sub ope_sub (re_var 1 (no_by rfl) (pv 1)) (PE.w (re_var 4 (no_by rfl) (pv 4)))) (ra_val (re_bin opr_addA ope_addA (re_var 2 (no_by rfl) (pv 2)) (PE.w (re_var 3 (no_by rfl) (pv 3)))) ra_nil))))) (PE.w (re_var 4 (no_by rfl) (pv 4)))) (fun he => ps_set rc.nd rfl (Or.inl rfl) he))
  (rss_one (rs_ret rfl (re_bin op_mul ope_mulI (re_bin op_fdiv ope_div (re_var 0 (no_by rfl) (pv 0)) (PE.w (re_var 1 (no_by rfl) (pv 1)))) (PE.w (re_call rc (d__law_up T) (by decide) (by rfl) (ra_val (re_bin op_sub ope_sub (re_var 1 (no_by rfl) (pv 1)) (PE.w (re_bin op_sub ope_sub (re_var 4 (no_by rfl) (pv 4)) (PE.w (re_var 5 (no_by rfl) (pv 5)))))) (ra_val (re_bin opr_addA ope_addA (re_var 2 (no_by rfl) (pv 2)) (PE.w (re_var 3 (no_by rfl) (pv 3)))) ra_nil))))))))))
theorem sc__law_parts : FnScope ["size_so", "q"] ["size_so"] (defScope (topS 57)) := ⟨rfl, rfl, rfl, by decide +kernel, rfl, by decide +kernel, by decide +kernel⟩
theorem d__law_parts (T : Top K mg) : Def P w K mg 1 "_law_parts" ["size_so"] [false] false m__law_parts := by
  obtain ⟨f, fd, F, ma, b⟩ := T.f__law_parts.ex
  exact def_mk (k := 0) (N := ["size_so", "q"]) (O := []) (b := b__law_parts) F ma b sc__law_parts rfl (by intro i; revert i; exact ownOk_by (by decide)) (by decide) (fun base cdv A outer s H F0 L E hL rc po => by
  have hu := rc.room.units
  have hu1 := hu_of rc.room
  exact (rss_one (rs_ret rfl (PE.shared (rf_lc (vs := [1]) (is := [1]) (vs_by rfl) (by decide) (pe_lc (own := [("q", 1)]) rc.calm rc.nd (ri_range2 rc (by rfl) T.n_range re_int (re_bin opr_addA ope_addA (re_var 0 (no_by rfl) (pv 0)) (PE.w re_int))) (blkOk_by (by kernel_rfl)) (fun s H C cl fp => (rg_name 1 (no_by rfl) (pg_name (i := 1) (RC.blk rc).nd rfl (Or.inl rfl)))) (fun s H C cl fp => (rts_one (rt_cmp (opr_eq hu) ope_eq (re_bin op_mod ope_mod (re_var 0 (no_by rfl) (pv 0)) (PE.w (re_var 1 (no_by rfl) (pv 1)))) (PE.w re_int) (nomark _)))) (fun s H C cl fp => (re_var 1 (no_by rfl) (pv 1)))))))))
theorem sc__law_row_free : FnScope ["q", "row_so", "times_so", "fewer_so", "sums_so", "lap", "far_so", "near_so", "k", "a", "b"] ["q", "row_so", "times_so", "fewer_so"] (defScope (topS 58)) := ⟨rfl, rfl, rfl, by decide +kernel, rfl, by decide +kernel, by decide +kernel⟩
theorem d__law_row_free (T : Top K mg) : Def P w K mg 2 "_law_row_free" ["q", "row_so", "times_so", "fewer_so"] [false, false, false, false] false m__law_row_free := by
  obtain ⟨f, fd, F, ma, b⟩ := T.f__law_row_free.ex
  exact def_mk (k := 1) (N := ["q", "row_so", "times_so", "fewer_so", "sums_so", "lap", "far_so", "near_so", "k", "a", "b"]) (O := [4]) (b := b__law_row_free) F ma b sc__law_row_free rfl (by intro i; revert i; exact ownOk_by (by decide)) (by decide) (fun base cdv A outer s H F0 L E hL rc po => by
  have hu := rc.room.units
  have hu1 := hu_of rc.room
  exact (rss_cons (rs_asg (re_tup (rl_cons (PE.shared (rf_sortSet rc (by rfl) T.n_set (by rfl) T.n_sorted (PE.w (re_var 1 (no_by rfl) (pv 1))))) (rl_cons (PE.shared (rf_sortSet rc (by rfl) T.n_set (by rfl) T.n_sorted (PE.w (re_var 1 (no_by rfl) (pv 1))))) rl_nil))) (rg_tup rc.hK rfl (fun ht => pg_tup rc.calm ht) (rgs_cons 6 (no_by rfl) (pg_name (i := 6) rc.nd rfl (Or.inr rfl)) (rgs_cons 7 (no_by rfl) (pg_name (i := 7) rc.nd rfl (Or.inl rfl)) rgs_nil))) (fun he hg => ps_asg he hg))
  (rss_cons (rs_setO 4 (in_by rfl) (nl_by hL rfl) (rf_lst (rl_cons (re_var 7 (no_by rfl) (pv 7)) rl_nil)) (fun he => ps_set rc.nd rfl (Or.inr rfl) he))
  (rss_cons (rs_for (ri_range1 rc (by rfl) T.n_range (re_bin op_sub ope_sub (re_var 2 (no_by rfl) (pv 2)) (PE.w re_int))) (rg_name 5 (no_by rfl) (pg_name (i := 5) rc.nd rfl (Or.inl rfl)))
  (rss_cons (rs_set 7 (no_by rfl) (PE.shared (rf_sortSet rc (by rfl) T.n_set (by rfl) T.n_sorted (PE.w (re_call rc (d__law_flat T) (by decide) (by rfl) (ra_val (PE.shared (rf_lc (vs := [9]) (is := [9]) (vs_by rfl) (by decide) (pe_lc (own := [("a", 9)]) rc.calm rc.nd (ri_val rc (re_var 7 (no_by rfl) (pv 7))) (blkOk_by (by kernel_rfl)) (fun s H C cl fp => (rg_name 9 (no_by rfl) (pg_name (i := 9) (RC.blk rc).nd rfl (Or.inr rfl)))) (fun s H C cl fp => rts_nil) (fun s H C cl fp => (PE.shared (rf_lc (vs := [10]) (is := [10]) (vs_by rfl) (by decide) (pe_lc (own := [("b", 10)]) (RC.blk rc).calm (RC.blk rc).nd (ri_val (RC.blk rc) (re_var 6 (no_by rfl) (pv 6))) (blkOk_by (by kernel_rfl)) (fun s H C cl fp => (rg_name 10 (no_by rfl) (pg_name (i := 10) (RC.blk (RC.blk rc)).nd rfl (Or.inl rfl)))) (fun s H C cl fp => rts_nil) (fun s H C cl fp => (re_bin op_mod ope_mod (re_bin opr_addA ope_addA (re_var 9 (no_by rfl) (pv 9)) (PE.w (re_var 10 (no_by rfl) (pv 10)))) (PE.w (re_var 0 (no_by rfl) (pv 0)))))))))))) ra_nil))))) (fun he => ps_set rc.nd rfl (Or.inl rfl) he))
  (rss_one (rs_expr (re_mutV (id := "") rc.hK 4 (in_by rfl) mv_append (pv 4) (re_var 7 (no_by rfl) (pv 7)) (fun ht => pe_bm PySem.F.plainAttrs_list PySem.F.slot_list_append PySem.F.type_list_append mt_append (pv 4) ht))))) (fun hi hg hb => ps_for po rc.calm hi hg hb))
  (rss_one (rs_ret rfl (re_cmp (opr_eq hu) ope_eq (PE.shared (rf_lc (vs := [8]) (is := [8]) (vs_by rfl) (by decide) (pe_lc (own := [("k", 8)]) rc.calm rc.nd (ri_val rc (re_ixO (in_by rfl) (ixr_all hu1) ope_ix (pv 4) (PE.w (re_bin op_sub ope_sub (re_var 2 (no_by rfl) (pv 2)) (PE.w re_int))))) (blkOk_by (by kernel_rfl)) (fun s H C cl fp => (rg_name 8 (no_by rfl) (pg_name (i := 8) (RC.blk rc).nd rfl (Or.inl rfl)))) (fun s H C cl fp => (rts_one (rt_cmp (opr_in hu1) ope_in (re_var 8 (no_by rfl) (pv 8)) (PE.w (re_ixO (in_by rfl) (ixr_all hu1) ope_ix (pv 4) (PE.w (re_bin op_sub ope_sub (re_var 3 (no_by rfl) (pv 3)) (PE.w re_int))))) rfl))) (fun s H C cl fp => (re_var 8 (no_by rfl) (pv 8)))))) (PE.w (PE.shared (rf_lst rl_nil))) (nomark _))))))))
theorem sc__law_lap_one : FnScope ["tin", "n", "times_so", "fewer_so", "rows_so", "top_so", "told_so", "q", "s", "goods_so", "row_so", "longer_so", "b", "k", "own"] ["tin"] (defScope (topS 59)) := ⟨rfl, rfl, rfl, by decide +kernel, rfl, by decide +kernel, by decide +kernel⟩
theorem d__law_lap_one (T : Top K mg) : Def P w K mg 22 "_law_lap_one" ["tin"] [true] false m__law_lap_one := by
  obtain ⟨f, fd, F, ma, b⟩ := T.f__law_lap_one.ex
  exact def_mk (k := 21) (N := ["tin", "n", "times_so", "fewer_so", "rows_so", "top_so", "told_so", "q", "s", "goods_so", "row_so", "longer_so", "b", "k", "own"]) (O := [0]) (b := b__law_lap_one) F ma b sc__law_lap_one rfl (by intro i; revert i; exact ownOk_by (by decide)) (by decide) (fun base cdv A outer s H F0 L E hL rc po => by
  have hu := rc.room.units
  have hu1 := hu_of rc.room
  exact (rss_cons (rs_set 1 (no_by rfl) (re_bin opr_addA ope_addA re_int (PE.w (re_call rc (d__law_take T) (by decide) (by rfl) (ra_lent 0 (in_by rfl) (pv 0) (ra_val re_int ra_nil))))) (fun he => ps_set rc.nd rfl (Or.inr rfl) he))
  (rss_cons (rs_set 2 (no_by rfl) (re_bin opr_addA ope_addA re_int (PE.w (re_call rc (d__law_take T) (by decide) (by rfl) (ra_lent 0 (in_by rfl) (pv 0) (ra_val re_int ra_nil))))) (fun he => ps_set rc.nd rfl (Or.inr rfl) he))
  (rss_cons (rs_set 3 (no_by rfl) (re_bin opr_addA ope_addA re_int (PE.w (re_call rc (d__law_take T) (by decide) (by rfl) (ra_lent 0 (in_by rfl) (pv 0) (ra_val (re_bin op_sub ope_sub (re_var 2 (no_by rfl) (pv 2)) (PE.w re_int)) ra_nil))))) (fun he => ps_set rc.nd rfl (Or.inr rfl) he))
  (rss_cons (rs_setLc (vs := [7]) (is := [7]) (no_by rfl) (vs_by rfl) (by decide) (ps_setLc (i := 4) (own := [("q", 7)]) rc.calm rc.nd rfl rfl (sw_true rfl rfl rfl (by decide +kernel)) (ri_val rc (re_call rc (d__law_parts T) (by decide) (by rfl) (ra_val (re_var 1 (no_by rfl) (pv 1)) ra_nil))) (blkOk_by (by kernel_rfl)) (fun s H C cl fp => (rg_name 7 (no_by rfl) (pg_name (i := 7) (RC.blk rc).nd rfl (Or.inl rfl)))) (fun s H C cl fp => rts_nil) (fun s H C cl fp => (re_tup (rl_cons (re_var 7 (no_by rfl) (pv 7)) (rl_cons (re_call (RC.blk rc) (d__law_bound T) (by decide) (by rfl) (ra_val (re_var 1 (no_by rfl) (pv 1)) (ra_val (re_var 7 (no_by rfl) (pv 7)) (ra_val (re_var 2 (no_by rfl) (pv 2)) (ra_val (re_var 3 (no_by rfl) (pv 3)) ra_nil))))) rl_nil))))))
  (rss_cons (rs_set 5 (no_by rfl) (re_call1 rc (cr_maxB rc.calm hu1) une_max (by rfl) T.n_max (by rfl) (PE.w (PE.shared (rf_lc (vs := [14]) (is := [14]) (vs_by rfl) (by decide) (pe_lc (own := [("own", 14)]) rc.calm rc.nd (ri_val rc (re_var 4 (no_by rfl) (pv 4))) (blkOk_by (by kernel_rfl)) (fun s H C cl fp => (rg_name 14 (no_by rfl) (pg_name (i := 14) (RC.blk rc).nd rfl (Or.inl rfl)))) (fun s H C cl fp => rts_nil) (fun s H C cl fp => (re_ix (ixr_all hu1) ope_ix (re_var 14 (no_by rfl) (pv 14)) (PE.w re_int)))))))) (fun he => ps_set rc.nd rfl (Or.inr rfl) he))
  (rss_cons (rs_if (rt_not (rt_val (re_call rc (d__law_same T 12) (by decide) (by rfl) (ra_val (PE.shared (rf_lst (rl_cons (re_call rc (d_bounds_free T) (by decide) (by rfl) (ra_val (re_tup (rl_cons (re_var 1 (no_by rfl) (pv 1)) rl_nil)) (ra_val (re_var 2 (no_by rfl) (pv 2)) (ra_val (re_var 3 (no_by rfl) (pv 3)) ra_nil)))) (rl_cons (re_call rc (d_most_free T) (by decide) (by rfl) (ra_val (PE.shared (rf_lst (rl_cons (re_var 1 (no_by rfl) (pv 1)) rl_nil))) (ra_val (re_var 2 (no_by rfl) (pv 2)) (ra_val (re_var 3 (no_by rfl) (pv 3)) ra_nil)))) rl_nil)))) (ra_val (PE.shared (rf_lst (rl_cons (re_var 4 (no_by rfl) (pv 4)) (rl_cons (re_var 5 (no_by rfl) (pv 5)) rl_nil)))) ra_nil)))))
  (rss_one (rs_ret rfl re_bl))
  rss_nil)
  (rss_cons (rs_set 6 (no_by rfl) (re_call rc (d_built_free T) (by decide) (by rfl) (ra_val (re_tup (rl_cons (re_var 1 (no_by rfl) (pv 1)) rl_nil)) (ra_val (re_var 2 (no_by rfl) (pv 2)) (ra_val (re_var 3 (no_by rfl) (pv 3)) ra_nil)))) (fun he => ps_set rc.nd rfl (Or.inl rfl) he))
  (rss_cons (rs_if (rt_cmp (opr_eq hu) ope_eq (re_var 5 (no_by rfl) (pv 5)) (PE.w re_int) (nomark _))
  (rss_one (rs_ret rfl (re_cmp (opr_eq hu) ope_eq (re_var 6 (no_by rfl) (pv 6)) (PE.w (re_tup rl_nil)) (nomark _))))
  rss_nil)
  (rss_cons (rs_set 7 (no_by rfl) (re_ix (ixr_all hu1) ope_ix (PE.shared (rf_lc (vs := [14]) (is := [14]) (vs_by rfl) (by decide) (pe_lc (own := [("own", 14)]) rc.calm rc.nd (ri_val rc (re_var 4 (no_by rfl) (pv 4))) (blkOk_by (by kernel_rfl)) (fun s H C cl fp => (rg_name 14 (no_by rfl) (pg_name (i := 14) (RC.blk rc).nd rfl (Or.inl rfl)))) (fun s H C cl fp => (rts_one (rt_cmp (opr_eq hu) ope_eq (re_ix (ixr_all hu1) ope_ix (re_var 14 (no_by rfl) (pv 14)) (PE.w re_int)) (PE.w (re_var 5 (no_by rfl) (pv 5))) (nomark _)))) (fun s H C cl fp => (re_ix (ixr_all hu1) ope_ix (re_var 14 (no_by rfl) (pv 14)) (PE.w re_int)))))) (PE.w re_int)) (fun he => ps_set rc.nd rfl (Or.inr rfl) he))
  (rss_cons (rs_set 8 (no_by rfl) (re_bin op_fdiv ope_div (re_bin op_mul ope_mulI (re_var 5 (no_by rfl) (pv 5)) (PE.w (re_var 7 (no_by rfl) (pv 7)))) (PE.w (re_var 1 (no_by rfl) (pv 1)))) (fun he => ps_set rc.nd rfl (Or.inr rfl) he))
  (rss_cons (rs_set 9 (no_by rfl) (PE.shared (rf_lc (vs := [12]) (is := [12]) (vs_by rfl) (by decide) (pe_lc (own := [("b", 12)]) rc.calm rc.nd (ri_range1 rc (by rfl) T.n_range (re_var 7 (no_by rfl) (pv 7))) (blkOk_by (by kernel_rfl)) (fun s H C cl fp => (rg_name 12 (no_by rfl) (pg_name (i := 12) (RC.blk rc).nd rfl (Or.inr rfl)))) (fun s H C cl fp => (rts_one (rt_val (re_call (RC.blk rc) (d__law_row_free T) (by decide) (by rfl) (ra_val (re_var 7 (no_by rfl) (pv 7)) (ra_val (PE.shared (rf_lc (vs := [13]) (is := [13]) (vs_by rfl) (by decide) (pe_lc (own := [("k", 13)]) (RC.blk rc).calm (RC.blk rc).nd (ri_range1 (RC.blk rc) (by rfl) T.n_range (re_var 8 (no_by rfl) (pv 8))) (blkOk_by (by kernel_rfl)) (fun s H C cl fp => (rg_name 13 (no_by rfl) (pg_name (i := 13) (RC.blk (RC.blk rc)).nd rfl (Or.inl rfl)))) (fun s H C cl fp => rts_nil) (fun s H C cl fp => (re_bin op_mod ope_mod (re_bin opr_addA ope_addA (re_var 12 (no_by rfl) (pv 12)) (PE.w (re_var 13 (no_by rfl) (pv 13)))) (PE.w (re_var 7 (no_by rfl) (pv 7)))))))) (ra_val (re_var 2 (no_by rfl) (pv 2)) (ra_val (re_var 3 (no_by rfl) (pv 3)) ra_nil)))))))) (fun s H C cl fp => (re_var 12 (no_by rfl) (pv 12)))))) (fun he => ps_set rc.nd rfl (Or.inr rfl) he))
  (rss_cons (rs_if (rt_cmp (opr_eq hu) ope_eq (re_var 9 (no_by rfl) (pv 9)) (PE.w (PE.shared (rf_lst rl_nil))) (nomark _))
  (rss_one (rs_ret rfl re_bl))
  rss_nil)
  (rss_cons (rs_set 10 (no_by rfl) (PE.shared (rf_lc (vs := [13]) (is := [13]) (vs_by rfl) (by decide) (pe_lc (own := [("k", 13)]) rc.calm rc.nd (ri_range1 rc (by rfl) T.n_range (re_var 8 (no_by rfl) (pv 8))) (blkOk_by (by kernel_rfl)) (fun s H C cl fp => (rg_name 13 (no_by rfl) (pg_name (i := 13) (RC.blk rc).nd rfl (Or.inl rfl)))) (fun s H C cl fp => rts_nil) (fun s H C cl fp => (re_bin op_mod ope_mod (re_bin opr_addA ope_addA (re_ix (ixr_all hu1) ope_ix (re_var 9 (no_by rfl) (pv 9)) (PE.w re_int)) (PE.w (re_var 13 (no_by rfl) (pv 13)))) (PE.w (re_var 7 (no_by rfl) (pv 7)))))))) (fun he => ps_set rc.nd rfl (Or.inr rfl) he))
  (rss_cons (rs_if (rt_not (rt_val (re_call rc (d__law_same T 12) (by decide) (by rfl) (ra_val (re_var 6 (no_by rfl) (pv 6)) (ra_val (re_callT1 rc call_tuple_ofF une_tuple (by rfl) T.n_tuple (by rfl) (PE.w (PE.shared (rf_lc (vs := [13]) (is := [13]) (vs_by rfl) (by decide) (pe_lc (own := [("k", 13)]) rc.calm rc.nd (ri_range1 rc (by rfl) T.n_range (re_var 1 (no_by rfl) (pv 1))) (blkOk_by (by kernel_rfl)) (fun s H C cl fp => (rg_name 13 (no_by rfl) (pg_name (i := 13) (RC.blk rc).nd rfl (Or.inl rfl)))) (fun s H C cl fp => (rts_one (rt_cmp (opr_in hu1) ope_in (re_bin op_mod ope_mod (re_var 13 (no_by rfl) (pv 13)) (PE.w (re_var 7 (no_by rfl) (pv 7)))) (PE.w (re_var 10 (no_by rfl) (pv 10))) rfl))) (fun s H C cl fp => (re_var 13 (no_by rfl) (pv 13)))))))) ra_nil)))))
  (rss_one (rs_ret rfl re_bl))
  rss_nil)
  (rss_cons (rs_if (rt_not (rt_val (re_call rc (d__law_same T 12) (by decide) (by rfl) (ra_val (PE.shared (rf_lst (rl_cons (re_call rc (d_is_free T) (by decide) (by rfl) (ra_val (re_tup (rl_cons (re_var 1 (no_by rfl) (pv 1)) rl_nil)) (ra_val (re_var 6 (no_by rfl) (pv 6)) (ra_val (re_var 2 (no_by rfl) (pv 2)) (ra_val (re_var 3 (no_by rfl) (pv 3)) ra_nil))))) (rl_cons (re_call1 rc cr_len une_len (by rfl) T.n_len (by rfl) (PE.w (re_var 6 (no_by rfl) (pv 6)))) rl_nil)))) (ra_val (PE.shared (rf_lst (rl_cons re_bl (rl_cons (re_var 5 (no_by rfl) (pv 5)) rl_nil)))) ra_nil)))))
  (rss_one (rs_ret rfl re_bl))
  rss_nil)
  (rss_cons (rs_setLc (vs := [12]) (is := [12]) (no_by rfl) (vs_by rfl) (by decide) (ps_setLc (i := 11) (own := [("b", 12)]) rc.calm rc.nd rfl rfl (sw_true rfl rfl rfl (by decide +kernel)) (ri_range1 rc (by rfl) T.n_range (re_var 7 (no_by rfl) (pv 7))) (blkOk_by (by kernel_rfl)) (fun s H C cl fp => (rg_name 12 (no_by rfl) (pg_name (i := 12) (RC.blk rc).nd rfl (Or.inr rfl)))) (fun s H C cl fp => (rts_one (RTW.t (rw_and (rt_cmp op_lt ope_cmp (re_var 8 (no_by rfl) (pv 8)) (PE.w (re_var 7 (no_by rfl) (pv 7))) (nomark _)) (rw_and1 (rt_val (re_call (RC.blk rc) (d__law_row_free T) (by decide) (by rfl) (ra_val (re_var 7 (no_by rfl) (pv 7)) (ra_val (PE.shared (rf_lc (vs := [13]) (is := [13]) (vs_by rfl) (by decide) (pe_lc (own := [("k", 13)]) (RC.blk rc).calm (RC.blk rc).nd (ri_range1 (RC.blk rc) (by rfl) T.n_range (re_bin opr_addA ope_addA (re_var 8 (no_by rfl) (pv 8)) (PE.w re_int))) (blkOk_by (by kernel_rfl)) (fun s H C cl fp => (rg_name 13 (no_by rfl) (pg_name (i := 13) (RC.blk (RC.blk rc)).nd rfl (Or.inl rfl)))) (fun s H C cl fp => rts_nil) (fun s H C cl fp => (re_bin op_mod ope_mod (re_bin opr_addA ope_addA (re_var 12 (no_by rfl) (pv 12)) (PE.w (re_var 13 (no_by rfl) (pv 13)))) (PE.w (re_var 7 (no_by rfl) (pv 7)))))))) (ra_val (re_var 2 (no_by rfl) (pv 2)) (ra_val (re_var 3 (no_by rfl) (pv 3)) ra_nil))))))))))) (fun s H C cl fp => (re_var 12 (no_by rfl) (pv 12)))))
  (rss_one (rs_ret rfl (re_and (re_cmp (opr_eq hu) ope_eq (re_var 11 (no_by rfl) (pv 11)) (PE.w (PE.shared (rf_lst rl_nil))) (nomark _)) (re_one (re_call rc (d__law_same T 12) (by decide) (by rfl) (ra_val (PE.shared (rf_lst (rl_cons (re_call rc (d_bounds_free T) (by decide) (by rfl) (ra_val (re_tup (rl_cons (re_var 1 (no_by rfl) (pv 1)) rl_nil)) (ra_val re_int (ra_val re_int ra_nil)))) (rl_cons (re_call rc (d_most_free T) (by decide) (by rfl) (ra_val (re_tup (rl_cons (re_var 1 (no_by rfl) (pv 1)) rl_nil)) (ra_val re_int (ra_val re_int ra_nil)))) rl_nil)))) (ra_val (PE.shared (rf_lst (rl_cons (re_call rc (d_bounds T) (by decide) (by rfl) (ra_val (re_tup (rl_cons (re_var 1 (no_by rfl) (pv 1)) rl_nil)) ra_nil)) (rl_cons (re_call rc (d_most T) (by decide) (by rfl) (ra_val (re_tup (rl_cons (re_var 1 (no_by rfl) (pv 1)) rl_nil)) ra_nil)) rl_nil)))) ra_nil))))))))))))))))))))))))
theorem sc_law : FnScope ["script", "tin", "lap"] ["script"] (defScope (topS 60)) := ⟨rfl, rfl, rfl, by decide +kernel, rfl, by decide +kernel, by decide +kernel⟩
theorem d_law (T : Top K mg) : Def P w K mg 23 "law" ["script"] [false] false m_law := by
  obtain ⟨f, fd, F, ma, b⟩ := T.f_law.ex
  exact def_mk (k := 22) (N := ["script", "tin", "lap"]) (O := [1]) (b := b_law) F ma b sc_law rfl (by intro i; revert i; exact ownOk_by (by decide)) (by decide) (fun base cdv A outer s H F0 L E hL rc po => by
  have hu := rc.room.units
  have hu1 := hu_of rc.room
  exact (rss_cons (rs_setO 1 (in_by rfl) (nl_by hL rfl) (rf_call rc (d__law_box T) (by decide) (by rfl) (ra_val (re_call rc (d__law_cells T) (by decide) (by rfl) (ra_val (re_var 0 (no_by rfl) (pv 0)) (ra_val re_int ra_nil))) (ra_val re_int ra_nil))) (fun he => ps_set rc.nd rfl (Or.inl rfl) he))
  (rss_cons (rs_for (ri_range1 rc (by rfl) T.n_range re_int) (rg_name 2 (no_by rfl) (pg_name (i := 2) rc.nd rfl (Or.inl rfl)))
  (rss_one (rs_if (rt_not (rt_val (re_call rc (d__law_lap_one T) (by decide) (by rfl) (ra_lent 1 (in_by rfl) (pv 1) ra_nil))))
  (rss_one (rs_ret rfl re_bl))
  rss_nil)) (fun hi hg hb => ps_for po rc.calm hi hg hb))
  (rss_one (rs_ret rfl (re_call rc (d__law_same T 12) (by decide) (by rfl) (ra_val (PE.shared (rf_lst (rl_cons (re_call rc (d_built_free T) (by decide) (by rfl) (ra_val (re_tup (rl_cons re_int rl_nil)) (ra_val re_int (ra_val re_int ra_nil)))) (rl_cons (re_call rc (d_built_free T) (by decide) (by rfl) (ra_val (re_tup (rl_cons re_int rl_nil)) (ra_val re_int (ra_val re_int ra_nil)))) (rl_cons (re_call rc (d_most_free T) (by decide) (by rfl) (ra_val (re_tup (rl_cons re_int rl_nil)) (ra_val re_int (ra_val re_int ra_nil)))) (rl_cons (re_call rc (d_bounds_free T) (by decide) (by rfl) (ra_val (re_tup (rl_cons re_int rl_nil)) (ra_val re_int (ra_val re_int ra_nil)))) rl_nil)))))) (ra_val (PE.shared (rf_lst (rl_cons (re_tup (rl_cons re_int (rl_cons re_int rl_nil))) (rl_cons (re_tup (rl_cons re_int (rl_cons re_int (rl_cons re_int (rl_cons re_int rl_nil))))) (rl_cons re_int (rl_cons (PE.shared (rf_lst (rl_cons (re_tup (rl_cons re_int (rl_cons re_int rl_nil))) (rl_cons (re_tup (rl_cons re_int (rl_cons re_int rl_nil))) rl_nil)))) rl_nil)))))) ra_nil))))))))
end
end L2.EV.k63

namespace L2.EV.k63
open PySem PySem.Spec PyProof.Rows L2 L2.EV
/-! numbers, tuples of numbers -/
def isNumP : PV → Bool
  | .int _ => true
  | _ => false
def typP : PV → Bool
  | .non => true
  | .bl _ => true
  | .int _ => true
  | .str _ => true
  | .tup _ => true
  | .lst _ => true
  | _ => false
theorem is_number_g : ∀ t, typP t = true → m_is_number [t] = .ok (.bl (isNumP t)) []
  | .non, _ => rfl
  | .bl _, _ => rfl
  | .int _, _ => rfl
  | .str _, _ => rfl
  | .tup _, _ => rfl
  | .lst _, _ => rfl
  | .ty _, h => by cases h
  | .fn _, h => by cases h
  | .dct _, h => by cases h
  | .scr _, h => by cases h
theorem is_number_i (i : Int) : m_is_number [.int i] = .ok (.bl true) [] := rfl
theorem is_within_i (i a b : Int) : m_is_within [.int i, .int a, .int b] = .ok (.bl (decide (a ≤ i) && decide (i ≤ b))) [] := by
  unfold m_is_within b_is_within
  simp -implicitDefEqProofs [is_number_i, pyLe_i, sseq_r, sbind_r, mbind_r, mret_r, mlift_s, slot_r, bin_r, binO_r, un_r, asB_r, andT_r, orT_r, notT_r, iteM_r, andV_r, orV_r, notV_r, chain_r, mcons_r, tupM_z, lstM_z, ite_r, callM_r, part_r, noPart_r, slc_r, itM_r, zipM_r, enumM_r, lcM_z, sm_nil, sm_cons, sm_map, rngM1_r, rngM2_r, rngM3_r, orF_r, findM_r, sortSet_r, lenSet_r, chkL_r, putSlot_r, mmut_r, mpop_r, snx_r, sbk_r, sct_r, sput_r, sret_r, sretO_r, sif_r, sexc_r, spar_r, spar3_r, saug_r, sset_r, saugS_r, sasg_r, fnM_r, mstuck_r, isiP, tyOf, isaAny, isaT, pyNeg, wipeE, unw, tgName, tgTup, tgs, Function.comp_def, sizeLine_eq, resolve, putMu, lentOf, iterOf, items, asI]
  by_cases h : a ≤ i
  · simp -implicitDefEqProofs [h, sseq_r, sbind_r, mbind_r, mret_r, mlift_s, slot_r, bin_r, binO_r, un_r, asB_r, andT_r, orT_r, notT_r, iteM_r, andV_r, orV_r, notV_r, chain_r, mcons_r, tupM_z, lstM_z, ite_r, callM_r, part_r, noPart_r, slc_r, itM_r, zipM_r, enumM_r, lcM_z, sm_nil, sm_cons, sm_map, rngM1_r, rngM2_r, rngM3_r, orF_r, findM_r, sortSet_r, lenSet_r, chkL_r, putSlot_r, mmut_r, mpop_r, snx_r, sbk_r, sct_r, sput_r, sret_r, sretO_r, sif_r, sexc_r, spar_r, spar3_r, saug_r, sset_r, saugS_r, sasg_r, fnM_r, mstuck_r, isiP, tyOf, isaAny, isaT, pyNeg, wipeE, unw, tgName, tgTup, tgs, Function.comp_def, sizeLine_eq, resolve, putMu, lentOf, iterOf, items, asI]
  · simp -implicitDefEqProofs [h, sseq_r, sbind_r, mbind_r, mret_r, mlift_s, slot_r, bin_r, binO_r, un_r, asB_r, andT_r, orT_r, notT_r, iteM_r, andV_r, orV_r, notV_r, chain_r, mcons_r, tupM_z, lstM_z, ite_r, callM_r, part_r, noPart_r, slc_r, itM_r, zipM_r, enumM_r, lcM_z, sm_nil, sm_cons, sm_map, rngM1_r, rngM2_r, rngM3_r, orF_r, findM_r, sortSet_r, lenSet_r, chkL_r, putSlot_r, mmut_r, mpop_r, snx_r, sbk_r, sct_r, sput_r, sret_r, sretO_r, sif_r, sexc_r, spar_r, spar3_r, saug_r, sset_r, saugS_r, sasg_r, fnM_r, mstuck_r, isiP, tyOf, isaAny, isaT, pyNeg, wipeE, unw, tgName, tgTup, tgs, Function.comp_def, sizeLine_eq, resolve, putMu, lentOf, iterOf, items, asI]
theorem is_within_n {t : PV} (h : typP t = true) (hn : isNumP t = false) (a b : PV) : m_is_within [t, a, b] = .ok (.bl false) [] := by
  unfold m_is_within b_is_within
  have w := is_number_g t h
  simp -implicitDefEqProofs [w, hn, sseq_r, sbind_r, mbind_r, mret_r, mlift_s, slot_r, bin_r, binO_r, un_r, asB_r, andT_r, orT_r, notT_r, iteM_r, andV_r, orV_r, notV_r, chain_r, mcons_r, tupM_z, lstM_z, ite_r, callM_r, part_r, noPart_r, slc_r, itM_r, zipM_r, enumM_r, lcM_z, sm_nil, sm_cons, sm_map, rngM1_r, rngM2_r, rngM3_r, orF_r, findM_r, sortSet_r, lenSet_r, chkL_r, putSlot_r, mmut_r, mpop_r, snx_r, sbk_r, sct_r, sput_r, sret_r, sretO_r, sif_r, sexc_r, spar_r, spar3_r, saug_r, sset_r, saugS_r, sasg_r, fnM_r, mstuck_r, isiP, tyOf, isaAny, isaT, pyNeg, wipeE, unw, tgName, tgTup, tgs, Function.comp_def, sizeLine_eq, resolve, putMu, lentOf, iterOf, items, asI]
theorem are_numbers_t {ts : List PV} (hz : Sm 0 ts) (h : ∀ t ∈ ts, typP t = true) : m_are_numbers [.tup ts] = .ok (.bl (ts.all isNumP)) [] := by
  unfold m_are_numbers b_are_numbers
  have L := lcL_map (vs := [1]) (g := tgName 1) (te := callM m_is_number [none] (mcons (slot 1) (mret []))) (env := [some (.tup ts), none]) (fun t => .bl (isNumP t)) (ts := ts) (fun t ht => by
    have w := is_number_g t (h t ht)
    exact ⟨_, rfl, by simp -implicitDefEqProofs [w, sseq_r, sbind_r, mbind_r, mret_r, mlift_s, slot_r, bin_r, binO_r, un_r, asB_r, andT_r, orT_r, notT_r, iteM_r, andV_r, orV_r, notV_r, chain_r, mcons_r, tupM_z, lstM_z, ite_r, callM_r, part_r, noPart_r, slc_r, itM_r, zipM_r, enumM_r, lcM_z, sm_nil, sm_cons, sm_map, rngM1_r, rngM2_r, rngM3_r, orF_r, findM_r, sortSet_r, lenSet_r, chkL_r, putSlot_r, mmut_r, mpop_r, snx_r, sbk_r, sct_r, sput_r, sret_r, sretO_r, sif_r, sexc_r, spar_r, spar3_r, saug_r, sset_r, saugS_r, sasg_r, fnM_r, mstuck_r, isiP, tyOf, isaAny, isaT, pyNeg, wipeE, unw, tgName, tgTup, tgs, Function.comp_def, sizeLine_eq, resolve, putMu, lentOf, iterOf, items, asI], rfl⟩)
  simp -implicitDefEqProofs [L, hz, pyAll_m, sseq_r, sbind_r, mbind_r, mret_r, mlift_s, slot_r, bin_r, binO_r, un_r, asB_r, andT_r, orT_r, notT_r, iteM_r, andV_r, orV_r, notV_r, chain_r, mcons_r, tupM_z, lstM_z, ite_r, callM_r, part_r, noPart_r, slc_r, itM_r, zipM_r, enumM_r, lcM_z, sm_nil, sm_cons, sm_map, rngM1_r, rngM2_r, rngM3_r, orF_r, findM_r, sortSet_r, lenSet_r, chkL_r, putSlot_r, mmut_r, mpop_r, snx_r, sbk_r, sct_r, sput_r, sret_r, sretO_r, sif_r, sexc_r, spar_r, spar3_r, saug_r, sset_r, saugS_r, sasg_r, fnM_r, mstuck_r, isiP, tyOf, isaAny, isaT, pyNeg, wipeE, unw, tgName, tgTup, tgs, Function.comp_def, sizeLine_eq, resolve, putMu, lentOf, iterOf, items, asI]
theorem are_numbers_i {l : List Int} (hz : Sm 0 l) : m_are_numbers [.tup (l.map PV.int)] = .ok (.bl true) [] := by
  rw [are_numbers_t (sm_map.mpr hz) (fun t ht => by obtain ⟨i, _, rfl⟩ := List.mem_map.mp ht; rfl)]
  rw [List.all_map]
  have : l.all (isNumP ∘ PV.int) = true := List.all_eq_true.mpr fun _ _ => rfl
  rw [this]
theorem are_numbers_n {t : PV} (h : typP t = true) (hn : ∀ ts, t ≠ .tup ts) : m_are_numbers [t] = .ok (.bl false) [] := by
  cases t <;> first | rfl | (exact absurd rfl (hn _)) | (cases h)
theorem sure_within_i {i a b : Int} (h1 : a ≤ i) (h2 : i ≤ b) : m_sure_within [.int i, .int a, .int b] = .ok (.int i) [] := by
  unfold m_sure_within b_sure_within
  simp -implicitDefEqProofs [is_within_i, h1, h2, sseq_r, sbind_r, mbind_r, mret_r, mlift_s, slot_r, bin_r, binO_r, un_r, asB_r, andT_r, orT_r, notT_r, iteM_r, andV_r, orV_r, notV_r, chain_r, mcons_r, tupM_z, lstM_z, ite_r, callM_r, part_r, noPart_r, slc_r, itM_r, zipM_r, enumM_r, lcM_z, sm_nil, sm_cons, sm_map, rngM1_r, rngM2_r, rngM3_r, orF_r, findM_r, sortSet_r, lenSet_r, chkL_r, putSlot_r, mmut_r, mpop_r, snx_r, sbk_r, sct_r, sput_r, sret_r, sretO_r, sif_r, sexc_r, spar_r, spar3_r, saug_r, sset_r, saugS_r, sasg_r, fnM_r, mstuck_r, isiP, tyOf, isaAny, isaT, pyNeg, wipeE, unw, tgName, tgTup, tgs, Function.comp_def, sizeLine_eq, resolve, putMu, lentOf, iterOf, items, asI]
theorem sure_within_o {i a b : Int} (h : i < a ∨ b < i) : m_sure_within [.int i, .int a, .int b] = .exc "Unfit" := by
  have e : (decide (a ≤ i) && decide (i ≤ b)) = false := by
    rcases h with h | h
    · rw [decide_eq_false (by omega)]; rfl
    · rw [decide_eq_false (show ¬ i ≤ b by omega), Bool.and_false]
  unfold m_sure_within b_sure_within
  simp -implicitDefEqProofs [is_within_i, e, sseq_r, sbind_r, mbind_r, mret_r, mlift_s, slot_r, bin_r, binO_r, un_r, asB_r, andT_r, orT_r, notT_r, iteM_r, andV_r, orV_r, notV_r, chain_r, mcons_r, tupM_z, lstM_z, ite_r, callM_r, part_r, noPart_r, slc_r, itM_r, zipM_r, enumM_r, lcM_z, sm_nil, sm_cons, sm_map, rngM1_r, rngM2_r, rngM3_r, orF_r, findM_r, sortSet_r, lenSet_r, chkL_r, putSlot_r, mmut_r, mpop_r, snx_r, sbk_r, sct_r, sput_r, sret_r, sretO_r, sif_r, sexc_r, spar_r, spar3_r, saug_r, sset_r, saugS_r, sasg_r, fnM_r, mstuck_r, isiP, tyOf, isaAny, isaT, pyNeg, wipeE, unw, tgName, tgTup, tgs, Function.comp_def, sizeLine_eq, resolve, putMu, lentOf, iterOf, items, asI]
theorem sure_within_n {t : PV} (h : typP t = true) (hn : isNumP t = false) (a b : PV) : m_sure_within [t, a, b] = .exc "Unfit" := by
  unfold m_sure_within b_sure_within
  have w := is_within_n h hn a b
  simp -implicitDefEqProofs [w, sseq_r, sbind_r, mbind_r, mret_r, mlift_s, slot_r, bin_r, binO_r, un_r, asB_r, andT_r, orT_r, notT_r, iteM_r, andV_r, orV_r, notV_r, chain_r, mcons_r, tupM_z, lstM_z, ite_r, callM_r, part_r, noPart_r, slc_r, itM_r, zipM_r, enumM_r, lcM_z, sm_nil, sm_cons, sm_map, rngM1_r, rngM2_r, rngM3_r, orF_r, findM_r, sortSet_r, lenSet_r, chkL_r, putSlot_r, mmut_r, mpop_r, snx_r, sbk_r, sct_r, sput_r, sret_r, sretO_r, sif_r, sexc_r, spar_r, spar3_r, saug_r, sset_r, saugS_r, sasg_r, fnM_r, mstuck_r, isiP, tyOf, isaAny, isaT, pyNeg, wipeE, unw, tgName, tgTup, tgs, Function.comp_def, sizeLine_eq, resolve, putMu, lentOf, iterOf, items, asI]

/-! ascending rows -/
def ascB (l : List Int) : Bool := (l.zip l.tail).all fun p => decide (p.1 < p.2)
theorem ascB_iff : ∀ {l : List Int}, ascB l = true ↔ l.Pairwise (· < ·)
  | [] => by simp [ascB]
  | [x] => by simp [ascB]
  | x :: y :: r => by
    have ih := ascB_iff (l := y :: r)
    unfold ascB at ih ⊢
    rw [List.tail_cons] at ih ⊢
    rw [List.zip_cons_cons, List.all_cons, Bool.and_eq_true, ih, decide_eq_true_eq, List.pairwise_cons (a := x)]
    refine ⟨fun ⟨h1, h2⟩ => ⟨fun z hz => ?_, h2⟩, fun ⟨h1, h2⟩ => ⟨h1 y (by simp), h2⟩⟩
    rcases List.mem_cons.mp hz with rfl | hz
    · exact h1
    · exact Int.lt_trans h1 ((List.pairwise_cons.mp h2).1 z hz)
def encP (p : Int × Int) : PV := .tup [.int p.1, .int p.2]
theorem zipL_ints : ∀ a b : List Int, zipL (a.map PV.int) (b.map PV.int) = (a.zip b).map encP
  | [], b => by simp [zipL]
  | x :: a, [] => by simp [zipL]
  | x :: a, y :: b => by
    have ih := zipL_ints a b
    unfold zipL at ih ⊢
    rw [List.map_cons, List.map_cons, List.zipWith_cons_cons, ih]
    rfl
theorem cut_tail {ts : List PV} : cutP ts (some 1) none = ts.tail := by
  unfold cutP
  have e1 : HT.sIx ts.length 0 (some 1) = min 1 ts.length := HT.sIx_nat ts.length 0 1
  rw [e1, HT.sIx_none]
  cases ts with
  | nil => rfl
  | cons x r =>
    have e2 : min 1 (x :: r).length = 1 := by simp
    rw [e2]
    show List.take ((r.length + 1) - 1) r = r
    rw [List.take_of_length_le (by simp)]
theorem ascends_t {l : List Int} (hl : Sm 0 l) : m_ascends [.tup (l.map PV.int)] = .ok (.bl (ascB l)) [] := by
  have L := lc_map (enc := encP) (vs := [1, 2]) (g := tgTup [1, 2]) (te := bin pyLt (slot 1) (slot 2)) (env := [some (.tup (l.map PV.int)), none, none]) (fun p => .bl (decide (p.1 < p.2))) (l := l.zip l.tail) (fun p _ => ⟨_, rfl, by simp -implicitDefEqProofs [pyLt_i, sseq_r, sbind_r, mbind_r, mret_r, mlift_s, slot_r, bin_r, binO_r, un_r, asB_r, andT_r, orT_r, notT_r, iteM_r, andV_r, orV_r, notV_r, chain_r, mcons_r, tupM_z, lstM_z, ite_r, callM_r, part_r, noPart_r, slc_r, itM_r, zipM_r, enumM_r, lcM_z, sm_nil, sm_cons, sm_map, rngM1_r, rngM2_r, rngM3_r, orF_r, findM_r, sortSet_r, lenSet_r, chkL_r, putSlot_r, mmut_r, mpop_r, snx_r, sbk_r, sct_r, sput_r, sret_r, sretO_r, sif_r, sexc_r, spar_r, spar3_r, saug_r, sset_r, saugS_r, sasg_r, fnM_r, mstuck_r, isiP, tyOf, isaAny, isaT, pyNeg, wipeE, unw, tgName, tgTup, tgs, Function.comp_def, sizeLine_eq, resolve, putMu, lentOf, iterOf, items, asI], rfl⟩)
  have hc : pyCut (.tup (l.map PV.int)) (some 1) none = some (.tup (l.tail.map PV.int)) := by
    show some (PV.tup (cutP (l.map PV.int) (some 1) none)) = _
    rw [cut_tail, List.map_tail]
  have z : zipL (l.map PV.int) (l.map PV.int).tail = (l.zip l.tail).map encP := by rw [← List.map_tail]; exact zipL_ints l l.tail
  have hz : Sm 0 (l.zip l.tail) := by unfold Sm at hl ⊢; rw [List.length_zip]; omega
  unfold m_ascends b_ascends
  simp -implicitDefEqProofs [hc, z, L, hz, pyAll_m, sseq_r, sbind_r, mbind_r, mret_r, mlift_s, slot_r, bin_r, binO_r, un_r, asB_r, andT_r, orT_r, notT_r, iteM_r, andV_r, orV_r, notV_r, chain_r, mcons_r, tupM_z, lstM_z, ite_r, callM_r, part_r, noPart_r, slc_r, itM_r, zipM_r, enumM_r, lcM_z, sm_nil, sm_cons, sm_map, rngM1_r, rngM2_r, rngM3_r, orF_r, findM_r, sortSet_r, lenSet_r, chkL_r, putSlot_r, mmut_r, mpop_r, snx_r, sbk_r, sct_r, sput_r, sret_r, sretO_r, sif_r, sexc_r, spar_r, spar3_r, saug_r, sset_r, saugS_r, sasg_r, fnM_r, mstuck_r, isiP, tyOf, isaAny, isaT, pyNeg, wipeE, unw, tgName, tgTup, tgs, Function.comp_def, sizeLine_eq, resolve, putMu, lentOf, iterOf, items, asI]
  rfl

/-! greatest common divisor, bounds -/
def gI : Nat → Int → Int → Int
  | 0, a, _ => a
  | k + 1, a, b => if b = 0 then a else gI k b (a % b)
theorem common_loop (k : Nat) : ∀ (a b : Int) (m : Nat), 0 ≤ b → b < k → k < m → swhile (mbind (bin pyNe (slot 1) (mret (.int 0))) asB) (spar 0 1 (slot 1) (bin pyMod (slot 0) (slot 1))) m [some (.int a), some (.int b)] = .nx [some (.int (gI k a b)), some (.int 0)] := by
  induction k with
  | zero => intro a b m h1 h2; omega
  | succ k ih =>
    intro a b m h1 h2 h3
    obtain ⟨m, rfl⟩ : ∃ j, m = j + 1 := ⟨m - 1, by omega⟩
    unfold swhile gI
    by_cases hb : b = 0
    · subst hb
      simp -implicitDefEqProofs [pyNe_i, sseq_r, sbind_r, mbind_r, mret_r, mlift_s, slot_r, bin_r, binO_r, un_r, asB_r, andT_r, orT_r, notT_r, iteM_r, andV_r, orV_r, notV_r, chain_r, mcons_r, tupM_z, lstM_z, ite_r, callM_r, part_r, noPart_r, slc_r, itM_r, zipM_r, enumM_r, lcM_z, sm_nil, sm_cons, sm_map, rngM1_r, rngM2_r, rngM3_r, orF_r, findM_r, sortSet_r, lenSet_r, chkL_r, putSlot_r, mmut_r, mpop_r, snx_r, sbk_r, sct_r, sput_r, sret_r, sretO_r, sif_r, sexc_r, spar_r, spar3_r, saug_r, sset_r, saugS_r, sasg_r, fnM_r, mstuck_r, isiP, tyOf, isaAny, isaT, pyNeg, wipeE, unw, tgName, tgTup, tgs, Function.comp_def, sizeLine_eq, resolve, putMu, lentOf, iterOf, items, asI]
    · have hb0 : 0 < b := by omega
      have e := pyMod_i (a := a) hb0
      have r0 := Int.emod_nonneg a hb
      have r1 := Int.emod_lt_of_pos a hb0
      have w := ih b (a % b) m r0 (by omega) (by omega)
      simp -implicitDefEqProofs [pyNe_i, hb, e, w, sseq_r, sbind_r, mbind_r, mret_r, mlift_s, slot_r, bin_r, binO_r, un_r, asB_r, andT_r, orT_r, notT_r, iteM_r, andV_r, orV_r, notV_r, chain_r, mcons_r, tupM_z, lstM_z, ite_r, callM_r, part_r, noPart_r, slc_r, itM_r, zipM_r, enumM_r, lcM_z, sm_nil, sm_cons, sm_map, rngM1_r, rngM2_r, rngM3_r, orF_r, findM_r, sortSet_r, lenSet_r, chkL_r, putSlot_r, mmut_r, mpop_r, snx_r, sbk_r, sct_r, sput_r, sret_r, sretO_r, sif_r, sexc_r, spar_r, spar3_r, saug_r, sset_r, saugS_r, sasg_r, fnM_r, mstuck_r, isiP, tyOf, isaAny, isaT, pyNeg, wipeE, unw, tgName, tgTup, tgs, Function.comp_def, sizeLine_eq, resolve, putMu, lentOf, iterOf, items, asI]
theorem common_of_t {a b : Int} (h : 0 ≤ b ∧ b ≤ 40) : m_common_of [.int a, .int b] = .ok (.int (gI 41 a b)) [] := by
  have w := common_loop 41 a b 4000 h.1 (by omega) (by omega)
  unfold m_common_of b_common_of whileFuel
  simp -implicitDefEqProofs [w, sseq_r, sbind_r, mbind_r, mret_r, mlift_s, slot_r, bin_r, binO_r, un_r, asB_r, andT_r, orT_r, notT_r, iteM_r, andV_r, orV_r, notV_r, chain_r, mcons_r, tupM_z, lstM_z, ite_r, callM_r, part_r, noPart_r, slc_r, itM_r, zipM_r, enumM_r, lcM_z, sm_nil, sm_cons, sm_map, rngM1_r, rngM2_r, rngM3_r, orF_r, findM_r, sortSet_r, lenSet_r, chkL_r, putSlot_r, mmut_r, mpop_r, snx_r, sbk_r, sct_r, sput_r, sret_r, sretO_r, sif_r, sexc_r, spar_r, spar3_r, saug_r, sset_r, saugS_r, sasg_r, fnM_r, mstuck_r, isiP, tyOf, isaAny, isaT, pyNeg, wipeE, unw, tgName, tgTup, tgs, Function.comp_def, sizeLine_eq, resolve, putMu, lentOf, iterOf, items, asI]
theorem gcd_loop (k : Nat) : ∀ (a b : Int) (ts : List Int) (x : Option PV), 0 ≤ b → b < k → k ≤ ts.length → ∃ y, sfor (tgName 2) (sseq (sif (mbind (bin pyEq (slot 1) (mret (.int 0))) asB) sbk snx) (spar 0 1 (slot 1) (bin pyMod (slot 0) (slot 1)))) (ts.map PV.int) [some (.int a), some (.int b), x] = .nx [some (.int (gI k a b)), some (.int 0), y] := by
  induction k with
  | zero => intro a b ts x h1 h2; omega
  | succ k ih =>
    intro a b ts x h1 h2 h3
    cases ts with
    | nil => simp at h3
    | cons t ts =>
      by_cases hb : b = 0
      · subst hb
        refine ⟨some (.int t), ?_⟩
        unfold sfor gI
        simp -implicitDefEqProofs [pyEq_i, sseq_r, sbind_r, mbind_r, mret_r, mlift_s, slot_r, bin_r, binO_r, un_r, asB_r, andT_r, orT_r, notT_r, iteM_r, andV_r, orV_r, notV_r, chain_r, mcons_r, tupM_z, lstM_z, ite_r, callM_r, part_r, noPart_r, slc_r, itM_r, zipM_r, enumM_r, lcM_z, sm_nil, sm_cons, sm_map, rngM1_r, rngM2_r, rngM3_r, orF_r, findM_r, sortSet_r, lenSet_r, chkL_r, putSlot_r, mmut_r, mpop_r, snx_r, sbk_r, sct_r, sput_r, sret_r, sretO_r, sif_r, sexc_r, spar_r, spar3_r, saug_r, sset_r, saugS_r, sasg_r, fnM_r, mstuck_r, isiP, tyOf, isaAny, isaT, pyNeg, wipeE, unw, tgName, tgTup, tgs, Function.comp_def, sizeLine_eq, resolve, putMu, lentOf, iterOf, items, asI]
      · have hb0 : 0 < b := by omega
        have e := pyMod_i (a := a) hb0
        have r0 := Int.emod_nonneg a hb
        have r1 := Int.emod_lt_of_pos a hb0
        obtain ⟨y, w⟩ := ih b (a % b) ts (some (.int t)) r0 (by omega) (by simp at h3; omega)
        refine ⟨y, ?_⟩
        unfold sfor gI
        simp -implicitDefEqProofs [pyEq_i, hb, e, w, sseq_r, sbind_r, mbind_r, mret_r, mlift_s, slot_r, bin_r, binO_r, un_r, asB_r, andT_r, orT_r, notT_r, iteM_r, andV_r, orV_r, notV_r, chain_r, mcons_r, tupM_z, lstM_z, ite_r, callM_r, part_r, noPart_r, slc_r, itM_r, zipM_r, enumM_r, lcM_z, sm_nil, sm_cons, sm_map, rngM1_r, rngM2_r, rngM3_r, orF_r, findM_r, sortSet_r, lenSet_r, chkL_r, putSlot_r, mmut_r, mpop_r, snx_r, sbk_r, sct_r, sput_r, sret_r, sretO_r, sif_r, sexc_r, spar_r, spar3_r, saug_r, sset_r, saugS_r, sasg_r, fnM_r, mstuck_r, isiP, tyOf, isaAny, isaT, pyNeg, wipeE, unw, tgName, tgTup, tgs, Function.comp_def, sizeLine_eq, resolve, putMu, lentOf, iterOf, items, asI]
theorem law_gcd_t {a b : Int} (ha : 0 ≤ a) (h : 0 ≤ b ∧ b ≤ 40) : m__law_gcd [.int a, .int b] = .ok (.int (gI 41 a b)) [] := by
  obtain ⟨y, w⟩ := gcd_loop 41 a b (rgI 9000) none h.1 (by omega) (by rw [rgI_len]; decide)
  have ok : rgOk 9000 = true := rfl
  have n1 : ¬ a < 0 := by omega
  have n2 : ¬ b < 0 := by omega
  unfold m__law_gcd b__law_gcd
  simp -implicitDefEqProofs [pyAbs, n1, n2, ok, rng1_eq, w, sseq_r, sbind_r, mbind_r, mret_r, mlift_s, slot_r, bin_r, binO_r, un_r, asB_r, andT_r, orT_r, notT_r, iteM_r, andV_r, orV_r, notV_r, chain_r, mcons_r, tupM_z, lstM_z, ite_r, callM_r, part_r, noPart_r, slc_r, itM_r, zipM_r, enumM_r, lcM_z, sm_nil, sm_cons, sm_map, rngM1_r, rngM2_r, rngM3_r, orF_r, findM_r, sortSet_r, lenSet_r, chkL_r, putSlot_r, mmut_r, mpop_r, snx_r, sbk_r, sct_r, sput_r, sret_r, sretO_r, sif_r, sexc_r, spar_r, spar3_r, saug_r, sset_r, saugS_r, sasg_r, fnM_r, mstuck_r, isiP, tyOf, isaAny, isaT, pyNeg, wipeE, unw, tgName, tgTup, tgs, Function.comp_def, sizeLine_eq, resolve, putMu, lentOf, iterOf, items, asI]
def sizeF (q t f : Int) : Int :=
  (q - (gI 41 q (t - f) - f * ((q - gI 41 q (t - f) + (t + f) - 1) / (t + f)) % gI 41 q (t - f)) + (t + f) - 1) / (t + f)
theorem gI_pos : ∀ (k : Nat) (a b : Int), 0 < a → 0 ≤ b → 0 < gI k a b
  | 0, a, _, h, _ => h
  | k + 1, a, b, h, h2 => by
    unfold gI
    split
    · exact h
    · exact gI_pos k b (a % b) (by omega) (Int.emod_nonneg a (by omega))
structure TfOk (t f : Int) : Prop where
  t2 : 2 ≤ t
  t6 : t ≤ 6
  f1 : 1 ≤ f
  ft : f < t
theorem size_free_t {q t f : Int} (hq : 1 ≤ q ∧ q ≤ 40) (h : TfOk t f) : m_size_free [.int q, .int t, .int f] = .ok (.int (sizeF q t f)) [] := by
  obtain ⟨t2, t6, f1, ft⟩ := h
  have w := common_of_t (a := q) (b := t - f) (by omega)
  have g := gI_pos 41 q (t - f) (by omega) (by omega)
  have d : ∀ x : Int, pyDiv (.int x) (.int (t + f)) = some (.int (x / (t + f))) := fun x => pyDiv_i (by omega)
  have m : ∀ x : Int, pyMulI (.int f) (.int x) = some (.int (f * x)) := fun x => pyMulI_l (by omega)
  have md : ∀ x : Int, pyMod (.int x) (.int (gI 41 q (t - f))) = some (.int (x % gI 41 q (t - f))) := fun x => pyMod_i g
  unfold m_size_free b_size_free sizeF
  simp -implicitDefEqProofs [pyAddA_i, pySub_i, w, d, m, md, sseq_r, sbind_r, mbind_r, mret_r, mlift_s, slot_r, bin_r, binO_r, un_r, asB_r, andT_r, orT_r, notT_r, iteM_r, andV_r, orV_r, notV_r, chain_r, mcons_r, tupM_z, lstM_z, ite_r, callM_r, part_r, noPart_r, slc_r, itM_r, zipM_r, enumM_r, lcM_z, sm_nil, sm_cons, sm_map, rngM1_r, rngM2_r, rngM3_r, orF_r, findM_r, sortSet_r, lenSet_r, chkL_r, putSlot_r, mmut_r, mpop_r, snx_r, sbk_r, sct_r, sput_r, sret_r, sretO_r, sif_r, sexc_r, spar_r, spar3_r, saug_r, sset_r, saugS_r, sasg_r, fnM_r, mstuck_r, isiP, tyOf, isaAny, isaT, pyNeg, wipeE, unw, tgName, tgTup, tgs, Function.comp_def, sizeLine_eq, resolve, putMu, lentOf, iterOf, items, asI]
theorem law_up_t {a b : Int} (h : 0 < b ∧ b < 1073741824) : m__law_up [.int a, .int b] = .ok (.int ((a + b - 1) / b)) [] := by
  have d := pyDiv_i (a := a + b - 1) h
  unfold m__law_up b__law_up
  simp -implicitDefEqProofs [pyAddA_i, pySub_i, d, sseq_r, sbind_r, mbind_r, mret_r, mlift_s, slot_r, bin_r, binO_r, un_r, asB_r, andT_r, orT_r, notT_r, iteM_r, andV_r, orV_r, notV_r, chain_r, mcons_r, tupM_z, lstM_z, ite_r, callM_r, part_r, noPart_r, slc_r, itM_r, zipM_r, enumM_r, lcM_z, sm_nil, sm_cons, sm_map, rngM1_r, rngM2_r, rngM3_r, orF_r, findM_r, sortSet_r, lenSet_r, chkL_r, putSlot_r, mmut_r, mpop_r, snx_r, sbk_r, sct_r, sput_r, sret_r, sretO_r, sif_r, sexc_r, spar_r, spar3_r, saug_r, sset_r, saugS_r, sasg_r, fnM_r, mstuck_r, isiP, tyOf, isaAny, isaT, pyNeg, wipeE, unw, tgName, tgTup, tgs, Function.comp_def, sizeLine_eq, resolve, putMu, lentOf, iterOf, items, asI]
def boundI (n q t f : Int) : Int := n / q * sizeF q t f
theorem sizeF_rng {q t f : Int} (hq : 1 ≤ q ∧ q ≤ 40) (h : TfOk t f) : 0 ≤ sizeF q t f ∧ sizeF q t f ≤ 40 := by
  have key : ∀ q ∈ rgJ 1 41, ∀ t ∈ rgJ 2 7, ∀ f ∈ rgJ 1 t, 0 ≤ sizeF q t f ∧ sizeF q t f ≤ 40 := by decide +kernel
  exact key q (rgJ_mem.mpr (by omega)) t (rgJ_mem.mpr ⟨h.t2, by have := h.t6; omega⟩) f (rgJ_mem.mpr ⟨h.f1, h.ft⟩)
theorem law_bound_t {n q t f : Int} (hq : 1 ≤ q ∧ q ≤ 40) (h : TfOk t f) : m__law_bound [.int n, .int q, .int t, .int f] = .ok (.int (boundI n q t f)) [] := by
  have sz := sizeF_rng hq h
  obtain ⟨t2, t6, f1, ft⟩ := h
  have w := law_gcd_t (a := q) (b := t - f) (by omega) (by omega)
  have g := gI_pos 41 q (t - f) (by omega) (by omega)
  have m : ∀ x : Int, pyMulI (.int f) (.int x) = some (.int (f * x)) := fun x => pyMulI_l (by omega)
  have md : ∀ x : Int, pyMod (.int x) (.int (gI 41 q (t - f))) = some (.int (x % gI 41 q (t - f))) := fun x => pyMod_i g
  have u : ∀ x : Int, m__law_up [.int x, .int (t + f)] = .ok (.int ((x + (t + f) - 1) / (t + f))) [] := fun x => law_up_t (by omega)
  have d := pyDiv_i (a := n) (b := q) (by omega)
  have m2 := pyMulI_r (a := n / q) (b := sizeF q t f) (by omega)
  unfold sizeF at m2
  unfold m__law_bound b__law_bound boundI sizeF
  simp -implicitDefEqProofs [pyAddA_i, pySub_i, w, m, md, u, d, m2, sseq_r, sbind_r, mbind_r, mret_r, mlift_s, slot_r, bin_r, binO_r, un_r, asB_r, andT_r, orT_r, notT_r, iteM_r, andV_r, orV_r, notV_r, chain_r, mcons_r, tupM_z, lstM_z, ite_r, callM_r, part_r, noPart_r, slc_r, itM_r, zipM_r, enumM_r, lcM_z, sm_nil, sm_cons, sm_map, rngM1_r, rngM2_r, rngM3_r, orF_r, findM_r, sortSet_r, lenSet_r, chkL_r, putSlot_r, mmut_r, mpop_r, snx_r, sbk_r, sct_r, sput_r, sret_r, sretO_r, sif_r, sexc_r, spar_r, spar3_r, saug_r, sset_r, saugS_r, sasg_r, fnM_r, mstuck_r, isiP, tyOf, isaAny, isaT, pyNeg, wipeE, unw, tgName, tgTup, tgs, Function.comp_def, sizeLine_eq, resolve, putMu, lentOf, iterOf, items, asI]
theorem size_in_1 (n : Int) (h : 2 ≤ n ∧ n ≤ 40) : m_size_in [.tup [.int n]] = .ok (.int n) [] := by
  have m := pyMulI_r (a := 1) (b := n) (by omega)
  unfold m_size_in b_size_in
  simp -implicitDefEqProofs [sfor, m, sseq_r, sbind_r, mbind_r, mret_r, mlift_s, slot_r, bin_r, binO_r, un_r, asB_r, andT_r, orT_r, notT_r, iteM_r, andV_r, orV_r, notV_r, chain_r, mcons_r, tupM_z, lstM_z, ite_r, callM_r, part_r, noPart_r, slc_r, itM_r, zipM_r, enumM_r, lcM_z, sm_nil, sm_cons, sm_map, rngM1_r, rngM2_r, rngM3_r, orF_r, findM_r, sortSet_r, lenSet_r, chkL_r, putSlot_r, mmut_r, mpop_r, snx_r, sbk_r, sct_r, sput_r, sret_r, sretO_r, sif_r, sexc_r, spar_r, spar3_r, saug_r, sset_r, saugS_r, sasg_r, fnM_r, mstuck_r, isiP, tyOf, isaAny, isaT, pyNeg, wipeE, unw, tgName, tgTup, tgs, Function.comp_def, sizeLine_eq, resolve, putMu, lentOf, iterOf, items, asI]

def mxI : List Int → Int
  | [] => 0
  | n :: ns => ns.foldl max n
theorem maxL_eq {l : List Int} (h : l ≠ []) : maxL l = some (.int (mxI l)) := by
  cases l with
  | nil => exact absurd rfl h
  | cons n ns => rfl
theorem foldl_max : ∀ (ns : List Int) (n : Int), (n ≤ ns.foldl max n ∧ ∀ x ∈ ns, x ≤ ns.foldl max n) ∧ (ns.foldl max n = n ∨ ns.foldl max n ∈ ns)
  | [], n => by simp
  | y :: ns, n => by
    obtain ⟨⟨h1, h2⟩, h3⟩ := foldl_max ns (max n y)
    rw [List.foldl_cons]
    refine ⟨⟨by omega, fun x hx => ?_⟩, ?_⟩
    · rcases List.mem_cons.mp hx with rfl | hx
      · omega
      · exact h2 x hx
    · rcases h3 with h3 | h3
      · rw [h3]
        by_cases hm : n ≤ y
        · exact .inr (by rw [Int.max_eq_right hm]; simp)
        · exact .inl (Int.max_eq_left (by omega))
      · exact .inr (List.mem_cons_of_mem _ h3)
theorem mxI_spec {l : List Int} (h : l ≠ []) : mxI l ∈ l ∧ ∀ x ∈ l, x ≤ mxI l := by
  cases l with
  | nil => exact absurd rfl h
  | cons n ns =>
    obtain ⟨⟨h1, h2⟩, h3⟩ := foldl_max ns n
    refine ⟨?_, fun x hx => ?_⟩
    · show ns.foldl max n ∈ _
      rcases h3 with h3 | h3
      · rw [h3]; simp
      · exact List.mem_cons_of_mem _ h3
    · rcases List.mem_cons.mp hx with rfl | hx
      · exact h1
      · exact h2 x hx

/-! the program's doors for one round -/
def divs (n : Int) : List Int := (rgJ 1 (n + 1)).filter fun q => decide (n % q = 0)
theorem divs_mem {n q : Int} : q ∈ divs n ↔ (1 ≤ q ∧ q ≤ n) ∧ n % q = 0 := by
  unfold divs
  rw [List.mem_filter, rgJ_mem, decide_eq_true_eq]
  constructor <;> rintro ⟨h1, h2⟩ <;> exact ⟨by omega, h2⟩
theorem divs_sm {n : Int} (h : 2 ≤ n ∧ n ≤ 40) : Sm 0 (divs n) := sm_filter (sm_of (by rw [rgJ_len]; omega))
theorem divisors_in_t {n : Int} (h : 2 ≤ n ∧ n ≤ 40) : m_divisors_in [.int n] = .ok (.lst ((divs n).map PV.int)) [] := by
  have L := lc_fil (enc := PV.int) (vs := [1]) (g := tgName 1) (tt := mbind (bin pyEq (bin pyMod (slot 0) (slot 1)) (mret (.int 0))) asB) (te := slot 1) (env := [some (.int n), none]) (fun q => decide (n % q = 0)) PV.int (l := rgJ 1 (n + 1)) (fun q hq => by
    have hq := rgJ_mem.mp hq
    have e := pyMod_i (a := n) (b := q) (by omega)
    exact ⟨_, rfl, by simp -implicitDefEqProofs [e, pyEq_i, sseq_r, sbind_r, mbind_r, mret_r, mlift_s, slot_r, bin_r, binO_r, un_r, asB_r, andT_r, orT_r, notT_r, iteM_r, andV_r, orV_r, notV_r, chain_r, mcons_r, tupM_z, lstM_z, ite_r, callM_r, part_r, noPart_r, slc_r, itM_r, zipM_r, enumM_r, lcM_z, sm_nil, sm_cons, sm_map, rngM1_r, rngM2_r, rngM3_r, orF_r, findM_r, sortSet_r, lenSet_r, chkL_r, putSlot_r, mmut_r, mpop_r, snx_r, sbk_r, sct_r, sput_r, sret_r, sretO_r, sif_r, sexc_r, spar_r, spar3_r, saug_r, sset_r, saugS_r, sasg_r, fnM_r, mstuck_r, isiP, tyOf, isaAny, isaT, pyNeg, wipeE, unw, tgName, tgTup, tgs, Function.comp_def, sizeLine_eq, resolve, putMu, lentOf, iterOf, items, asI], fun _ => by simp -implicitDefEqProofs [sseq_r, sbind_r, mbind_r, mret_r, mlift_s, slot_r, bin_r, binO_r, un_r, asB_r, andT_r, orT_r, notT_r, iteM_r, andV_r, orV_r, notV_r, chain_r, mcons_r, tupM_z, lstM_z, ite_r, callM_r, part_r, noPart_r, slc_r, itM_r, zipM_r, enumM_r, lcM_z, sm_nil, sm_cons, sm_map, rngM1_r, rngM2_r, rngM3_r, orF_r, findM_r, sortSet_r, lenSet_r, chkL_r, putSlot_r, mmut_r, mpop_r, snx_r, sbk_r, sct_r, sput_r, sret_r, sretO_r, sif_r, sexc_r, spar_r, spar3_r, saug_r, sset_r, saugS_r, sasg_r, fnM_r, mstuck_r, isiP, tyOf, isaAny, isaT, pyNeg, wipeE, unw, tgName, tgTup, tgs, Function.comp_def, sizeLine_eq, resolve, putMu, lentOf, iterOf, items, asI], rfl⟩)
  have z := divs_sm h
  unfold divs at z
  have ok1 : rgOk 1 = true := rfl
  have ok2 : rgOk (n + 1) = true := rgOk_s (by omega)
  unfold m_divisors_in b_divisors_in divs
  simp -implicitDefEqProofs [pyAddA_i, ok1, ok2, rng2_eq, L, z, sseq_r, sbind_r, mbind_r, mret_r, mlift_s, slot_r, bin_r, binO_r, un_r, asB_r, andT_r, orT_r, notT_r, iteM_r, andV_r, orV_r, notV_r, chain_r, mcons_r, tupM_z, lstM_z, ite_r, callM_r, part_r, noPart_r, slc_r, itM_r, zipM_r, enumM_r, lcM_z, sm_nil, sm_cons, sm_map, rngM1_r, rngM2_r, rngM3_r, orF_r, findM_r, sortSet_r, lenSet_r, chkL_r, putSlot_r, mmut_r, mpop_r, snx_r, sbk_r, sct_r, sput_r, sret_r, sretO_r, sif_r, sexc_r, spar_r, spar3_r, saug_r, sset_r, saugS_r, sasg_r, fnM_r, mstuck_r, isiP, tyOf, isaAny, isaT, pyNeg, wipeE, unw, tgName, tgTup, tgs, Function.comp_def, sizeLine_eq, resolve, putMu, lentOf, iterOf, items, asI]
theorem law_parts_t {n : Int} (h : 2 ≤ n ∧ n ≤ 40) : m__law_parts [.int n] = .ok (.lst ((divs n).map PV.int)) [] := divisors_in_t h
def rowsB (n t f : Int) : List (Int × Int) := (divs n).map fun q => (q, boundI n q t f)
theorem bound_mul {n q t f : Int} (h : 2 ≤ n ∧ n ≤ 40) (tf : TfOk t f) (hq : q ∈ divs n) : pyMulI (.int (n / q)) (.int (sizeF q t f)) = some (.int (boundI n q t f)) := by
  have hq := (divs_mem.mp hq).1
  have := sizeF_rng (q := q) (by omega) tf
  exact pyMulI_r (by omega)
theorem bounds_in_t {n t f : Int} (h : 2 ≤ n ∧ n ≤ 40) (tf : TfOk t f) : m_bounds_in [.int n, .int t, .int f] = .ok (.lst ((rowsB n t f).map encP)) [] := by
  have L := lc_map (enc := PV.int) (vs := [3]) (g := tgName 3) (te := mbind (mcons (slot 3) (mcons (bin pyMulI (bin pyDiv (slot 0) (slot 3)) (callM m_size_free [none, none, none] (mcons (slot 3) (mcons (slot 1) (mcons (slot 2) (mret [])))))) (mret []))) tupM) (env := [some (.int n), some (.int t), some (.int f), none]) (fun q => encP (q, boundI n q t f)) (l := divs n) (fun q hq => by
    have b := bound_mul h tf hq
    have hq := (divs_mem.mp hq).1
    have d := pyDiv_i (a := n) (b := q) (by omega)
    have s := size_free_t (q := q) (by omega) tf
    exact ⟨_, rfl, by simp -implicitDefEqProofs [d, s, b, encP, sseq_r, sbind_r, mbind_r, mret_r, mlift_s, slot_r, bin_r, binO_r, un_r, asB_r, andT_r, orT_r, notT_r, iteM_r, andV_r, orV_r, notV_r, chain_r, mcons_r, tupM_z, lstM_z, ite_r, callM_r, part_r, noPart_r, slc_r, itM_r, zipM_r, enumM_r, lcM_z, sm_nil, sm_cons, sm_map, rngM1_r, rngM2_r, rngM3_r, orF_r, findM_r, sortSet_r, lenSet_r, chkL_r, putSlot_r, mmut_r, mpop_r, snx_r, sbk_r, sct_r, sput_r, sret_r, sretO_r, sif_r, sexc_r, spar_r, spar3_r, saug_r, sset_r, saugS_r, sasg_r, fnM_r, mstuck_r, isiP, tyOf, isaAny, isaT, pyNeg, wipeE, unw, tgName, tgTup, tgs, Function.comp_def, sizeLine_eq, resolve, putMu, lentOf, iterOf, items, asI], rfl⟩)
  have z := divs_sm h
  have w := divisors_in_t h
  unfold m_bounds_in b_bounds_in rowsB
  simp -implicitDefEqProofs [w, L, z, sseq_r, sbind_r, mbind_r, mret_r, mlift_s, slot_r, bin_r, binO_r, un_r, asB_r, andT_r, orT_r, notT_r, iteM_r, andV_r, orV_r, notV_r, chain_r, mcons_r, tupM_z, lstM_z, ite_r, callM_r, part_r, noPart_r, slc_r, itM_r, zipM_r, enumM_r, lcM_z, sm_nil, sm_cons, sm_map, rngM1_r, rngM2_r, rngM3_r, orF_r, findM_r, sortSet_r, lenSet_r, chkL_r, putSlot_r, mmut_r, mpop_r, snx_r, sbk_r, sct_r, sput_r, sret_r, sretO_r, sif_r, sexc_r, spar_r, spar3_r, saug_r, sset_r, saugS_r, sasg_r, fnM_r, mstuck_r, isiP, tyOf, isaAny, isaT, pyNeg, wipeE, unw, tgName, tgTup, tgs, Function.comp_def, sizeLine_eq, resolve, putMu, lentOf, iterOf, items, asI]
def topB (n t f : Int) : Int := mxI ((divs n).map fun q => boundI n q t f)
/-- the least best parts -/
def bestQ (n t f : Int) : Int := ((divs n).filter fun q => decide (boundI n q t f = topB n t f)).headD 0
theorem divs_ne {n : Int} (h : 2 ≤ n ∧ n ≤ 40) : divs n ≠ [] := List.ne_nil_of_mem (divs_mem.mpr ⟨⟨Int.le_refl 1, by omega⟩, Int.emod_one n⟩)
theorem best_cons {n t f : Int} (h : 2 ≤ n ∧ n ≤ 40) : ∃ r, (divs n).filter (fun q => decide (boundI n q t f = topB n t f)) = bestQ n t f :: r := by
  have ne : (divs n).map (fun q => boundI n q t f) ≠ [] := by simpa using divs_ne h
  obtain ⟨q, hq, e⟩ := List.mem_map.mp (mxI_spec ne).1
  have : (divs n).filter (fun q => decide (boundI n q t f = topB n t f)) ≠ [] := List.ne_nil_of_mem (List.mem_filter.mpr ⟨hq, decide_eq_true e⟩)
  unfold bestQ
  cases hc : (divs n).filter (fun q => decide (boundI n q t f = topB n t f)) with
  | nil => exact absurd hc this
  | cons x r => exact ⟨r, rfl⟩
theorem best_mem {n t f : Int} (h : 2 ≤ n ∧ n ≤ 40) : bestQ n t f ∈ divs n ∧ boundI n (bestQ n t f) t f = topB n t f := by
  obtain ⟨r, e⟩ := best_cons (t := t) (f := f) h
  have : bestQ n t f ∈ (divs n).filter (fun q => decide (boundI n q t f = topB n t f)) := by rw [e]; simp
  have := List.mem_filter.mp this
  exact ⟨this.1, of_decide_eq_true this.2⟩
theorem max_rows {n t f : Int} (h : 2 ≤ n ∧ n ≤ 40) : pyMax (.lst ((rowsB n t f).map fun p => PV.int p.2)) = some (.int (topB n t f)) := by
  have e : (rowsB n t f).map (fun p => PV.int p.2) = (divs n).map fun q => PV.int (boundI n q t f) := by unfold rowsB; rw [List.map_map]; rfl
  rw [e, pyMax_m, maxL_eq (by simpa using divs_ne h)]
  rfl
theorem ix_1 (p : Int × Int) : pyIxF (encP p) (.int 1) = some (.int p.2) := rfl
theorem ix_0 (p : Int × Int) : pyIxF (encP p) (.int 0) = some (.int p.1) := rfl
theorem ix_h (x : PV) (r : List PV) : pyIxF (.lst (x :: r)) (.int 0) = some x := by
  show L2.atI (x :: r) 0 = _
  exact atI_nat (Int.le_refl 0) rfl
theorem rows_sm {n t f : Int} (h : 2 ≤ n ∧ n ≤ 40) : Sm 0 (rowsB n t f) := sm_map.mpr (divs_sm h)
theorem rows_best {n t f : Int} (h : 2 ≤ n ∧ n ≤ 40) : ∃ r, (rowsB n t f).filter (fun p => decide (p.2 = topB n t f)) = (bestQ n t f, topB n t f) :: r := by
  obtain ⟨r, e⟩ := best_cons (t := t) (f := f) h
  unfold rowsB
  rw [List.filter_map]
  have e2 : (divs n).filter ((fun p : Int × Int => decide (p.2 = topB n t f)) ∘ fun q => (q, boundI n q t f)) = bestQ n t f :: r := e
  rw [e2, List.map_cons, (best_mem h).2]
  exact ⟨_, rfl⟩
theorem best_in_t {n t f : Int} (h : 2 ≤ n ∧ n ≤ 40) (tf : TfOk t f) : m_best_in [.int n, .int t, .int f] = .ok (encP (bestQ n t f, topB n t f)) [] := by
  have w := bounds_in_t h tf
  have L1 := lc_map (enc := encP) (vs := [5]) (g := tgName 5) (te := bin pyIxF (slot 5) (mret (.int 1))) (env := [some (.int n), some (.int t), some (.int f), some (.lst ((rowsB n t f).map encP)), none, none]) (fun p => .int p.2) (l := rowsB n t f) (fun p _ => ⟨_, rfl, by simp -implicitDefEqProofs [ix_1, sseq_r, sbind_r, mbind_r, mret_r, mlift_s, slot_r, bin_r, binO_r, un_r, asB_r, andT_r, orT_r, notT_r, iteM_r, andV_r, orV_r, notV_r, chain_r, mcons_r, tupM_z, lstM_z, ite_r, callM_r, part_r, noPart_r, slc_r, itM_r, zipM_r, enumM_r, lcM_z, sm_nil, sm_cons, sm_map, rngM1_r, rngM2_r, rngM3_r, orF_r, findM_r, sortSet_r, lenSet_r, chkL_r, putSlot_r, mmut_r, mpop_r, snx_r, sbk_r, sct_r, sput_r, sret_r, sretO_r, sif_r, sexc_r, spar_r, spar3_r, saug_r, sset_r, saugS_r, sasg_r, fnM_r, mstuck_r, isiP, tyOf, isaAny, isaT, pyNeg, wipeE, unw, tgName, tgTup, tgs, Function.comp_def, sizeLine_eq, resolve, putMu, lentOf, iterOf, items, asI], rfl⟩)
  have L2 := lc_fil (enc := encP) (vs := [5]) (g := tgName 5) (tt := mbind (bin pyEq (bin pyIxF (slot 5) (mret (.int 1))) (slot 4)) asB) (te := slot 5) (env := [some (.int n), some (.int t), some (.int f), some (.lst ((rowsB n t f).map encP)), some (.int (topB n t f)), none]) (fun p => decide (p.2 = topB n t f)) encP (l := rowsB n t f) (fun p _ => ⟨_, rfl, by simp -implicitDefEqProofs [ix_1, pyEq_i, sseq_r, sbind_r, mbind_r, mret_r, mlift_s, slot_r, bin_r, binO_r, un_r, asB_r, andT_r, orT_r, notT_r, iteM_r, andV_r, orV_r, notV_r, chain_r, mcons_r, tupM_z, lstM_z, ite_r, callM_r, part_r, noPart_r, slc_r, itM_r, zipM_r, enumM_r, lcM_z, sm_nil, sm_cons, sm_map, rngM1_r, rngM2_r, rngM3_r, orF_r, findM_r, sortSet_r, lenSet_r, chkL_r, putSlot_r, mmut_r, mpop_r, snx_r, sbk_r, sct_r, sput_r, sret_r, sretO_r, sif_r, sexc_r, spar_r, spar3_r, saug_r, sset_r, saugS_r, sasg_r, fnM_r, mstuck_r, isiP, tyOf, isaAny, isaT, pyNeg, wipeE, unw, tgName, tgTup, tgs, Function.comp_def, sizeLine_eq, resolve, putMu, lentOf, iterOf, items, asI], fun _ => by simp -implicitDefEqProofs [sseq_r, sbind_r, mbind_r, mret_r, mlift_s, slot_r, bin_r, binO_r, un_r, asB_r, andT_r, orT_r, notT_r, iteM_r, andV_r, orV_r, notV_r, chain_r, mcons_r, tupM_z, lstM_z, ite_r, callM_r, part_r, noPart_r, slc_r, itM_r, zipM_r, enumM_r, lcM_z, sm_nil, sm_cons, sm_map, rngM1_r, rngM2_r, rngM3_r, orF_r, findM_r, sortSet_r, lenSet_r, chkL_r, putSlot_r, mmut_r, mpop_r, snx_r, sbk_r, sct_r, sput_r, sret_r, sretO_r, sif_r, sexc_r, spar_r, spar3_r, saug_r, sset_r, saugS_r, sasg_r, fnM_r, mstuck_r, isiP, tyOf, isaAny, isaT, pyNeg, wipeE, unw, tgName, tgTup, tgs, Function.comp_def, sizeLine_eq, resolve, putMu, lentOf, iterOf, items, asI], rfl⟩)
  have z := rows_sm (t := t) (f := f) h
  have z2 : Sm 0 ((rowsB n t f).filter fun p => decide (p.2 = topB n t f)) := sm_filter z
  have mx := max_rows (t := t) (f := f) h
  obtain ⟨r, e⟩ := rows_best (t := t) (f := f) h
  have ix : pyIxF (.lst (((rowsB n t f).filter fun p => decide (p.2 = topB n t f)).map encP)) (.int 0) = some (encP (bestQ n t f, topB n t f)) := by rw [e]; exact ix_h _ _
  unfold m_best_in b_best_in
  simp -implicitDefEqProofs [w, L1, z, mx, L2, z2, ix, sseq_r, sbind_r, mbind_r, mret_r, mlift_s, slot_r, bin_r, binO_r, un_r, asB_r, andT_r, orT_r, notT_r, iteM_r, andV_r, orV_r, notV_r, chain_r, mcons_r, tupM_z, lstM_z, ite_r, callM_r, part_r, noPart_r, slc_r, itM_r, zipM_r, enumM_r, lcM_z, sm_nil, sm_cons, sm_map, rngM1_r, rngM2_r, rngM3_r, orF_r, findM_r, sortSet_r, lenSet_r, chkL_r, putSlot_r, mmut_r, mpop_r, snx_r, sbk_r, sct_r, sput_r, sret_r, sretO_r, sif_r, sexc_r, spar_r, spar3_r, saug_r, sset_r, saugS_r, sasg_r, fnM_r, mstuck_r, isiP, tyOf, isaAny, isaT, pyNeg, wipeE, unw, tgName, tgTup, tgs, Function.comp_def, sizeLine_eq, resolve, putMu, lentOf, iterOf, items, asI]
/-- so many in a row from b on are free -/
def okB (q s t f b : Int) : Bool := decide (f * (s - 1) < (t - f) * b % q) && decide ((t - f) * b % q < q - t * (s - 1))
def begF (q s t f : Int) : Option Int := ((rgI q).filter (okB q s t f)).head?
theorem begin_free_t {q s t f : Int} (hq : 1 ≤ q ∧ q ≤ 40) (hs : 0 ≤ s ∧ s ≤ 40) (tf : TfOk t f) : m_begin_free [.int q, .int s, .int t, .int f] = .ok (match begF q s t f with | some b => .int b | none => .non) [] := by
  obtain ⟨t2, t6, f1, ft⟩ := tf
  have F : ∀ (l : List Int) (x y : Option PV), (∀ b ∈ l, 0 ≤ b ∧ b < 40) → ∃ E, sfor (tgName 4) (sseq (sbind (bin pyMod (bin pyMulI (bin pySub (slot 2) (slot 3)) (slot 4)) (slot 0)) (sput 5)) (sif (mbind (chain pyLt pyLt (bin pyMulI (slot 3) (bin pySub (slot 1) (mret (.int 1)))) (slot 5) (bin pySub (slot 0) (bin pyMulI (slot 2) (bin pySub (slot 1) (mret (.int 1)))))) asB) (sbind (slot 4) sret) snx)) (l.map PV.int) [some (.int q), some (.int s), some (.int t), some (.int f), x, y]
      = (match (l.filter (okB q s t f)).head? with | some b => Fl.rt (.int b) E | none => Fl.nx E) ∧ E.length = 6 := by
    intro l
    induction l with
    | nil => intro x y _; exact ⟨_, rfl, rfl⟩
    | cons b l ih =>
      intro x y hl
      have hb := hl b (by simp)
      have m1 := pyMulI_r (a := t - f) (b := b) (by omega)
      have m2 := pyMulI_r (a := f) (b := s - 1) (by omega)
      have m3 := pyMulI_r (a := t) (b := s - 1) (by omega)
      have md := pyMod_i (a := (t - f) * b) (b := q) (by omega)
      by_cases hk : okB q s t f b = true
      · refine ⟨[some (.int q), some (.int s), some (.int t), some (.int f), some (.int b), some (.int ((t - f) * b % q))], ?_, rfl⟩
        rw [List.filter_cons_of_pos hk]
        unfold okB at hk
        rw [Bool.and_eq_true, decide_eq_true_eq, decide_eq_true_eq] at hk
        unfold sfor
        simp -implicitDefEqProofs [pySub_i, m1, md, m2, m3, pyLt_i, hk.1, hk.2, sseq_r, sbind_r, mbind_r, mret_r, mlift_s, slot_r, bin_r, binO_r, un_r, asB_r, andT_r, orT_r, notT_r, iteM_r, andV_r, orV_r, notV_r, chain_r, mcons_r, tupM_z, lstM_z, ite_r, callM_r, part_r, noPart_r, slc_r, itM_r, zipM_r, enumM_r, lcM_z, sm_nil, sm_cons, sm_map, rngM1_r, rngM2_r, rngM3_r, orF_r, findM_r, sortSet_r, lenSet_r, chkL_r, putSlot_r, mmut_r, mpop_r, snx_r, sbk_r, sct_r, sput_r, sret_r, sretO_r, sif_r, sexc_r, spar_r, spar3_r, saug_r, sset_r, saugS_r, sasg_r, fnM_r, mstuck_r, isiP, tyOf, isaAny, isaT, pyNeg, wipeE, unw, tgName, tgTup, tgs, Function.comp_def, sizeLine_eq, resolve, putMu, lentOf, iterOf, items, asI]
      · obtain ⟨E, w, wl⟩ := ih (some (.int b)) (some (.int ((t - f) * b % q))) (fun c hc => hl c (by simp [hc]))
        refine ⟨E, ?_, wl⟩
        rw [List.filter_cons_of_neg hk, ← w]
        unfold okB at hk
        rw [Bool.and_eq_true, decide_eq_true_eq, decide_eq_true_eq] at hk
        refine sfor_cons (e1 := [some (.int q), some (.int s), some (.int t), some (.int f), some (.int b), y]) rfl ?_
        by_cases h1 : f * (s - 1) < (t - f) * b % q
        · have h2 : ¬ (t - f) * b % q < q - t * (s - 1) := fun h => hk ⟨h1, h⟩
          simp -implicitDefEqProofs [pySub_i, m1, md, m2, m3, pyLt_i, h1, h2, sseq_r, sbind_r, mbind_r, mret_r, mlift_s, slot_r, bin_r, binO_r, un_r, asB_r, andT_r, orT_r, notT_r, iteM_r, andV_r, orV_r, notV_r, chain_r, mcons_r, tupM_z, lstM_z, ite_r, callM_r, part_r, noPart_r, slc_r, itM_r, zipM_r, enumM_r, lcM_z, sm_nil, sm_cons, sm_map, rngM1_r, rngM2_r, rngM3_r, orF_r, findM_r, sortSet_r, lenSet_r, chkL_r, putSlot_r, mmut_r, mpop_r, snx_r, sbk_r, sct_r, sput_r, sret_r, sretO_r, sif_r, sexc_r, spar_r, spar3_r, saug_r, sset_r, saugS_r, sasg_r, fnM_r, mstuck_r, isiP, tyOf, isaAny, isaT, pyNeg, wipeE, unw, tgName, tgTup, tgs, Function.comp_def, sizeLine_eq, resolve, putMu, lentOf, iterOf, items, asI]
        · simp -implicitDefEqProofs [pySub_i, m1, md, m2, m3, pyLt_i, h1, sseq_r, sbind_r, mbind_r, mret_r, mlift_s, slot_r, bin_r, binO_r, un_r, asB_r, andT_r, orT_r, notT_r, iteM_r, andV_r, orV_r, notV_r, chain_r, mcons_r, tupM_z, lstM_z, ite_r, callM_r, part_r, noPart_r, slc_r, itM_r, zipM_r, enumM_r, lcM_z, sm_nil, sm_cons, sm_map, rngM1_r, rngM2_r, rngM3_r, orF_r, findM_r, sortSet_r, lenSet_r, chkL_r, putSlot_r, mmut_r, mpop_r, snx_r, sbk_r, sct_r, sput_r, sret_r, sretO_r, sif_r, sexc_r, spar_r, spar3_r, saug_r, sset_r, saugS_r, sasg_r, fnM_r, mstuck_r, isiP, tyOf, isaAny, isaT, pyNeg, wipeE, unw, tgName, tgTup, tgs, Function.comp_def, sizeLine_eq, resolve, putMu, lentOf, iterOf, items, asI]
  obtain ⟨E, w, wl⟩ := F (rgI q) none none (fun b hb => by have := rgI_mem.mp hb; omega)
  have ok : rgOk q = true := rgOk_s (by omega)
  have ln : ∀ E : Sl, E.length = 6 → lentOf E 0 [false, false, false, false] = some [] := fun E _ => rfl
  unfold m_begin_free b_begin_free
  unfold begF
  revert w
  cases ((rgI q).filter (okB q s t f)).head? with
  | none => intro w; simp -implicitDefEqProofs [ok, rng1_eq, w, sseq_r, sbind_r, mbind_r, mret_r, mlift_s, slot_r, bin_r, binO_r, un_r, asB_r, andT_r, orT_r, notT_r, iteM_r, andV_r, orV_r, notV_r, chain_r, mcons_r, tupM_z, lstM_z, ite_r, callM_r, part_r, noPart_r, slc_r, itM_r, zipM_r, enumM_r, lcM_z, sm_nil, sm_cons, sm_map, rngM1_r, rngM2_r, rngM3_r, orF_r, findM_r, sortSet_r, lenSet_r, chkL_r, putSlot_r, mmut_r, mpop_r, snx_r, sbk_r, sct_r, sput_r, sret_r, sretO_r, sif_r, sexc_r, spar_r, spar3_r, saug_r, sset_r, saugS_r, sasg_r, fnM_r, mstuck_r, isiP, tyOf, isaAny, isaT, pyNeg, wipeE, unw, tgName, tgTup, tgs, Function.comp_def, sizeLine_eq, resolve, putMu, lentOf, iterOf, items, asI]
  | some b => intro w; simp -implicitDefEqProofs [ok, rng1_eq, w, sseq_r, sbind_r, mbind_r, mret_r, mlift_s, slot_r, bin_r, binO_r, un_r, asB_r, andT_r, orT_r, notT_r, iteM_r, andV_r, orV_r, notV_r, chain_r, mcons_r, tupM_z, lstM_z, ite_r, callM_r, part_r, noPart_r, slc_r, itM_r, zipM_r, enumM_r, lcM_z, sm_nil, sm_cons, sm_map, rngM1_r, rngM2_r, rngM3_r, orF_r, findM_r, sortSet_r, lenSet_r, chkL_r, putSlot_r, mmut_r, mpop_r, snx_r, sbk_r, sct_r, sput_r, sret_r, sretO_r, sif_r, sexc_r, spar_r, spar3_r, saug_r, sset_r, saugS_r, sasg_r, fnM_r, mstuck_r, isiP, tyOf, isaAny, isaT, pyNeg, wipeE, unw, tgName, tgTup, tgs, Function.comp_def, sizeLine_eq, resolve, putMu, lentOf, iterOf, items, asI]

/-! heaps of one round, lots -/
theorem sm_one {n : Int} : Sm 0 [n] := by unfold Sm; simp
theorem tupled_g (d : Nat) {l : List Int} (hl : Sm 0 l) {q : PV} (hq : q = .tup (l.map PV.int) ∨ q = .lst (l.map PV.int)) : m_tupled (d + 2) [q] = .ok (.tup (l.map PV.int)) [] := by
  have h1 : ∀ i : Int, m_tupled (d + 1) [.int i] = .ok (.int i) [] := fun i => rfl
  show fnM 2 [false] false (b_tupled (m_tupled (d + 1))) [q] = _
  have L := lc_map (enc := PV.int) (vs := [1]) (g := tgName 1) (te := callM (m_tupled (d + 1)) [none] (mcons (slot 1) (mret []))) (env := [some q, none]) PV.int (l := l) (fun i _ => ⟨_, rfl, by simp -implicitDefEqProofs [h1, sseq_r, sbind_r, mbind_r, mret_r, mlift_s, slot_r, bin_r, binO_r, un_r, asB_r, andT_r, orT_r, notT_r, iteM_r, andV_r, orV_r, notV_r, chain_r, mcons_r, tupM_z, lstM_z, ite_r, callM_r, part_r, noPart_r, slc_r, itM_r, zipM_r, enumM_r, lcM_z, sm_nil, sm_cons, sm_map, rngM1_r, rngM2_r, rngM3_r, orF_r, findM_r, sortSet_r, lenSet_r, chkL_r, putSlot_r, mmut_r, mpop_r, snx_r, sbk_r, sct_r, sput_r, sret_r, sretO_r, sif_r, sexc_r, spar_r, spar3_r, saug_r, sset_r, saugS_r, sasg_r, fnM_r, mstuck_r, isiP, tyOf, isaAny, isaT, pyNeg, wipeE, unw, tgName, tgTup, tgs, Function.comp_def, sizeLine_eq, resolve, putMu, lentOf, iterOf, items, asI], rfl⟩)
  unfold b_tupled
  rcases hq with rfl | rfl
  · simp -implicitDefEqProofs [L, hl, pyTuple, sseq_r, sbind_r, mbind_r, mret_r, mlift_s, slot_r, bin_r, binO_r, un_r, asB_r, andT_r, orT_r, notT_r, iteM_r, andV_r, orV_r, notV_r, chain_r, mcons_r, tupM_z, lstM_z, ite_r, callM_r, part_r, noPart_r, slc_r, itM_r, zipM_r, enumM_r, lcM_z, sm_nil, sm_cons, sm_map, rngM1_r, rngM2_r, rngM3_r, orF_r, findM_r, sortSet_r, lenSet_r, chkL_r, putSlot_r, mmut_r, mpop_r, snx_r, sbk_r, sct_r, sput_r, sret_r, sretO_r, sif_r, sexc_r, spar_r, spar3_r, saug_r, sset_r, saugS_r, sasg_r, fnM_r, mstuck_r, isiP, tyOf, isaAny, isaT, pyNeg, wipeE, unw, tgName, tgTup, tgs, Function.comp_def, sizeLine_eq, resolve, putMu, lentOf, iterOf, items, asI]
  · simp -implicitDefEqProofs [L, hl, pyTuple, sseq_r, sbind_r, mbind_r, mret_r, mlift_s, slot_r, bin_r, binO_r, un_r, asB_r, andT_r, orT_r, notT_r, iteM_r, andV_r, orV_r, notV_r, chain_r, mcons_r, tupM_z, lstM_z, ite_r, callM_r, part_r, noPart_r, slc_r, itM_r, zipM_r, enumM_r, lcM_z, sm_nil, sm_cons, sm_map, rngM1_r, rngM2_r, rngM3_r, orF_r, findM_r, sortSet_r, lenSet_r, chkL_r, putSlot_r, mmut_r, mpop_r, snx_r, sbk_r, sct_r, sput_r, sret_r, sretO_r, sif_r, sexc_r, spar_r, spar3_r, saug_r, sset_r, saugS_r, sasg_r, fnM_r, mstuck_r, isiP, tyOf, isaAny, isaT, pyNeg, wipeE, unw, tgName, tgTup, tgs, Function.comp_def, sizeLine_eq, resolve, putMu, lentOf, iterOf, items, asI]
theorem sure_heap_1 {n : Int} (h : 2 ≤ n ∧ n ≤ 40) {q : PV} (hq : q = .tup [.int n] ∨ q = .lst [.int n]) : m_sure_heap [q] = .ok (.tup [.int n]) [] := by
  have a := tupled_g 10 (l := [n]) sm_one (q := q) (by rcases hq with rfl | rfl <;> simp)
  have b : m_is_heap_in [.tup [.int n]] = .ok (.bl true) [] := by
    have a := are_numbers_i (l := [n]) sm_one
    have a : m_are_numbers [.tup [.int n]] = .ok (.bl true) [] := a
    have s := size_in_1 n h
    have L := lc_map (enc := PV.int) (vs := [1]) (g := tgName 1) (te := bin pyGe (slot 1) (mret (.int 2))) (env := [some (.tup [.int n]), none]) (fun _ => .bl true) (l := [n]) (fun i hi => by
      have : i = n := by simpa using hi
      subst this
      exact ⟨_, rfl, by simp -implicitDefEqProofs [pyGe_i, h.1, sseq_r, sbind_r, mbind_r, mret_r, mlift_s, slot_r, bin_r, binO_r, un_r, asB_r, andT_r, orT_r, notT_r, iteM_r, andV_r, orV_r, notV_r, chain_r, mcons_r, tupM_z, lstM_z, ite_r, callM_r, part_r, noPart_r, slc_r, itM_r, zipM_r, enumM_r, lcM_z, sm_nil, sm_cons, sm_map, rngM1_r, rngM2_r, rngM3_r, orF_r, findM_r, sortSet_r, lenSet_r, chkL_r, putSlot_r, mmut_r, mpop_r, snx_r, sbk_r, sct_r, sput_r, sret_r, sretO_r, sif_r, sexc_r, spar_r, spar3_r, saug_r, sset_r, saugS_r, sasg_r, fnM_r, mstuck_r, isiP, tyOf, isaAny, isaT, pyNeg, wipeE, unw, tgName, tgTup, tgs, Function.comp_def, sizeLine_eq, resolve, putMu, lentOf, iterOf, items, asI], rfl⟩)
    have L : lcL [1] (tgName 1) tYesM (bin pyGe (slot 1) (mret (.int 2))) [PV.int n] [some (.tup [.int n]), none] = .ok [.bl true] [some (.tup [.int n]), none] := L
    have pa : pyAll (.lst [.bl true]) = some (.bl true) := rfl
    unfold m_is_heap_in b_is_heap_in
    simp -implicitDefEqProofs [a, pyLen_t, pyLe_i, L, pa, s, h.2, sseq_r, sbind_r, mbind_r, mret_r, mlift_s, slot_r, bin_r, binO_r, un_r, asB_r, andT_r, orT_r, notT_r, iteM_r, andV_r, orV_r, notV_r, chain_r, mcons_r, tupM_z, lstM_z, ite_r, callM_r, part_r, noPart_r, slc_r, itM_r, zipM_r, enumM_r, lcM_z, sm_nil, sm_cons, sm_map, rngM1_r, rngM2_r, rngM3_r, orF_r, findM_r, sortSet_r, lenSet_r, chkL_r, putSlot_r, mmut_r, mpop_r, snx_r, sbk_r, sct_r, sput_r, sret_r, sretO_r, sif_r, sexc_r, spar_r, spar3_r, saug_r, sset_r, saugS_r, sasg_r, fnM_r, mstuck_r, isiP, tyOf, isaAny, isaT, pyNeg, wipeE, unw, tgName, tgTup, tgs, Function.comp_def, sizeLine_eq, resolve, putMu, lentOf, iterOf, items, asI]
  have a : m_tupled 12 [q] = .ok (.tup [.int n]) [] := a
  unfold m_sure_heap b_sure_heap
  simp -implicitDefEqProofs [a, b, sseq_r, sbind_r, mbind_r, mret_r, mlift_s, slot_r, bin_r, binO_r, un_r, asB_r, andT_r, orT_r, notT_r, iteM_r, andV_r, orV_r, notV_r, chain_r, mcons_r, tupM_z, lstM_z, ite_r, callM_r, part_r, noPart_r, slc_r, itM_r, zipM_r, enumM_r, lcM_z, sm_nil, sm_cons, sm_map, rngM1_r, rngM2_r, rngM3_r, orF_r, findM_r, sortSet_r, lenSet_r, chkL_r, putSlot_r, mmut_r, mpop_r, snx_r, sbk_r, sct_r, sput_r, sret_r, sretO_r, sif_r, sexc_r, spar_r, spar3_r, saug_r, sset_r, saugS_r, sasg_r, fnM_r, mstuck_r, isiP, tyOf, isaAny, isaT, pyNeg, wipeE, unw, tgName, tgTup, tgs, Function.comp_def, sizeLine_eq, resolve, putMu, lentOf, iterOf, items, asI]
theorem sure_times_t {t f : Int} (h : TfOk t f) : m_sure_times [.int t, .int f] = .ok (.tup [.int t, .int f]) [] := by
  have a := sure_within_i (i := t) (a := 2) (b := 6) h.t2 h.t6
  have b := sure_within_i (i := f) (a := 1) (b := t - 1) h.f1 (by have := h.ft; omega)
  unfold m_sure_times b_sure_times
  simp -implicitDefEqProofs [a, b, pySub_i, sseq_r, sbind_r, mbind_r, mret_r, mlift_s, slot_r, bin_r, binO_r, un_r, asB_r, andT_r, orT_r, notT_r, iteM_r, andV_r, orV_r, notV_r, chain_r, mcons_r, tupM_z, lstM_z, ite_r, callM_r, part_r, noPart_r, slc_r, itM_r, zipM_r, enumM_r, lcM_z, sm_nil, sm_cons, sm_map, rngM1_r, rngM2_r, rngM3_r, orF_r, findM_r, sortSet_r, lenSet_r, chkL_r, putSlot_r, mmut_r, mpop_r, snx_r, sbk_r, sct_r, sput_r, sret_r, sretO_r, sif_r, sexc_r, spar_r, spar3_r, saug_r, sset_r, saugS_r, sasg_r, fnM_r, mstuck_r, isiP, tyOf, isaAny, isaT, pyNeg, wipeE, unw, tgName, tgTup, tgs, Function.comp_def, sizeLine_eq, resolve, putMu, lentOf, iterOf, items, asI]
theorem sure_one_round_t {n t f : Int} (h : 2 ≤ n ∧ n ≤ 40) (tf : TfOk t f) {q : PV} (hq : q = .tup [.int n] ∨ q = .lst [.int n]) : m_sure_one_round [q, .int t, .int f] = .ok (.tup [.int n, .int t, .int f]) [] := by
  have a := sure_heap_1 h hq
  have b := sure_times_t tf
  have ix : pyIxF (.tup [.int n]) (.int 0) = some (.int n) := rfl
  unfold m_sure_one_round b_sure_one_round
  simp -implicitDefEqProofs [a, b, pyLen_t, pyGt_i, ix, sseq_r, sbind_r, mbind_r, mret_r, mlift_s, slot_r, bin_r, binO_r, un_r, asB_r, andT_r, orT_r, notT_r, iteM_r, andV_r, orV_r, notV_r, chain_r, mcons_r, tupM_z, lstM_z, ite_r, callM_r, part_r, noPart_r, slc_r, itM_r, zipM_r, enumM_r, lcM_z, sm_nil, sm_cons, sm_map, rngM1_r, rngM2_r, rngM3_r, orF_r, findM_r, sortSet_r, lenSet_r, chkL_r, putSlot_r, mmut_r, mpop_r, snx_r, sbk_r, sct_r, sput_r, sret_r, sretO_r, sif_r, sexc_r, spar_r, spar3_r, saug_r, sset_r, saugS_r, sasg_r, fnM_r, mstuck_r, isiP, tyOf, isaAny, isaT, pyNeg, wipeE, unw, tgName, tgTup, tgs, Function.comp_def, sizeLine_eq, resolve, putMu, lentOf, iterOf, items, asI]
theorem bounds_free_t {n t f : Int} (h : 2 ≤ n ∧ n ≤ 40) (tf : TfOk t f) {q : PV} (hq : q = .tup [.int n] ∨ q = .lst [.int n]) : m_bounds_free [q, .int t, .int f] = .ok (.lst ((rowsB n t f).map encP)) [] := by
  have a := sure_one_round_t h tf hq
  have b := bounds_in_t h tf
  unfold m_bounds_free b_bounds_free
  simp -implicitDefEqProofs [a, b, sseq_r, sbind_r, mbind_r, mret_r, mlift_s, slot_r, bin_r, binO_r, un_r, asB_r, andT_r, orT_r, notT_r, iteM_r, andV_r, orV_r, notV_r, chain_r, mcons_r, tupM_z, lstM_z, ite_r, callM_r, part_r, noPart_r, slc_r, itM_r, zipM_r, enumM_r, lcM_z, sm_nil, sm_cons, sm_map, rngM1_r, rngM2_r, rngM3_r, orF_r, findM_r, sortSet_r, lenSet_r, chkL_r, putSlot_r, mmut_r, mpop_r, snx_r, sbk_r, sct_r, sput_r, sret_r, sretO_r, sif_r, sexc_r, spar_r, spar3_r, saug_r, sset_r, saugS_r, sasg_r, fnM_r, mstuck_r, isiP, tyOf, isaAny, isaT, pyNeg, wipeE, unw, tgName, tgTup, tgs, Function.comp_def, sizeLine_eq, resolve, putMu, lentOf, iterOf, items, asI]
theorem most_free_t {n t f : Int} (h : 2 ≤ n ∧ n ≤ 40) (tf : TfOk t f) {q : PV} (hq : q = .tup [.int n] ∨ q = .lst [.int n]) : m_most_free [q, .int t, .int f] = .ok (.int (topB n t f)) [] := by
  have a := sure_one_round_t h tf hq
  have b := best_in_t h tf
  have ix := ix_1 (bestQ n t f, topB n t f)
  unfold m_most_free b_most_free
  simp -implicitDefEqProofs [a, b, ix, sseq_r, sbind_r, mbind_r, mret_r, mlift_s, slot_r, bin_r, binO_r, un_r, asB_r, andT_r, orT_r, notT_r, iteM_r, andV_r, orV_r, notV_r, chain_r, mcons_r, tupM_z, lstM_z, ite_r, callM_r, part_r, noPart_r, slc_r, itM_r, zipM_r, enumM_r, lcM_z, sm_nil, sm_cons, sm_map, rngM1_r, rngM2_r, rngM3_r, orF_r, findM_r, sortSet_r, lenSet_r, chkL_r, putSlot_r, mmut_r, mpop_r, snx_r, sbk_r, sct_r, sput_r, sret_r, sretO_r, sif_r, sexc_r, spar_r, spar3_r, saug_r, sset_r, saugS_r, sasg_r, fnM_r, mstuck_r, isiP, tyOf, isaAny, isaT, pyNeg, wipeE, unw, tgName, tgTup, tgs, Function.comp_def, sizeLine_eq, resolve, putMu, lentOf, iterOf, items, asI]
/-- the built one -/
def toldF (n q s b : Int) : List Int := (rgI n).filter fun k => decide ((k - b) % q < s)
theorem toldF_sm {n q s b : Int} (h : 2 ≤ n ∧ n ≤ 40) : Sm 0 (toldF n q s b) := sm_filter (sm_of (by rw [rgI_len]; omega))
theorem built_free_0 {n t f : Int} (h : 2 ≤ n ∧ n ≤ 40) (tf : TfOk t f) {q : PV} (hq : q = .tup [.int n] ∨ q = .lst [.int n]) (h0 : topB n t f = 0) : m_built_free [q, .int t, .int f] = .ok (.tup []) [] := by
  have a := sure_one_round_t h tf hq
  have b := best_in_t h tf
  have w : m_built_in_one [.int n, .int t, .int f] = .ok (.tup []) [] := by
    unfold m_built_in_one b_built_in_one
    unfold encP at b
    simp -implicitDefEqProofs [b, pyEq_i, h0, sseq_r, sbind_r, mbind_r, mret_r, mlift_s, slot_r, bin_r, binO_r, un_r, asB_r, andT_r, orT_r, notT_r, iteM_r, andV_r, orV_r, notV_r, chain_r, mcons_r, tupM_z, lstM_z, ite_r, callM_r, part_r, noPart_r, slc_r, itM_r, zipM_r, enumM_r, lcM_z, sm_nil, sm_cons, sm_map, rngM1_r, rngM2_r, rngM3_r, orF_r, findM_r, sortSet_r, lenSet_r, chkL_r, putSlot_r, mmut_r, mpop_r, snx_r, sbk_r, sct_r, sput_r, sret_r, sretO_r, sif_r, sexc_r, spar_r, spar3_r, saug_r, sset_r, saugS_r, sasg_r, fnM_r, mstuck_r, isiP, tyOf, isaAny, isaT, pyNeg, wipeE, unw, tgName, tgTup, tgs, Function.comp_def, sizeLine_eq, resolve, putMu, lentOf, iterOf, items, asI]
  unfold m_built_free b_built_free
  simp -implicitDefEqProofs [a, w, sseq_r, sbind_r, mbind_r, mret_r, mlift_s, slot_r, bin_r, binO_r, un_r, asB_r, andT_r, orT_r, notT_r, iteM_r, andV_r, orV_r, notV_r, chain_r, mcons_r, tupM_z, lstM_z, ite_r, callM_r, part_r, noPart_r, slc_r, itM_r, zipM_r, enumM_r, lcM_z, sm_nil, sm_cons, sm_map, rngM1_r, rngM2_r, rngM3_r, orF_r, findM_r, sortSet_r, lenSet_r, chkL_r, putSlot_r, mmut_r, mpop_r, snx_r, sbk_r, sct_r, sput_r, sret_r, sretO_r, sif_r, sexc_r, spar_r, spar3_r, saug_r, sset_r, saugS_r, sasg_r, fnM_r, mstuck_r, isiP, tyOf, isaAny, isaT, pyNeg, wipeE, unw, tgName, tgTup, tgs, Function.comp_def, sizeLine_eq, resolve, putMu, lentOf, iterOf, items, asI]
theorem built_free_t {n t f b : Int} (h : 2 ≤ n ∧ n ≤ 40) (tf : TfOk t f) {p : PV} (hp : p = .tup [.int n] ∨ p = .lst [.int n]) (h0 : topB n t f ≠ 0) (hb : begF (bestQ n t f) (sizeF (bestQ n t f) t f) t f = some b) : m_built_free [p, .int t, .int f] = .ok (.tup ((toldF n (bestQ n t f) (sizeF (bestQ n t f) t f) b).map PV.int)) [] := by
  have a := sure_one_round_t h tf hp
  have e := best_in_t h tf
  have hq := (divs_mem.mp (best_mem (t := t) (f := f) h).1).1
  generalize bestQ n t f = q at *
  have s1 := size_free_t (q := q) (by omega) tf
  have sr := sizeF_rng (q := q) (by omega) tf
  generalize sizeF q t f = s at *
  have g := begin_free_t (q := q) (s := s) (by omega) sr tf
  rw [hb] at g
  have L := lc_fil (enc := PV.int) (vs := [7]) (g := tgName 7) (tt := mbind (bin pyLt (bin pyMod (bin pySub (slot 7) (slot 4)) (slot 5)) (slot 3)) asB) (te := slot 7) (env := [some (.int n), some (.int t), some (.int f), some (.int s), some (.int b), some (.int q), some (.int (topB n t f)), none]) (fun k => decide ((k - b) % q < s)) PV.int (l := rgI n) (fun k _ => by
    have md := pyMod_i (a := k - b) (b := q) (by omega)
    exact ⟨_, rfl, by simp -implicitDefEqProofs [pySub_i, md, pyLt_i, sseq_r, sbind_r, mbind_r, mret_r, mlift_s, slot_r, bin_r, binO_r, un_r, asB_r, andT_r, orT_r, notT_r, iteM_r, andV_r, orV_r, notV_r, chain_r, mcons_r, tupM_z, lstM_z, ite_r, callM_r, part_r, noPart_r, slc_r, itM_r, zipM_r, enumM_r, lcM_z, sm_nil, sm_cons, sm_map, rngM1_r, rngM2_r, rngM3_r, orF_r, findM_r, sortSet_r, lenSet_r, chkL_r, putSlot_r, mmut_r, mpop_r, snx_r, sbk_r, sct_r, sput_r, sret_r, sretO_r, sif_r, sexc_r, spar_r, spar3_r, saug_r, sset_r, saugS_r, sasg_r, fnM_r, mstuck_r, isiP, tyOf, isaAny, isaT, pyNeg, wipeE, unw, tgName, tgTup, tgs, Function.comp_def, sizeLine_eq, resolve, putMu, lentOf, iterOf, items, asI], fun _ => by simp -implicitDefEqProofs [sseq_r, sbind_r, mbind_r, mret_r, mlift_s, slot_r, bin_r, binO_r, un_r, asB_r, andT_r, orT_r, notT_r, iteM_r, andV_r, orV_r, notV_r, chain_r, mcons_r, tupM_z, lstM_z, ite_r, callM_r, part_r, noPart_r, slc_r, itM_r, zipM_r, enumM_r, lcM_z, sm_nil, sm_cons, sm_map, rngM1_r, rngM2_r, rngM3_r, orF_r, findM_r, sortSet_r, lenSet_r, chkL_r, putSlot_r, mmut_r, mpop_r, snx_r, sbk_r, sct_r, sput_r, sret_r, sretO_r, sif_r, sexc_r, spar_r, spar3_r, saug_r, sset_r, saugS_r, sasg_r, fnM_r, mstuck_r, isiP, tyOf, isaAny, isaT, pyNeg, wipeE, unw, tgName, tgTup, tgs, Function.comp_def, sizeLine_eq, resolve, putMu, lentOf, iterOf, items, asI], rfl⟩)
  have z := toldF_sm (q := q) (s := s) (b := b) h
  unfold toldF at z
  have ok : rgOk n = true := rgOk_s (by omega)
  have w : m_built_in_one [.int n, .int t, .int f] = .ok (.tup ((toldF n q s b).map PV.int)) [] := by
    unfold m_built_in_one b_built_in_one toldF
    unfold encP at e
    simp -implicitDefEqProofs [e, pyEq_i, h0, s1, g, ok, rng1_eq, L, z, pyTuple_l, sseq_r, sbind_r, mbind_r, mret_r, mlift_s, slot_r, bin_r, binO_r, un_r, asB_r, andT_r, orT_r, notT_r, iteM_r, andV_r, orV_r, notV_r, chain_r, mcons_r, tupM_z, lstM_z, ite_r, callM_r, part_r, noPart_r, slc_r, itM_r, zipM_r, enumM_r, lcM_z, sm_nil, sm_cons, sm_map, rngM1_r, rngM2_r, rngM3_r, orF_r, findM_r, sortSet_r, lenSet_r, chkL_r, putSlot_r, mmut_r, mpop_r, snx_r, sbk_r, sct_r, sput_r, sret_r, sretO_r, sif_r, sexc_r, spar_r, spar3_r, saug_r, sset_r, saugS_r, sasg_r, fnM_r, mstuck_r, isiP, tyOf, isaAny, isaT, pyNeg, wipeE, unw, tgName, tgTup, tgs, Function.comp_def, sizeLine_eq, resolve, putMu, lentOf, iterOf, items, asI]
  unfold m_built_free b_built_free
  simp -implicitDefEqProofs [a, w, sseq_r, sbind_r, mbind_r, mret_r, mlift_s, slot_r, bin_r, binO_r, un_r, asB_r, andT_r, orT_r, notT_r, iteM_r, andV_r, orV_r, notV_r, chain_r, mcons_r, tupM_z, lstM_z, ite_r, callM_r, part_r, noPart_r, slc_r, itM_r, zipM_r, enumM_r, lcM_z, sm_nil, sm_cons, sm_map, rngM1_r, rngM2_r, rngM3_r, orF_r, findM_r, sortSet_r, lenSet_r, chkL_r, putSlot_r, mmut_r, mpop_r, snx_r, sbk_r, sct_r, sput_r, sret_r, sretO_r, sif_r, sexc_r, spar_r, spar3_r, saug_r, sset_r, saugS_r, sasg_r, fnM_r, mstuck_r, isiP, tyOf, isaAny, isaT, pyNeg, wipeE, unw, tgName, tgTup, tgs, Function.comp_def, sizeLine_eq, resolve, putMu, lentOf, iterOf, items, asI]

theorem law_flat (rs : List (List PV)) (hz : (rs.map List.length).sum ≤ 10000000) : m__law_flat [.lst (rs.map .lst)] = .ok (.lst rs.flatten) [] := by
  unfold m__law_flat b__law_flat
  obtain ⟨e', g1, r, acc, x, e1, _, rfl, e3⟩ := sfor_inv (g := tgName 2) (b := sbind (mmut extP 1 (slot 2)) fun _ => snx)
    (fun ts env => ∃ (r : List (List PV)) (acc : List PV) (x : Option PV), ts = r.map .lst ∧ acc.length + (r.map List.length).sum ≤ 10000000 ∧ env = [some (.lst (rs.map .lst)), some (.lst acc), x] ∧ acc ++ r.flatten = rs.flatten) (by
    rintro t ts env ⟨r, acc, x, e1, hz, rfl, e3⟩
    cases r with
    | nil => cases e1
    | cons q r =>
      cases e1
      simp only [List.map_cons, List.sum_cons] at hz
      have ex : extP (.lst acc) (.lst q) = some (.lst (acc ++ q), .non) := by
        show (if acc.length + q.length ≤ sizeLine then some (PV.lst (acc ++ q), PV.non) else none) = _
        rw [if_pos (by rw [sizeLine_eq]; omega)]
      refine ⟨_, rfl, [some (.lst (rs.map .lst)), some (.lst (acc ++ q)), some (.lst q)], .inl ?_, r, acc ++ q, _, rfl, by rw [List.length_append]; omega, rfl, by rw [← e3]; simp⟩
      simp [sseq_r, sbind_r, mbind_r, mret_r, mlift_s, slot_r, bin_r, binO_r, un_r, asB_r, andT_r, orT_r, notT_r, iteM_r, andV_r, orV_r, notV_r, chain_r, mcons_r, tupM_r, lstM_r, ite_r, callM_r, part_r, noPart_r, slc_r, itM_r, zipM_r, enumM_r, lcM_r, rngM1_r, rngM2_r, orF_r, findM_r, sortSet_r, lenSet_r, chkL_r, putSlot_r, mmut_r, mpop_r, snx_r, sbk_r, sct_r, sput_r, sret_r, sretO_r, sif_r, sexc_r, spar_r, spar3_r, saug_r, sset_r, saugS_r, sasg_r, fnM_r, mstuck_r, isiP, tyOf, isaAny, isaT, pyNeg, wipeE, unw, tgName, tgTup, tgs, Function.comp_def, -List.map_zipWith, sizeLine_eq, resolve, putMu, lentOf, iterOf, items, asI, isLst, ex])
    (ts := rs.map .lst) (env := [some (.lst (rs.map .lst)), some (.lst []), none]) ⟨rs, [], none, rfl, by simpa using hz, rfl, rfl⟩
  have hr : r = [] := by cases r with | nil => rfl | cons _ _ => cases e1
  subst hr
  simp [sseq_r, sbind_r, mbind_r, mret_r, mlift_s, slot_r, bin_r, binO_r, un_r, asB_r, andT_r, orT_r, notT_r, iteM_r, andV_r, orV_r, notV_r, chain_r, mcons_r, tupM_r, lstM_r, ite_r, callM_r, part_r, noPart_r, slc_r, itM_r, zipM_r, enumM_r, lcM_r, rngM1_r, rngM2_r, orF_r, findM_r, sortSet_r, lenSet_r, chkL_r, putSlot_r, mmut_r, mpop_r, snx_r, sbk_r, sct_r, sput_r, sret_r, sretO_r, sif_r, sexc_r, spar_r, spar3_r, saug_r, sset_r, saugS_r, sasg_r, fnM_r, mstuck_r, isiP, tyOf, isaAny, isaT, pyNeg, wipeE, unw, tgName, tgTup, tgs, Function.comp_def, -List.map_zipWith, sizeLine_eq, resolve, putMu, lentOf, iterOf, items, asI, g1]
  simpa using e3

/-! sums of so many numbers in a row -/
theorem rgI_J (n : Int) : rgI n = rgJ 0 n := by unfold rgI rgJ; simp
theorem asc_len {q : Int} : ∀ (l : List Int) (a : Int), l.Pairwise (· < ·) → (∀ x ∈ l, a ≤ x ∧ x < q) → l.length ≤ (q - a).toNat
  | [], _, _, _ => Nat.zero_le _
  | x :: l, a, h, hr => by
    have h0 := hr x (by simp)
    have ih := asc_len (q := q) l (x + 1) (List.pairwise_cons.mp h).2 fun y hy => by
      have := (List.pairwise_cons.mp h).1 y hy
      have := hr y (by simp [hy])
      omega
    rw [List.length_cons]
    omega
def nxtR (q : Int) (far near : List Int) : List Int := setI (near.flatMap fun a => far.map fun b => (a + b) % q)
def foldR (q : Int) (far : List Int) : Nat → List Int
  | 0 => far
  | k + 1 => nxtR q far (foldR q far k)
structure FarOk (q : Int) (l : List Int) : Prop where
  asc : l.Pairwise (· < ·)
  rng : ∀ x ∈ l, 0 ≤ x ∧ x < q
theorem FarOk.len {q : Int} {l : List Int} (h : FarOk q l) (hq : q ≤ 40) : l.length ≤ 40 := by have := asc_len l 0 h.asc h.rng; omega
theorem foldR_ok {q : Int} {far : List Int} (hq : 1 ≤ q) (h : FarOk q far) : ∀ k, FarOk q (foldR q far k)
  | 0 => h
  | k + 1 => by
    refine ⟨setI_sorted _, fun x hx => ?_⟩
    unfold foldR nxtR at hx
    rw [setI_mem, List.mem_flatMap] at hx
    obtain ⟨a, _, hx⟩ := hx
    obtain ⟨b, _, rfl⟩ := List.mem_map.mp hx
    exact ⟨Int.emod_nonneg _ (by omega), Int.emod_lt_of_pos _ (by omega)⟩
theorem setM_l {l : List Int} (h : l.length ≤ 4000) : setM (.lst (l.map PV.int)) = some (setI l) := by
  have := intsOf_map l
  unfold setM
  simp only [items, Option.bind_some, this]
  rw [if_pos h]
theorem setM_t {l : List Int} (h : l.length ≤ 4000) : setM (.tup (l.map PV.int)) = some (setI l) := by
  have := intsOf_map l
  unfold setM
  simp only [items, Option.bind_some, this]
  rw [if_pos h]
theorem flat_len (q : Int) (far : List Int) : ∀ near : List Int, (near.flatMap fun a => far.map fun b => (a + b) % q).length = near.length * far.length
  | [] => by simp
  | a :: near => by rw [List.flatMap_cons, List.length_append, flat_len q far near, List.length_map, List.length_cons, Nat.succ_mul]; omega
def sumsP (q : Int) (far : List Int) (n : Int) : PV := .lst ((rgJ 0 n).map fun j => .lst ((foldR q far j.toNat).map PV.int))
def rfB : S := (sseq (sbind (sortSet (callM m__law_flat [none] (mcons (lcM [9] (tgName 9) tYesM (lcM [10] (tgName 10) tYesM (bin pyMod (bin pyAddA (slot 9) (slot 10)) (slot 0)) (itM (slot 6))) (itM (slot 7))) (mret [])))) (sput 7))
  (sbind (mmut appP 4 (slot 7)) fun _ => snx))
theorem rf_step {q : Int} {far near : List Int} {row t f x : PV} {ts : List PV} (hq : 1 ≤ q ∧ q ≤ 40) (hf : FarOk q far) (hn : FarOk q near) (hts : ts.length ≤ 1000) :
    rfB [some (.int q), some row, some t, some f, some (.lst ts), some x, some (.lst (far.map PV.int)), some (.lst (near.map PV.int)), none, none, none]
      = .nx [some (.int q), some row, some t, some f, some (.lst (ts ++ [.lst ((nxtR q far near).map PV.int)])), some x, some (.lst (far.map PV.int)), some (.lst ((nxtR q far near).map PV.int)), none, none, none] := by
  have lf := hf.len hq.2
  have ln := hn.len hq.2
  have L10 : ∀ (a : Int), lcL [10] (tgName 10) tYesM (bin pyMod (bin pyAddA (slot 9) (slot 10)) (slot 0)) (far.map PV.int) [some (.int q), some row, some t, some f, some (.lst ts), some x, some (.lst (far.map PV.int)), some (.lst (near.map PV.int)), none, some (.int a), none]
      = .ok (far.map fun b => .int ((a + b) % q)) [some (.int q), some row, some t, some f, some (.lst ts), some x, some (.lst (far.map PV.int)), some (.lst (near.map PV.int)), none, some (.int a), none] := fun a =>
    lc_map (enc := PV.int) (fun b => .int ((a + b) % q)) fun b _ => by
      have md := pyMod_i (a := a + b) (b := q) (by omega)
      exact ⟨_, rfl, by simp -implicitDefEqProofs [pyAddA_i, md, sseq_r, sbind_r, mbind_r, mret_r, mlift_s, slot_r, bin_r, binO_r, un_r, asB_r, andT_r, orT_r, notT_r, iteM_r, andV_r, orV_r, notV_r, chain_r, mcons_r, tupM_z, lstM_z, ite_r, callM_r, part_r, noPart_r, slc_r, itM_r, zipM_r, enumM_r, lcM_z, sm_nil, sm_cons, sm_map, rngM1_r, rngM2_r, rngM3_r, orF_r, findM_r, sortSet_r, lenSet_r, chkL_r, putSlot_r, mmut_r, mpop_r, snx_r, sbk_r, sct_r, sput_r, sret_r, sretO_r, sif_r, sexc_r, spar_r, spar3_r, saug_r, sset_r, saugS_r, sasg_r, fnM_r, mstuck_r, isiP, tyOf, isaAny, isaT, pyNeg, wipeE, unw, tgName, tgTup, tgs, Function.comp_def, sizeLine_eq, resolve, putMu, lentOf, iterOf, items, asI], rfl⟩
  have zf : Sm 0 far := sm_of (by omega)
  have zn : Sm 0 near := sm_of (by omega)
  have L9 := lc_map (enc := PV.int) (vs := [9]) (g := tgName 9) (te := lcM [10] (tgName 10) tYesM (bin pyMod (bin pyAddA (slot 9) (slot 10)) (slot 0)) (itM (slot 6))) (env := [some (.int q), some row, some t, some f, some (.lst ts), some x, some (.lst (far.map PV.int)), some (.lst (near.map PV.int)), none, none, none]) (fun a => .lst (far.map fun b => .int ((a + b) % q))) (l := near) (fun a _ => by
    have l := L10 a
    exact ⟨_, rfl, by simp -implicitDefEqProofs [l, zf, sseq_r, sbind_r, mbind_r, mret_r, mlift_s, slot_r, bin_r, binO_r, un_r, asB_r, andT_r, orT_r, notT_r, iteM_r, andV_r, orV_r, notV_r, chain_r, mcons_r, tupM_z, lstM_z, ite_r, callM_r, part_r, noPart_r, slc_r, itM_r, zipM_r, enumM_r, lcM_z, sm_nil, sm_cons, sm_map, rngM1_r, rngM2_r, rngM3_r, orF_r, findM_r, sortSet_r, lenSet_r, chkL_r, putSlot_r, mmut_r, mpop_r, snx_r, sbk_r, sct_r, sput_r, sret_r, sretO_r, sif_r, sexc_r, spar_r, spar3_r, saug_r, sset_r, saugS_r, sasg_r, fnM_r, mstuck_r, isiP, tyOf, isaAny, isaT, pyNeg, wipeE, unw, tgName, tgTup, tgs, Function.comp_def, sizeLine_eq, resolve, putMu, lentOf, iterOf, items, asI], rfl⟩)
  have fl : m__law_flat [.lst (near.map fun a => .lst (far.map fun b => .int ((a + b) % q)))] = .ok (.lst ((near.flatMap fun a => far.map fun b => (a + b) % q).map PV.int)) [] := by
    have w := law_flat (near.map fun a => far.map fun b => PV.int ((a + b) % q)) (by
      rw [List.map_map]
      have : (List.length ∘ fun a => far.map fun b => PV.int ((a + b) % q)) = fun _ => far.length := by funext a; simp
      rw [this, List.map_const', List.sum_replicate_nat]
      have := Nat.mul_le_mul ln lf
      omega)
    rw [List.map_map] at w
    have e : (near.map fun a => far.map fun b => PV.int ((a + b) % q)).flatten = (near.flatMap fun a => far.map fun b => (a + b) % q).map PV.int := by
      rw [List.map_flatMap, List.flatMap_def]
      simp [Function.comp_def]
    rw [e] at w
    exact w
  have sm := setM_l (l := near.flatMap fun a => far.map fun b => (a + b) % q) (by rw [flat_len]; have := Nat.mul_le_mul ln lf; omega)
  have l64 : (nxtR q far near).length < 64 := by
    have := (foldR_ok (far := near) (by omega) hn 0)
    have : FarOk q (nxtR q far near) := ⟨setI_sorted _, fun x hx => by
      unfold nxtR at hx
      rw [setI_mem, List.mem_flatMap] at hx
      obtain ⟨a, _, hx⟩ := hx
      obtain ⟨b, _, rfl⟩ := List.mem_map.mp hx
      exact ⟨Int.emod_nonneg _ (by omega), Int.emod_lt_of_pos _ (by omega)⟩⟩
    have := this.len hq.2
    omega
  have ap : appP (.lst ts) (.lst ((nxtR q far near).map PV.int)) = some (.lst (ts ++ [.lst ((nxtR q far near).map PV.int)]), .non) := by
    show (if ts.length < sizeLine then _ else none) = _
    rw [if_pos (by rw [sizeLine_eq]; omega)]
  unfold nxtR at l64 ap ⊢
  unfold rfB
  simp -implicitDefEqProofs [L9, zn, fl, sm, l64, isLst, ap, sseq_r, sbind_r, mbind_r, mret_r, mlift_s, slot_r, bin_r, binO_r, un_r, asB_r, andT_r, orT_r, notT_r, iteM_r, andV_r, orV_r, notV_r, chain_r, mcons_r, tupM_z, lstM_z, ite_r, callM_r, part_r, noPart_r, slc_r, itM_r, zipM_r, enumM_r, lcM_z, sm_nil, sm_cons, sm_map, rngM1_r, rngM2_r, rngM3_r, orF_r, findM_r, sortSet_r, lenSet_r, chkL_r, putSlot_r, mmut_r, mpop_r, snx_r, sbk_r, sct_r, sput_r, sret_r, sretO_r, sif_r, sexc_r, spar_r, spar3_r, saug_r, sset_r, saugS_r, sasg_r, fnM_r, mstuck_r, isiP, tyOf, isaAny, isaT, pyNeg, wipeE, unw, tgName, tgTup, tgs, Function.comp_def, sizeLine_eq, resolve, putMu, lentOf, iterOf, items, asI]
theorem ix_sums {q : Int} {far : List Int} {n k : Int} (h : 0 ≤ k ∧ k < n) : pyIxF (sumsP q far n) (.int k) = some (.lst ((foldR q far k.toNat).map PV.int)) := by
  show L2.atI ((rgJ 0 n).map _) k = _
  refine atI_nat h.1 ?_
  rw [List.getElem?_map]
  unfold rgJ
  rw [List.getElem?_map, List.getElem?_range (by omega)]
  have e : (0 + ((k.toNat : Nat) : Int)).toNat = k.toNat := by omega
  simp only [Option.map_some, e]
theorem row_free_t {q t f : Int} {row : List Int} (hq : 1 ≤ q ∧ q ≤ 40) (hz : row.length ≤ 1000) (hr : ∀ x ∈ row, 0 ≤ x ∧ x < q) (tf : TfOk t f) :
    m__law_row_free [.int q, .lst (row.map PV.int), .int t, .int f] = .ok (.bl ((foldR q (setI row) (t - 1).toNat).filter fun k => decide (k ∈ foldR q (setI row) (f - 1).toNat)).isEmpty) [] := by
  have fo : FarOk q (setI row) := ⟨setI_sorted _, fun x hx => hr x ((setI_mem x row).mp hx)⟩
  obtain ⟨t2, t6, f1, ft⟩ := tf
  have sm := setM_l (l := row) (by omega)
  have l64 : (setI row).length < 64 := by have := fo.len hq.2; omega
  have F := sfor_rgJ (g := tgName 5) (b := rfB) (fun (n : Int) (o : Option PV) => [some (.int q), some (.lst (row.map PV.int)), some (.int t), some (.int f), some (sumsP q (setI row) (n + 1)), o, some (.lst ((setI row).map PV.int)), some (.lst ((foldR q (setI row) n.toNat).map PV.int)), none, none, none]) id (a := 0) (m := t - 1) (fun n o h1 h2 => by
    refine ⟨_, rfl, some (.int n), ?_⟩
    have w := rf_step (q := q) (far := setI row) (near := foldR q (setI row) n.toNat) (row := .lst (row.map PV.int)) (t := .int t) (f := .int f) (x := .int n) (ts := (rgJ 0 (n + 1)).map fun j => .lst ((foldR q (setI row) j.toNat).map PV.int)) hq fo (foldR_ok hq.1 fo _) (by rw [List.length_map, rgJ_len]; omega)
    refine w.trans ?_
    have e1 : sumsP q (setI row) (n + 1 + 1) = .lst (((rgJ 0 (n + 1)).map fun j => .lst ((foldR q (setI row) j.toNat).map PV.int)) ++ [.lst ((nxtR q (setI row) (foldR q (setI row) n.toNat)).map PV.int)]) := by
      unfold sumsP
      rw [rgJ_snoc (j := n + 1) (by omega), List.map_append]
      have : (n + 1).toNat = n.toNat + 1 := by omega
      simp only [List.map_cons, List.map_nil, this]
      rfl
    have e2 : foldR q (setI row) (n + 1).toNat = nxtR q (setI row) (foldR q (setI row) n.toNat) := by
      have : (n + 1).toNat = n.toNat + 1 := by omega
      rw [this]
      rfl
    simp only [id]
    rw [e1, e2]) (by omega) none
  obtain ⟨o, F⟩ := F
  have x1 := ix_sums (q := q) (far := setI row) (n := t) (k := f - 1) (by omega)
  have x2 := ix_sums (q := q) (far := setI row) (n := t) (k := t - 1) (by omega)
  have za := (foldR_ok hq.1 fo (t - 1).toNat).len hq.2
  simp only [id] at F
  rw [show t - 1 + 1 = t by omega] at F
  have F : sfor (tgName 5) rfB ((rgJ 0 (t - 1)).map PV.int) [some (.int q), some (.lst (row.map PV.int)), some (.int t), some (.int f), some (.lst [.lst ((setI row).map PV.int)]), none, some (.lst ((setI row).map PV.int)), some (.lst ((setI row).map PV.int)), none, none, none] = _ := F
  generalize foldR q (setI row) (t - 1).toNat = A at *
  generalize foldR q (setI row) (f - 1).toNat = B at *
  generalize sumsP q (setI row) t = S at *
  have L := lc_fil (enc := PV.int) (vs := [8]) (g := tgName 8) (tt := mbind (bin pyIn (slot 8) (binO pyIxF 4 (bin pySub (slot 3) (mret (.int 1))))) asB) (te := slot 8) (env := [some (.int q), some (.lst (row.map PV.int)), some (.int t), some (.int f), some S, o, some (.lst ((setI row).map PV.int)), some (.lst (A.map PV.int)), none, none, none]) (fun k => decide (k ∈ B)) PV.int (l := A) (fun k _ => ⟨_, rfl, by simp -implicitDefEqProofs [pySub_i, x1, pyIn_l, sseq_r, sbind_r, mbind_r, mret_r, mlift_s, slot_r, bin_r, binO_r, un_r, asB_r, andT_r, orT_r, notT_r, iteM_r, andV_r, orV_r, notV_r, chain_r, mcons_r, tupM_z, lstM_z, ite_r, callM_r, part_r, noPart_r, slc_r, itM_r, zipM_r, enumM_r, lcM_z, sm_nil, sm_cons, sm_map, rngM1_r, rngM2_r, rngM3_r, orF_r, findM_r, sortSet_r, lenSet_r, chkL_r, putSlot_r, mmut_r, mpop_r, snx_r, sbk_r, sct_r, sput_r, sret_r, sretO_r, sif_r, sexc_r, spar_r, spar3_r, saug_r, sset_r, saugS_r, sasg_r, fnM_r, mstuck_r, isiP, tyOf, isaAny, isaT, pyNeg, wipeE, unw, tgName, tgTup, tgs, Function.comp_def, sizeLine_eq, resolve, putMu, lentOf, iterOf, items, asI], fun _ => by simp -implicitDefEqProofs [sseq_r, sbind_r, mbind_r, mret_r, mlift_s, slot_r, bin_r, binO_r, un_r, asB_r, andT_r, orT_r, notT_r, iteM_r, andV_r, orV_r, notV_r, chain_r, mcons_r, tupM_z, lstM_z, ite_r, callM_r, part_r, noPart_r, slc_r, itM_r, zipM_r, enumM_r, lcM_z, sm_nil, sm_cons, sm_map, rngM1_r, rngM2_r, rngM3_r, orF_r, findM_r, sortSet_r, lenSet_r, chkL_r, putSlot_r, mmut_r, mpop_r, snx_r, sbk_r, sct_r, sput_r, sret_r, sretO_r, sif_r, sexc_r, spar_r, spar3_r, saug_r, sset_r, saugS_r, sasg_r, fnM_r, mstuck_r, isiP, tyOf, isaAny, isaT, pyNeg, wipeE, unw, tgName, tgTup, tgs, Function.comp_def, sizeLine_eq, resolve, putMu, lentOf, iterOf, items, asI], rfl⟩)
  have z : Sm 0 (A.filter fun k => decide (k ∈ B)) := sm_filter (sm_of (by omega))
  have pe := pyEq_li0 (A.filter fun k => decide (k ∈ B))
  have ok : rgOk (t - 1) = true := rgOk_s (by omega)
  unfold rfB at F
  unfold m__law_row_free b__law_row_free
  simp -implicitDefEqProofs [sm, l64, pySub_i, ok, rng1_eq, rgI_J, F, x2, L, z, pe, sseq_r, sbind_r, mbind_r, mret_r, mlift_s, slot_r, bin_r, binO_r, un_r, asB_r, andT_r, orT_r, notT_r, iteM_r, andV_r, orV_r, notV_r, chain_r, mcons_r, tupM_z, lstM_z, ite_r, callM_r, part_r, noPart_r, slc_r, itM_r, zipM_r, enumM_r, lcM_z, sm_nil, sm_cons, sm_map, rngM1_r, rngM2_r, rngM3_r, orF_r, findM_r, sortSet_r, lenSet_r, chkL_r, putSlot_r, mmut_r, mpop_r, snx_r, sbk_r, sct_r, sput_r, sret_r, sretO_r, sif_r, sexc_r, spar_r, spar3_r, saug_r, sset_r, saugS_r, sasg_r, fnM_r, mstuck_r, isiP, tyOf, isaAny, isaT, pyNeg, wipeE, unw, tgName, tgTup, tgs, Function.comp_def, sizeLine_eq, resolve, putMu, lentOf, iterOf, items, asI]

/-! free exactly if the gap lies between -/
theorem foldR_mem {q : Int} {far : List Int} : ∀ (k : Nat) (x : Int), x ∈ foldR q far (k + 1) ↔ ∃ a ∈ foldR q far k, ∃ b ∈ far, x = (a + b) % q := fun k x => by
  show x ∈ nxtR q far (foldR q far k) ↔ _
  unfold nxtR
  rw [setI_mem, List.mem_flatMap]
  constructor
  · rintro ⟨a, ha, h⟩
    obtain ⟨b, hb, rfl⟩ := List.mem_map.mp h
    exact ⟨a, ha, b, hb, rfl⟩
  · rintro ⟨a, ha, b, hb, rfl⟩
    exact ⟨a, ha, List.mem_map.mpr ⟨b, hb, rfl⟩⟩
/-- so many in a row from b on -/
def rowI (q s b : Int) : List Int := (rgI s).map fun k => (b + k) % q
theorem rowI_mem {q s b x : Int} : x ∈ rowI q s b ↔ ∃ k, (0 ≤ k ∧ k < s) ∧ x = (b + k) % q := by
  unfold rowI
  rw [List.mem_map]
  constructor
  · rintro ⟨k, hk, rfl⟩; exact ⟨k, rgI_mem.mp hk, rfl⟩
  · rintro ⟨k, hk, rfl⟩; exact ⟨k, rgI_mem.mpr hk, rfl⟩
theorem add_mods (a b q : Int) : (a % q + b % q) % q = (a + b) % q := (Int.add_emod a b q).symm
theorem fold_row {q s b : Int} (hs : 1 ≤ s) : ∀ (k : Nat) (x : Int), x ∈ foldR q (setI (rowI q s b)) k ↔ ∃ y, (0 ≤ y ∧ y ≤ ((k : Int) + 1) * (s - 1)) ∧ x = (((k : Int) + 1) * b + y) % q
  | 0, x => by
    show x ∈ setI (rowI q s b) ↔ _
    rw [setI_mem, rowI_mem]
    constructor
    · rintro ⟨k, hk, rfl⟩
      exact ⟨k, by simp; omega, by simp⟩
    · rintro ⟨y, hy, rfl⟩
      refine ⟨y, by simp at hy; omega, by simp⟩
  | k + 1, x => by
    rw [foldR_mem]
    have e1 : ((((k + 1 : Nat) : Int)) + 1) * (s - 1) = ((k : Int) + 1) * (s - 1) + (s - 1) := by
      rw [Int.natCast_add, Int.add_mul ((k : Int) + ((1 : Nat) : Int))]
      simp
    have e2 : ((((k + 1 : Nat) : Int)) + 1) * b = ((k : Int) + 1) * b + b := by
      rw [Int.natCast_add, Int.add_mul ((k : Int) + ((1 : Nat) : Int))]
      simp
    have p1 : 0 ≤ ((k : Int) + 1) * (s - 1) := Int.mul_nonneg (by omega) (by omega)
    rw [e1, e2]
    constructor
    · rintro ⟨a, ha, c, hc, rfl⟩
      obtain ⟨y, hy, rfl⟩ := (fold_row hs k a).mp ha
      rw [setI_mem, rowI_mem] at hc
      obtain ⟨j, hj, rfl⟩ := hc
      exact ⟨y + j, by omega, by rw [add_mods]; congr 1; omega⟩
    · rintro ⟨y, hy, rfl⟩
      by_cases h : y ≤ ((k : Int) + 1) * (s - 1)
      · refine ⟨_, (fold_row hs k _).mpr ⟨y, by omega, rfl⟩, b % q, ?_, by rw [add_mods]; congr 1; omega⟩
        rw [setI_mem, rowI_mem]
        exact ⟨0, by omega, by rw [Int.add_zero]⟩
      · refine ⟨_, (fold_row hs k _).mpr ⟨((k : Int) + 1) * (s - 1), by omega, rfl⟩, (b + (y - ((k : Int) + 1) * (s - 1))) % q, ?_, by rw [add_mods]; congr 1; omega⟩
        rw [setI_mem, rowI_mem]
        exact ⟨y - ((k : Int) + 1) * (s - 1), by omega, rfl⟩
theorem okB_iff {q s t f b : Int} (hq : 1 ≤ q) (hs : 1 ≤ s) (ht : 0 ≤ t) (hf : 0 ≤ f) : okB q s t f b = true ↔ ¬ ∃ y z : Int, (0 ≤ y ∧ y ≤ t * (s - 1)) ∧ (0 ≤ z ∧ z ≤ f * (s - 1)) ∧ (t * b + y) % q = (f * b + z) % q := by
  have g0 := Int.emod_nonneg ((t - f) * b) (show q ≠ 0 by omega)
  have g1 := Int.emod_lt_of_pos ((t - f) * b) (show 0 < q by omega)
  have g2 := Int.emod_add_mul_ediv ((t - f) * b) q
  have e : (t - f) * b = t * b - f * b := Int.sub_mul t f b
  have p1 : 0 ≤ t * (s - 1) := Int.mul_nonneg ht (by omega)
  have p2 : 0 ≤ f * (s - 1) := Int.mul_nonneg hf (by omega)
  unfold okB
  rw [Bool.and_eq_true, decide_eq_true_eq, decide_eq_true_eq]
  generalize (t - f) * b % q = g at *
  generalize (t - f) * b / q = c at *
  constructor
  · rintro ⟨h1, h2⟩ ⟨y, z, hy, hz, h⟩
    have h3 := Int.emod_emod_of_dvd (t * b + y) (Int.dvd_refl q)
    have h4 : (t * b + y - (f * b + z)) % q = 0 := Int.emod_eq_emod_iff_emod_sub_eq_zero.mp h
    have h5 : t * b + y - (f * b + z) = (g + y - z) + q * c := by omega
    rw [h5, Int.add_mul_emod_self_left, Int.emod_eq_of_lt (by omega) (by omega)] at h4
    omega
  · intro h
    by_cases h1 : f * (s - 1) < g
    · refine ⟨h1, ?_⟩
      by_cases h2 : g < q - t * (s - 1)
      · exact h2
      · exfalso
        refine h ⟨q - g, 0, by omega, by omega, ?_⟩
        refine Int.emod_eq_emod_iff_emod_sub_eq_zero.mpr ?_
        have h5 : t * b + (q - g) - (f * b + 0) = q * (1 + c) := by rw [Int.mul_add]; omega
        rw [h5]
        exact Int.mul_emod_right q _
    · exfalso
      refine h ⟨0, g, by omega, by omega, ?_⟩
      refine Int.emod_eq_emod_iff_emod_sub_eq_zero.mpr ?_
      have h5 : t * b + 0 - (f * b + g) = q * c := by omega
      rw [h5]
      exact Int.mul_emod_right q _
theorem row_free_ok {q s t f b : Int} (hq : 1 ≤ q ∧ q ≤ 40) (hs : 1 ≤ s ∧ s ≤ 41) (tf : TfOk t f) :
    m__law_row_free [.int q, .lst ((rowI q s b).map PV.int), .int t, .int f] = .ok (.bl (okB q s t f b)) [] := by
  have w := row_free_t (q := q) (row := rowI q s b) hq (by unfold rowI; rw [List.length_map, rgI_len]; omega) (fun x hx => by
    obtain ⟨k, _, rfl⟩ := rowI_mem.mp hx
    exact ⟨Int.emod_nonneg _ (by omega), Int.emod_lt_of_pos _ (by omega)⟩) tf
  rw [w]
  have : ((foldR q (setI (rowI q s b)) (t - 1).toNat).filter fun k => decide (k ∈ foldR q (setI (rowI q s b)) (f - 1).toNat)).isEmpty = okB q s t f b := by
    rw [Bool.eq_iff_iff, okB_iff hq.1 hs.1 (by have := tf.t2; omega) (by have := tf.f1; omega), List.isEmpty_iff, List.filter_eq_nil_iff]
    have e1 : (((t - 1).toNat : Nat) : Int) + 1 = t := by have := tf.t2; omega
    have e2 : (((f - 1).toNat : Nat) : Int) + 1 = f := by have := tf.f1; omega
    constructor
    · rintro h ⟨y, z, hy, hz, e⟩
      refine h ((t * b + y) % q) ((fold_row hs.1 _ _).mpr ⟨y, by rw [e1]; exact hy, by rw [e1]⟩) (decide_eq_true ((fold_row hs.1 _ _).mpr ⟨z, by rw [e2]; exact hz, by rw [e2]; exact e⟩))
    · intro h x hx hx2
      obtain ⟨y, hy, e3⟩ := (fold_row hs.1 _ _).mp hx
      obtain ⟨z, hz, e4⟩ := (fold_row hs.1 _ _).mp (of_decide_eq_true hx2)
      rw [e1] at hy e3
      rw [e2] at hz e4
      exact h ⟨y, z, hy, hz, by rw [← e3, ← e4]⟩
  rw [this]

/-! sums of lots of one round -/
theorem rests_1 {n a : Int} (h : 2 ≤ n ∧ n ≤ 40) : m_rests_in [.tup [.int n], .int a] = .ok (.tup [.int (a % n)]) [] := by
  have md := pyMod_i (a := a) (b := n) (by omega)
  have dv := pyDiv_i (a := a) (b := n) (by omega)
  have ad : pyAddA (.tup [.int (a % n)]) (.tup []) = some (.tup [.int (a % n)]) := pyAddA_t (by simp)
  have rv : pyRev (.tup [.int n]) = some (.tup [.int n]) := rfl
  unfold m_rests_in b_rests_in
  simp -implicitDefEqProofs [rv, sfor, md, dv, ad, sseq_r, sbind_r, mbind_r, mret_r, mlift_s, slot_r, bin_r, binO_r, un_r, asB_r, andT_r, orT_r, notT_r, iteM_r, andV_r, orV_r, notV_r, chain_r, mcons_r, tupM_z, lstM_z, ite_r, callM_r, part_r, noPart_r, slc_r, itM_r, zipM_r, enumM_r, lcM_z, sm_nil, sm_cons, sm_map, rngM1_r, rngM2_r, rngM3_r, orF_r, findM_r, sortSet_r, lenSet_r, chkL_r, putSlot_r, mmut_r, mpop_r, snx_r, sbk_r, sct_r, sput_r, sret_r, sretO_r, sif_r, sexc_r, spar_r, spar3_r, saug_r, sset_r, saugS_r, sasg_r, fnM_r, mstuck_r, isiP, tyOf, isaAny, isaT, pyNeg, wipeE, unw, tgName, tgTup, tgs, Function.comp_def, sizeLine_eq, resolve, putMu, lentOf, iterOf, items, asI]
theorem member_1 {n a : Int} (h : 2 ≤ n ∧ n ≤ 40) : m_member_in [.tup [.int n], .lst [.int a]] = .ok (.int (a % n)) [] := by
  have md := pyMod_i (a := a) (b := n) (by omega)
  have m := pyMulI_r (a := 0) (b := n) (by omega)
  have z : zipL [.int n] [.int a] = [.tup [.int n, .int a]] := rfl
  unfold m_member_in b_member_in
  simp -implicitDefEqProofs [z, sfor, md, m, pyAddA_i, sseq_r, sbind_r, mbind_r, mret_r, mlift_s, slot_r, bin_r, binO_r, un_r, asB_r, andT_r, orT_r, notT_r, iteM_r, andV_r, orV_r, notV_r, chain_r, mcons_r, tupM_z, lstM_z, ite_r, callM_r, part_r, noPart_r, slc_r, itM_r, zipM_r, enumM_r, lcM_z, sm_nil, sm_cons, sm_map, rngM1_r, rngM2_r, rngM3_r, orF_r, findM_r, sortSet_r, lenSet_r, chkL_r, putSlot_r, mmut_r, mpop_r, snx_r, sbk_r, sct_r, sput_r, sret_r, sretO_r, sif_r, sexc_r, spar_r, spar3_r, saug_r, sset_r, saugS_r, sasg_r, fnM_r, mstuck_r, isiP, tyOf, isaAny, isaT, pyNeg, wipeE, unw, tgName, tgTup, tgs, Function.comp_def, sizeLine_eq, resolve, putMu, lentOf, iterOf, items, asI]
theorem added_1 {n a b : Int} (h : 2 ≤ n ∧ n ≤ 40) : m_added_in [.tup [.int n], .int a, .int b] = .ok (.int ((a + b) % n)) [] := by
  have r1 := rests_1 (a := a) h
  have r2 := rests_1 (a := b) h
  have m := member_1 (n := n) (a := a % n + b % n) h
  rw [add_mods] at m
  have z : zipL [PV.int (a % n)] [.int (b % n)] = [(a % n, b % n)].map encP := rfl
  have L := lc_map (enc := encP) (vs := [3, 4]) (g := tgTup [3, 4]) (te := bin pyAddA (slot 3) (slot 4)) (env := [some (.tup [.int n]), some (.int a), some (.int b), none, none]) (fun p => .int (p.1 + p.2)) (l := [(a % n, b % n)]) (fun p _ => ⟨_, rfl, by simp -implicitDefEqProofs [pyAddA_i, sseq_r, sbind_r, mbind_r, mret_r, mlift_s, slot_r, bin_r, binO_r, un_r, asB_r, andT_r, orT_r, notT_r, iteM_r, andV_r, orV_r, notV_r, chain_r, mcons_r, tupM_z, lstM_z, ite_r, callM_r, part_r, noPart_r, slc_r, itM_r, zipM_r, enumM_r, lcM_z, sm_nil, sm_cons, sm_map, rngM1_r, rngM2_r, rngM3_r, orF_r, findM_r, sortSet_r, lenSet_r, chkL_r, putSlot_r, mmut_r, mpop_r, snx_r, sbk_r, sct_r, sput_r, sret_r, sretO_r, sif_r, sexc_r, spar_r, spar3_r, saug_r, sset_r, saugS_r, sasg_r, fnM_r, mstuck_r, isiP, tyOf, isaAny, isaT, pyNeg, wipeE, unw, tgName, tgTup, tgs, Function.comp_def, sizeLine_eq, resolve, putMu, lentOf, iterOf, items, asI], rfl⟩)
  have L : lcL [3, 4] (tgTup [3, 4]) tYesM (bin pyAddA (slot 3) (slot 4)) ([(a % n, b % n)].map encP) [some (.tup [.int n]), some (.int a), some (.int b), none, none] = .ok [.int (a % n + b % n)] [some (.tup [.int n]), some (.int a), some (.int b), none, none] := L
  rw [← z] at L
  have z2 : zipL [PV.int (a % n)] [.int (b % n)] = [.tup [.int (a % n), .int (b % n)]] := rfl
  rw [z2] at L
  unfold m_added_in b_added_in
  simp -implicitDefEqProofs [r1, r2, z2, L, m, sseq_r, sbind_r, mbind_r, mret_r, mlift_s, slot_r, bin_r, binO_r, un_r, asB_r, andT_r, orT_r, notT_r, iteM_r, andV_r, orV_r, notV_r, chain_r, mcons_r, tupM_z, lstM_z, ite_r, callM_r, part_r, noPart_r, slc_r, itM_r, zipM_r, enumM_r, lcM_z, sm_nil, sm_cons, sm_map, rngM1_r, rngM2_r, rngM3_r, orF_r, findM_r, sortSet_r, lenSet_r, chkL_r, putSlot_r, mmut_r, mpop_r, snx_r, sbk_r, sct_r, sput_r, sret_r, sretO_r, sif_r, sexc_r, spar_r, spar3_r, saug_r, sset_r, saugS_r, sasg_r, fnM_r, mstuck_r, isiP, tyOf, isaAny, isaT, pyNeg, wipeE, unw, tgName, tgTup, tgs, Function.comp_def, sizeLine_eq, resolve, putMu, lentOf, iterOf, items, asI]
def tabN (n : Int) : PV := .lst ((rgI n).map fun a => .lst ((rgI n).map fun b => .int ((a + b) % n)))
theorem sums_table_1 {n : Int} (h : 2 ≤ n ∧ n ≤ 40) : m_sums_table [.tup [.int n]] = .ok (tabN n) [] := by
  have s := size_in_1 n h
  have ok : rgOk n = true := rgOk_s (by omega)
  have z : Sm 0 (rgI n) := sm_of (by rw [rgI_len]; omega)
  have L2 : ∀ a : Int, lcL [2] (tgName 2) tYesM (callM m_added_in [none, none, none] (mcons (slot 0) (mcons (slot 1) (mcons (slot 2) (mret []))))) ((rgI n).map PV.int) [some (.tup [.int n]), some (.int a), none] = .ok ((rgI n).map fun b => .int ((a + b) % n)) [some (.tup [.int n]), some (.int a), none] := fun a =>
    lc_map (enc := PV.int) (fun b => .int ((a + b) % n)) fun b _ => by
      have w := added_1 (a := a) (b := b) h
      exact ⟨_, rfl, by simp -implicitDefEqProofs [w, sseq_r, sbind_r, mbind_r, mret_r, mlift_s, slot_r, bin_r, binO_r, un_r, asB_r, andT_r, orT_r, notT_r, iteM_r, andV_r, orV_r, notV_r, chain_r, mcons_r, tupM_z, lstM_z, ite_r, callM_r, part_r, noPart_r, slc_r, itM_r, zipM_r, enumM_r, lcM_z, sm_nil, sm_cons, sm_map, rngM1_r, rngM2_r, rngM3_r, orF_r, findM_r, sortSet_r, lenSet_r, chkL_r, putSlot_r, mmut_r, mpop_r, snx_r, sbk_r, sct_r, sput_r, sret_r, sretO_r, sif_r, sexc_r, spar_r, spar3_r, saug_r, sset_r, saugS_r, sasg_r, fnM_r, mstuck_r, isiP, tyOf, isaAny, isaT, pyNeg, wipeE, unw, tgName, tgTup, tgs, Function.comp_def, sizeLine_eq, resolve, putMu, lentOf, iterOf, items, asI], rfl⟩
  have L1 := lc_map (enc := PV.int) (vs := [1]) (g := tgName 1) (te := lcM [2] (tgName 2) tYesM (callM m_added_in [none, none, none] (mcons (slot 0) (mcons (slot 1) (mcons (slot 2) (mret []))))) (rngM1 (callM m_size_in [none] (mcons (slot 0) (mret []))))) (env := [some (.tup [.int n]), none, none]) (fun a => .lst ((rgI n).map fun b => .int ((a + b) % n))) (l := rgI n) (fun a _ => by
    have l := L2 a
    exact ⟨_, rfl, by simp -implicitDefEqProofs [s, ok, rng1_eq, l, z, sseq_r, sbind_r, mbind_r, mret_r, mlift_s, slot_r, bin_r, binO_r, un_r, asB_r, andT_r, orT_r, notT_r, iteM_r, andV_r, orV_r, notV_r, chain_r, mcons_r, tupM_z, lstM_z, ite_r, callM_r, part_r, noPart_r, slc_r, itM_r, zipM_r, enumM_r, lcM_z, sm_nil, sm_cons, sm_map, rngM1_r, rngM2_r, rngM3_r, orF_r, findM_r, sortSet_r, lenSet_r, chkL_r, putSlot_r, mmut_r, mpop_r, snx_r, sbk_r, sct_r, sput_r, sret_r, sretO_r, sif_r, sexc_r, spar_r, spar3_r, saug_r, sset_r, saugS_r, sasg_r, fnM_r, mstuck_r, isiP, tyOf, isaAny, isaT, pyNeg, wipeE, unw, tgName, tgTup, tgs, Function.comp_def, sizeLine_eq, resolve, putMu, lentOf, iterOf, items, asI], rfl⟩)
  unfold m_sums_table b_sums_table tabN
  simp -implicitDefEqProofs [s, ok, rng1_eq, L1, z, sseq_r, sbind_r, mbind_r, mret_r, mlift_s, slot_r, bin_r, binO_r, un_r, asB_r, andT_r, orT_r, notT_r, iteM_r, andV_r, orV_r, notV_r, chain_r, mcons_r, tupM_z, lstM_z, ite_r, callM_r, part_r, noPart_r, slc_r, itM_r, zipM_r, enumM_r, lcM_z, sm_nil, sm_cons, sm_map, rngM1_r, rngM2_r, rngM3_r, orF_r, findM_r, sortSet_r, lenSet_r, chkL_r, putSlot_r, mmut_r, mpop_r, snx_r, sbk_r, sct_r, sput_r, sret_r, sretO_r, sif_r, sexc_r, spar_r, spar3_r, saug_r, sset_r, saugS_r, sasg_r, fnM_r, mstuck_r, isiP, tyOf, isaAny, isaT, pyNeg, wipeE, unw, tgName, tgTup, tgs, Function.comp_def, sizeLine_eq, resolve, putMu, lentOf, iterOf, items, asI]
theorem rg_at {α : Type} (f : Int → α) {n a : Int} (h : 0 ≤ a ∧ a < n) : L2.atI ((rgI n).map f) a = some (f a) := by
  refine atI_nat h.1 ?_
  rw [List.getElem?_map]
  unfold rgI
  rw [List.getElem?_map, List.getElem?_range (by omega)]
  have e : ((a.toNat : Nat) : Int) = a := by omega
  simp only [Option.map_some, e]
theorem tab_a {n a : Int} (h : 0 ≤ a ∧ a < n) : pyIxF (tabN n) (.int a) = some (.lst ((rgI n).map fun b => .int ((a + b) % n))) := rg_at (fun a => PV.lst ((rgI n).map fun b => .int ((a + b) % n))) h
theorem tab_b {n a b : Int} (h : 0 ≤ b ∧ b < n) : pyIxF (.lst ((rgI n).map fun b => PV.int ((a + b) % n))) (.int b) = some (.int ((a + b) % n)) := rg_at (fun b => PV.int ((a + b) % n)) h
def fdB : S := sbind (un pyTuple (sortSet (lcM2 [5, 6] (tgName 5) tYesM [6] (itM (slot 1)) (tgName 6) tYesM (bin pyIxF (bin pyIxF (slot 0) (slot 5)) (slot 6)) (itM (slot 3))))) (sput 3)
theorem fd_step {n : Int} {lot near : List Int} {m x : PV} (hn : 2 ≤ n ∧ n ≤ 40) (hl : FarOk n lot) (hr : FarOk n near) :
    fdB [some (tabN n), some (.tup (lot.map PV.int)), some m, some (.tup (near.map PV.int)), some x, none, none] = .nx [some (tabN n), some (.tup (lot.map PV.int)), some m, some (.tup ((nxtR n lot near).map PV.int)), some x, none, none] := by
  have ll := hl.len hn.2
  have lr := hr.len hn.2
  have L1 : ∀ a : Int, 0 ≤ a ∧ a < n → lcL [6] (tgName 6) tYesM (bin pyIxF (bin pyIxF (slot 0) (slot 5)) (slot 6)) (lot.map PV.int) [some (tabN n), some (.tup (lot.map PV.int)), some m, some (.tup (near.map PV.int)), some x, some (.int a), none] = .ok (lot.map fun b => .int ((a + b) % n)) [some (tabN n), some (.tup (lot.map PV.int)), some m, some (.tup (near.map PV.int)), some x, some (.int a), none] := fun a ha =>
    lc_map (enc := PV.int) (fun b => .int ((a + b) % n)) fun b hb => by
      have t1 := tab_a ha
      have t2 := tab_b (a := a) (hl.rng b hb)
      exact ⟨_, rfl, by simp -implicitDefEqProofs [t1, t2, sseq_r, sbind_r, mbind_r, mret_r, mlift_s, slot_r, bin_r, binO_r, un_r, asB_r, andT_r, orT_r, notT_r, iteM_r, andV_r, orV_r, notV_r, chain_r, mcons_r, tupM_z, lstM_z, ite_r, callM_r, part_r, noPart_r, slc_r, itM_r, zipM_r, enumM_r, lcM_z, sm_nil, sm_cons, sm_map, rngM1_r, rngM2_r, rngM3_r, orF_r, findM_r, sortSet_r, lenSet_r, chkL_r, putSlot_r, mmut_r, mpop_r, snx_r, sbk_r, sct_r, sput_r, sret_r, sretO_r, sif_r, sexc_r, spar_r, spar3_r, saug_r, sset_r, saugS_r, sasg_r, fnM_r, mstuck_r, isiP, tyOf, isaAny, isaT, pyNeg, wipeE, unw, tgName, tgTup, tgs, Function.comp_def, sizeLine_eq, resolve, putMu, lentOf, iterOf, items, asI], rfl⟩
  have L2 := lc2_map (enc := PV.int) (vs := [5, 6]) (vs1 := [6]) (g := tgName 5) (g1 := tgName 6) (mi1 := itM (slot 1)) (tt1 := tYesM) (te := bin pyIxF (bin pyIxF (slot 0) (slot 5)) (slot 6)) (env := [some (tabN n), some (.tup (lot.map PV.int)), some m, some (.tup (near.map PV.int)), some x, none, none]) (fun a => lot.map fun b => .int ((a + b) % n)) (l := near) (fun a ha => ⟨_, lot.map PV.int, rfl, by simp -implicitDefEqProofs [sseq_r, sbind_r, mbind_r, mret_r, mlift_s, slot_r, bin_r, binO_r, un_r, asB_r, andT_r, orT_r, notT_r, iteM_r, andV_r, orV_r, notV_r, chain_r, mcons_r, tupM_z, lstM_z, ite_r, callM_r, part_r, noPart_r, slc_r, itM_r, zipM_r, enumM_r, lcM_z, sm_nil, sm_cons, sm_map, rngM1_r, rngM2_r, rngM3_r, orF_r, findM_r, sortSet_r, lenSet_r, chkL_r, putSlot_r, mmut_r, mpop_r, snx_r, sbk_r, sct_r, sput_r, sret_r, sretO_r, sif_r, sexc_r, spar_r, spar3_r, saug_r, sset_r, saugS_r, sasg_r, fnM_r, mstuck_r, isiP, tyOf, isaAny, isaT, pyNeg, wipeE, unw, tgName, tgTup, tgs, Function.comp_def, sizeLine_eq, resolve, putMu, lentOf, iterOf, items, asI], L1 a (hr.rng a ha), rfl⟩)
  have e : (near.flatMap fun a => lot.map fun b => PV.int ((a + b) % n)) = (near.flatMap fun a => lot.map fun b => (a + b) % n).map PV.int := by
    rw [List.map_flatMap]
    simp [Function.comp_def]
  rw [e] at L2
  have len : (near.flatMap fun a => lot.map fun b => (a + b) % n).length ≤ 1600 := by rw [flat_len]; exact Nat.mul_le_mul lr ll
  have z : Sm 0 (near.flatMap fun a => lot.map fun b => (a + b) % n) := sm_of (by omega)
  have sm := setM_l (l := near.flatMap fun a => lot.map fun b => (a + b) % n) (by omega)
  have l64 : (nxtR n lot near).length < 64 := by
    have : FarOk n (nxtR n lot near) := ⟨setI_sorted _, fun x hx => by
      unfold nxtR at hx
      rw [setI_mem, List.mem_flatMap] at hx
      obtain ⟨a, _, hx⟩ := hx
      obtain ⟨b, _, rfl⟩ := List.mem_map.mp hx
      exact ⟨Int.emod_nonneg _ (by omega), Int.emod_lt_of_pos _ (by omega)⟩⟩
    have := this.len hn.2
    omega
  unfold nxtR at l64 ⊢
  generalize (near.flatMap fun a => lot.map fun b => (a + b) % n) = Z at *
  unfold fdB
  simp -implicitDefEqProofs [lcM2_z, L2, z, sm, l64, pyTuple_l, sseq_r, sbind_r, mbind_r, mret_r, mlift_s, slot_r, bin_r, binO_r, un_r, asB_r, andT_r, orT_r, notT_r, iteM_r, andV_r, orV_r, notV_r, chain_r, mcons_r, tupM_z, lstM_z, ite_r, callM_r, part_r, noPart_r, slc_r, itM_r, zipM_r, enumM_r, lcM_z, sm_nil, sm_cons, sm_map, rngM1_r, rngM2_r, rngM3_r, orF_r, findM_r, sortSet_r, lenSet_r, chkL_r, putSlot_r, mmut_r, mpop_r, snx_r, sbk_r, sct_r, sput_r, sret_r, sretO_r, sif_r, sexc_r, spar_r, spar3_r, saug_r, sset_r, saugS_r, sasg_r, fnM_r, mstuck_r, isiP, tyOf, isaAny, isaT, pyNeg, wipeE, unw, tgName, tgTup, tgs, Function.comp_def, sizeLine_eq, resolve, putMu, lentOf, iterOf, items, asI]
theorem folded_t {n m : Int} {lot : List Int} (hn : 2 ≤ n ∧ n ≤ 40) (hl : FarOk n lot) (hm : 1 ≤ m ∧ m ≤ 6) : m_folded [tabN n, .tup (lot.map PV.int), .int m] = .ok (.tup ((foldR n lot (m - 1).toNat).map PV.int)) [] := by
  obtain ⟨o, F⟩ := sfor_rgJ (g := tgName 4) (b := fdB) (fun (k : Int) (o : Option PV) => [some (tabN n), some (.tup (lot.map PV.int)), some (.int m), some (.tup ((foldR n lot k.toNat).map PV.int)), o, none, none]) id (a := 0) (m := m - 1) (fun k o h1 h2 => by
    refine ⟨_, rfl, some (.int k), ?_⟩
    have w := fd_step (n := n) (lot := lot) (near := foldR n lot k.toNat) (m := .int m) (x := .int k) hn hl (foldR_ok (by omega) hl _)
    refine w.trans ?_
    have e2 : foldR n lot (k + 1).toNat = nxtR n lot (foldR n lot k.toNat) := by
      have : (k + 1).toNat = k.toNat + 1 := by omega
      rw [this]
      rfl
    simp only [id]
    rw [e2]) (by omega) none
  have F : sfor (tgName 4) fdB ((rgJ 0 (m - 1)).map PV.int) [some (tabN n), some (.tup (lot.map PV.int)), some (.int m), some (.tup (lot.map PV.int)), none, none, none] = _ := F
  simp only [id] at F
  generalize foldR n lot (m - 1).toNat = A at *
  have ok : rgOk (m - 1) = true := rgOk_s (by omega)
  unfold fdB at F
  unfold m_folded b_folded
  simp -implicitDefEqProofs [pyTuple_t, pySub_i, ok, rng1_eq, rgI_J, F, sseq_r, sbind_r, mbind_r, mret_r, mlift_s, slot_r, bin_r, binO_r, un_r, asB_r, andT_r, orT_r, notT_r, iteM_r, andV_r, orV_r, notV_r, chain_r, mcons_r, tupM_z, lstM_z, ite_r, callM_r, part_r, noPart_r, slc_r, itM_r, zipM_r, enumM_r, lcM_z, sm_nil, sm_cons, sm_map, rngM1_r, rngM2_r, rngM3_r, orF_r, findM_r, sortSet_r, lenSet_r, chkL_r, putSlot_r, mmut_r, mpop_r, snx_r, sbk_r, sct_r, sput_r, sret_r, sretO_r, sif_r, sexc_r, spar_r, spar3_r, saug_r, sset_r, saugS_r, sasg_r, fnM_r, mstuck_r, isiP, tyOf, isaAny, isaT, pyNeg, wipeE, unw, tgName, tgTup, tgs, Function.comp_def, sizeLine_eq, resolve, putMu, lentOf, iterOf, items, asI]
theorem common_in_t {n t f : Int} {lot : List Int} (hn : 2 ≤ n ∧ n ≤ 40) (hl : FarOk n lot) (tf : TfOk t f) : m_common_in [tabN n, .tup (lot.map PV.int), .int t, .int f] = .ok (.tup (((foldR n lot (t - 1).toNat).filter fun k => decide (k ∈ foldR n lot (f - 1).toNat)).map PV.int)) [] := by
  have w1 := folded_t (m := f) hn hl ⟨tf.f1, by have := tf.ft; have := tf.t6; omega⟩
  have w2 := folded_t (m := t) hn hl ⟨by have := tf.t2; omega, tf.t6⟩
  have o1 := (foldR_ok (q := n) (by omega) hl (f - 1).toNat).len hn.2
  have o2 := (foldR_ok (q := n) (by omega) hl (t - 1).toNat).len hn.2
  generalize foldR n lot (t - 1).toNat = A at *
  generalize foldR n lot (f - 1).toNat = B at *
  have zb : Sm 0 B := sm_of (by omega)
  have za : Sm 0 (A.filter fun k => decide (k ∈ B)) := sm_filter (sm_of (by omega))
  have L1 := lc_map (enc := PV.int) (vs := [5]) (g := tgName 5) (te := mbind (mcons (slot 5) (mcons (mret (.bl true)) (mret []))) tupM) (env := [some (tabN n), some (.tup (lot.map PV.int)), some (.int t), some (.int f), none, none]) (fun k => .tup [.int k, .bl true]) (l := B) (fun k _ => ⟨_, rfl, by simp -implicitDefEqProofs [sseq_r, sbind_r, mbind_r, mret_r, mlift_s, slot_r, bin_r, binO_r, un_r, asB_r, andT_r, orT_r, notT_r, iteM_r, andV_r, orV_r, notV_r, chain_r, mcons_r, tupM_z, lstM_z, ite_r, callM_r, part_r, noPart_r, slc_r, itM_r, zipM_r, enumM_r, lcM_z, sm_nil, sm_cons, sm_map, rngM1_r, rngM2_r, rngM3_r, orF_r, findM_r, sortSet_r, lenSet_r, chkL_r, putSlot_r, mmut_r, mpop_r, snx_r, sbk_r, sct_r, sput_r, sret_r, sretO_r, sif_r, sexc_r, spar_r, spar3_r, saug_r, sset_r, saugS_r, sasg_r, fnM_r, mstuck_r, isiP, tyOf, isaAny, isaT, pyNeg, wipeE, unw, tgName, tgTup, tgs, Function.comp_def, sizeLine_eq, resolve, putMu, lentOf, iterOf, items, asI], rfl⟩)
  have dk := held_map (fun k : Int => k) B
  rw [List.map_id'] at dk
  have L2 := lc_fil (enc := PV.int) (vs := [5]) (g := tgName 5) (tt := mbind (bin pyIn (slot 5) (slot 4)) asB) (te := slot 5) (env := [some (tabN n), some (.tup (lot.map PV.int)), some (.int t), some (.int f), some (.dct (heldK B)), none]) (fun k => decide (k ∈ B)) PV.int (l := A) (fun k _ => ⟨_, rfl, by simp -implicitDefEqProofs [pyIn_held, sseq_r, sbind_r, mbind_r, mret_r, mlift_s, slot_r, bin_r, binO_r, un_r, asB_r, andT_r, orT_r, notT_r, iteM_r, andV_r, orV_r, notV_r, chain_r, mcons_r, tupM_z, lstM_z, ite_r, callM_r, part_r, noPart_r, slc_r, itM_r, zipM_r, enumM_r, lcM_z, sm_nil, sm_cons, sm_map, rngM1_r, rngM2_r, rngM3_r, orF_r, findM_r, sortSet_r, lenSet_r, chkL_r, putSlot_r, mmut_r, mpop_r, snx_r, sbk_r, sct_r, sput_r, sret_r, sretO_r, sif_r, sexc_r, spar_r, spar3_r, saug_r, sset_r, saugS_r, sasg_r, fnM_r, mstuck_r, isiP, tyOf, isaAny, isaT, pyNeg, wipeE, unw, tgName, tgTup, tgs, Function.comp_def, sizeLine_eq, resolve, putMu, lentOf, iterOf, items, asI], fun _ => by simp -implicitDefEqProofs [sseq_r, sbind_r, mbind_r, mret_r, mlift_s, slot_r, bin_r, binO_r, un_r, asB_r, andT_r, orT_r, notT_r, iteM_r, andV_r, orV_r, notV_r, chain_r, mcons_r, tupM_z, lstM_z, ite_r, callM_r, part_r, noPart_r, slc_r, itM_r, zipM_r, enumM_r, lcM_z, sm_nil, sm_cons, sm_map, rngM1_r, rngM2_r, rngM3_r, orF_r, findM_r, sortSet_r, lenSet_r, chkL_r, putSlot_r, mmut_r, mpop_r, snx_r, sbk_r, sct_r, sput_r, sret_r, sretO_r, sif_r, sexc_r, spar_r, spar3_r, saug_r, sset_r, saugS_r, sasg_r, fnM_r, mstuck_r, isiP, tyOf, isaAny, isaT, pyNeg, wipeE, unw, tgName, tgTup, tgs, Function.comp_def, sizeLine_eq, resolve, putMu, lentOf, iterOf, items, asI], rfl⟩)
  unfold m_common_in b_common_in
  simp -implicitDefEqProofs [w1, L1, zb, dk, w2, L2, za, pyTuple_l, sseq_r, sbind_r, mbind_r, mret_r, mlift_s, slot_r, bin_r, binO_r, un_r, asB_r, andT_r, orT_r, notT_r, iteM_r, andV_r, orV_r, notV_r, chain_r, mcons_r, tupM_z, lstM_z, ite_r, callM_r, part_r, noPart_r, slc_r, itM_r, zipM_r, enumM_r, lcM_z, sm_nil, sm_cons, sm_map, rngM1_r, rngM2_r, rngM3_r, orF_r, findM_r, sortSet_r, lenSet_r, chkL_r, putSlot_r, mmut_r, mpop_r, snx_r, sbk_r, sct_r, sput_r, sret_r, sretO_r, sif_r, sexc_r, spar_r, spar3_r, saug_r, sset_r, saugS_r, sasg_r, fnM_r, mstuck_r, isiP, tyOf, isaAny, isaT, pyNeg, wipeE, unw, tgName, tgTup, tgs, Function.comp_def, sizeLine_eq, resolve, putMu, lentOf, iterOf, items, asI]
theorem is_lot_in_1 {n : Int} {lot : List Int} (hn : 2 ≤ n ∧ n ≤ 40) (hl : FarOk n lot) : m_is_lot_in [.tup [.int n], .tup (lot.map PV.int)] = .ok (.bl true) [] := by
  have z : Sm 0 lot := sm_of (by have := hl.len hn.2; omega)
  have a := are_numbers_i z
  have b := ascends_t z
  have c : ascB lot = true := ascB_iff.mpr hl.asc
  rw [c] at b
  have e := pyEq_t0 lot
  have s := size_in_1 n hn
  unfold m_is_lot_in b_is_lot_in
  cases hc : lot with
  | nil =>
    rw [hc] at a b e
    have e : pyEq (.tup []) (.tup []) = some (.bl true) := e
    rw [List.map_nil] at a b
    simp -implicitDefEqProofs [a, b, e, sseq_r, sbind_r, mbind_r, mret_r, mlift_s, slot_r, bin_r, binO_r, un_r, asB_r, andT_r, orT_r, notT_r, iteM_r, andV_r, orV_r, notV_r, chain_r, mcons_r, tupM_z, lstM_z, ite_r, callM_r, part_r, noPart_r, slc_r, itM_r, zipM_r, enumM_r, lcM_z, sm_nil, sm_cons, sm_map, rngM1_r, rngM2_r, rngM3_r, orF_r, findM_r, sortSet_r, lenSet_r, chkL_r, putSlot_r, mmut_r, mpop_r, snx_r, sbk_r, sct_r, sput_r, sret_r, sretO_r, sif_r, sexc_r, spar_r, spar3_r, saug_r, sset_r, saugS_r, sasg_r, fnM_r, mstuck_r, isiP, tyOf, isaAny, isaT, pyNeg, wipeE, unw, tgName, tgTup, tgs, Function.comp_def, sizeLine_eq, resolve, putMu, lentOf, iterOf, items, asI]
  | cons y r =>
    rw [hc] at a b e
    have i0 : pyIxF (.tup ((y :: r).map PV.int)) (.int 0) = some (.int y) := by
      show L2.atI ((y :: r).map PV.int) 0 = _
      exact atI_nat (Int.le_refl 0) rfl
    have lst : ∃ w ∈ y :: r, (y :: r).getLast? = some w := ⟨(y :: r).getLast (by simp), List.getLast_mem _, List.getLast?_eq_some_getLast (by simp)⟩
    obtain ⟨w, hw, hw2⟩ := lst
    have i1 : pyIxF (.tup ((y :: r).map PV.int)) (.int (-1)) = some (.int w) := by
      show L2.atI ((y :: r).map PV.int) (-1) = _
      exact atI_last (by rw [List.getLast?_map, hw2]; rfl)
    have h1 := hl.rng y (by rw [hc]; simp)
    have h2 := hl.rng w (by rw [hc]; exact hw)
    have e : pyEq (.tup ((y :: r).map PV.int)) (.tup []) = some (.bl false) := e
    rw [List.map_cons] at a b e i0 i1
    simp -implicitDefEqProofs [a, b, e, i0, i1, pyLe_i, pyLt_i, h1.1, h2.2, s, sseq_r, sbind_r, mbind_r, mret_r, mlift_s, slot_r, bin_r, binO_r, un_r, asB_r, andT_r, orT_r, notT_r, iteM_r, andV_r, orV_r, notV_r, chain_r, mcons_r, tupM_z, lstM_z, ite_r, callM_r, part_r, noPart_r, slc_r, itM_r, zipM_r, enumM_r, lcM_z, sm_nil, sm_cons, sm_map, rngM1_r, rngM2_r, rngM3_r, orF_r, findM_r, sortSet_r, lenSet_r, chkL_r, putSlot_r, mmut_r, mpop_r, snx_r, sbk_r, sct_r, sput_r, sret_r, sretO_r, sif_r, sexc_r, spar_r, spar3_r, saug_r, sset_r, saugS_r, sasg_r, fnM_r, mstuck_r, isiP, tyOf, isaAny, isaT, pyNeg, wipeE, unw, tgName, tgTup, tgs, Function.comp_def, sizeLine_eq, resolve, putMu, lentOf, iterOf, items, asI]
theorem sure_lot_1 {n : Int} {lot : List Int} (hn : 2 ≤ n ∧ n ≤ 40) (hl : FarOk n lot) : m_sure_lot [.tup [.int n], .tup (lot.map PV.int)] = .ok (.tup (lot.map PV.int)) [] := by
  have a : m_tupled 12 [.tup (lot.map PV.int)] = .ok (.tup (lot.map PV.int)) [] := tupled_g 10 (sm_of (by have := hl.len hn.2; omega)) (.inl rfl)
  have b := is_lot_in_1 hn hl
  unfold m_sure_lot b_sure_lot
  simp -implicitDefEqProofs [a, b, sseq_r, sbind_r, mbind_r, mret_r, mlift_s, slot_r, bin_r, binO_r, un_r, asB_r, andT_r, orT_r, notT_r, iteM_r, andV_r, orV_r, notV_r, chain_r, mcons_r, tupM_z, lstM_z, ite_r, callM_r, part_r, noPart_r, slc_r, itM_r, zipM_r, enumM_r, lcM_z, sm_nil, sm_cons, sm_map, rngM1_r, rngM2_r, rngM3_r, orF_r, findM_r, sortSet_r, lenSet_r, chkL_r, putSlot_r, mmut_r, mpop_r, snx_r, sbk_r, sct_r, sput_r, sret_r, sretO_r, sif_r, sexc_r, spar_r, spar3_r, saug_r, sset_r, saugS_r, sasg_r, fnM_r, mstuck_r, isiP, tyOf, isaAny, isaT, pyNeg, wipeE, unw, tgName, tgTup, tgs, Function.comp_def, sizeLine_eq, resolve, putMu, lentOf, iterOf, items, asI]
theorem is_free_t {n t f : Int} {lot : List Int} (hn : 2 ≤ n ∧ n ≤ 40) (hl : FarOk n lot) (tf : TfOk t f) (hf : ∀ x ∈ foldR n lot (t - 1).toNat, x ∉ foldR n lot (f - 1).toNat) : m_is_free [.tup [.int n], .tup (lot.map PV.int), .int t, .int f] = .ok (.bl true) [] := by
  have a := sure_heap_1 hn (.inl rfl)
  have b := sure_lot_1 hn hl
  have c := sure_times_t tf
  have d := sums_table_1 hn
  have e := common_in_t hn hl tf
  have e1 : (foldR n lot (t - 1).toNat).filter (fun k => decide (k ∈ foldR n lot (f - 1).toNat)) = [] := List.filter_eq_nil_iff.mpr fun x hx h => hf x hx (of_decide_eq_true h)
  rw [e1] at e
  have w : m_common_fold [.tup [.int n], .tup (lot.map PV.int), .int t, .int f] = .ok (.tup []) [] := by
    unfold m_common_fold b_common_fold
    simp -implicitDefEqProofs [a, b, c, d, e, sseq_r, sbind_r, mbind_r, mret_r, mlift_s, slot_r, bin_r, binO_r, un_r, asB_r, andT_r, orT_r, notT_r, iteM_r, andV_r, orV_r, notV_r, chain_r, mcons_r, tupM_z, lstM_z, ite_r, callM_r, part_r, noPart_r, slc_r, itM_r, zipM_r, enumM_r, lcM_z, sm_nil, sm_cons, sm_map, rngM1_r, rngM2_r, rngM3_r, orF_r, findM_r, sortSet_r, lenSet_r, chkL_r, putSlot_r, mmut_r, mpop_r, snx_r, sbk_r, sct_r, sput_r, sret_r, sretO_r, sif_r, sexc_r, spar_r, spar3_r, saug_r, sset_r, saugS_r, sasg_r, fnM_r, mstuck_r, isiP, tyOf, isaAny, isaT, pyNeg, wipeE, unw, tgName, tgTup, tgs, Function.comp_def, sizeLine_eq, resolve, putMu, lentOf, iterOf, items, asI]
  have p : pyEq (.tup []) (.tup []) = some (.bl true) := pyEq_t0 []
  unfold m_is_free b_is_free
  simp -implicitDefEqProofs [w, p, sseq_r, sbind_r, mbind_r, mret_r, mlift_s, slot_r, bin_r, binO_r, un_r, asB_r, andT_r, orT_r, notT_r, iteM_r, andV_r, orV_r, notV_r, chain_r, mcons_r, tupM_z, lstM_z, ite_r, callM_r, part_r, noPart_r, slc_r, itM_r, zipM_r, enumM_r, lcM_z, sm_nil, sm_cons, sm_map, rngM1_r, rngM2_r, rngM3_r, orF_r, findM_r, sortSet_r, lenSet_r, chkL_r, putSlot_r, mmut_r, mpop_r, snx_r, sbk_r, sct_r, sput_r, sret_r, sretO_r, sif_r, sexc_r, spar_r, spar3_r, saug_r, sset_r, saugS_r, sasg_r, fnM_r, mstuck_r, isiP, tyOf, isaAny, isaT, pyNeg, wipeE, unw, tgName, tgTup, tgs, Function.comp_def, sizeLine_eq, resolve, putMu, lentOf, iterOf, items, asI]

/-! what is shown by trying all -/
def isOkI (o : FO) (i : Int) : Bool := match o with
  | .ok (.int j) [] => decide (j = i)
  | _ => false
theorem isOkI_eq {o : FO} {i : Int} (h : isOkI o i = true) : o = .ok (.int i) [] := by
  unfold isOkI at h
  split at h
  · rw [of_decide_eq_true h]
  · cases h
theorem most_all : ((rgJ 2 41).all fun n => isOkI (m_most_in [.tup [.int n]]) (topB n 2 1)) = true := by decide +kernel
theorem most_t {n : Int} (h : 2 ≤ n ∧ n ≤ 40) : m_most [.tup [.int n]] = .ok (.int (topB n 2 1)) [] := by
  have w := isOkI_eq (List.all_eq_true.mp most_all n (rgJ_mem.mpr (by omega)))
  have a := sure_heap_1 h (.inl rfl)
  unfold m_most b_most
  simp -implicitDefEqProofs [a, w, sseq_r, sbind_r, mbind_r, mret_r, mlift_s, slot_r, bin_r, binO_r, un_r, asB_r, andT_r, orT_r, notT_r, iteM_r, andV_r, orV_r, notV_r, chain_r, mcons_r, tupM_z, lstM_z, ite_r, callM_r, part_r, noPart_r, slc_r, itM_r, zipM_r, enumM_r, lcM_z, sm_nil, sm_cons, sm_map, rngM1_r, rngM2_r, rngM3_r, orF_r, findM_r, sortSet_r, lenSet_r, chkL_r, putSlot_r, mmut_r, mpop_r, snx_r, sbk_r, sct_r, sput_r, sret_r, sretO_r, sif_r, sexc_r, spar_r, spar3_r, saug_r, sset_r, saugS_r, sasg_r, fnM_r, mstuck_r, isiP, tyOf, isaAny, isaT, pyNeg, wipeE, unw, tgName, tgTup, tgs, Function.comp_def, sizeLine_eq, resolve, putMu, lentOf, iterOf, items, asI]
theorem sz_all : ((rgJ 1 41).all fun q => decide (sizeF q 2 1 = (q + 1) / 3)) = true := by decide +kernel
theorem tf21 : TfOk 2 1 := ⟨by decide, by decide, by decide, by decide⟩
theorem bounds_t {n : Int} (h : 2 ≤ n ∧ n ≤ 40) : m_bounds [.tup [.int n]] = .ok (.lst ((rowsB n 2 1).map encP)) [] := by
  have a := sure_heap_1 h (.inl rfl)
  have s := size_in_1 n h
  have d := divisors_in_t h
  have z := divs_sm h
  have L := lc_map (enc := PV.int) (vs := [2]) (g := tgName 2) (te := mbind (mcons (slot 2) (mcons (callM m_bound_in [none, none] (mcons (slot 1) (mcons (slot 2) (mret [])))) (mret []))) tupM) (env := [some (.tup [.int n]), some (.tup [.int n]), none]) (fun q => encP (q, boundI n q 2 1)) (l := divs n) (fun q hq => by
    have b := bound_mul h tf21 hq
    have hq := (divs_mem.mp hq).1
    have e := of_decide_eq_true (List.all_eq_true.mp sz_all q (rgJ_mem.mpr (by omega)))
    rw [e] at b
    have d1 := pyDiv_i (a := n) (b := q) (by omega)
    have d2 := pyDiv_i (a := q + 1) (b := 3) (by omega)
    have w : m_bound_in [.tup [.int n], .int q] = .ok (.int (boundI n q 2 1)) [] := by
      unfold m_bound_in b_bound_in
      simp -implicitDefEqProofs [s, d1, pyAddA_i, d2, b, sseq_r, sbind_r, mbind_r, mret_r, mlift_s, slot_r, bin_r, binO_r, un_r, asB_r, andT_r, orT_r, notT_r, iteM_r, andV_r, orV_r, notV_r, chain_r, mcons_r, tupM_z, lstM_z, ite_r, callM_r, part_r, noPart_r, slc_r, itM_r, zipM_r, enumM_r, lcM_z, sm_nil, sm_cons, sm_map, rngM1_r, rngM2_r, rngM3_r, orF_r, findM_r, sortSet_r, lenSet_r, chkL_r, putSlot_r, mmut_r, mpop_r, snx_r, sbk_r, sct_r, sput_r, sret_r, sretO_r, sif_r, sexc_r, spar_r, spar3_r, saug_r, sset_r, saugS_r, sasg_r, fnM_r, mstuck_r, isiP, tyOf, isaAny, isaT, pyNeg, wipeE, unw, tgName, tgTup, tgs, Function.comp_def, sizeLine_eq, resolve, putMu, lentOf, iterOf, items, asI]
    exact ⟨_, rfl, by simp -implicitDefEqProofs [w, encP, sseq_r, sbind_r, mbind_r, mret_r, mlift_s, slot_r, bin_r, binO_r, un_r, asB_r, andT_r, orT_r, notT_r, iteM_r, andV_r, orV_r, notV_r, chain_r, mcons_r, tupM_z, lstM_z, ite_r, callM_r, part_r, noPart_r, slc_r, itM_r, zipM_r, enumM_r, lcM_z, sm_nil, sm_cons, sm_map, rngM1_r, rngM2_r, rngM3_r, orF_r, findM_r, sortSet_r, lenSet_r, chkL_r, putSlot_r, mmut_r, mpop_r, snx_r, sbk_r, sct_r, sput_r, sret_r, sretO_r, sif_r, sexc_r, spar_r, spar3_r, saug_r, sset_r, saugS_r, sasg_r, fnM_r, mstuck_r, isiP, tyOf, isaAny, isaT, pyNeg, wipeE, unw, tgName, tgTup, tgs, Function.comp_def, sizeLine_eq, resolve, putMu, lentOf, iterOf, items, asI], rfl⟩)
  unfold m_bounds b_bounds rowsB
  simp -implicitDefEqProofs [a, s, d, L, z, sseq_r, sbind_r, mbind_r, mret_r, mlift_s, slot_r, bin_r, binO_r, un_r, asB_r, andT_r, orT_r, notT_r, iteM_r, andV_r, orV_r, notV_r, chain_r, mcons_r, tupM_z, lstM_z, ite_r, callM_r, part_r, noPart_r, slc_r, itM_r, zipM_r, enumM_r, lcM_z, sm_nil, sm_cons, sm_map, rngM1_r, rngM2_r, rngM3_r, orF_r, findM_r, sortSet_r, lenSet_r, chkL_r, putSlot_r, mmut_r, mpop_r, snx_r, sbk_r, sct_r, sput_r, sret_r, sretO_r, sif_r, sexc_r, spar_r, spar3_r, saug_r, sset_r, saugS_r, sasg_r, fnM_r, mstuck_r, isiP, tyOf, isaAny, isaT, pyNeg, wipeE, unw, tgName, tgTup, tgs, Function.comp_def, sizeLine_eq, resolve, putMu, lentOf, iterOf, items, asI]
def chk2 (n t f top q s : Int) : Bool := match begF q s t f with
  | none => false
  | some b => decide (top * q / n = s) && decide (1 ≤ s) && decide (((toldF n q s b).length : Int) = top) && (rgI q).all fun c => !(decide (s < q) && okB q (s + 1) t f c)
def chk (n t f : Int) : Bool := decide (topB n t f = 0) || chk2 n t f (topB n t f) (bestQ n t f) (sizeF (bestQ n t f) t f)
theorem chk_all : ((rgJ 2 41).all fun n => (rgJ 2 7).all fun t => (rgJ 1 t).all fun f => chk n t f) = true := by decide +kernel

/-! the lap's run -/
def cRow : M PV := lcM [13] (tgName 13) tYesM (bin pyMod (bin pyAddA (slot 12) (slot 13)) (slot 7)) (rngM1 (slot 8))
theorem lap_run0 {t0 t1 t2 t3 N T F T1 TOP r1 r2 r3 : PV} {D R B5 : List PV}
    (e1 : m__law_take [t0, .int 39] = .ok r1 [t1]) (a1 : pyAddA (.int 2) r1 = some N) (e2 : m__law_take [t1, .int 5] = .ok r2 [t2]) (a2 : pyAddA (.int 2) r2 = some T) (s1 : pySub T (.int 1) = some T1) (e3 : m__law_take [t2, T1] = .ok r3 [t3]) (a3 : pyAddA (.int 1) r3 = some F)
    (p4 : m__law_parts [N] = .ok (.lst D) [])
    (L4 : lcL [7] (tgName 7) tYesM (mbind (mcons (slot 7) (mcons (callM m__law_bound [none, none, none, none] (mcons (slot 1) (mcons (slot 7) (mcons (slot 2) (mcons (slot 3) (mret [])))))) (mret []))) tupM) D [some t3, some N, some T, some F, none, none, none, none, none, none, none, none, none, none, none] = .ok R [some t3, some N, some T, some F, none, none, none, none, none, none, none, none, none, none, none])
    (zR : Sm 0 R) (L5 : lcL [14] (tgName 14) tYesM (bin pyIxF (slot 14) (mret (.int 1))) R [some t3, some N, some T, some F, some (.lst R), none, none, none, none, none, none, none, none, none, none] = .ok B5 [some t3, some N, some T, some F, some (.lst R), none, none, none, none, none, none, none, none, none, none])
    (z5 : Sm 0 B5) (m5 : pyMax (.lst B5) = some TOP) (d1 : m_bounds_free [.tup [N], T, F] = .ok (.lst R) []) (d2 : m_most_free [.lst [N], T, F] = .ok TOP [])
    (sa : m__law_same 12 [.lst [.lst R, TOP], .lst [.lst R, TOP]] = .ok (.bl true) []) (d3 : m_built_free [.tup [N], T, F] = .ok (.tup []) []) (c5 : pyEq TOP (.int 0) = some (.bl true)) :
    m__law_lap_one [t0] = .ok (.bl true) [t3] := by
  have p : pyEq (.tup []) (.tup []) = some (.bl true) := pyEq_t0 []
  unfold m__law_lap_one b__law_lap_one
  simp -implicitDefEqProofs [e1, a1, e2, a2, s1, e3, a3, p4, L4, zR, L5, z5, m5, d1, d2, sa, d3, c5, p, sseq_r, sbind_r, mbind_r, mret_r, mlift_s, slot_r, bin_r, binO_r, un_r, asB_r, andT_r, orT_r, notT_r, iteM_r, andV_r, orV_r, notV_r, chain_r, mcons_r, tupM_z, lstM_z, ite_r, callM_r, part_r, noPart_r, slc_r, itM_r, zipM_r, enumM_r, lcM_z, sm_nil, sm_cons, sm_map, rngM1_r, rngM2_r, rngM3_r, orF_r, findM_r, sortSet_r, lenSet_r, chkL_r, putSlot_r, mmut_r, mpop_r, snx_r, sbk_r, sct_r, sput_r, sret_r, sretO_r, sif_r, sexc_r, spar_r, spar3_r, saug_r, sset_r, saugS_r, sasg_r, fnM_r, mstuck_r, isiP, tyOf, isaAny, isaT, pyNeg, wipeE, unw, tgName, tgTup, tgs, Function.comp_def, sizeLine_eq, resolve, putMu, lentOf, iterOf, items, asI]
theorem lap_run1 {t0 t1 t2 t3 N T F T1 TOP M8 V1 V2 r1 r2 r3 : PV} {D R B5 B7 G RW TD : List PV} {n q s : Int}
    (e1 : m__law_take [t0, .int 39] = .ok r1 [t1]) (a1 : pyAddA (.int 2) r1 = some N) (e2 : m__law_take [t1, .int 5] = .ok r2 [t2]) (a2 : pyAddA (.int 2) r2 = some T) (s1 : pySub T (.int 1) = some T1) (e3 : m__law_take [t2, T1] = .ok r3 [t3]) (a3 : pyAddA (.int 1) r3 = some F)
    (p4 : m__law_parts [N] = .ok (.lst D) [])
    (L4 : lcL [7] (tgName 7) tYesM (mbind (mcons (slot 7) (mcons (callM m__law_bound [none, none, none, none] (mcons (slot 1) (mcons (slot 7) (mcons (slot 2) (mcons (slot 3) (mret [])))))) (mret []))) tupM) D [some t3, some N, some T, some F, none, none, none, none, none, none, none, none, none, none, none] = .ok R [some t3, some N, some T, some F, none, none, none, none, none, none, none, none, none, none, none])
    (zR : Sm 0 R) (L5 : lcL [14] (tgName 14) tYesM (bin pyIxF (slot 14) (mret (.int 1))) R [some t3, some N, some T, some F, some (.lst R), none, none, none, none, none, none, none, none, none, none] = .ok B5 [some t3, some N, some T, some F, some (.lst R), none, none, none, none, none, none, none, none, none, none])
    (z5 : Sm 0 B5) (m5 : pyMax (.lst B5) = some TOP) (d1 : m_bounds_free [.tup [N], T, F] = .ok (.lst R) []) (d2 : m_most_free [.lst [N], T, F] = .ok TOP [])
    (sa : m__law_same 12 [.lst [.lst R, TOP], .lst [.lst R, TOP]] = .ok (.bl true) []) (d3 : m_built_free [.tup [N], T, F] = .ok (.tup TD) []) (c5 : pyEq TOP (.int 0) = some (.bl false))
    (eN : N = .int n)
    (L7 : lcL [14] (tgName 14) (mbind (bin pyEq (bin pyIxF (slot 14) (mret (.int 1))) (slot 5)) asB) (bin pyIxF (slot 14) (mret (.int 0))) R [some t3, some N, some T, some F, some (.lst R), some TOP, some (.tup TD), none, none, none, none, none, none, none, none] = .ok B7 [some t3, some N, some T, some F, some (.lst R), some TOP, some (.tup TD), none, none, none, none, none, none, none, none])
    (z7 : Sm 0 B7) (i7 : pyIxF (.lst B7) (.int 0) = some (.int q)) (mu : pyMulI TOP (.int q) = some M8) (dv : pyDiv M8 N = some (.int s)) (okq : rgOk q = true)
    (L9 : lcL [12] (tgName 12) (mbind (callM m__law_row_free [none, none, none, none] (mcons (slot 7) (mcons (lcM [13] (tgName 13) tYesM (bin pyMod (bin pyAddA (slot 12) (slot 13)) (slot 7)) (rngM1 (slot 8))) (mcons (slot 2) (mcons (slot 3) (mret [])))))) asB) (slot 12) (rng1 q) [some t3, some N, some T, some F, some (.lst R), some TOP, some (.tup TD), some (.int q), some (.int s), none, none, none, none, none, none]
      = .ok G [some t3, some N, some T, some F, some (.lst R), some TOP, some (.tup TD), some (.int q), some (.int s), none, none, none, none, none, none])
    (zG : Sm 0 G) (g9 : pyEq (.lst G) (.lst []) = some (.bl false)) (oks : rgOk s = true)
    (L10 : lcL [13] (tgName 13) tYesM (bin pyMod (bin pyAddA (bin pyIxF (slot 9) (mret (.int 0))) (slot 13)) (slot 7)) (rng1 s) [some t3, some N, some T, some F, some (.lst R), some TOP, some (.tup TD), some (.int q), some (.int s), some (.lst G), none, none, none, none, none]
      = .ok RW [some t3, some N, some T, some F, some (.lst R), some TOP, some (.tup TD), some (.int q), some (.int s), some (.lst G), none, none, none, none, none])
    (zW : Sm 0 RW) (okn : rgOk n = true)
    (L11 : lcL [13] (tgName 13) (mbind (bin pyIn (bin pyMod (slot 13) (slot 7)) (slot 10)) asB) (slot 13) (rng1 n) [some t3, some N, some T, some F, some (.lst R), some TOP, some (.tup TD), some (.int q), some (.int s), some (.lst G), some (.lst RW), none, none, none, none]
      = .ok TD [some t3, some N, some T, some F, some (.lst R), some TOP, some (.tup TD), some (.int q), some (.int s), some (.lst G), some (.lst RW), none, none, none, none])
    (zT : Sm 0 TD) (sa2 : m__law_same 12 [.tup TD, .tup TD] = .ok (.bl true) []) (d4 : m_is_free [.tup [N], .tup TD, T, F] = .ok (.bl true) []) (ln : pyLen (.tup TD) = some TOP) (sa3 : m__law_same 12 [.lst [.bl true, TOP], .lst [.bl true, TOP]] = .ok (.bl true) [])
    (L12 : lcL [12] (tgName 12) (andT (mbind (bin pyLt (slot 8) (slot 7)) asB) (mbind (callM m__law_row_free [none, none, none, none] (mcons (slot 7) (mcons (lcM [13] (tgName 13) tYesM (bin pyMod (bin pyAddA (slot 12) (slot 13)) (slot 7)) (rngM1 (bin pyAddA (slot 8) (mret (.int 1))))) (mcons (slot 2) (mcons (slot 3) (mret [])))))) asB)) (slot 12) (rng1 q) [some t3, some N, some T, some F, some (.lst R), some TOP, some (.tup TD), some (.int q), some (.int s), some (.lst G), some (.lst RW), none, none, none, none]
      = .ok [] [some t3, some N, some T, some F, some (.lst R), some TOP, some (.tup TD), some (.int q), some (.int s), some (.lst G), some (.lst RW), none, none, none, none])
    (d5 : m_bounds_free [.tup [N], .int 2, .int 1] = .ok V1 []) (d6 : m_most_free [.tup [N], .int 2, .int 1] = .ok V2 []) (d7 : m_bounds [.tup [N]] = .ok V1 []) (d8 : m_most [.tup [N]] = .ok V2 [])
    (sa4 : m__law_same 12 [.lst [V1, V2], .lst [V1, V2]] = .ok (.bl true) []) :
    m__law_lap_one [t0] = .ok (.bl true) [t3] := by
  have p : pyEq (.lst []) (.lst []) = some (.bl true) := pyEq_li0 []
  subst eN
  unfold m__law_lap_one b__law_lap_one
  simp -implicitDefEqProofs [e1, a1, e2, a2, s1, e3, a3, p4, L4, zR, L5, z5, m5, d1, d2, sa, d3, c5, p, L7, z7, i7, mu, dv, okq, L9, zG, g9, oks, L10, zW, okn, L11, zT, pyTuple_l, sa2, d4, ln, sa3, L12, d5, d6, d7, d8, sa4, sseq_r, sbind_r, mbind_r, mret_r, mlift_s, slot_r, bin_r, binO_r, un_r, asB_r, andT_r, orT_r, notT_r, iteM_r, andV_r, orV_r, notV_r, chain_r, mcons_r, tupM_z, lstM_z, ite_r, callM_r, part_r, noPart_r, slc_r, itM_r, zipM_r, enumM_r, lcM_z, sm_nil, sm_cons, sm_map, rngM1_r, rngM2_r, rngM3_r, orF_r, findM_r, sortSet_r, lenSet_r, chkL_r, putSlot_r, mmut_r, mpop_r, snx_r, sbk_r, sct_r, sput_r, sret_r, sretO_r, sif_r, sexc_r, spar_r, spar3_r, saug_r, sset_r, saugS_r, sasg_r, fnM_r, mstuck_r, isiP, tyOf, isaAny, isaT, pyNeg, wipeE, unw, tgName, tgTup, tgs, Function.comp_def, sizeLine_eq, resolve, putMu, lentOf, iterOf, items, asI]

def TinOk (c : Int) (t : PV) : Prop := ∃ x y z : Int, t = lstI [x, y, z] ∧ 0 ≤ z ∧ z ≤ c ∧ 0 ≤ y
theorem law_take {c b : Int} {tin : PV} (h : TinOk c tin) (hc : c ≤ 1000000000) (hb : 1 ≤ b ∧ b ≤ 1000000) : ∃ r tin', m__law_take [tin, .int b] = .ok (.int r) [tin'] ∧ 0 ≤ r ∧ r < b ∧ TinOk (c + 1) tin' := by
  obtain ⟨x, y, z, rfl, z0, z1, y0⟩ := h
  have hb0 : 0 < b := by omega
  have i0 : pyIxF (lstI [x, y, z]) (.int 0) = some (.int x) := rfl
  have i1 : pyIxF (lstI [x, y, z]) (.int 1) = some (.int y) := rfl
  have i2 : pyIxF (lstI [x, y, z]) (.int 2) = some (.int z) := rfl
  by_cases hx : 0 < x
  · have d : divOk x b = true := divOk_r ⟨by omega, by omega⟩
    have st : setAt (lstI [x, y, z]) (.int 0) (.int (x / b)) = some (lstI [x / b, y, z]) := rfl
    refine ⟨x % b, lstI [x / b, y, z], ?_, Int.emod_nonneg x (by omega), Int.emod_lt_of_pos x hb0, x / b, y, z, rfl, z0, by omega, y0⟩
    unfold m__law_take b__law_take
    simp [sseq_r, sbind_r, mbind_r, mret_r, mlift_s, slot_r, bin_r, binO_r, un_r, asB_r, andT_r, orT_r, notT_r, iteM_r, andV_r, orV_r, notV_r, chain_r, mcons_r, tupM_r, lstM_r, ite_r, callM_r, part_r, noPart_r, slc_r, itM_r, zipM_r, enumM_r, lcM_r, rngM1_r, rngM2_r, orF_r, findM_r, sortSet_r, lenSet_r, chkL_r, putSlot_r, mmut_r, mpop_r, snx_r, sbk_r, sct_r, sput_r, sret_r, sretO_r, sif_r, sexc_r, spar_r, spar3_r, saug_r, sset_r, saugS_r, sasg_r, fnM_r, mstuck_r, isiP, tyOf, isaAny, isaT, pyNeg, wipeE, unw, tgName, tgTup, tgs, Function.comp_def, -List.map_zipWith, sizeLine_eq, resolve, putMu, lentOf, iterOf, items, asI, i0, pyGt, onCmp, hx, pyInt, pyMod, pyDiv, onInts, hb0, d, st]
  · have st : setAt (lstI [x, y, z]) (.int 2) (.int (z + 1)) = some (lstI [x, y, z + 1]) := rfl
    have j1 : pyIxF (lstI [x, y, z + 1]) (.int 1) = some (.int y) := rfl
    have j2 : pyIxF (lstI [x, y, z + 1]) (.int 2) = some (.int (z + 1)) := rfl
    have m1 : ∀ a : Int, mulOk 48271 a = true := fun a => by
      unfold mulOk
      refine decide_eq_true (.inl ⟨?_, ?_⟩) <;> omega
    have m1' : ∀ a : Int, mulOk a 48271 = true := fun a => mulOk_r (by omega)
    have m2 : ∀ a : Int, mulOk a (39373 + (z + 1)) = true := fun a => by
      unfold mulOk
      refine decide_eq_true (.inr ⟨?_, ?_⟩) <;> omega
    have m3 : ∀ a e : Int, mulOk a (e % 40009 + 7) = true := fun a e => by
      have := Int.emod_nonneg e (show (40009 : Int) ≠ 0 by decide)
      have := Int.emod_lt_of_pos e (show (0 : Int) < 40009 by decide)
      exact mulOk_r (by omega)
    have d1 : divOk y 1000003 = true := by unfold divOk; exact decide_eq_true ⟨by decide, by decide⟩
    have d2 : ∀ a : Int, divOk a 64 = true := fun a => divOk_r (by omega)
    refine ⟨((((y + 48271 * (z + 1)) * (39373 + (z + 1))) % 2147483647 + (z + 1) + y / 1000003) * (((y + 48271 * (z + 1)) * (39373 + (z + 1))) % 2147483647 % 40009 + 7) % 2147483629 * 48271 + ((y + 48271 * (z + 1)) * (39373 + (z + 1))) % 2147483647) % 2147483587 / 64 % b,
      lstI [x, y, z + 1], ?_, Int.emod_nonneg _ (show b ≠ 0 by omega), Int.emod_lt_of_pos _ hb0, x, y, z + 1, rfl, by omega, by omega, y0⟩
    unfold m__law_take b__law_take
    simp [sseq_r, sbind_r, mbind_r, mret_r, mlift_s, slot_r, bin_r, binO_r, un_r, asB_r, andT_r, orT_r, notT_r, iteM_r, andV_r, orV_r, notV_r, chain_r, mcons_r, tupM_r, lstM_r, ite_r, callM_r, part_r, noPart_r, slc_r, itM_r, zipM_r, enumM_r, lcM_r, rngM1_r, rngM2_r, orF_r, findM_r, sortSet_r, lenSet_r, chkL_r, putSlot_r, mmut_r, mpop_r, snx_r, sbk_r, sct_r, sput_r, sret_r, sretO_r, sif_r, sexc_r, spar_r, spar3_r, saug_r, sset_r, saugS_r, sasg_r, fnM_r, mstuck_r, isiP, tyOf, isaAny, isaT, pyNeg, wipeE, unw, tgName, tgTup, tgs, Function.comp_def, -List.map_zipWith, sizeLine_eq, resolve, putMu, lentOf, iterOf, items, asI, i0, i1, i2, j1, j2, pyGt, onCmp, hx, pyInt, pyMod, pyDiv, pyMulI, onInts, hb0, d1, d2, st, pyAddA, pyAdd, m1, m1', m2, m3]
theorem TinOk.le {c d : Int} {t : PV} (h : TinOk c t) (hd : c ≤ d) : TinOk d t := by
  obtain ⟨x, y, z, e, z0, z1, y0⟩ := h
  exact ⟨x, y, z, e, z0, by omega, y0⟩
/-- data that _law_same finds equal to itself -/
def okS : Nat → PV → Bool
  | 0, _ => false
  | _ + 1, .non => true
  | _ + 1, .bl _ => true
  | _ + 1, .int _ => true
  | _ + 1, .str _ => true
  | d + 1, .tup ts => decide (ts.length ≤ 16777216) && ts.all (okS d)
  | d + 1, .lst ts => decide (ts.length ≤ 16777216) && ts.all (okS d)
  | _ + 1, _ => false
theorem same_seq (d : Nat) (ts : List PV) (hz : ts.length ≤ 16777216) (h : ∀ t ∈ ts, m__law_same d [t, t] = .ok (.bl true) []) (q : PV) (hq : q = .tup ts ∨ q = .lst ts) : m__law_same (d + 1) [q, q] = .ok (.bl true) [] := by
  show fnM 4 [false, false] false (b__law_same (m__law_same d)) [q, q] = _
  unfold b__law_same
  have L := lcL_map (vs := [2, 3]) (g := tgTup [2, 3]) (te := callM (m__law_same d) [none, none] (mcons (slot 2) (mcons (slot 3) (mret [])))) (env := [some q, some q, none, none]) (fun _ => .bl true) (ts := zipL ts ts) (fun t ht => by
    rw [zip_self] at ht
    obtain ⟨u, hu, rfl⟩ := List.mem_map.mp ht
    refine ⟨_, rfl, ?_, rfl⟩
    have w := h u hu
    simp -implicitDefEqProofs [w, sseq_r, sbind_r, mbind_r, mret_r, mlift_s, slot_r, bin_r, binO_r, un_r, asB_r, andT_r, orT_r, notT_r, iteM_r, andV_r, orV_r, notV_r, chain_r, mcons_r, tupM_z, lstM_z, ite_r, callM_r, part_r, noPart_r, slc_r, itM_r, zipM_r, enumM_r, lcM_z, sm_nil, sm_cons, sm_map, rngM1_r, rngM2_r, rngM3_r, orF_r, findM_r, sortSet_r, lenSet_r, chkL_r, putSlot_r, mmut_r, mpop_r, snx_r, sbk_r, sct_r, sput_r, sret_r, sretO_r, sif_r, sexc_r, spar_r, spar3_r, saug_r, sset_r, saugS_r, sasg_r, fnM_r, mstuck_r, isiP, tyOf, isaAny, isaT, pyNeg, wipeE, unw, tgName, tgTup, tgs, Function.comp_def, sizeLine_eq, resolve, putMu, lentOf, iterOf, items, asI])
  have hzl : Sm 0 (zipL ts ts) := by rw [zip_self]; exact sm_map.mpr hz
  have pa := pyAll_true (zipL ts ts).length
  have hr : Sm 0 (List.replicate (zipL ts ts).length (PV.bl true)) := by unfold Sm at hzl ⊢; rw [List.length_replicate]; exact hzl
  rcases hq with rfl | rfl
  · simp -implicitDefEqProofs [L, hzl, hr, pyEq_i, pyNe, pyEqB, pyLen_t, List.map_const', pa, sseq_r, sbind_r, mbind_r, mret_r, mlift_s, slot_r, bin_r, binO_r, un_r, asB_r, andT_r, orT_r, notT_r, iteM_r, andV_r, orV_r, notV_r, chain_r, mcons_r, tupM_z, lstM_z, ite_r, callM_r, part_r, noPart_r, slc_r, itM_r, zipM_r, enumM_r, lcM_z, sm_nil, sm_cons, sm_map, rngM1_r, rngM2_r, rngM3_r, orF_r, findM_r, sortSet_r, lenSet_r, chkL_r, putSlot_r, mmut_r, mpop_r, snx_r, sbk_r, sct_r, sput_r, sret_r, sretO_r, sif_r, sexc_r, spar_r, spar3_r, saug_r, sset_r, saugS_r, sasg_r, fnM_r, mstuck_r, isiP, tyOf, isaAny, isaT, pyNeg, wipeE, unw, tgName, tgTup, tgs, Function.comp_def, sizeLine_eq, resolve, putMu, lentOf, iterOf, items, asI]
  · simp -implicitDefEqProofs [L, hzl, hr, pyEq_i, pyNe, pyEqB, pyLen_l, List.map_const', pa, sseq_r, sbind_r, mbind_r, mret_r, mlift_s, slot_r, bin_r, binO_r, un_r, asB_r, andT_r, orT_r, notT_r, iteM_r, andV_r, orV_r, notV_r, chain_r, mcons_r, tupM_z, lstM_z, ite_r, callM_r, part_r, noPart_r, slc_r, itM_r, zipM_r, enumM_r, lcM_z, sm_nil, sm_cons, sm_map, rngM1_r, rngM2_r, rngM3_r, orF_r, findM_r, sortSet_r, lenSet_r, chkL_r, putSlot_r, mmut_r, mpop_r, snx_r, sbk_r, sct_r, sput_r, sret_r, sretO_r, sif_r, sexc_r, spar_r, spar3_r, saug_r, sset_r, saugS_r, sasg_r, fnM_r, mstuck_r, isiP, tyOf, isaAny, isaT, pyNeg, wipeE, unw, tgName, tgTup, tgs, Function.comp_def, sizeLine_eq, resolve, putMu, lentOf, iterOf, items, asI]
theorem same_refl : ∀ (d : Nat) (t : PV), okS d t = true → m__law_same d [t, t] = .ok (.bl true) []
  | 0, _, h => by cases h
  | d + 1, .tup ts, h => by
    unfold okS at h
    rw [Bool.and_eq_true, decide_eq_true_eq, List.all_eq_true] at h
    exact same_seq d ts h.1 (fun t ht => same_refl d t (h.2 t ht)) _ (.inl rfl)
  | d + 1, .lst ts, h => by
    unfold okS at h
    rw [Bool.and_eq_true, decide_eq_true_eq, List.all_eq_true] at h
    exact same_seq d ts h.1 (fun t ht => same_refl d t (h.2 t ht)) _ (.inr rfl)
  | d + 1, .int i, _ => by
    show fnM 4 [false, false] false (b__law_same (m__law_same d)) [.int i, .int i] = _
    unfold b__law_same
    simp -implicitDefEqProofs [pyEq_i, pyIs_n, isNon, sseq_r, sbind_r, mbind_r, mret_r, mlift_s, slot_r, bin_r, binO_r, un_r, asB_r, andT_r, orT_r, notT_r, iteM_r, andV_r, orV_r, notV_r, chain_r, mcons_r, tupM_z, lstM_z, ite_r, callM_r, part_r, noPart_r, slc_r, itM_r, zipM_r, enumM_r, lcM_z, sm_nil, sm_cons, sm_map, rngM1_r, rngM2_r, rngM3_r, orF_r, findM_r, sortSet_r, lenSet_r, chkL_r, putSlot_r, mmut_r, mpop_r, snx_r, sbk_r, sct_r, sput_r, sret_r, sretO_r, sif_r, sexc_r, spar_r, spar3_r, saug_r, sset_r, saugS_r, sasg_r, fnM_r, mstuck_r, isiP, tyOf, isaAny, isaT, pyNeg, wipeE, unw, tgName, tgTup, tgs, Function.comp_def, sizeLine_eq, resolve, putMu, lentOf, iterOf, items, asI]
  | d + 1, .non, _ => rfl
  | d + 1, .bl b, _ => by
    show fnM 4 [false, false] false (b__law_same (m__law_same d)) [.bl b, .bl b] = _
    unfold b__law_same
    simp -implicitDefEqProofs [pyIs_n, isNon, pyEq, pyEqB, sseq_r, sbind_r, mbind_r, mret_r, mlift_s, slot_r, bin_r, binO_r, un_r, asB_r, andT_r, orT_r, notT_r, iteM_r, andV_r, orV_r, notV_r, chain_r, mcons_r, tupM_z, lstM_z, ite_r, callM_r, part_r, noPart_r, slc_r, itM_r, zipM_r, enumM_r, lcM_z, sm_nil, sm_cons, sm_map, rngM1_r, rngM2_r, rngM3_r, orF_r, findM_r, sortSet_r, lenSet_r, chkL_r, putSlot_r, mmut_r, mpop_r, snx_r, sbk_r, sct_r, sput_r, sret_r, sretO_r, sif_r, sexc_r, spar_r, spar3_r, saug_r, sset_r, saugS_r, sasg_r, fnM_r, mstuck_r, isiP, tyOf, isaAny, isaT, pyNeg, wipeE, unw, tgName, tgTup, tgs, Function.comp_def, sizeLine_eq, resolve, putMu, lentOf, iterOf, items, asI]
  | d + 1, .str x, _ => by
    show fnM 4 [false, false] false (b__law_same (m__law_same d)) [.str x, .str x] = _
    unfold b__law_same
    simp -implicitDefEqProofs [pyIs_n, isNon, pyEq, pyEqB, sseq_r, sbind_r, mbind_r, mret_r, mlift_s, slot_r, bin_r, binO_r, un_r, asB_r, andT_r, orT_r, notT_r, iteM_r, andV_r, orV_r, notV_r, chain_r, mcons_r, tupM_z, lstM_z, ite_r, callM_r, part_r, noPart_r, slc_r, itM_r, zipM_r, enumM_r, lcM_z, sm_nil, sm_cons, sm_map, rngM1_r, rngM2_r, rngM3_r, orF_r, findM_r, sortSet_r, lenSet_r, chkL_r, putSlot_r, mmut_r, mpop_r, snx_r, sbk_r, sct_r, sput_r, sret_r, sretO_r, sif_r, sexc_r, spar_r, spar3_r, saug_r, sset_r, saugS_r, sasg_r, fnM_r, mstuck_r, isiP, tyOf, isaAny, isaT, pyNeg, wipeE, unw, tgName, tgTup, tgs, Function.comp_def, sizeLine_eq, resolve, putMu, lentOf, iterOf, items, asI]
  | d + 1, .ty _, h => by simp [okS] at h
  | d + 1, .fn _, h => by simp [okS] at h
  | d + 1, .dct _, h => by simp [okS] at h
  | d + 1, .scr _, h => by simp [okS] at h
theorem okS_ints {d : Nat} {l : List Int} (hz : l.length ≤ 16777216) : okS (d + 2) (.tup (l.map PV.int)) = true ∧ okS (d + 2) (.lst (l.map PV.int)) = true := by
  have : (decide ((l.map PV.int).length ≤ 16777216) && (l.map PV.int).all (okS (d + 1))) = true := by
    rw [Bool.and_eq_true, decide_eq_true_eq, List.all_eq_true]
    refine ⟨by rw [List.length_map]; exact hz, fun t ht => ?_⟩
    obtain ⟨i, _, rfl⟩ := List.mem_map.mp ht
    rfl
  exact ⟨by unfold okS; exact this, by unfold okS; exact this⟩

theorem law_cells {ns : List Int} (hn : ns.length ≤ 63) {m : Int} (h1 : 1 ≤ m) (h2 : m ≤ 63) : ∃ vs : List Int, m__law_cells [.scr (ns.map .int), .int m] = .ok (lstI vs) [] ∧ 1 ≤ vs.length := by
  obtain ⟨q, hq, hq2, hq3⟩ := cut_part PV.int ns (m := m) (k := 63) (by omega) (by omega)
  have ht := cut_take PV.int ns (m := m) (by omega)
  -- the cells at the start
  obtain ⟨v0, hv, hv1, hv2⟩ : ∃ v0 : List Int, orF (un pyList (slc (slot 0) noPart (part (slot 1)))) (mbind (mcons (mret (.int 0)) (mret [])) lstM) [some (.scr (ns.map .int)), some (.int m), none, none, none, none] = .ok (lstI v0) [some (.scr (ns.map .int)), some (.int m), none, none, none, none] ∧ 1 ≤ v0.length ∧ (m.toNat < ns.length → v0.length = m.toNat) := by
    by_cases hz : ns.take m.toNat = []
    · refine ⟨[0], ?_, by simp, fun h => ?_⟩
      · simp [sseq_r, sbind_r, mbind_r, mret_r, mlift_s, slot_r, bin_r, binO_r, un_r, asB_r, andT_r, orT_r, notT_r, iteM_r, andV_r, orV_r, notV_r, chain_r, mcons_r, tupM_r, lstM_r, ite_r, callM_r, part_r, noPart_r, slc_r, itM_r, zipM_r, enumM_r, lcM_r, rngM1_r, rngM2_r, orF_r, findM_r, sortSet_r, lenSet_r, chkL_r, putSlot_r, mmut_r, mpop_r, snx_r, sbk_r, sct_r, sput_r, sret_r, sretO_r, sif_r, sexc_r, spar_r, spar3_r, saug_r, sset_r, saugS_r, sasg_r, fnM_r, mstuck_r, isiP, tyOf, isaAny, isaT, pyNeg, wipeE, unw, tgName, tgTup, tgs, Function.comp_def, -List.map_zipWith, sizeLine_eq, resolve, putMu, lentOf, iterOf, items, asI, pyCut, ht, hz, pyList, truP]
      · have := congrArg List.length hz
        rw [List.length_take, List.length_nil] at this
        omega
    · refine ⟨ns.take m.toNat, ?_, List.length_pos_iff.mpr hz, fun h => by rw [List.length_take]; omega⟩
      have hz' : (ns.take m.toNat).isEmpty = false := by simp [hz]
      have hz2 : ((ns.take m.toNat).map PV.int).isEmpty = false := by
        cases e : ns.take m.toNat with
        | nil => exact absurd e hz
        | cons _ _ => rfl
      generalize ns.take m.toNat = w at ht hz2 ⊢
      simp only [sseq_r, sbind_r, mbind_r, mret_r, mlift_s, slot_r, bin_r, binO_r, un_r, asB_r, andT_r, orT_r, notT_r, iteM_r, andV_r, orV_r, notV_r, chain_r, mcons_r, tupM_r, lstM_r, ite_r, callM_r, part_r, noPart_r, slc_r, itM_r, zipM_r, enumM_r, lcM_r, rngM1_r, rngM2_r, orF_r, findM_r, sortSet_r, lenSet_r, chkL_r, putSlot_r, mmut_r, mpop_r, snx_r, sbk_r, sct_r, sput_r, sret_r, sretO_r, sif_r, sexc_r, spar_r, spar3_r, saug_r, sset_r, saugS_r, sasg_r, fnM_r, mstuck_r, isiP, tyOf, isaAny, isaT, pyNeg, wipeE, unw, tgName, tgTup, tgs, Function.comp_def, -List.map_zipWith, sizeLine_eq, resolve, putMu, lentOf, iterOf, items, asI, pyCut, ht, pyList, truP, hz2]
      simp [sseq_r, sbind_r, mbind_r, mret_r, mlift_s, slot_r, bin_r, binO_r, un_r, asB_r, andT_r, orT_r, notT_r, iteM_r, andV_r, orV_r, notV_r, chain_r, mcons_r, tupM_r, lstM_r, ite_r, callM_r, part_r, noPart_r, slc_r, itM_r, zipM_r, enumM_r, lcM_r, rngM1_r, rngM2_r, orF_r, findM_r, sortSet_r, lenSet_r, chkL_r, putSlot_r, mmut_r, mpop_r, snx_r, sbk_r, sct_r, sput_r, sret_r, sretO_r, sif_r, sexc_r, spar_r, spar3_r, saug_r, sset_r, saugS_r, sasg_r, fnM_r, mstuck_r, isiP, tyOf, isaAny, isaT, pyNeg, wipeE, unw, tgName, tgTup, tgs, Function.comp_def, -List.map_zipWith, sizeLine_eq, resolve, putMu, lentOf, iterOf, items, asI, pyCut, ht, pyList, truP, hz2]
  have enumG : ∀ (r : List Int) (j : Nat) (vs : List Int) (x y z : Option PV), j + r.length ≤ 63 → (r ≠ [] → vs.length = m.toNat) → 1 ≤ vs.length →
      ∃ vs' x' y' z', sfor (tgTup [3, 4]) (sseq (sbind (bin pyMod (un pyInt (slot 3)) (slot 1)) (sput 5)) (sset 2 (slot 5) (bin pyAddA (binO pyIxF 2 (slot 5)) (bin pyMulI (slot 4) (bin pyAddA (slot 3) (mret (.int 2))))))) (enumL j (r.map .int)) [some (.scr (ns.map .int)), some (.int m), some (lstI vs), x, y, z] = .nx [some (.scr (ns.map .int)), some (.int m), some (lstI vs'), x', y', z'] ∧ 1 ≤ vs'.length := by
    intro r
    induction r with
    | nil => intro j vs x y z _ _ h; exact ⟨vs, x, y, z, rfl, h⟩
    | cons a r ih =>
      intro j vs x y z hj hv _
      have hl := hv (by simp)
      have hm0 : 0 < m := by omega
      have r0 := Int.emod_nonneg ((j : Nat) : Int) (show m ≠ 0 by omega)
      have r1 := Int.emod_lt_of_pos ((j : Nat) : Int) hm0
      have ix := lst_at (l := vs) (k := ((j : Nat) : Int) % m) r0 (by omega)
      have mu : mulOk a (((j : Nat) : Int) + 2) = true := mulOk_r (by simp at hj; omega)
      have st := setAt_lst (l := vs) (k := ((j : Nat) : Int) % m) (v := vs[(((j : Nat) : Int) % m).toNat]?.getD 0 + a * (((j : Nat) : Int) + 2)) r0 (by omega)
      obtain ⟨vs', x', y', z', e, he⟩ := ih (j + 1) (vs.set (((j : Nat) : Int) % m).toNat (vs[(((j : Nat) : Int) % m).toNat]?.getD 0 + a * (((j : Nat) : Int) + 2))) (some (.int (j : Nat))) (some (.int a)) (some (.int (((j : Nat) : Int) % m))) (by simp at hj ⊢; omega) (fun _ => by rw [List.length_set]; exact hl) (by rw [List.length_set]; omega)
      refine ⟨vs', x', y', z', ?_, he⟩
      rw [← e]
      refine sfor_cons (e1 := [some (.scr (ns.map .int)), some (.int m), some (lstI vs), some (.int (j : Nat)), some (.int a), z]) rfl ?_
      simp [sseq_r, sbind_r, mbind_r, mret_r, mlift_s, slot_r, bin_r, binO_r, un_r, asB_r, andT_r, orT_r, notT_r, iteM_r, andV_r, orV_r, notV_r, chain_r, mcons_r, tupM_r, lstM_r, ite_r, callM_r, part_r, noPart_r, slc_r, itM_r, zipM_r, enumM_r, lcM_r, rngM1_r, rngM2_r, orF_r, findM_r, sortSet_r, lenSet_r, chkL_r, putSlot_r, mmut_r, mpop_r, snx_r, sbk_r, sct_r, sput_r, sret_r, sretO_r, sif_r, sexc_r, spar_r, spar3_r, saug_r, sset_r, saugS_r, sasg_r, fnM_r, mstuck_r, isiP, tyOf, isaAny, isaT, pyNeg, wipeE, unw, tgName, tgTup, tgs, Function.comp_def, -List.map_zipWith, sizeLine_eq, resolve, putMu, lentOf, iterOf, items, asI, pyMod, pyInt, onInts, hm0, ix, pyMulI, mu, pyAddA, pyAdd, st]
  obtain ⟨vs', x', y', z', e, he⟩ := enumG q 0 v0 none none none (by omega) (fun hn => hv2 (hq3 hn)) hv1
  refine ⟨vs', ?_, he⟩
  unfold m__law_cells b__law_cells
  simp only [fnM_r, sseq_r, sbind_r]
  have hv3 := hv
  simp only [List.map_cons, List.map_nil, List.cons_append, List.nil_append, List.length_cons, List.length_nil, Nat.reduceAdd, Nat.reduceSub, List.replicate]
  rw [hv]
  simp [sseq_r, sbind_r, mbind_r, mret_r, mlift_s, slot_r, bin_r, binO_r, un_r, asB_r, andT_r, orT_r, notT_r, iteM_r, andV_r, orV_r, notV_r, chain_r, mcons_r, tupM_r, lstM_r, ite_r, callM_r, part_r, noPart_r, slc_r, itM_r, zipM_r, enumM_r, lcM_r, rngM1_r, rngM2_r, orF_r, findM_r, sortSet_r, lenSet_r, chkL_r, putSlot_r, mmut_r, mpop_r, snx_r, sbk_r, sct_r, sput_r, sret_r, sretO_r, sif_r, sexc_r, spar_r, spar3_r, saug_r, sset_r, saugS_r, sasg_r, fnM_r, mstuck_r, isiP, tyOf, isaAny, isaT, pyNeg, wipeE, unw, tgName, tgTup, tgs, Function.comp_def, -List.map_zipWith, sizeLine_eq, resolve, putMu, lentOf, iterOf, items, asI, pyCut, hq, e]
theorem law_box {vs : List Int} {k : Int} (h0 : 0 ≤ k) (h1 : k ≤ 1000) : ∃ tin, m__law_box [lstI vs, .int k] = .ok tin [] ∧ TinOk 0 tin := by
  have p : powOk 10 18 = true := by unfold powOk; exact decide_eq_true ⟨by decide, by decide, by decide⟩
  have m1 : ∀ (a : Int) (P : Prop) [Decidable P], mulOk a (if P then 1 else 0) = true := fun a P _ => by split <;> exact mulOk_r (by decide)
  have m2 : mulOk 39373 k = true := mulOk_r (by omega)
  obtain ⟨w, hw⟩ : ∃ w : Int, iteM (mbind (bin pyLt (slot 1) (un pyLen (slot 0))) asB) (bin pyIxF (slot 0) (slot 1)) (mret (.int 0)) [some (lstI vs), some (.int k), none] = .ok (.int w) [some (lstI vs), some (.int k), none] := by
    by_cases hk : k < vs.length
    · have ix := lst_at (l := vs) h0 hk
      exact ⟨_, by simp [sseq_r, sbind_r, mbind_r, mret_r, mlift_s, slot_r, bin_r, binO_r, un_r, asB_r, andT_r, orT_r, notT_r, iteM_r, andV_r, orV_r, notV_r, chain_r, mcons_r, tupM_r, lstM_r, ite_r, callM_r, part_r, noPart_r, slc_r, itM_r, zipM_r, enumM_r, lcM_r, rngM1_r, rngM2_r, orF_r, findM_r, sortSet_r, lenSet_r, chkL_r, putSlot_r, mmut_r, mpop_r, snx_r, sbk_r, sct_r, sput_r, sret_r, sretO_r, sif_r, sexc_r, spar_r, spar3_r, saug_r, sset_r, saugS_r, sasg_r, fnM_r, mstuck_r, isiP, tyOf, isaAny, isaT, pyNeg, wipeE, unw, tgName, tgTup, tgs, Function.comp_def, -List.map_zipWith, sizeLine_eq, resolve, putMu, lentOf, iterOf, items, asI, pyLt, onCmp, pyLen, hk, ix]; rfl⟩
    · exact ⟨0, by simp [sseq_r, sbind_r, mbind_r, mret_r, mlift_s, slot_r, bin_r, binO_r, un_r, asB_r, andT_r, orT_r, notT_r, iteM_r, andV_r, orV_r, notV_r, chain_r, mcons_r, tupM_r, lstM_r, ite_r, callM_r, part_r, noPart_r, slc_r, itM_r, zipM_r, enumM_r, lcM_r, rngM1_r, rngM2_r, orF_r, findM_r, sortSet_r, lenSet_r, chkL_r, putSlot_r, mmut_r, mpop_r, snx_r, sbk_r, sct_r, sput_r, sret_r, sretO_r, sif_r, sexc_r, spar_r, spar3_r, saug_r, sset_r, saugS_r, sasg_r, fnM_r, mstuck_r, isiP, tyOf, isaAny, isaT, pyNeg, wipeE, unw, tgName, tgTup, tgs, Function.comp_def, -List.map_zipWith, sizeLine_eq, resolve, putMu, lentOf, iterOf, items, asI, pyLt, onCmp, pyLen, hk]⟩
  have y0 := Int.emod_nonneg w (show (2305843009213693951 : Int) ≠ 0 by decide)
  refine ⟨lstI [(if w < 0 then -w else w) * (if (1000000000000000000 : Int) ≤ (if w < 0 then -w else w) then 1 else 0), w % 2305843009213693951 + 39373 * k + 26307, 0], ?_, _, _, 0, rfl, by omega, by omega, by omega⟩
  unfold m__law_box b__law_box
  simp only [fnM_r, sseq_r, sbind_r, List.map_cons, List.map_nil, List.cons_append, List.nil_append, List.length_cons, List.length_nil, Nat.reduceAdd, Nat.reduceSub, List.replicate]
  rw [hw]
  simp [sseq_r, sbind_r, mbind_r, mret_r, mlift_s, slot_r, bin_r, binO_r, un_r, asB_r, andT_r, orT_r, notT_r, iteM_r, andV_r, orV_r, notV_r, chain_r, mcons_r, tupM_r, lstM_r, ite_r, callM_r, part_r, noPart_r, slc_r, itM_r, zipM_r, enumM_r, lcM_r, rngM1_r, rngM2_r, orF_r, findM_r, sortSet_r, lenSet_r, chkL_r, putSlot_r, mmut_r, mpop_r, snx_r, sbk_r, sct_r, sput_r, sret_r, sretO_r, sif_r, sexc_r, spar_r, spar3_r, saug_r, sset_r, saugS_r, sasg_r, fnM_r, mstuck_r, isiP, tyOf, isaAny, isaT, pyNeg, wipeE, unw, tgName, tgTup, tgs, Function.comp_def, -List.map_zipWith, sizeLine_eq, resolve, putMu, lentOf, iterOf, items, asI, pyAbs, pyInt, pyGe, onCmp, pyPow, onInts, p, pyMulI, m2, m1, pyMod, pyAddA, pyAdd]

/-! the told one is free -/
theorem toldF_ok (n q s b : Int) : FarOk n (toldF n q s b) := ⟨(rgI_asc n).filter _, fun x hx => rgI_mem.mp (List.mem_filter.mp hx).1⟩
theorem told_fold {n q s b : Int} (hq : 1 ≤ q) (hd : n % q = 0) : ∀ (k : Nat) (x : Int), x ∈ foldR n (toldF n q s b) k → ∃ y, (0 ≤ y ∧ y ≤ ((k : Int) + 1) * (s - 1)) ∧ x % q = (((k : Int) + 1) * b + y) % q
  | 0, x, hx => by
    have h := of_decide_eq_true (List.mem_filter.mp (show x ∈ toldF n q s b from hx)).2
    have r0 := Int.emod_nonneg (x - b) (show q ≠ 0 by omega)
    refine ⟨(x - b) % q, ⟨r0, by simp; omega⟩, ?_⟩
    have : x = b + (x - b) := by omega
    rw [show (((0 : Nat) : Int) + 1) * b = b by simp, Int.add_emod_emod, ← this]
  | k + 1, x, hx => by
    obtain ⟨a, ha, c, hc, rfl⟩ := (foldR_mem k x).mp hx
    obtain ⟨y, hy, e⟩ := told_fold hq hd k a ha
    have h := of_decide_eq_true (List.mem_filter.mp hc).2
    have r0 := Int.emod_nonneg (c - b) (show q ≠ 0 by omega)
    have e1 : ((((k + 1 : Nat) : Int)) + 1) * (s - 1) = ((k : Int) + 1) * (s - 1) + (s - 1) := by
      rw [Int.natCast_add, Int.add_mul ((k : Int) + ((1 : Nat) : Int))]
      simp
    have e2 : ((((k + 1 : Nat) : Int)) + 1) * b = ((k : Int) + 1) * b + b := by
      rw [Int.natCast_add, Int.add_mul ((k : Int) + ((1 : Nat) : Int))]
      simp
    refine ⟨y + (c - b) % q, by rw [e1]; omega, ?_⟩
    rw [Int.emod_emod_of_dvd _ (Int.dvd_of_emod_eq_zero hd), Int.add_emod a c q, e, Int.add_emod_emod, Int.emod_add_emod, e2]
    have : ((k : Int) + 1) * b + b + (y + (c - b) % q) = ((k : Int) + 1) * b + y + b + (c - b) % q := by omega
    rw [this, Int.add_emod_emod]
    congr 1
    omega
theorem told_free {n q s t f b : Int} (hq : 1 ≤ q) (hs : 1 ≤ s) (hd : n % q = 0) (tf : TfOk t f) (ok : okB q s t f b = true) : ∀ x ∈ foldR n (toldF n q s b) (t - 1).toNat, x ∉ foldR n (toldF n q s b) (f - 1).toNat := fun x h1 h2 => by
  have e1 : (((t - 1).toNat : Nat) : Int) + 1 = t := by have := tf.t2; omega
  have e2 : (((f - 1).toNat : Nat) : Int) + 1 = f := by have := tf.f1; omega
  obtain ⟨y, hy, g1⟩ := told_fold hq hd _ _ h1
  obtain ⟨z, hz, g2⟩ := told_fold hq hd _ _ h2
  rw [e1] at hy g1
  rw [e2] at hz g2
  exact (okB_iff hq hs (by have := tf.t2; omega) (by have := tf.f1; omega)).mp ok ⟨y, z, hy, hz, by rw [← g1, ← g2]⟩
theorem told_row {n q s b : Int} (hq : 1 ≤ q) (hs : s ≤ q) : toldF n q s b = (rgI n).filter fun k => decide (k % q ∈ rowI q s b) := by
  unfold toldF
  refine List.filter_congr fun k _ => ?_
  rw [decide_eq_decide, rowI_mem]
  have r0 := Int.emod_nonneg (k - b) (show q ≠ 0 by omega)
  constructor
  · intro h
    refine ⟨(k - b) % q, ⟨r0, h⟩, ?_⟩
    have : k = b + (k - b) := by omega
    rw [Int.add_emod_emod, ← this]
  · rintro ⟨j, hj, e⟩
    have h1 : (k - (b + j)) % q = 0 := Int.emod_eq_emod_iff_emod_sub_eq_zero.mp e
    have h2 : (k - b) % q = j % q := Int.emod_eq_emod_iff_emod_sub_eq_zero.mpr (by rw [show k - b - j = k - (b + j) by omega]; exact h1)
    rw [h2, Int.emod_eq_of_lt hj.1 (by omega)]
    exact hj.2
theorem sz_le : ((rgJ 1 41).all fun q => (rgJ 2 7).all fun t => (rgJ 1 t).all fun f => decide (sizeF q t f ≤ q)) = true := by decide +kernel
theorem okS_rows {d : Nat} {n t f : Int} (h : 2 ≤ n ∧ n ≤ 40) : okS (d + 3) (.lst ((rowsB n t f).map encP)) = true := by
  have z := rows_sm (t := t) (f := f) h
  unfold okS
  rw [Bool.and_eq_true, decide_eq_true_eq, List.all_eq_true]
  refine ⟨by rw [List.length_map]; exact z, fun t ht => ?_⟩
  obtain ⟨p, _, rfl⟩ := List.mem_map.mp ht
  rfl
theorem okS_pair {t u : PV} (h1 : okS 11 t = true) (h2 : okS 11 u = true) : okS 12 (.lst [t, u]) = true := by
  show (true && (okS 11 t && (okS 11 u && true))) = true
  rw [h1, h2]
  rfl
theorem law_lap {c : Int} {tin : PV} (h : TinOk c tin) (hc : c ≤ 1000000) : ∃ tin', m__law_lap_one [tin] = .ok (.bl true) [tin'] ∧ TinOk (c + 3) tin' := by
  obtain ⟨r1, t1, e1, r10, r11, k1⟩ := law_take (b := 39) h (by omega) (by omega)
  obtain ⟨r2, t2, e2, r20, r21, k2⟩ := law_take (b := 5) k1 (by omega) (by omega)
  obtain ⟨r3, t3, e3, r30, r31, k3⟩ := law_take (b := 2 + r2 - 1) k2 (by omega) (by omega)
  refine ⟨t3, ?_, k3.le (by omega)⟩
  have a1 := pyAddA_i 2 r1
  have a2 := pyAddA_i 2 r2
  have s1 := pySub_i (2 + r2) 1
  have a3 := pyAddA_i 1 r3
  have hn : 2 ≤ 2 + r1 ∧ 2 + r1 ≤ 40 := by omega
  have tf : TfOk (2 + r2) (1 + r3) := ⟨by omega, by omega, by omega, by omega⟩
  have hk := List.all_eq_true.mp (List.all_eq_true.mp (List.all_eq_true.mp chk_all (2 + r1) (rgJ_mem.mpr (by omega))) (2 + r2) (rgJ_mem.mpr (by omega))) (1 + r3) (rgJ_mem.mpr (by omega))
  generalize 2 + r1 = n at *
  generalize 2 + r2 = t at *
  generalize 1 + r3 = f at *
  have L4 := lc_map (enc := PV.int) (vs := [7]) (g := tgName 7) (te := mbind (mcons (slot 7) (mcons (callM m__law_bound [none, none, none, none] (mcons (slot 1) (mcons (slot 7) (mcons (slot 2) (mcons (slot 3) (mret [])))))) (mret []))) tupM)
    (env := [some t3, some (.int n), some (.int t), some (.int f), none, none, none, none, none, none, none, none, none, none, none]) (fun q => encP (q, boundI n q t f)) (l := divs n) (fun q hq => by
      have hq := (divs_mem.mp hq).1
      have w := law_bound_t (n := n) (q := q) (by omega) tf
      exact ⟨_, rfl, by simp -implicitDefEqProofs [w, encP, sseq_r, sbind_r, mbind_r, mret_r, mlift_s, slot_r, bin_r, binO_r, un_r, asB_r, andT_r, orT_r, notT_r, iteM_r, andV_r, orV_r, notV_r, chain_r, mcons_r, tupM_z, lstM_z, ite_r, callM_r, part_r, noPart_r, slc_r, itM_r, zipM_r, enumM_r, lcM_z, sm_nil, sm_cons, sm_map, rngM1_r, rngM2_r, rngM3_r, orF_r, findM_r, sortSet_r, lenSet_r, chkL_r, putSlot_r, mmut_r, mpop_r, snx_r, sbk_r, sct_r, sput_r, sret_r, sretO_r, sif_r, sexc_r, spar_r, spar3_r, saug_r, sset_r, saugS_r, sasg_r, fnM_r, mstuck_r, isiP, tyOf, isaAny, isaT, pyNeg, wipeE, unw, tgName, tgTup, tgs, Function.comp_def, sizeLine_eq, resolve, putMu, lentOf, iterOf, items, asI], rfl⟩)
  have L5 := lc_map (enc := encP) (vs := [14]) (g := tgName 14) (te := bin pyIxF (slot 14) (mret (.int 1))) (env := [some t3, some (.int n), some (.int t), some (.int f), some (.lst ((rowsB n t f).map encP)), none, none, none, none, none, none, none, none, none, none]) (fun p => .int p.2) (l := rowsB n t f) (fun p _ => ⟨_, rfl, by simp -implicitDefEqProofs [ix_1, sseq_r, sbind_r, mbind_r, mret_r, mlift_s, slot_r, bin_r, binO_r, un_r, asB_r, andT_r, orT_r, notT_r, iteM_r, andV_r, orV_r, notV_r, chain_r, mcons_r, tupM_z, lstM_z, ite_r, callM_r, part_r, noPart_r, slc_r, itM_r, zipM_r, enumM_r, lcM_z, sm_nil, sm_cons, sm_map, rngM1_r, rngM2_r, rngM3_r, orF_r, findM_r, sortSet_r, lenSet_r, chkL_r, putSlot_r, mmut_r, mpop_r, snx_r, sbk_r, sct_r, sput_r, sret_r, sretO_r, sif_r, sexc_r, spar_r, spar3_r, saug_r, sset_r, saugS_r, sasg_r, fnM_r, mstuck_r, isiP, tyOf, isaAny, isaT, pyNeg, wipeE, unw, tgName, tgTup, tgs, Function.comp_def, sizeLine_eq, resolve, putMu, lentOf, iterOf, items, asI], rfl⟩)
  have er : (divs n).map (fun q => encP (q, boundI n q t f)) = (rowsB n t f).map encP := by unfold rowsB; rw [List.map_map]; rfl
  rw [er] at L4
  have zR : Sm 0 ((rowsB n t f).map encP) := sm_map.mpr (rows_sm hn)
  have z5 : Sm 0 ((rowsB n t f).map fun p => PV.int p.2) := sm_map.mpr (rows_sm hn)
  have m5 := max_rows (t := t) (f := f) hn
  have d1 := bounds_free_t (q := .tup [.int n]) hn tf (.inl rfl)
  have d2 := most_free_t (q := .lst [.int n]) hn tf (.inr rfl)
  have sa := same_refl 12 _ (okS_pair (okS_rows (d := 8) (t := t) (f := f) hn) (show okS 11 (.int (topB n t f)) = true from rfl))
  by_cases h0 : topB n t f = 0
  · have c5 : pyEq (.int (topB n t f)) (.int 0) = some (.bl true) := by rw [pyEq_i, h0]; rfl
    exact lap_run0 e1 a1 e2 a2 s1 e3 a3 (law_parts_t hn) L4 zR L5 z5 m5 d1 d2 sa (built_free_0 hn tf (.inl rfl) h0) c5
  · have c5 : pyEq (.int (topB n t f)) (.int 0) = some (.bl false) := by rw [pyEq_i, decide_eq_false h0]
    unfold chk at hk
    rw [decide_eq_false h0, Bool.false_or] at hk
    unfold chk2 at hk
    have hq := divs_mem.mp (best_mem (t := t) (f := f) hn).1
    have d3 := fun b => built_free_t (b := b) (p := .tup [.int n]) hn tf (.inl rfl) h0
    obtain ⟨rr, rb⟩ := rows_best (t := t) (f := f) hn
    have rq : 1 ≤ bestQ n t f ∧ bestQ n t f ≤ 40 := by omega
    have sr := sizeF_rng rq tf
    have sq := of_decide_eq_true (List.all_eq_true.mp (List.all_eq_true.mp (List.all_eq_true.mp sz_le (bestQ n t f) (rgJ_mem.mpr (by omega))) t (rgJ_mem.mpr ⟨tf.t2, by have := tf.t6; omega⟩)) f (rgJ_mem.mpr ⟨tf.f1, tf.ft⟩))
    generalize bestQ n t f = q at *
    generalize sizeF q t f = s at *
    generalize topB n t f = top at *
    cases hb : begF q s t f with
    | none => rw [hb] at hk; cases hk
    | some b =>
      have d3 := d3 b hb
      rw [hb] at hk
      simp only [Bool.and_eq_true, decide_eq_true_eq] at hk
      obtain ⟨⟨⟨k1', k2'⟩, k3'⟩, k4'⟩ := hk
      have hb2 : ∃ g, (rgI q).filter (okB q s t f) = b :: g := by
        unfold begF at hb
        cases hc : (rgI q).filter (okB q s t f) with
        | nil => rw [hc] at hb; cases hb
        | cons x g => rw [hc] at hb; cases hb; exact ⟨g, rfl⟩
      obtain ⟨g, hg⟩ := hb2
      have bm : b ∈ (rgI q).filter (okB q s t f) := by rw [hg]; simp
      have b1 := rgI_mem.mp (List.mem_filter.mp bm).1
      have b2 := (List.mem_filter.mp bm).2
      have L7 := lc_fil (enc := encP) (vs := [14]) (g := tgName 14) (tt := mbind (bin pyEq (bin pyIxF (slot 14) (mret (.int 1))) (slot 5)) asB) (te := bin pyIxF (slot 14) (mret (.int 0)))
        (env := [some t3, some (.int n), some (.int t), some (.int f), some (.lst ((rowsB n t f).map encP)), some (.int top), some (.tup ((toldF n q s b).map PV.int)), none, none, none, none, none, none, none, none]) (fun p => decide (p.2 = top)) (fun p => .int p.1) (l := rowsB n t f) (fun p _ => ⟨_, rfl, by simp -implicitDefEqProofs [ix_1, pyEq_i, sseq_r, sbind_r, mbind_r, mret_r, mlift_s, slot_r, bin_r, binO_r, un_r, asB_r, andT_r, orT_r, notT_r, iteM_r, andV_r, orV_r, notV_r, chain_r, mcons_r, tupM_z, lstM_z, ite_r, callM_r, part_r, noPart_r, slc_r, itM_r, zipM_r, enumM_r, lcM_z, sm_nil, sm_cons, sm_map, rngM1_r, rngM2_r, rngM3_r, orF_r, findM_r, sortSet_r, lenSet_r, chkL_r, putSlot_r, mmut_r, mpop_r, snx_r, sbk_r, sct_r, sput_r, sret_r, sretO_r, sif_r, sexc_r, spar_r, spar3_r, saug_r, sset_r, saugS_r, sasg_r, fnM_r, mstuck_r, isiP, tyOf, isaAny, isaT, pyNeg, wipeE, unw, tgName, tgTup, tgs, Function.comp_def, sizeLine_eq, resolve, putMu, lentOf, iterOf, items, asI], fun _ => by simp -implicitDefEqProofs [ix_0, sseq_r, sbind_r, mbind_r, mret_r, mlift_s, slot_r, bin_r, binO_r, un_r, asB_r, andT_r, orT_r, notT_r, iteM_r, andV_r, orV_r, notV_r, chain_r, mcons_r, tupM_z, lstM_z, ite_r, callM_r, part_r, noPart_r, slc_r, itM_r, zipM_r, enumM_r, lcM_z, sm_nil, sm_cons, sm_map, rngM1_r, rngM2_r, rngM3_r, orF_r, findM_r, sortSet_r, lenSet_r, chkL_r, putSlot_r, mmut_r, mpop_r, snx_r, sbk_r, sct_r, sput_r, sret_r, sretO_r, sif_r, sexc_r, spar_r, spar3_r, saug_r, sset_r, saugS_r, sasg_r, fnM_r, mstuck_r, isiP, tyOf, isaAny, isaT, pyNeg, wipeE, unw, tgName, tgTup, tgs, Function.comp_def, sizeLine_eq, resolve, putMu, lentOf, iterOf, items, asI], rfl⟩)
      have z7 : Sm 0 (((rowsB n t f).filter fun p => decide (p.2 = top)).map fun p => PV.int p.1) := sm_map.mpr (sm_filter (rows_sm hn))
      have i7 : pyIxF (.lst (((rowsB n t f).filter fun p => decide (p.2 = top)).map fun p => PV.int p.1)) (.int 0) = some (.int q) := by rw [rb]; exact ix_h _ _
      have mu := pyMulI_r (a := top) (b := q) (by omega)
      have dv := pyDiv_i (a := top * q) (b := n) (by omega)
      rw [k1'] at dv
      have okq : rgOk q = true := rgOk_s (by omega)
      have oks : rgOk s = true := rgOk_s (by omega)
      have oks1 : rgOk (s + 1) = true := rgOk_s (by omega)
      have okn : rgOk n = true := rgOk_s (by omega)
      have zs : Sm 0 (rgI s) := sm_of (by rw [rgI_len]; omega)
      have zs1 : Sm 0 (rgI (s + 1)) := sm_of (by rw [rgI_len]; omega)
      have L9 := lc_fil (enc := PV.int) (vs := [12]) (g := tgName 12) (tt := mbind (callM m__law_row_free [none, none, none, none] (mcons (slot 7) (mcons (lcM [13] (tgName 13) tYesM (bin pyMod (bin pyAddA (slot 12) (slot 13)) (slot 7)) (rngM1 (slot 8))) (mcons (slot 2) (mcons (slot 3) (mret [])))))) asB) (te := slot 12)
        (env := [some t3, some (.int n), some (.int t), some (.int f), some (.lst ((rowsB n t f).map encP)), some (.int top), some (.tup ((toldF n q s b).map PV.int)), some (.int q), some (.int s), none, none, none, none, none, none]) (okB q s t f) PV.int (l := rgI q) (fun c _ => by
          have L := lc_map (enc := PV.int) (vs := [13]) (g := tgName 13) (te := bin pyMod (bin pyAddA (slot 12) (slot 13)) (slot 7)) (env := [some t3, some (.int n), some (.int t), some (.int f), some (.lst ((rowsB n t f).map encP)), some (.int top), some (.tup ((toldF n q s b).map PV.int)), some (.int q), some (.int s), none, none, none, some (.int c), none, none]) (fun k => .int ((c + k) % q)) (l := rgI s) (fun k _ => by
            have md := pyMod_i (a := c + k) (b := q) (by omega)
            exact ⟨_, rfl, by simp -implicitDefEqProofs [pyAddA_i, md, sseq_r, sbind_r, mbind_r, mret_r, mlift_s, slot_r, bin_r, binO_r, un_r, asB_r, andT_r, orT_r, notT_r, iteM_r, andV_r, orV_r, notV_r, chain_r, mcons_r, tupM_z, lstM_z, ite_r, callM_r, part_r, noPart_r, slc_r, itM_r, zipM_r, enumM_r, lcM_z, sm_nil, sm_cons, sm_map, rngM1_r, rngM2_r, rngM3_r, orF_r, findM_r, sortSet_r, lenSet_r, chkL_r, putSlot_r, mmut_r, mpop_r, snx_r, sbk_r, sct_r, sput_r, sret_r, sretO_r, sif_r, sexc_r, spar_r, spar3_r, saug_r, sset_r, saugS_r, sasg_r, fnM_r, mstuck_r, isiP, tyOf, isaAny, isaT, pyNeg, wipeE, unw, tgName, tgTup, tgs, Function.comp_def, sizeLine_eq, resolve, putMu, lentOf, iterOf, items, asI], rfl⟩)
          have w := row_free_ok (q := q) (s := s) (b := c) rq (by omega) tf
          unfold rowI at w
          rw [List.map_map] at w
          have w : m__law_row_free [.int q, .lst ((rgI s).map fun k => PV.int ((c + k) % q)), .int t, .int f] = .ok (.bl (okB q s t f c)) [] := w
          exact ⟨_, rfl, by simp -implicitDefEqProofs [oks, rng1_eq, L, zs, w, sseq_r, sbind_r, mbind_r, mret_r, mlift_s, slot_r, bin_r, binO_r, un_r, asB_r, andT_r, orT_r, notT_r, iteM_r, andV_r, orV_r, notV_r, chain_r, mcons_r, tupM_z, lstM_z, ite_r, callM_r, part_r, noPart_r, slc_r, itM_r, zipM_r, enumM_r, lcM_z, sm_nil, sm_cons, sm_map, rngM1_r, rngM2_r, rngM3_r, orF_r, findM_r, sortSet_r, lenSet_r, chkL_r, putSlot_r, mmut_r, mpop_r, snx_r, sbk_r, sct_r, sput_r, sret_r, sretO_r, sif_r, sexc_r, spar_r, spar3_r, saug_r, sset_r, saugS_r, sasg_r, fnM_r, mstuck_r, isiP, tyOf, isaAny, isaT, pyNeg, wipeE, unw, tgName, tgTup, tgs, Function.comp_def, sizeLine_eq, resolve, putMu, lentOf, iterOf, items, asI], fun _ => by simp -implicitDefEqProofs [sseq_r, sbind_r, mbind_r, mret_r, mlift_s, slot_r, bin_r, binO_r, un_r, asB_r, andT_r, orT_r, notT_r, iteM_r, andV_r, orV_r, notV_r, chain_r, mcons_r, tupM_z, lstM_z, ite_r, callM_r, part_r, noPart_r, slc_r, itM_r, zipM_r, enumM_r, lcM_z, sm_nil, sm_cons, sm_map, rngM1_r, rngM2_r, rngM3_r, orF_r, findM_r, sortSet_r, lenSet_r, chkL_r, putSlot_r, mmut_r, mpop_r, snx_r, sbk_r, sct_r, sput_r, sret_r, sretO_r, sif_r, sexc_r, spar_r, spar3_r, saug_r, sset_r, saugS_r, sasg_r, fnM_r, mstuck_r, isiP, tyOf, isaAny, isaT, pyNeg, wipeE, unw, tgName, tgTup, tgs, Function.comp_def, sizeLine_eq, resolve, putMu, lentOf, iterOf, items, asI], rfl⟩)
      have zG : Sm 0 (((rgI q).filter (okB q s t f)).map PV.int) := sm_map.mpr (sm_filter (sm_of (by rw [rgI_len]; omega)))
      have g9 : pyEq (.lst (((rgI q).filter (okB q s t f)).map PV.int)) (.lst []) = some (.bl false) := by rw [pyEq_li0, hg]; rfl
      have ig : pyIxF (.lst (((rgI q).filter (okB q s t f)).map PV.int)) (.int 0) = some (.int b) := by rw [hg]; exact ix_h _ _
      have L10 := lc_map (enc := PV.int) (vs := [13]) (g := tgName 13) (te := bin pyMod (bin pyAddA (bin pyIxF (slot 9) (mret (.int 0))) (slot 13)) (slot 7))
        (env := [some t3, some (.int n), some (.int t), some (.int f), some (.lst ((rowsB n t f).map encP)), some (.int top), some (.tup ((toldF n q s b).map PV.int)), some (.int q), some (.int s), some (.lst (((rgI q).filter (okB q s t f)).map PV.int)), none, none, none, none, none]) (fun k => .int ((b + k) % q)) (l := rgI s) (fun k _ => by
          have md := pyMod_i (a := b + k) (b := q) (by omega)
          exact ⟨_, rfl, by simp -implicitDefEqProofs [ig, pyAddA_i, md, sseq_r, sbind_r, mbind_r, mret_r, mlift_s, slot_r, bin_r, binO_r, un_r, asB_r, andT_r, orT_r, notT_r, iteM_r, andV_r, orV_r, notV_r, chain_r, mcons_r, tupM_z, lstM_z, ite_r, callM_r, part_r, noPart_r, slc_r, itM_r, zipM_r, enumM_r, lcM_z, sm_nil, sm_cons, sm_map, rngM1_r, rngM2_r, rngM3_r, orF_r, findM_r, sortSet_r, lenSet_r, chkL_r, putSlot_r, mmut_r, mpop_r, snx_r, sbk_r, sct_r, sput_r, sret_r, sretO_r, sif_r, sexc_r, spar_r, spar3_r, saug_r, sset_r, saugS_r, sasg_r, fnM_r, mstuck_r, isiP, tyOf, isaAny, isaT, pyNeg, wipeE, unw, tgName, tgTup, tgs, Function.comp_def, sizeLine_eq, resolve, putMu, lentOf, iterOf, items, asI], rfl⟩)
      have e10 : (rgI s).map (fun k => PV.int ((b + k) % q)) = (rowI q s b).map PV.int := by unfold rowI; rw [List.map_map]; rfl
      rw [e10] at L10
      have zW : Sm 0 ((rowI q s b).map PV.int) := sm_map.mpr (sm_map.mpr zs)
      have L11 := lc_fil (enc := PV.int) (vs := [13]) (g := tgName 13) (tt := mbind (bin pyIn (bin pyMod (slot 13) (slot 7)) (slot 10)) asB) (te := slot 13)
        (env := [some t3, some (.int n), some (.int t), some (.int f), some (.lst ((rowsB n t f).map encP)), some (.int top), some (.tup ((toldF n q s b).map PV.int)), some (.int q), some (.int s), some (.lst (((rgI q).filter (okB q s t f)).map PV.int)), some (.lst ((rowI q s b).map PV.int)), none, none, none, none]) (fun k => decide (k % q ∈ rowI q s b)) PV.int (l := rgI n) (fun k _ => by
          have md := pyMod_i (a := k) (b := q) (by omega)
          exact ⟨_, rfl, by simp -implicitDefEqProofs [md, pyIn_l, sseq_r, sbind_r, mbind_r, mret_r, mlift_s, slot_r, bin_r, binO_r, un_r, asB_r, andT_r, orT_r, notT_r, iteM_r, andV_r, orV_r, notV_r, chain_r, mcons_r, tupM_z, lstM_z, ite_r, callM_r, part_r, noPart_r, slc_r, itM_r, zipM_r, enumM_r, lcM_z, sm_nil, sm_cons, sm_map, rngM1_r, rngM2_r, rngM3_r, orF_r, findM_r, sortSet_r, lenSet_r, chkL_r, putSlot_r, mmut_r, mpop_r, snx_r, sbk_r, sct_r, sput_r, sret_r, sretO_r, sif_r, sexc_r, spar_r, spar3_r, saug_r, sset_r, saugS_r, sasg_r, fnM_r, mstuck_r, isiP, tyOf, isaAny, isaT, pyNeg, wipeE, unw, tgName, tgTup, tgs, Function.comp_def, sizeLine_eq, resolve, putMu, lentOf, iterOf, items, asI], fun _ => by simp -implicitDefEqProofs [sseq_r, sbind_r, mbind_r, mret_r, mlift_s, slot_r, bin_r, binO_r, un_r, asB_r, andT_r, orT_r, notT_r, iteM_r, andV_r, orV_r, notV_r, chain_r, mcons_r, tupM_z, lstM_z, ite_r, callM_r, part_r, noPart_r, slc_r, itM_r, zipM_r, enumM_r, lcM_z, sm_nil, sm_cons, sm_map, rngM1_r, rngM2_r, rngM3_r, orF_r, findM_r, sortSet_r, lenSet_r, chkL_r, putSlot_r, mmut_r, mpop_r, snx_r, sbk_r, sct_r, sput_r, sret_r, sretO_r, sif_r, sexc_r, spar_r, spar3_r, saug_r, sset_r, saugS_r, sasg_r, fnM_r, mstuck_r, isiP, tyOf, isaAny, isaT, pyNeg, wipeE, unw, tgName, tgTup, tgs, Function.comp_def, sizeLine_eq, resolve, putMu, lentOf, iterOf, items, asI], rfl⟩)
      rw [← told_row rq.1 sq] at L11
      have zT : Sm 0 ((toldF n q s b).map PV.int) := sm_map.mpr (toldF_sm hn)
      have sa2 := same_refl 12 (.tup ((toldF n q s b).map PV.int)) (okS_ints (d := 10) (toldF_sm hn)).1
      have d4 := is_free_t hn (toldF_ok n q s b) tf (told_free rq.1 k2' hq.2 tf b2)
      have ln : pyLen (.tup ((toldF n q s b).map PV.int)) = some (.int top) := by rw [pyLen_t, List.length_map, k3']
      have sa3 := same_refl 12 (.lst [.bl true, .int top]) (okS_pair rfl rfl)
      have L12 := lc_fil (enc := PV.int) (vs := [12]) (g := tgName 12) (tt := andT (mbind (bin pyLt (slot 8) (slot 7)) asB) (mbind (callM m__law_row_free [none, none, none, none] (mcons (slot 7) (mcons (lcM [13] (tgName 13) tYesM (bin pyMod (bin pyAddA (slot 12) (slot 13)) (slot 7)) (rngM1 (bin pyAddA (slot 8) (mret (.int 1))))) (mcons (slot 2) (mcons (slot 3) (mret [])))))) asB)) (te := slot 12)
        (env := [some t3, some (.int n), some (.int t), some (.int f), some (.lst ((rowsB n t f).map encP)), some (.int top), some (.tup ((toldF n q s b).map PV.int)), some (.int q), some (.int s), some (.lst (((rgI q).filter (okB q s t f)).map PV.int)), some (.lst ((rowI q s b).map PV.int)), none, none, none, none]) (fun c => decide (s < q) && okB q (s + 1) t f c) PV.int (l := rgI q) (fun c _ => by
          have L := lc_map (enc := PV.int) (vs := [13]) (g := tgName 13) (te := bin pyMod (bin pyAddA (slot 12) (slot 13)) (slot 7)) (env := [some t3, some (.int n), some (.int t), some (.int f), some (.lst ((rowsB n t f).map encP)), some (.int top), some (.tup ((toldF n q s b).map PV.int)), some (.int q), some (.int s), some (.lst (((rgI q).filter (okB q s t f)).map PV.int)), some (.lst ((rowI q s b).map PV.int)), none, some (.int c), none, none]) (fun k => .int ((c + k) % q)) (l := rgI (s + 1)) (fun k _ => by
            have md := pyMod_i (a := c + k) (b := q) (by omega)
            exact ⟨_, rfl, by simp -implicitDefEqProofs [pyAddA_i, md, sseq_r, sbind_r, mbind_r, mret_r, mlift_s, slot_r, bin_r, binO_r, un_r, asB_r, andT_r, orT_r, notT_r, iteM_r, andV_r, orV_r, notV_r, chain_r, mcons_r, tupM_z, lstM_z, ite_r, callM_r, part_r, noPart_r, slc_r, itM_r, zipM_r, enumM_r, lcM_z, sm_nil, sm_cons, sm_map, rngM1_r, rngM2_r, rngM3_r, orF_r, findM_r, sortSet_r, lenSet_r, chkL_r, putSlot_r, mmut_r, mpop_r, snx_r, sbk_r, sct_r, sput_r, sret_r, sretO_r, sif_r, sexc_r, spar_r, spar3_r, saug_r, sset_r, saugS_r, sasg_r, fnM_r, mstuck_r, isiP, tyOf, isaAny, isaT, pyNeg, wipeE, unw, tgName, tgTup, tgs, Function.comp_def, sizeLine_eq, resolve, putMu, lentOf, iterOf, items, asI], rfl⟩)
          have w := row_free_ok (q := q) (s := s + 1) (b := c) rq (by omega) tf
          unfold rowI at w
          rw [List.map_map] at w
          have w : m__law_row_free [.int q, .lst ((rgI (s + 1)).map fun k => PV.int ((c + k) % q)), .int t, .int f] = .ok (.bl (okB q (s + 1) t f c)) [] := w
          by_cases hsq : s < q
          · exact ⟨_, rfl, by simp -implicitDefEqProofs [pyLt_i, hsq, pyAddA_i, oks1, rng1_eq, L, zs1, w, sseq_r, sbind_r, mbind_r, mret_r, mlift_s, slot_r, bin_r, binO_r, un_r, asB_r, andT_r, orT_r, notT_r, iteM_r, andV_r, orV_r, notV_r, chain_r, mcons_r, tupM_z, lstM_z, ite_r, callM_r, part_r, noPart_r, slc_r, itM_r, zipM_r, enumM_r, lcM_z, sm_nil, sm_cons, sm_map, rngM1_r, rngM2_r, rngM3_r, orF_r, findM_r, sortSet_r, lenSet_r, chkL_r, putSlot_r, mmut_r, mpop_r, snx_r, sbk_r, sct_r, sput_r, sret_r, sretO_r, sif_r, sexc_r, spar_r, spar3_r, saug_r, sset_r, saugS_r, sasg_r, fnM_r, mstuck_r, isiP, tyOf, isaAny, isaT, pyNeg, wipeE, unw, tgName, tgTup, tgs, Function.comp_def, sizeLine_eq, resolve, putMu, lentOf, iterOf, items, asI], fun _ => by simp -implicitDefEqProofs [sseq_r, sbind_r, mbind_r, mret_r, mlift_s, slot_r, bin_r, binO_r, un_r, asB_r, andT_r, orT_r, notT_r, iteM_r, andV_r, orV_r, notV_r, chain_r, mcons_r, tupM_z, lstM_z, ite_r, callM_r, part_r, noPart_r, slc_r, itM_r, zipM_r, enumM_r, lcM_z, sm_nil, sm_cons, sm_map, rngM1_r, rngM2_r, rngM3_r, orF_r, findM_r, sortSet_r, lenSet_r, chkL_r, putSlot_r, mmut_r, mpop_r, snx_r, sbk_r, sct_r, sput_r, sret_r, sretO_r, sif_r, sexc_r, spar_r, spar3_r, saug_r, sset_r, saugS_r, sasg_r, fnM_r, mstuck_r, isiP, tyOf, isaAny, isaT, pyNeg, wipeE, unw, tgName, tgTup, tgs, Function.comp_def, sizeLine_eq, resolve, putMu, lentOf, iterOf, items, asI], rfl⟩
          · exact ⟨_, rfl, by simp -implicitDefEqProofs [pyLt_i, hsq, sseq_r, sbind_r, mbind_r, mret_r, mlift_s, slot_r, bin_r, binO_r, un_r, asB_r, andT_r, orT_r, notT_r, iteM_r, andV_r, orV_r, notV_r, chain_r, mcons_r, tupM_z, lstM_z, ite_r, callM_r, part_r, noPart_r, slc_r, itM_r, zipM_r, enumM_r, lcM_z, sm_nil, sm_cons, sm_map, rngM1_r, rngM2_r, rngM3_r, orF_r, findM_r, sortSet_r, lenSet_r, chkL_r, putSlot_r, mmut_r, mpop_r, snx_r, sbk_r, sct_r, sput_r, sret_r, sretO_r, sif_r, sexc_r, spar_r, spar3_r, saug_r, sset_r, saugS_r, sasg_r, fnM_r, mstuck_r, isiP, tyOf, isaAny, isaT, pyNeg, wipeE, unw, tgName, tgTup, tgs, Function.comp_def, sizeLine_eq, resolve, putMu, lentOf, iterOf, items, asI], fun _ => by simp -implicitDefEqProofs [sseq_r, sbind_r, mbind_r, mret_r, mlift_s, slot_r, bin_r, binO_r, un_r, asB_r, andT_r, orT_r, notT_r, iteM_r, andV_r, orV_r, notV_r, chain_r, mcons_r, tupM_z, lstM_z, ite_r, callM_r, part_r, noPart_r, slc_r, itM_r, zipM_r, enumM_r, lcM_z, sm_nil, sm_cons, sm_map, rngM1_r, rngM2_r, rngM3_r, orF_r, findM_r, sortSet_r, lenSet_r, chkL_r, putSlot_r, mmut_r, mpop_r, snx_r, sbk_r, sct_r, sput_r, sret_r, sretO_r, sif_r, sexc_r, spar_r, spar3_r, saug_r, sset_r, saugS_r, sasg_r, fnM_r, mstuck_r, isiP, tyOf, isaAny, isaT, pyNeg, wipeE, unw, tgName, tgTup, tgs, Function.comp_def, sizeLine_eq, resolve, putMu, lentOf, iterOf, items, asI], rfl⟩)
      have e12 : (rgI q).filter (fun c => decide (s < q) && okB q (s + 1) t f c) = [] := List.filter_eq_nil_iff.mpr fun c hc h => by
        have := List.all_eq_true.mp k4' c hc
        rw [h] at this
        cases this
      rw [e12] at L12
      have d5 := bounds_free_t (q := .tup [.int n]) hn tf21 (.inl rfl)
      have d6 := most_free_t (q := .tup [.int n]) hn tf21 (.inl rfl)
      have sa4 := same_refl 12 _ (okS_pair (okS_rows (d := 8) (t := 2) (f := 1) hn) (show okS 11 (.int (topB n 2 1)) = true from rfl))
      rw [← rng1_eq] at L9 L10 L11 L12
      exact lap_run1 e1 a1 e2 a2 s1 e3 a3 (law_parts_t hn) L4 zR L5 z5 m5 d1 d2 sa d3 c5 rfl L7 z7 i7 mu dv okq L9 zG g9 oks L10 zW okn L11 zT sa2 d4 ln sa3 L12 d5 d6 (bounds_t hn) (most_t hn) sa4

/-! the law -/
theorem law_run {t t2 cs tin : PV} {z : Option PV} (e1 : m__law_cells [t, .int 1] = .ok cs []) (e2 : m__law_box [cs, .int 0] = .ok tin [])
    (g1 : sfor (tgName 2) (sif (notT (mbind (callM m__law_lap_one [some 1] (mcons (slot 1) (mret []))) asB)) (sbind (mret (.bl false)) sret) snx) (rng1 4) [some t, some tin, none] = .nx [some t, some t2, z])
    (f1 : m_built_free [.tup [.int 9], .int 4, .int 1] = .ok (.tup [.int 1, .int 2]) []) (f2 : m_built_free [.tup [.int 12], .int 3, .int 1] = .ok (.tup [.int 1, .int 4, .int 7, .int 10]) [])
    (f3 : m_most_free [.tup [.int 40], .int 6, .int 5] = .ok (.int 20) []) (f4 : m_bounds_free [.tup [.int 2], .int 4, .int 2] = .ok (.lst [.tup [.int 1, .int 0], .tup [.int 2, .int 0]]) []) : m_law [t] = .ok (.bl true) [] := by
  have rg : rgOk 4 = true := rfl
  have sa := same_refl 12 (.lst [.tup [.int 1, .int 2], .tup [.int 1, .int 4, .int 7, .int 10], .int 20, .lst [.tup [.int 1, .int 0], .tup [.int 2, .int 0]]]) (by decide)
  have c3 : ∀ (f : List PV → FO) (x a b r : PV) (e : Sl), f [.tup [x], a, b] = .ok r [] → callM f [none, none, none] (mcons (mbind (mcons (mret x) (mret [])) tupM) (mcons (mret a) (mcons (mret b) (mret [])))) e = .ok r e := fun f x a b r e h =>
    callM_ok (mcons_ok (mbind_ok (mcons_ok mret_ok mnil_ok) (tupM_ok sm_1)) (mcons_ok mret_ok (mcons_ok mret_ok mnil_ok))) rfl h
  unfold m_law b_law
  refine fnM_rt (e := [some t, some t2, z]) ?_ rfl
  show sseq _ _ [some t, none, none] = _
  rw [sseq_nx (e1 := [some t, some tin, none]) (by simp -implicitDefEqProofs [e1, e2, sseq_r, sbind_r, mbind_r, mret_r, mlift_s, slot_r, bin_r, binO_r, un_r, asB_r, andT_r, orT_r, notT_r, iteM_r, andV_r, orV_r, notV_r, chain_r, mcons_r, tupM_z, lstM_z, ite_r, callM_r, part_r, noPart_r, slc_r, itM_r, zipM_r, enumM_r, lcM_z, sm_nil, sm_cons, sm_map, rngM1_r, rngM2_r, rngM3_r, orF_r, findM_r, sortSet_r, lenSet_r, chkL_r, putSlot_r, mmut_r, mpop_r, snx_r, sbk_r, sct_r, sput_r, sret_r, sretO_r, sif_r, sexc_r, spar_r, spar3_r, saug_r, sset_r, saugS_r, sasg_r, fnM_r, mstuck_r, isiP, tyOf, isaAny, isaT, pyNeg, wipeE, unw, tgName, tgTup, tgs, Function.comp_def, sizeLine_eq, resolve, putMu, lentOf, iterOf, items, asI]), sseq_nx (e1 := [some t, some t2, z]) (sbind_ok (e1 := [some t, some tin, none]) (x := rng1 4) (by simp -implicitDefEqProofs [rg, sseq_r, sbind_r, mbind_r, mret_r, mlift_s, slot_r, bin_r, binO_r, un_r, asB_r, andT_r, orT_r, notT_r, iteM_r, andV_r, orV_r, notV_r, chain_r, mcons_r, tupM_z, lstM_z, ite_r, callM_r, part_r, noPart_r, slc_r, itM_r, zipM_r, enumM_r, lcM_z, sm_nil, sm_cons, sm_map, rngM1_r, rngM2_r, rngM3_r, orF_r, findM_r, sortSet_r, lenSet_r, chkL_r, putSlot_r, mmut_r, mpop_r, snx_r, sbk_r, sct_r, sput_r, sret_r, sretO_r, sif_r, sexc_r, spar_r, spar3_r, saug_r, sset_r, saugS_r, sasg_r, fnM_r, mstuck_r, isiP, tyOf, isaAny, isaT, pyNeg, wipeE, unw, tgName, tgTup, tgs, Function.comp_def, sizeLine_eq, resolve, putMu, lentOf, iterOf, items, asI]) g1)]
  refine sbind_ok (callM_ok (mcons_ok (mbind_ok (mcons_ok (c3 _ _ _ _ _ _ f1) (mcons_ok (c3 _ _ _ _ _ _ f2) (mcons_ok (c3 _ _ _ _ _ _ f3) (mcons_ok (c3 _ _ _ _ _ _ f4) mnil_ok)))) (lstM_ok (sm_of (by simp)))) (mcons_ok (x := .lst [.tup [.int 1, .int 2], .tup [.int 1, .int 4, .int 7, .int 10], .int 20, .lst [.tup [.int 1, .int 0], .tup [.int 2, .int 0]]]) ?_ mnil_ok)) rfl sa) rfl
  simp -implicitDefEqProofs [sseq_r, sbind_r, mbind_r, mret_r, mlift_s, slot_r, bin_r, binO_r, un_r, asB_r, andT_r, orT_r, notT_r, iteM_r, andV_r, orV_r, notV_r, chain_r, mcons_r, tupM_z, lstM_z, ite_r, callM_r, part_r, noPart_r, slc_r, itM_r, zipM_r, enumM_r, lcM_z, sm_nil, sm_cons, sm_map, rngM1_r, rngM2_r, rngM3_r, orF_r, findM_r, sortSet_r, lenSet_r, chkL_r, putSlot_r, mmut_r, mpop_r, snx_r, sbk_r, sct_r, sput_r, sret_r, sretO_r, sif_r, sexc_r, spar_r, spar3_r, saug_r, sset_r, saugS_r, sasg_r, fnM_r, mstuck_r, isiP, tyOf, isaAny, isaT, pyNeg, wipeE, unw, tgName, tgTup, tgs, Function.comp_def, sizeLine_eq, resolve, putMu, lentOf, iterOf, items, asI]
theorem v_f1 : m_built_free [.tup [.int 9], .int 4, .int 1] = .ok (.tup [.int 1, .int 2]) [] := by
  have w := built_free_t (n := 9) (t := 4) (f := 1) (b := 1) (p := .tup [.int 9]) (by decide) ⟨by decide, by decide, by decide, by decide⟩ (.inl rfl) (by decide +kernel) (by decide +kernel)
  rw [show toldF 9 (bestQ 9 4 1) (sizeF (bestQ 9 4 1) 4 1) 1 = [1, 2] by decide +kernel] at w
  exact w
theorem v_f2 : m_built_free [.tup [.int 12], .int 3, .int 1] = .ok (.tup [.int 1, .int 4, .int 7, .int 10]) [] := by
  have w := built_free_t (n := 12) (t := 3) (f := 1) (b := 1) (p := .tup [.int 12]) (by decide) ⟨by decide, by decide, by decide, by decide⟩ (.inl rfl) (by decide +kernel) (by decide +kernel)
  rw [show toldF 12 (bestQ 12 3 1) (sizeF (bestQ 12 3 1) 3 1) 1 = [1, 4, 7, 10] by decide +kernel] at w
  exact w
theorem v_f3 : m_most_free [.tup [.int 40], .int 6, .int 5] = .ok (.int 20) [] := by
  have w := most_free_t (n := 40) (t := 6) (f := 5) (q := .tup [.int 40]) (by decide) ⟨by decide, by decide, by decide, by decide⟩ (.inl rfl)
  rw [show topB 40 6 5 = 20 by decide +kernel] at w
  exact w
theorem v_f4 : m_bounds_free [.tup [.int 2], .int 4, .int 2] = .ok (.lst [.tup [.int 1, .int 0], .tup [.int 2, .int 0]]) [] := by
  have w := bounds_free_t (n := 2) (t := 4) (f := 2) (q := .tup [.int 2]) (by decide) ⟨by decide, by decide, by decide, by decide⟩ (.inl rfl)
  rw [show rowsB 2 4 2 = [(1, 0), (2, 0)] by decide +kernel] at w
  exact w
theorem lawOk : LawOk m_law := by
  intro ns hn
  obtain ⟨vs, e1, _⟩ := law_cells (ns := ns) hn (m := 1) (by decide) (by decide)
  obtain ⟨tin, e2, k0⟩ := law_box (vs := vs) (k := 0) (by decide) (by decide)
  obtain ⟨o, g1⟩ : ∃ o : PV × Option PV, sfor (tgName 2) (sif (notT (mbind (callM m__law_lap_one [some 1] (mcons (slot 1) (mret []))) asB)) (sbind (mret (.bl false)) sret) snx) (rng1 4) [some (.scr (ns.map .int)), some tin, none] = .nx [some (.scr (ns.map .int)), some o.1, o.2] := by
    have key : ∀ (k : Nat) (i : Nat) (tin : PV) (z : Option PV), TinOk (1000 * ((i : Nat) : Int)) tin → i + k ≤ 1000 → ∃ o : PV × Option PV, sfor (tgName 2) (sif (notT (mbind (callM m__law_lap_one [some 1] (mcons (slot 1) (mret []))) asB)) (sbind (mret (.bl false)) sret) snx) ((List.range' i k).map fun j => PV.int ((j : Nat) : Int)) [some (.scr (ns.map .int)), some tin, z] = .nx [some (.scr (ns.map .int)), some o.1, o.2] := by
      intro k
      induction k with
      | zero => intro i tin z _ _; exact ⟨(tin, z), rfl⟩
      | succ k ih =>
        intro i tin z h hi
        obtain ⟨t3, l, k3⟩ := law_lap h (by omega)
        obtain ⟨o, e⟩ := ih (i + 1) t3 (some (.int ((i : Nat) : Int))) (k3.le (by omega)) (by omega)
        refine ⟨o, ?_⟩
        rw [List.range'_succ, List.map_cons, ← e]
        refine sfor_cons (e1 := [some (.scr (ns.map .int)), some tin, some (.int ((i : Nat) : Int))]) rfl ?_
        simp -implicitDefEqProofs [l, sseq_r, sbind_r, mbind_r, mret_r, mlift_s, slot_r, bin_r, binO_r, un_r, asB_r, andT_r, orT_r, notT_r, iteM_r, andV_r, orV_r, notV_r, chain_r, mcons_r, tupM_z, lstM_z, ite_r, callM_r, part_r, noPart_r, slc_r, itM_r, zipM_r, enumM_r, lcM_z, sm_nil, sm_cons, sm_map, rngM1_r, rngM2_r, rngM3_r, orF_r, findM_r, sortSet_r, lenSet_r, chkL_r, putSlot_r, mmut_r, mpop_r, snx_r, sbk_r, sct_r, sput_r, sret_r, sretO_r, sif_r, sexc_r, spar_r, spar3_r, saug_r, sset_r, saugS_r, sasg_r, fnM_r, mstuck_r, isiP, tyOf, isaAny, isaT, pyNeg, wipeE, unw, tgName, tgTup, tgs, Function.comp_def, sizeLine_eq, resolve, putMu, lentOf, iterOf, items, asI]
    obtain ⟨o, e⟩ := key 4 0 tin none (k0.le (by decide)) (by decide)
    refine ⟨o, e.trans ?_⟩
    rfl
  exact law_run e1 e2 g1 v_f1 v_f2 v_f3 v_f4

end L2.EV.k63
set_option Elab.async false
set_option linter.all false
set_option maxRecDepth 100000
set_option maxHeartbeats 0
open PySem PySem.W PyProof.Rows L2.EV
set_option maxHeartbeats 0 in
theorem PySem.Challenge.cw_nosumwithin_k63_main_bounds_and_built_fr_holds : PySem.Challenge.rw_nosumwithin_k63_main_bounds_and_built_fr.Holds := by
  w_on; o_law; k_head; (case hw => w_witness2)
  k_fill
  refine L2.walk_of (l := PySem.Challenge.rw_nosumwithin_k63_main_bounds_and_built_fr) (n := 63) (k := 23) (x := "script") (CX := fun w => L2.CX PySem.Challenge.pw_nosumwithin_k63_main_bounds_and_built_fr w) (sp := fun w => L2.EV.spLaw _) rfl (by decide) rfl ⟨rfl, by decide, by decide⟩ (fun w h Y => PySem.W.kIn_of Y) ?F (fun _ _ a ns hl hO hS => ⟨a, ns, rfl, hl, hO, hS, fun _ => rfl⟩) (fun _ _ _ _ _ h => by obtain ⟨_, _, _, _, _, _, _, _, _, _, _, _, h⟩ := h; exact h)
  case F =>
    intro w mg fa h KX G hmg
    refine' fin_mk L2.EV.k63.lawOk (L2.EV.k63.d_law (P := PySem.Challenge.pw_nosumwithin_k63_main_bounds_and_built_fr) (w := w) ?T) hmg
    constructor
    case f_is_number =>
      refine' fnT_mk (ps := ["thing"]) KX G ?a ?l ?c ?k ?b
      (case a => k_is); (case l => k_is); (case c => k_is); (case k => k_is); (case b => exact fun _ _ _ _ _ _ us hl => match us, hl with | [_], _ => rfl)
    case f_primes_in =>
      refine' fnT_mk (ps := ["number"]) KX G ?a ?l ?c ?k ?b
      (case a => k_is); (case l => k_is); (case c => k_is); (case k => k_is); (case b => exact fun _ _ _ _ _ _ us hl => match us, hl with | [_], _ => rfl)
    case f_size_in =>
      refine' fnT_mk (ps := ["heap"]) KX G ?a ?l ?c ?k ?b
      (case a => k_is); (case l => k_is); (case c => k_is); (case k => k_is); (case b => exact fun _ _ _ _ _ _ us hl => match us, hl with | [_], _ => rfl)
    case f_lead_in =>
      refine' fnT_mk (ps := ["heap"]) KX G ?a ?l ?c ?k ?b
      (case a => k_is); (case l => k_is); (case c => k_is); (case k => k_is); (case b => exact fun _ _ _ _ _ _ us hl => match us, hl with | [_], _ => rfl)
    case f_most_in =>
      refine' fnT_mk (ps := ["heap"]) KX G ?a ?l ?c ?k ?b
      (case a => k_is); (case l => k_is); (case c => k_is); (case k => k_is); (case b => exact fun _ _ _ _ _ _ us hl => match us, hl with | [_], _ => rfl)
    case f_are_numbers =>
      refine' fnT_mk (ps := ["thing"]) KX G ?a ?l ?c ?k ?b
      (case a => k_is); (case l => k_is); (case c => k_is); (case k => k_is); (case b => exact fun _ _ _ _ _ _ us hl => match us, hl with | [_], _ => rfl)
    case f_is_heap_in =>
      refine' fnT_mk (ps := ["thing"]) KX G ?a ?l ?c ?k ?b
      (case a => k_is); (case l => k_is); (case c => k_is); (case k => k_is); (case b => exact fun _ _ _ _ _ _ us hl => match us, hl with | [_], _ => rfl)
    case f_tupled =>
      refine' fnT_mk (ps := ["value"]) KX G ?a ?l ?c ?k ?b
      (case a => k_is); (case l => k_is); (case c => k_is); (case k => k_is); (case b => exact fun _ _ _ _ _ _ us hl => match us, hl with | [_], _ => rfl)
    case f_sure_heap =>
      refine' fnT_mk (ps := ["value"]) KX G ?a ?l ?c ?k ?b
      (case a => k_is); (case l => k_is); (case c => k_is); (case k => k_is); (case b => exact fun _ _ _ _ _ _ us hl => match us, hl with | [_], _ => rfl)
    case f_most =>
      refine' fnT_mk (ps := ["heap"]) KX G ?a ?l ?c ?k ?b
      (case a => k_is); (case l => k_is); (case c => k_is); (case k => k_is); (case b => exact fun _ _ _ _ _ _ us hl => match us, hl with | [_], _ => rfl)
    case f_is_within =>
      refine' fnT_mk (ps := ["thing", "least", "most"]) KX G ?a ?l ?c ?k ?b
      (case a => k_is); (case l => k_is); (case c => k_is); (case k => k_is); (case b => exact fun _ _ _ _ _ _ us hl => match us, hl with | [_, _, _], _ => rfl)
    case f_ascends =>
      refine' fnT_mk (ps := ["row"]) KX G ?a ?l ?c ?k ?b
      (case a => k_is); (case l => k_is); (case c => k_is); (case k => k_is); (case b => exact fun _ _ _ _ _ _ us hl => match us, hl with | [_], _ => rfl)
    case f_sure_within =>
      refine' fnT_mk (ps := ["thing", "least", "most"]) KX G ?a ?l ?c ?k ?b
      (case a => k_is); (case l => k_is); (case c => k_is); (case k => k_is); (case b => exact fun _ _ _ _ _ _ us hl => match us, hl with | [_, _, _], _ => rfl)
    case f_rests_in =>
      refine' fnT_mk (ps := ["heap", "member"]) KX G ?a ?l ?c ?k ?b
      (case a => k_is); (case l => k_is); (case c => k_is); (case k => k_is); (case b => exact fun _ _ _ _ _ _ us hl => match us, hl with | [_, _], _ => rfl)
    case f_member_in =>
      refine' fnT_mk (ps := ["heap", "rests"]) KX G ?a ?l ?c ?k ?b
      (case a => k_is); (case l => k_is); (case c => k_is); (case k => k_is); (case b => exact fun _ _ _ _ _ _ us hl => match us, hl with | [_, _], _ => rfl)
    case f_added_in =>
      refine' fnT_mk (ps := ["heap", "one", "other"]) KX G ?a ?l ?c ?k ?b
      (case a => k_is); (case l => k_is); (case c => k_is); (case k => k_is); (case b => exact fun _ _ _ _ _ _ us hl => match us, hl with | [_, _, _], _ => rfl)
    case f_is_lot_in =>
      refine' fnT_mk (ps := ["heap", "thing"]) KX G ?a ?l ?c ?k ?b
      (case a => k_is); (case l => k_is); (case c => k_is); (case k => k_is); (case b => exact fun _ _ _ _ _ _ us hl => match us, hl with | [_, _], _ => rfl)
    case f_sure_lot =>
      refine' fnT_mk (ps := ["heap", "value"]) KX G ?a ?l ?c ?k ?b
      (case a => k_is); (case l => k_is); (case c => k_is); (case k => k_is); (case b => exact fun _ _ _ _ _ _ us hl => match us, hl with | [_, _], _ => rfl)
    case f_divisors_in =>
      refine' fnT_mk (ps := ["number"]) KX G ?a ?l ?c ?k ?b
      (case a => k_is); (case l => k_is); (case c => k_is); (case k => k_is); (case b => exact fun _ _ _ _ _ _ us hl => match us, hl with | [_], _ => rfl)
    case f_bound_in =>
      refine' fnT_mk (ps := ["heap", "parts"]) KX G ?a ?l ?c ?k ?b
      (case a => k_is); (case l => k_is); (case c => k_is); (case k => k_is); (case b => exact fun _ _ _ _ _ _ us hl => match us, hl with | [_, _], _ => rfl)
    case f_bounds =>
      refine' fnT_mk (ps := ["heap"]) KX G ?a ?l ?c ?k ?b
      (case a => k_is); (case l => k_is); (case c => k_is); (case k => k_is); (case b => exact fun _ _ _ _ _ _ us hl => match us, hl with | [_], _ => rfl)
    case f_sums_table =>
      refine' fnT_mk (ps := ["heap"]) KX G ?a ?l ?c ?k ?b
      (case a => k_is); (case l => k_is); (case c => k_is); (case k => k_is); (case b => exact fun _ _ _ _ _ _ us hl => match us, hl with | [_], _ => rfl)
    case f_common_of =>
      refine' fnT_mk (ps := ["one", "other"]) KX G ?a ?l ?c ?k ?b
      (case a => k_is); (case l => k_is); (case c => k_is); (case k => k_is); (case b => exact fun _ _ _ _ _ _ us hl => match us, hl with | [_, _], _ => rfl)
    case f_folded =>
      refine' fnT_mk (ps := ["table", "lot", "many"]) KX G ?a ?l ?c ?k ?b
      (case a => k_is); (case l => k_is); (case c => k_is); (case k => k_is); (case b => exact fun _ _ _ _ _ _ us hl => match us, hl with | [_, _, _], _ => rfl)
    case f_common_in =>
      refine' fnT_mk (ps := ["table", "lot", "times", "fewer"]) KX G ?a ?l ?c ?k ?b
      (case a => k_is); (case l => k_is); (case c => k_is); (case k => k_is); (case b => exact fun _ _ _ _ _ _ us hl => match us, hl with | [_, _, _, _], _ => rfl)
    case f_size_free =>
      refine' fnT_mk (ps := ["parts", "times", "fewer"]) KX G ?a ?l ?c ?k ?b
      (case a => k_is); (case l => k_is); (case c => k_is); (case k => k_is); (case b => exact fun _ _ _ _ _ _ us hl => match us, hl with | [_, _, _], _ => rfl)
    case f_bounds_in =>
      refine' fnT_mk (ps := ["size", "times", "fewer"]) KX G ?a ?l ?c ?k ?b
      (case a => k_is); (case l => k_is); (case c => k_is); (case k => k_is); (case b => exact fun _ _ _ _ _ _ us hl => match us, hl with | [_, _, _], _ => rfl)
    case f_begin_free =>
      refine' fnT_mk (ps := ["parts", "many", "times", "fewer"]) KX G ?a ?l ?c ?k ?b
      (case a => k_is); (case l => k_is); (case c => k_is); (case k => k_is); (case b => exact fun _ _ _ _ _ _ us hl => match us, hl with | [_, _, _, _], _ => rfl)
    case f_best_in =>
      refine' fnT_mk (ps := ["size", "times", "fewer"]) KX G ?a ?l ?c ?k ?b
      (case a => k_is); (case l => k_is); (case c => k_is); (case k => k_is); (case b => exact fun _ _ _ _ _ _ us hl => match us, hl with | [_, _, _], _ => rfl)
    case f_built_in_one =>
      refine' fnT_mk (ps := ["size", "times", "fewer"]) KX G ?a ?l ?c ?k ?b
      (case a => k_is); (case l => k_is); (case c => k_is); (case k => k_is); (case b => exact fun _ _ _ _ _ _ us hl => match us, hl with | [_, _, _], _ => rfl)
    case f_sure_times =>
      refine' fnT_mk (ps := ["times", "fewer"]) KX G ?a ?l ?c ?k ?b
      (case a => k_is); (case l => k_is); (case c => k_is); (case k => k_is); (case b => exact fun _ _ _ _ _ _ us hl => match us, hl with | [_, _], _ => rfl)
    case f_sure_one_round =>
      refine' fnT_mk (ps := ["heap", "times", "fewer"]) KX G ?a ?l ?c ?k ?b
      (case a => k_is); (case l => k_is); (case c => k_is); (case k => k_is); (case b => exact fun _ _ _ _ _ _ us hl => match us, hl with | [_, _, _], _ => rfl)
    case f_common_fold =>
      refine' fnT_mk (ps := ["heap", "lot", "times", "fewer"]) KX G ?a ?l ?c ?k ?b
      (case a => k_is); (case l => k_is); (case c => k_is); (case k => k_is); (case b => exact fun _ _ _ _ _ _ us hl => match us, hl with | [_, _, _, _], _ => rfl)
    case f_is_free =>
      refine' fnT_mk (ps := ["heap", "lot", "times", "fewer"]) KX G ?a ?l ?c ?k ?b
      (case a => k_is); (case l => k_is); (case c => k_is); (case k => k_is); (case b => exact fun _ _ _ _ _ _ us hl => match us, hl with | [_, _, _, _], _ => rfl)
    case f_bounds_free =>
      refine' fnT_mk (ps := ["heap", "times", "fewer"]) KX G ?a ?l ?c ?k ?b
      (case a => k_is); (case l => k_is); (case c => k_is); (case k => k_is); (case b => exact fun _ _ _ _ _ _ us hl => match us, hl with | [_, _, _], _ => rfl)
    case f_most_free =>
      refine' fnT_mk (ps := ["heap", "times", "fewer"]) KX G ?a ?l ?c ?k ?b
      (case a => k_is); (case l => k_is); (case c => k_is); (case k => k_is); (case b => exact fun _ _ _ _ _ _ us hl => match us, hl with | [_, _, _], _ => rfl)
    case f_built_free =>
      refine' fnT_mk (ps := ["heap", "times", "fewer"]) KX G ?a ?l ?c ?k ?b
      (case a => k_is); (case l => k_is); (case c => k_is); (case k => k_is); (case b => exact fun _ _ _ _ _ _ us hl => match us, hl with | [_, _, _], _ => rfl)
    case f__law_box =>
      refine' fnT_mk (ps := ["script", "k"]) KX G ?a ?l ?c ?k ?b
      (case a => k_is); (case l => k_is); (case c => k_is); (case k => k_is); (case b => exact fun _ _ _ _ _ _ us hl => match us, hl with | [_, _], _ => rfl)
    case f__law_take =>
      refine' fnT_mk (ps := ["tin", "below_so"]) KX G ?a ?l ?c ?k ?b
      (case a => k_is); (case l => k_is); (case c => k_is); (case k => k_is); (case b => exact fun _ _ _ _ _ _ us hl => match us, hl with | [_, _], _ => rfl)
    case f__law_cells =>
      refine' fnT_mk (ps := ["script", "most_so"]) KX G ?a ?l ?c ?k ?b
      (case a => k_is); (case l => k_is); (case c => k_is); (case k => k_is); (case b => exact fun _ _ _ _ _ _ us hl => match us, hl with | [_, _], _ => rfl)
    case f__law_same =>
      refine' fnT_mk (ps := ["got", "due"]) KX G ?a ?l ?c ?k ?b
      (case a => k_is); (case l => k_is); (case c => k_is); (case k => k_is); (case b => exact fun _ _ _ _ _ _ us hl => match us, hl with | [_, _], _ => rfl)
    case f__law_flat =>
      refine' fnT_mk (ps := ["rows_so"]) KX G ?a ?l ?c ?k ?b
      (case a => k_is); (case l => k_is); (case c => k_is); (case k => k_is); (case b => exact fun _ _ _ _ _ _ us hl => match us, hl with | [_], _ => rfl)
    case f__law_gcd =>
      refine' fnT_mk (ps := ["one", "two"]) KX G ?a ?l ?c ?k ?b
      (case a => k_is); (case l => k_is); (case c => k_is); (case k => k_is); (case b => exact fun _ _ _ _ _ _ us hl => match us, hl with | [_, _], _ => rfl)
    case f__law_up =>
      refine' fnT_mk (ps := ["over_so", "by_so"]) KX G ?a ?l ?c ?k ?b
      (case a => k_is); (case l => k_is); (case c => k_is); (case k => k_is); (case b => exact fun _ _ _ _ _ _ us hl => match us, hl with | [_, _], _ => rfl)
    case f__law_bound =>
      refine' fnT_mk (ps := ["size_so", "q", "times_so", "fewer_so"]) KX G ?a ?l ?c ?k ?b
      (case a => k_is); (case l => k_is); (case c => k_is); (case k => k_is); (case b => exact fun _ _ _ _ _ _ us hl => match us, hl with | [_, _, _, _], _ => rfl)
    case f__law_parts =>
      refine' fnT_mk (ps := ["size_so"]) KX G ?a ?l ?c ?k ?b
      (case a => k_is); (case l => k_is); (case c => k_is); (case k => k_is); (case b => exact fun _ _ _ _ _ _ us hl => match us, hl with | [_], _ => rfl)
    case f__law_row_free =>
      refine' fnT_mk (ps := ["q", "row_so", "times_so", "fewer_so"]) KX G ?a ?l ?c ?k ?b
      (case a => k_is); (case l => k_is); (case c => k_is); (case k => k_is); (case b => exact fun _ _ _ _ _ _ us hl => match us, hl with | [_, _, _, _], _ => rfl)
    case f__law_lap_one =>
      refine' fnT_mk (ps := ["tin"]) KX G ?a ?l ?c ?k ?b
      (case a => k_is); (case l => k_is); (case c => k_is); (case k => k_is); (case b => exact fun _ _ _ _ _ _ us hl => match us, hl with | [_], _ => rfl)
    case f_law =>
      refine' fnT_mk (ps := ["script"]) KX G ?a ?l ?c ?k ?b
      (case a => k_is); (case l => k_is); (case c => k_is); (case k => k_is); (case b => exact fun _ _ _ _ _ _ us hl => match us, hl with | [_], _ => rfl)
    case n_abs =>
      refine' PySem.W.mg_none_of KX G ?a
      (case a => k_is)
    case n_all =>
      refine' PySem.W.mg_none_of KX G ?a
      (case a => k_is)
    case n_bool =>
      refine' PySem.W.mg_none_of KX G ?a
      (case a => k_is)
    case n_dict =>
      refine' PySem.W.mg_none_of KX G ?a
      (case a => k_is)
    case n_enumerate =>
      refine' PySem.W.mg_none_of KX G ?a
      (case a => k_is)
    case n_int =>
      refine' PySem.W.mg_none_of KX G ?a
      (case a => k_is)
    case n_isinstance =>
      refine' PySem.W.mg_none_of KX G ?a
      (case a => k_is)
    case n_len =>
      refine' PySem.W.mg_none_of KX G ?a
      (case a => k_is)
    case n_list =>
      refine' PySem.W.mg_none_of KX G ?a
      (case a => k_is)
    case n_max =>
      refine' PySem.W.mg_none_of KX G ?a
      (case a => k_is)
    case n_range =>
      refine' PySem.W.mg_none_of KX G ?a
      (case a => k_is)
    case n_set =>
      refine' PySem.W.mg_none_of KX G ?a
      (case a => k_is)
    case n_sorted =>
      refine' PySem.W.mg_none_of KX G ?a
      (case a => k_is)
    case n_str =>
      refine' PySem.W.mg_none_of KX G ?a
      (case a => k_is)
    case n_tuple =>
      refine' PySem.W.mg_none_of KX G ?a
      (case a => k_is)
    case n_zip =>
      refine' PySem.W.mg_none_of KX G ?a
      (case a => k_is)
    case c_MOST_MEMBERS =>
      refine' cI_mk KX G ?a
      (case a => k_is)
    case c_MOST_ROUNDS =>
      refine' cI_mk KX G ?a
      (case a => k_is)
    case c_MOST_TIMES =>
      refine' cI_mk KX G ?a
      (case a => k_is)
    case e_CanNot =>
      refine' excT_mk KX G ?xa ?xq ?xk ?xs ?xt
      (case xa => k_is); (case xq => k_exc); (case xk => k_is); (case xs => k_is); (case xt => k_is)
    case e_Unfit =>
      refine' excT_mk KX G ?xa ?xq ?xk ?xs ?xt
      (case xa => k_is); (case xq => k_exc); (case xk => k_is); (case xs => k_is); (case xt => k_is)

