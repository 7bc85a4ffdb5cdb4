import PyProof.Rows.All
import Wide.All
import OpenK.AllK
import Wide.FinOn
import HandS.ForMost
import HandS.ForExc
import HandS.IsInst
import HandS.ExcInit
import HandS.ExcValue
import HandS.TupAny
import HandS.Wide
import HandS.Deep
import HandS.TupMul
import HandS.Zip
import HandS.Defaults
import HandS.Head0
import HandS.Head1
import HandS.Head2
import HandS.HeadEnd
import HandS.HeadHook1
import HandS.HeadHook2
import KE.KExcSuper
import HandS.ExcSuper
import HandS.ExcField
import KE.KExcIs
import HandS.Text
import HandS.Codes
import HandS.Ends
import PySem.Challenge.RW_waysretraced_k58_whole_errors
set_option Elab.async false
set_option linter.all false
set_option maxRecDepth 100000
set_option maxHeartbeats 0
namespace DL
open PySem PySem.Spec PyProof.Rows L2

/-- a built-in class -/
inductive Ty where
  | int | str | tuple | list | bool | dict | verr
def Ty.name : Ty → String
  | .int => "int" | .str => "str" | .tuple => "tuple" | .list => "list" | .bool => "bool" | .dict => "dict" | .verr => "ValueError"
/-- plain data -/
inductive D where
  | non | bool (b : Bool) | int (i : Int) | str (s : List Nat)
  | tup (xs : List D) | lst (xs : List D)
  | scr (xs : List D)
  | dict (t : Bool) (kvs : List (D × D))
  | ref (n : Nat)
  | ty (n : Ty)
  | cls (n : String)
  | exc (n : String) (fs : List (String × D))

/-- what a store's place holds -/
inductive SO where
  | lst (xs : List D)
  | ins (n : String) (fs : List (String × D))
abbrev Sto := List SO
/-- an error of the program's own -/
structure Exc where
  cls : String
  fs : List (String × D)
inductive Res (α : Type) where
  | ok (a : α) (c : Sto)
  | err (e : Exc) (c : Sto)
  | bad
abbrev M (α : Type) := Sto → Res α
@[reducible] def M.pure {α : Type} (a : α) : M α := fun c => .ok a c
@[reducible] def M.bind {α β : Type} (m : M α) (f : α → M β) : M β := fun c => match m c with
  | .ok a c' => f a c'
  | .err e c' => .err e c'
  | .bad => .bad
@[reducible] def M.bad {α : Type} : M α := fun _ => .bad
@[reducible] def M.err {α : Type} (e : Exc) : M α := fun c => .err e c
instance : Monad M where
  pure := M.pure
  bind := M.bind
def M.of {α : Type} : Option α → M α
  | some a => M.pure a
  | none => M.bad

/-! ### data in the heap -/
def keyD : Key → D
  | .inl i => .int i
  | .inr s => .str s.cps.toList
section
variable (K : PySem.W.Frag) (cl : String → Option Addr)
mutual
/-- the value v of the known part F stands for the data; ps: where the store's places lie -/
inductive DR (F : Hp) (ps : List Addr) : V → D → Prop
  | non : DR F ps .non .non
  | bool (b : Bool) : DR F ps (.bl b) (.bool b)
  | int (i : Int) : DR F ps (.int i) (.int i)
  | str (s : List Nat) : DR F ps (.str ⟨s.toArray⟩) (.str s)
  | tup {a : Addr} {vs : List V} {ds : List D} : F a = some (.tup vs) → DRs F ps vs ds → DR F ps (.ref a) (.tup ds)
  | lst {a : Addr} {vs : List V} {ds : List D} : F a = some (.lst vs) → DRs F ps vs ds → DR F ps (.ref a) (.lst ds)
  | scr {a : Addr} {vs : List V} {ds : List D} : SqL K F a vs → DRs F ps vs ds → DR F ps (.ref a) (.scr ds)
  | dict {a : Addr} {o : HO} {t : Bool} {kvs : List (D × D)} : Rd F a o → OR F ps o (.dict t kvs) → DR F ps (.ref a) (.dict t kvs)
  | ref {a : Addr} {n : Nat} : ps[n]? = some a → DR F ps (.ref a) (.ref n)
  | ty (n : Ty) : DR F ps (.ty n.name) (.ty n)
  | cls {a : Addr} {n : String} : cl n = some a → DR F ps (.ref a) (.cls n)
  | exc0 {a C : Addr} {n : String} : cl n = some C → F a = some (ExO (.ref C) a) → DR F ps (.ref a) (.exc n [])
  | exc1 {a C b : Addr} {n f : String} {v : V} {x : D} : cl n = some C → F a = some (exo a C (some b)) → F b = some (exd b [(Str.ofString f, v)]) → DR F ps v x → DR F ps (.ref a) (.exc n [(f, x)])
inductive DRs (F : Hp) (ps : List Addr) : List V → List D → Prop
  | nil : DRs F ps [] []
  | cons {v : V} {d : D} {vs : List V} {ds : List D} : DR F ps v d → DRs F ps vs ds → DRs F ps (v :: vs) (d :: ds)
inductive DRk (F : Hp) (ps : List Addr) : List (Key × V) → List (D × D) → Prop
  | nil : DRk F ps [] []
  | cons {k : Key} {v : V} {d : D} {vs : List (Key × V)} {ds : List (D × D)} : DR F ps v d → DRk F ps vs ds → DRk F ps ((k, v) :: vs) ((keyD k, d) :: ds)
inductive DRt (F : Hp) (ps : List Addr) : List (List Key × V) → List (D × D) → Prop
  | nil : DRt F ps [] []
  | cons {k : List Key} {v : V} {d : D} {vs : List (List Key × V)} {ds : List (D × D)} : DR F ps v d → DRt F ps vs ds → DRt F ps ((k, v) :: vs) ((.tup (k.map keyD), d) :: ds)
/-- an object's content -/
inductive OR (F : Hp) (ps : List Addr) : HO → D → Prop
  | lst {vs : List V} {ds : List D} : DRs F ps vs ds → OR F ps (.lst vs) (.lst ds)
  | dK {kvs : List (Key × V)} {ds : List (D × D)} : DRk F ps kvs ds → OR F ps (.dK kvs) (.dict false ds)
  | dT {kvs : List (List Key × V)} {ds : List (D × D)} : DRt F ps kvs ds → OR F ps (.dT kvs) (.dict true ds)
end
inductive SR1 (F : Hp) (ps : List Addr) : HO → SO → Prop
  | lst {vs : List V} {ds : List D} : DRs K cl F ps vs ds → SR1 F ps (.lst vs) (.lst ds)

/-- the state: F the known part of H that never changes, the store c at ps -/
structure Wld (F H : Hp) (ps : List Addr) (c : Sto) : Prop where
  sub : ∀ a o, F a = some o → H a = some o
  len : ps.length = c.length
  nd : ps.Nodup
  at_ : ∀ (n : Nat) (p : Addr) (so : SO), ps[n]? = some p → c[n]? = some so → F p = none ∧ ∃ o, H p = some o ∧ SR1 K cl F ps o so
end
/-- how the state may go on -/
structure Ext (F H : Hp) (ps : List Addr) (F' H' : Hp) (ps' : List Addr) : Prop where
  f : ∀ a o, F a = some o → F' a = some o
  h : ∀ a o, H a = some o → a ∉ ps → H' a = some o
  h' : ∀ a, H a ≠ none → H' a ≠ none
  new : ∀ a, F a = none → F' a ≠ none → H a = none
  pp : ∃ l, ps' = ps ++ l ∧ ∀ a ∈ l, H a = none

theorem Ext.refl {F H : Hp} {ps : List Addr} : Ext F H ps F H ps := ⟨fun _ _ h => h, fun _ _ h _ => h, fun _ h => h, fun _ h k => absurd h k, [], by simp, by simp⟩
theorem Ext.trans {F H F1 H1 F2 H2 : Hp} {ps ps1 ps2 : List Addr} (a : Ext F H ps F1 H1 ps1) (b : Ext F1 H1 ps1 F2 H2 ps2) : Ext F H ps F2 H2 ps2 := by
  obtain ⟨l1, e1, n1⟩ := a.pp
  obtain ⟨l2, e2, n2⟩ := b.pp
  refine ⟨fun x o h => b.f x o (a.f x o h), fun x o h n => b.h x o (a.h x o h n) ?_, fun x h => b.h' x (a.h' x h), fun x h k => ?_, l1 ++ l2, by rw [e2, e1, List.append_assoc], fun x hx => ?_⟩
  · rw [e1]
    intro z
    rcases List.mem_append.mp z with z | z
    · exact n z
    · rw [n1 x z] at h; cases h
  · by_cases q : F1 x = none
    · have := b.new x q k
      by_cases r : H x = none
      · exact r
      · exact absurd this (a.h' x r)
    · exact a.new x h q
  · rcases List.mem_append.mp hx with z | z
    · exact n1 x z
    · have := n2 x z
      by_cases r : H x = none
      · exact r
      · exact absurd this (a.h' x r)

section
variable {K : PySem.W.Frag} {cl : String → Option Addr} {F F' H H' : Hp} {ps ps' : List Addr}
theorem Rd.up {a : Addr} {u : HO} (f : ∀ a o, F a = some o → F' a = some o) (h : Rd F a u) : Rd F' a u := by
  rcases h with h | ⟨o, h⟩
  · exact .inl (f _ _ h)
  · exact .inr ⟨o, f _ _ h⟩
theorem sqt_up {a : Addr} {xs : List V} (f : ∀ a o, F a = some o → F' a = some o) (h : SqT K F a xs) : SqT K F' a xs := h.imp (Rd.up f) id
theorem sql_up {a : Addr} {xs : List V} (f : ∀ a o, F a = some o → F' a = some o) (h : SqL K F a xs) : SqL K F' a xs := h.imp (Rd.up f) id
mutual
theorem DR.up (f : ∀ a o, F a = some o → F' a = some o) (p : ∀ (n : Nat) (a : Addr), ps[n]? = some a → ps'[n]? = some a) : ∀ {v : V} {d : D}, DR K cl F ps v d → DR K cl F' ps' v d
  | _, _, .non => .non
  | _, _, .bool b => .bool b
  | _, _, .int b => .int b
  | _, _, .str b => .str b
  | _, _, .tup h1 h2 => .tup (f _ _ h1) (DRs.up f p h2)
  | _, _, .lst h1 h2 => .lst (f _ _ h1) (DRs.up f p h2)
  | _, _, .scr h1 h2 => .scr (sql_up f h1) (DRs.up f p h2)
  | _, _, .dict h1 h2 => .dict (Rd.up f h1) (OR.up f p h2)
  | _, _, .ref h1 => .ref (p _ _ h1)
  | _, _, .ty n => .ty n
  | _, _, .cls h1 => .cls h1
  | _, _, .exc0 h1 h2 => .exc0 h1 (f _ _ h2)
  | _, _, .exc1 h1 h2 h3 h4 => .exc1 h1 (f _ _ h2) (f _ _ h3) (DR.up f p h4)
theorem DRs.up (f : ∀ a o, F a = some o → F' a = some o) (p : ∀ (n : Nat) (a : Addr), ps[n]? = some a → ps'[n]? = some a) : ∀ {vs : List V} {ds : List D}, DRs K cl F ps vs ds → DRs K cl F' ps' vs ds
  | _, _, .nil => .nil
  | _, _, .cons h1 h2 => .cons (DR.up f p h1) (DRs.up f p h2)
theorem DRk.up (f : ∀ a o, F a = some o → F' a = some o) (p : ∀ (n : Nat) (a : Addr), ps[n]? = some a → ps'[n]? = some a) : ∀ {vs : List (Key × V)} {ds : List (D × D)}, DRk K cl F ps vs ds → DRk K cl F' ps' vs ds
  | _, _, .nil => .nil
  | _, _, .cons h1 h2 => .cons (DR.up f p h1) (DRk.up f p h2)
theorem DRt.up (f : ∀ a o, F a = some o → F' a = some o) (p : ∀ (n : Nat) (a : Addr), ps[n]? = some a → ps'[n]? = some a) : ∀ {vs : List (List Key × V)} {ds : List (D × D)}, DRt K cl F ps vs ds → DRt K cl F' ps' vs ds
  | _, _, .nil => .nil
  | _, _, .cons h1 h2 => .cons (DR.up f p h1) (DRt.up f p h2)
theorem OR.up (f : ∀ a o, F a = some o → F' a = some o) (p : ∀ (n : Nat) (a : Addr), ps[n]? = some a → ps'[n]? = some a) : ∀ {o : HO} {d : D}, OR K cl F ps o d → OR K cl F' ps' o d
  | _, _, .lst h => .lst (DRs.up f p h)
  | _, _, .dK h => .dK (DRk.up f p h)
  | _, _, .dT h => .dT (DRt.up f p h)
end
theorem SR1.up (f : ∀ a o, F a = some o → F' a = some o) (p : ∀ (n : Nat) (a : Addr), ps[n]? = some a → ps'[n]? = some a) : ∀ {o : HO} {d : SO}, SR1 K cl F ps o d → SR1 K cl F' ps' o d
  | _, _, .lst h => .lst (DRs.up f p h)
theorem Ext.ix (x : Ext F H ps F' H' ps') : ∀ (n : Nat) (a : Addr), ps[n]? = some a → ps'[n]? = some a := fun n a e => by
  obtain ⟨l, e1, _⟩ := x.pp
  rw [e1, List.getElem?_append_left]
  · exact e
  · exact (List.getElem?_eq_some_iff.mp e).1
theorem DR.ext {d : D} {v : V} (h : DR K cl F ps v d) (x : Ext F H ps F' H' ps') : DR K cl F' ps' v d := h.up x.f x.ix
theorem DRs.ext {d : List D} {v : List V} (h : DRs K cl F ps v d) (x : Ext F H ps F' H' ps') : DRs K cl F' ps' v d := h.up x.f x.ix
theorem OR.ext {d : D} {o : HO} (h : OR K cl F ps o d) (x : Ext F H ps F' H' ps') : OR K cl F' ps' o d := h.up x.f x.ix
theorem SR1.ext {d : SO} {o : HO} (h : SR1 K cl F ps o d) (x : Ext F H ps F' H' ps') : SR1 K cl F' ps' o d := h.up x.f x.ix
theorem DRs.length : ∀ {vs : List V} {ds : List D}, DRs K cl F ps vs ds → vs.length = ds.length
  | _, _, .nil => rfl
  | _, _, .cons _ h => by rw [List.length_cons, List.length_cons, DRs.length h]
theorem DRs.get : ∀ {vs : List V} {ds : List D} {i : Nat} {d : D}, DRs K cl F ps vs ds → ds[i]? = some d → ∃ v, vs[i]? = some v ∧ DR K cl F ps v d
  | _, _, i, d, .nil, e => by simp at e
  | _, _, 0, d, .cons h _, e => by
    simp at e
    subst e
    exact ⟨_, rfl, h⟩
  | _, _, i + 1, d, .cons _ h, e => by
    obtain ⟨v, e1, r⟩ := DRs.get (i := i) (d := d) h (by simpa using e)
    exact ⟨v, by simpa using e1, r⟩
theorem DRs.app : ∀ {vs us : List V} {ds es : List D}, DRs K cl F ps vs ds → DRs K cl F ps us es → DRs K cl F ps (vs ++ us) (ds ++ es)
  | _, _, _, _, .nil, h => h
  | _, _, _, _, .cons h1 h2, h => .cons h1 (DRs.app h2 h)
theorem DRs.drop : ∀ {vs : List V} {ds : List D} (n : Nat), DRs K cl F ps vs ds → DRs K cl F ps (vs.drop n) (ds.drop n)
  | _, _, 0, h => h
  | _, _, _ + 1, .nil => .nil
  | _, _, n + 1, .cons _ h => DRs.drop n h
theorem DRs.take : ∀ {vs : List V} {ds : List D} (n : Nat), DRs K cl F ps vs ds → DRs K cl F ps (vs.take n) (ds.take n)
  | _, _, 0, _ => .nil
  | _, _, _ + 1, .nil => .nil
  | _, _, n + 1, .cons h1 h => .cons h1 (DRs.take n h)
theorem DRs.rev : ∀ {vs : List V} {ds : List D}, DRs K cl F ps vs ds → DRs K cl F ps vs.reverse ds.reverse
  | _, _, .nil => .nil
  | _, _, .cons h1 h => by
    rw [List.reverse_cons, List.reverse_cons]
    exact DRs.app (DRs.rev h) (.cons h1 .nil)
theorem DRs.set : ∀ {vs : List V} {ds : List D} {v : V} {d : D} (i : Nat), DRs K cl F ps vs ds → DR K cl F ps v d → DRs K cl F ps (vs.set i v) (ds.set i d)
  | _, _, _, _, _, .nil, _ => .nil
  | _, _, _, _, 0, .cons _ h, r => .cons r h
  | _, _, _, _, i + 1, .cons h1 h, r => .cons h1 (DRs.set i h r)
/-- a new object is laid, and known -/
theorem ext_laid {p : Addr} {o : HO} (hs : ∀ a o, F a = some o → H a = some o) (hp : H p = none) : Ext F H ps (upd F p o) (upd H p o) ps := by
  have fp : F p = none := by
    cases q : F p with
    | none => rfl
    | some u => rw [hs p u q] at hp; cases hp
  refine ⟨fun a u e => ?_, fun a u e _ => ?_, fun a e => ?_, fun a e k => ?_, [], by simp, by simp⟩
  · rw [upd_ne (ne_of_none e fp)]; exact e
  · rw [upd_ne (ne_of_none e hp)]; exact e
  · by_cases q : a = p
    · subst q; rw [upd_same]; simp
    · rw [upd_ne q]; exact e
  · by_cases q : a = p
    · subst q; exact hp
    · rw [upd_ne q] at k; exact absurd e k
/-- .. or not known -/
theorem ext_new {p : Addr} {o : HO} (hp : H p = none) : Ext F H ps F (upd H p o) ps := by
  refine ⟨fun a u e => e, fun a u e _ => ?_, fun a e => ?_, fun a e k => absurd e k, [], by simp, by simp⟩
  · rw [upd_ne (ne_of_none e hp)]; exact e
  · by_cases q : a = p
    · subst q; rw [upd_same]; simp
    · rw [upd_ne q]; exact e
theorem Wld.none {c : Sto} {p : Addr} (w : Wld K cl F H ps c) (hp : H p = none) : F p = none := by
  cases q : F p with
  | none => rfl
  | some u => rw [w.sub p u q] at hp; cases hp
theorem Wld.notin {c : Sto} {p : Addr} (w : Wld K cl F H ps c) (hp : H p = Option.none) : p ∉ ps := fun hm => by
  obtain ⟨n, hn, e⟩ := List.getElem_of_mem hm
  have e1 : ps[n]? = some p := by rw [List.getElem?_eq_getElem hn, e]
  have hc : n < c.length := by rw [← w.len]; exact hn
  obtain ⟨_, o, ho, _⟩ := w.at_ n p c[n] e1 (List.getElem?_eq_getElem hc)
  rw [ho] at hp; cases hp
theorem Wld.laid {c : Sto} {p : Addr} {o : HO} (w : Wld K cl F H ps c) (hp : H p = Option.none) : Wld K cl (upd F p o) (upd H p o) ps c := by
  have x : Ext F H ps (upd F p o) (upd H p o) ps := ext_laid w.sub hp
  refine ⟨fun a u e => ?_, w.len, w.nd, fun n q so e1 e2 => ?_⟩
  · by_cases q : a = p
    · subst q; rw [upd_same] at e ⊢; exact e
    · rw [upd_ne q] at e ⊢; exact w.sub a u e
  · obtain ⟨h1, u, h2, h3⟩ := w.at_ n q so e1 e2
    have ne : q ≠ p := ne_of_none h2 hp
    exact ⟨by rw [upd_ne ne]; exact h1, u, by rw [upd_ne ne]; exact h2, h3.ext x⟩
theorem Wld.new {c : Sto} {p : Addr} {o : HO} (w : Wld K cl F H ps c) (hp : H p = Option.none) : Wld K cl F (upd H p o) ps c := by
  refine ⟨fun a u e => ?_, w.len, w.nd, fun n q so e1 e2 => ?_⟩
  · have h := w.sub a u e
    rw [upd_ne (ne_of_none h hp)]; exact h
  · obtain ⟨h1, u, h2, h3⟩ := w.at_ n q so e1 e2
    have ne : q ≠ p := ne_of_none h2 hp
    exact ⟨h1, u, by rw [upd_ne ne]; exact h2, h3⟩
/-- an object that is not known changes -/
theorem Wld.chg {c : Sto} {p : Addr} {o : HO} (w : Wld K cl F H ps c) (hp : F p = Option.none) (hn : p ∉ ps) : Wld K cl F (upd H p o) ps c := by
  refine ⟨fun a u e => ?_, w.len, w.nd, fun n q so e1 e2 => ?_⟩
  · rw [upd_ne (ne_of_none e hp)]; exact w.sub a u e
  · obtain ⟨h1, u, h2, h3⟩ := w.at_ n q so e1 e2
    have ne : q ≠ p := fun z => hn (z ▸ List.mem_of_getElem? e1)
    exact ⟨h1, u, by rw [upd_ne ne]; exact h2, h3⟩
end
end DL
namespace DL
open PySem PySem.Spec PyProof.Rows L2

/-- what is known of a slot: nothing, its data, or a list (a dict) that is this slot's alone -/
inductive Slot where
  | no | val (d : D) | own (d : D)
abbrev Rho := List Slot

/-- the constant part of a def's walk -/
structure Gx where
  K : PySem.W.Frag
  cl : String → Option Addr
  F0 : Hp
  H0 : Hp
  p0 : List Addr

structure Sls (G : Gx) (σ : L2.St) (F H : Hp) (ps : List Addr) (ρ : Rho) : Prop where
  len : σ.length = ρ.length
  val : ∀ (i : Nat) (d : D), ρ[i]? = some (.val d) → ∃ v, σ[i]? = some (some v) ∧ DR G.K G.cl F ps v d
  own : ∀ (i : Nat) (d : D), ρ[i]? = some (.own d) → ∃ (p : Addr) (o : HO), σ[i]? = some (some (.ref p)) ∧ F p = none ∧ p ∉ ps ∧ G.H0 p = none ∧ H p = some o ∧ OR G.K G.cl F ps o d
  sep : ∀ (i j : Nat) (d e : D) (p : Addr), i ≠ j → ρ[i]? = some (.own d) → ρ[j]? = some (.own e) → σ[i]? = some (some (.ref p)) → σ[j]? = some (some (.ref p)) → False

/-- an error as it lies -/
def ER (G : Gx) (F : Hp) (ps : List Addr) (x : Exc) (cls : Value) (dd : Option Addr) : Prop :=
  ∃ C, cls = .ref C ∧ G.cl x.cls = some C ∧ ((x.fs = [] ∧ dd = none) ∨ ∃ d fs, dd = some d ∧ F d = some (.xd fs) ∧ Paired (fun (p : Str × V) (q : String × D) => p.1 = Str.ofString q.1 ∧ DR G.K G.cl F ps p.2 q.2) fs x.fs)

section
variable (G : Gx)
def Wl (F H : Hp) (ps : List Addr) (c : Sto) : Prop := Wld G.K G.cl F H ps c
/-- what an expression's value leaves: known data -/
def Post (W : WX) (σ : L2.St) (F H : Hp) (ps : List Addr) (r : Res D) (Q : VK) : Prop := match r with
  | .ok d c => ∀ v F' H' ps', Ext F H ps F' H' ps' → Wl G F' H' ps' c → DR G.K G.cl F' ps' v d → Q v H'
  | .err x c => ∀ cls dd F' H' ps', Ext F H ps F' H' ps' → Wl G F' H' ps' c → ER G F' ps' x cls dd → W cls dd σ H'
  | .bad => False
/-- an operand: known, or the content of what is a slot's alone -/
inductive DT (F H : Hp) (ps : List Addr) : V → D → Prop
  | known {v : V} {d : D} : DR G.K G.cl F ps v d → DT F H ps v d
  | own {p : Addr} {o : HO} {d : D} : H p = some o → p ∉ ps → OR G.K G.cl F ps o d → DT F H ps (.ref p) d
def PostO (W : WX) (σ : L2.St) (F H : Hp) (ps : List Addr) (r : Res D) (Q : VK) : Prop := match r with
  | .ok d c => ∀ v F' H' ps', Ext F H ps F' H' ps' → Wl G F' H' ps' c → DT G F' H' ps' v d → Q v H'
  | .err x c => ∀ cls dd F' H' ps', Ext F H ps F' H' ps' → Wl G F' H' ps' c → ER G F' ps' x cls dd → W cls dd σ H'
  | .bad => False
/-- a new object -/
def PostF (W : WX) (σ : L2.St) (F H : Hp) (ps : List Addr) (r : Res D) (Q : VK) : Prop := match r with
  | .ok d c => ∀ p o F' H' ps', Ext F H ps F' H' ps' → Wl G F' H' ps' c → F' p = none → H p = none → p ∉ ps' → H' p = some o → OR G.K G.cl F' ps' o d → Q (.ref p) H'
  | .err x c => ∀ cls dd F' H' ps', Ext F H ps F' H' ps' → Wl G F' H' ps' c → ER G F' ps' x cls dd → W cls dd σ H'
  | .bad => False
def PostT (W : WX) (σ : L2.St) (F H : Hp) (ps : List Addr) (r : Res Bool) (Q : Bool → Hp → Prop) : Prop := match r with
  | .ok b c => ∀ F' H' ps', Ext F H ps F' H' ps' → Wl G F' H' ps' c → Q b H'
  | .err x c => ∀ cls dd F' H' ps', Ext F H ps F' H' ps' → Wl G F' H' ps' c → ER G F' ps' x cls dd → W cls dd σ H'
  | .bad => False
def PostL (W : WX) (σ : L2.St) (F H : Hp) (ps : List Addr) (r : Res (List D)) (Q : List V → Hp → Prop) : Prop := match r with
  | .ok ds c => ∀ vs F' H' ps', Ext F H ps F' H' ps' → Wl G F' H' ps' c → DRs G.K G.cl F' ps' vs ds → Q vs H'
  | .err x c => ∀ cls dd F' H' ps', Ext F H ps F' H' ps' → Wl G F' H' ps' c → ER G F' ps' x cls dd → W cls dd σ H'
  | .bad => False
def At (σ : L2.St) (H : Hp) (ρ : Rho) (k : Hp → List Addr → Sto → Prop) : Prop := ∃ F ps c, Wl G F H ps c ∧ Sls G σ F H ps ρ ∧ k F ps c
end

/-! ### the judgements -/
structure DE (G : Gx) (X : Cx) (W : WX) (ρ : Rho) (e : Expr) (m : M D) : Prop where
  run : PE X e fun σ H Q => At G σ H ρ fun F ps c => Post G W σ F H ps (m c) Q
structure DO (G : Gx) (X : Cx) (W : WX) (ρ : Rho) (e : Expr) (m : M D) : Prop where
  run : PE X e fun σ H Q => At G σ H ρ fun F ps c => PostO G W σ F H ps (m c) Q
structure DF (G : Gx) (X : Cx) (W : WX) (ρ : Rho) (e : Expr) (m : M D) : Prop where
  run : PE X e fun σ H Q => At G σ H ρ fun F ps c => PostF G W σ F H ps (m c) Q
structure DC (G : Gx) (X : Cx) (W : WX) (ρ : Rho) (e : Expr) (m : M Bool) : Prop where
  run : PT X e fun σ H Q => At G σ H ρ fun F ps c => PostT G W σ F H ps (m c) Q
structure DA (G : Gx) (X : Cx) (W : WX) (ρ : Rho) (es : List Expr) (m : M (List D)) : Prop where
  run : PA X es fun σ H Q => At G σ H ρ fun F ps c => PostL G W σ F H ps (m c) Q

theorem pe_imp {X : Cx} {e : Expr} {t t' : TE} (h : PE X e t) (k : ∀ σ H Q, t' σ H Q → t σ H Q) : PE X e t' := ⟨fun pins s σ H Q I q => h.run pins s σ H Q I (k _ _ _ q)⟩
theorem pt_imp {X : Cx} {e : Expr} {t t' : TT} (h : PT X e t) (k : ∀ σ H Q, t' σ H Q → t σ H Q) : PT X e t' := ⟨fun pins s σ H Q I q => h.run pins s σ H Q I (k _ _ _ q)⟩
theorem pa_imp {X : Cx} {e : List Expr} {t t' : TA} (h : PA X e t) (k : ∀ σ H Q, t' σ H Q → t σ H Q) : PA X e t' := ⟨fun pos pins s σ H Q I q => h.run pos pins s σ H Q I (k _ _ _ q)⟩
theorem ps_imp {X : Cx} {e : Stmt} {t t' : TS} (h : PS X e t) (k : ∀ D σ H, t' D σ H → t D σ H) : PS X e t' := ⟨fun pins s σ H D I q => h.run pins s σ H D I (k _ _ _ q)⟩
theorem pss_imp {X : Cx} {e : List Stmt} {t t' : TS} (h : PSs X e t) (k : ∀ D σ H, t' D σ H → t D σ H) : PSs X e t' := ⟨fun pins s σ H D I q => h.run pins s σ H D I (k _ _ _ q)⟩

section
variable {G : Gx} {X : Cx} {W : WX} {ρ : Rho} {σ : L2.St} {F F' H H' : Hp} {ps ps' : List Addr} {c : Sto}
theorem OR.dr {p : Addr} {o : HO} {d : D} (h : F p = some o) (r : OR G.K G.cl F ps o d) : DR G.K G.cl F ps (.ref p) d := by
  cases r with
  | lst r => exact .lst h r
  | dK r => exact .dict (Rd.of h) (.dK r)
  | dT r => exact .dict (Rd.of h) (.dT r)
theorem Ext.none {p : Addr} (x : Ext F H ps F' H' ps') (h : F p = Option.none) (k : H p ≠ Option.none) : F' p = Option.none := by
  cases e : F' p with
  | none => rfl
  | some o => exact absurd (x.new p h (by rw [e]; simp)) k
theorem Ext.notin {p : Addr} (x : Ext F H ps F' H' ps') (h : p ∉ ps) (k : H p ≠ Option.none) : p ∉ ps' := by
  obtain ⟨l, e, hl⟩ := x.pp
  rw [e]
  intro z
  rcases List.mem_append.mp z with z | z
  · exact h z
  · exact k (hl p z)
theorem Sls.ext (s : Sls G σ F H ps ρ) (x : Ext F H ps F' H' ps') : Sls G σ F' H' ps' ρ := by
  refine ⟨s.len, fun i d e => ?_, fun i d e => ?_, s.sep⟩
  · obtain ⟨v, h1, h2⟩ := s.val i d e
    exact ⟨v, h1, h2.ext x⟩
  · obtain ⟨p, o, h1, h2, h3, h4, h5, h6⟩ := s.own i d e
    have ne : H p ≠ none := by rw [h5]; simp
    exact ⟨p, o, h1, x.none h2 ne, x.notin h3 ne, h4, x.h p o h5 h3, h6.ext x⟩
theorem DT.ext {v : V} {d : D} (h : DT G F H ps v d) (x : Ext F H ps F' H' ps') : DT G F' H' ps' v d := by
  cases h with
  | known h => exact .known (h.ext x)
  | own h1 h2 h3 => exact .own (x.h _ _ h1 h2) (x.notin h2 (by rw [h1]; simp)) (h3.ext x)
/-! what comes behind -/
theorem post_then {α : Type} {m : M α} {f : α → M D} {Q : VK} {P : Res α → Prop}
    (h : Post G W σ F H ps ((m >>= f) c) Q)
    (k : ∀ a c', m c = .ok a c' → Post G W σ F H ps (f a c') Q → P (.ok a c'))
    (ke : ∀ x c', m c = .err x c' → (∀ cls dd F' H' ps', Ext F H ps F' H' ps' → Wl G F' H' ps' c' → ER G F' ps' x cls dd → W cls dd σ H') → P (.err x c')) : P (m c) := by
  have e0 : (m >>= f) c = M.bind m f c := rfl
  rw [e0] at h
  unfold M.bind at h
  cases e : m c with
  | ok a c' => rw [e] at h; exact k a c' e h
  | err x c' => rw [e] at h; exact ke x c' e h
  | bad => rw [e] at h; exact h.elim
theorem Post.later {r : Res D} {Q : VK} (x : Ext F H ps F' H' ps') (h : Post G W σ F H ps r Q) : Post G W σ F' H' ps' r Q := by
  cases r with
  | ok d c' => exact fun v F2 H2 ps2 x2 w r => h v F2 H2 ps2 (x.trans x2) w r
  | err y c' => exact fun cls dd F2 H2 ps2 x2 w r => h cls dd F2 H2 ps2 (x.trans x2) w r
  | bad => exact h
theorem PostO.later {r : Res D} {Q : VK} (x : Ext F H ps F' H' ps') (h : PostO G W σ F H ps r Q) : PostO G W σ F' H' ps' r Q := by
  cases r with
  | ok d c' => exact fun v F2 H2 ps2 x2 w r => h v F2 H2 ps2 (x.trans x2) w r
  | err y c' => exact fun cls dd F2 H2 ps2 x2 w r => h cls dd F2 H2 ps2 (x.trans x2) w r
  | bad => exact h
theorem PostT.later {r : Res Bool} {Q : Bool → Hp → Prop} (x : Ext F H ps F' H' ps') (h : PostT G W σ F H ps r Q) : PostT G W σ F' H' ps' r Q := by
  cases r with
  | ok d c' => exact fun F2 H2 ps2 x2 w => h F2 H2 ps2 (x.trans x2) w
  | err y c' => exact fun cls dd F2 H2 ps2 x2 w r => h cls dd F2 H2 ps2 (x.trans x2) w r
  | bad => exact h
theorem PostL.later {r : Res (List D)} {Q : List V → Hp → Prop} (x : Ext F H ps F' H' ps') (h : PostL G W σ F H ps r Q) : PostL G W σ F' H' ps' r Q := by
  cases r with
  | ok d c' => exact fun v F2 H2 ps2 x2 w r => h v F2 H2 ps2 (x.trans x2) w r
  | err y c' => exact fun cls dd F2 H2 ps2 x2 w r => h cls dd F2 H2 ps2 (x.trans x2) w r
  | bad => exact h
theorem PostF.later {r : Res D} {Q : VK} (x : Ext F H ps F' H' ps') (h : PostF G W σ F H ps r Q) : PostF G W σ F' H' ps' r Q := by
  cases r with
  | ok d c' => exact fun p o F2 H2 ps2 x2 w h1 h2 h3 h4 h5 => h p o F2 H2 ps2 (x.trans x2) w h1 (by
      cases e : H p with
      | none => rfl
      | some u => exact absurd h2 (x.h' p (by rw [e]; simp))) h3 h4 h5
  | err y c' => exact fun cls dd F2 H2 ps2 x2 w r => h cls dd F2 H2 ps2 (x.trans x2) w r
  | bad => exact h

theorem PostO.post {r : Res D} {Q : VK} (q : PostO G W σ F H ps r Q) : Post G W σ F H ps r Q := by
  cases r with
  | ok d c' => exact fun v F' H' ps' x w' r => q v F' H' ps' x w' (.known r)
  | err x c' => exact q
  | bad => exact q
theorem Post.postF {r : Res D} {Q : VK} (q : Post G W σ F H ps r Q) : PostF G W σ F H ps r Q := by
  cases r with
  | ok d c' =>
    intro p o F' H' ps' x w' h1 h2 h3 h4 h5
    have up : ∀ a u, F' a = some u → (upd F' p o) a = some u := fun a u e => by rw [upd_ne (ne_of_none e h1)]; exact e
    refine q (.ref p) (upd F' p o) H' ps' ?_ ?_ ?_
    · refine ⟨fun a u e => up a u (x.f a u e), x.h, x.h', fun a e k => ?_, x.pp⟩
      by_cases z : a = p
      · subst z; exact h2
      · rw [upd_ne z] at k; exact x.new a e k
    · refine ⟨fun a u e => ?_, w'.len, w'.nd, fun n r so e1 e2 => ?_⟩
      · by_cases z : a = p
        · subst z; rw [upd_same] at e; rw [← e]; exact h4
        · rw [upd_ne z] at e; exact w'.sub a u e
      · obtain ⟨g1, u, g2, g3⟩ := w'.at_ n r so e1 e2
        have ne : r ≠ p := fun z => h3 (z ▸ List.mem_of_getElem? e1)
        exact ⟨by rw [upd_ne ne]; exact g1, u, g2, g3.up up fun _ _ e => e⟩
    · exact OR.dr (o := o) upd_same (h5.up up fun _ _ e => e)
  | err x c' => exact q
  | bad => exact q
theorem At.imp {k k' : Hp → List Addr → Sto → Prop} (h : At G σ H ρ k) (f : ∀ F ps c, k F ps c → k' F ps c) : At G σ H ρ k' := by
  obtain ⟨F, ps, c, w, s, q⟩ := h
  exact ⟨F, ps, c, w, s, f _ _ _ q⟩
theorem DE.op {e : Expr} {m : M D} (h : DE G X W ρ e m) : DO G X W ρ e m := ⟨pe_imp h.run fun σ H Q q => q.imp fun _ _ _ z => z.post⟩
theorem DF.de {e : Expr} {m : M D} (h : DF G X W ρ e m) : DE G X W ρ e m := ⟨pe_imp h.run fun σ H Q q => q.imp fun _ _ _ z => z.postF⟩
theorem DF.op {e : Expr} {m : M D} (h : DF G X W ρ e m) : DO G X W ρ e m := h.de.op

/-! ### one and two operands -/
/-- the operation's reading is met by the plain function (known result) -/
def Snd1 (G : Gx) (r : V → Hp → VK → Prop) (op : D → M D) : Prop := ∀ W σ F H ps c x dx Q, Wl G F H ps c → DT G F H ps x dx → Post G W σ F H ps (op dx c) Q → r x H Q
def Snd2 (G : Gx) (r : R2) (op : D → D → M D) : Prop := ∀ W σ F H ps c x y dx dy Q, Wl G F H ps c → DT G F H ps x dx → DT G F H ps y dy → Post G W σ F H ps (op dx dy c) Q → r x y H Q
def Snd2F (G : Gx) (r : R2) (op : D → D → M D) : Prop := ∀ W σ F H ps c x y dx dy Q, Wl G F H ps c → DT G F H ps x dx → DT G F H ps y dy → PostF G W σ F H ps (op dx dy c) Q → r x y H Q
def Snd1F (G : Gx) (r : V → Hp → VK → Prop) (op : D → M D) : Prop := ∀ W σ F H ps c x dx Q, Wl G F H ps c → DT G F H ps x dx → PostF G W σ F H ps (op dx c) Q → r x H Q

theorem at_un {m : M D} {r : V → Hp → VK → Prop} {op : D → M D} (hr : Snd1 G r op) {Q : VK} (h : At G σ H ρ fun F ps c => Post G W σ F H ps ((m >>= op) c) Q) :
    At G σ H ρ fun F ps c => PostO G W σ F H ps (m c) fun x H1 => r x H1 Q := by
  obtain ⟨F, ps, c, w, s, q⟩ := h
  refine ⟨F, ps, c, w, s, ?_⟩
  refine post_then (P := fun r' => PostO G W σ F H ps r' fun x H1 => r x H1 Q) q (fun d c' _ q => ?_) fun x c' _ q => q
  intro v F' H' ps' x w' d'
  exact hr W σ F' H' ps' c' v d Q w' d' (q.later x)
theorem at_bin {ma mb : M D} {r : R2} {op : D → D → M D} (hr : Snd2 G r op) {Q : VK} (h : At G σ H ρ fun F ps c => Post G W σ F H ps ((ma >>= fun x => mb >>= fun y => op x y) c) Q) :
    At G σ H ρ fun F ps c => PostO G W σ F H ps (ma c) fun x H1 => At G σ H1 ρ fun F ps c => PostO G W σ F H1 ps (mb c) fun y H2 => r x y H2 Q := by
  obtain ⟨F, ps, c, w, s, q⟩ := h
  refine ⟨F, ps, c, w, s, ?_⟩
  refine post_then (P := fun r' => PostO G W σ F H ps r' _) q (fun d c' _ q => ?_) fun x c' _ q => q
  intro v F' H' ps' x w' d'
  refine ⟨F', ps', c', w', s.ext x, ?_⟩
  refine post_then (P := fun r' => PostO G W σ F' H' ps' r' _) (q.later x) (fun d2 c2 _ q => ?_) fun x c' _ q => q
  intro v2 F2 H2 ps2 x2 w2 d2'
  exact hr W σ F2 H2 ps2 c2 v v2 d d2 Q w2 (d'.ext x2) d2' (q.later x2)
end
end DL
namespace DL
open PySem PySem.Spec PyProof.Rows L2

inductive Out (S L : Type) where
  | nx (s : S) | rt (d : D) | bk (l : L) | ct (l : L)

/-- more is known -/
structure Grow (F : Hp) (ps : List Addr) (F' : Hp) (ps' : List Addr) : Prop where
  f : ∀ a o, F a = some o → F' a = some o
  p : ∀ (n : Nat) (a : Addr), ps[n]? = some a → ps'[n]? = some a
theorem Grow.refl {F : Hp} {ps : List Addr} : Grow F ps F ps := ⟨fun _ _ h => h, fun _ _ h => h⟩
theorem Grow.trans {F F1 F2 : Hp} {ps ps1 ps2 : List Addr} (a : Grow F ps F1 ps1) (b : Grow F1 ps1 F2 ps2) : Grow F ps F2 ps2 := ⟨fun x o h => b.f x o (a.f x o h), fun n x h => b.p n x (a.p n x h)⟩
theorem Ext.grow {F H F' H' : Hp} {ps ps' : List Addr} (x : Ext F H ps F' H' ps') : Grow F ps F' ps' := ⟨x.f, x.ix⟩
section
variable (G : Gx)
def PostS {S L : Type} (W : WX) (toS : S → Rho) (toL : L → Rho) (F₀ : Hp) (q₀ : List Addr) (r : Res (Out S L)) (E : Ends) : Prop := match r with
  | .ok (.nx s) c => ∀ σ F H ps, Ext G.F0 G.H0 G.p0 F H ps → Grow F₀ q₀ F ps → Wl G F H ps c → Sls G σ F H ps (toS s) → E.nx σ H
  | .ok (.rt d) c => ∀ v F H ps, Ext G.F0 G.H0 G.p0 F H ps → Wl G F H ps c → DR G.K G.cl F ps v d → E.rt v H
  | .ok (.bk s) c => ∀ σ F H ps, Ext G.F0 G.H0 G.p0 F H ps → Grow F₀ q₀ F ps → Wl G F H ps c → Sls G σ F H ps (toL s) → E.bk σ H
  | .ok (.ct s) c => ∀ σ F H ps, Ext G.F0 G.H0 G.p0 F H ps → Grow F₀ q₀ F ps → Wl G F H ps c → Sls G σ F H ps (toL s) → E.ct σ H
  | .err x c => ∀ cls dd σ F H ps, Ext G.F0 G.H0 G.p0 F H ps → Wl G F H ps c → ER G F ps x cls dd → W cls dd σ H
  | .bad => False
def AtS (σ : L2.St) (H : Hp) (ρ : Rho) (k : Hp → List Addr → Sto → Prop) : Prop := ∃ F ps c, Ext G.F0 G.H0 G.p0 F H ps ∧ Wl G F H ps c ∧ Sls G σ F H ps ρ ∧ k F ps c
end
structure DS {S L : Type} (G : Gx) (X : Cx) (W : WX) (toS : S → Rho) (toL : L → Rho) (ρ : Rho) (st : Stmt) (m : M (Out S L)) : Prop where
  run : PS X st fun E σ H => AtS G σ H ρ fun F ps c => PostS G W toS toL F ps (m c) E
structure DB {S L : Type} (G : Gx) (X : Cx) (W : WX) (toS : S → Rho) (toL : L → Rho) (ρ : Rho) (st : List Stmt) (m : M (Out S L)) : Prop where
  run : PSs X st fun E σ H => AtS G σ H ρ fun F ps c => PostS G W toS toL F ps (m c) E

/-- fewer slots are known -/
inductive Sub : Rho → Rho → Prop
  | nil : Sub [] []
  | keep {s : Slot} {a b : Rho} : Sub a b → Sub (s :: a) (s :: b)
  | drop {s : Slot} {a b : Rho} : Sub a b → Sub (s :: a) (.no :: b)
theorem Sub.refl : ∀ (a : Rho), Sub a a
  | [] => .nil
  | _ :: a => .keep (Sub.refl a)
theorem Sub.len : ∀ {a b : Rho}, Sub a b → a.length = b.length
  | _, _, .nil => rfl
  | _, _, .keep h => by rw [List.length_cons, List.length_cons, h.len]
  | _, _, .drop h => by rw [List.length_cons, List.length_cons, h.len]
theorem Sub.get : ∀ {a b : Rho} {i : Nat} {s : Slot}, Sub a b → b[i]? = some s → s = .no ∨ a[i]? = some s
  | _, _, _, _, .nil, e => by simp at e
  | _, _, 0, _, .keep h, e => .inr (by simpa using e)
  | _, _, i + 1, _, .keep h, e => (Sub.get (i := i) h (by simpa using e)).imp id fun z => by simpa using z
  | _, _, 0, _, .drop h, e => .inl (by simp at e; exact e.symm)
  | _, _, i + 1, _, .drop h, e => (Sub.get (i := i) h (by simpa using e)).imp id fun z => by simpa using z

section
variable {G : Gx} {X : Cx} {W : WX} {ρ ρ' : Rho} {σ : L2.St} {F F' H H' : Hp} {ps ps' : List Addr} {c : Sto} {S L S' : Type} {toS : S → Rho} {toL : L → Rho} {toS' : S' → Rho}
theorem Sls.weak (s : Sls G σ F H ps ρ) (h : Sub ρ ρ') : Sls G σ F H ps ρ' := by
  refine ⟨s.len.trans h.len, fun i d e => ?_, fun i d e => ?_, fun i j d e p n e1 e2 h1 h2 => ?_⟩
  · rcases h.get e with z | z
    · cases z
    · exact s.val i d z
  · rcases h.get e with z | z
    · cases z
    · exact s.own i d z
  · rcases h.get e1 with z | z
    · cases z
    · rcases h.get e2 with z2 | z2
      · cases z2
      · exact s.sep i j d e p n z z2 h1 h2
theorem get_set {α : Type} {l : List α} {i j : Nat} {x y : α} (h : (l.set i x)[j]? = some y) : (j = i ∧ y = x) ∨ (j ≠ i ∧ l[j]? = some y) := by
  by_cases z : j = i
  · subst z
    by_cases hl : j < l.length
    · rw [List.getElem?_set_self hl] at h; cases h; exact .inl ⟨rfl, rfl⟩
    · rw [List.getElem?_eq_none (by simpa using hl)] at h; cases h
  · rw [List.getElem?_set_ne (Ne.symm z)] at h; exact .inr ⟨z, h⟩
theorem set_get {α : Type} {l : List α} {i : Nat} {x : α} (h : i < l.length) : (l.set i x)[i]? = some x := List.getElem?_set_self h
/-- a slot is stored: known data -/
theorem Sls.set {i : Nat} {v : V} {d : D} (s : Sls G σ F H ps ρ) (r : DR G.K G.cl F ps v d) : Sls G (σ.set i (some v)) F H ps (ρ.set i (.val d)) := by
  refine ⟨by rw [List.length_set, List.length_set, s.len], fun j e h => ?_, fun j e h => ?_, fun j k d1 d2 p n h1 h2 g1 g2 => ?_⟩
  · have hj : j < ρ.length := by
      have := (List.getElem?_eq_some_iff.mp h).1
      simpa using this
    rcases get_set h with ⟨z, q⟩ | ⟨z, q⟩
    · cases q; subst z
      exact ⟨v, set_get (by rw [s.len]; exact hj), r⟩
    · obtain ⟨u, h1, h2⟩ := s.val j e q
      exact ⟨u, by rw [List.getElem?_set_ne (Ne.symm z)]; exact h1, h2⟩
  · rcases get_set h with ⟨z, q⟩ | ⟨z, q⟩
    · cases q
    · obtain ⟨p, o, h1, h2⟩ := s.own j e q
      exact ⟨p, o, by rw [List.getElem?_set_ne (Ne.symm z)]; exact h1, h2⟩
  · rcases get_set h1 with ⟨z, q⟩ | ⟨z, q⟩
    · cases q
    · rcases get_set h2 with ⟨z2, q2⟩ | ⟨z2, q2⟩
      · cases q2
      · rw [List.getElem?_set_ne (Ne.symm z)] at g1
        rw [List.getElem?_set_ne (Ne.symm z2)] at g2
        exact s.sep j k d1 d2 p n q q2 g1 g2
/-- .. a new object, this slot's alone -/
theorem Sls.setO {i : Nat} {p : Addr} {o : HO} {d : D} (s : Sls G σ F H ps ρ) (hf : F p = none) (hn : p ∉ ps) (h0 : G.H0 p = none) (ho : H p = some o) (r : OR G.K G.cl F ps o d)
    (new : ∀ (j : Nat) (e : D), ρ[j]? = some (.own e) → σ[j]? ≠ some (some (.ref p))) : Sls G (σ.set i (some (.ref p))) F H ps (ρ.set i (.own d)) := by
  refine ⟨by rw [List.length_set, List.length_set, s.len], fun j e h => ?_, fun j e h => ?_, fun j k d1 d2 q n h1 h2 g1 g2 => ?_⟩
  · rcases get_set h with ⟨z, q⟩ | ⟨z, q⟩
    · cases q
    · obtain ⟨u, h1, h2⟩ := s.val j e q
      exact ⟨u, by rw [List.getElem?_set_ne (Ne.symm z)]; exact h1, h2⟩
  · have hj : j < ρ.length := by
      have := (List.getElem?_eq_some_iff.mp h).1
      simpa using this
    rcases get_set h with ⟨z, q⟩ | ⟨z, q⟩
    · cases q; subst z
      exact ⟨p, o, set_get (by rw [s.len]; exact hj), hf, hn, h0, ho, r⟩
    · obtain ⟨q2, o2, h1, h2⟩ := s.own j e q
      exact ⟨q2, o2, by rw [List.getElem?_set_ne (Ne.symm z)]; exact h1, h2⟩
  · have hj : j < σ.length := by
      have := (List.getElem?_eq_some_iff.mp h1).1
      rw [s.len]; simpa using this
    have hk : k < σ.length := by
      have := (List.getElem?_eq_some_iff.mp h2).1
      rw [s.len]; simpa using this
    rcases get_set h1 with ⟨z, q1⟩ | ⟨z, q1⟩
    · subst z
      rw [set_get hj] at g1
      cases g1
      rcases get_set h2 with ⟨z2, q2⟩ | ⟨z2, q2⟩
      · exact n z2.symm
      · rw [List.getElem?_set_ne (Ne.symm z2)] at g2
        exact new k d2 q2 g2
    · rw [List.getElem?_set_ne (Ne.symm z)] at g1
      rcases get_set h2 with ⟨z2, q2⟩ | ⟨z2, q2⟩
      · subst z2
        rw [set_get hk] at g2
        cases g2
        exact new j d1 q1 g1
      · rw [List.getElem?_set_ne (Ne.symm z2)] at g2
        exact s.sep j k d1 d2 q n q1 q2 g1 g2

/-! ### blocks -/
theorem postS_then {α : Type} {m : M α} {f : α → M (Out S L)} {E : Ends} {P : Res α → Prop} (hx : Ext G.F0 G.H0 G.p0 F H ps)
    (h : PostS G W toS toL F ps ((m >>= f) c) E)
    (k : ∀ a c', m c = .ok a c' → PostS G W toS toL F ps (f a c') E → P (.ok a c'))
    (ke : ∀ x c', m c = .err x c' → (∀ cls dd σ F' H' ps', Ext G.F0 G.H0 G.p0 F' H' ps' → Wl G F' H' ps' c' → ER G F' ps' x cls dd → W cls dd σ H') → P (.err x c')) : P (m c) := by
  have e0 : (m >>= f) c = M.bind m f c := rfl
  rw [e0] at h
  unfold M.bind at h
  cases e : m c with
  | ok a c' => rw [e] at h; exact k a c' e h
  | err x c' => rw [e] at h; exact ke x c' e h
  | bad => rw [e] at h; exact h.elim

theorem PostS.later {F₀ : Hp} {q₀ : List Addr} {r : Res (Out S L)} {E : Ends} (h : PostS G W toS toL F₀ q₀ r E) (g : Grow F₀ q₀ F ps) : PostS G W toS toL F ps r E := by
  cases r with
  | ok o c =>
    cases o with
    | nx s => exact fun σ F H ps x k w sl => h σ F H ps x (g.trans k) w sl
    | rt d => exact h
    | bk s => exact fun σ F H ps x k w sl => h σ F H ps x (g.trans k) w sl
    | ct s => exact fun σ F H ps x k w sl => h σ F H ps x (g.trans k) w sl
  | err y c => exact h
  | bad => exact h
theorem db_nil {s : S} (h : Sub ρ (toS s)) : DB (L := L) G X W toS toL ρ [] (pure (.nx s)) := ⟨pss_imp pss_nil fun E σ H ⟨F, ps, c, x, w, sl, q⟩ => q σ F H ps x .refl w (sl.weak h)⟩
def Out.on {S S' L : Type} (k : S → M (Out S' L)) : Out S L → M (Out S' L)
  | .nx s => k s
  | .rt d => pure (.rt d)
  | .bk l => pure (.bk l)
  | .ct l => pure (.ct l)
/-- a statement, then the rest -/
theorem db_cons {st : Stmt} {rest : List Stmt} {m : M (Out S' L)} {K : S' → M (Out S L)} (h1 : DS G X W toS' toL ρ st m) (h2 : ∀ s, DB G X W toS toL (toS' s) rest (K s)) : DB G X W toS toL ρ (st :: rest) (m >>= Out.on K) := by
  -- the rest's reading is chosen by the state behind the first
  refine ⟨pss_imp (pss_cons (u := fun E σ H => ∃ s, AtS G σ H (toS' s) fun F ps c => PostS G W toS toL F ps (K s c) E) h1.run ⟨fun pins s σ H E I ⟨s', q⟩ => (h2 s').run.run pins s σ H E I q⟩) fun E σ H ⟨F, ps, c, x, w, sl, q⟩ => ?_⟩
  refine ⟨F, ps, c, x, w, sl, ?_⟩
  refine postS_then (P := fun r => PostS G W toS' toL F ps r _) x q (fun o c' _ q => ?_) fun y c' _ q => q
  cases o with
  | nx s => exact fun σ' F' H' ps' x' g' w' sl' => ⟨s, F', ps', c', x', w', sl', q.later g'⟩
  | rt d => exact q
  | bk l => exact q
  | ct l => exact q

/-- an expression ahead of a statement's rest -/
theorem postS_val {m : M D} {f : D → M (Out S L)} {E : Ends} (hx : Ext G.F0 G.H0 G.p0 F H ps) (h : PostS G W toS toL F ps ((m >>= f) c) E) {Q : VK}
    (k : ∀ d c' v F' H' ps', Ext F H ps F' H' ps' → Wl G F' H' ps' c' → DR G.K G.cl F' ps' v d → PostS G W toS toL F' ps' (f d c') E → Q v H') : Post G W σ F H ps (m c) Q :=
  postS_then (P := fun r => Post G W σ F H ps r Q) hx h (fun d c' _ q => fun v F' H' ps' x w r => k d c' v F' H' ps' x w r (q.later x.grow)) fun y c' _ q => fun cls dd F' H' ps' x w r => q cls dd σ F' H' ps' (hx.trans x) w r
theorem postS_own {m : M D} {f : D → M (Out S L)} {E : Ends} (hx : Ext G.F0 G.H0 G.p0 F H ps) (h : PostS G W toS toL F ps ((m >>= f) c) E) {Q : VK}
    (k : ∀ d c' p o F' H' ps', Ext F H ps F' H' ps' → Wl G F' H' ps' c' → F' p = none → H p = none → p ∉ ps' → H' p = some o → OR G.K G.cl F' ps' o d → PostS G W toS toL F' ps' (f d c') E → Q (.ref p) H') : PostF G W σ F H ps (m c) Q :=
  postS_then (P := fun r => PostF G W σ F H ps r Q) hx h (fun d c' _ q => fun p o F' H' ps' x w h1 h2 h3 h4 h5 => k d c' p o F' H' ps' x w h1 h2 h3 h4 h5 (q.later x.grow)) fun y c' _ q => fun cls dd F' H' ps' x w r => q cls dd σ F' H' ps' (hx.trans x) w r
theorem postS_test {m : M Bool} {f : Bool → M (Out S L)} {E : Ends} (hx : Ext G.F0 G.H0 G.p0 F H ps) (h : PostS G W toS toL F ps ((m >>= f) c) E) {Q : Bool → Hp → Prop}
    (k : ∀ d c' F' H' ps', Ext F H ps F' H' ps' → Wl G F' H' ps' c' → PostS G W toS toL F' ps' (f d c') E → Q d H') : PostT G W σ F H ps (m c) Q :=
  postS_then (P := fun r => PostT G W σ F H ps r Q) hx h (fun d c' _ q => fun F' H' ps' x w => k d c' F' H' ps' x w (q.later x.grow)) fun y c' _ q => fun cls dd F' H' ps' x w r => q cls dd σ F' H' ps' (hx.trans x) w r

section
variable {e : Expr} {x : Str} {pos pos' : Pos} {rest : List Stmt} {m : M D}
/-- x = e -/
theorem db_asg (i : Nat) {K : D → M (Out S L)} (he : DE G X W ρ e m) (h2 : ∀ d, DB G X W toS toL (ρ.set i (.val d)) rest (K d)) (hN : X.N.Nodup) (hi : X.N[i]? = some x := by rfl) (hx : Loc X.env.scope x := by first | exact Or.inl rfl | exact Or.inr rfl)
    (hs : swapsWith e (some (.Name x pos')) pos.line X.env = pure false := by rfl) (hf : X.fn x = true ∨ X.env.scope.names.lookup x = some .local := by first | exact .inl rfl | exact .inr rfl) :
    DB G X W toS toL ρ (.Assign [.Name x pos'] e pos :: rest) (m >>= K) := by
  refine ⟨pss_imp (pss_cons (u := fun E σ H => ∃ d, AtS G σ H (ρ.set i (.val d)) fun F ps c => PostS G W toS toL F ps (K d c) E) (ps_set hN hi hx he.run hs hf) ⟨fun pins s σ H E I ⟨d, q⟩ => (h2 d).run.run pins s σ H E I q⟩) fun E σ H ⟨F, ps, c, x, w, sl, q⟩ => ?_⟩
  exact ⟨F, ps, c, w, sl, postS_val x q fun d c' v F' H' ps' x' w' r q => ⟨d, F', ps', c', x.trans x', w', (sl.ext x').set r, q⟩⟩
/-- .. a new list, a new dict, that is to be changed -/
theorem db_asgO (i : Nat) {K : D → M (Out S L)} (he : DF G X W ρ e m) (h2 : ∀ d, DB G X W toS toL (ρ.set i (.own d)) rest (K d)) (hN : X.N.Nodup) (hi : X.N[i]? = some x := by rfl) (hx : Loc X.env.scope x := by first | exact Or.inl rfl | exact Or.inr rfl)
    (hs : swapsWith e (some (.Name x pos')) pos.line X.env = pure false := by rfl) (hf : X.fn x = true ∨ X.env.scope.names.lookup x = some .local := by first | exact .inl rfl | exact .inr rfl) :
    DB G X W toS toL ρ (.Assign [.Name x pos'] e pos :: rest) (m >>= K) := by
  refine ⟨pss_imp (pss_cons (u := fun E σ H => ∃ d, AtS G σ H (ρ.set i (.own d)) fun F ps c => PostS G W toS toL F ps (K d c) E) (ps_set hN hi hx he.run hs hf) ⟨fun pins s σ H E I ⟨d, q⟩ => (h2 d).run.run pins s σ H E I q⟩) fun E σ H ⟨F, ps, c, x, w, sl, q⟩ => ?_⟩
  refine ⟨F, ps, c, w, sl, postS_own x q fun d c' p o F' H' ps' x' w' h1 h0 h3 h4 h5 q => ⟨d, F', ps', c', x.trans x', w', (sl.ext x').setO h1 h3 ?_ h4 h5 fun j e hj z => ?_, q⟩⟩
  · cases z : G.H0 p with
    | none => rfl
    | some u => exact absurd h0 (x.h' p (by rw [z]; simp))
  · obtain ⟨p', o', g1, _, _, _, g5, _⟩ := sl.own j e hj
    rw [g1] at z
    cases z
    rw [h0] at g5; cases g5
theorem db_ret (he : DE G X W ρ e m) : DB G X W toS toL ρ (.Return (some e) pos :: rest) (m >>= fun d => pure (.rt d)) := by
  refine ⟨pss_imp (pss_cons (u := tNever) (ps_ret he.run) pss_never) fun E σ H ⟨F, ps, c, x, w, sl, q⟩ => ?_⟩
  exact ⟨F, ps, c, w, sl, postS_val x q fun d c' v F' H' ps' x' w' r q => q v F' H' ps' (x.trans x') w' r⟩
theorem db_retN : DB G X W toS toL ρ (.Return none pos :: rest) (pure (.rt .non)) := by
  refine ⟨pss_imp (pss_cons (u := tNever) ps_retN pss_never) fun E σ H ⟨F, ps, c, x, w, sl, q⟩ => ?_⟩
  exact q .non F H ps x w .non
theorem db_expr {K : D → M (Out S L)} (he : DE G X W ρ e m) (h2 : ∀ d, DB G X W toS toL ρ rest (K d)) (hs : swapsWith e none pos.line X.env = pure false := by rfl) : DB G X W toS toL ρ (.Expr e pos :: rest) (m >>= K) := by
  refine ⟨pss_imp (pss_cons (u := fun E σ H => ∃ d, AtS G σ H ρ fun F ps c => PostS G W toS toL F ps (K d c) E) (ps_expr he.run hs) ⟨fun pins s σ H E I ⟨d, q⟩ => (h2 d).run.run pins s σ H E I q⟩) fun E σ H ⟨F, ps, c, x, w, sl, q⟩ => ?_⟩
  exact ⟨F, ps, c, w, sl, postS_val x q fun d c' v F' H' ps' x' w' r q => ⟨d, F', ps', c', x.trans x', w', sl.ext x', q⟩⟩
theorem db_pass {m : M (Out S L)} (h2 : DB G X W toS toL ρ rest m) : DB G X W toS toL ρ (.Pass pos :: rest) m := ⟨pss_imp (pss_cons ps_pass h2.run) fun E σ H q => q⟩
theorem db_brk {l : L} (h : Sub ρ (toL l)) : DB G X W toS toL ρ (.Break pos :: rest) (pure (.bk l)) := ⟨pss_imp (pss_cons (u := tNever) ps_break pss_never) fun E σ H ⟨F, ps, c, x, w, sl, q⟩ => q σ F H ps x .refl w (sl.weak h)⟩
theorem db_cont {l : L} (h : Sub ρ (toL l)) : DB G X W toS toL ρ (.Continue pos :: rest) (pure (.ct l)) := ⟨pss_imp (pss_cons (u := tNever) ps_continue pss_never) fun E σ H ⟨F, ps, c, x, w, sl, q⟩ => q σ F H ps x .refl w (sl.weak h)⟩
/-- code that is never come to -/
theorem db_bad {sts : List Stmt} : DB G X W toS toL ρ sts M.bad := ⟨pss_imp pss_never fun E σ H ⟨F, ps, c, x, w, sl, q⟩ => q⟩
end
/-- if as a statement: both ways end alike -/
theorem ds_if {cnd : Expr} {a b : List Stmt} {pos : Pos} {mc : M Bool} {ma mb : M (Out S L)} (hc : DC G X W ρ cnd mc) (ha : DB G X W toS toL ρ a ma) (hb : DB G X W toS toL ρ b mb) :
    DS G X W toS toL ρ (.If cnd a b pos) (mc >>= fun t => cond t ma mb) := by
  refine ⟨ps_imp (ps_if hc.run ha.run hb.run) fun E σ H ⟨F, ps, c, x, w, sl, q⟩ => ?_⟩
  refine ⟨F, ps, c, w, sl, postS_test x q fun d c' F' H' ps' x' w' q => ?_⟩
  cases d with
  | true => exact iteT ⟨F', ps', c', x.trans x', w', sl.ext x', q⟩
  | false => exact iteF ⟨F', ps', c', x.trans x', w', sl.ext x', q⟩
def Out.void : Out Empty L → M (Out S L)
  | .nx s => nomatch s
  | .rt d => pure (.rt d)
  | .bk l => pure (.bk l)
  | .ct l => pure (.ct l)
def toE : Empty → Rho := fun e => nomatch e
/-- if, the first way does not come to its end -/
theorem db_ifT {cnd : Expr} {a rest : List Stmt} {pos : Pos} {mc : M Bool} {ma : M (Out Empty L)} {mr : M (Out S L)} (hc : DC G X W ρ cnd mc) (ha : DB G X W toE toL ρ a ma) (hr : DB G X W toS toL ρ rest mr) :
    DB G X W toS toL ρ (.If cnd a [] pos :: rest) (mc >>= fun t => cond t (ma >>= Out.void) mr) := by
  refine ⟨pss_imp (pss_cons (u := fun E σ H => AtS G σ H ρ fun F ps c => PostS G W toS toL F ps (mr c) E) (ps_if hc.run ha.run pss_nil) hr.run) fun E σ H ⟨F, ps, c, x, w, sl, q⟩ => ?_⟩
  refine ⟨F, ps, c, w, sl, postS_test x q fun d c' F' H' ps' x' w' q => ?_⟩
  cases d with
  | true =>
    refine iteT ⟨F', ps', c', x.trans x', w', sl.ext x', ?_⟩
    refine postS_then (P := fun r => PostS G W toE toL F' ps' r _) (x.trans x') q (fun o c' _ q => ?_) fun y c' _ q => q
    cases o with
    | nx s => exact nomatch s
    | rt d => exact q
    | bk l => exact q
    | ct l => exact q
  | false => exact iteF (show tNext _ _ _ from ⟨F', ps', c', x.trans x', w', sl.ext x', q⟩)
/-- the last statement -/
theorem db_last {st : Stmt} {m : M (Out S L)} (h : DS G X W toS toL ρ st m) : DB G X W toS toL ρ [st] m := ⟨pss_one h.run⟩

/-! ### loops -/
def whileM {S L : Type} (c : S → M Bool) (b : S → M (Out S S)) : Nat → S → M (Out S L)
  | 0, _ => M.bad
  | n + 1, s => c s >>= fun t => cond t (b s >>= fun o => match o with
      | .nx s' => whileM c b n s'
      | .ct s' => whileM c b n s'
      | .bk s' => pure (.nx s')
      | .rt d => pure (.rt d)) (pure (.nx s))
theorem ds_while {cnd : Expr} {body : List Stmt} {pos : Pos} {s0 : S} {mc : S → M Bool} {mb : S → M (Out S S)} (n : Nat) (hp : PassesOwn (model X.prog X.w) X.A X.env X.xe) (hs : Sub ρ (toS s0)) (hc : ∀ s, DC G X W (toS s) cnd (mc s)) (hb : ∀ s, DB G X W toS toS (toS s) body (mb s)) :
    DS G X W toS toL ρ (.While cnd body [] pos) (whileM mc mb n s0) := by
  have cj : PT X cnd fun σ H Q => ∃ s, At G σ H (toS s) fun F ps c => PostT G W σ F H ps (mc s c) Q := ⟨fun pins s σ H Q I ⟨s', q⟩ => (hc s').run.run pins s σ H Q I q⟩
  have bj : PSs X body fun E σ H => ∃ s, AtS G σ H (toS s) fun F ps c => PostS G W toS toS F ps (mb s c) E := ⟨fun pins s σ H E I ⟨s', q⟩ => (hb s').run.run pins s σ H E I q⟩
  refine ⟨ps_imp (ps_while hp cj bj) fun E σ H ⟨F, ps, c, x, w, sl, q⟩ => ?_⟩
  refine ⟨fun m σ H => ∃ s, AtS G σ H (toS s) fun F ps c => PostS G W toS toL F ps (whileM mc mb m s c) E, ⟨n, s0, F, ps, c, x, w, sl.weak hs, q⟩, ?_⟩
  rintro m σ H ⟨s, F, ps, c, x, w, sl, q⟩
  cases m with
  | zero => exact q.elim
  | succ m =>
    refine ⟨s, F, ps, c, w, sl, postS_test x q fun d c' F' H' ps' x' w' q => ?_⟩
    cases d with
    | false => exact iteF (q σ F' H' ps' (x.trans x') .refl w' (sl.ext x'))
    | true =>
      refine iteT ⟨fun σ H => ∃ s, AtS G σ H (toS s) fun F ps c => PostS G W toS toL F ps (whileM mc mb m s c) E, fun σ' H' z => ⟨m, Nat.lt_succ_self m, z⟩, s, F', ps', c', x.trans x', w', sl.ext x', ?_⟩
      refine postS_then (P := fun r => PostS G W toS toS F' ps' r _) (x.trans x') q (fun o c' _ q => ?_) fun y c' _ q => q
      cases o with
      | nx s => exact fun σ F H ps x g w sl => ⟨s, F, ps, c', x, w, sl, q.later g⟩
      | ct s => exact fun σ F H ps x g w sl => ⟨s, F, ps, c', x, w, sl, q.later g⟩
      | bk s => exact q
      | rt d => exact q
end

/-! ### defs -/
section
variable {K : PySem.W.Frag} {cl : String → Option Addr}
def PostC (K : PySem.W.Frag) (cl : String → Option Addr) (F H : Hp) (ps : List Addr) (r : Res D) (Q : VK) (E : XK) : Prop := match r with
  | .ok d c => ∀ v F' H' ps', Ext F H ps F' H' ps' → Wld K cl F' H' ps' c → DR K cl F' ps' v d → Q v H'
  | .err x c => ∀ cls dd F' H' ps', Ext F H ps F' H' ps' → Wld K cl F' H' ps' c → ER ⟨K, cl, F, H, ps⟩ F' ps' x cls dd → E cls dd H'
  | .bad => False
/-- a def's promise: the plain function of its arguments -/
def spD (K : PySem.W.Frag) (cl : String → Option Addr) (n : Nat) (f : List D → M D) : Sp := fun vs H Q E => ∃ F ps c ds, Wld K cl F H ps c ∧ DRs K cl F ps vs ds ∧ ds.length = n ∧ PostC K cl F H ps (f ds c) Q E
theorem spD_len {n : Nat} {f : List D → M D} : ∀ vs H Q E, spD K cl n f vs H Q E → vs.length = n := fun vs H Q E ⟨F, ps, c, ds, w, r, l, _⟩ => by rw [r.length, l]
def retM : Out Empty Empty → M D
  | .rt d => pure d
  | .nx s => nomatch s
  | .bk s => nomatch s
  | .ct s => nomatch s
/-- what a body that may come to its end gives -/
def retU : Out Unit Empty → M D
  | .rt d => pure d
  | .nx _ => pure .non
  | .bk s => nomatch s
  | .ct s => nomatch s
end
end DL
namespace DL
open PySem PySem.Spec PyProof.Rows L2

/-! ### the def's rule -/
def ap0 (f : M D) : List D → M D | [] => f | _ => M.bad
def ap1 (f : D → M D) : List D → M D | [a] => f a | _ => M.bad
def ap2 (f : D → D → M D) : List D → M D | [a, b] => f a b | _ => M.bad
def ap3 (f : D → D → D → M D) : List D → M D | [a, b, c] => f a b c | _ => M.bad
def ap4 (f : D → D → D → D → M D) : List D → M D | [a, b, c, d] => f a b c d | _ => M.bad
def ap5 (f : D → D → D → D → D → M D) : List D → M D | [a, b, c, d, e] => f a b c d e | _ => M.bad
def ap6 (f : D → D → D → D → D → D → M D) : List D → M D | [a, b, c, d, e, g] => f a b c d e g | _ => M.bad

/-- what leaves a def's body -/
def WD (E : XK) : WX := fun cls d _ H => E cls d H
section
variable {P : Program} {w : World} {K : PySem.W.Frag} {mg : Str → Option Value} {base : Heap} {cl : String → Option Addr}
def rho (ds : List D) (n : Nat) : Rho := ds.map .val ++ List.replicate (n - ds.length) .no
theorem sls_start {G : Gx} {F H : Hp} {ps : List Addr} {N : List Str} {vs : List V} {ds : List D} (r : DRs G.K G.cl F ps vs ds) : Sls G (L2.start N vs) F H ps (rho ds N.length) := by
  have hl := r.length
  refine ⟨by unfold L2.start rho; simp [hl], fun i d e => ?_, fun i d e => ?_, fun i j d e p _ h => ?_⟩
  · unfold rho at e
    by_cases hi : i < ds.length
    · rw [List.getElem?_append_left (by simpa using hi), List.getElem?_map] at e
      cases e2 : ds[i]? with
      | none => rw [e2] at e; cases e
      | some d' =>
        rw [e2] at e
        cases e
        obtain ⟨v, h1, h2⟩ := r.get e2
        refine ⟨v, ?_, h2⟩
        unfold L2.start
        rw [List.getElem?_append_left (by simp [hl, hi]), List.getElem?_map, h1]
        rfl
    · rw [List.getElem?_append_right (by simpa using hi), List.getElem?_replicate] at e
      split at e <;> cases e
  all_goals
    exfalso
    first
      | (unfold rho at e
         by_cases hi : i < ds.length
         · rw [List.getElem?_append_left (by simpa using hi), List.getElem?_map] at e
           cases e2 : ds[i]? with
           | none => rw [e2] at e; cases e
           | some d' => rw [e2] at e; cases e
         · rw [List.getElem?_append_right (by simpa using hi), List.getElem?_replicate] at e
           split at e <;> cases e)
      | (unfold rho at h
         by_cases hi : i < ds.length
         · rw [List.getElem?_append_left (by simpa using hi), List.getElem?_map] at h
           cases e2 : ds[i]? with
           | none => rw [e2] at h; cases h
           | some d' => rw [e2] at h; cases h
         · rw [List.getElem?_append_right (by simpa using hi), List.getElem?_replicate] at h
           split at h <;> cases h)
/-- the context of a def's body -/
abbrev bX (P : Program) (w : World) (K : PySem.W.Frag) (mg : Str → Option Value) (base : Heap) (N : List Str) (qual : Str) (st : Stmt) (f : Addr) (cdv : Value) (A : Around) (outer : List Env) (s : Shared) (H : Hp) (E : XK) : Cx :=
  cxOf (L2.CX P w) P w K mg base N qual (defScope st) f cdv A outer s H E
theorem fn_ok {x qual : Str} {st : Stmt} {f : Addr} {fd : FuncData} {N ps : List Str} {k n : Nat} {g : List D → M D} (F : Fun K x qual st f fd) (S : FnScope N ps (defScope st)) (hn : ps.length = n)
    (hb : ∀ (cdv : Value) (A : Around) (outer : List Env) (s : Shared) (E : XK) (F0 H0 : Hp) (p0 : List Addr) (ds : List D), ds.length = n → Room k (A.deeper (envOfC qual (defScope st) s.heap.objs.size f cdv)) →
      ∃ m : M (Out Unit Empty), g ds = (m >>= retU) ∧ DB ⟨K, cl, F0, H0, p0⟩ (bX P w K mg base N qual st f cdv A outer s H0 E) (WD E) (fun _ => List.replicate N.length .no) toE (rho ds N.length) (defBody st) m) :
    FnOk P w K mg base (L2.CX P w) (k + 1) f fd ps (spD K cl n g) := by
  refine F.okX S (fun vs H Q E h => by rw [spD_len _ _ _ _ h, hn]) fun cdv A outer s H vs Q E hr ⟨F0, p0, c, ds, wl, r, l, q⟩ => ?_
  obtain ⟨m, em, D⟩ := hb cdv A outer s E F0 H p0 ds l hr
  refine ⟨_, D.run, F0, p0, c, Ext.refl, wl, sls_start r, ?_⟩
  rw [em] at q
  have e0 : (m >>= retU) c = M.bind m retU c := rfl
  rw [e0] at q
  unfold M.bind at q
  cases e : m c with
  | bad => rw [e] at q; exact q.elim
  | err y c' => rw [e] at q; exact fun cls dd _ F' H' ps' x w r => q cls dd F' H' ps' x w r
  | ok o c' =>
    rw [e] at q
    cases o with
    | nx u => exact fun σ F' H' ps' x _ w sl => q .non F' H' ps' x w .non
    | rt d => exact fun v F' H' ps' x w r => q v F' H' ps' x w r
    | bk l => exact nomatch l
    | ct l => exact nomatch l
end

/-! ### names, constants -/
section
variable {G : Gx} {X : Cx} {W : WX} {ρ : Rho} {σ : L2.St} {F F' H H' : Hp} {ps ps' : List Addr} {c : Sto}
theorem post_here {d : D} {v : V} {Q : VK} (w : Wl G F H ps c) (r : DR G.K G.cl F ps v d) (h : Post G W σ F H ps (.ok d c) Q) : Q v H := h v F H ps .refl w r
theorem de_var (i : Nat) {x : Str} {pos : Pos} {d : D} (hr : ρ[i]? = some (.val d) := by rfl) (hN : X.N[i]? = some x := by rfl) (hv : Vis X.env.scope x := by first | exact Or.inl rfl | exact Or.inr (Or.inl rfl) | exact Or.inr (Or.inr rfl)) (hd : (x == ("__debug__" : Str)) = false := by decide)
    (hcd : (x == ("__classdict__" : Str)) = false := by decide) : DE G X W ρ (.Name x pos) (pure d) := ⟨pe_imp (pe_var hN hv hd hcd) fun σ H Q ⟨F, ps, c, w, s, q⟩ => by
  obtain ⟨v, h1, h2⟩ := s.val i d hr
  exact ⟨v, h1, post_here w h2 q⟩⟩
/-- a slot's own list, read -/
theorem do_own (i : Nat) {x : Str} {pos : Pos} {d : D} (hr : ρ[i]? = some (.own d) := by rfl) (hN : X.N[i]? = some x := by rfl) (hv : Vis X.env.scope x := by first | exact Or.inl rfl | exact Or.inr (Or.inl rfl) | exact Or.inr (Or.inr rfl)) (hd : (x == ("__debug__" : Str)) = false := by decide)
    (hcd : (x == ("__classdict__" : Str)) = false := by decide) : DO G X W ρ (.Name x pos) (pure d) := ⟨pe_imp (pe_var hN hv hd hcd) fun σ H Q ⟨F, ps, c, w, s, q⟩ => by
  obtain ⟨p, o, h1, h2, h3, h4, h5, h6⟩ := s.own i d hr
  exact ⟨.ref p, h1, q (.ref p) F H ps .refl w (.own h5 h3 h6)⟩⟩
theorem de_int {i : Int} {j : Nat} {pos : Pos} : DE G X W ρ (.Constant (.int i) j pos) (pure (.int i)) := ⟨pe_imp pe_int fun σ H Q ⟨F, ps, c, w, s, q⟩ => post_here w (.int i) q⟩
theorem de_bool {b : Bool} {j : Nat} {pos : Pos} : DE G X W ρ (.Constant (.bool b) j pos) (pure (.bool b)) := ⟨pe_imp pe_bl fun σ H Q ⟨F, ps, c, w, s, q⟩ => post_here w (.bool b) q⟩
theorem de_non {j : Nat} {pos : Pos} : DE G X W ρ (.Constant .none j pos) (pure .non) := ⟨pe_imp pe_non fun σ H Q ⟨F, ps, c, w, s, q⟩ => post_here w .non q⟩
theorem dr_str {x : Str} : DR G.K G.cl F ps (.str x) (.str x.cps.toList) := by
  have h := DR.str (K := G.K) (cl := G.cl) (F := F) (ps := ps) x.cps.toList
  have e : (⟨x.cps.toList.toArray⟩ : Str) = x := by cases x; simp
  rw [e] at h; exact h
theorem de_str {x : Str} {j : Nat} {pos : Pos} {cs : List Nat} (hx : x.cps.toList = cs := by rfl) : DE G X W ρ (.Constant (.str x) j pos) (pure (.str cs)) := ⟨pe_imp pe_str fun σ H Q ⟨F, ps, c, w, s, q⟩ => post_here w (hx ▸ dr_str) q⟩
/-- a constant of the module -/
theorem de_glob {x : Str} {pos : Pos} {d : D} {v : V} {u : Value} (hg : Gl X x) (hm : X.mg x = some u) (r : RelV v u) (hd : ∀ F ps, DR G.K G.cl F ps v d) (hdb : (x == ("__debug__" : Str)) = false := by decide) : DE G X W ρ (.Name x pos) (pure d) :=
  ⟨pe_imp (pe_glob hg hm r hdb) fun σ H Q ⟨F, ps, c, w, s, q⟩ => post_here w (hd F ps) q⟩

/-! ### argument lists and calls -/
/-- no star -/
def NS (e : Expr) : Prop := ∀ es env, starEach (e :: es) env = (false, eval e env) :: starEach es env
theorem da_nil : DA G X W ρ [] (pure []) := ⟨pa_imp pa_nil fun σ H Q ⟨F, ps, c, w, s, q⟩ => q [] F H ps .refl w .nil⟩
theorem postL_then {α : Type} {m : M α} {f : α → M (List D)} {Q : List V → Hp → Prop} {P : Res α → Prop}
    (h : PostL G W σ F H ps ((m >>= f) c) Q)
    (k : ∀ a c', m c = .ok a c' → PostL G W σ F H ps (f a c') Q → P (.ok a c'))
    (ke : ∀ x c', m c = .err x c' → (∀ cls dd F' H' ps', Ext F H ps F' H' ps' → Wl G F' H' ps' c' → ER G F' ps' x cls dd → W cls dd σ H') → P (.err x c')) : P (m c) := by
  have e0 : (m >>= f) c = M.bind m f c := rfl
  rw [e0] at h
  unfold M.bind at h
  cases e : m c with
  | ok a c' => rw [e] at h; exact k a c' e h
  | err x c' => rw [e] at h; exact ke x c' e h
  | bad => rw [e] at h; exact h.elim
theorem da_cons {e : Expr} {es : List Expr} {m : M D} {ms : M (List D)} (ha : DE G X W ρ e m) (hr : DA G X W ρ es ms) (hs : NS e := by intro _ _; rfl) :
    DA G X W ρ (e :: es) (m >>= fun d => ms >>= fun ds => pure (d :: ds)) := by
  refine ⟨pa_imp (pa_cons ha.run hr.run (hs _ _)) fun σ H Q ⟨F, ps, c, w, s, q⟩ => ?_⟩
  refine ⟨F, ps, c, w, s, ?_⟩
  refine postL_then (P := fun r => Post G W σ F H ps r _) q (fun d c' _ q => ?_) fun y c' _ q => q
  intro v F' H' ps' x w' d'
  refine ⟨F', ps', c', w', s.ext x, ?_⟩
  refine postL_then (P := fun r => PostL G W σ F' H' ps' r _) (q.later x) (fun d2 c2 _ q => ?_) fun y c' _ q => q
  intro vs F2 H2 ps2 x2 w2 r2
  exact q (v :: vs) F2 H2 ps2 x2 w2 (.cons (d'.ext x2) r2)
theorem post_args {ms : M (List D)} {f : List D → M D} {Q : VK} {R : List V → Hp → Prop} (h : Post G W σ F H ps ((ms >>= f) c) Q)
    (k : ∀ ds c' vs F' H' ps', Ext F H ps F' H' ps' → Wl G F' H' ps' c' → DRs G.K G.cl F' ps' vs ds → Post G W σ F' H' ps' (f ds c') Q → R vs H') : PostL G W σ F H ps (ms c) R :=
  post_then (P := fun r => PostL G W σ F H ps r R) h (fun ds c' _ q => fun vs F' H' ps' x w r => k ds c' vs F' H' ps' x w r (q.later x)) fun y c' _ q => q
/-- a call of a def -/
theorem post_call {f : List D → M D} {n : Nat} {ds : List D} {vs : List V} {Q : VK} (w : Wl G F H ps c) (r : DRs G.K G.cl F ps vs ds) (hl : ds.length = n) (q : Post G W σ F H ps (f ds c) Q) : spD G.K G.cl n f vs H Q (WE W σ) := by
  refine ⟨F, ps, c, ds, w, r, hl, ?_⟩
  cases e : f ds c with
  | ok d c' => rw [e] at q; exact q
  | err y c' => rw [e] at q; exact q
  | bad => rw [e] at q; exact q
theorem plain_nil {pos : Pos} {env : Env} : (backTo pos (starEach [] env)).any (·.1) = false := rfl
theorem plain_cons {pos : Pos} {env : Env} {e : Expr} {es : List Expr} (h : NS e) (k : (backTo pos (starEach es env)).any (·.1) = false) : (backTo pos (starEach (e :: es) env)).any (·.1) = false := by
  rw [h es env]
  exact k
/-- a call f(..): f's arguments by f's number of them -/
theorem de_callN {k n : Nat} {f : Addr} {fd : FuncData} {ps0 : List Str} {x : Str} {p pos : Pos} {e : Expr} {es : List Expr} {ms : M (List D)} {g : List D → M D} (Fk : FnOk X.prog X.w X.K X.mg X.base (L2.CX X.prog X.w) k f fd ps0 (spD G.K G.cl n g)) (hr : Room k X.A) (tk : Takes X W)
    (hg : Gl X x) (hm : X.mg x = some (.ref f)) (hk : PySem.W.keepIn X.K (.ref f) = true) (hb : Binds X.K fd ps0 []) (ha : DA G X W ρ (e :: es) ms) (hlen : ∀ ds, ds.length ≠ n → g ds = M.bad)
    (hdb : (x == ("__debug__" : Str)) = false := by decide) (he : starEach (e :: es) X.env = (false, eval e X.env) :: starEach es X.env := by rfl) (hpl : (backTo pos (starEach es X.env)).any (·.1) = false := by rfl) :
    DE G X W ρ (.Call (.Name x p) (e :: es) [] pos) (ms >>= g) := by
  refine ⟨pe_imp (pe_callS Fk hr hg hm hk hb (fun σ => passAt tk σ) ha.run hdb he hpl) fun σ H Q ⟨F, ps, c, w, s, q⟩ => ?_⟩
  refine ⟨F, ps, c, w, s, post_args q fun ds c' vs F' H' ps' x w' r q => ?_⟩
  by_cases hl : ds.length = n
  · exact post_call w' r hl q
  · rw [hlen ds hl] at q; exact q.elim

/-! the plain functions' laws -/
theorem bind_pure' {α β : Type} (a : α) (f : α → M β) : ((pure a : M α) >>= f) = f a := rfl
theorem bind_assoc' {α β γ : Type} (m : M α) (f : α → M β) (g : β → M γ) : (m >>= f) >>= g = m >>= fun a => f a >>= g := by
  funext c
  show M.bind (M.bind m f) g c = M.bind m (fun a => M.bind (f a) g) c
  unfold M.bind
  cases m c <;> rfl
theorem pure_bind' {α : Type} (m : M α) : (m >>= fun a => pure a) = m := by
  funext c
  show M.bind m M.pure c = m c
  unfold M.bind
  cases m c <;> rfl
theorem bad_bind {α β : Type} (f : α → M β) : ((M.bad : M α) >>= f) = M.bad := rfl
theorem DE.cast {e : Expr} {m m' : M D} (h : DE G X W ρ e m) (he : m = m') : DE G X W ρ e m' := he ▸ h
section
variable {k : Nat} {f : Addr} {fd : FuncData} {ps0 : List Str} {x : Str} {p pos : Pos} {e1 e2 e3 e4 e5 e6 : Expr} {m1 m2 m3 m4 m5 m6 : M D}
theorem de_call0 {g : M D} (Fk : FnOk X.prog X.w X.K X.mg X.base (L2.CX X.prog X.w) k f fd ps0 (spD G.K G.cl 0 (ap0 g))) (hr : Room k X.A) (tk : Takes X W)
    (hg : Gl X x) (hm : X.mg x = some (.ref f)) (hk : PySem.W.keepIn X.K (.ref f) = true) (hb : Binds X.K fd ps0 [])
    (hdb : (x == ("__debug__" : Str)) = false := by decide) : DE G X W ρ (.Call (.Name x p) [] [] pos) g := by
  refine ⟨⟨fun pins s σ H Q I ⟨F, ps, c, w, sl, q⟩ => ?_⟩⟩
  refine wpAny_Call_Name_kw (ld_glob I hg hm ?_ hdb)
  exact PySem.W.callWith_K0 I.kIn hk (run_fnS (us := []) (E := WE W) Fk hr hb (passAt tk σ) I .nil (post_call w .nil rfl q))
theorem de_call1 {g : D → M D} (Fk : FnOk X.prog X.w X.K X.mg X.base (L2.CX X.prog X.w) k f fd ps0 (spD G.K G.cl 1 (ap1 g))) (hr : Room k X.A) (tk : Takes X W)
    (hg : Gl X x) (hm : X.mg x = some (.ref f)) (hk : PySem.W.keepIn X.K (.ref f) = true) (hb : Binds X.K fd ps0 []) (h1 : DE G X W ρ e1 m1) (n1 : NS e1 := by intro _ _; rfl) (hdb : (x == ("__debug__" : Str)) = false := by decide) :
    DE G X W ρ (.Call (.Name x p) [e1] [] pos) (m1 >>= fun a => g a) :=
  (de_callN Fk hr tk hg hm hk hb (da_cons h1 da_nil n1) (fun ds h => by match ds with | [] => rfl | [_] => simp at h | _ :: _ :: _ => rfl) hdb (n1 _ _) plain_nil).cast (by simp only [bind_assoc', bind_pure']; rfl)
theorem de_call2 {g : D → D → M D} (Fk : FnOk X.prog X.w X.K X.mg X.base (L2.CX X.prog X.w) k f fd ps0 (spD G.K G.cl 2 (ap2 g))) (hr : Room k X.A) (tk : Takes X W)
    (hg : Gl X x) (hm : X.mg x = some (.ref f)) (hk : PySem.W.keepIn X.K (.ref f) = true) (hb : Binds X.K fd ps0 []) (h1 : DE G X W ρ e1 m1) (h2 : DE G X W ρ e2 m2) (n1 : NS e1 := by intro _ _; rfl) (n2 : NS e2 := by intro _ _; rfl) (hdb : (x == ("__debug__" : Str)) = false := by decide) :
    DE G X W ρ (.Call (.Name x p) [e1, e2] [] pos) (m1 >>= fun a => m2 >>= fun b => g a b) :=
  (de_callN Fk hr tk hg hm hk hb (da_cons h1 (da_cons h2 da_nil n2) n1) (fun ds h => by match ds with | [] => rfl | [_] => rfl | [_, _] => simp at h | _ :: _ :: _ :: _ => rfl) hdb (n1 _ _) (plain_cons n2 plain_nil)).cast (by simp only [bind_assoc', bind_pure']; rfl)
theorem de_call3 {g : D → D → D → M D} (Fk : FnOk X.prog X.w X.K X.mg X.base (L2.CX X.prog X.w) k f fd ps0 (spD G.K G.cl 3 (ap3 g))) (hr : Room k X.A) (tk : Takes X W)
    (hg : Gl X x) (hm : X.mg x = some (.ref f)) (hk : PySem.W.keepIn X.K (.ref f) = true) (hb : Binds X.K fd ps0 []) (h1 : DE G X W ρ e1 m1) (h2 : DE G X W ρ e2 m2) (h3 : DE G X W ρ e3 m3) (n1 : NS e1 := by intro _ _; rfl) (n2 : NS e2 := by intro _ _; rfl) (n3 : NS e3 := by intro _ _; rfl) (hdb : (x == ("__debug__" : Str)) = false := by decide) :
    DE G X W ρ (.Call (.Name x p) [e1, e2, e3] [] pos) (m1 >>= fun a => m2 >>= fun b => m3 >>= fun c => g a b c) :=
  (de_callN Fk hr tk hg hm hk hb (da_cons h1 (da_cons h2 (da_cons h3 da_nil n3) n2) n1) (fun ds h => by match ds with | [] => rfl | [_] => rfl | [_, _] => rfl | [_, _, _] => simp at h | _ :: _ :: _ :: _ :: _ => rfl) hdb (n1 _ _) (plain_cons n2 (plain_cons n3 plain_nil))).cast (by simp only [bind_assoc', bind_pure']; rfl)
theorem de_call4 {g : D → D → D → D → M D} (Fk : FnOk X.prog X.w X.K X.mg X.base (L2.CX X.prog X.w) k f fd ps0 (spD G.K G.cl 4 (ap4 g))) (hr : Room k X.A) (tk : Takes X W)
    (hg : Gl X x) (hm : X.mg x = some (.ref f)) (hk : PySem.W.keepIn X.K (.ref f) = true) (hb : Binds X.K fd ps0 []) (h1 : DE G X W ρ e1 m1) (h2 : DE G X W ρ e2 m2) (h3 : DE G X W ρ e3 m3) (h4 : DE G X W ρ e4 m4) (n1 : NS e1 := by intro _ _; rfl) (n2 : NS e2 := by intro _ _; rfl) (n3 : NS e3 := by intro _ _; rfl) (n4 : NS e4 := by intro _ _; rfl) (hdb : (x == ("__debug__" : Str)) = false := by decide) :
    DE G X W ρ (.Call (.Name x p) [e1, e2, e3, e4] [] pos) (m1 >>= fun a => m2 >>= fun b => m3 >>= fun c => m4 >>= fun d => g a b c d) :=
  (de_callN Fk hr tk hg hm hk hb (da_cons h1 (da_cons h2 (da_cons h3 (da_cons h4 da_nil n4) n3) n2) n1) (fun ds h => by match ds with | [] => rfl | [_] => rfl | [_, _] => rfl | [_, _, _] => rfl | [_, _, _, _] => simp at h | _ :: _ :: _ :: _ :: _ :: _ => rfl) hdb (n1 _ _) (plain_cons n2 (plain_cons n3 (plain_cons n4 plain_nil)))).cast (by simp only [bind_assoc', bind_pure']; rfl)
theorem de_call5 {g : D → D → D → D → D → M D} (Fk : FnOk X.prog X.w X.K X.mg X.base (L2.CX X.prog X.w) k f fd ps0 (spD G.K G.cl 5 (ap5 g))) (hr : Room k X.A) (tk : Takes X W)
    (hg : Gl X x) (hm : X.mg x = some (.ref f)) (hk : PySem.W.keepIn X.K (.ref f) = true) (hb : Binds X.K fd ps0 []) (h1 : DE G X W ρ e1 m1) (h2 : DE G X W ρ e2 m2) (h3 : DE G X W ρ e3 m3) (h4 : DE G X W ρ e4 m4) (h5 : DE G X W ρ e5 m5) (n1 : NS e1 := by intro _ _; rfl) (n2 : NS e2 := by intro _ _; rfl) (n3 : NS e3 := by intro _ _; rfl) (n4 : NS e4 := by intro _ _; rfl) (n5 : NS e5 := by intro _ _; rfl) (hdb : (x == ("__debug__" : Str)) = false := by decide) :
    DE G X W ρ (.Call (.Name x p) [e1, e2, e3, e4, e5] [] pos) (m1 >>= fun a => m2 >>= fun b => m3 >>= fun c => m4 >>= fun d => m5 >>= fun e => g a b c d e) :=
  (de_callN Fk hr tk hg hm hk hb (da_cons h1 (da_cons h2 (da_cons h3 (da_cons h4 (da_cons h5 da_nil n5) n4) n3) n2) n1) (fun ds h => by match ds with | [] => rfl | [_] => rfl | [_, _] => rfl | [_, _, _] => rfl | [_, _, _, _] => rfl | [_, _, _, _, _] => simp at h | _ :: _ :: _ :: _ :: _ :: _ :: _ => rfl) hdb (n1 _ _) (plain_cons n2 (plain_cons n3 (plain_cons n4 (plain_cons n5 plain_nil))))).cast (by simp only [bind_assoc', bind_pure']; rfl)
end
end
end DL
namespace DL
open PySem PySem.Spec PyProof.Rows L2

/-! ### what an operand is -/
section
variable {G : Gx} {X : Cx} {W : WX} {ρ : Rho} {σ : L2.St} {F F' H H' : Hp} {ps ps' : List Addr} {c : Sto} {v : V}
theorem DT.int {i : Int} (h : DT G F H ps v (.int i)) : v = .int i := by
  cases h with
  | known h => cases h; rfl
  | own _ _ h => nomatch h
theorem DT.bool {b : Bool} (h : DT G F H ps v (.bool b)) : v = .bl b := by
  cases h with
  | known h => cases h; rfl
  | own _ _ h => nomatch h
theorem DT.non (h : DT G F H ps v .non) : v = .non := by
  cases h with
  | known h => cases h; rfl
  | own _ _ h => nomatch h
theorem DT.str {s : List Nat} (h : DT G F H ps v (.str s)) : v = .str ⟨s.toArray⟩ := by
  cases h with
  | known h => cases h; rfl
  | own _ _ h => nomatch h
theorem sqt_sub {a : Addr} {xs : List V} (w : Wl G F H ps c) (h : SqT G.K F a xs) : SqT G.K H a xs := sqt_up w.sub h
theorem DT.tup {ds : List D} (w : Wl G F H ps c) (h : DT G F H ps v (.tup ds)) : ∃ a vs, v = .ref a ∧ H a = some (.tup vs) ∧ DRs G.K G.cl F ps vs ds := by
  cases h with
  | known h =>
    cases h with
    | tup h1 h2 => exact ⟨_, _, rfl, w.sub _ _ h1, h2⟩
  | own _ _ h => nomatch h
theorem DT.lst {ds : List D} (w : Wl G F H ps c) (h : DT G F H ps v (.lst ds)) : ∃ a vs, v = .ref a ∧ H a = some (.lst vs) ∧ DRs G.K G.cl F ps vs ds := by
  cases h with
  | known h =>
    cases h with
    | lst h1 h2 => exact ⟨_, _, rfl, w.sub _ _ h1, h2⟩
  | own h1 _ h =>
    cases h with
    | lst r => exact ⟨_, _, rfl, h1, r⟩
theorem DT.scr {ds : List D} (w : Wl G F H ps c) (h : DT G F H ps v (.scr ds)) : ∃ a vs, v = .ref a ∧ SqL G.K H a vs ∧ DRs G.K G.cl F ps vs ds := by
  cases h with
  | known h =>
    cases h with
    | scr h1 h2 => exact ⟨_, _, rfl, sql_up w.sub h1, h2⟩
  | own _ _ h => nomatch h
/-! results -/
theorem post_tup {ds : List D} {vs : List V} {Q : VK} (w : Wl G F H ps c) (r : DRs G.K G.cl F ps vs ds) (q : Post G W σ F H ps (.ok (.tup ds) c) Q) : ∀ p, H p = none → Q (.ref p) (upd H p (.tup vs)) := fun p hp =>
  q (.ref p) (upd F p (.tup vs)) (upd H p (.tup vs)) ps (ext_laid w.sub hp) (w.laid hp) (.tup upd_same (r.ext (ext_laid w.sub hp)))
theorem post_lst {ds : List D} {vs : List V} {Q : VK} (w : Wl G F H ps c) (r : DRs G.K G.cl F ps vs ds) (q : Post G W σ F H ps (.ok (.lst ds) c) Q) : ∀ p, H p = none → Q (.ref p) (upd H p (.lst vs)) := fun p hp =>
  q (.ref p) (upd F p (.lst vs)) (upd H p (.lst vs)) ps (ext_laid w.sub hp) (w.laid hp) (.lst upd_same (r.ext (ext_laid w.sub hp)))
theorem postF_obj {d : D} {o : HO} {Q : VK} (w : Wl G F H ps c) (r : OR G.K G.cl F ps o d) (q : PostF G W σ F H ps (.ok d c) Q) : ∀ p, H p = none → Q (.ref p) (upd H p o) := fun p hp =>
  q p o F (upd H p o) ps (ext_new hp) (w.new hp) (w.none hp) hp (w.notin hp) upd_same r
theorem postF_lst {ds : List D} {vs : List V} {Q : VK} (w : Wl G F H ps c) (r : DRs G.K G.cl F ps vs ds) (q : PostF G W σ F H ps (.ok (.lst ds) c) Q) : ∀ p, H p = none → Q (.ref p) (upd H p (.lst vs)) := postF_obj w (.lst r) q
theorem post_int {i : Int} {Q : VK} (w : Wl G F H ps c) (q : Post G W σ F H ps (.ok (.int i) c) Q) : Q (.int i) H := post_here w (.int i) q
theorem post_bool {i : Bool} {Q : VK} (w : Wl G F H ps c) (q : Post G W σ F H ps (.ok (.bool i) c) Q) : Q (.bl i) H := post_here w (.bool i) q
theorem post_str {x : Str} {s : List Nat} {Q : VK} (w : Wl G F H ps c) (q : Post G W σ F H ps (.ok (.str s) c) Q) (e : x = ⟨s.toArray⟩) : Q (.str x) H := by
  subst e; exact post_here w (.str s) q
end
/-- the longest list, text -/
def LINE : Nat := 16777216
theorem line_eq : sizeLine = LINE := sizeLine_eq
def short (n : Nat) : Bool := n.ble 16777216
theorem short_le {n : Nat} (h : short n = true) : n ≤ sizeLine := by
  rw [sizeLine_eq]; exact Nat.le_of_ble_eq_true h

/-! ### operators -/
def addD : D → D → M D
  | .int i, .int j => pure (.int (i + j))
  | .str a, .str b => if short (a.length + b.length) then pure (.str (a ++ b)) else M.bad
  | .tup a, .tup b => if short (a.length + b.length) then pure (.tup (a ++ b)) else M.bad
  | .lst a, .lst b => if short (a.length + b.length) then pure (.lst (a ++ b)) else M.bad
  | _, _ => M.bad
def subD : D → D → M D
  | .int i, .int j => pure (.int (i - j))
  | _, _ => M.bad
def small64 (i : Int) : Bool := i.natAbs.blt 18446744073709551616
def repD {α : Type} (xs : List α) (k : Int) : List α := (List.replicate k.toNat xs).flatten
def mulD : D → D → M D
  | .int i, .int j => if small64 i || small64 j || (i.natAbs.log2 + j.natAbs.log2).blt 1000000 then pure (.int (i * j)) else M.bad
  | .lst a, .int k => if short (a.length * k.toNat) && small64 (4 * k) then pure (.lst (repD a k)) else M.bad
  | .tup a, .int k => if short (a.length * k.toNat) && (2 ≤ k && k ≤ 1000 && (0 < a.length && a.length ≤ 1000)) then pure (.tup (repD a k)) else M.bad
  | _, _ => M.bad
def fdivD : D → D → M D
  | .int i, .int j => if j != 0 && j.natAbs.blt 1073741824 then pure (.int (i.fdiv j)) else if 0 < j && j.natAbs.log2.blt 9000 then pure (.int (i / j)) else M.bad
  | _, _ => M.bad
def modD : D → D → M D
  | .int i, .int j => if j != 0 then pure (.int (i.fmod j)) else M.bad
  | _, _ => M.bad
def powD : D → D → M D
  | .int i, .int j => if 0 ≤ j && j ≤ 1000000 && small64 i then pure (.int (i ^ j.toNat)) else M.bad
  | _, _ => M.bad
def shlD : D → D → M D
  | .int i, .int j => if 0 ≤ j && j ≤ 1000000 && small64 i then pure (.int (i * 2 ^ j.toNat)) else M.bad
  | _, _ => M.bad
def shrD : D → D → M D
  | .int i, .int j => if 0 ≤ j then pure (.int (i / 2 ^ j.toNat)) else M.bad
  | _, _ => M.bad
def andD : D → D → M D
  | .int i, .int j => pure (.int (Builtin.bitAnd i j))
  | _, _ => M.bad
def orD : D → D → M D
  | .int i, .int j => pure (.int (Builtin.bitOr i j))
  | _, _ => M.bad
def negD : D → M D
  | .int i => pure (.int (-i))
  | _ => M.bad

section
variable {G : Gx} {X : Cx} {W : WX} {ρ : Rho} {a b : Expr} {ma mb : M D} {pos : Pos}
theorem de_bin {op : Operator} {r : R2} {f : D → D → M D} (ho : OpR X.nox (binaryOp op) r) (hr : Snd2 G r f) (ha : DO G X W ρ a ma) (hb : DO G X W ρ b mb) : DE G X W ρ (.BinOp a op b pos) (ma >>= fun x => mb >>= fun y => f x y) := by
  have ho' : OpR X (binaryOp op) r := fun pins s σ H x y v u Q I rx ry h => wpAny_mono (ho pins s σ H x y v u Q (I.wish _) rx ry h) (fun _ _ ⟨v, H', I', r, q⟩ => ⟨v, H', I'.unwish, r, q⟩) fun _ _ z => z.elim
  exact ⟨pe_imp (pe_op ho' ha.run hb.run) fun σ H Q q => at_bin hr q⟩
theorem de_un {op : UnaryOp} {r : V → Hp → VK → Prop} {f : D → M D} (ho : UnR X (unaryOp op) r) (hr : Snd1 G r f) (ha : DO G X W ρ a ma) (hp : PE X a (fun σ H Q => At G σ H ρ fun F ps c => PostO G W σ F H ps (ma c) Q) → PE X (.UnaryOp op a pos) (tUn r fun σ H Q => At G σ H ρ fun F ps c => PostO G W σ F H ps (ma c) Q)) : DE G X W ρ (.UnaryOp op a pos) (ma >>= f) :=
  ⟨pe_imp (hp ha.run) fun σ H Q q => at_un hr q⟩
theorem snd2_bad {r : R2} {f : D → D → M D} {dx dy : D} {σ : L2.St} {F H : Hp} {ps : List Addr} {c : Sto} {Q : VK} {R : Prop} (h : Post G W σ F H ps (M.bad c) Q) : R := h.elim
theorem str_app (a b : List Nat) : ((⟨a.toArray⟩ : Str) ++ ⟨b.toArray⟩ : Str) = ⟨(a ++ b).toArray⟩ := by
  show (⟨a.toArray ++ b.toArray⟩ : Str) = _
  simp
theorem str_len (a : List Nat) : (⟨a.toArray⟩ : Str).length = a.length := by simp [Str.length]
theorem ite_bad {α : Type} {t : Bool} {m : M α} {c : Sto} (P : Res α → Prop) (hb : ¬ P .bad) (h : P ((if t = true then m else M.bad) c)) : t = true ∧ P (m c) := by
  cases t with
  | true => exact ⟨rfl, h⟩
  | false => exact absurd h hb
theorem de_add (ha : DO G X W ρ a ma) (hb : DO G X W ρ b mb) : DE G X W ρ (.BinOp a .Add b pos) (ma >>= fun x => mb >>= fun y => addD x y) := by
  refine de_bin (((op_add.or op_add_str).or op_cat).or op_catA) (fun W σ F H ps c x y dx dy Q w tx ty q => ?_) ha hb
  unfold addD at q
  split at q
  · rw [tx.int, ty.int]
    exact .inl (.inl (.inl ⟨_, _, rfl, rfl, post_int w q⟩))
  · obtain ⟨hz, q⟩ := ite_bad (fun r => Post G W σ F H ps r Q) (fun z => z) q
    rw [tx.str, ty.str]
    exact .inl (.inl (.inr ⟨_, _, rfl, rfl, by rw [str_len, str_len]; exact short_le hz, post_str w q (str_app _ _)⟩))
  · obtain ⟨hz, q⟩ := ite_bad (fun r => Post G W σ F H ps r Q) (fun z => z) q
    obtain ⟨a1, vs, rfl, h1, r1⟩ := tx.tup w
    obtain ⟨a2, us, rfl, h2, r2⟩ := ty.tup w
    refine .inr ⟨a1, a2, vs, us, rfl, rfl, SqT.of h1, SqT.of h2, by rw [r1.length, r2.length]; exact short_le hz, fun e => ?_, fun e e' => ?_, fun e e' => post_tup w (r1.app r2) q⟩
    · have z : _ = ([] : List D) := List.eq_nil_of_length_eq_zero (by rw [← r1.length, e]; rfl)
      subst z
      cases ty with
      | known ty => exact post_here w ty q
      | own _ _ h => nomatch h
    · have z : _ = ([] : List D) := List.eq_nil_of_length_eq_zero (by rw [← r2.length, e']; rfl)
      subst z
      rw [List.append_nil] at q
      cases tx with
      | known tx => exact post_here w tx q
      | own _ _ h => nomatch h
  · obtain ⟨hz, q⟩ := ite_bad (fun r => Post G W σ F H ps r Q) (fun z => z) q
    obtain ⟨a1, vs, rfl, h1, r1⟩ := tx.lst w
    obtain ⟨a2, us, rfl, h2, r2⟩ := ty.lst w
    exact .inl (.inr ⟨a1, a2, vs, us, rfl, rfl, h1, h2, by rw [r1.length, r2.length]; exact short_le hz, post_lst w (r1.app r2) q⟩)
  · exact q.elim
theorem de_sub (ha : DO G X W ρ a ma) (hb : DO G X W ρ b mb) : DE G X W ρ (.BinOp a .Sub b pos) (ma >>= fun x => mb >>= fun y => subD x y) := by
  refine de_bin op_sub (fun W σ F H ps c x y dx dy Q w tx ty q => ?_) ha hb
  unfold subD at q
  split at q
  · rw [tx.int, ty.int]
    exact ⟨_, _, rfl, rfl, post_int w q⟩
  · exact q.elim
theorem drs_rep {K : PySem.W.Frag} {cl : String → Option Addr} {F : Hp} {ps : List Addr} {vs : List V} {ds : List D} (r : DRs K cl F ps vs ds) : ∀ n : Nat, DRs K cl F ps (List.replicate n vs).flatten (List.replicate n ds).flatten
  | 0 => .nil
  | n + 1 => by
    rw [List.replicate_succ, List.replicate_succ, List.flatten_cons, List.flatten_cons]
    exact r.app (drs_rep r n)
end
end DL
namespace DL
open PySem PySem.Spec PyProof.Rows L2

section
variable {G : Gx} {X : Cx} {W : WX} {ρ : Rho} {a b : Expr} {ma mb : M D} {pos : Pos}
theorem blt_lt {a b : Nat} (h : a.blt b = true) : a < b := Nat.le_of_ble_eq_true h
theorem and_t {a b : Bool} (h : (a && b) = true) : a = true ∧ b = true := by simpa using h
theorem small64_ok {i : Int} (h : small64 i = true) : -(2 ^ 64) < i ∧ i < 2 ^ 64 := by
  have h' : i.natAbs < 18446744073709551616 := blt_lt h
  have e : (2 : Int) ^ 64 = 18446744073709551616 := by decide
  rw [e]
  omega
theorem small64_abs {i : Int} (h : small64 i = true) : i.natAbs < 2 ^ 64 := by
  have h' : i.natAbs < 18446744073709551616 := blt_lt h
  exact h'
theorem de_mul (ha : DO G X W ρ a ma) (hb : DO G X W ρ b mb) : DE G X W ρ (.BinOp a .Mult b pos) (ma >>= fun x => mb >>= fun y => mulD x y) := by
  refine de_bin (((op_mul.or op_mulW).or op_rep).or op_repT) (fun W σ F H ps c x y dx dy Q w tx ty q => ?_) ha hb
  unfold mulD at q
  split at q
  · obtain ⟨hz, q⟩ := ite_bad (fun r => Post G W σ F H ps r Q) (fun z => z) q
    rw [tx.int, ty.int]
    rw [Bool.or_eq_true, Bool.or_eq_true] at hz
    rcases hz with (hz | hz) | hz
    · exact .inl (.inl (.inl ⟨_, _, rfl, rfl, .inl (small64_ok hz), post_int w q⟩))
    · exact .inl (.inl (.inl ⟨_, _, rfl, rfl, .inr (small64_ok hz), post_int w q⟩))
    · exact .inl (.inl (.inr ⟨_, _, rfl, rfl, blt_lt hz, post_int w q⟩))
  · obtain ⟨hz, q⟩ := ite_bad (fun r => Post G W σ F H ps r Q) (fun z => z) q
    obtain ⟨h1, h2⟩ := and_t hz
    obtain ⟨a1, vs, rfl, h3, r1⟩ := tx.lst w
    rw [ty.int]
    have h4 := small64_ok h2
    refine .inl (.inr ⟨a1, _, vs, rfl, rfl, h3, ?_, ?_, by rw [r1.length]; exact short_le h1, post_lst w (drs_rep r1 _) q⟩)
    · have e : (2 : Int) ^ 64 = 18446744073709551616 := by decide
      have e2 : (2 : Int) ^ 63 = 9223372036854775808 := by decide
      rw [e] at h4; rw [e2]; omega
    · have e : (2 : Int) ^ 64 = 18446744073709551616 := by decide
      have e2 : (2 : Int) ^ 63 = 9223372036854775808 := by decide
      rw [e] at h4; rw [e2]; omega
  · obtain ⟨hz, q⟩ := ite_bad (fun r => Post G W σ F H ps r Q) (fun z => z) q
    simp only [Bool.and_eq_true, decide_eq_true_eq] at hz
    obtain ⟨h1, ⟨h2, h3⟩, h4, h5⟩ := hz
    obtain ⟨a1, vs, rfl, h6, r1⟩ := tx.tup w
    rw [ty.int]
    refine .inr ⟨a1, _, vs, rfl, rfl, SqT.of h6, fun e => ?_, h2, h3, by rw [r1.length]; exact h5, post_tup w (drs_rep r1 _) q⟩
    rw [e] at r1
    have := r1.length
    simp at this
    omega
  · exact q.elim
theorem de_ii {op : Operator} {r : R2} {f : D → D → M D} (ho : OpR X.nox (binaryOp op) r) (hr : Snd2 G r f) (ha : DO G X W ρ a ma) (hb : DO G X W ρ b mb) : DE G X W ρ (.BinOp a op b pos) (ma >>= fun x => mb >>= fun y => f x y) := de_bin ho hr ha hb
theorem de_fdiv (ha : DO G X W ρ a ma) (hb : DO G X W ρ b mb) : DE G X W ρ (.BinOp a .FloorDiv b pos) (ma >>= fun x => mb >>= fun y => fdivD x y) := by
  refine de_bin (op_fdivN.or op_fdivW) (fun W σ F H ps c x y dx dy Q w tx ty q => ?_) ha hb
  unfold fdivD at q
  split at q
  · rw [tx.int, ty.int]
    split at q
    · rename_i hz
      obtain ⟨h1, h2⟩ := and_t hz
      exact .inl ⟨_, _, rfl, rfl, ⟨by simpa using h1, blt_lt h2⟩, post_int w q⟩
    · split at q
      · rename_i hz
        obtain ⟨h1, h2⟩ := and_t hz
        exact .inr ⟨_, _, rfl, rfl, ⟨by simpa using h1, blt_lt h2⟩, post_int w q⟩
      · exact q.elim
  · exact q.elim
theorem de_mod (ha : DO G X W ρ a ma) (hb : DO G X W ρ b mb) : DE G X W ρ (.BinOp a .Mod b pos) (ma >>= fun x => mb >>= fun y => modD x y) := by
  refine de_bin op_modN (fun W σ F H ps c x y dx dy Q w tx ty q => ?_) ha hb
  unfold modD at q
  split at q
  · obtain ⟨hz, q⟩ := ite_bad (fun r => Post G W σ F H ps r Q) (fun z => z) q
    rw [tx.int, ty.int]
    exact ⟨_, _, rfl, rfl, by simpa using hz, post_int w q⟩
  · exact q.elim
theorem de_pow (ha : DO G X W ρ a ma) (hb : DO G X W ρ b mb) : DE G X W ρ (.BinOp a .Pow b pos) (ma >>= fun x => mb >>= fun y => powD x y) := by
  refine de_bin op_pow (fun W σ F H ps c x y dx dy Q w tx ty q => ?_) ha hb
  unfold powD at q
  split at q
  · obtain ⟨hz, q⟩ := ite_bad (fun r => Post G W σ F H ps r Q) (fun z => z) q
    simp only [Bool.and_eq_true, decide_eq_true_eq] at hz
    rw [tx.int, ty.int]
    exact ⟨_, _, rfl, rfl, ⟨hz.1.1, hz.1.2, small64_abs hz.2⟩, post_int w q⟩
  · exact q.elim
theorem de_shl (ha : DO G X W ρ a ma) (hb : DO G X W ρ b mb) : DE G X W ρ (.BinOp a .LShift b pos) (ma >>= fun x => mb >>= fun y => shlD x y) := by
  refine de_bin op_shl (fun W σ F H ps c x y dx dy Q w tx ty q => ?_) ha hb
  unfold shlD at q
  split at q
  · obtain ⟨hz, q⟩ := ite_bad (fun r => Post G W σ F H ps r Q) (fun z => z) q
    simp only [Bool.and_eq_true, decide_eq_true_eq] at hz
    rw [tx.int, ty.int]
    exact ⟨_, _, rfl, rfl, ⟨hz.1.1, hz.1.2, small64_abs hz.2⟩, post_int w q⟩
  · exact q.elim
theorem de_shr (ha : DO G X W ρ a ma) (hb : DO G X W ρ b mb) : DE G X W ρ (.BinOp a .RShift b pos) (ma >>= fun x => mb >>= fun y => shrD x y) := by
  refine de_bin op_shr (fun W σ F H ps c x y dx dy Q w tx ty q => ?_) ha hb
  unfold shrD at q
  split at q
  · split at q
    · rename_i hz
      rw [tx.int, ty.int]
      exact ⟨_, _, rfl, rfl, hz, post_int w q⟩
    · exact q.elim
  · exact q.elim
theorem de_band (ha : DO G X W ρ a ma) (hb : DO G X W ρ b mb) : DE G X W ρ (.BinOp a .BitAnd b pos) (ma >>= fun x => mb >>= fun y => andD x y) := by
  refine de_bin L2.op_and (fun W σ F H ps c x y dx dy Q w tx ty q => ?_) ha hb
  unfold andD at q
  split at q
  · rw [tx.int, ty.int]
    exact ⟨_, _, rfl, rfl, post_int w q⟩
  · exact q.elim
theorem de_bor (ha : DO G X W ρ a ma) (hb : DO G X W ρ b mb) : DE G X W ρ (.BinOp a .BitOr b pos) (ma >>= fun x => mb >>= fun y => orD x y) := by
  refine de_bin L2.op_or (fun W σ F H ps c x y dx dy Q w tx ty q => ?_) ha hb
  unfold orD at q
  split at q
  · rw [tx.int, ty.int]
    exact ⟨_, _, rfl, rfl, post_int w q⟩
  · exact q.elim
theorem de_neg (ha : DO G X W ρ a ma) : DE G X W ρ (.UnaryOp .USub a pos) (ma >>= negD) := by
  refine ⟨pe_imp (pe_un un_neg ha.run) fun σ H Q q => at_un (fun W σ F H ps c x dx Q w tx q => ?_) q⟩
  unfold negD at q
  split at q
  · rw [tx.int]
    exact ⟨_, rfl, post_int w q⟩
  · exact q.elim
end

/-! ### comparisons -/
mutual
def toP : D → PyData
  | .non => .none
  | .bool b => .bool b
  | .int i => .int i
  | .str s => .str ⟨s.toArray⟩
  | .tup xs => .tuple (toPs xs)
  | .lst xs => .list (toPs xs)
  | _ => .dict []
def toPs : List D → List PyData
  | [] => []
  | x :: xs => toP x :: toPs xs
end
def okP (d : D) : Bool := SeqAt.shaped (toP d)
/-- == of plain data (none: not plain) -/
def eqO (x y : D) : Option Bool := if okP x && okP y then some (PyData.eqv (toP x) (toP y)) else none
def neO (x y : D) : Option Bool := (eqO x y).map not
def lexO : List D → List D → Option Bool
  | [], [] => some false
  | [], .int _ :: _ => some true
  | .int _ :: _, [] => some false
  | .int x :: xs, .int y :: ys => if x < y then some true else if x = y then lexO xs ys else some false
  | _, _ => none
def ltO : D → D → Option Bool
  | .int i, .int j => some (decide (i < j))
  | .str a, .str b => some (decide (a < b))
  | _, _ => none
def leO : D → D → Option Bool
  | .int i, .int j => some (decide (i ≤ j))
  | .str a, .str b => some (!decide (b < a))
  | _, _ => none
def gtO : D → D → Option Bool
  | .int i, .int j => some (decide (j < i))
  | .str a, .str b => some (decide (b < a))
  | _, _ => none
def geO : D → D → Option Bool
  | .int i, .int j => some (decide (j ≤ i))
  | .str a, .str b => some (!decide (a < b))
  | _, _ => none
def isNon : D → Bool
  | .non => true
  | _ => false
def isO : D → D → Option Bool
  | x, .non => some (isNon x)
  | _, _ => none
def isNotO (x y : D) : Option Bool := (isO x y).map not

section
variable {K : PySem.W.Frag} {cl : String → Option Addr} {F : Hp} {ps : List Addr}
theorem okP_lst {ds : List D} : SeqAt.shaped (.list ds') = true → PyData.canLayAll0 ds' = true := fun h => SeqAt.canLay_of_shaped h
mutual
theorem dp_of {H : Hp} (f : ∀ a o, F a = some o → H a = some o) : ∀ {v : V} {d : D}, DR K cl F ps v d → PyData.canLay0 (toP d) = true → Dp K H v (toP d)
  | _, _, .non, _ => by unfold toP; exact .non
  | _, _, .bool b, _ => by unfold toP; exact .bl b
  | _, _, .int b, _ => by unfold toP; exact .int b
  | _, _, .str b, _ => by unfold toP; exact .str _
  | _, _, .tup h1 h2, z => by
    unfold toP at z ⊢
    exact .tup (SqT.of (f _ _ h1)) (dps_of f h2 z)
  | _, _, .lst h1 h2, z => by
    unfold toP at z ⊢
    exact .lst (.inl (.inl (f _ _ h1))) (dps_of f h2 z)
  | _, _, .scr h1 h2, z => by unfold toP at z; cases z
  | _, _, .dict h1 h2, z => by unfold toP at z; cases z
  | _, _, .ref h1, z => by unfold toP at z; cases z
  | _, _, .ty n, z => by unfold toP at z; cases z
  | _, _, .cls h1, z => by unfold toP at z; cases z
theorem dps_of {H : Hp} (f : ∀ a o, F a = some o → H a = some o) : ∀ {vs : List V} {ds : List D}, DRs K cl F ps vs ds → PyData.canLayAll0 (toPs ds) = true → DpAll K H vs (toPs ds)
  | _, _, .nil, _ => by unfold toPs; exact .nil
  | _, _, .cons h1 h2, z => by
    unfold toPs at z ⊢
    have z' : (PyData.canLay0 (toP _) && PyData.canLayAll0 (toPs _)) = true := z
    obtain ⟨z1, z2⟩ := and_t z'
    exact .cons (dp_of f h1 z1) (dps_of f h2 z2)
end
end
section
variable {G : Gx} {X : Cx} {W : WX} {ρ : Rho} {a b e1 e2 e3 : Expr} {ma mb m1 m2 m3 : M D} {pos : Pos} {σ : L2.St} {F H : Hp} {ps : List Addr} {c : Sto} {v : V}
theorem DT.dp {d : D} (w : Wl G F H ps c) (h : DT G F H ps v d) (z : okP d = true) : Dp G.K H v (toP d) := by
  cases h with
  | known h => exact dp_of w.sub h (SeqAt.canLay_of_shaped z)
  | own h1 _ h =>
    cases h with
    | lst r =>
      have z' := SeqAt.canLay_of_shaped z
      unfold toP at z' ⊢
      exact .lst (.inl (.inl h1)) (dps_of w.sub r z')
    | dK _ =>
      have z' := SeqAt.canLay_of_shaped z
      unfold toP at z'; cases z'
    | dT _ =>
      have z' := SeqAt.canLay_of_shaped z
      unfold toP at z'; cases z'
/-- a comparison by its plain answer -/
def SndB (G : Gx) (r : R2) (f : D → D → Option Bool) : Prop := ∀ F H ps c x y dx dy b (Q : VK), Wl G F H ps c → DT G F H ps x dx → DT G F H ps y dy → f dx dy = some b → Q (.bl b) H → r x y H Q
theorem snd_ofB {r : R2} {f : D → D → Option Bool} (h : SndB G r f) : Snd2 G r fun x y => M.of ((f x y).map .bool) := fun W σ F H ps c x y dx dy Q w tx ty q => by
  have q : Post G W σ F H ps (M.of ((f dx dy).map .bool) c) Q := q
  cases e : f dx dy with
  | none => rw [e] at q; exact q.elim
  | some b =>
    rw [e] at q
    exact h F H ps c x y dx dy b Q w tx ty e (post_bool w q)
def cmpM (f : D → D → Option Bool) (x y : D) : M Bool := M.of (f x y)
def valM (m : M Bool) : M D := m >>= fun b => pure (.bool b)
theorem opR_nox {f : Value → Value → Sem Value} {r : R2} (ho : OpR X.nox f r) : OpR X f r := fun pins s σ H x y v u Q I rx ry h => wpAny_mono (ho pins s σ H x y v u Q (I.wish _) rx ry h) (fun _ _ ⟨v, H', I', r, q⟩ => ⟨v, H', I'.unwish, r, q⟩) fun _ _ z => z.elim
theorem de_cmp {op : CmpOp} {r : R2} {f : D → D → Option Bool} (ho : OpR X.nox (compareOp op) r) (hr : SndB G r f) (ha : DO G X W ρ a ma) (hb : DO G X W ρ b mb) (hm : behindInMarks op b = false := by rfl) :
    DE G X W ρ (.Compare a [op] [b] pos) (valM (ma >>= fun x => mb >>= fun y => cmpM f x y)) := by
  have h : DE G X W ρ (.Compare a [op] [b] pos) (ma >>= fun x => mb >>= fun y => M.of ((f x y).map .bool)) := ⟨pe_imp (pe_cmpR (opR_nox ho) ha.run hb.run hm) fun σ H Q q => at_bin (snd_ofB hr) q⟩
  refine h.cast ?_
  unfold valM
  rw [bind_assoc']
  congr 1; funext x
  rw [bind_assoc']
  congr 1; funext y
  unfold cmpM
  cases f x y <;> rfl
theorem postT_then {α : Type} {m : M α} {f : α → M Bool} {Q : Bool → Hp → Prop} {P : Res α → Prop}
    (h : PostT G W σ F H ps ((m >>= f) c) Q)
    (k : ∀ a c', m c = .ok a c' → PostT G W σ F H ps (f a c') Q → P (.ok a c'))
    (ke : ∀ x c', m c = .err x c' → (∀ cls dd F' H' ps', Ext F H ps F' H' ps' → Wl G F' H' ps' c' → ER G F' ps' x cls dd → W cls dd σ H') → P (.err x c')) : P (m c) := by
  have e0 : (m >>= f) c = M.bind m f c := rfl
  rw [e0] at h
  unfold M.bind at h
  cases e : m c with
  | ok a c' => rw [e] at h; exact k a c' e h
  | err x c' => rw [e] at h; exact ke x c' e h
  | bad => rw [e] at h; exact h.elim
theorem dc_cmp {op : CmpOp} {r : R2} {f : D → D → Option Bool} (ho : OpR X.nox (compareOp op) r) (hr : SndB G r f) (ha : DO G X W ρ a ma) (hb : DO G X W ρ b mb) (hm : behindInMarks op b = false := by rfl) :
    DC G X W ρ (.Compare a [op] [b] pos) (ma >>= fun x => mb >>= fun y => cmpM f x y) := by
  refine ⟨pt_imp (pt_cmpR (opR_nox ho) ha.run hb.run hm) fun σ H Q ⟨F, ps, c, w, s, q⟩ => ?_⟩
  refine ⟨F, ps, c, w, s, postT_then (P := fun r => PostO G W σ F H ps r _) q (fun d c' _ q => ?_) fun y c' _ q => q⟩
  intro v F' H' ps' x w' d'
  refine ⟨F', ps', c', w', s.ext x, postT_then (P := fun r => PostO G W σ F' H' ps' r _) (q.later x) (fun d2 c2 _ q => ?_) fun y c' _ q => q⟩
  intro v2 F2 H2 ps2 x2 w2 d2'
  have q := q.later x2
  unfold cmpM at q
  cases e : f d d2 with
  | none => rw [e] at q; exact q.elim
  | some bb =>
    rw [e] at q
    exact hr F2 H2 ps2 c2 v v2 d d2 bb _ w2 (d'.ext x2) d2' e ⟨bb, rfl, q F2 H2 ps2 .refl w2⟩

/-! the operators -/
theorem snd_eq (hK : G.K = X.K) (hu : X.A.units + 64 < cLine) : OpR X (compareOp .Eq) (rEqD X.K) ∧ SndB G (rEqD X.K) eqO := ⟨op_eqD hu, fun F H ps c x y dx dy b Q w tx ty e q => by
  unfold eqO at e
  split at e
  · rename_i z
    obtain ⟨z1, z2⟩ := and_t z
    cases e
    exact ⟨_, _, hK ▸ tx.dp w z1, hK ▸ ty.dp w z2, z1, z2, q⟩
  · cases e⟩
theorem snd_ne (hK : G.K = X.K) (hu : X.A.units + 64 < cLine) : OpR X (compareOp .NotEq) (rNeD X.K) ∧ SndB G (rNeD X.K) neO := ⟨op_neD hu, fun F H ps c x y dx dy b Q w tx ty e q => by
  unfold neO eqO at e
  split at e
  · rename_i z
    obtain ⟨z1, z2⟩ := and_t z
    cases e
    exact ⟨_, _, hK ▸ tx.dp w z1, hK ▸ ty.dp w z2, z1, z2, q⟩
  · cases e⟩
end
end DL
namespace DL
open PySem PySem.Spec PyProof.Rows L2

section
variable {G : Gx} {X : Cx} {W : WX} {ρ : Rho} {a b e1 e2 e3 : Expr} {ma mb m1 m2 m3 : M D} {pos : Pos} {σ : L2.St} {F H : Hp} {ps : List Addr} {c : Sto} {v : V}
theorem ext_str {s : List Nat} : (⟨s.toArray⟩ : Str).cps.toList = s := by simp
theorem snd_lt : OpR X (compareOp .Lt) (fun x y H Q => (rI0 fun i j => .bl (decide (i < j))) x y H Q ∨ ∃ i j, x = .str i ∧ y = .str j ∧ Q (.bl (decide (i.cps.toList < j.cps.toList))) H) ∧ SndB G (fun x y H Q => (rI0 fun i j => .bl (decide (i < j))) x y H Q ∨ ∃ i j, x = .str i ∧ y = .str j ∧ Q (.bl (decide (i.cps.toList < j.cps.toList))) H) ltO :=
  ⟨op_lt.or op_lt_str, fun F H ps c x y dx dy b Q w tx ty e q => by
    unfold ltO at e
    split at e
    · cases e; rw [tx.int, ty.int]; exact .inl ⟨_, _, rfl, rfl, q⟩
    · cases e; rw [tx.str, ty.str]; exact .inr ⟨_, _, rfl, rfl, by simp only [ext_str]; exact q⟩
    · cases e⟩
theorem snd_le : OpR X (compareOp .LtE) (fun x y H Q => (rI0 fun i j => .bl (decide (i ≤ j))) x y H Q ∨ ∃ i j, x = .str i ∧ y = .str j ∧ Q (.bl (!decide (j.cps.toList < i.cps.toList))) H) ∧ SndB G (fun x y H Q => (rI0 fun i j => .bl (decide (i ≤ j))) x y H Q ∨ ∃ i j, x = .str i ∧ y = .str j ∧ Q (.bl (!decide (j.cps.toList < i.cps.toList))) H) leO :=
  ⟨op_le.or op_le_str, fun F H ps c x y dx dy b Q w tx ty e q => by
    unfold leO at e
    split at e
    · cases e; rw [tx.int, ty.int]; exact .inl ⟨_, _, rfl, rfl, q⟩
    · cases e; rw [tx.str, ty.str]; exact .inr ⟨_, _, rfl, rfl, by simp only [ext_str]; exact q⟩
    · cases e⟩
theorem snd_gt : OpR X (compareOp .Gt) (fun x y H Q => (rI0 fun i j => .bl (decide (j < i))) x y H Q ∨ ∃ i j, x = .str i ∧ y = .str j ∧ Q (.bl (decide (j.cps.toList < i.cps.toList))) H) ∧ SndB G (fun x y H Q => (rI0 fun i j => .bl (decide (j < i))) x y H Q ∨ ∃ i j, x = .str i ∧ y = .str j ∧ Q (.bl (decide (j.cps.toList < i.cps.toList))) H) gtO :=
  ⟨op_gt.or op_gt_str, fun F H ps c x y dx dy b Q w tx ty e q => by
    unfold gtO at e
    split at e
    · cases e; rw [tx.int, ty.int]; exact .inl ⟨_, _, rfl, rfl, q⟩
    · cases e; rw [tx.str, ty.str]; exact .inr ⟨_, _, rfl, rfl, by simp only [ext_str]; exact q⟩
    · cases e⟩
theorem snd_ge : OpR X (compareOp .GtE) (fun x y H Q => (rI0 fun i j => .bl (decide (j ≤ i))) x y H Q ∨ ∃ i j, x = .str i ∧ y = .str j ∧ Q (.bl (!decide (i.cps.toList < j.cps.toList))) H) ∧ SndB G (fun x y H Q => (rI0 fun i j => .bl (decide (j ≤ i))) x y H Q ∨ ∃ i j, x = .str i ∧ y = .str j ∧ Q (.bl (!decide (i.cps.toList < j.cps.toList))) H) geO :=
  ⟨op_ge.or op_ge_str, fun F H ps c x y dx dy b Q w tx ty e q => by
    unfold geO at e
    split at e
    · cases e; rw [tx.int, ty.int]; exact .inl ⟨_, _, rfl, rfl, q⟩
    · cases e; rw [tx.str, ty.str]; exact .inr ⟨_, _, rfl, rfl, by simp only [ext_str]; exact q⟩
    · cases e⟩
theorem DT.nonO {d : D} (h : DT G F H ps v d) : decide (v = V.non) = isNon d := by
  cases h with
  | known h => cases h <;> simp [isNon]
  | own _ _ h => cases h <;> simp [isNon]
theorem snd_is : OpR X (compareOp .Is) (fun x y H Q => y = .non ∧ Q (.bl (decide (x = .non))) H) ∧ SndB G (fun x y H Q => y = .non ∧ Q (.bl (decide (x = .non))) H) isO :=
  ⟨op_isN, fun F H ps c x y dx dy b Q w tx ty e q => by
    unfold isO at e
    split at e
    · rw [ty.non]
      refine ⟨rfl, ?_⟩
      rw [tx.nonO]
      cases e; exact q
    · cases e⟩
theorem snd_isNot : OpR X (compareOp .IsNot) (fun x y H Q => y = .non ∧ Q (.bl (!decide (x = .non))) H) ∧ SndB G (fun x y H Q => y = .non ∧ Q (.bl (!decide (x = .non))) H) isNotO :=
  ⟨op_notN, fun F H ps c x y dx dy b Q w tx ty e q => by
    unfold isNotO isO at e
    split at e
    · rw [ty.non]
      refine ⟨rfl, ?_⟩
      rw [tx.nonO]
      cases e; exact q
    · cases e⟩

/-! ### tests -/
def asBool : D → M Bool
  | .bool b => pure b
  | _ => M.bad
theorem dc_val {e : Expr} {m : M D} (h : DE G X W ρ e m) (he : ∀ whole, isTrue e X.env whole = (do let v ← whole; standAt e.pos; holding [v] (truthy v)) := by intro _; rfl) : DC G X W ρ e (m >>= asBool) := by
  refine ⟨pt_imp (pt_val h.run he) fun σ H Q ⟨F, ps, c, w, s, q⟩ => ?_⟩
  refine ⟨F, ps, c, w, s, postT_then (P := fun r => Post G W σ F H ps r _) q (fun d c' _ q => ?_) fun y c' _ q => q⟩
  intro v F' H' ps' x w' d'
  unfold asBool at q
  split at q
  · cases d'
    exact ⟨_, rfl, q F' H' ps' x w'⟩
  · exact q.elim
theorem dc_not {e : Expr} {m : M Bool} (h : DC G X W ρ e m) : DC G X W ρ (.UnaryOp .Not e pos) (m >>= fun b => pure (!b)) := by
  refine ⟨pt_imp (pt_not h.run) fun σ H Q ⟨F, ps, c, w, s, q⟩ => ?_⟩
  exact ⟨F, ps, c, w, s, postT_then (P := fun r => PostT G W σ F H ps r _) q (fun d c' _ q => q) fun y c' _ q => q⟩
structure DW (G : Gx) (X : Cx) (W : WX) (ρ : Rho) (e : Expr) (m : M Bool) : Prop where
  run : PW X e fun σ H Q => At G σ H ρ fun F ps c => PostT G W σ F H ps (m c) Q
theorem pw_imp {e : Expr} {t t' : TT} (h : PW X e t) (k : ∀ σ H Q, t' σ H Q → t σ H Q) : PW X e t' := ⟨fun wh pins s σ H Q I q => h.run wh pins s σ H Q I (k _ _ _ q)⟩
theorem DW.dc {e : Expr} {m : M Bool} (h : DW G X W ρ e m) : DC G X W ρ e m := ⟨h.run.pt⟩
theorem dw_and1 {m : M Bool} (h : DC G X W ρ a m) : DW G X W ρ (.BoolOp .And [a] pos) m := ⟨pw_and1 h.run⟩
theorem dw_or1 {m : M Bool} (h : DC G X W ρ a m) : DW G X W ρ (.BoolOp .Or [a] pos) m := ⟨pw_or1 h.run⟩
theorem dw_and {es : List Expr} {m n : M Bool} (h : DC G X W ρ a m) (k : DW G X W ρ (.BoolOp .And (b :: es) pos) n) : DW G X W ρ (.BoolOp .And (a :: b :: es) pos) (m >>= fun t => cond t n (pure false)) := by
  refine ⟨pw_imp (pw_and h.run k.run) fun σ H Q ⟨F, ps, c, w, s, q⟩ => ?_⟩
  refine ⟨F, ps, c, w, s, postT_then (P := fun r => PostT G W σ F H ps r _) q (fun d c' _ q => ?_) fun y c' _ q => q⟩
  intro F' H' ps' x w'
  cases d with
  | true => exact iteT ⟨F', ps', c', w', s.ext x, PostT.later x q⟩
  | false => exact iteF (q F' H' ps' x w')
theorem dw_or {es : List Expr} {m n : M Bool} (h : DC G X W ρ a m) (k : DW G X W ρ (.BoolOp .Or (b :: es) pos) n) : DW G X W ρ (.BoolOp .Or (a :: b :: es) pos) (m >>= fun t => cond t (pure true) n) := by
  refine ⟨pw_imp (pw_or h.run k.run) fun σ H Q ⟨F, ps, c, w, s, q⟩ => ?_⟩
  refine ⟨F, ps, c, w, s, postT_then (P := fun r => PostT G W σ F H ps r _) q (fun d c' _ q => ?_) fun y c' _ q => q⟩
  intro F' H' ps' x w'
  cases d with
  | true => exact iteT (q F' H' ps' x w')
  | false => exact iteF ⟨F', ps', c', w', s.ext x, PostT.later x q⟩
/-! the same as values -/
theorem de_one {op : BoolOp} {m : M D} (h : DE G X W ρ a m) : DE G X W ρ (.BoolOp op [a] pos) m := ⟨pe_one h.run⟩
theorem de_and {es : List Expr} {m n : M D} (h : DE G X W ρ a m) (k : DE G X W ρ (.BoolOp .And (b :: es) pos) n) : DE G X W ρ (.BoolOp .And (a :: b :: es) pos) ((m >>= asBool) >>= fun t => cond t n (pure (.bool false))) := by
  rw [bind_assoc']
  refine ⟨pe_imp (pe_and h.run k.run) fun σ H Q ⟨F, ps, c, w, s, q⟩ => ?_⟩
  refine ⟨F, ps, c, w, s, post_then (P := fun r => Post G W σ F H ps r _) q (fun d c' _ q => ?_) fun y c' _ q => q⟩
  intro v F' H' ps' x w' d'
  unfold asBool at q
  split at q
  · cases d'
    rename_i bb hbb
    have q : Post G W σ F H ps ((cond bb n (pure (.bool false))) c') Q := q
    refine ⟨bb, rfl, ?_⟩
    cases bb with
    | true => exact iteT ⟨F', ps', c', w', s.ext x, Post.later x q⟩
    | false => exact iteF (q (.bl false) F' H' ps' x w' (.bool false))
  · exact q.elim
theorem de_or {es : List Expr} {m n : M D} (h : DE G X W ρ a m) (k : DE G X W ρ (.BoolOp .Or (b :: es) pos) n) : DE G X W ρ (.BoolOp .Or (a :: b :: es) pos) ((m >>= asBool) >>= fun t => cond t (pure (.bool true)) n) := by
  rw [bind_assoc']
  refine ⟨pe_imp (pe_or h.run k.run) fun σ H Q ⟨F, ps, c, w, s, q⟩ => ?_⟩
  refine ⟨F, ps, c, w, s, post_then (P := fun r => Post G W σ F H ps r _) q (fun d c' _ q => ?_) fun y c' _ q => q⟩
  intro v F' H' ps' x w' d'
  unfold asBool at q
  split at q
  · cases d'
    rename_i bb hbb
    have q : Post G W σ F H ps ((cond bb (pure (.bool true)) n) c') Q := q
    refine ⟨bb, rfl, ?_⟩
    cases bb with
    | true => exact iteT (q (.bl true) F' H' ps' x w' (.bool true))
    | false => exact iteF ⟨F', ps', c', w', s.ext x, Post.later x q⟩
  · exact q.elim
theorem de_not {m : M D} (h : DE G X W ρ a m) : DE G X W ρ (.UnaryOp .Not a pos) (valM ((m >>= asBool) >>= fun b => pure (!b))) := by
  unfold valM
  rw [bind_assoc', bind_assoc']
  refine ⟨pe_imp (pe_not h.run) fun σ H Q ⟨F, ps, c, w, s, q⟩ => ?_⟩
  refine ⟨F, ps, c, w, s, post_then (P := fun r => Post G W σ F H ps r _) q (fun d c' _ q => ?_) fun y c' _ q => q⟩
  intro v F' H' ps' x w' d'
  unfold asBool at q
  split at q
  · cases d'
    exact ⟨_, rfl, q _ F' H' ps' x w' (.bool _)⟩
  · exact q.elim
theorem de_if {cnd : Expr} {mc : M Bool} {m n : M D} (hc : DC G X W ρ cnd mc) (h : DE G X W ρ a m) (k : DE G X W ρ b n) : DE G X W ρ (.IfExp cnd a b pos) (mc >>= fun t => cond t m n) := by
  refine ⟨pe_imp (pe_ifExp hc.run h.run k.run) fun σ H Q ⟨F, ps, c, w, s, q⟩ => ?_⟩
  refine ⟨F, ps, c, w, s, post_then (P := fun r => PostT G W σ F H ps r _) q (fun d c' _ q => ?_) fun y c' _ q => q⟩
  intro F' H' ps' x w'
  cases d with
  | true => exact iteT ⟨F', ps', c', w', s.ext x, Post.later x q⟩
  | false => exact iteF ⟨F', ps', c', w', s.ext x, Post.later x q⟩
/-- a < b < c -/
theorem de_chain {op op' : CmpOp} {r r' : R2} {f f' : D → D → Option Bool} (ho : OpR X.nox (compareOp op) r) (hr : SndB G r f) (ho' : OpR X.nox (compareOp op') r') (hr' : SndB G r' f') (h1 : DO G X W ρ e1 m1) (h2 : DO G X W ρ e2 m2) (h3 : DO G X W ρ e3 m3)
    (hm : lastMarks [op, op'] [e2, e3] = false := by with_unfolding_all rfl) :
    DE G X W ρ (.Compare e1 [op, op'] [e2, e3] pos) (valM (m1 >>= fun x => m2 >>= fun y => cmpM f x y >>= fun t => cond t (m3 >>= fun z => cmpM f' y z) (pure false))) := by
  refine ⟨pe_imp (pe_chain (opR_nox ho) (opR_nox ho') h1.run h2.run h3.run hm) fun σ H Q ⟨F, ps, c, w, s, q⟩ => ?_⟩
  unfold valM at q
  rw [bind_assoc'] at q
  refine ⟨F, ps, c, w, s, post_then (P := fun r => PostO G W σ F H ps r _) q (fun d c' _ q => ?_) fun y c' _ q => q⟩
  intro v F' H' ps' x w' d'
  rw [bind_assoc'] at q
  refine ⟨F', ps', c', w', s.ext x, post_then (P := fun r => PostO G W σ F' H' ps' r _) (q.later x) (fun d2 c2 _ q => ?_) fun y c' _ q => q⟩
  intro v2 F2 H2 ps2 x2 w2 d2'
  have q := q.later x2
  unfold cmpM at q
  cases e : f d d2 with
  | none => rw [e] at q; exact q.elim
  | some bb =>
    rw [e] at q
    refine hr F2 H2 ps2 c2 v v2 d d2 bb _ w2 (d'.ext x2) d2' e ⟨bb, rfl, ?_⟩
    cases bb with
    | false => exact iteF (q (.bl false) F2 H2 ps2 .refl w2 (.bool false))
    | true =>
      have q : Post G W σ F2 H2 ps2 (((m3 >>= fun z => M.of (f' d2 z)) >>= fun b => pure (D.bool b)) c2) Q := q
      rw [bind_assoc'] at q
      refine iteT ⟨F2, ps2, c2, w2, (s.ext x).ext x2, post_then (P := fun r => PostO G W σ F2 H2 ps2 r _) q (fun d3 c3 _ q => ?_) fun y c' _ q => q⟩
      intro v3 F3 H3 ps3 x3 w3 d3'
      have q := q.later x3
      cases e' : f' d2 d3 with
      | none => rw [e'] at q; exact q.elim
      | some b' =>
        rw [e'] at q
        exact hr' F3 H3 ps3 c3 v2 v3 d2 d3 b' _ w3 (d2'.ext x3) d3' e' (q (.bl b') F3 H3 ps3 .refl w3 (.bool b'))
theorem dc_chain {op op' : CmpOp} {r r' : R2} {f f' : D → D → Option Bool} (ho : OpR X.nox (compareOp op) r) (hr : SndB G r f) (ho' : OpR X.nox (compareOp op') r') (hr' : SndB G r' f') (h1 : DO G X W ρ e1 m1) (h2 : DO G X W ρ e2 m2) (h3 : DO G X W ρ e3 m3)
    (hm : lastMarks [op, op'] [e2, e3] = false := by with_unfolding_all rfl) :
    DC G X W ρ (.Compare e1 [op, op'] [e2, e3] pos) (m1 >>= fun x => m2 >>= fun y => cmpM f x y >>= fun t => cond t (m3 >>= fun z => cmpM f' y z) (pure false)) := by
  refine ⟨pt_imp (pt_chain (opR_nox ho) (opR_nox ho') h1.run h2.run h3.run hm) fun σ H Q ⟨F, ps, c, w, s, q⟩ => ?_⟩
  refine ⟨F, ps, c, w, s, postT_then (P := fun r => PostO G W σ F H ps r _) q (fun d c' _ q => ?_) fun y c' _ q => q⟩
  intro v F' H' ps' x w' d'
  refine ⟨F', ps', c', w', s.ext x, postT_then (P := fun r => PostO G W σ F' H' ps' r _) (q.later x) (fun d2 c2 _ q => ?_) fun y c' _ q => q⟩
  intro v2 F2 H2 ps2 x2 w2 d2'
  have q := q.later x2
  unfold cmpM at q
  cases e : f d d2 with
  | none => rw [e] at q; exact q.elim
  | some bb =>
    rw [e] at q
    refine hr F2 H2 ps2 c2 v v2 d d2 bb _ w2 (d'.ext x2) d2' e ⟨bb, rfl, ?_⟩
    cases bb with
    | false => exact iteF ⟨false, rfl, q F2 H2 ps2 .refl w2⟩
    | true =>
      have q : PostT G W σ F2 H2 ps2 ((m3 >>= fun z => M.of (f' d2 z)) c2) Q := q
      refine iteT ⟨F2, ps2, c2, w2, (s.ext x).ext x2, postT_then (P := fun r => PostO G W σ F2 H2 ps2 r _) q (fun d3 c3 _ q => ?_) fun y c' _ q => q⟩
      intro v3 F3 H3 ps3 x3 w3 d3'
      have q := q.later x3
      cases e' : f' d2 d3 with
      | none => rw [e'] at q; exact q.elim
      | some b' =>
        rw [e'] at q
        exact hr' F3 H3 ps3 c3 v2 v3 d2 d3 b' _ w3 (d2'.ext x3) d3' e' ⟨b', rfl, q F3 H3 ps3 .refl w3⟩
end
end DL
namespace DL
open PySem PySem.Spec PyProof.Rows L2

/-! ### displays -/
@[reducible] def consM (m : M D) (ms : M (List D)) : M (List D) := m >>= fun d => ms >>= fun ds => pure (d :: ds)
@[reducible] def nilM : M (List D) := pure []
def mkTup (ds : List D) : M D := if short ds.length then pure (.tup ds) else M.bad
def mkLst (ds : List D) : M D := if short ds.length then pure (.lst ds) else M.bad

section
variable {G : Gx} {X : Cx} {W : WX} {ρ : Rho} {a b e1 e2 e3 e4 : Expr} {es : List Expr} {ma mb m m1 m2 m3 m4 : M D} {ms : M (List D)} {pos : Pos} {σ : L2.St} {F H : Hp} {ps : List Addr} {c : Sto} {v : V}
theorem de_tupA {k : Nat} (h : DA G X W ρ es ms) : DE G X W ρ (.Tuple es k pos) (ms >>= mkTup) := by
  refine ⟨pe_imp (pe_tup h.run) fun σ H Q ⟨F, ps, c, w, s, q⟩ => ?_⟩
  refine ⟨F, ps, c, w, s, post_args q fun ds c' vs F' H' ps' x w' r q => ?_⟩
  unfold mkTup at q
  obtain ⟨hz, q⟩ := ite_bad (fun r => Post G W σ F' H' ps' r Q) (fun z => z) q
  exact ⟨by rw [r.length]; exact short_le hz, post_tup w' r q⟩
theorem postF_then {α : Type} {m : M α} {f : α → M D} {Q : VK} {P : Res α → Prop}
    (h : PostF G W σ F H ps ((m >>= f) c) Q)
    (k : ∀ a c', m c = .ok a c' → PostF G W σ F H ps (f a c') Q → P (.ok a c'))
    (ke : ∀ x c', m c = .err x c' → (∀ cls dd F' H' ps', Ext F H ps F' H' ps' → Wl G F' H' ps' c' → ER G F' ps' x cls dd → W cls dd σ H') → P (.err x c')) : P (m c) := by
  have e0 : (m >>= f) c = M.bind m f c := rfl
  rw [e0] at h
  unfold M.bind at h
  cases e : m c with
  | ok a c' => rw [e] at h; exact k a c' e h
  | err x c' => rw [e] at h; exact ke x c' e h
  | bad => rw [e] at h; exact h.elim
theorem postF_args {ms : M (List D)} {f : List D → M D} {Q : VK} {R : List V → Hp → Prop} (h : PostF G W σ F H ps ((ms >>= f) c) Q)
    (k : ∀ ds c' vs F' H' ps', Ext F H ps F' H' ps' → Wl G F' H' ps' c' → DRs G.K G.cl F' ps' vs ds → PostF G W σ F' H' ps' (f ds c') Q → R vs H') : PostL G W σ F H ps (ms c) R :=
  postF_then (P := fun r => PostL G W σ F H ps r R) h (fun ds c' _ q => fun vs F' H' ps' x w r => k ds c' vs F' H' ps' x w r (q.later x)) fun y c' _ q => q
theorem df_lstA (h : DA G X W ρ es ms) : DF G X W ρ (.List es pos) (ms >>= mkLst) := by
  refine ⟨pe_imp (pe_lst h.run) fun σ H Q ⟨F, ps, c, w, s, q⟩ => ?_⟩
  refine ⟨F, ps, c, w, s, postF_args q fun ds c' vs F' H' ps' x w' r q => ?_⟩
  unfold mkLst at q
  obtain ⟨hz, q⟩ := ite_bad (fun r => PostF G W σ F' H' ps' r Q) (fun z => z) q
  exact ⟨by rw [r.length]; exact short_le hz, postF_lst w' r q⟩
theorem DF.cast {e : Expr} {m m' : M D} (h : DF G X W ρ e m) (he : m = m') : DF G X W ρ e m' := he ▸ h
theorem df_dict0 : DF G X W ρ (.Dict [] [] pos) (pure (.dict false [])) := by
  refine ⟨pe_imp pe_dnewK fun σ H Q ⟨F, ps, c, w, s, q⟩ => ?_⟩
  exact postF_obj w (.dK .nil) q
theorem df_dict0T : DF G X W ρ (.Dict [] [] pos) (pure (.dict true [])) := by
  refine ⟨pe_imp pe_dnewT fun σ H Q ⟨F, ps, c, w, s, q⟩ => ?_⟩
  exact postF_obj w (.dT .nil) q

/-! ### subscripts -/
/-- a key's equality -/
def keqD : D → D → Bool
  | .int i, .int j => i == j
  | .str a, .str b => a == b
  | .tup xs, .tup ys => go xs ys
  | _, _ => false
where go : List D → List D → Bool
  | [], [] => true
  | .int i :: xs, .int j :: ys => i == j && go xs ys
  | .str i :: xs, .str j :: ys => i == j && go xs ys
  | _, _ => false
def dgetO (kvs : List (D × D)) (k : D) : Option D := (kvs.find? fun kv => keqD kv.1 k).map (·.2)
/-- a key as one of a dict of this form -/
def isKey1 : D → Bool
  | .int _ => true
  | .str _ => true
  | _ => false
def isKeyT : D → Bool
  | .tup xs => xs.all isKey1
  | _ => false
/-- a key of the dict's form (t: tuples) -/
def okKey (t : Bool) (k : D) : Bool := cond t (isKeyT k) (isKey1 k)
def ixO : D → D → Option D
  | .tup xs, .int i => atI xs i
  | .lst xs, .int i => atI xs i
  | .str s, .int i => if short s.length then (atI s i).map fun c => .str [c] else none
  | .dict t kvs, k => if okKey t k then dgetO kvs k else none
  | _, _ => none

theorem key_of {d : D} (h : isKey1 d = true) : ∃ k : Key, d = keyD k := by
  cases d with
  | int i => exact ⟨.inl i, rfl⟩
  | str s => exact ⟨.inr ⟨s.toArray⟩, by simp [keyD]⟩
  | _ => exact nomatch h
theorem keyD_inj {k k' : Key} (h : keyD k = keyD k') : k = k' := by
  cases k with
  | inl i =>
    cases k' with
    | inl j => cases h; rfl
    | inr s => exact nomatch h
  | inr s =>
    cases k' with
    | inl j => exact nomatch h
    | inr t =>
      have e : s.cps.toList = t.cps.toList := D.str.inj h
      have e2 : s = t := by
        cases s; cases t
        have := Array.toList_inj.mp e
        simp at this
        rw [this]
      rw [e2]
theorem keq_key (k k' : Key) : keqD (keyD k) (keyD k') = decide (k = k') := by
  cases k with
  | inl i =>
    cases k' with
    | inl j => show (i == j) = _; simp [Bool.beq_eq_decide_eq]
    | inr s => show false = _; simp
  | inr s =>
    cases k' with
    | inl j => show false = _; simp
    | inr t =>
      show (s.cps.toList == t.cps.toList) = _
      rw [Bool.beq_eq_decide_eq]
      congr 1
      refine propext ⟨fun e => ?_, fun e => by cases e; rfl⟩
      have : keyD (.inr s) = keyD (.inr t) := by show D.str s.cps.toList = D.str t.cps.toList; rw [e]
      exact keyD_inj this
theorem keq_go : ∀ (k k' : List Key), keqD.go (k.map keyD) (k'.map keyD) = decide (k = k')
  | [], [] => by simp [keqD.go]
  | [], _ :: _ => by simp [keqD.go]
  | x :: k, [] => by cases x <;> simp [keqD.go, keyD]
  | x :: k, y :: k' => by
    have ih := keq_go k k'
    have h1 := keq_key x y
    have e : decide (x :: k = y :: k') = (decide (x = y) && decide (k = k')) := by
      rw [Bool.eq_iff_iff]; simp
    rw [e, ← ih, ← h1]
    cases x <;> cases y <;> rfl
theorem keq_keys (k k' : List Key) : keqD (.tup (k.map keyD)) (.tup (k'.map keyD)) = decide (k = k') := keq_go k k'
theorem keys_of : ∀ {ds : List D}, ds.all isKey1 = true → ∃ ks : List Key, ds = ks.map keyD
  | [], _ => ⟨[], rfl⟩
  | d :: ds, h => by
    rw [List.all_cons] at h
    obtain ⟨h1, h2⟩ := and_t h
    obtain ⟨k, rfl⟩ := key_of h1
    obtain ⟨ks, rfl⟩ := keys_of h2
    exact ⟨k :: ks, rfl⟩
section
variable {K : PySem.W.Frag} {cl : String → Option Addr}
theorem drk_find {k : Key} : ∀ {kvs : List (Key × V)} {ds : List (D × D)}, DRk K cl F ps kvs ds →
    (valV kvs k = none ∧ dgetO ds (keyD k) = none) ∨ ∃ v d, valV kvs k = some v ∧ dgetO ds (keyD k) = some d ∧ DR K cl F ps v d
  | _, _, .nil => .inl ⟨rfl, rfl⟩
  | (k', v) :: kvs, (_, d) :: ds, .cons h hr => by
    have ih := drk_find (k := k) hr
    unfold valV dgetO at ih ⊢
    simp only [List.find?_cons]
    rw [keq_key]
    cases e : decide (k' = k) with
    | true => exact .inr ⟨v, d, rfl, rfl, h⟩
    | false => exact ih
theorem drt_find {k : List Key} : ∀ {kvs : List (List Key × V)} {ds : List (D × D)}, DRt K cl F ps kvs ds →
    (valV kvs k = none ∧ dgetO ds (.tup (k.map keyD)) = none) ∨ ∃ v d, valV kvs k = some v ∧ dgetO ds (.tup (k.map keyD)) = some d ∧ DR K cl F ps v d
  | _, _, .nil => .inl ⟨rfl, rfl⟩
  | (k', v) :: kvs, (_, d) :: ds, .cons h hr => by
    have ih := drt_find (k := k) hr
    unfold valV dgetO at ih ⊢
    simp only [List.find?_cons]
    rw [keq_keys]
    cases e : decide (k' = k) with
    | true => exact .inr ⟨v, d, rfl, rfl, h⟩
    | false => exact ih
end
theorem ix_dict (hu : X.A.units + 1 < cLine) : IxR X (fun x y H Q => ∃ a v, x = .ref a ∧ DGet H a y (some v) ∧ Q v H) := by
  intro value slice pins s σ H x y v u Q I rx ry h hs
  obtain ⟨a, w, rfl, g, q⟩ := h
  cases rx
  exact tail_any (dict_typeIs I g) PySem.F.slot_dict_getitem.lookup (d_getItem hu I g ry fun w' s3 I3 rw' => ⟨w, H, I3, rw', q⟩) hs
theorem DT.dictO {t : Bool} {kvs : List (D × D)} (w : Wl G F H ps c) (h : DT G F H ps v (.dict t kvs)) : ∃ a o, v = .ref a ∧ Rd H a o ∧ OR G.K G.cl F ps o (.dict t kvs) := by
  cases h with
  | known h =>
    cases h with
    | dict h1 h2 => exact ⟨_, _, rfl, Rd.up w.sub h1, h2⟩
  | own h1 _ h => exact ⟨_, _, rfl, .inl h1, h⟩
theorem drs_key : ∀ {vs : List V} {ds : List D}, DRs G.K G.cl F ps vs ds → ds.all isKey1 = true → ∃ ks : List Key, ds = ks.map keyD ∧ vs = ks.map kV
  | _, _, .nil, _ => ⟨[], rfl, rfl⟩
  | _, _, .cons h r, z => by
    rw [List.all_cons] at z
    obtain ⟨z1, z2⟩ := and_t z
    obtain ⟨ks, rfl, rfl⟩ := drs_key r z2
    cases h with
    | int i => exact ⟨.inl i :: ks, rfl, rfl⟩
    | str s => exact ⟨.inr ⟨s.toArray⟩ :: ks, by simp [keyD], rfl⟩
    | _ => exact nomatch z1
theorem key_val {y : V} {kk : Key} (ty : DT G F H ps y (keyD kk)) : y = kV kk := by
  cases kk with
  | inl i => exact ty.int
  | inr s =>
    have e := DT.str (s := s.cps.toList) ty
    rw [e]
    show V.str _ = V.str _
    congr 1
/-- a key asked of a dict -/
theorem dget_of {a : Addr} {o : HO} {t : Bool} {kvs : List (D × D)} {k : D} {y : V} (w : Wl G F H ps c) (h : Rd H a o) (r : OR G.K G.cl F ps o (.dict t kvs)) (ty : DT G F H ps y k) (hk : okKey t k = true) :
    (dgetO kvs k = none ∧ DGet H a y none) ∨ ∃ v d, dgetO kvs k = some d ∧ DGet H a y (some v) ∧ DR G.K G.cl F ps v d := by
  cases r with
  | dK r1 =>
    obtain ⟨kk, rfl⟩ := key_of hk
    have ey := key_val ty
    rcases drk_find (k := kk) r1 with ⟨e1, e2⟩ | ⟨v, d, e1, e2, r⟩
    · exact .inl ⟨e2, .inl ⟨_, kk, h, ey, e1.symm⟩⟩
    · exact .inr ⟨v, d, e2, .inl ⟨_, kk, h, ey, e1.symm⟩, r⟩
  | dT r1 =>
    cases k with
    | tup ds =>
      obtain ⟨b, vs, rfl, h2, r2⟩ := ty.tup w
      obtain ⟨kk, rfl, rfl⟩ := drs_key r2 hk
      rcases drt_find (k := kk) r1 with ⟨e1, e2⟩ | ⟨v, d, e1, e2, r⟩
      · exact .inl ⟨e2, .inr ⟨_, kk, b, h, rfl, h2, e1.symm⟩⟩
      · exact .inr ⟨v, d, e2, .inr ⟨_, kk, b, h, rfl, h2, e1.symm⟩, r⟩
    | _ => exact nomatch hk
theorem drs_ix {vs : List V} {ds : List D} {i : Int} {d : D} (r : DRs G.K G.cl F ps vs ds) (h : atI ds i = some d) : ∃ v, atI vs i = some v ∧ DR G.K G.cl F ps v d := by
  unfold atI at h ⊢
  rw [r.length]
  cases e : ixN ds.length i with
  | none => rw [e] at h; cases h
  | some j =>
    rw [e] at h
    exact r.get h
theorem de_ix (h1 : DO G X W ρ a ma) (h2 : DO G X W ρ b mb) (hu : X.A.units + 1 < cLine) (hs : PlainIx b := by intro _ _; rfl) (hK : G.K = X.K := by rfl) : DE G X W ρ (.Subscript a b pos) (ma >>= fun x => mb >>= fun y => M.of (ixO x y)) := by
  suffices hr : Snd2 G (fun x y H Q => rIx X.K x y H Q ∨ ∃ a v, x = .ref a ∧ DGet H a y (some v) ∧ Q v H) (fun x y => M.of (ixO x y)) from
    ⟨pe_imp (pe_ix (IxR.or ix_seq (ix_dict hu)) h1.run h2.run hs) fun σ H Q q => at_bin hr q⟩
  intro W σ F H ps c x y dx dy Q w tx ty q
  replace q : Post G W σ F H ps (M.of (ixO dx dy) c) Q := q
  cases e : ixO dx dy with
  | none => rw [e] at q; exact q.elim
  | some d =>
    rw [e] at q
    replace q : Post G W σ F H ps (.ok d c) Q := q
    unfold ixO at e
    split at e
    · obtain ⟨p, vs, rfl, g1, g2⟩ := tx.tup w
      obtain ⟨u, g3, g4⟩ := drs_ix g2 e
      rw [ty.int]
      exact .inl (.inr (.inl ⟨p, vs, _, u, rfl, rfl, SqT.of g1, g3, post_here w g4 q⟩))
    · obtain ⟨p, vs, rfl, g1, g2⟩ := tx.lst w
      obtain ⟨u, g3, g4⟩ := drs_ix g2 e
      rw [ty.int]
      exact .inl (.inl ⟨p, vs, _, u, rfl, rfl, SqL.of g1, g3, post_here w g4 q⟩)
    · rename_i s i
      split at e
      · rename_i hz
        rw [tx.str, ty.int]
        cases e2 : atI s i with
        | none => rw [e2] at e; cases e
        | some ch =>
          rw [e2] at e
          cases e
          exact .inl (.inr (.inr ⟨⟨s.toArray⟩, i, ch, rfl, rfl, by rw [str_len]; exact short_le hz, by rw [ext_str]; exact e2, post_str w q rfl⟩))
      · cases e
    · split at e
      · rename_i hz
        obtain ⟨p, o, rfl, g1, g2⟩ := tx.dictO w
        rcases dget_of w g1 g2 ty hz with ⟨g3, _⟩ | ⟨u, d', g3, g4, g5⟩
        · rw [g3] at e; cases e
        · rw [g3] at e; cases e
          exact .inr ⟨p, u, rfl, g4, post_here w g5 q⟩
      · cases e
    · cases e
end
end DL
namespace DL
open PySem PySem.Spec PyProof.Rows L2

section
variable {G : Gx} {X : Cx} {W : WX} {ρ : Rho} {a b e1 e2 e3 e4 : Expr} {es : List Expr} {ma mb m m1 m2 m3 m4 : M D} {ms : M (List D)} {p pos : Pos} {x : Str} {σ : L2.St} {F H : Hp} {ps : List Addr} {c : Sto} {v : V}
/-! ### operand arguments -/
theorem pa1 {t : TE} (h : PE X a t) (hs : NS a) : PA X [a] (tCons t tNil) := pa_cons h pa_nil (hs _ _)
theorem pa2 {t u : TE} (h : PE X a t) (k : PE X b u) (hs : NS a) (ks : NS b) : PA X [a, b] (tCons t (tCons u tNil)) := pa_cons h (pa_cons k pa_nil (ks _ _)) (hs _ _)
/-- f(a), f a built-in -/
theorem de_b1 {id : String} {r : List V → Hp → VK → Prop} {f : D → M D} (hc : CallR X (.builtin id) r) (hr : Snd1 G (fun x => r [x]) f) (hg : Gl X x) (hm : X.mg x = none) (hv : bootBuiltins x = some (.builtin id)) (ha : DO G X W ρ a ma) (hn : x ≠ "__name__" := by decide) (hdb : (x == ("__debug__" : Str)) = false := by decide) (ns : NS a := by intro _ _; rfl) :
    DE G X W ρ (.Call (.Name x p) [a] [] pos) (ma >>= f) :=
  ⟨pe_imp (pe_callB hc hg hm hv (pa1 ha.run ns) hn hdb (ns _ _) plain_nil) fun σ H Q q => at_un hr q⟩
theorem de_t1 {id : String} {r : List V → Hp → VK → Prop} {f : D → M D} (hc : CallR X (.type id) r) (hr : Snd1 G (fun x => r [x]) f) (hg : Gl X x) (hm : X.mg x = none) (hv : bootBuiltins x = some (.type id)) (ha : DO G X W ρ a ma) (hn : x ≠ "__name__" := by decide) (hdb : (x == ("__debug__" : Str)) = false := by decide) (ns : NS a := by intro _ _; rfl) :
    DE G X W ρ (.Call (.Name x p) [a] [] pos) (ma >>= f) :=
  ⟨pe_imp (pe_callTy hc hg hm hv (pa1 ha.run ns) hn hdb (ns _ _) plain_nil) fun σ H Q q => at_un hr q⟩
theorem at_unF {m : M D} {r : V → Hp → VK → Prop} {op : D → M D} (hr : Snd1F G r op) {Q : VK} (h : At G σ H ρ fun F ps c => PostF G W σ F H ps ((m >>= op) c) Q) :
    At G σ H ρ fun F ps c => PostO G W σ F H ps (m c) fun x H1 => r x H1 Q := by
  obtain ⟨F, ps, c, w, s, q⟩ := h
  refine ⟨F, ps, c, w, s, ?_⟩
  refine postF_then (P := fun r' => PostO G W σ F H ps r' fun x H1 => r x H1 Q) q (fun d c' _ q => ?_) fun x c' _ q => q
  intro v F' H' ps' x w' d'
  exact hr W σ F' H' ps' c' v d Q w' d' (q.later x)
theorem df_t1 {id : String} {r : List V → Hp → VK → Prop} {f : D → M D} (hc : CallR X (.type id) r) (hr : Snd1F G (fun x => r [x]) f) (hg : Gl X x) (hm : X.mg x = none) (hv : bootBuiltins x = some (.type id)) (ha : DO G X W ρ a ma) (hn : x ≠ "__name__" := by decide) (hdb : (x == ("__debug__" : Str)) = false := by decide) (ns : NS a := by intro _ _; rfl) :
    DF G X W ρ (.Call (.Name x p) [a] [] pos) (ma >>= f) :=
  ⟨pe_imp (pe_callTy hc hg hm hv (pa1 ha.run ns) hn hdb (ns _ _) plain_nil) fun σ H Q q => at_unF hr q⟩
theorem de_b2 {id : String} {r : List V → Hp → VK → Prop} {f : D → D → M D} (hc : CallR X (.builtin id) r) (hr : Snd2 G (fun x y => r [x, y]) f) (hg : Gl X x) (hm : X.mg x = none) (hv : bootBuiltins x = some (.builtin id)) (ha : DO G X W ρ a ma) (hb : DO G X W ρ b mb) (hn : x ≠ "__name__" := by decide) (hdb : (x == ("__debug__" : Str)) = false := by decide) (ns : NS a := by intro _ _; rfl) (ns2 : NS b := by intro _ _; rfl) :
    DE G X W ρ (.Call (.Name x p) [a, b] [] pos) (ma >>= fun x => mb >>= fun y => f x y) :=
  ⟨pe_imp (pe_callB hc hg hm hv (pa2 ha.run hb.run ns ns2) hn hdb (ns _ _) (plain_cons ns2 plain_nil)) fun σ H Q q => at_bin hr q⟩

/-! ### the built-in functions, plainly -/
def lenO : D → Option D
  | .str s => if short s.length then some (.int s.length) else none
  | .tup xs => some (.int xs.length)
  | .lst xs => some (.int xs.length)
  | .scr xs => some (.int xs.length)
  | .dict false kvs => some (.int kvs.length)
  | _ => none
def absO : D → Option D
  | .int i => some (.int (if i < 0 then -i else i))
  | _ => none
def intO : D → Option D
  | .int i => some (.int i)
  | .bool b => some (.int (if b then 1 else 0))
  | _ => none
/-- the digits of a number -/
def digsN : Nat → Nat → List Nat → List Nat
  | 0, _, acc => acc
  | f + 1, n, acc => if n < 10 then (48 + n) :: acc else digsN f (n / 10) ((48 + n % 10) :: acc)
def digN (n : Nat) : List Nat := digsN (n.log2 + 1) n []
def digI (i : Int) : List Nat := if i < 0 then 45 :: digN i.natAbs else digN i.natAbs
def strO : D → Option D
  | .int i => if i.natAbs.log2.blt 1920 then some (.str (digI i)) else none
  | _ => none
def ordO : D → Option D
  | .str [c] => some (.int c)
  | _ => none
def tupO : D → Option D
  | .lst xs => some (.tup xs)
  | .tup xs => some (.tup xs)
  | _ => none
def lstO : D → Option D
  | .lst xs => some (.lst xs)
  | .tup xs => some (.lst xs)
  | .scr xs => some (.lst xs)
  | _ => none
def bools : List D → Option (List Bool)
  | [] => some []
  | .bool b :: r => (bools r).map (b :: ·)
  | _ => none
def intsO : List D → Option (List Int)
  | [] => some []
  | .int b :: r => (intsO r).map (b :: ·)
  | _ => none
def allO : D → Option D
  | .lst xs => (bools xs).map fun bs => .bool (bs.all id)
  | _ => none
def anyO : D → Option D
  | .lst xs => (bools xs).map fun bs => .bool (bs.any id)
  | _ => none
def sumO : D → Option D
  | .lst xs => (intsO xs).map fun ns => .int ns.sum
  | _ => none
def tyIs : D → Ty → Option Bool
  | .int _, .int => some true
  | .bool _, .int => some true
  | .bool _, .bool => some true
  | .str _, .str => some true
  | .tup _, .tuple => some true
  | .lst _, .list => some true
  | .non, _ => some false
  | .int _, _ => some false
  | .bool _, _ => some false
  | .str _, _ => some false
  | .tup _, _ => some false
  | .lst _, _ => some false
  | _, _ => none
def isiO : D → D → Option D
  | d, .ty t => (tyIs d t).map .bool
  | _, _ => none
def ofO (f : D → Option D) (x : D) : M D := M.of (f x)
def ofO2 (f : D → D → Option D) (x y : D) : M D := M.of (f x y)

theorem snd1_of {r : V → Hp → VK → Prop} {f : D → Option D} (h : ∀ (W : WX) (σ : L2.St) F H ps c x dx d (Q : VK), Wl G F H ps c → DT G F H ps x dx → f dx = some d → Post G W σ F H ps (.ok d c) Q → r x H Q) : Snd1 G r (ofO f) := fun W σ F H ps c x dx Q w tx q => by
  replace q : Post G W σ F H ps (M.of (f dx) c) Q := q
  cases e : f dx with
  | none => rw [e] at q; exact q.elim
  | some d => rw [e] at q; exact h W σ F H ps c x dx d Q w tx e q
theorem snd1F_of {r : V → Hp → VK → Prop} {f : D → Option D} (h : ∀ (W : WX) (σ : L2.St) F H ps c x dx d (Q : VK), Wl G F H ps c → DT G F H ps x dx → f dx = some d → PostF G W σ F H ps (.ok d c) Q → r x H Q) : Snd1F G r (ofO f) := fun W σ F H ps c x dx Q w tx q => by
  replace q : PostF G W σ F H ps (M.of (f dx) c) Q := q
  cases e : f dx with
  | none => rw [e] at q; exact q.elim
  | some d => rw [e] at q; exact h W σ F H ps c x dx d Q w tx e q
theorem snd2_of {r : R2} {f : D → D → Option D} (h : ∀ (W : WX) (σ : L2.St) F H ps c x y dx dy d (Q : VK), Wl G F H ps c → DT G F H ps x dx → DT G F H ps y dy → f dx dy = some d → Post G W σ F H ps (.ok d c) Q → r x y H Q) : Snd2 G r (ofO2 f) := fun W σ F H ps c x y dx dy Q w tx ty q => by
  replace q : Post G W σ F H ps (M.of (f dx dy) c) Q := q
  cases e : f dx dy with
  | none => rw [e] at q; exact q.elim
  | some d => rw [e] at q; exact h W σ F H ps c x y dx dy d Q w tx ty e q

theorem call_lenR : CallR X (.builtin "len") (fun xs H Q => ∃ a kvs, xs = [V.ref a] ∧ Rd H a (.dK kvs) ∧ Q (.int kvs.length) H) := by
  intro pins s σ H xs us Q I r h
  obtain ⟨a, kvs, rfl, ha, q⟩ := h
  obtain ⟨u, rfl, ru⟩ := vals1 r
  cases ru
  exact d_len I ha fun t s' I' => ⟨.int kvs.length, H, I', ⟨t, rfl⟩, q⟩
theorem snd_len (hK : G.K = X.K) : Snd1 G (fun x H Q => (∃ x' n, [x] = [x'] ∧ LenV X.K x' H n ∧ Q (.int n) H) ∨ ∃ a kvs, [x] = [V.ref a] ∧ Rd H a (.dK kvs) ∧ Q (.int kvs.length) H) (ofO lenO) := snd1_of fun W σ F H ps c x dx d Q w tx e q => by
  unfold lenO at e
  split at e
  · split at e
    · rename_i hz
      cases e
      rw [tx.str]
      exact .inl ⟨_, _, rfl, ⟨by rw [str_len]; exact short_le hz, rfl⟩, by rw [str_len]; exact post_int w q⟩
    · cases e
  · cases e
    obtain ⟨p, vs, rfl, g1, g2⟩ := tx.tup w
    exact .inl ⟨_, _, rfl, .inr ⟨vs, SqT.of g1, rfl⟩, by rw [g2.length]; exact post_int w q⟩
  · cases e
    obtain ⟨p, vs, rfl, g1, g2⟩ := tx.lst w
    exact .inl ⟨_, _, rfl, .inl ⟨vs, SqL.of g1, rfl⟩, by rw [g2.length]; exact post_int w q⟩
  · cases e
    obtain ⟨p, vs, rfl, g1, g2⟩ := tx.scr w
    exact .inl ⟨_, _, rfl, .inl ⟨vs, hK ▸ g1, rfl⟩, by rw [g2.length]; exact post_int w q⟩
  · cases e
    cases tx with
    | own h1 h2 h3 =>
      cases h3 with
      | dK r =>
        have hl : ∀ {kvs : List (Key × V)} {ds : List (D × D)}, DRk G.K G.cl F ps kvs ds → kvs.length = ds.length := fun {kvs ds} r => by
          induction kvs generalizing ds with
          | nil => cases r; rfl
          | cons z zs ih => cases r with | cons _ r => rw [List.length_cons, List.length_cons, ih r]
        exact .inr ⟨_, _, rfl, .inl h1, by rw [hl r]; exact post_int w q⟩
    | known h =>
      cases h with
      | dict h1 h3 =>
        cases h3 with
        | dK r =>
          have hl : ∀ {kvs : List (Key × V)} {ds : List (D × D)}, DRk G.K G.cl F ps kvs ds → kvs.length = ds.length := fun {kvs ds} r => by
            induction kvs generalizing ds with
            | nil => cases r; rfl
            | cons z zs ih => cases r with | cons _ r => rw [List.length_cons, List.length_cons, ih r]
          exact .inr ⟨_, _, rfl, Rd.up w.sub h1, by rw [hl r]; exact post_int w q⟩
  · cases e
theorem snd_abs : Snd1 G (fun x H Q => ∃ i, [x] = [V.int i] ∧ Q (.int (if i < 0 then -i else i)) H) (ofO absO) := snd1_of fun W σ F H ps c x dx d Q w tx e q => by
  unfold absO at e
  split at e
  · cases e; rw [tx.int]; exact ⟨_, rfl, post_int w q⟩
  · cases e
theorem snd_int : Snd1 G (fun x H Q => (∃ i, [x] = [V.int i] ∧ Q (.int i) H) ∨ ∃ k, [x] = [V.bl k] ∧ Q (.int (if k then 1 else 0)) H) (ofO intO) := snd1_of fun W σ F H ps c x dx d Q w tx e q => by
  unfold intO at e
  split at e
  · cases e; rw [tx.int]; exact .inl ⟨_, rfl, post_int w q⟩
  · cases e; rw [tx.bool]; exact .inr ⟨_, rfl, post_int w q⟩
  · cases e
theorem snd_ord : Snd1 G (fun x H Q => ∃ y : Str, [x] = [V.str y] ∧ y.length = 1 ∧ Q (.int (y.cps.getD 0 0 : Nat)) H) (ofO ordO) := snd1_of fun W σ F H ps c x dx d Q w tx e q => by
  unfold ordO at e
  split at e
  · cases e; rw [tx.str]; exact ⟨_, rfl, rfl, post_int w q⟩
  · cases e
theorem snd_tuple : Snd1 G (fun x H Q => ∃ p ys, [x] = [V.ref p] ∧ ((SqL X.K H p ys ∧ ∀ l, H l = none → Q (.ref l) (upd H l (.tup ys))) ∨ (SqT X.K H p ys ∧ Q (.ref p) H))) (ofO tupO) := snd1_of fun W σ F H ps c x dx d Q w tx e q => by
  unfold tupO at e
  split at e
  · cases e
    obtain ⟨p, vs, rfl, g1, g2⟩ := tx.lst w
    exact ⟨p, vs, rfl, .inl ⟨SqL.of g1, post_tup w g2 q⟩⟩
  · cases e
    have tx0 := tx
    obtain ⟨p, vs, rfl, g1, g2⟩ := tx.tup w
    refine ⟨p, vs, rfl, .inr ⟨SqT.of g1, ?_⟩⟩
    cases tx0 with
    | known h => exact post_here w h q
    | own _ _ h => nomatch h
  · cases e
theorem sndF_list (hK : G.K = X.K) : Snd1F G (fun x H Q => ∃ p ys, [x] = [V.ref p] ∧ (SqL X.K H p ys ∨ SqT X.K H p ys) ∧ ∀ l, H l = none → Q (.ref l) (upd H l (.lst ys))) (ofO lstO) := snd1F_of fun W σ F H ps c x dx d Q w tx e q => by
  unfold lstO at e
  split at e
  · cases e
    obtain ⟨p, vs, rfl, g1, g2⟩ := tx.lst w
    exact ⟨p, vs, rfl, .inl (SqL.of g1), postF_lst w g2 q⟩
  · cases e
    obtain ⟨p, vs, rfl, g1, g2⟩ := tx.tup w
    exact ⟨p, vs, rfl, .inr (SqT.of g1), postF_lst w g2 q⟩
  · cases e
    obtain ⟨p, vs, rfl, g1, g2⟩ := tx.scr w
    exact ⟨p, vs, rfl, .inl (hK ▸ g1), postF_lst w g2 q⟩
  · cases e
theorem bools_of : ∀ {xs : List D} {bs : List Bool} {vs : List V}, DRs G.K G.cl F ps vs xs → bools xs = some bs → vs = bs.map V.bl
  | _, _, _, .nil, e => by cases e; rfl
  | _, _, _, .cons h r, e => by
    cases h with
    | bool b =>
      rename_i ds
      have e' : (bools ds).map (b :: ·) = some _ := e
      cases e2 : bools ds with
      | none => rw [e2] at e'; cases e'
      | some l =>
        rw [e2] at e'
        cases e'
        rw [bools_of r e2]
        rfl
    | _ => exact nomatch e
theorem ints_of : ∀ {xs : List D} {bs : List Int} {vs : List V}, DRs G.K G.cl F ps vs xs → intsO xs = some bs → vs = bs.map V.int
  | _, _, _, .nil, e => by cases e; rfl
  | _, _, _, .cons h r, e => by
    cases h with
    | int b =>
      rename_i ds
      have e' : (intsO ds).map (b :: ·) = some _ := e
      cases e2 : intsO ds with
      | none => rw [e2] at e'; cases e'
      | some l =>
        rw [e2] at e'
        cases e'
        rw [ints_of r e2]
        rfl
    | _ => exact nomatch e
theorem snd_all : Snd1 G (fun x H Q => rAll X.K [x] H Q) (ofO allO) := snd1_of fun W σ F H ps c x dx d Q w tx e q => by
  unfold allO at e
  split at e
  · rename_i xs
    cases e2 : bools xs with
    | none => rw [e2] at e; cases e
    | some bs =>
      rw [e2] at e
      cases e
      obtain ⟨p, vs, rfl, g1, g2⟩ := tx.lst w
      exact ⟨p, bs, rfl, SqL.of (bools_of g2 e2 ▸ g1), post_bool w q⟩
  · cases e
theorem snd_any : Snd1 G (fun x H Q => rAny X.K [x] H Q) (ofO anyO) := snd1_of fun W σ F H ps c x dx d Q w tx e q => by
  unfold anyO at e
  split at e
  · rename_i xs
    cases e2 : bools xs with
    | none => rw [e2] at e; cases e
    | some bs =>
      rw [e2] at e
      cases e
      obtain ⟨p, vs, rfl, g1, g2⟩ := tx.lst w
      exact ⟨p, bs, rfl, SqL.of (bools_of g2 e2 ▸ g1), post_bool w q⟩
  · cases e
theorem snd_sum : Snd1 G (fun x H Q => rSum X.K [x] H Q) (ofO sumO) := snd1_of fun W σ F H ps c x dx d Q w tx e q => by
  unfold sumO at e
  split at e
  · rename_i xs
    cases e2 : intsO xs with
    | none => rw [e2] at e; cases e
    | some bs =>
      rw [e2] at e
      cases e
      obtain ⟨p, vs, rfl, g1, g2⟩ := tx.lst w
      exact ⟨p, bs, rfl, SqL.of (ints_of g2 e2 ▸ g1), post_int w q⟩
  · cases e
/-! isinstance with a built-in class -/
def Ty.ofD : D → Option String
  | .int _ => some "int" | .bool _ => some "bool" | .str _ => some "str" | .tup _ => some "tuple" | .lst _ => some "list" | .non => some "NoneType"
  | _ => none
theorem tyx_of {d : D} {n : String} {x : V} (w : Wl G F H ps c) (tx : DT G F H ps x d) (h : Ty.ofD d = some n) (hK : G.K = X.K) : TyX X.K H x (.type n) := by
  unfold Ty.ofD at h
  split at h
  · cases h; rw [tx.int]; exact .base (.int _)
  · cases h; rw [tx.bool]; exact .base (.bl _)
  · cases h; rw [tx.str]; exact .base (.str _)
  · cases h
    obtain ⟨p, vs, rfl, g1, g2⟩ := tx.tup w
    exact .base (.tup g1)
  · cases h
    obtain ⟨p, vs, rfl, g1, g2⟩ := tx.lst w
    exact .base (.lst g1)
  · cases h; rw [tx.non]; exact .base .non
  · cases h
theorem ty_none {d : D} {t : Ty} (h : Ty.ofD d = none) : tyIs d t = none := by
  cases d <;> cases h <;> cases t <;> rfl
theorem ty_kit {d : D} {n : String} {t : Ty} {b : Bool} {K : PySem.W.Frag} (h : Ty.ofD d = some n) (e : tyIs d t = some b) : PySem.W.kitOne K (.type n) (.type t.name) = some b := by
  unfold Ty.ofD at h
  split at h <;> cases h <;> cases t <;> (first | (cases e; exact kit_ty (by decide +kernel)) | cases e)
theorem snd_isi (hK : G.K = X.K) : Snd2 G (fun x y H Q => rIsi X.K [x, y] H Q) (ofO2 isiO) := snd2_of fun W σ F H ps c x y dx dy d Q w tx ty e q => by
  unfold isiO at e
  split at e
  · rename_i t
    cases e1 : tyIs dx t with
    | none => rw [e1] at e; cases e
    | some b =>
      rw [e1] at e
      cases e
      cases e2 : Ty.ofD dx with
      | none => rw [ty_none e2] at e1; cases e1
      | some n =>
        cases ty with
        | known ty =>
          cases ty
          exact ⟨x, _, .type n, .type t.name, b, rfl, .ty _, tyx_of w tx e2 hK, ty_kit e2 e1, post_bool w q⟩
        | own _ _ h => nomatch h
  · cases e
/-- a built-in class as a value -/
theorem de_ty (t : Ty) (hg : Gl X x) (hm : X.mg x = none) (hv : bootBuiltins x = some (.type t.name)) (hn : x ≠ "__name__" := by decide) (hdb : (x == ("__debug__" : Str)) = false := by decide) : DE G X W ρ (.Name x pos) (pure (.ty t)) :=
  ⟨pe_imp (pe_bltn (v := .ty t.name) hg hm hv rfl hn hdb) fun σ H Q ⟨F, ps, c, w, s, q⟩ => post_here w (.ty t) q⟩
/-! numbers as texts -/
theorem digsN_eq : ∀ (f n : Nat) (acc : List Nat), n < 2 ^ f → 0 < f → digsN f n acc = TL.numL n ++ acc
  | 0, _, _, _, h => absurd h (by decide)
  | f + 1, n, acc, h, _ => by
    unfold digsN
    by_cases hn : n < 10
    · rw [if_pos hn, TL.numL_lt hn]; rfl
    · rw [if_neg hn, TL.numL_step (by omega)]
      have hf : 0 < f := by
        rcases Nat.eq_zero_or_pos f with z | z
        · subst z; simp at h; omega
        · exact z
      have h2 : n / 10 < 2 ^ f := by
        rw [Nat.pow_succ] at h
        omega
      rw [digsN_eq f (n / 10) _ h2 hf, List.append_assoc]
      rfl
theorem digN_eq (n : Nat) : digN n = TL.numL n := by
  unfold digN
  rw [digsN_eq _ n [] Nat.lt_log2_self (Nat.succ_pos _), List.append_nil]
theorem cps_app (a b : String) : (Str.ofString (a ++ b)).cps.toList = (Str.ofString a).cps.toList ++ (Str.ofString b).cps.toList := by
  rw [Str.ofString_eq_toList, Str.ofString_eq_toList, Str.ofString_eq_toList]
  simp
theorem digI_eq (i : Int) : (Str.ofString (toString i)).cps.toList = digI i := by
  unfold digI
  by_cases h : i < 0
  · rw [if_pos h, PyProof.Rows.toString_neg h, cps_app]
    have e : (0 : Int) - i = ((i.natAbs : Nat) : Int) := by omega
    rw [e, digN_eq]
    have := TL.tl_num i.natAbs
    show _ ++ TL.tl _ = _
    rw [this]
    have e45 : (Str.ofString "-").cps.toList = [45] := by decide +kernel
    rw [e45]
    rfl
  · rw [if_neg h, digN_eq]
    have e : i = ((i.natAbs : Nat) : Int) := by omega
    have := TL.tl_num i.natAbs
    rw [← this, ← e]
    all_goals rfl
theorem snd_str : Snd1 G (fun x H Q => ∃ i, [x] = [V.int i] ∧ i.natAbs.log2 < 1920 ∧ Q (.str (toString i)) H) (ofO strO) := snd1_of fun W σ F H ps c x dx d Q w tx e q => by
  unfold strO at e
  split at e
  · split at e
    · rename_i hz
      cases e; rw [tx.int]
      refine ⟨_, rfl, blt_lt hz, post_str w q ?_⟩
      rw [← digI_eq]
    · cases e
  · cases e
end
end DL
namespace DL
open PySem PySem.Spec PyProof.Rows L2

section
variable {G : Gx} {X : Cx} {W : WX} {ρ : Rho} {a b e1 e2 e3 e4 : Expr} {es : List Expr} {ma mb m m1 m2 m3 m4 : M D} {ms : M (List D)} {p pos : Pos} {x : Str} {σ : L2.St} {F H : Hp} {ps : List Addr} {c : Sto} {v : V}
/-! ### in -/
def inO : D → D → Option Bool
  | x, .lst ds => if okP x && SeqAt.shaped (.list (toPs ds)) then some ((toPs ds).any fun z => PyData.eqv z (toP x)) else none
  | x, .tup ds => if okP x && SeqAt.shaped (.tuple (toPs ds)) then some ((toPs ds).any fun z => PyData.eqv z (toP x)) else none
  | x, .dict t kvs => if okKey t x then some (dgetO kvs x).isSome else none
  | .str [ch], .str s => some (decide (ch ∈ s))
  | _, _ => none
def notInO (x y : D) : Option Bool := (inO x y).map not
def rInQ (K : PySem.W.Frag) (n : Bool → Bool) : R2 := fun x y H Q => (∃ d ds, Dp K H x d ∧ SeqAt.shaped d = true ∧ ((Dp K H y (.list ds) ∧ SeqAt.shaped (.list ds) = true) ∨ (Dp K H y (.tuple ds) ∧ SeqAt.shaped (.tuple ds) = true)) ∧ Q (.bl (n (ds.any fun z => PyData.eqv z d))) H) ∨
  (∃ a o, y = .ref a ∧ DGet H a x o ∧ Q (.bl (n o.isSome)) H) ∨ ∃ (c : Nat) (z : Str), x = .str ⟨#[c]⟩ ∧ y = .str z ∧ Q (.bl (n (decide (c ∈ z.cps.toList)))) H
theorem op_inQ (hu : X.A.units + 65 < cLine) : OpR X (compareOp .In) (rInQ X.K id) := by
  intro pins s σ H x y v u Q I rx ry h
  rcases h with ⟨d, ds, hd, sd, h, q⟩ | ⟨a, o, rfl, g, q⟩ | h
  · obtain ⟨as, r1⟩ := Dp.reads I d x v hd rx
    rcases h with ⟨he, se⟩ | ⟨he, se⟩
    · obtain ⟨bs, r2⟩ := Dp.reads I (.list ds) y u he ry
      exact SeqAt.in_list_reads r2 r1 (SeqAt.canLay_of_shaped se) (SeqAt.canLay_of_shaped sd) (room_in_shaped sd hu) ⟨.bl _, H, I, rfl, q⟩
    · obtain ⟨bs, r2⟩ := Dp.reads I (.tuple ds) y u he ry
      exact SeqAt.in_tuple_reads r2 r1 (SeqAt.canLay_of_shaped se) (SeqAt.canLay_of_shaped sd) (room_in_shaped sd hu) ⟨.bl _, H, I, rfl, q⟩
  · cases ry
    exact d_in (by omega) I g rx fun s3 I3 => ⟨.bl o.isSome, H, I3, rfl, q⟩
  · exact op_in_sign pins s σ H x y v u Q I rx ry h
theorem op_notInQ (hu : X.A.units + 65 < cLine) : OpR X (compareOp .NotIn) (rInQ X.K not) := by
  intro pins s σ H x y v u Q I rx ry h
  rcases h with ⟨d, ds, hd, sd, h, q⟩ | ⟨a, o, rfl, g, q⟩ | h
  · obtain ⟨as, r1⟩ := Dp.reads I d x v hd rx
    rcases h with ⟨he, se⟩ | ⟨he, se⟩
    · obtain ⟨bs, r2⟩ := Dp.reads I (.list ds) y u he ry
      exact SeqAt.notIn_list_reads r2 r1 (SeqAt.canLay_of_shaped se) (SeqAt.canLay_of_shaped sd) (room_in_shaped sd hu) ⟨.bl _, H, I, rfl, q⟩
    · obtain ⟨bs, r2⟩ := Dp.reads I (.tuple ds) y u he ry
      exact SeqAt.notIn_tuple_reads r2 r1 (SeqAt.canLay_of_shaped se) (SeqAt.canLay_of_shaped sd) (room_in_shaped sd hu) ⟨.bl _, H, I, rfl, q⟩
  · cases ry
    exact d_notIn (by omega) I g rx fun s3 I3 => ⟨.bl (!o.isSome), H, I3, rfl, q⟩
  · exact op_notIn_sign pins s σ H x y v u Q I rx ry h
theorem snd_inN (hK : G.K = X.K) (n : Bool → Bool) : SndB G (rInQ X.K n) fun x y => (inO x y).map n := fun F H ps c x y dx dy b Q w tx ty e q => by
  replace e : (inO dx dy).map n = some b := e
  cases e1 : inO dx dy with
  | none => rw [e1] at e; cases e
  | some b' =>
    rw [e1] at e
    cases e
    unfold inO at e1
    split at e1
    · split at e1
      · rename_i z
        obtain ⟨z1, z2⟩ := and_t z
        cases e1
        refine .inl ⟨_, _, hK ▸ tx.dp w z1, z1, .inl ⟨?_, z2⟩, q⟩
        have := ty.dp w (show okP (.lst _) = true by unfold okP toP; exact z2)
        unfold toP at this
        exact hK ▸ this
      · cases e1
    · split at e1
      · rename_i z
        obtain ⟨z1, z2⟩ := and_t z
        cases e1
        refine .inl ⟨_, _, hK ▸ tx.dp w z1, z1, .inr ⟨?_, z2⟩, q⟩
        have := ty.dp w (show okP (.tup _) = true by unfold okP toP; exact z2)
        unfold toP at this
        exact hK ▸ this
      · cases e1
    · split at e1
      · rename_i z
        cases e1
        obtain ⟨p, o, rfl, g1, g2⟩ := ty.dictO w
        rcases dget_of w g1 g2 tx z with ⟨g3, g4⟩ | ⟨u, d', g3, g4, g5⟩
        · rw [g3] at q
          exact .inr (.inl ⟨p, _, rfl, g4, q⟩)
        · rw [g3] at q
          exact .inr (.inl ⟨p, _, rfl, g4, q⟩)
      · cases e1
    · cases e1
      rw [tx.str, ty.str]
      exact .inr (.inr ⟨_, _, rfl, rfl, by rw [ext_str]; exact q⟩)
    · cases e1
theorem snd_in (hK : G.K = X.K) (hu : X.A.units + 65 < cLine) : OpR X (compareOp .In) (rInQ X.K id) ∧ SndB G (rInQ X.K id) inO := ⟨op_inQ hu, by
  have h := snd_inN (G := G) hK id
  have e : (fun x y => (inO x y).map id) = inO := by funext x y; cases inO x y <;> rfl
  rw [e] at h; exact h⟩
theorem snd_notIn (hK : G.K = X.K) (hu : X.A.units + 65 < cLine) : OpR X (compareOp .NotIn) (rInQ X.K not) ∧ SndB G (rInQ X.K not) notInO := ⟨op_notInQ hu, snd_inN hK not⟩

/-! ### slices -/
def PostP (G : Gx) (W : WX) (σ : L2.St) (F H : Hp) (ps : List Addr) (r : Res (Option Int)) (Q : Option Int → Hp → Prop) : Prop := match r with
  | .ok b c => ∀ F' H' ps', Ext F H ps F' H' ps' → Wl G F' H' ps' c → Q b H'
  | .err x c => ∀ cls dd F' H' ps', Ext F H ps F' H' ps' → Wl G F' H' ps' c → ER G F' ps' x cls dd → W cls dd σ H'
  | .bad => False
structure DP (G : Gx) (X : Cx) (W : WX) (ρ : Rho) (e : Option Expr) (m : M (Option Int)) : Prop where
  run : PO X e fun σ H Q => At G σ H ρ fun F ps c => PostP G W σ F H ps (m c) Q
theorem po_imp {e : Option Expr} {t t' : TO} (h : PO X e t) (k : ∀ σ H Q, t' σ H Q → t σ H Q) : PO X e t' := ⟨fun pins s σ H Q I q => h.run pins s σ H Q I (k _ _ _ q)⟩
def asInt : D → M (Option Int)
  | .int i => pure (some i)
  | _ => M.bad
theorem dp_none : DP G X W ρ none (pure none) := ⟨po_imp po_none fun σ H Q ⟨F, ps, c, w, s, q⟩ => q F H ps .refl w⟩
theorem dp_some (h : DE G X W ρ a ma) : DP G X W ρ (some a) (ma >>= asInt) := ⟨po_imp (po_some h.run) fun σ H Q ⟨F, ps, c, w, s, q⟩ => by
  refine ⟨F, ps, c, w, s, ?_⟩
  replace q : PostP G W σ F H ps ((M.bind ma asInt) c) Q := q
  show Post G W σ F H ps (ma c) _
  unfold M.bind at q
  cases e : ma c with
  | bad => rw [e] at q; exact q.elim
  | err y c' => rw [e] at q; exact q
  | ok d c' =>
    rw [e] at q
    intro v F' H' ps' x w' r
    replace q : PostP G W σ F H ps (asInt d c') Q := q
    cases r with
    | int i => exact ⟨i, rfl, q F' H' ps' x w'⟩
    | _ => exact q.elim⟩
def cutL {α : Type} (xs : List α) (lo hi : Option Int) : List α := (xs.drop (HT.sIx xs.length 0 lo)).take (HT.sIx xs.length xs.length hi - HT.sIx xs.length 0 lo)
theorem cutL_V (xs : List V) (lo hi : Option Int) : cutV xs lo hi = cutL xs lo hi := rfl
theorem drs_cut {K : PySem.W.Frag} {cl : String → Option Addr} {vs : List V} {ds : List D} (r : DRs K cl F ps vs ds) (lo hi : Option Int) : DRs K cl F ps (cutL vs lo hi) (cutL ds lo hi) := by
  unfold cutL
  rw [r.length]
  exact (r.drop _).take _
def sliceO : D → Option Int → Option Int → Option D
  | .str s, lo, hi => if short s.length then some (.str (cutL s lo hi)) else none
  | .tup xs, lo, hi => some (.tup (cutL xs lo hi))
  | .lst xs, lo, hi => some (.lst (cutL xs lo hi))
  | _, _, _ => none
theorem cutL_all {α : Type} (xs : List α) (lo hi : Option Int) (h : HT.sIx xs.length 0 lo = 0 ∧ HT.sIx xs.length xs.length hi = xs.length) : cutL xs lo hi = xs := by
  unfold cutL
  rw [h.1, h.2]
  simp
theorem de_slice {lo hi : Option Expr} {ml mh : M (Option Int)} {p2 : Pos} (h : DO G X W ρ a ma) (hl : DP G X W ρ lo ml) (hh : DP G X W ρ hi mh) :
    DE G X W ρ (.Subscript a (.Slice lo hi none p2) pos) (ma >>= fun x => ml >>= fun l => mh >>= fun u => M.of (sliceO x l u)) := by
  refine ⟨pe_imp (pe_slice (SlR.or (SlR.or sl_tupA sl_list) sl_str) h.run hl.run hh.run) fun σ H Q ⟨F, ps, c, w, s, q⟩ => ?_⟩
  refine ⟨F, ps, c, w, s, post_then (P := fun r => PostO G W σ F H ps r _) q (fun d c' _ q => ?_) fun y c' _ q => q⟩
  intro v F' H' ps' x' w' d'
  refine ⟨F', ps', c', w', s.ext x', post_then (P := fun r => PostP G W σ F' H' ps' r _) (Post.later x' q) (fun o1 c1 _ q => ?_) fun y c' _ q => q⟩
  intro F2 H2 ps2 x2 w2
  refine ⟨F2, ps2, c1, w2, (s.ext x').ext x2, post_then (P := fun r => PostP G W σ F2 H2 ps2 r _) (Post.later x2 q) (fun o2 c2 _ q => ?_) fun y c' _ q => q⟩
  intro F3 H3 ps3 x3 w3
  replace q := Post.later x3 q
  have tx := (d'.ext x2).ext x3
  cases e : sliceO d o1 o2 with
  | none => rw [e] at q; exact q.elim
  | some dd =>
    rw [e] at q
    replace q : Post G W σ F3 H3 ps3 (.ok dd c2) Q := q
    unfold sliceO at e
    split at e
    · split at e
      · rename_i hz
        cases e
        rw [tx.str]
        exact .inr ⟨_, rfl, by rw [str_len]; exact short_le hz, post_str w3 q (by unfold cutS cutL; rw [str_len, ext_str])⟩
      · cases e
    · cases e
      have tx0 := tx
      obtain ⟨p, vs, rfl, g1, g2⟩ := tx.tup w3
      refine .inl (.inl ⟨p, vs, rfl, SqT.of g1, fun hh => ?_, fun _ => post_tup w3 (drs_cut g2 _ _) q⟩)
      rw [g2.length] at hh
      rw [cutL_all _ _ _ hh] at q
      cases tx0 with
      | known h => exact post_here w3 h q
      | own _ _ h => nomatch h
    · cases e
      obtain ⟨p, vs, rfl, g1, g2⟩ := tx.lst w3
      exact .inl (.inr ⟨p, vs, rfl, SqL.of g1, post_lst w3 (drs_cut g2 _ _) q⟩)
    · cases e
end
end DL
namespace DL
open PySem PySem.Spec PyProof.Rows L2

/-! ### what is walked -/
section
variable {X : Cx} {tg : Expr}
theorem itl_go {pins : List (Addr × Obj)} {σ : L2.St} {H : Hp} {s : Shared} {R : It → Hp → Prop} {a : Addr} {xs : List V} (I : Inv X pins σ H s) (hs : SqL X.K H a xs) (hR : R (Itl X.K a) H) :
    wpAny (model X.prog X.w) X.A (pyIter (.ref a)) (PIE X pins σ tg R) X.xe s := by
  obtain ⟨its, rv, pl, _⟩ := I.list hs
  refine wpAny_pyIter_list pl.isList ⟨s.heap.objs.size, [s.heap.objs.size], _, _, H, rfl, I.kept (t' := s.toks) (fun _ _ z => Heap.get?_push_of_some _ z), turn_list a _, ⟨_, Heap.get?_push_size _ rfl, rfl, rfl⟩, fun k hk => ?_, hR⟩
  obtain rfl := List.mem_singleton.mp hk
  exact I.fpOk (Nat.le_refl _) (I.hok.fresh (Nat.le_refl _))
theorem itt_go {pins : List (Addr × Obj)} {σ : L2.St} {H : Hp} {s : Shared} {R : It → Hp → Prop} {a : Addr} {xs : List V} (I : Inv X pins σ H s) (hs : SqT X.K H a xs) (hR : R (Itt X.K a) H) :
    wpAny (model X.prog X.w) X.A (pyIter (.ref a)) (PIE X pins σ tg R) X.xe s := by
  obtain ⟨its, rv, pl, _⟩ := I.tuple hs
  refine wpAny_pyIter_tuple (show s.heap.IsTuple a its.toArray from pl) ⟨s.heap.objs.size, [s.heap.objs.size], _, _, H, rfl, I.kept (t' := s.toks) (fun _ _ z => Heap.get?_push_of_some _ z), turn_tuple a _, ⟨_, Heap.get?_push_size _ rfl, rfl, rfl⟩, fun k hk => ?_, hR⟩
  obtain rfl := List.mem_singleton.mp hk
  exact I.fpOk (Nat.le_refl _) (I.hok.fresh (Nat.le_refl _))
theorem its_go {pins : List (Addr × Obj)} {σ : L2.St} {H : Hp} {s : Shared} {R : It → Hp → Prop} {x : Str} {t : Tok} (I : Inv X pins σ H s) (hR : R (Its x) H) :
    wpAny (model X.prog X.w) X.A (pyIter (.str x t)) (PIE X pins σ tg R) X.xe s := by
  by_cases hc : x.cps.all (· < 128) = true
  · exact wpAny_pyIter_ascii hc (pi_one (tk := s.toks) I _ (turn_str _ x t _ (.inl rfl)) ⟨_, Heap.get?_push_size _ rfl, rfl, rfl⟩ hR)
  · exact wpAny_pyIter_wide (by simpa using hc) (pi_one (tk := s.toks) I _ (turn_str _ x t _ (.inr rfl)) ⟨_, Heap.get?_push_size _ rfl, rfl, rfl⟩ hR)
/-- a list, a tuple, a text -/
theorem pi_seq {e : Expr} {te : TE} (he : PE X e te) : PI X tg e fun σ H R => te σ H fun x H1 => (∃ a xs, x = .ref a ∧ SqL X.K H1 a xs ∧ R (Itl X.K a) H1) ∨ (∃ a xs, x = .ref a ∧ SqT X.K H1 a xs ∧ R (Itt X.K a) H1) ∨ ∃ z, x = .str z ∧ R (Its z) H1 := by
  refine ⟨fun pins s σ H R I h => thn (he.run pins s σ H _ I h) fun v s1 ⟨x, H1, I1, r1, q⟩ => ?_⟩
  rcases q with ⟨a, xs, rfl, hs, q⟩ | ⟨a, xs, rfl, hs, q⟩ | ⟨z, rfl, q⟩
  · cases r1; exact itl_go I1 hs q
  · cases r1; exact itt_go I1 hs q
  · obtain ⟨t, rfl⟩ := r1
    exact its_go I1 q
end

/-- the walk J yields the data, whatever else comes to be known -/
def Walks (G : Gx) (J : It) (F H : Hp) (ps : List Addr) (ds : List D) : Prop := ∀ (i : Nat) (F1 H1 : Hp) (ps1 : List Addr) (c1 : Sto), (∀ a o, F a = some o → F1 a = some o) → (∀ (n : Nat) (a : Addr), ps[n]? = some a → ps1[n]? = some a) → Wl G F1 H1 ps1 c1 →
  (∀ d, ds[i]? = some d → J.go i H1 ∧ ∀ x H2, J.yld i H1 x H2 → ∃ F2, Ext F1 H1 ps1 F2 H2 ps1 ∧ Wl G F2 H2 ps1 c1 ∧ DR G.K G.cl F2 ps1 x d) ∧ (ds[i]? = none → J.stop i H1)
def PostI (G : Gx) (W : WX) (σ : L2.St) (F H : Hp) (ps : List Addr) (r : Res (List D)) (R : It → Hp → Prop) : Prop := match r with
  | .ok ds c => ∀ J F' H' ps', Ext F H ps F' H' ps' → Wl G F' H' ps' c → Walks G J F' H' ps' ds → R J H'
  | .err x c => ∀ cls dd F' H' ps', Ext F H ps F' H' ps' → Wl G F' H' ps' c → ER G F' ps' x cls dd → W cls dd σ H'
  | .bad => False
structure DI (G : Gx) (X : Cx) (W : WX) (ρ : Rho) (tg iter : Expr) (m : M (List D)) : Prop where
  run : PI X tg iter fun σ H R => At G σ H ρ fun F ps c => PostI G W σ F H ps (m c) R
theorem pi_imp {X : Cx} {tg e : Expr} {t t' : TI} (h : PI X tg e t) (k : ∀ σ H Q, t' σ H Q → t σ H Q) : PI X tg e t' := ⟨fun pins s σ H Q I q => h.run pins s σ H Q I (k _ _ _ q)⟩

section
variable {G : Gx} {X : Cx} {W : WX} {ρ : Rho} {a b tg iter : Expr} {ma mb m : M D} {p pos : Pos} {σ : L2.St} {F H : Hp} {ps : List Addr} {c : Sto} {v : V}
theorem Wl.sub {c : Sto} (w : Wl G F H ps c) : ∀ a o, F a = some o → H a = some o := Wld.sub w
theorem walks_lst {p : Addr} {vs : List V} {ds : List D} (h : F p = some (.lst vs)) (r : DRs G.K G.cl F ps vs ds) (hK : G.K = X.K) : Walks G (Itl X.K p) F H ps ds := fun i F1 H1 ps1 c1 f hp w => by
  have g1 : SqL X.K H1 p vs := SqL.of (w.sub _ _ (f _ _ h))
  refine ⟨fun d e => ?_, fun e => ?_⟩
  · obtain ⟨v, h1, h2⟩ := r.get e
    refine ⟨⟨vs, v, g1, h1⟩, fun x H2 y => ?_⟩
    obtain ⟨rfl, y⟩ := y
    have ex : some v = some x := h1.symm.trans (y vs g1)
    cases ex
    exact ⟨F1, .refl, w, h2.up f hp⟩
  · refine ⟨vs, g1, ?_⟩
    have := List.getElem?_eq_none_iff.mp e
    rw [r.length]; exact this
theorem walks_tup {p : Addr} {vs : List V} {ds : List D} (h : F p = some (.tup vs)) (r : DRs G.K G.cl F ps vs ds) (hK : G.K = X.K) : Walks G (Itt X.K p) F H ps ds := fun i F1 H1 ps1 c1 f hp w => by
  have g1 : SqT X.K H1 p vs := SqT.of (w.sub _ _ (f _ _ h))
  refine ⟨fun d e => ?_, fun e => ?_⟩
  · obtain ⟨v, h1, h2⟩ := r.get e
    refine ⟨⟨vs, v, g1, h1⟩, fun x H2 y => ?_⟩
    obtain ⟨rfl, y⟩ := y
    have ex : some v = some x := h1.symm.trans (y vs g1)
    cases ex
    exact ⟨F1, .refl, w, h2.up f hp⟩
  · refine ⟨vs, g1, ?_⟩
    have := List.getElem?_eq_none_iff.mp e
    rw [r.length]; exact this
theorem walks_str {s : List Nat} : Walks G (Its ⟨s.toArray⟩) F H ps (s.map fun c => .str [c]) := fun i F1 H1 ps1 c1 f hp w => by
  refine ⟨fun d e => ?_, fun e => ?_⟩
  · rw [List.getElem?_map] at e
    cases e2 : s[i]? with
    | none => rw [e2] at e; cases e
    | some ch =>
      rw [e2] at e
      cases e
      have hi := (List.getElem?_eq_some_iff.mp e2).1
      refine ⟨show i < s.toArray.size by simpa using hi, fun x H2 y => ?_⟩
      obtain ⟨rfl, ch', e3, rfl⟩ := y
      have e4 : some ch = some ch' := e2.symm.trans (by simpa using e3)
      cases e4
      exact ⟨F1, .refl, w, .str [ch]⟩
  · have := List.getElem?_eq_none_iff.mp e
    show s.toArray.size ≤ i
    simpa using this
theorem walks_rng {lo : Int} {n : Nat} : Walks G (Itr lo n) F H ps ((List.range n).map fun i => .int (lo + (i : Nat))) := fun i F1 H1 ps1 c1 f hp w => by
  refine ⟨fun d e => ?_, fun e => ?_⟩
  · rw [List.getElem?_map] at e
    cases e2 : (List.range n)[i]? with
    | none => rw [e2] at e; cases e
    | some j =>
      rw [e2] at e
      cases e
      obtain ⟨hi, ej⟩ := List.getElem?_eq_some_iff.mp e2
      have hi' : i < n := by simpa using hi
      have ej' : i = j := by simpa using ej
      subst ej'
      refine ⟨hi', fun x H2 y => ?_⟩
      obtain ⟨rfl, rfl⟩ := y
      exact ⟨F1, .refl, w, .int _⟩
  · have := List.getElem?_eq_none_iff.mp e
    show n ≤ i
    simpa using this
/-- the items of a walked thing -/
def itemsO : D → Option (List D)
  | .lst xs => some xs
  | .tup xs => some xs
  | .str s => some (s.map fun c => .str [c])
  | _ => none
def itemsM (d : D) : M (List D) := M.of (itemsO d)
theorem postI_then {α : Type} {m : M α} {f : α → M (List D)} {Q : It → Hp → Prop} {P : Res α → Prop}
    (h : PostI G W σ F H ps ((m >>= f) c) Q)
    (k : ∀ a c', m c = .ok a c' → PostI G W σ F H ps (f a c') Q → P (.ok a c'))
    (ke : ∀ x c', m c = .err x c' → (∀ cls dd F' H' ps', Ext F H ps F' H' ps' → Wl G F' H' ps' c' → ER G F' ps' x cls dd → W cls dd σ H') → P (.err x c')) : P (m c) := by
  have e0 : (m >>= f) c = M.bind m f c := rfl
  rw [e0] at h
  unfold M.bind at h
  cases e : m c with
  | ok a c' => rw [e] at h; exact k a c' e h
  | err x c' => rw [e] at h; exact ke x c' e h
  | bad => rw [e] at h; exact h.elim
theorem di_seq (h : DE G X W ρ iter m) (hK : G.K = X.K := by rfl) : DI G X W ρ tg iter (m >>= itemsM) := by
  refine ⟨pi_imp (pi_seq h.run) fun σ H R ⟨F, ps, c, w, s, q⟩ => ?_⟩
  refine ⟨F, ps, c, w, s, postI_then (P := fun r => Post G W σ F H ps r _) q (fun d c' _ q => ?_) fun y c' _ q => q⟩
  intro v F' H' ps' x w' d'
  replace q : PostI G W σ F H ps (M.of (itemsO d) c') R := q
  cases d' with
  | lst h1 h2 => exact .inl ⟨_, _, rfl, SqL.of (w'.sub _ _ h1), q _ F' H' ps' x w' (walks_lst h1 h2 hK)⟩
  | tup h1 h2 => exact .inr (.inl ⟨_, _, rfl, SqT.of (w'.sub _ _ h1), q _ F' H' ps' x w' (walks_tup h1 h2 hK)⟩)
  | str s => exact .inr (.inr ⟨_, rfl, q _ F' H' ps' x w' walks_str⟩)
  | _ => exact q.elim
def small62 (i : Int) : Bool := i.natAbs.blt 4611686018427387904
theorem small62_ok {i : Int} (h : small62 i = true) : -(2 ^ 62) ≤ i ∧ i < 2 ^ 62 := by
  have h' : i.natAbs < 4611686018427387904 := blt_lt h
  have e : (2 : Int) ^ 62 = 4611686018427387904 := by decide
  rw [e]
  omega
def rangeL (lo hi : Int) : List D := (List.range (hi - lo).toNat).map fun i => .int (lo + (i : Nat))
def rng1 : D → M (List D)
  | .int j => if small62 j then pure (rangeL 0 j) else M.bad
  | _ => M.bad
def rng2 : D → D → M (List D)
  | .int i, .int j => if small62 i && small62 j then pure (rangeL i j) else M.bad
  | _, _ => M.bad
theorem di_range1 (h : DE G X W ρ a m) (hg : Gl X "range") (hm : X.mg "range" = none) (ns : NS a := by intro _ _; rfl) : DI G X W ρ tg (.Call (.Name "range" p) [a] [] pos) (m >>= rng1) := by
  refine ⟨pi_imp (pi_range1 hg hm (pa1 h.run ns) (ns _ _)) fun σ H R ⟨F, ps, c, w, s, q⟩ => ?_⟩
  refine ⟨F, ps, c, w, s, postI_then (P := fun r => Post G W σ F H ps r _) q (fun d c' _ q => ?_) fun y c' _ q => q⟩
  intro v F' H' ps' x w' d'
  unfold rng1 at q
  cases d' with
  | int j =>
    replace q : PostI G W σ F H ps ((if small62 j = true then pure (rangeL 0 j) else M.bad : M (List D)) c') R := q
    obtain ⟨hz, q⟩ := ite_bad (fun r => PostI G W σ F H ps r R) (fun z => z) q
    obtain ⟨h1, h2⟩ := small62_ok hz
    refine ⟨j, rfl, h1, h2, q _ F' H' ps' x w' ?_⟩
    have e : rangeL 0 j = (List.range j.toNat).map fun i => .int (0 + (i : Nat)) := by unfold rangeL; simp
    rw [e]
    exact walks_rng
  | _ => exact q.elim
theorem di_range2 (h : DE G X W ρ a ma) (k : DE G X W ρ b mb) (hg : Gl X "range") (hm : X.mg "range" = none) (ns : NS a := by intro _ _; rfl) (ns2 : NS b := by intro _ _; rfl) : DI G X W ρ tg (.Call (.Name "range" p) [a, b] [] pos) (ma >>= fun x => mb >>= fun y => rng2 x y) := by
  refine ⟨pi_imp (pi_range2 hg hm (pa2 h.run k.run ns ns2) (by rw [ns, ns2]; rfl) (by rw [ns2]; rfl)) fun σ H R ⟨F, ps, c, w, s, q⟩ => ?_⟩
  refine ⟨F, ps, c, w, s, postI_then (P := fun r => Post G W σ F H ps r _) q (fun d c' _ q => ?_) fun y c' _ q => q⟩
  intro v F' H' ps' x w' d'
  refine ⟨F', ps', c', w', s.ext x, postI_then (P := fun r => Post G W σ F' H' ps' r _) (c := c') (m := mb) (f := fun y => rng2 d y) (Q := R) ?_ (fun d2 c2 _ q => ?_) fun y c' _ q => q⟩
  · revert q
    generalize (mb >>= fun y => rng2 d y) c' = r
    intro q
    cases r with
    | ok ds c2 => exact fun J F2 H2 ps2 x2 w2 k => q J F2 H2 ps2 (x.trans x2) w2 k
    | err y c2 => exact fun cls dd F2 H2 ps2 x2 w2 r => q cls dd F2 H2 ps2 (x.trans x2) w2 r
    | bad => exact q
  intro v2 F2 H2 ps2 x2 w2 d2'
  have d'' := d'.ext x2
  unfold rng2 at q
  cases d'' with
  | int i =>
    cases d2' with
    | int j =>
      replace q : PostI G W σ F' H' ps' ((if (small62 i && small62 j) = true then pure (rangeL i j) else M.bad : M (List D)) c2) R := q
      obtain ⟨hz, q⟩ := ite_bad (fun r => PostI G W σ F' H' ps' r R) (fun z => z) q
      obtain ⟨z1, z2⟩ := and_t hz
      obtain ⟨h1, h2⟩ := small62_ok z1
      obtain ⟨h3, h4⟩ := small62_ok z2
      exact ⟨i, j, rfl, ⟨h1, h2, h3, h4⟩, q _ F2 H2 ps2 x2 w2 walks_rng⟩
    | _ => exact q.elim
  | _ => exact q.elim
end
end DL
namespace DL
open PySem PySem.Spec PyProof.Rows L2

/-! ### targets -/
/-- the slots agree but for some -/
structure Agr (ts : List Nat) (σ σ' : L2.St) : Prop where
  len : σ'.length = σ.length
  at_ : ∀ j : Nat, j ∉ ts → σ'[j]? = σ[j]?
theorem Agr.set {ts : List Nat} {σ σ' : L2.St} {i : Nat} {v : Option V} (a : Agr ts σ σ') (h : i ∈ ts) : Agr ts σ (σ'.set i v) := ⟨by rw [List.length_set, a.len], fun j hj => by
  rw [List.getElem?_set_ne (fun z => hj (by rw [← z]; exact h))]; exact a.at_ j hj⟩
theorem Agr.refl {ts : List Nat} {σ : L2.St} : Agr ts σ σ := ⟨rfl, fun _ _ => rfl⟩
structure DG {α : Type} (G : Gx) (X : Cx) (ρ : Rho) (ts : List Nat) (tg : Expr) (pat : D → Option α) (toR : α → Rho) : Prop where
  run : PG X tg fun v σ H Q => ∃ F ps c d a, Wl G F H ps c ∧ Sls G σ F H ps ρ ∧ DR G.K G.cl F ps v d ∧ pat d = some a ∧ ∀ σ', Agr ts σ σ' → Sls G σ' F H ps (toR a) → Q σ' H
theorem pg_imp {X : Cx} {e : Expr} {t t' : TG} (h : PG X e t) (k : ∀ v σ H Q, t' v σ H Q → t v σ H Q) : PG X e t' := ⟨fun pins s σ H v u Q I r q => h.run pins s σ H v u Q I r (k _ _ _ _ q)⟩
def pat1 (d : D) : Option D := some d
def pat2 : D → Option (D × D)
  | .tup [a, b] => some (a, b)
  | _ => none
def pat3 : D → Option (D × D × D)
  | .tup [a, b, c] => some (a, b, c)
  | _ => none
def pat4 : D → Option (D × D × D × D)
  | .tup [a, b, c, d] => some (a, b, c, d)
  | _ => none
section
variable {G : Gx} {X : Cx} {W : WX} {ρ : Rho} {x y z u : Str} {px py pz pu pos : Pos} {k : Nat} {σ : L2.St} {F H : Hp} {ps : List Addr} {c : Sto}
theorem dg1 (i : Nat) (hN : X.N.Nodup) (hi : X.N[i]? = some x := by rfl) (hx : Loc X.env.scope x := by first | exact Or.inl rfl | exact Or.inr rfl) (hf : X.fn x = true ∨ X.env.scope.names.lookup x = some .local := by first | exact .inl rfl | exact .inr rfl) :
    DG G X ρ [i] (.Name x px) pat1 fun d => ρ.set i (.val d) :=
  ⟨pg_imp (pg_name hN hi hx hf) fun v σ H Q ⟨F, ps, c, d, a, w, s, r, e, q⟩ => by cases e; exact q _ (Agr.refl.set (by simp)) (s.set r)⟩
theorem drs2 {vs : List V} {a b : D} (r : DRs G.K G.cl F ps vs [a, b]) : ∃ v w, vs = [v, w] ∧ DR G.K G.cl F ps v a ∧ DR G.K G.cl F ps w b := by
  cases r with
  | cons h1 r => cases r with | cons h2 r => cases r; exact ⟨_, _, rfl, h1, h2⟩
theorem dg2 (i j : Nat) (hc : X.calm = true) (hN : X.N.Nodup) (hi : X.N[i]? = some x := by rfl) (hj : X.N[j]? = some y := by rfl) (hx : Loc X.env.scope x := by first | exact Or.inl rfl | exact Or.inr rfl) (hy : Loc X.env.scope y := by first | exact Or.inl rfl | exact Or.inr rfl)
    (hfx : X.fn x = true ∨ X.env.scope.names.lookup x = some .local := by first | exact .inl rfl | exact .inr rfl) (hfy : X.fn y = true ∨ X.env.scope.names.lookup y = some .local := by first | exact .inl rfl | exact .inr rfl) :
    DG G X ρ [i, j] (.Tuple [.Name x px, .Name y py] k pos) pat2 fun ab => (ρ.set i (.val ab.1)).set j (.val ab.2) :=
  ⟨pg_imp (pg_tup hc (pgs_cons (pg_name hN hi hx hfx) (pgs_cons (pg_name hN hj hy hfy) pgs_nil))) fun v σ H Q ⟨F, ps, c, d, a, w, s, r, e, q⟩ => by
    unfold pat2 at e
    split at e
    · cases e
      cases r with
      | tup h r =>
        obtain ⟨v1, v2, rfl, r1, r2⟩ := drs2 r
        exact ⟨_, _, rfl, SqT.of (w.sub _ _ h), rfl, v1, _, rfl, v2, _, rfl, rfl, q _ ((Agr.refl.set (by simp)).set (by simp)) ((s.set r1).set r2)⟩
    · cases e⟩
theorem drs3 {vs : List V} {a b c : D} (r : DRs G.K G.cl F ps vs [a, b, c]) : ∃ v w u, vs = [v, w, u] ∧ DR G.K G.cl F ps v a ∧ DR G.K G.cl F ps w b ∧ DR G.K G.cl F ps u c := by
  cases r with
  | cons h1 r => cases r with | cons h2 r => cases r with | cons h3 r => cases r; exact ⟨_, _, _, rfl, h1, h2, h3⟩
theorem dg3 (i j l : Nat) (hc : X.calm = true) (hN : X.N.Nodup) (hi : X.N[i]? = some x := by rfl) (hj : X.N[j]? = some y := by rfl) (hl : X.N[l]? = some z := by rfl) (hx : Loc X.env.scope x := by first | exact Or.inl rfl | exact Or.inr rfl) (hy : Loc X.env.scope y := by first | exact Or.inl rfl | exact Or.inr rfl) (hz : Loc X.env.scope z := by first | exact Or.inl rfl | exact Or.inr rfl)
    (hfx : X.fn x = true ∨ X.env.scope.names.lookup x = some .local := by first | exact .inl rfl | exact .inr rfl) (hfy : X.fn y = true ∨ X.env.scope.names.lookup y = some .local := by first | exact .inl rfl | exact .inr rfl) (hfz : X.fn z = true ∨ X.env.scope.names.lookup z = some .local := by first | exact .inl rfl | exact .inr rfl) :
    DG G X ρ [i, j, l] (.Tuple [.Name x px, .Name y py, .Name z pz] k pos) pat3 fun ab => ((ρ.set i (.val ab.1)).set j (.val ab.2.1)).set l (.val ab.2.2) :=
  ⟨pg_imp (pg_tup hc (pgs_cons (pg_name hN hi hx hfx) (pgs_cons (pg_name hN hj hy hfy) (pgs_cons (pg_name hN hl hz hfz) pgs_nil)))) fun v σ H Q ⟨F, ps, c, d, a, w, s, r, e, q⟩ => by
    unfold pat3 at e
    split at e
    · cases e
      cases r with
      | tup h r =>
        obtain ⟨v1, v2, v3, rfl, r1, r2, r3⟩ := drs3 r
        exact ⟨_, _, rfl, SqT.of (w.sub _ _ h), rfl, v1, _, rfl, v2, _, rfl, v3, _, rfl, rfl, q _ (((Agr.refl.set (by simp)).set (by simp)).set (by simp)) (((s.set r1).set r2).set r3)⟩
    · cases e⟩
end

/-! ### for -/
section
variable {S L α : Type} {G : Gx} {X : Cx} {W : WX} {toS : S → Rho} {toL : L → Rho} {ρ : Rho} {F F' H H' : Hp} {ps ps' : List Addr} {c : Sto} {σ : L2.St}
def forL {S L α : Type} (pat : D → Option α) (B : S → α → M (Out S S)) : List D → S → M (Out S L)
  | [], s => pure (.nx s)
  | d :: ds, s => M.of (pat d) >>= fun a => B s a >>= fun o => match o with
    | .nx s' => forL pat B ds s'
    | .ct s' => forL pat B ds s'
    | .bk s' => pure (.nx s')
    | .rt d => pure (.rt d)
theorem ds_for {tg iter : Expr} {body : List Stmt} {pos : Pos} {mi : M (List D)} {pat : D → Option α} {toR : S → α → Rho} {B : S → α → M (Out S S)} (s0 : S) (hp : PassesOwn (model X.prog X.w) X.A X.env X.xe) (hc : X.calm = true) (hs : Sub ρ (toS s0))
    (hi : DI G X W ρ tg iter mi) {ts : List Nat} (hg : ∀ s, DG G X (toS s) ts tg pat (toR s)) (hb : ∀ s a, DB G X W toS toS (toR s a) body (B s a)) (hf : ∀ x, foldedSetIterable iter X.env x = pure x := by intro _; rfl) :
    DS G X W toS toL ρ (.For tg iter body [] pos) (mi >>= fun ds => forL pat B ds s0) := by
  have gj : PG X tg fun v σ H Q => ∃ s, ∃ F ps c d a, Wl G F H ps c ∧ Sls G σ F H ps (toS s) ∧ DR G.K G.cl F ps v d ∧ pat d = some a ∧ ∀ σ', Agr ts σ σ' → Sls G σ' F H ps (toR s a) → Q σ' H := ⟨fun pins s σ H v u Q I r ⟨s', q⟩ => (hg s').run.run pins s σ H v u Q I r q⟩
  have bj : PSs X body fun E σ H => ∃ s a, AtS G σ H (toR s a) fun F ps c => PostS G W toS toS F ps (B s a c) E := ⟨fun pins s σ H E I ⟨s', a, q⟩ => (hb s' a).run.run pins s σ H E I q⟩
  refine ⟨ps_imp (ps_for hp hc hi.run gj bj hf) fun E σ H ⟨F, ps, c, x, w, sl, q⟩ => ?_⟩
  refine ⟨F, ps, c, w, sl, postS_then (P := fun r => PostI G W σ F H ps r _) x q (fun ds c' _ q => ?_) fun y c' _ q => fun cls dd F' H' ps' x' w' r => q cls dd σ F' H' ps' (x.trans x') w' r⟩
  intro J F' H' ps' x' w' wk
  refine ⟨fun i m σ H => m = ds.length - i ∧ ∃ s F1 ps1 c1, Ext G.F0 G.H0 G.p0 F1 H ps1 ∧ Grow F' ps' F1 ps1 ∧ Wl G F1 H ps1 c1 ∧ Sls G σ F1 H ps1 (toS s) ∧ PostS G W toS toL F1 ps1 (forL pat B (ds.drop i) s c1) E,
    ⟨ds.length, by simp, s0, F', ps', c', x.trans x', .refl, w', (sl.weak hs).ext x', q.later x'.grow⟩, ?_⟩
  rintro i m σ H ⟨rfl, s, F1, ps1, c1, x1, g1, w1, sl1, q1⟩
  obtain ⟨k1, k2⟩ := wk i F1 H ps1 c1 g1.f g1.p w1
  cases e : ds[i]? with
  | none =>
    have hl := List.getElem?_eq_none_iff.mp e
    rw [List.drop_eq_nil_of_le hl] at q1
    exact .inl ⟨k2 e, q1 σ F1 H ps1 x1 .refl w1 sl1⟩
  | some d =>
    obtain ⟨hl, ed⟩ := List.getElem?_eq_some_iff.mp e
    obtain ⟨go, yl⟩ := k1 d e
    have edr : ds.drop i = d :: ds.drop (i + 1) := by rw [List.drop_eq_getElem_cons hl, ed]
    rw [edr] at q1
    refine .inr ⟨go, fun σ H => ∃ m', m' < ds.length - i ∧ (m' = ds.length - (i + 1) ∧ ∃ s F1 ps1 c1, Ext G.F0 G.H0 G.p0 F1 H ps1 ∧ Grow F' ps' F1 ps1 ∧ Wl G F1 H ps1 c1 ∧ Sls G σ F1 H ps1 (toS s) ∧ PostS G W toS toL F1 ps1 (forL pat B (ds.drop (i + 1)) s c1) E), fun σ' H' z => z, fun v H2 y => ?_⟩
    obtain ⟨F2, x2, w2, r2⟩ := yl v H2 y
    replace q1 : PostS G W toS toL F1 ps1 ((M.of (pat d) >>= fun a => B s a >>= fun o => match o with
      | .nx s' => forL pat B (ds.drop (i + 1)) s'
      | .ct s' => forL pat B (ds.drop (i + 1)) s'
      | .bk s' => pure (.nx s')
      | .rt d => pure (.rt d)) c1) E := q1
    cases ep : pat d with
    | none => rw [ep] at q1; exact q1.elim
    | some a =>
      rw [ep] at q1
      replace q1 : PostS G W toS toL F1 ps1 ((B s a >>= fun o => match o with
        | .nx s' => forL pat B (ds.drop (i + 1)) s'
        | .ct s' => forL pat B (ds.drop (i + 1)) s'
        | .bk s' => pure (.nx s')
        | .rt d => pure (.rt d)) c1) E := q1
      refine ⟨s, F2, ps1, c1, d, a, w2, sl1.ext x2, r2, ep, fun σ' _ sl' => ⟨s, a, F2, ps1, c1, x1.trans x2, w2, sl', ?_⟩⟩
      refine postS_then (F := F2) (H := H2) (ps := ps1) (P := fun r => PostS G W toS toS F2 ps1 r _) (x1.trans x2) (q1.later x2.grow) (fun o c' _ q => ?_) fun y c' _ q => q
      have more : ∀ s', PostS G W toS toL F2 ps1 (forL pat B (ds.drop (i + 1)) s' c') E → ∀ σ F H ps, Ext G.F0 G.H0 G.p0 F H ps → Grow F2 ps1 F ps → Wl G F H ps c' → Sls G σ F H ps (toS s') → ∃ m', m' < ds.length - i ∧ (m' = ds.length - (i + 1) ∧ ∃ s F1 ps1 c1, Ext G.F0 G.H0 G.p0 F1 H ps1 ∧ Grow F' ps' F1 ps1 ∧ Wl G F1 H ps1 c1 ∧ Sls G σ F1 H ps1 (toS s) ∧ PostS G W toS toL F1 ps1 (forL pat B (ds.drop (i + 1)) s c1) E) :=
        fun s' q σ F H ps x g w sl => ⟨ds.length - (i + 1), by omega, rfl, s', F, ps, c', x, (g1.trans x2.grow).trans g, w, sl, q.later g⟩
      cases o with
      | nx s' => exact more s' q
      | ct s' => exact more s' q
      | bk s' => exact q
      | rt d' => exact q
end
end DL
namespace DL
open PySem PySem.Spec PyProof.Rows L2

/-! ### comprehensions -/
/-- what a comprehension walks: it stands still within -/
def WalksE (G : Gx) (J : It) (F H : Hp) (ps : List Addr) (ds : List D) : Prop := ∀ (i : Nat) (F1 H1 : Hp) (ps1 : List Addr) (c1 : Sto), Ext F H ps F1 H1 ps1 → Wl G F1 H1 ps1 c1 →
  (∀ d, ds[i]? = some d → J.go i H1 ∧ ∀ x H2, J.yld i H1 x H2 → ∃ F2, Ext F1 H1 ps1 F2 H2 ps1 ∧ Wl G F2 H2 ps1 c1 ∧ DR G.K G.cl F2 ps1 x d) ∧ (ds[i]? = none → J.stop i H1)
def PostJ (G : Gx) (W : WX) (σ : L2.St) (F H : Hp) (ps : List Addr) (r : Res (List D)) (R : It → Hp → Prop) : Prop := match r with
  | .ok ds c => ∀ J F' H' ps', Ext F H ps F' H' ps' → Wl G F' H' ps' c → WalksE G J F' H' ps' ds → R J H'
  | .err x c => ∀ cls dd F' H' ps', Ext F H ps F' H' ps' → Wl G F' H' ps' c → ER G F' ps' x cls dd → W cls dd σ H'
  | .bad => False
structure DJ (G : Gx) (X : Cx) (W : WX) (ρ : Rho) (tg iter : Expr) (m : M (List D)) : Prop where
  run : PI X tg iter fun σ H R => At G σ H ρ fun F ps c => PostJ G W σ F H ps (m c) R
structure DQ (G : Gx) (X : Cx) (W : WX) (ρ : Rho) (ifs : List Expr) (m : M Bool) : Prop where
  run : PTs X ifs fun σ H Q => At G σ H ρ fun F ps c => PostT G W σ F H ps (m c) Q
/-- nothing is raised -/
def W0 : WX := fun _ _ _ _ => False
def M.ne {α : Type} (m : M α) : M α := fun c => match m c with
  | .ok a c' => .ok a c'
  | .err _ _ => .bad
  | .bad => .bad
def compL {α : Type} (pat : D → Option α) (T : α → M Bool) (E : α → M D) : List D → M (List D)
  | [] => pure []
  | d :: ds => M.of (pat d) >>= fun a => M.ne (T a) >>= fun t => cond t (M.ne (E a) >>= fun y => compL pat T E ds >>= fun r => pure (y :: r)) (compL pat T E ds)
def compM {α : Type} (pat : D → Option α) (T : α → M Bool) (E : α → M D) (ds : List D) : M D := if short ds.length then compL pat T E ds >>= fun r => pure (.lst r) else M.bad
def wipeR (ρ : Rho) : List Nat → Rho
  | [] => ρ
  | v :: vs => (wipeR ρ vs).set v .no
section
variable {G : Gx} {X : Cx} {W : WX} {ρ : Rho} {F F' H H' : Hp} {ps ps' : List Addr} {c : Sto} {σ : L2.St} {α : Type}
theorem pts_imp {X : Cx} {e : List Expr} {t t' : TT} (h : PTs X e t) (k : ∀ σ H Q, t' σ H Q → t σ H Q) : PTs X e t' := ⟨fun pins s σ H Q I q => h.run pins s σ H Q I (k _ _ _ q)⟩
theorem dq_nil : DQ G X W ρ [] (pure true) := ⟨pts_imp pts_nil fun σ H Q ⟨F, ps, c, w, s, q⟩ => q F H ps .refl w⟩
theorem dq_one {e : Expr} {m : M Bool} (h : DC G X W ρ e m) : DQ G X W ρ [e] m := ⟨pts_one h.run⟩
theorem DI.dj {tg iter : Expr} {m : M (List D)} (h : DI G X W ρ tg iter m) : DJ G X W ρ tg iter m := ⟨pi_imp h.run fun σ H R ⟨F, ps, c, w, s, q⟩ => ⟨F, ps, c, w, s, by
  have key : ∀ r, PostJ G W σ F H ps r R → PostI G W σ F H ps r R := fun r q => by
    cases r with
    | ok ds c => exact fun J F' H' ps' x w wk => q J F' H' ps' x w fun i F1 H1 ps1 c1 x1 w1 => wk i F1 H1 ps1 c1 x1.f x1.ix w1
    | err y c => exact q
    | bad => exact q
  exact key _ q⟩⟩
theorem Sls.wipe (s : Sls G σ F H ps ρ) : ∀ vs : List Nat, Sls G (L2.wipe σ vs) F H ps (wipeR ρ vs)
  | [] => s
  | v :: vs => by
    have h := Sls.wipe s vs
    unfold L2.wipe wipeR
    refine ⟨by rw [List.length_set, List.length_set, h.len], fun j e q => ?_, fun j e q => ?_, fun j k d1 d2 p n h1 h2 g1 g2 => ?_⟩
    · rcases get_set q with ⟨_, z⟩ | ⟨z, q⟩
      · cases z
      · obtain ⟨u, g1, g2⟩ := h.val j e q
        exact ⟨u, by rw [List.getElem?_set_ne (Ne.symm z)]; exact g1, g2⟩
    · rcases get_set q with ⟨_, z⟩ | ⟨z, q⟩
      · cases z
      · obtain ⟨u, o, g1, g2⟩ := h.own j e q
        exact ⟨u, o, by rw [List.getElem?_set_ne (Ne.symm z)]; exact g1, g2⟩
    · rcases get_set h1 with ⟨_, z⟩ | ⟨z, h1⟩
      · cases z
      · rcases get_set h2 with ⟨_, z2⟩ | ⟨z2, h2⟩
        · cases z2
        · rw [List.getElem?_set_ne (Ne.symm z)] at g1
          rw [List.getElem?_set_ne (Ne.symm z2)] at g2
          exact h.sep j k d1 d2 p n h1 h2 g1 g2
theorem wipe_get {vs : List Nat} {j : Nat} : ∀ {σ : L2.St}, j ∈ vs → j < σ.length → (L2.wipe σ vs)[j]? = some none := by
  induction vs with
  | nil => intro _ h; simp at h
  | cons v vs ih =>
    intro σ h hl
    unfold L2.wipe
    by_cases z : v = j
    · subst z
      rw [List.getElem?_set_self (by rw [wipe_length]; exact hl)]
    · rw [List.getElem?_set_ne z]
      exact ih ((List.mem_cons.mp h).resolve_left (Ne.symm z)) hl
theorem wipe_out {vs : List Nat} {j : Nat} {σ : L2.St} (h : j ∉ vs) : (L2.wipe σ vs)[j]? = σ[j]? := by
  induction vs with
  | nil => rfl
  | cons v vs ih =>
    unfold L2.wipe
    rw [List.getElem?_set_ne (fun z => h (by simp [z]))]
    exact ih fun z => h (List.mem_cons_of_mem _ z)
theorem wipe_agr {vs ts : List Nat} {σ σ' : L2.St} (a : Agr ts (L2.wipe σ vs) σ') (h : ∀ t ∈ ts, t ∈ vs) : L2.wipe σ' vs = L2.wipe σ vs := by
  apply List.ext_getElem?
  intro j
  have hl : σ'.length = σ.length := by rw [a.len, wipe_length]
  by_cases hj : j ∈ vs
  · by_cases hlt : j < σ.length
    · rw [wipe_get hj (by rw [hl]; exact hlt), wipe_get hj hlt]
    · rw [List.getElem?_eq_none (by rw [wipe_length, hl]; omega), List.getElem?_eq_none (by rw [wipe_length]; omega)]
  · rw [wipe_out hj, a.at_ j (fun z => hj (h j z)), wipe_out hj]
theorem ext_chg {p : Addr} {o : HO} (x : Ext F H ps F' H' ps') (h : H p = none) (k : H' p ≠ none) : Ext F H ps F' (upd H' p o) ps' := by
  refine ⟨x.f, fun a u e n => ?_, fun a e => ?_, x.new, x.pp⟩
  · rw [upd_ne (ne_of_none e h)]; exact x.h a u e n
  · by_cases q : a = p
    · subst q; rw [upd_same]; simp
    · rw [upd_ne q]; exact x.h' a e
theorem postJ_then {α : Type} {m : M α} {f : α → M D} {Q : VK} {P : Res α → Prop}
    (h : PostF G W σ F H ps ((m >>= f) c) Q)
    (k : ∀ a c', m c = .ok a c' → PostF G W σ F H ps (f a c') Q → P (.ok a c'))
    (ke : ∀ x c', m c = .err x c' → (∀ cls dd F' H' ps', Ext F H ps F' H' ps' → Wl G F' H' ps' c' → ER G F' ps' x cls dd → W cls dd σ H') → P (.err x c')) : P (m c) := postF_then h k ke
theorem ne_then {α β : Type} {m : M α} {f : α → M β} {P : Res β → Prop} {R : Res α → Prop} (hb : ¬ P .bad) (h : P ((M.ne m >>= f) c)) (k : ∀ a c', m c = .ok a c' → P (f a c') → R (.ok a c')) : R (m c) := by
  have h' : P (M.bind (M.ne m) f c) := h
  unfold M.bind M.ne at h'
  cases e : m c with
  | ok a c' => rw [e] at h'; exact k a c' e h'
  | err y c' => rw [e] at h'; exact absurd h' hb
  | bad => rw [e] at h'; exact absurd h' hb
/-- the reading of a comprehension -/
theorem lc_read {mi : M (List D)} {pat : D → Option α} {T : α → M Bool} {E : α → M D} {toR : α → Rho} {vs ts : List Nat} {Q : VK} (hts : ∀ t ∈ ts, t ∈ vs) (h : At G σ H ρ fun F ps c => PostF G W σ F H ps ((mi >>= compM pat T E) c) Q) :
    tLc (fun σ H R => At G σ H ρ fun F ps c => PostJ G W σ F H ps (mi c) R)
      (fun v σ H Q => ∃ F ps c d a, Wl G F H ps c ∧ Sls G σ F H ps (wipeR ρ vs) ∧ DR G.K G.cl F ps v d ∧ pat d = some a ∧ ∀ σ', Agr ts σ σ' → Sls G σ' F H ps (toR a) → Q σ' H)
      (fun σ H Q => ∃ a, At G σ H (toR a) fun F ps c => PostT G W0 σ F H ps (T a c) Q) (fun σ H Q => ∃ a, At G σ H (toR a) fun F ps c => Post G W0 σ F H ps (E a c) Q) vs σ H Q := by
  obtain ⟨F, ps, c, w, s, q⟩ := h
  refine ⟨F, ps, c, w, s, postF_then (P := fun r => PostJ G W σ F H ps r _) q (fun ds c' _ q => ?_) fun y c' _ q => q⟩
  intro J F' H' ps' x w' wk
  replace q := q.later x
  unfold compM at q
  obtain ⟨hz, q⟩ := ite_bad (fun r => PostF G W σ F' H' ps' r Q) (fun z => z) q
  intro D0 hD
  have hlen := short_le hz
  refine ⟨fun i m H => m = ds.length - i ∧ ∃ F1 ps1 c1 acc dacc, Ext F' H' ps' F1 H ps1 ∧ Wl G F1 H ps1 c1 ∧ F1 D0 = none ∧ D0 ∉ ps1 ∧ H D0 = some (.lst acc) ∧ DRs G.K G.cl F1 ps1 acc dacc ∧ acc.length ≤ i ∧
    PostF G W σ F' H' ps' ((compL pat T E (ds.drop i) >>= fun r => (pure (D.lst (dacc ++ r)) : M D)) c1) Q, ⟨ds.length, by simp, F', ps', c', [], [], ext_new hD, Wld.new w' hD, Wld.none w' hD, Wld.notin w' hD, upd_same, .nil, Nat.le_refl _, q⟩, ?_⟩
  rintro i m H1 ⟨rfl, F1, ps1, c1, acc, dacc, x1, w1, f1, n1, e1, r1, l1, q1⟩
  obtain ⟨k1, k2⟩ := wk i F1 H1 ps1 c1 x1 w1
  cases e : ds[i]? with
  | none =>
    have hl := List.getElem?_eq_none_iff.mp e
    rw [List.drop_eq_nil_of_le hl] at q1
    replace q1 : PostF G W σ F' H' ps' (.ok (.lst (dacc ++ [])) c1) Q := q1
    rw [List.append_nil] at q1
    exact .inl ⟨k2 e, q1 D0 _ F1 H1 ps1 x1 w1 f1 hD n1 e1 (.lst r1)⟩
  | some d =>
    obtain ⟨hl, ed⟩ := List.getElem?_eq_some_iff.mp e
    obtain ⟨go, yl⟩ := k1 d e
    have edr : ds.drop i = d :: ds.drop (i + 1) := by rw [List.drop_eq_getElem_cons hl, ed]
    rw [edr] at q1
    unfold compL at q1
    refine .inr ⟨go, fun H => ∃ m', m' < ds.length - i ∧ (m' = ds.length - (i + 1) ∧ ∃ F1 ps1 c1 acc dacc, Ext F' H' ps' F1 H ps1 ∧ Wl G F1 H ps1 c1 ∧ F1 D0 = none ∧ D0 ∉ ps1 ∧ H D0 = some (.lst acc) ∧ DRs G.K G.cl F1 ps1 acc dacc ∧ acc.length ≤ i + 1 ∧
      PostF G W σ F' H' ps' ((compL pat T E (ds.drop (i + 1)) >>= fun r => pure (.lst (dacc ++ r))) c1) Q), fun H' z => z, fun v H2 y => ?_⟩
    obtain ⟨F2, x2, w2, r2⟩ := yl v H2 y
    have n1' : H1 D0 ≠ none := by rw [e1]; simp
    cases ep : pat d with
    | none => rw [ep] at q1; exact q1.elim
    | some a =>
      rw [ep] at q1
      replace q1 : PostF G W σ F' H' ps' ((M.ne (T a) >>= fun t => (cond t (M.ne (E a) >>= fun y => compL pat T E (ds.drop (i + 1)) >>= fun r => pure (y :: r)) (compL pat T E (ds.drop (i + 1)))) >>= fun r => pure (.lst (dacc ++ r))) c1) Q := by
        rw [bind_assoc'] at q1
        replace q1 : PostF G W σ F' H' ps' (((M.ne (T a) >>= fun t => cond t (M.ne (E a) >>= fun y => compL pat T E (ds.drop (i + 1)) >>= fun r => pure (y :: r)) (compL pat T E (ds.drop (i + 1)))) >>= fun r => pure (.lst (dacc ++ r))) c1) Q := q1
        rw [bind_assoc'] at q1
        exact q1
      refine ⟨F2, ps1, c1, d, a, w2, ((s.ext x).ext (x1.trans x2)).wipe vs, r2, ep, fun σ' ag sl' => ⟨wipe_agr ag hts, a, F2, ps1, c1, w2, sl', ?_⟩⟩
      refine ne_then (P := fun r => PostF G W σ F' H' ps' r Q) (R := fun r => PostT G W0 σ' F2 H2 ps1 r _) (fun z => z) q1 fun t c2 _ q2 => ?_
      intro F3 H3 ps3 x3 w3
      have x13 := (x1.trans x2).trans x3
      have f3 : F3 D0 = none := (x2.trans x3).none f1 n1'
      have n3 : D0 ∉ ps3 := (x2.trans x3).notin n1 n1'
      have e3 : H3 D0 = some (.lst acc) := (x2.trans x3).h _ _ e1 n1
      have r3 := r1.ext (x2.trans x3)
      cases t with
      | false =>
        refine iteF ⟨ds.length - (i + 1), by omega, rfl, F3, ps3, c2, acc, dacc, x13, w3, f3, n3, e3, r3, Nat.le_succ_of_le l1, q2⟩
      | true =>
        refine iteT ⟨a, F3, ps3, c2, w3, sl'.ext x3, ?_⟩
        replace q2 : PostF G W σ F' H' ps' (((M.ne (E a) >>= fun y => compL pat T E (ds.drop (i + 1)) >>= fun r => pure (y :: r)) >>= fun r => pure (.lst (dacc ++ r))) c2) Q := q2
        rw [bind_assoc'] at q2
        refine ne_then (P := fun r => PostF G W σ F' H' ps' r Q) (R := fun r => Post G W0 σ' F3 H3 ps3 r _) (fun z => z) q2 fun yd c3 _ q3 => ?_
        intro u F4 H4 ps4 x4 w4 r4
        have n3' : H3 D0 ≠ none := by rw [e3]; simp
        have e4 : H4 D0 = some (.lst acc) := x4.h _ _ e3 n3
        have n4' : H4 D0 ≠ none := by rw [e4]; simp
        refine ⟨acc, e4, by omega, ds.length - (i + 1), by omega, rfl, F4, ps4, c3, acc ++ [u], dacc ++ [yd], ext_chg (x13.trans x4) hD n4', Wld.chg w4 (x4.none f3 n3') (x4.notin n3 n3'), x4.none f3 n3', x4.notin n3 n3', upd_same, (r3.ext x4).app (.cons r4 .nil), by rw [List.length_append]; simp; omega, ?_⟩
        rw [bind_assoc'] at q3
        have e9 : (fun r => pure (D.lst (dacc ++ [yd] ++ r)) : List D → M D) = fun r => (pure (yd :: r) : M (List D)) >>= fun r => pure (.lst (dacc ++ r)) := by
          funext r
          show _ = (pure (D.lst (dacc ++ (yd :: r))) : M D)
          simp
        rw [e9]
        exact q3
end
end DL
namespace DL
open PySem PySem.Spec PyProof.Rows L2

/-! ### comprehensions, joined -/
section
variable {α S L : Type} {G : Gx} {X : Cx} {W : WX} {ρ : Rho} {toS : S → Rho} {toL : L → Rho} {elt tg iter : Expr} {ifs : List Expr} {scope : Scope} {own : List (Str × Nat)} {ts : List Nat} {pos : Pos} {mi : M (List D)} {pat : D → Option α} {T : α → M Bool} {E₀ : α → M D} {toR : α → Rho}
theorem PostI.e {r : Res (List D)} {R : It → Hp → Prop} {σ : L2.St} {F H : Hp} {ps : List Addr} (q : PostJ G W σ F H ps r R) : PostI G W σ F H ps r R := by
  cases r with
  | ok ds c => exact fun J F' H' ps' x w wk => q J F' H' ps' x w fun i F1 H1 ps1 c1 x1 w1 => wk i F1 H1 ps1 c1 x1.f x1.ix w1
  | err y c => exact q
  | bad => exact q
/-- [elt for tg in iter if ..] -/
theorem df_lc (own : List (Str × Nat)) (ts : List Nat) (hc : X.calm = true) (hN : X.N.Nodup) (hi : DJ G X W ρ tg iter mi) (ok : BlkOk X.N X.env.scope scope own)
    (hg : ∀ (s : Shared) (H : Hp) (C : Addr) (cl : List (Str × Addr)) (fp : List Addr), DG G (X.blk s H scope (compEnvC scope cl C X.env) fp) (wipeR ρ (own.map (·.2))) ts tg pat toR)
    (ht : ∀ (s : Shared) (H : Hp) (C : Addr) (cl : List (Str × Addr)) (fp : List Addr) (a : α), DQ G (X.blk s H scope (compEnvC scope cl C X.env) fp) W0 (toR a) ifs (T a))
    (he : ∀ (s : Shared) (H : Hp) (C : Addr) (cl : List (Str × Addr)) (fp : List Addr) (a : α), DE G (X.blk s H scope (compEnvC scope cl C X.env) fp) W0 (toR a) elt (E₀ a))
    (hts : ∀ t ∈ ts, t ∈ own.map (·.2) := by decide) (hs : ∀ x, foldedSetIterable iter X.env x = pure x := by intro _; rfl) : DF G X W ρ (.ListComp elt [⟨tg, iter, ifs, 0⟩] scope pos) (mi >>= compM pat T E₀) := by
  have ht' : ∀ (s : Shared) (H : Hp) (C : Addr) (cl : List (Str × Addr)) (fp : List Addr), PTs (X.blk s H scope (compEnvC scope cl C X.env) fp) ifs (fun σ H Q => ∃ a, At G σ H (toR a) fun F ps c => PostT G W0 σ F H ps (T a c) Q) := fun s H C cl fp => ⟨fun pins s' σ H' Q I ⟨a, q⟩ => (ht s H C cl fp a).run.run pins s' σ H' Q I q⟩
  have he' : ∀ (s : Shared) (H : Hp) (C : Addr) (cl : List (Str × Addr)) (fp : List Addr), PE (X.blk s H scope (compEnvC scope cl C X.env) fp) elt (fun σ H Q => ∃ a, At G σ H (toR a) fun F ps c => Post G W0 σ F H ps (E₀ a c) Q) := fun s H C cl fp => ⟨fun pins s' σ H' Q I ⟨a, q⟩ => (he s H C cl fp a).run.run pins s' σ H' Q I q⟩
  exact ⟨pe_imp (pe_lc hc hN hi.run ok (fun s H C cl fp => (hg s H C cl fp).run) ht' he' hs) fun σ H Q q => lc_read hts q⟩
/-- x = [elt for ..] on one line: x known -/
theorem db_asgLc {y : Str} {py spos : Pos} {rest : List Stmt} {K : D → M (Out S L)} (i : Nat) (own : List (Str × Nat)) (ts : List Nat) (hc : X.calm = true) (hN : X.N.Nodup) (hi : DJ G X W ρ tg iter mi) (ok : BlkOk X.N X.env.scope scope own)
    (hg : ∀ (s : Shared) (H : Hp) (C : Addr) (cl : List (Str × Addr)) (fp : List Addr), DG G (X.blk s H scope (compEnvC scope cl C X.env) fp) (wipeR ρ (own.map (·.2))) ts tg pat toR)
    (ht : ∀ (s : Shared) (H : Hp) (C : Addr) (cl : List (Str × Addr)) (fp : List Addr) (a : α), DQ G (X.blk s H scope (compEnvC scope cl C X.env) fp) W0 (toR a) ifs (T a))
    (he : ∀ (s : Shared) (H : Hp) (C : Addr) (cl : List (Str × Addr)) (fp : List Addr) (a : α), DE G (X.blk s H scope (compEnvC scope cl C X.env) fp) W0 (toR a) elt (E₀ a))
    (h2 : ∀ d, DB G X W toS toL (ρ.set i (.val d)) rest (K d)) (hts : ∀ t ∈ ts, t ∈ own.map (·.2) := by decide) (hy : X.N[i]? = some y := by rfl) (hyl : X.env.scope.names.lookup y = some .local := by rfl)
    (hsw : swapsWith (.ListComp elt [⟨tg, iter, ifs, 0⟩] scope pos) (some (.Name y py)) spos.line X.env = pure true := by exact sw_true rfl rfl rfl (by decide +kernel)) (hs : ∀ x, foldedSetIterable iter X.env x = pure x := by intro _; rfl) :
    DB G X W toS toL ρ (.Assign [.Name y py] (.ListComp elt [⟨tg, iter, ifs, 0⟩] scope pos) spos :: rest) ((mi >>= compM pat T E₀) >>= K) := by
  have ht' : ∀ (s : Shared) (H : Hp) (C : Addr) (cl : List (Str × Addr)) (fp : List Addr), PTs (X.blk s H scope (compEnvC scope cl C X.env) fp) ifs (fun σ H Q => ∃ a, At G σ H (toR a) fun F ps c => PostT G W0 σ F H ps (T a c) Q) := fun s H C cl fp => ⟨fun pins s' σ H' Q I ⟨a, q⟩ => (ht s H C cl fp a).run.run pins s' σ H' Q I q⟩
  have he' : ∀ (s : Shared) (H : Hp) (C : Addr) (cl : List (Str × Addr)) (fp : List Addr), PE (X.blk s H scope (compEnvC scope cl C X.env) fp) elt (fun σ H Q => ∃ a, At G σ H (toR a) fun F ps c => Post G W0 σ F H ps (E₀ a c) Q) := fun s H C cl fp => ⟨fun pins s' σ H' Q I ⟨a, q⟩ => (he s H C cl fp a).run.run pins s' σ H' Q I q⟩
  refine ⟨pss_imp (pss_cons (u := fun E σ H => ∃ d, AtS G σ H (ρ.set i (.val d)) fun F ps c => PostS G W toS toL F ps (K d c) E) (ps_setLc hc hN hy hyl hsw hi.run ok (fun s H C cl fp => (hg s H C cl fp).run) ht' he' hs) ⟨fun pins s σ H E I ⟨d, q⟩ => (h2 d).run.run pins s σ H E I q⟩) fun E σ H ⟨F, ps, c, x, w, sl, q⟩ => ?_⟩
  exact lc_read (toR := toR) (E := E₀) (Q := fun v H => ∃ d, AtS G (σ.set i (some v)) H (ρ.set i (.val d)) fun F ps c => PostS G W toS toL F ps (K d c) E) hts ⟨F, ps, c, w, sl, (postS_val x q fun d c' v F' H' ps' x' w' r q => ⟨d, F', ps', c', x.trans x', w', (sl.ext x').set r, q⟩).postF⟩
theorem db_asgLcO {y : Str} {py spos : Pos} {rest : List Stmt} {K : D → M (Out S L)} (i : Nat) (own : List (Str × Nat)) (ts : List Nat) (hc : X.calm = true) (hN : X.N.Nodup) (hi : DJ G X W ρ tg iter mi) (ok : BlkOk X.N X.env.scope scope own)
    (hg : ∀ (s : Shared) (H : Hp) (C : Addr) (cl : List (Str × Addr)) (fp : List Addr), DG G (X.blk s H scope (compEnvC scope cl C X.env) fp) (wipeR ρ (own.map (·.2))) ts tg pat toR)
    (ht : ∀ (s : Shared) (H : Hp) (C : Addr) (cl : List (Str × Addr)) (fp : List Addr) (a : α), DQ G (X.blk s H scope (compEnvC scope cl C X.env) fp) W0 (toR a) ifs (T a))
    (he : ∀ (s : Shared) (H : Hp) (C : Addr) (cl : List (Str × Addr)) (fp : List Addr) (a : α), DE G (X.blk s H scope (compEnvC scope cl C X.env) fp) W0 (toR a) elt (E₀ a))
    (h2 : ∀ d, DB G X W toS toL (ρ.set i (.own d)) rest (K d)) (hts : ∀ t ∈ ts, t ∈ own.map (·.2) := by decide) (hy : X.N[i]? = some y := by rfl) (hyl : X.env.scope.names.lookup y = some .local := by rfl)
    (hsw : swapsWith (.ListComp elt [⟨tg, iter, ifs, 0⟩] scope pos) (some (.Name y py)) spos.line X.env = pure true := by exact sw_true rfl rfl rfl (by decide +kernel)) (hs : ∀ x, foldedSetIterable iter X.env x = pure x := by intro _; rfl) :
    DB G X W toS toL ρ (.Assign [.Name y py] (.ListComp elt [⟨tg, iter, ifs, 0⟩] scope pos) spos :: rest) ((mi >>= compM pat T E₀) >>= K) := by
  have ht' : ∀ (s : Shared) (H : Hp) (C : Addr) (cl : List (Str × Addr)) (fp : List Addr), PTs (X.blk s H scope (compEnvC scope cl C X.env) fp) ifs (fun σ H Q => ∃ a, At G σ H (toR a) fun F ps c => PostT G W0 σ F H ps (T a c) Q) := fun s H C cl fp => ⟨fun pins s' σ H' Q I ⟨a, q⟩ => (ht s H C cl fp a).run.run pins s' σ H' Q I q⟩
  have he' : ∀ (s : Shared) (H : Hp) (C : Addr) (cl : List (Str × Addr)) (fp : List Addr), PE (X.blk s H scope (compEnvC scope cl C X.env) fp) elt (fun σ H Q => ∃ a, At G σ H (toR a) fun F ps c => Post G W0 σ F H ps (E₀ a c) Q) := fun s H C cl fp => ⟨fun pins s' σ H' Q I ⟨a, q⟩ => (he s H C cl fp a).run.run pins s' σ H' Q I q⟩
  refine ⟨pss_imp (pss_cons (u := fun E σ H => ∃ d, AtS G σ H (ρ.set i (.own d)) fun F ps c => PostS G W toS toL F ps (K d c) E) (ps_setLc hc hN hy hyl hsw hi.run ok (fun s H C cl fp => (hg s H C cl fp).run) ht' he' hs) ⟨fun pins s σ H E I ⟨d, q⟩ => (h2 d).run.run pins s σ H E I q⟩) fun E σ H ⟨F, ps, c, x, w, sl, q⟩ => ?_⟩
  refine lc_read (toR := toR) (E := E₀) (Q := fun v H => ∃ d, AtS G (σ.set i (some v)) H (ρ.set i (.own d)) fun F ps c => PostS G W toS toL F ps (K d c) E) hts ⟨F, ps, c, w, sl, postS_own x q fun d c' p o F' H' ps' x' w' h1 h0 h3 h4 h5 q => ⟨d, F', ps', c', x.trans x', w', (sl.ext x').setO h1 h3 ?_ h4 h5 fun j e hj z => ?_, q⟩⟩
  · cases z : G.H0 p with
    | none => rfl
    | some u => exact absurd h0 (x.h' p (by rw [z]; simp))
  · obtain ⟨p', o', g1, _, _, _, g5, _⟩ := sl.own j e hj
    rw [g1] at z
    cases z
    rw [h0] at g5; cases g5
end

/-! ### the draws' cup: a list that is a place of the store -/
def isNat32 : Nat → Bool := fun n => n < 4294967296
section
variable {S L : Type} {G : Gx} {X : Cx} {W : WX} {ρ : Rho} {toS : S → Rho} {toL : L → Rho} {F F' H H' : Hp} {ps ps' : List Addr} {c : Sto} {σ : L2.St}
/-- a new list becomes a place of the store -/
theorem Wld.place {p : Addr} {vs : List V} {ds : List D} (w : Wl G F H ps c) (hF : F p = Option.none) (hp : p ∉ ps) (hH : H p = some (.lst vs)) (r : DRs G.K G.cl F ps vs ds) : Wl G F H (ps ++ [p]) (c ++ [.lst ds]) := by
  have up : DRs G.K G.cl F (ps ++ [p]) vs ds := r.up (fun _ _ e => e) fun n a e => by
    rw [List.getElem?_append_left (List.getElem?_eq_some_iff.mp e).1]; exact e
  refine ⟨w.sub, by simp [w.len], ?_, fun n a so e1 e2 => ?_⟩
  · rw [List.nodup_append]
    refine ⟨w.nd, by simp, fun a ha b hb => ?_⟩
    simp at hb
    subst hb
    exact fun z => hp (z ▸ ha)
  · by_cases hn : n < ps.length
    · rw [List.getElem?_append_left hn] at e1
      rw [List.getElem?_append_left (by rw [← w.len]; exact hn)] at e2
      obtain ⟨g1, u, g2, g3⟩ := w.at_ n a so e1 e2
      refine ⟨g1, u, g2, ?_⟩
      cases g3 with
      | lst g3 => exact .lst (g3.up (fun _ _ e => e) fun n a e => by rw [List.getElem?_append_left (List.getElem?_eq_some_iff.mp e).1]; exact e)
    · have hn' : n = ps.length := by
        have := (List.getElem?_eq_some_iff.mp e1).1
        simp at this
        omega
      subst hn'
      rw [List.getElem?_append_right (Nat.le_refl _)] at e1
      simp at e1
      subst e1
      rw [w.len, List.getElem?_append_right (Nat.le_refl _)] at e2
      simp at e2
      subst e2
      exact ⟨hF, _, hH, .lst up⟩
end
end DL
namespace DL
open PySem PySem.Spec PyProof.Rows L2

section
variable {S L : Type} {G : Gx} {X : Cx} {W : WX} {ρ : Rho} {toS : S → Rho} {toL : L → Rho} {F F' H H' : Hp} {ps ps' : List Addr} {c : Sto} {σ : L2.St} {e a b ie : Expr} {m ma mb mi : M D} {pos pos' p2 : Pos} {x : Str} {rest : List Stmt}
/-! ### a new list made a place of the store -/
def placeM : D → M D
  | .lst ds => fun c => .ok (.ref c.length) (c ++ [.lst ds])
  | _ => M.bad
theorem DF.place (h : DF G X W ρ e m) : DE G X W ρ e (m >>= placeM) := ⟨pe_imp h.run fun σ H Q ⟨F, ps, c, w, s, q⟩ => ⟨F, ps, c, w, s, by
  refine post_then (P := fun r => PostF G W σ F H ps r Q) q (fun d c' _ q => ?_) fun y c' _ q => q
  intro p o F' H' ps' x w' h1 h2 h3 h4 h5
  cases h5 with
  | lst r =>
    rename_i vs ds _
    replace q : Post G W σ F H ps (.ok (.ref c'.length) (c' ++ [.lst ds])) Q := q
    refine q (.ref p) F' H' (ps' ++ [p]) ?_ (Wld.place w' h1 h3 h4 r) (.ref ?_)
    · obtain ⟨l, el, hl⟩ := x.pp
      exact ⟨x.f, x.h, x.h', x.new, l ++ [p], by rw [el, List.append_assoc], fun a ha => by
        rcases List.mem_append.mp ha with z | z
        · exact hl a z
        · rw [List.mem_singleton.mp z]; exact h2⟩
    · have hl := w'.len
      rw [← hl, List.getElem?_append_right (Nat.le_refl _)]
      simp
  | dK r => exact q.elim
  | dT r => exact q.elim⟩⟩
theorem place_get (w : Wl G F H ps c) {n : Nat} {p : Addr} {ds : List D} (h1 : ps[n]? = some p) (h2 : c[n]? = some (.lst ds)) : ∃ vs, H p = some (.lst vs) ∧ DRs G.K G.cl F ps vs ds ∧ F p = Option.none := by
  obtain ⟨g1, o, g2, g3⟩ := w.at_ n p _ h1 h2
  cases g3 with
  | lst r => exact ⟨_, g2, r, g1⟩
def ixR : D → D → M D
  | .ref n, .int i => fun c => match c[n]? with
    | some (.lst ds) => match atI ds i with
      | some d => .ok d c
      | none => .bad
    | _ => .bad
  | _, _ => M.bad
theorem DT.refd {v : V} {n : Nat} (h : DT G F H ps v (.ref n)) : ∃ p, v = .ref p ∧ ps[n]? = some p := by
  cases h with
  | known h => cases h with | ref h => exact ⟨_, rfl, h⟩
  | own _ _ h => exact nomatch h
/-- place[i] -/
theorem de_ixR (h1 : DO G X W ρ a ma) (h2 : DO G X W ρ b mb) (hs : PlainIx b := by intro _ _; rfl) (hK : G.K = X.K := by rfl) : DE G X W ρ (.Subscript a b pos) (ma >>= fun x => mb >>= fun y => ixR x y) := by
  suffices hr : Snd2 G (rIx X.K) ixR from ⟨pe_imp (pe_ix ix_seq h1.run h2.run hs) fun σ H Q q => at_bin hr q⟩
  intro W σ F H ps c x y dx dy Q w tx ty q
  unfold ixR at q
  split at q
  · obtain ⟨p, rfl, hp⟩ := tx.refd
    rw [ty.int]
    split at q
    · rename_i ds e2
      obtain ⟨vs, g1, g2, _⟩ := place_get w hp e2
      split at q
      · rename_i d e3
        obtain ⟨u, g3, g4⟩ := drs_ix g2 e3
        exact .inl ⟨p, vs, _, u, rfl, rfl, SqL.of g1, g3, post_here w g4 q⟩
      · exact q.elim
    · exact q.elim
  · exact q.elim
def setI {α : Type} (xs : List α) (i : Int) (v : α) : Option (List α) := (ixN xs.length i).map fun j => xs.set j v
def setR : D → D → D → M Unit
  | .ref n, .int i, v => fun c => match c[n]? with
    | some (.lst ds) => match setI ds i v with
      | some ds' => .ok () (c.set n (.lst ds'))
      | none => .bad
    | _ => .bad
  | _, _, _ => M.bad
theorem setR_cases (o i v : D) (c : Sto) : setR o i v c = .bad ∨ ∃ n k ds j, o = .ref n ∧ i = .int k ∧ c[n]? = some (.lst ds) ∧ ixN ds.length k = some j ∧ setR o i v c = .ok () (c.set n (.lst (ds.set j v))) := by
  unfold setR
  split
  · rename_i n k
    cases e : c[n]? with
    | none => exact .inl rfl
    | some so =>
      cases so with
      | ins a b => exact .inl rfl
      | lst ds =>
        cases e2 : ixN ds.length k with
        | none => exact .inl (by simp [setI, e2])
        | some j => exact .inr ⟨n, k, ds, j, rfl, rfl, e, e2, by simp [setI, e2]⟩
  · exact .inl rfl
theorem drs_set : ∀ {vs : List V} {ds : List D} {v : V} {d : D} {j : Nat}, DRs G.K G.cl F ps vs ds → DR G.K G.cl F ps v d → DRs G.K G.cl F ps (vs.set j v) (ds.set j d)
  | _, _, _, _, _, .nil, _ => .nil
  | _, _, _, _, 0, .cons h t, r => .cons r t
  | _, _, _, _, j + 1, .cons h t, r => .cons h (drs_set t r)
/-- a place of the store changes -/
theorem Wld.store (w : Wl G F H ps c) {n : Nat} {p : Addr} {ds : List D} {vs : List V} (h1 : ps[n]? = some p) (h2 : F p = Option.none) (r : DRs G.K G.cl F ps vs ds) : Wl G F (upd H p (.lst vs)) ps (c.set n (.lst ds)) := by
  refine ⟨fun a o e => ?_, by rw [w.len, List.length_set], w.nd, fun k a so e1 e2 => ?_⟩
  · rw [upd_ne (fun z => by rw [z, h2] at e; cases e)]
    exact w.sub a o e
  · rcases get_set e2 with ⟨z, q⟩ | ⟨z, q⟩
    · subst z
      rw [h1] at e1
      cases e1
      rw [q]
      exact ⟨h2, _, upd_same, .lst r⟩
    · obtain ⟨g1, o, g2, g3⟩ := w.at_ k a so e1 q
      have ne : a ≠ p := fun zz => z (by
        subst zz
        exact ((List.getElem?_inj (List.getElem?_eq_some_iff.mp e1).1 w.nd).mp (by rw [e1, h1])))
      exact ⟨g1, o, by rw [upd_ne ne]; exact g2, g3⟩
theorem ext_store {p : Addr} {o : HO} (hp : p ∈ ps) : Ext F H ps F (upd H p o) ps := by
  refine ⟨fun a u e => e, fun a u e n => ?_, fun a e => ?_, fun a e k => absurd e k, [], by simp, by simp⟩
  · rw [upd_ne (fun z => n (by rw [z]; exact hp))]; exact e
  · by_cases q : a = p
    · subst q; rw [upd_same]; simp
    · rw [upd_ne q]; exact e
/-- place[i] = e -/
theorem db_setR {K : M (Out S L)} (he : DE G X W ρ e m) (ha : DE G X W ρ a ma) (hi : DE G X W ρ ie mi) (h2 : DB G X W toS toL ρ rest K) (hs : swapsWithSole [.Subscript a ie p2] e pos.line X.env = pure false := by rfl)
    (hg : ∀ v, assign (.Subscript a ie p2) X.env v = (do
      let ov ← holding [v] (eval a X.env)
      let iv ← holding [v, ov] (eval ie X.env)
      standAt p2
      holding [v, ov, iv] (setItem ov iv v)
      release [v, ov, iv] []) := by intro _; rfl) :
    DB G X W toS toL ρ (.Assign [.Subscript a ie p2] e pos :: rest) (m >>= fun v => ma >>= fun o => mi >>= fun i => setR o i v >>= fun _ => K) := by
  refine ⟨pss_imp (pss_cons (ps_asg he.run (pg_sub (pos := p2) ha.run hi.run set_list hg) hs) h2.run) fun E σ H ⟨F, ps, c, x, w, sl, q⟩ => ?_⟩
  refine ⟨F, ps, c, w, sl, postS_val x q fun d1 c1 v1 F1 H1 ps1 x1 w1 r1 q => ?_⟩
  refine ⟨F1, ps1, c1, w1, sl.ext x1, postS_val (x.trans x1) q fun d2 c2 v2 F2 H2 ps2 x2 w2 r2 q => ?_⟩
  refine ⟨F2, ps2, c2, w2, (sl.ext x1).ext x2, postS_val ((x.trans x1).trans x2) q fun d3 c3 v3 F3 H3 ps3 x3 w3 r3 q => ?_⟩
  have t2 := (DT.known (H := H2) r2).ext x3
  have r1' := (r1.ext x2).ext x3
  have xx := ((x.trans x1).trans x2).trans x3
  have sl3 := ((sl.ext x1).ext x2).ext x3
  replace q : PostS G W toS toL F3 ps3 (M.bind (setR d2 d3 d1) (fun _ => K) c3) E := q
  unfold M.bind at q
  rcases setR_cases d2 d3 d1 c3 with e0 | ⟨n, i, ds, j, rfl, rfl, e2, e4, e0⟩
  · rw [e0] at q
    exact q.elim
  · rw [e0] at q
    obtain ⟨p, rfl, hp⟩ := t2.refd
    rw [(DT.known (H := H3) r3).int]
    obtain ⟨vs, g1, g2, g3⟩ := place_get w3 hp e2
    have xs : Ext F3 H3 ps3 F3 (upd H3 p (.lst (vs.set j v1))) ps3 := ext_store (List.mem_of_getElem? hp)
    exact ⟨p, vs, i, j, rfl, rfl, g1, by rw [g2.length]; exact e4, F3, ps3, _, xx.trans xs, Wld.store w3 hp g3 (drs_set g2 r1'), sl3.ext xs, q⟩
end
end DL
namespace DL
open PySem PySem.Spec PyProof.Rows L2

/-! ### a def that gives a new object back -/
section
variable (G : Gx)
def PostRF (W : WX) (r : Res D) (E : Ends) : Prop := match r with
  | .ok d c => ∀ p o F H ps, Ext G.F0 G.H0 G.p0 F H ps → Wl G F H ps c → F p = none → G.H0 p = none → p ∉ ps → H p = some o → OR G.K G.cl F ps o d → E.rt (.ref p) H
  | .err x c => ∀ cls dd σ F H ps, Ext G.F0 G.H0 G.p0 F H ps → Wl G F H ps c → ER G F ps x cls dd → W cls dd σ H
  | .bad => False
end
structure DBF (G : Gx) (X : Cx) (W : WX) (ρ : Rho) (st : List Stmt) (m : M D) : Prop where
  run : PSs X st fun E σ H => AtS G σ H ρ fun F ps c => PostRF G W (m c) E
def PostCF (K : PySem.W.Frag) (cl : String → Option Addr) (F H : Hp) (ps : List Addr) (r : Res D) (Q : VK) (E : XK) : Prop := match r with
  | .ok d c => ∀ p o F' H' ps', Ext F H ps F' H' ps' → Wld K cl F' H' ps' c → F' p = none → H p = none → p ∉ ps' → H' p = some o → OR K cl F' ps' o d → Q (.ref p) H'
  | .err x c => ∀ cls dd F' H' ps', Ext F H ps F' H' ps' → Wld K cl F' H' ps' c → ER ⟨K, cl, F, H, ps⟩ F' ps' x cls dd → E cls dd H'
  | .bad => False
def spF (K : PySem.W.Frag) (cl : String → Option Addr) (n : Nat) (f : List D → M D) : Sp := fun vs H Q E => ∃ F ps c ds, Wld K cl F H ps c ∧ DRs K cl F ps vs ds ∧ ds.length = n ∧ PostCF K cl F H ps (f ds c) Q E
theorem spF_len {K : PySem.W.Frag} {cl : String → Option Addr} {n : Nat} {f : List D → M D} : ∀ vs H Q E, spF K cl n f vs H Q E → vs.length = n := fun vs H Q E ⟨F, ps, c, ds, w, r, l, _⟩ => by rw [r.length, l]
section
variable {G : Gx} {X : Cx} {W : WX} {ρ : Rho} {F F' H H' : Hp} {ps ps' : List Addr} {c : Sto} {σ : L2.St} {e : Expr} {m : M D} {pos pos' : Pos} {x : Str} {rest : List Stmt}
theorem postRF_then {α : Type} {m : M α} {f : α → M D} {E : Ends} {P : Res α → Prop} (h : PostRF G W ((m >>= f) c) E)
    (k : ∀ a c', m c = .ok a c' → PostRF G W (f a c') E → P (.ok a c'))
    (ke : ∀ x c', m c = .err x c' → (∀ cls dd σ F' H' ps', Ext G.F0 G.H0 G.p0 F' H' ps' → Wl G F' H' ps' c' → ER G F' ps' x cls dd → W cls dd σ H') → P (.err x c')) : P (m c) := by
  have e0 : (m >>= f) c = M.bind m f c := rfl
  rw [e0] at h
  unfold M.bind at h
  cases e : m c with
  | ok a c' => rw [e] at h; exact k a c' e h
  | err x c' => rw [e] at h; exact ke x c' e h
  | bad => rw [e] at h; exact h.elim
theorem dbf_asg (i : Nat) {K : D → M D} (he : DE G X W ρ e m) (h2 : ∀ d, DBF G X W (ρ.set i (.val d)) rest (K d)) (hN : X.N.Nodup) (hi : X.N[i]? = some x := by rfl) (hx : Loc X.env.scope x := by first | exact Or.inl rfl | exact Or.inr rfl)
    (hs : swapsWith e (some (.Name x pos')) pos.line X.env = pure false := by rfl) (hf : X.fn x = true ∨ X.env.scope.names.lookup x = some .local := by first | exact .inl rfl | exact .inr rfl) :
    DBF G X W ρ (.Assign [.Name x pos'] e pos :: rest) (m >>= K) := by
  refine ⟨pss_imp (pss_cons (u := fun E σ H => ∃ d, AtS G σ H (ρ.set i (.val d)) fun F ps c => PostRF G W (K d c) E) (ps_set hN hi hx he.run hs hf) ⟨fun pins s σ H E I ⟨d, q⟩ => (h2 d).run.run pins s σ H E I q⟩) fun E σ H ⟨F, ps, c, x, w, sl, q⟩ => ?_⟩
  refine ⟨F, ps, c, w, sl, postRF_then (P := fun r => Post G W σ F H ps r _) q (fun d c' _ q => ?_) fun y c' _ q => fun cls dd F' H' ps' x' w' r' => q cls dd σ F' H' ps' (x.trans x') w' r'⟩
  exact fun v F' H' ps' x' w' r => ⟨d, F', ps', c', x.trans x', w', (sl.ext x').set r, q⟩
theorem dbf_ret (he : DF G X W ρ e m) : DBF G X W ρ [.Return (some e) pos] m := by
  refine ⟨pss_imp (pss_cons (u := tNever) (ps_ret he.run) pss_never) fun E σ H ⟨F, ps, c, x, w, sl, q⟩ => ?_⟩
  refine ⟨F, ps, c, w, sl, postRF_then (f := pure) (P := fun r => PostF G W σ F H ps r _) ((pure_bind' m).symm ▸ q) (fun d c' _ q => ?_) fun y c' _ q => fun cls dd F' H' ps' x' w' r' => q cls dd σ F' H' ps' (x.trans x') w' r'⟩
  intro p o F' H' ps' x' w' h1 h2 h3 h4 h5
  refine q p o F' H' ps' (x.trans x') w' h1 ?_ h3 h4 h5
  cases z : G.H0 p with
  | none => rfl
  | some u => exact absurd h2 (x.h' p (by rw [z]; simp))
/-- a call of such a def -/
theorem postF_call {f : List D → M D} {n : Nat} {ds : List D} {vs : List V} {Q : VK} (w : Wl G F H ps c) (r : DRs G.K G.cl F ps vs ds) (hl : ds.length = n) (q : PostF G W σ F H ps (f ds c) Q) : spF G.K G.cl n f vs H Q (WE W σ) := by
  refine ⟨F, ps, c, ds, w, r, hl, ?_⟩
  cases e : f ds c with
  | ok d c' => rw [e] at q; exact q
  | err y c' => rw [e] at q; exact q
  | bad => rw [e] at q; exact q
theorem df_call1 {g : D → M D} {k : Nat} {f : Addr} {fd : FuncData} {ps0 : List Str} {x : Str} {p pos : Pos} {e1 : Expr} {m1 : M D} (Fk : FnOk X.prog X.w X.K X.mg X.base (L2.CX X.prog X.w) k f fd ps0 (spF G.K G.cl 1 (ap1 g))) (hr : Room k X.A) (tk : Takes X W)
    (hg : Gl X x) (hm : X.mg x = some (.ref f)) (hk : PySem.W.keepIn X.K (.ref f) = true) (hb : Binds X.K fd ps0 []) (h1 : DE G X W ρ e1 m1) (n1 : NS e1 := by intro _ _; rfl) (hdb : (x == ("__debug__" : Str)) = false := by decide) :
    DF G X W ρ (.Call (.Name x p) [e1] [] pos) (m1 >>= fun a => g a) := by
  refine ⟨pe_imp (pe_callS Fk hr hg hm hk hb (fun σ => passAt tk σ) (da_cons h1 da_nil n1).run hdb (n1 _ _) plain_nil) fun σ H Q ⟨F, ps, c, w, s, q⟩ => ?_⟩
  refine ⟨F, ps, c, w, s, postF_args (f := ap1 g) (by simp only [bind_assoc', bind_pure']; exact q) fun ds c' vs F' H' ps' x w' r q => ?_⟩
  by_cases hl : ds.length = 1
  · exact postF_call w' r hl q
  · have : ap1 g ds = M.bad := by match ds with | [] => rfl | [_] => simp at hl | _ :: _ :: _ => rfl
    rw [this] at q; exact q.elim
end
section
variable {P : Program} {w : World} {K : PySem.W.Frag} {mg : Str → Option Value} {base : Heap} {cl : String → Option Addr}
theorem fn_okF {x qual : Str} {st : Stmt} {f : Addr} {fd : FuncData} {N ps : List Str} {k n : Nat} {g : List D → M D} (F : Fun K x qual st f fd) (S : FnScope N ps (defScope st)) (hn : ps.length = n)
    (hb : ∀ (cdv : Value) (A : Around) (outer : List Env) (s : Shared) (E : XK) (F0 H0 : Hp) (p0 : List Addr) (ds : List D), ds.length = n → Room k (A.deeper (envOfC qual (defScope st) s.heap.objs.size f cdv)) →
      DBF ⟨K, cl, F0, H0, p0⟩ (bX P w K mg base N qual st f cdv A outer s H0 E) (WD E) (rho ds N.length) (defBody st) (g ds)) :
    FnOk P w K mg base (L2.CX P w) (k + 1) f fd ps (spF K cl n g) := by
  refine F.okX S (fun vs H Q E h => by rw [spF_len _ _ _ _ h, hn]) fun cdv A outer s H vs Q E hr ⟨F0, p0, c, ds, wl, r, l, q⟩ => ?_
  refine ⟨_, (hb cdv A outer s E F0 H p0 ds l hr).run, F0, p0, c, Ext.refl, wl, sls_start r, ?_⟩
  show PostRF ⟨K, cl, F0, H, p0⟩ (WD E) (g ds c) _
  revert q
  cases g ds c with
  | bad => exact fun q => q
  | err y c' => exact fun q cls dd _ F' H' ps' x w r => q cls dd F' H' ps' x w r
  | ok d c' => exact fun q => q
end
end DL
namespace DL
open PySem PySem.Spec PyProof.Rows L2

section
variable {G : Gx} {X : Cx} {W : WX} {ρ : Rho} {a b tg iter : Expr} {ma mb m : M D} {p pos tpos : Pos} {elts : List Expr} {kk : Nat} {σ : L2.St} {F H : Hp} {ps : List Addr} {c : Sto} {v : V}
def pairD (x y : D) : D := .tup [x, y]
def zipD : List D → List D → List D
  | x :: xs, y :: ys => pairD x y :: zipD xs ys
  | _, _ => []
def zipM : D → D → M (List D)
  | .lst xs, .lst ys => pure (zipD xs ys)
  | .tup xs, .tup ys => pure (zipD xs ys)
  | _, _ => M.bad
def enumD (i : Nat) : List D → List D
  | [] => []
  | x :: xs => pairD (.int (i : Nat)) x :: enumD (i + 1) xs
def enumM : D → M (List D)
  | .lst xs => pure (enumD 0 xs)
  | _ => M.bad
theorem zip_some : ∀ {xs ys : List D} {i : Nat} {d : D}, (zipD xs ys)[i]? = some d → ∃ x y, xs[i]? = some x ∧ ys[i]? = some y ∧ d = pairD x y
  | [], _, _, _, e => by simp [zipD] at e
  | _ :: _, [], _, _, e => by simp [zipD] at e
  | x :: xs, y :: ys, 0, d, e => ⟨x, y, rfl, rfl, by simpa [zipD] using e.symm⟩
  | x :: xs, y :: ys, i + 1, d, e => by
    obtain ⟨x', y', h1, h2, h3⟩ := zip_some (xs := xs) (ys := ys) (i := i) (d := d) (by simpa [zipD] using e)
    exact ⟨x', y', by simpa using h1, by simpa using h2, h3⟩
theorem zip_none : ∀ {xs ys : List D} {i : Nat}, (zipD xs ys)[i]? = none → xs.length ≤ i ∨ ys.length ≤ i
  | [], _, _, _ => .inl (Nat.zero_le _)
  | _ :: _, [], _, _ => .inr (Nat.zero_le _)
  | x :: xs, y :: ys, 0, e => by simp [zipD] at e
  | x :: xs, y :: ys, i + 1, e => by
    rcases zip_none (xs := xs) (ys := ys) (i := i) (by simpa [zipD] using e) with h | h
    · exact .inl (by rw [List.length_cons]; omega)
    · exact .inr (by rw [List.length_cons]; omega)
theorem enum_some : ∀ {xs : List D} {k i : Nat} {d : D}, (enumD k xs)[i]? = some d → ∃ x, xs[i]? = some x ∧ d = pairD (.int ((k + i : Nat) : Int)) x
  | [], _, _, _, e => by simp [enumD] at e
  | x :: xs, k, 0, d, e => ⟨x, rfl, by simpa [enumD] using e.symm⟩
  | x :: xs, k, i + 1, d, e => by
    obtain ⟨x', h1, h2⟩ := enum_some (xs := xs) (k := k + 1) (i := i) (d := d) (by simpa [enumD] using e)
    exact ⟨x', by simpa using h1, by rw [h2]; congr 3; omega⟩
theorem enum_len : ∀ {xs : List D} {k : Nat}, (enumD k xs).length = xs.length
  | [], _ => rfl
  | x :: xs, k => by rw [enumD, List.length_cons, List.length_cons, enum_len]
theorem laid_pair {x y : V} {dx dy : D} {T : Addr} (w : Wl G F H ps c) (hT : H T = none) (r1 : DR G.K G.cl F ps x dx) (r2 : DR G.K G.cl F ps y dy) :
    ∃ F2, Ext F H ps F2 (upd H T (.tup [x, y])) ps ∧ Wl G F2 (upd H T (.tup [x, y])) ps c ∧ DR G.K G.cl F2 ps (.ref T) (pairD dx dy) := by
  have x1 : Ext F H ps (upd F T (.tup [x, y])) (upd H T (.tup [x, y])) ps := ext_laid w.sub hT
  exact ⟨_, x1, Wld.laid w hT, .tup upd_same (.cons (r1.ext x1) (.cons (r2.ext x1) .nil))⟩
theorem walks_zipL {p q : Addr} {vs us : List V} {ds es : List D} (h : F p = some (.lst vs)) (k : F q = some (.lst us)) (r : DRs G.K G.cl F ps vs ds) (t : DRs G.K G.cl F ps us es) (hK : G.K = X.K) : Walks G (Itz X.K p q) F H ps (zipD ds es) := fun i F1 H1 ps1 c1 f hp w => by
  have g1 : SqL X.K H1 p vs := SqL.of (w.sub _ _ (f _ _ h))
  have g2 : SqL X.K H1 q us := SqL.of (w.sub _ _ (f _ _ k))
  refine ⟨fun d e => ?_, fun e => ?_⟩
  · obtain ⟨dx, dy, e1, e2, rfl⟩ := zip_some e
    obtain ⟨x, h1, h2⟩ := r.get e1
    obtain ⟨y, h3, h4⟩ := t.get e2
    refine ⟨⟨vs, us, x, y, g1, g2, h1, h3⟩, fun v H2 yy => ?_⟩
    obtain ⟨T, x', y', rfl, hT, rfl, f1, f2⟩ := yy
    have ex : some x = some x' := h1.symm.trans (f1 vs g1)
    have ey : some y = some y' := h3.symm.trans (f2 us g2)
    cases ex; cases ey
    exact laid_pair w hT (h2.up f hp) (h4.up f hp)
  · refine ⟨vs, us, g1, g2, ?_⟩
    rw [r.length, t.length]
    exact zip_none e
theorem walks_zipT {p q : Addr} {vs us : List V} {ds es : List D} (h : F p = some (.tup vs)) (k : F q = some (.tup us)) (r : DRs G.K G.cl F ps vs ds) (t : DRs G.K G.cl F ps us es) (hK : G.K = X.K) : Walks G (RZ.ItzT X.K p q) F H ps (zipD ds es) := fun i F1 H1 ps1 c1 f hp w => by
  have g1 : SqT X.K H1 p vs := SqT.of (w.sub _ _ (f _ _ h))
  have g2 : SqT X.K H1 q us := SqT.of (w.sub _ _ (f _ _ k))
  refine ⟨fun d e => ?_, fun e => ?_⟩
  · obtain ⟨dx, dy, e1, e2, rfl⟩ := zip_some e
    obtain ⟨x, h1, h2⟩ := r.get e1
    obtain ⟨y, h3, h4⟩ := t.get e2
    refine ⟨⟨vs, us, x, y, g1, g2, h1, h3⟩, fun v H2 yy => ?_⟩
    obtain ⟨T, x', y', rfl, hT, rfl, f1, f2⟩ := yy
    have ex : some x = some x' := h1.symm.trans (f1 vs g1)
    have ey : some y = some y' := h3.symm.trans (f2 us g2)
    cases ex; cases ey
    exact laid_pair w hT (h2.up f hp) (h4.up f hp)
  · refine ⟨vs, us, g1, g2, ?_⟩
    rw [r.length, t.length]
    exact zip_none e
theorem walks_enum {p : Addr} {vs : List V} {ds : List D} (h : F p = some (.lst vs)) (r : DRs G.K G.cl F ps vs ds) (hK : G.K = X.K) : Walks G (Ite X.K p) F H ps (enumD 0 ds) := fun i F1 H1 ps1 c1 f hp w => by
  have g1 : SqL X.K H1 p vs := SqL.of (w.sub _ _ (f _ _ h))
  refine ⟨fun d e => ?_, fun e => ?_⟩
  · obtain ⟨dx, e1, rfl⟩ := enum_some e
    obtain ⟨x, h1, h2⟩ := r.get e1
    refine ⟨⟨vs, x, g1, h1⟩, fun v H2 yy => ?_⟩
    obtain ⟨T, x', rfl, hT, rfl, f1⟩ := yy
    have ex : some x = some x' := h1.symm.trans (f1 vs g1)
    cases ex
    rw [Nat.zero_add]
    exact laid_pair w hT (.int _) (h2.up f hp)
  · refine ⟨vs, g1, ?_⟩
    have := List.getElem?_eq_none_iff.mp e
    rw [enum_len] at this
    rw [r.length]; exact this
theorem PostI.later {F' H' : Hp} {ps' : List Addr} {r : Res (List D)} {R : It → Hp → Prop} (x : Ext F H ps F' H' ps') (q : PostI G W σ F H ps r R) : PostI G W σ F' H' ps' r R := by
  cases r with
  | ok ds c2 => exact fun J F2 H2 ps2 x2 w2 k => q J F2 H2 ps2 (x.trans x2) w2 k
  | err y c2 => exact fun cls dd F2 H2 ps2 x2 w2 r => q cls dd F2 H2 ps2 (x.trans x2) w2 r
  | bad => exact q
theorem di_zip (h : DE G X W ρ a ma) (k : DE G X W ρ b mb) (hg : Gl X "zip") (hm : X.mg "zip" = none) (ns : NS a := by intro _ _; rfl) (ns2 : NS b := by intro _ _; rfl) (hK : G.K = X.K := by rfl) :
    DI G X W ρ (.Tuple elts kk tpos) (.Call (.Name "zip" p) [a, b] [] pos) (ma >>= fun x => mb >>= fun y => zipM x y) := by
  refine ⟨pi_imp (RZ.pi_zipA hg hm (pa2 h.run k.run ns ns2) (ns _ _) (plain_cons ns2 plain_nil)) fun σ H R ⟨F, ps, c, w, s, q⟩ => ?_⟩
  refine ⟨F, ps, c, w, s, postI_then (P := fun r => Post G W σ F H ps r _) q (fun d c' _ q => ?_) fun y c' _ q => q⟩
  intro v F' H' ps' x w' d'
  refine ⟨F', ps', c', w', s.ext x, postI_then (P := fun r => Post G W σ F' H' ps' r _) (c := c') (m := mb) (f := fun y => zipM d y) (Q := R) (q.later x) (fun d2 c2 _ q => ?_) fun y c' _ q => q⟩
  intro v2 F2 H2 ps2 x2 w2 d2'
  have d'' := d'.ext x2
  unfold zipM at q
  cases d'' with
  | lst h1 h2 =>
    cases d2' with
    | lst h3 h4 => exact ⟨_, _, _, _, rfl, .inl ⟨SqL.of (w2.sub _ _ h1), SqL.of (w2.sub _ _ h3), q _ F2 H2 ps2 x2 w2 (walks_zipL h1 h3 h2 h4 hK)⟩⟩
    | _ => exact q.elim
  | tup h1 h2 =>
    cases d2' with
    | tup h3 h4 => exact ⟨_, _, _, _, rfl, .inr ⟨SqT.of (w2.sub _ _ h1), SqT.of (w2.sub _ _ h3), q _ F2 H2 ps2 x2 w2 (walks_zipT h1 h3 h2 h4 hK)⟩⟩
    | _ => exact q.elim
  | _ => exact q.elim
theorem di_enum (h : DE G X W ρ a m) (hg : Gl X "enumerate") (hm : X.mg "enumerate" = none) (ns : NS a := by intro _ _; rfl) (hK : G.K = X.K := by rfl) :
    DI G X W ρ (.Tuple elts kk tpos) (.Call (.Name "enumerate" p) [a] [] pos) (m >>= enumM) := by
  refine ⟨pi_imp (pi_enum hg hm (pa1 h.run ns) (ns _ _)) fun σ H R ⟨F, ps, c, w, s, q⟩ => ?_⟩
  refine ⟨F, ps, c, w, s, postI_then (P := fun r => Post G W σ F H ps r _) q (fun d c' _ q => ?_) fun y c' _ q => q⟩
  intro v F' H' ps' x w' d'
  unfold enumM at q
  cases d' with
  | lst h1 h2 => exact ⟨_, _, rfl, SqL.of (w'.sub _ _ h1), q _ F' H' ps' x w' (walks_enum h1 h2 hK)⟩
  | _ => exact q.elim
end
end DL
namespace DL
open PySem PySem.Spec PyProof.Rows L2

section
variable {S L : Type} {G : Gx} {X : Cx} {W : WX} {ρ : Rho} {toS : S → Rho} {toL : L → Rho} {F F' H H' : Hp} {ps ps' : List Addr} {c : Sto} {σ : L2.St} {a b e ie : Expr} {ma mb m mi : M D} {p pos pos' p2 : Pos} {x : Str} {rest : List Stmt}
/-! ### the usual built-ins, by name -/
theorem de_len (hm : X.mg "len" = none) (ha : DO G X W ρ a ma) (hg : Gl X "len" := by rfl) (ns : NS a := by intro _ _; rfl) (hK : G.K = X.K := by rfl) : DE G X W ρ (.Call (.Name "len" p) [a] [] pos) (ma >>= ofO lenO) := de_b1 (call_len.or call_lenR) (snd_len hK) hg hm Boot.«len» ha (by decide) (by decide) ns
theorem de_abs (hm : X.mg "abs" = none) (ha : DO G X W ρ a ma) (hg : Gl X "abs" := by rfl) (ns : NS a := by intro _ _; rfl) : DE G X W ρ (.Call (.Name "abs" p) [a] [] pos) (ma >>= ofO absO) := de_b1 call_abs snd_abs hg hm Boot.«abs» ha (by decide) (by decide) ns
theorem de_ord (hm : X.mg "ord" = none) (ha : DO G X W ρ a ma) (hg : Gl X "ord" := by rfl) (ns : NS a := by intro _ _; rfl) : DE G X W ρ (.Call (.Name "ord" p) [a] [] pos) (ma >>= ofO ordO) := de_b1 call_ord snd_ord hg hm Boot.«ord» ha (by decide) (by decide) ns
theorem de_intc (hm : X.mg "int" = none) (ha : DO G X W ρ a ma) (hg : Gl X "int" := by rfl) (ns : NS a := by intro _ _; rfl) : DE G X W ρ (.Call (.Name "int" p) [a] [] pos) (ma >>= ofO intO) := de_t1 call_int1 snd_int hg hm Boot.«int» ha (by decide) (by decide) ns
theorem de_strc (hm : X.mg "str" = none) (ha : DO G X W ρ a ma) (hg : Gl X "str" := by rfl) (ns : NS a := by intro _ _; rfl) : DE G X W ρ (.Call (.Name "str" p) [a] [] pos) (ma >>= ofO strO) := de_t1 call_str_int snd_str hg hm Boot.«str» ha (by decide) (by decide) ns
theorem de_tuplec (hm : X.mg "tuple" = none) (ha : DO G X W ρ a ma) (hg : Gl X "tuple" := by rfl) (ns : NS a := by intro _ _; rfl) : DE G X W ρ (.Call (.Name "tuple" p) [a] [] pos) (ma >>= ofO tupO) := de_t1 call_tuple_of snd_tuple hg hm Boot.«tuple» ha (by decide) (by decide) ns
theorem df_listc (hm : X.mg "list" = none) (ha : DO G X W ρ a ma) (hg : Gl X "list" := by rfl) (ns : NS a := by intro _ _; rfl) (hK : G.K = X.K := by rfl) : DF G X W ρ (.Call (.Name "list" p) [a] [] pos) (ma >>= ofO lstO) := df_t1 call_list_of (sndF_list hK) hg hm Boot.«list» ha (by decide) (by decide) ns
theorem de_all (hm : X.mg "all" = none) (ha : DO G X W ρ a ma) (hc : X.calm = true := by rfl) (hg : Gl X "all" := by rfl) (ns : NS a := by intro _ _; rfl) : DE G X W ρ (.Call (.Name "all" p) [a] [] pos) (ma >>= ofO allO) := de_b1 (cr_all hc) snd_all hg hm Boot.«all» ha (by decide) (by decide) ns
theorem de_any (hm : X.mg "any" = none) (ha : DO G X W ρ a ma) (hc : X.calm = true := by rfl) (hg : Gl X "any" := by rfl) (ns : NS a := by intro _ _; rfl) : DE G X W ρ (.Call (.Name "any" p) [a] [] pos) (ma >>= ofO anyO) := de_b1 (cr_any hc) snd_any hg hm Boot.«any» ha (by decide) (by decide) ns
theorem de_sum (hm : X.mg "sum" = none) (ha : DO G X W ρ a ma) (hc : X.calm = true := by rfl) (hg : Gl X "sum" := by rfl) (ns : NS a := by intro _ _; rfl) : DE G X W ρ (.Call (.Name "sum" p) [a] [] pos) (ma >>= ofO sumO) := de_b1 (cr_sum hc) snd_sum hg hm Boot.«sum» ha (by decide) (by decide) ns
theorem de_isi (hm : X.mg "isinstance" = none) (ha : DO G X W ρ a ma) (hb : DO G X W ρ b mb) (hg : Gl X "isinstance" := by rfl) (ns : NS a := by intro _ _; rfl) (ns2 : NS b := by intro _ _; rfl) (hK : G.K = X.K := by rfl) : DE G X W ρ (.Call (.Name "isinstance" p) [a, b] [] pos) (ma >>= fun x => mb >>= fun y => ofO2 isiO x y) := de_b2 call_isi (snd_isi hK) hg hm Boot.«isinstance» ha hb (by decide) (by decide) ns ns2
theorem de_tint (hm : X.mg "int" = none) (hg : Gl X "int" := by rfl) : DE G X W ρ (.Name "int" pos) (pure (.ty .int)) := de_ty .int hg hm Boot.«int» (by decide) (by decide)
theorem de_tstr (hm : X.mg "str" = none) (hg : Gl X "str" := by rfl) : DE G X W ρ (.Name "str" pos) (pure (.ty .str)) := de_ty .str hg hm Boot.«str» (by decide) (by decide)
theorem de_ttuple (hm : X.mg "tuple" = none) (hg : Gl X "tuple" := by rfl) : DE G X W ρ (.Name "tuple" pos) (pure (.ty .tuple)) := de_ty .tuple hg hm Boot.«tuple» (by decide) (by decide)
theorem de_tlist (hm : X.mg "list" = none) (hg : Gl X "list" := by rfl) : DE G X W ρ (.Name "list" pos) (pure (.ty .list)) := de_ty .list hg hm Boot.«list» (by decide) (by decide)
theorem de_tbool (hm : X.mg "bool" = none) (hg : Gl X "bool" := by rfl) : DE G X W ρ (.Name "bool" pos) (pure (.ty .bool)) := de_ty .bool hg hm Boot.«bool» (by decide) (by decide)
theorem de_tdict (hm : X.mg "dict" = none) (hg : Gl X "dict" := by rfl) : DE G X W ρ (.Name "dict" pos) (pure (.ty .dict)) := de_ty .dict hg hm Boot.«dict» (by decide) (by decide)

/-! ### a slot's own list becomes known -/
theorem Sls.freeze {i : Nat} {d : D} (s : Sls G σ F H ps ρ) (hi : ρ[i]? = some (.own d)) (w : Wl G F H ps c) :
    ∃ F', Ext G.F0 G.H0 G.p0 F H ps → (Ext G.F0 G.H0 G.p0 F' H ps ∧ Grow F ps F' ps ∧ Wl G F' H ps c ∧ Sls G σ F' H ps (ρ.set i (.val d))) := by
  obtain ⟨p, o, h1, h2, h3, h4, h5, h6⟩ := s.own i d hi
  refine ⟨upd F p o, fun x => ?_⟩
  have up : ∀ a u, F a = some u → (upd F p o) a = some u := fun a u e => by rw [upd_ne (ne_of_none e h2)]; exact e
  have upO : ∀ {v : V} {d : D}, DR G.K G.cl F ps v d → DR G.K G.cl (upd F p o) ps v d := fun r => r.up up fun _ _ e => e
  refine ⟨⟨fun a u e => up a u (x.f a u e), x.h, x.h', fun a e k => ?_, x.pp⟩, ⟨up, fun _ _ e => e⟩, ⟨fun a u e => ?_, w.len, w.nd, fun n r so e1 e2 => ?_⟩, ⟨by rw [List.length_set]; exact s.len, fun j e hj => ?_, fun j e hj => ?_, fun j k d1 d2 q n e1 e2 g1 g2 => ?_⟩⟩
  · by_cases z : a = p
    · subst z; exact h4
    · rw [upd_ne z] at k; exact x.new a e k
  · by_cases z : a = p
    · subst z; rw [upd_same] at e; rw [← e]; exact h5
    · rw [upd_ne z] at e; exact w.sub a u e
  · obtain ⟨g1, u, g2, g3⟩ := w.at_ n r so e1 e2
    have ne : r ≠ p := fun z => h3 (z ▸ List.mem_of_getElem? e1)
    exact ⟨by rw [upd_ne ne]; exact g1, u, g2, g3.up up fun _ _ e => e⟩
  · rcases get_set hj with ⟨z, q⟩ | ⟨z, q⟩
    · cases q; subst z
      exact ⟨.ref p, h1, OR.dr upd_same (h6.up up fun _ _ e => e)⟩
    · obtain ⟨v, g1, g2⟩ := s.val j e q
      exact ⟨v, g1, upO g2⟩
  · rcases get_set hj with ⟨z, q⟩ | ⟨z, q⟩
    · cases q
    · obtain ⟨p', o', g1, g2, g3, g4, g5, g6⟩ := s.own j e q
      have ne : p' ≠ p := fun zz => by
        subst zz
        exact s.sep j i e d p' z q hi g1 h1
      exact ⟨p', o', g1, by rw [upd_ne ne]; exact g2, g3, g4, g5, g6.up up fun _ _ e => e⟩
  · rcases get_set e1 with ⟨z, q1⟩ | ⟨z, q1⟩
    · cases q1
    · rcases get_set e2 with ⟨z2, q2⟩ | ⟨z2, q2⟩
      · cases q2
      · exact s.sep j k d1 d2 q n q1 q2 g1 g2
theorem db_freeze (i : Nat) {d : D} {sts : List Stmt} {m : M (Out S L)} (h : DB G X W toS toL (ρ.set i (.val d)) sts m) (hi : ρ[i]? = some (.own d) := by rfl) : DB G X W toS toL ρ sts m := ⟨pss_imp h.run fun E σ H ⟨F, ps, c, x, w, sl, q⟩ => by
  obtain ⟨F', k⟩ := sl.freeze hi w
  obtain ⟨x', g, w', sl'⟩ := k x
  exact ⟨F', ps, c, x', w', sl', q.later g⟩⟩

/-! ### a slot's own list changes -/
theorem Sls.chg {i : Nat} {d d' : D} {q : Addr} {o' : HO} (s : Sls G σ F H ps ρ) (w : Wl G F H ps c) (hi : ρ[i]? = some (.own d)) (hs : σ[i]? = some (some (.ref q))) (r : OR G.K G.cl F ps o' d') :
    Wl G F (upd H q o') ps c ∧ Sls G σ F (upd H q o') ps (ρ.set i (.own d')) ∧ (Ext G.F0 G.H0 G.p0 F H ps → Ext G.F0 G.H0 G.p0 F (upd H q o') ps) := by
  obtain ⟨p, o, h1, h2, h3, h4, h5, h6⟩ := s.own i d hi
  have ep : p = q := by rw [h1] at hs; cases hs; rfl
  subst ep
  refine ⟨Wld.chg w h2 h3, ⟨by rw [List.length_set]; exact s.len, fun j e hj => ?_, fun j e hj => ?_, fun j k d1 d2 q n e1 e2 g1 g2 => ?_⟩, fun x => ext_chg x h4 (by rw [h5]; simp)⟩
  · rcases get_set hj with ⟨z, q⟩ | ⟨z, q⟩
    · cases q
    · exact s.val j e q
  · rcases get_set hj with ⟨z, q⟩ | ⟨z, q⟩
    · cases q; subst z
      exact ⟨p, o', h1, h2, h3, h4, upd_same, r⟩
    · obtain ⟨p', o'', g1, g2, g3, g4, g5, g6⟩ := s.own j e q
      have ne : p' ≠ p := fun zz => by
        subst zz
        exact s.sep j i e d p' z q hi g1 h1
      exact ⟨p', o'', g1, g2, g3, g4, by rw [upd_ne ne]; exact g5, g6⟩
  · have back : ∀ {j : Nat} {e : D}, (ρ.set i (.own d'))[j]? = some (.own e) → ∃ e', ρ[j]? = some (.own e') := fun {j e} h => by
      rcases get_set h with ⟨z, q⟩ | ⟨z, q⟩
      · subst z; exact ⟨d, hi⟩
      · exact ⟨e, q⟩
    obtain ⟨f1, k1⟩ := back e1
    obtain ⟨f2, k2⟩ := back e2
    exact s.sep j k f1 f2 q n k1 k2 g1 g2
def lstOf : D → Option (List D)
  | .lst xs => some xs
  | _ => none
def appO (xs : List D) (y : D) : Option D := if xs.length.blt 16777216 then some (.lst (xs ++ [y])) else none
/-- x.append(e) -/
theorem db_append (i : Nat) {d : D} {K : D → M (Out S L)} {apos cpos px : Pos} (he : DE G X W ρ e m) (h2 : ∀ d', DB G X W toS toL (ρ.set i (.own d')) rest (K d')) (hi : ρ[i]? = some (.own d) := by rfl) (hN : X.N[i]? = some x := by rfl)
    (hv : Vis X.env.scope x := by first | exact Or.inl rfl | exact Or.inr (Or.inl rfl) | exact Or.inr (Or.inr rfl)) (hd : (x == ("__debug__" : Str)) = false := by decide) (hcd : (x == ("__classdict__" : Str)) = false := by decide)
    (ns : NS e := by intro _ _; rfl) (hbase : attributeBase (.Name x px) "append" X.env (eval (.Name x px) X.env) = eval (.Name x px) X.env := by rfl)
    (hfew : ((backTo cpos (starEach [e] X.env)).all (fun x => !x.1) && (backToKw cpos (keywordEach [] X.env)).all (fun x => x.1.isSome)
      && decide ([e].length + ([] : List Keyword).length + (if ([] : List Keyword).isEmpty then 0 else 1) < 30)) = true := by rfl)
    (hline : (apos.endLine == cpos.line) = true := by rfl) (hs : swapsWith (.Call (.Attribute (.Name x px) "append" apos) [e] [] cpos) none pos.line X.env = pure false := by rfl) :
    DB G X W toS toL ρ (.Expr (.Call (.Attribute (.Name x px) "append" apos) [e] [] cpos) pos :: rest) (M.of (lstOf d) >>= fun xs => m >>= fun y => M.of (appO xs y) >>= K) := by
  refine ⟨pss_imp (pss_cons (u := fun E σ H => ∃ d', AtS G σ H (ρ.set i (.own d')) fun F ps c => PostS G W toS toL F ps (K d' c) E) (ps_expr (pe_bm PySem.F.plainAttrs_list PySem.F.slot_list_append PySem.F.type_list_append mt_append (pe_var hN hv hd hcd) (pa1 he.run ns) hbase hfew hline (ns _ _) plain_nil) hs)
    ⟨fun pins s σ H E I ⟨d', q⟩ => (h2 d').run.run pins s σ H E I q⟩) fun E σ H ⟨F, ps, c, x, w, sl, q⟩ => ?_⟩
  obtain ⟨p, o, h1, h2, h3, h4, h5, h6⟩ := sl.own i d hi
  cases h6 with
  | dK r => exact q.elim
  | dT r => exact q.elim
  | @lst vs ds r =>
    replace q : PostS G W toS toL F ps ((m >>= fun y => M.of (appO ds y) >>= K) c) E := q
    refine ⟨.ref p, h1, .inl ⟨rfl, _, SqL.of h5⟩, F, ps, c, w, sl, postS_val x q fun d1 c1 v1 F1 H1 ps1 x1 w1 r1 q => ?_⟩
    have e1 : H1 p = some (.lst vs) := x1.h p _ h5 h3
    have r' := r.ext x1
    unfold appO at q
    by_cases hz : ds.length.blt 16777216 = true
    · rw [if_pos hz] at q
      replace q : PostS G W toS toL F1 ps1 (K (.lst (ds ++ [d1])) c1) E := q
      have hz' : vs.length < sizeLine := by rw [sizeLine_eq, r.length]; exact blt_lt hz
      obtain ⟨g1, g2, g3⟩ := (sl.ext x1).chg w1 hi h1 (.lst (r'.app (.cons r1 .nil)))
      exact ⟨p, vs, v1, rfl, rfl, e1, hz', _, F1, ps1, c1, g3 (x.trans x1), g1, g2, q⟩
    · rw [if_neg hz] at q
      exact q.elim
end
end DL
namespace DL
open PySem PySem.Spec PyProof.Rows L2

section
variable {P : Program} {w : World} {K : PySem.W.Frag} {mg : Str → Option Value} {base : Heap} {cl : String → Option Addr}
theorem fn_okD {x qual : Str} {params : Arguments} {body : List Stmt} {scope : Scope} {f : Addr} {fd : FuncData} {N ps : List Str} {k n : Nat} {g : List D → M D} (F : FunD K x qual params body scope [] [] f fd) (S : FnScope N ps scope) (hn : ps.length = n)
    (hb : ∀ (cdv : Value) (A : Around) (outer : List Env) (s : Shared) (E : XK) (F0 H0 : Hp) (p0 : List Addr) (ds : List D), ds.length = n → Room k (A.deeper (envOfC qual scope s.heap.objs.size f cdv)) →
      ∃ m : M (Out Unit Empty), g ds = (m >>= retU) ∧ DB ⟨K, cl, F0, H0, p0⟩ (cxOf (L2.CX P w) P w K mg base N qual scope f cdv A outer s H0 E) (WD E) (fun _ => List.replicate N.length .no) toE (rho ds N.length) body m) :
    FnOk P w K mg base (L2.CX P w) (k + 1) f fd ps (spD K cl n g) := by
  refine F.ok S (fun vs H Q E h => by rw [spD_len _ _ _ _ h, hn]) fun cdv A outer s H vs Q E hr ⟨F0, p0, c, ds, wl, r, l, q⟩ => ?_
  obtain ⟨m, em, D⟩ := hb cdv A outer s E F0 H p0 ds l hr
  refine ⟨_, D.run, F0, p0, c, Ext.refl, wl, sls_start r, ?_⟩
  rw [em] at q
  have e0 : (m >>= retU) c = M.bind m retU c := rfl
  rw [e0] at q
  unfold M.bind at q
  cases e : m c with
  | bad => rw [e] at q; exact q.elim
  | err y c' => rw [e] at q; exact fun cls dd _ F' H' ps' x w r => q cls dd F' H' ps' x w r
  | ok o c' =>
    rw [e] at q
    cases o with
    | nx u => exact fun σ F' H' ps' x _ w sl => q .non F' H' ps' x w .non
    | rt d => exact fun v F' H' ps' x w r => q v F' H' ps' x w r
    | bk l => exact nomatch l
    | ct l => exact nomatch l
theorem fn_okFD {x qual : Str} {params : Arguments} {body : List Stmt} {scope : Scope} {f : Addr} {fd : FuncData} {N ps : List Str} {k n : Nat} {g : List D → M D} (F : FunD K x qual params body scope [] [] f fd) (S : FnScope N ps scope) (hn : ps.length = n)
    (hb : ∀ (cdv : Value) (A : Around) (outer : List Env) (s : Shared) (E : XK) (F0 H0 : Hp) (p0 : List Addr) (ds : List D), ds.length = n → Room k (A.deeper (envOfC qual scope s.heap.objs.size f cdv)) →
      ∃ m : M D, g ds = m ∧ DBF ⟨K, cl, F0, H0, p0⟩ (cxOf (L2.CX P w) P w K mg base N qual scope f cdv A outer s H0 E) (WD E) (rho ds N.length) body m) :
    FnOk P w K mg base (L2.CX P w) (k + 1) f fd ps (spF K cl n g) := by
  refine F.ok S (fun vs H Q E h => by rw [spF_len _ _ _ _ h, hn]) fun cdv A outer s H vs Q E hr ⟨F0, p0, c, ds, wl, r, l, q⟩ => ?_
  obtain ⟨m, em, D⟩ := hb cdv A outer s E F0 H p0 ds l hr
  refine ⟨_, D.run, F0, p0, c, Ext.refl, wl, sls_start r, ?_⟩
  rw [em] at q
  show PostRF ⟨K, cl, F0, H, p0⟩ (WD E) (m c) _
  revert q
  cases m c with
  | bad => exact fun q => q
  | err y c' => exact fun q cls dd _ F' H' ps' x w r => q cls dd F' H' ps' x w r
  | ok d c' => exact fun q => q
/-- a def that may be called by name -/
structure Cal (P : Program) (w : World) (K : PySem.W.Frag) (mg : Str → Option Value) (base : Heap) (sp : Sp) (x : Str) (k : Nat) : Prop where
  ex : ∃ f fd ps0, FnOk P w K mg base (L2.CX P w) k f fd ps0 sp ∧ mg x = some (.ref f) ∧ PySem.W.keepIn K (.ref f) = true ∧ Binds K fd ps0 []
theorem Cal.alias {sp : Sp} {x y : Str} {k : Nat} (C : Cal P w K mg base sp x k) (h : mg y = mg x) : Cal P w K mg base sp y k := by
  obtain ⟨f, fd, ps0, h1, h2, h3⟩ := C.ex
  exact ⟨f, fd, ps0, h1, h.trans h2, h3⟩
theorem tk_def {N : List Str} {qual : Str} {scope : Scope} {f : Addr} {cdv : Value} {A : Around} {outer : List Env} {s : Shared} {H0 : Hp} {E : XK} : Takes (cxOf (L2.CX P w) P w K mg base N qual scope f cdv A outer s H0 E) (WD E) := takes_of rfl rfl rfl rfl
theorem po_def {N : List Str} {qual : Str} {scope : Scope} {f : Addr} {cdv : Value} {A : Around} {outer : List Env} {s : Shared} {H0 : Hp} {E : XK} :
    PassesOwn (model (cxOf (L2.CX P w) P w K mg base N qual scope f cdv A outer s H0 E).prog (cxOf (L2.CX P w) P w K mg base N qual scope f cdv A outer s H0 E).w) (cxOf (L2.CX P w) P w K mg base N qual scope f cdv A outer s H0 E).A (cxOf (L2.CX P w) P w K mg base N qual scope f cdv A outer s H0 E).env (cxOf (L2.CX P w) P w K mg base N qual scope f cdv A outer s H0 E).xe := passes_of rfl
end
theorem tk_blk {X : Cx} : Takes X W0 := fun _ _ x => by
  obtain ⟨_, _, _, _, _, _, _, _, _, _, _, _, _, _, _, _, z⟩ := x
  exact z.elim
section
variable {G : Gx} {X : Cx} {W : WX} {ρ : Rho} {k j : Nat} {x : Str} {p pos : Pos} {e1 e2 e3 e4 e5 : Expr} {m1 m2 m3 m4 m5 : M D}
theorem de_c0 {g : M D} (C : Cal X.prog X.w X.K X.mg X.base (spD G.K G.cl 0 (ap0 g)) x j) (hr : Room j X.A) (tk : Takes X W) (hg : Gl X x := by rfl) (hdb : (x == ("__debug__" : Str)) = false := by decide) : DE G X W ρ (.Call (.Name x p) [] [] pos) g := by
  obtain ⟨f, fd, ps0, h1, h2, h3, h4⟩ := C.ex
  exact de_call0 h1 hr tk hg h2 h3 h4 hdb
theorem de_c1 {g : D → M D} (C : Cal X.prog X.w X.K X.mg X.base (spD G.K G.cl 1 (ap1 g)) x j) (hr : Room j X.A) (tk : Takes X W) (a1 : DE G X W ρ e1 m1) (hg : Gl X x := by rfl) (n1 : NS e1 := by intro _ _; rfl) (hdb : (x == ("__debug__" : Str)) = false := by decide) : DE G X W ρ (.Call (.Name x p) [e1] [] pos) (m1 >>= fun a => g a) := by
  obtain ⟨f, fd, ps0, h1, h2, h3, h4⟩ := C.ex
  exact de_call1 h1 hr tk hg h2 h3 h4 a1 n1 hdb
theorem de_c2 {g : D → D → M D} (C : Cal X.prog X.w X.K X.mg X.base (spD G.K G.cl 2 (ap2 g)) x j) (hr : Room j X.A) (tk : Takes X W) (a1 : DE G X W ρ e1 m1) (a2 : DE G X W ρ e2 m2) (hg : Gl X x := by rfl) (n1 : NS e1 := by intro _ _; rfl) (n2 : NS e2 := by intro _ _; rfl) (hdb : (x == ("__debug__" : Str)) = false := by decide) : DE G X W ρ (.Call (.Name x p) [e1, e2] [] pos) (m1 >>= fun a => m2 >>= fun b => g a b) := by
  obtain ⟨f, fd, ps0, h1, h2, h3, h4⟩ := C.ex
  exact de_call2 h1 hr tk hg h2 h3 h4 a1 a2 n1 n2 hdb
theorem de_c3 {g : D → D → D → M D} (C : Cal X.prog X.w X.K X.mg X.base (spD G.K G.cl 3 (ap3 g)) x j) (hr : Room j X.A) (tk : Takes X W) (a1 : DE G X W ρ e1 m1) (a2 : DE G X W ρ e2 m2) (a3 : DE G X W ρ e3 m3) (hg : Gl X x := by rfl) (n1 : NS e1 := by intro _ _; rfl) (n2 : NS e2 := by intro _ _; rfl) (n3 : NS e3 := by intro _ _; rfl) (hdb : (x == ("__debug__" : Str)) = false := by decide) : DE G X W ρ (.Call (.Name x p) [e1, e2, e3] [] pos) (m1 >>= fun a => m2 >>= fun b => m3 >>= fun c => g a b c) := by
  obtain ⟨f, fd, ps0, h1, h2, h3, h4⟩ := C.ex
  exact de_call3 h1 hr tk hg h2 h3 h4 a1 a2 a3 n1 n2 n3 hdb
theorem de_c4 {g : D → D → D → D → M D} (C : Cal X.prog X.w X.K X.mg X.base (spD G.K G.cl 4 (ap4 g)) x j) (hr : Room j X.A) (tk : Takes X W) (a1 : DE G X W ρ e1 m1) (a2 : DE G X W ρ e2 m2) (a3 : DE G X W ρ e3 m3) (a4 : DE G X W ρ e4 m4) (hg : Gl X x := by rfl) (n1 : NS e1 := by intro _ _; rfl) (n2 : NS e2 := by intro _ _; rfl) (n3 : NS e3 := by intro _ _; rfl) (n4 : NS e4 := by intro _ _; rfl) (hdb : (x == ("__debug__" : Str)) = false := by decide) : DE G X W ρ (.Call (.Name x p) [e1, e2, e3, e4] [] pos) (m1 >>= fun a => m2 >>= fun b => m3 >>= fun c => m4 >>= fun d => g a b c d) := by
  obtain ⟨f, fd, ps0, h1, h2, h3, h4⟩ := C.ex
  exact de_call4 h1 hr tk hg h2 h3 h4 a1 a2 a3 a4 n1 n2 n3 n4 hdb
theorem de_c5 {g : D → D → D → D → D → M D} (C : Cal X.prog X.w X.K X.mg X.base (spD G.K G.cl 5 (ap5 g)) x j) (hr : Room j X.A) (tk : Takes X W) (a1 : DE G X W ρ e1 m1) (a2 : DE G X W ρ e2 m2) (a3 : DE G X W ρ e3 m3) (a4 : DE G X W ρ e4 m4) (a5 : DE G X W ρ e5 m5) (hg : Gl X x := by rfl) (n1 : NS e1 := by intro _ _; rfl) (n2 : NS e2 := by intro _ _; rfl) (n3 : NS e3 := by intro _ _; rfl) (n4 : NS e4 := by intro _ _; rfl) (n5 : NS e5 := by intro _ _; rfl) (hdb : (x == ("__debug__" : Str)) = false := by decide) : DE G X W ρ (.Call (.Name x p) [e1, e2, e3, e4, e5] [] pos) (m1 >>= fun a => m2 >>= fun b => m3 >>= fun c => m4 >>= fun d => m5 >>= fun e => g a b c d e) := by
  obtain ⟨f, fd, ps0, h1, h2, h3, h4⟩ := C.ex
  exact de_call5 h1 hr tk hg h2 h3 h4 a1 a2 a3 a4 a5 n1 n2 n3 n4 n5 hdb
theorem df_c1 {g : D → M D} (C : Cal X.prog X.w X.K X.mg X.base (spF G.K G.cl 1 (ap1 g)) x j) (hr : Room j X.A) (tk : Takes X W) (a1 : DE G X W ρ e1 m1) (hg : Gl X x := by rfl) (n1 : NS e1 := by intro _ _; rfl) (hdb : (x == ("__debug__" : Str)) = false := by decide) : DF G X W ρ (.Call (.Name x p) [e1] [] pos) (m1 >>= fun a => g a) := by
  obtain ⟨f, fd, ps0, h1, h2, h3, h4⟩ := C.ex
  exact df_call1 h1 hr tk hg h2 h3 h4 a1 n1 hdb
end
end DL
namespace DL
open PySem PySem.Spec PyProof.Rows L2

/-! ### comparisons, by name -/
def CP (G : Gx) (X : Cx) (op : CmpOp) (f : D → D → Option Bool) : Prop := ∃ r, OpR X.nox (compareOp op) r ∧ SndB G r f
section
variable {G : Gx} {X : Cx} {W : WX} {ρ : Rho} {k j : Nat} {x : Str} {p pos : Pos} {e1 e2 e3 : Expr} {m1 m2 m3 : M D} {op op' : CmpOp} {f f' : D → D → Option Bool}
theorem c_eq (hr : Room k X.A) (hK : G.K = X.K := by rfl) : CP G X .Eq eqO := ⟨_, snd_eq (X := X.nox) hK hr.units⟩
theorem c_ne (hr : Room k X.A) (hK : G.K = X.K := by rfl) : CP G X .NotEq neO := ⟨_, snd_ne (X := X.nox) hK hr.units⟩
theorem c_lt : CP G X .Lt ltO := ⟨_, snd_lt (G := G) (X := X.nox)⟩
theorem c_le : CP G X .LtE leO := ⟨_, snd_le (G := G) (X := X.nox)⟩
theorem c_gt : CP G X .Gt gtO := ⟨_, snd_gt (G := G) (X := X.nox)⟩
theorem c_ge : CP G X .GtE geO := ⟨_, snd_ge (G := G) (X := X.nox)⟩
theorem c_is : CP G X .Is isO := ⟨_, snd_is (G := G) (X := X.nox)⟩
theorem c_isn : CP G X .IsNot isNotO := ⟨_, snd_isNot (G := G) (X := X.nox)⟩
theorem un65 (hr : Room k X.A) : X.nox.A.units + 65 < cLine := by have := hr.un; show X.A.units + 65 < cLine; omega
theorem c_in (hr : Room k X.A) (hK : G.K = X.K := by rfl) : CP G X .In inO := ⟨_, snd_in (X := X.nox) hK (un65 hr)⟩
theorem c_nin (hr : Room k X.A) (hK : G.K = X.K := by rfl) : CP G X .NotIn notInO := ⟨_, snd_notIn (X := X.nox) hK (un65 hr)⟩
theorem un1 (hr : Room k X.A) : X.A.units + 1 < cLine := by have := hr.un; omega
theorem dc_c (c : CP G X op f) (h1 : DO G X W ρ e1 m1) (h2 : DO G X W ρ e2 m2) (hm : behindInMarks op e2 = false := by rfl) : DC G X W ρ (.Compare e1 [op] [e2] pos) (m1 >>= fun x => m2 >>= fun y => cmpM f x y) := by
  obtain ⟨r, ho, hr⟩ := c
  exact dc_cmp ho hr h1 h2 hm
theorem de_c (c : CP G X op f) (h1 : DO G X W ρ e1 m1) (h2 : DO G X W ρ e2 m2) (hm : behindInMarks op e2 = false := by rfl) : DE G X W ρ (.Compare e1 [op] [e2] pos) (valM (m1 >>= fun x => m2 >>= fun y => cmpM f x y)) := by
  obtain ⟨r, ho, hr⟩ := c
  exact de_cmp ho hr h1 h2 hm
theorem dc_ch (c : CP G X op f) (c' : CP G X op' f') (h1 : DO G X W ρ e1 m1) (h2 : DO G X W ρ e2 m2) (h3 : DO G X W ρ e3 m3) (hm : lastMarks [op, op'] [e2, e3] = false := by with_unfolding_all rfl) :
    DC G X W ρ (.Compare e1 [op, op'] [e2, e3] pos) (m1 >>= fun x => m2 >>= fun y => cmpM f x y >>= fun t => cond t (m3 >>= fun z => cmpM f' y z) (pure false)) := by
  obtain ⟨r, ho, hr⟩ := c
  obtain ⟨r', ho', hr'⟩ := c'
  exact dc_chain ho hr ho' hr' h1 h2 h3 hm
theorem de_ch (c : CP G X op f) (c' : CP G X op' f') (h1 : DO G X W ρ e1 m1) (h2 : DO G X W ρ e2 m2) (h3 : DO G X W ρ e3 m3) (hm : lastMarks [op, op'] [e2, e3] = false := by with_unfolding_all rfl) :
    DE G X W ρ (.Compare e1 [op, op'] [e2, e3] pos) (valM (m1 >>= fun x => m2 >>= fun y => cmpM f x y >>= fun t => cond t (m3 >>= fun z => cmpM f' y z) (pure false))) := by
  obtain ⟨r, ho, hr⟩ := c
  obtain ⟨r', ho', hr'⟩ := c'
  exact de_chain ho hr ho' hr' h1 h2 h3 hm
theorem de_cint (C : ∃ t, X.mg x = some (.int i t)) (hg : Gl X x := by rfl) (hdb : (x == ("__debug__" : Str)) = false := by decide) : DE G X W ρ (.Name x pos) (pure (.int i)) := by
  obtain ⟨t, h⟩ := C
  exact de_glob (v := .int i) hg h ⟨t, rfl⟩ (fun _ _ => .int i) hdb
theorem de_cstr {z : Str} {cs : List Nat} (C : ∃ t, X.mg x = some (.str z t)) (hz : z.cps.toList = cs := by rfl) (hg : Gl X x := by rfl) (hdb : (x == ("__debug__" : Str)) = false := by decide) : DE G X W ρ (.Name x pos) (pure (.str cs)) := by
  obtain ⟨t, h⟩ := C
  exact de_glob (v := .str z) hg h ⟨t, rfl⟩ (fun _ _ => hz ▸ dr_str) hdb
end
/-! ### what the head tells -/
def Gb (fa : List He.Fa) (fn : List He.DefD) (K : PySem.W.Frag) (mg : Str → Option Value) : Prop := ∃ h : Heap, K.In h ∧ h.Ns mainGlobals mg ∧ He.SaysD fa fn K
section
variable {fa : List He.Fa} {fn : List He.DefD} {K : PySem.W.Frag} {mg : Str → Option Value}
theorem Gb.free (B : Gb fa fn K mg) (i : Nat) {x : Str} (h : fa[i]? = some (.free x) := by rfl) : mg x = none := by
  obtain ⟨hp, X, N, c⟩ := B
  exact He.free_ok X N (c.fact i h)
theorem Gb.int (B : Gb fa fn K mg) (i : Nat) {x : Str} {n : Int} (h : fa[i]? = some (.int x n) := by rfl) : ∃ t, mg x = some (.int n t) := by
  obtain ⟨hp, X, N, c⟩ := B
  exact He.int_ok X N (c.fact i h)
theorem Gb.str (B : Gb fa fn K mg) (i : Nat) {x z : Str} (h : fa[i]? = some (.str x z) := by rfl) : ∃ t, mg x = some (.str z t) := by
  obtain ⟨hp, X, N, c⟩ := B
  exact He.str_ok X N (c.fact i h)
theorem Gb.glo (B : Gb fa fn K mg) (i : Nat) {x : Str} (h : fa[i]? = some (.glo x) := by rfl) : mg x = some (.ref (He.ga K x)) := by
  obtain ⟨hp, X, N, c⟩ := B
  exact He.glo_ok X N (c.fact i h)
theorem Gb.def_ (B : Gb fa fn K mg) (i : Nat) {d : He.DefD} (h : fn[i]? = some d := by rfl) : ∃ fd, FunD K d.name d.qual d.params d.body d.scope (d.dvs K) (d.kws K) (He.fAd K d.at_) fd := by
  obtain ⟨hp, X, N, c⟩ := B
  exact c.def_ i h
variable {P : Program} {w : World} {base : Heap} {x q : Str} {st : Stmt} {f : Addr} {fd : FuncData}
theorem cal_of {sp : Sp} {ps : List Str} {k : Nat} (F : FunD K q q (defArgs st) (defBody st) (defScope st) [] [] f fd) (hg : mg x = some (.ref f)) (h : FnOk P w K mg base (L2.CX P w) k f fd ps sp)
    (hb : ∀ (kV doc pm : Value) (an : Option Addr) (cdv ct : Value) (us : List Value), us.length = ps.length → bindArgs (PySem.W.fnOf q q (defArgs st) (defBody st) (defScope st) .none kV doc pm an cdv ct) ⟨us, []⟩ = pure (ps.zip us)) :
    Cal P w K mg base sp x k := ⟨f, fd, ps, h, hg, F.kp, F.bindsN hb⟩
end
theorem sub_all : ∀ (ρ : Rho) {n : Nat}, ρ.length = n → Sub ρ (List.replicate n .no)
  | [], _, h => by subst h; exact .nil
  | s :: r, _, h => by subst h; exact .drop (sub_all r rfl)
end DL
namespace DL
open PySem PySem.Spec PyProof.Rows L2

/-! ### an own exception whose making calls the base's by super() and stores one field -/
def sTwo (self x : Str) : Scope := { kind := .function, names := [(self, .local), (x, .local)], isGenerator := false, isCoroutine := false, more := [] }
def spI (C : Addr) (f : Str) : Sp := fun vs H Q _ => ∃ (a : Addr) (v : V), vs = [.ref a, v] ∧ H a = some (exo a C none) ∧ ∀ dx, H dx = none → dx ≠ a → Q .non (upd (upd H dx (exd dx [(f, v)])) a (exo a C (some dx)))
/-- the tree's own turns, by rfl at a written text -/
structure BodyOk (env : Env) (slf xn fld : Str) (p0 p1 pa px pc pe ps pf px2 pas : Pos) : Prop where
  it : interactive env = false
  ev : ∃ pl, eval (.Call (.Attribute (.Call (.Name "super" p0) [] [] p1) "__init__" pa) [.Name xn px] [] pc) env = (do
      let ov ← attributeBase (.Call (.Name "super" p0) [] [] p1) "__init__" env (eval (.Call (.Name "super" p0) [] [] p1) env)
      standAt pa.atName
      let (f, first) ← holding [ov] (getMethod ov "__init__" pl)
      callWith pc f first (backTo pc (starEach [.Name xn px] env)) [])
  s1 : swapsWith (.Call (.Attribute (.Call (.Name "super" p0) [] [] p1) "__init__" pa) [.Name xn px] [] pc) none pe.line env = pure false
  s2 : swapsWith (.Name xn px2) (some (.Attribute (.Name slf ps) fld pf)) pas.line env = pure false
/-- what the written part says of such a class's def -/
structure SupI (P : Program) (K : PySem.W.Frag) (C : Addr) (slf xn fld : Str) (fI : Addr) (name qual : Str) (params : Arguments) (scope : Scope) (dV kV doc pm ct oc : Value) (an od : Option Addr) (osl : Array (Option Value)) (cc cda : Addr) (body : List Stmt) : Prop where
  lk : K.lookup fI = some ⟨oc, od, .func (PySem.W.ksFn name qual params body scope dV kV doc pm an (.ref cda) ct cc), osl⟩
  hcd : PySem.W.codeIn K (.ref cda) qual = true
  code : ∃ (ccl : Value) (cdd : Option Addr) (vs : Array Value) (ccs : Array (Option Value)) (file : Str) (tf : Tok), K.lookup cda = some ⟨ccl, cdd, .fields vs, ccs⟩ ∧ vs[2]? = some (.str file tf) ∧ ((P.main.file : Str) == file) = true
  cell : ∃ (cl : Value) (cld : Option Addr) (csl : Array (Option Value)), K.lookup cc = some ⟨cl, cld, .cell (some (.ref C)), csl⟩
  par : ∃ ar : Arg, (params.posonlyargs ++ params.args).head? = some ar ∧ ar.arg = slf
  body : ∃ p0 p1 pa px pc pe ps pf px2 pas, body = [.Expr (.Call (.Attribute (.Call (.Name "super" p0) [] [] p1) "__init__" pa) [.Name xn px] [] pc) pe, .Assign [.Attribute (.Name slf ps) fld pf] (.Name xn px2) pas] ∧ ∀ L, BodyOk (PySem.W.ksEnv qual scope L fI (.ref cda) cc) slf xn fld p0 p1 pa px pc pe ps pf px2 pas
  fsup : scope.names.lookup ("super" : Str) = some .globalImplicit
  cls : scope.names.lookup ("__class__" : Str) = some .free
  lself : scope.names.lookup slf = some .local
  lx : scope.names.lookup xn = some .local
  nocell : ∀ y ∈ scope.names, y.2 ≠ .cell
  kind : scope.kind = .function
  co : scope.isCoroutine = false
  gen : scope.isGenerator = false
  ne : slf ≠ xn
  nd1 : (slf == ("__debug__" : Str)) = false
  nd2 : (xn == ("__debug__" : Str)) = false
  T : OexC K C
  fno : PySem.W.findIn K (.ref C) fld = some none
  along : PySem.W.ks_superIn K C C "__init__" = some (some (.builtin "ValueError.__init__"))
  sub : PySem.W.subIn K (.ref C) (.type "ValueError") = some true
  mro : PySem.W.mroIn K C (.ref C) = some true
  op : PySem.W.nsIn K cStatics "thirdparty.any" = some none
  top : (P.main.scope.names.lookup ("super" : Str)).isSome = false
section
variable {P : Program} {w : World} {K : PySem.W.Frag} {mg : Str → Option Value} {base : Heap} {CX : CXT} {C : Addr} {slf xn fld : Str} {fI : Addr} {name qual : Str} {params : Arguments} {scope : Scope} {dV kV doc pm ct oc : Value} {an od : Option Addr} {osl : Array (Option Value)} {cc cda : Addr} {body : List Stmt}
/-- the bound built-in called: as the built-in with the object ahead -/
theorem call_mw {A : Around} {E : Value → Shared → Prop} {h : Heap} {g : Array GenState} {d : Drawn} {t : Nat} {os : OsState} {u e t0 C N : Addr} {nm q : Str} {bs bm : List Value} {hdct : Bool} {sn : List Str} {sub : List Value} {ab : Bool} {col : Option Bool} {dd : Option Addr} {k0 k1 k2 k3 k5 : Option Value} {rest : List Value} {Q : Value → Shared → Prop}
    (hC : h.get? C = some (excClassObj nm q C N bs bm hdct sn sub ab col dd k0 k1 k2 k3 k5 "ValueError.__new__")) (he : h.get? e = some (HandSPX.excO C t0)) (hu : h.get? u = some (PySem.W.kxs_mw "ValueError.__init__" e)) (hrest : rest.length ≤ sizeLine)
    (hq : ∀ h' t1, (∀ b o, b ≠ e → h.get? b = some o → h'.get? b = some o) → h'.get? e = some (HandSPX.excO C t1) → Q .none ⟨h', g, d, t, os⟩) :
    wpAny (model P w) A (call (.ref u) rest) Q E ⟨h, g, d, t, os⟩ := by
  have FB := F.excBase_ValueError
  refine wpAny_call (codeAny_of_tree ?_)
  show wpAny _ A.in1 (callAny (.ref u) ⟨rest, []⟩) _ _ _
  simp only [callAny]
  refine wpAny_bind (wpAny_load hu ?_)
  simp only [PySem.W.kxs_mw, show (Value.type "method-wrapper" == Value.type "method" || Value.type "method-wrapper" == Value.type "builtin_function_or_method" || Value.type "method-wrapper" == Value.type "method-wrapper") = true by decide, if_true]
  refine PySem.W.KFB.if_so (by decide) ?_
  refine wpAny_bind (PySem.W.check_bound_init FB.toExcCallFacts hC he rfl ?_)
  refine wpAny_bind (wpAny_pure (wpAny_pure ?_))
  refine ⟨PySem.plainId_quiet FB.init.plain _, codeAny_builtin FB.initEntry ?_⟩
  exact PySem.W.exc_init_tree (cls := .ref C) (t0 := t0) (dv := none) (c2 := .none) (c3 := .none) (b4 := .bool false) he hrest fun h' k e' _ => hq h' _ k e'
/-- the making keeps its promise -/
theorem init_ok {k : Nat} (S : SupI P K C slf xn fld fI name qual params scope dV kV doc pm ct oc an od osl cc cda body) (hms : mg "super" = none) :
    FnOk P w K mg base CX (k + 1) fI (PySem.W.ksFn name qual params body scope dV kV doc pm an (.ref cda) ct cc) [slf, xn] (spI C fld) := by
  refine ⟨fun vs H Q E ⟨a, v, e, _⟩ => by rw [e]; rfl, fun A outer s H args us vs Q E hr e0 hb r hsp => ?_⟩
  obtain ⟨a, v, rfl, ha, q⟩ := hsp
  obtain ⟨u0, u, rfl, ra, ru⟩ := vals2 r
  obtain rfl : u0 = Value.ref a := ra
  have KX : K.In s.heap := e0.mod.kin.keeps fun b o e => (e0.bs b o e).1
  have lim : s.heap.NoLimit := e0.mod.nolimit.keeps fun b o e => (e0.bs b o e).1
  obtain ⟨ccl, cdd, vs, ccs, file, tf, lcode, hvs, hfile⟩ := S.code
  obtain ⟨cl, cld, csl, lcell⟩ := S.cell
  obtain ⟨ar, hpar, har⟩ := S.par
  obtain ⟨p0, p1, pa, px, pc, pe, ps, pf, px2, pas, hbody, hbo⟩ := S.body
  obtain ⟨hit, ⟨pl, hev⟩, hs1, hs2⟩ := hbo s.heap.objs.size
  refine PySem.ks_codeAny_call_defAt (fd := PySem.W.ksFn name qual params body scope dV kV doc pm an (.ref cda) ct cc) (body := body) (binds := [slf, xn].zip [.ref a, u]) hr.depth (KX _ _ S.lk) rfl lim (PySem.W.codeRec_of KX S.hcd) rfl hb S.nocell (fun y hy => ?_) (fun h₀ hns hk => ?_) S.co S.gen S.kind
  · have hy' : y = (slf, .ref a) ∨ y = (xn, u) := by simpa using hy
    rcases hy' with z | z
    · rw [z]; exact S.lself
    · rw [z]; exact S.lx
  have e2 : (xn == slf) = false := beq_eq_false_iff_ne.mpr S.ne.symm
  have e3 : (slf == xn) = false := beq_eq_false_iff_ne.mpr S.ne
  have sc : FnScope [slf, xn] [slf, xn] (sTwo slf xn) := ⟨rfl, rfl, rfl, by simp [S.ne], rfl, fun y hy => by
    have hy' : y = slf ∨ y = xn := by simpa using hy
    rcases hy' with z | z
    · rw [z]; exact .inl (by simp [sTwo])
    · rw [z]; exact .inl (by simp [sTwo, List.lookup_cons, e2]), fun y hy => by
    have hy' : y = (slf, .local) ∨ y = (xn, .local) := by simpa [sTwo] using hy
    rcases hy' with z | z <;> rw [z] <;> simp⟩
  have x0 : InCallC s s.heap.objs.size (bindL (envOfC qual (sTwo slf xn) s.heap.objs.size fI (.ref cda)).kindOf ([slf, xn].zip [.ref a, u]) fun _ => none) (cellsFrom (s.heap.objs.size + 1) (sTwo slf xn).names []) (bindC (envOfC qual (sTwo slf xn) s.heap.objs.size fI (.ref cda)).kindOf ([slf, xn].zip [.ref a, u]) fun _ => none)
      { s with heap := h₀, toks := s.toks + ([slf, xn].zip [Value.ref a, u]).length } := by
    refine ⟨⟨⟨h₀, _, rfl⟩, ?_, hk, Nat.le_refl _⟩, (fun n c h => nomatch h), .nil, (fun n c h => nomatch h)⟩
    have em : bindL (envOfC qual (sTwo slf xn) s.heap.objs.size fI (.ref cda)).kindOf ([slf, xn].zip [.ref a, u]) (fun _ => none) = fun y => ([slf, xn].zip [Value.ref a, u]).reverse.lookup y := by
      have k1 : (envOfC qual (sTwo slf xn) s.heap.objs.size fI (.ref cda)).kindOf slf = some .local := sc.par slf (by simp) |>.resolve_right (by simp [sTwo])
      have k2 : (envOfC qual (sTwo slf xn) s.heap.objs.size fI (.ref cda)).kindOf xn = some .local := sc.par xn (by simp) |>.resolve_right (by simp [sTwo, List.lookup_cons, e2])
      funext y
      show bindL _ [(slf, .ref a), (xn, u)] _ y = [(xn, u), (slf, .ref a)].lookup y
      unfold bindL bindL bindL
      rw [if_pos k1, if_pos k2]
      show (if y = xn then some u else if y = slf then some (Value.ref a) else none) = _
      by_cases h1 : y = xn
      · rw [if_pos h1, h1]; simp
      · rw [if_neg h1]
        by_cases h2 : y = slf
        · rw [if_pos h2, h2]; simp [List.lookup_cons, e3]
        · rw [if_neg h2]; simp [List.lookup_cons, beq_eq_false_iff_ne.mpr h1, beq_eq_false_iff_ne.mpr h2]
    rw [em]
    exact hns
  have I : Inv (cxOf CX P w K mg base [slf, xn] qual (sTwo slf xn) fI (.ref cda) A outer s H E) [] (L2.start [slf, xn] [.ref a, v]) H { s with heap := h₀, toks := s.toks + ([slf, xn].zip [Value.ref a, u]).length } := inv_start sc hr.hd e0 rfl r x0
  have kx : Vis (envOfC qual (sTwo slf xn) s.heap.objs.size fI (.ref cda)).scope xn := .inl (show (sTwo slf xn).names.lookup xn = some .local from by simp [sTwo, List.lookup_cons, e2])
  have ks : Vis (envOfC qual (sTwo slf xn) s.heap.objs.size fI (.ref cda)).scope slf := .inl (show (sTwo slf xn).names.lookup slf = some .local from by simp [sTwo])
  -- the locals, read in any later state
  have loc : ∀ {s1 : Shared} {H1 : Hp}, Inv (cxOf CX P w K mg base [slf, xn] qual (sTwo slf xn) fI (.ref cda) A outer s H E) [] (L2.start [slf, xn] [.ref a, v]) H1 s1 → ∃ m, s1.heap.Ns s.heap.objs.size m ∧ m slf = some (.ref a) ∧ ∃ u', L2.RelV v u' ∧ m xn = some u' := fun {s1 H1} J => by
    obtain ⟨m, hn, hl⟩ := J.loc
    obtain ⟨u1, r1, l1⟩ := hl 0 slf (.ref a) rfl rfl ks
    obtain ⟨u2, r2, l2⟩ := hl 1 xn v rfl rfl kx
    obtain rfl : u1 = Value.ref a := r1
    have nocl : ∀ {y : Str} {c : Addr}, (envOfC qual (sTwo slf xn) s.heap.objs.size fI (.ref cda)).cells.lookup y = some c → False := fun h => nomatch h
    refine ⟨m, hn, ?_, u2, r2, ?_⟩
    · rcases l1 with ⟨_, l⟩ | ⟨_, c, e, _⟩
      · exact l
      · exact (nocl e).elim
    · rcases l2 with ⟨_, l⟩ | ⟨_, c, e, _⟩
      · exact l
      · exact (nocl e).elim
  obtain ⟨nm, cq, N, bs, bm, sn, sub, ab, col, dd, k0, k1, k2, k3, k5, hC, hbm⟩ := S.T.cls
  have hcd : PySem.W.clsIn K C = some { name := nm, bases := bs, mro := .ref C :: bm, ns := N, qualname := cq, hasDict := true, slotNames := sn, subclasses := sub, abstract := ab, collection := col, hasDel := false } := by unfold PySem.W.clsIn; rw [hC] <;> rfl
  show PySem.wpAt (model P w) (A.deeper (PySem.W.ksEnv qual scope s.heap.objs.size fI (.ref cda) cc)) (.func body (PySem.W.ksEnv qual scope s.heap.objs.size fI (.ref cda) cc)) (execs body (PySem.W.ksEnv qual scope s.heap.objs.size fI (.ref cda) cc)) _ _ _
  have KI : K.In h₀ := I.kIn
  rw [hbody]
  refine PySem.ks_wpAt_execs_cons (PySem.ks_wpAt_Expr_any (PySem.ks_wpAt_MethodCall (pl := pl) ?_ hev) hit hs1)
  obtain ⟨m, hnm, hmx, u', ru', hmu⟩ := loc I
  refine PySem.ks_wpAt_super_base (of := ⟨oc, od, .func (PySem.W.ksFn name qual params body scope dV kV doc pm an (.ref cda) ct cc), osl⟩) (fd := PySem.W.ksFn name qual params body scope dV kV doc pm an (.ref cda) ct cc) S.fsup S.cls (by decide) rfl (KI _ _ S.lk) rfl hpar rfl (KI _ _ lcode) rfl hvs hfile S.top ?_
  obtain ⟨mb, b1, b2⟩ := e0.mod.blt
  refine PySem.W.ks_loadName_global S.kind S.fsup (Calls.loadGlobal_builtin (env := PySem.W.ksEnv qual scope s.heap.objs.size fI (.ref cda) cc) (mg := mg) (e0.mod.glob.keeps I.bk) hms (b1.keeps I.bk) ((b2 _ (by decide)).trans Boot.«super») ⟨rfl, ?_⟩)
  refine wpAny_loadName_free S.kind S.cls (c := cc) rfl ⟨_, KI _ _ lcell, rfl⟩ ?_
  rw [har]
  refine wpAny_loadName_local S.kind S.lself hnm hmx ?_
  refine ks_wpAny_isType_cls (KI _ _ hC) rfl ⟨rfl, ?_⟩
  obtain ⟨t1, hexc⟩ := exo_at I.hok ha
  refine ks_wpAny_call_super (KI _ _ hC) rfl hexc rfl (fun c e => nomatch e) (PySem.W.looks_mroIn KI S.mro) (fun h1 e1 k1 => ?_)
  have I1 := I.kept (t' := s.toks + ([slf, xn].zip [Value.ref a, u]).length) k1
  have KI1 : K.In h1 := I1.kIn
  have hexc1 := k1 _ _ hexc
  have hI1 : PySem.W.Looks (model P w) h1 (isInstance (.ref a) (.type "ValueError")) true := (PySem.W.InstAt.type (C := C) (od := none) ⟨hexc1, rfl, rfl, trivial⟩).andThen (PySem.W.looks_subIn KI1 S.sub)
  have hal : PySem.W.alongIn K "__init__" (((.ref C :: bm : List Value).dropWhile (· != .ref C)).drop 1) = some (some (.builtin "ValueError.__init__")) := by
    have z := S.along
    unfold PySem.W.ks_superIn at z
    rw [hcd] at z
    exact z
  refine PySem.W.kxs_getMethod PySem.W.kxs_ValueError e1 (PySem.W.looks_opaque KI1 S.op) (l₀ := .ref C :: bm) ((PySem.W.looks_clsIn KI1 hcd).andThen .now) rfl KI1 hal hI1 (fun z => ?_) rfl ?_
  · rw [z] at hexc1
    have z2 := (KI1 _ _ hC).symm.trans hexc1
    cases z2
  have k2 : ∀ b o, h1.get? b = some o → (h1.push (PySem.W.kxs_mw "ValueError.__init__" a)).get? b = some o := fun b o e => Heap.get?_push_of_some _ e
  have I2 := I1.kept (t' := s.toks + ([slf, xn].zip [Value.ref a, u]).length + 1) k2
  obtain ⟨m2, hnm2, hmx2, u2, ru2, hmu2⟩ := loc I2
  have hmw : (h1.push (PySem.W.kxs_mw "ValueError.__init__" a)).get? h1.objs.size = some (PySem.W.kxs_mw "ValueError.__init__" a) := Heap.get?_push_size _ rfl
  show wpAny (model P w) _ (callWith pc (.ref h1.objs.size) [] ((false, eval (.Name xn px) (PySem.W.ksEnv qual scope s.heap.objs.size fI (.ref cda) cc)) :: []) []) _ _ _
  refine PySem.W.kxs_callWith (i := "ValueError.__init__") (x := a) rfl (Calls.evalArgs_plain ?_)
  refine Calls.spliced_cons (PySem.ESX.ldL hnm2 hmu2 (Calls.spliced_nil ⟨hmw, ?_⟩) S.kind S.lx S.nd2)
  refine call_mw (I2.kIn _ _ hC) (k2 _ _ hexc1) hmw (by show 1 ≤ sizeLine; rw [sizeLine_eq]; omega) (fun h3 t3 k3 x3 => ?_)
  have I3 := I2.write (t' := s.toks + ([slf, xn].zip [Value.ref a, u]).length + 1) (x := a) (e := a) (o := exo a C none) (by rw [ha]; exact True.intro) (.inl rfl) k3 ⟨_, x3⟩ (exo_ok x3)
  have eu : upd H a (exo a C none) = H := by
    funext b
    by_cases hb : b = a
    · rw [hb, upd_same, ha]
    · rw [upd_ne hb]
  rw [eu] at I3
  obtain ⟨m3, hnm3, hmx3, u3, ru3, hmu3⟩ := loc I3
  refine PySem.ks_wpAt_execs_cons (PySem.ks_wpAt_Assign_Attr (PySem.wpAt_of_wpAny (PySem.ESX.ldL hnm3 hmu3 (PySem.ESX.ldL hnm3 hmx3 ?_ S.kind S.lself S.nd1) S.kind S.lx S.nd2)) hs2)
  refine ost_new S.T I3 ha S.fno ru3 fun dx s' nd ne J => ?_
  have fin : CE outer P w H s Q .none s' := ⟨.non, _, J.os, J.bare, J.base, J.hok, rfl, q dx nd ne⟩
  show PySem.wpAt _ _ _ (execs [] _) _ _ _
  rw [execs_nil]
  exact PySem.wpAt_of_wpAny (wpAny_pure fin)
end
end DL
namespace DL
open PySem PySem.Spec PyProof.Rows L2

section
variable {G : Gx} {X : Cx} {W : WX} {ρ : Rho} {a b e : Expr} {ma mb m : M D} {p pos : Pos} {x : Str} {σ : L2.St} {F H : Hp} {ps : List Addr} {c : Sto} {v : V} {te : TE}
/-- C(e), C's own making keeping spI, as a value -/
theorem pe_excI {CX : CXT} {C fI : Addr} {k : Nat} {fd : FuncData} {slf xn fld : Str} (T : OexC X.K C) (iC : PySem.W.findIn X.K (.ref C) "__init__" = some (some (.ref fI))) (tI : PySem.W.typeIn X.K (.ref fI) = some (.type "function"))
    (F1 : FnOk X.prog X.w X.K X.mg X.base CX k fI fd [slf, xn] (spI C fld)) (hr : Room (k + 1) X.A) (hb : Binds X.K fd [slf, xn] []) (hx : Passes CX X E0) (hg : Gl X x) (hm : X.mg x = some (.ref C)) (ha : PE X e te)
    (hdb : (x == ("__debug__" : Str)) = false := by decide) (he : starEach [e] X.env = (false, eval e X.env) :: starEach [] X.env := by rfl) :
    PE X (.Call (.Name x p) [e] [] pos) (fun σ H Q => te σ H fun v H1 => ∀ a dx, H1 a = none → H1 dx = none → dx ≠ a → Q (.ref a) (upd (upd H1 dx (exd dx [(fld, v)])) a (exo a C (some dx)))) := by
  refine ⟨fun pins s σ H Q I h => ?_⟩
  obtain ⟨nm, q, N, bs, bm, sn, sub, ab, col, dd, k0, k1, k2, k3, k5, hC, hbm⟩ := T.cls
  refine wpAny_Call_Name_kw (ld_glob I hg hm ?_ hdb)
  refine PySem.W.callWith_K (h₀ := X.base) I.ok.mod.kin T.kC ?_ he rfl
  rw [he]
  show wpAny _ _ (spliced ((false, eval e X.env) :: backTo pos (starEach [] X.env))) _ _ s
  refine Calls.spliced_cons (thn (ha.run pins s σ H _ I h) fun u s1 ⟨v, H1, I1, r1, q1⟩ => Calls.spliced_nil ⟨I1.kIn, ?_⟩)
  show wpAny _ _ (call (.ref C) [u]) _ _ _
  obtain ⟨hp, g, dr, tk, os⟩ := s1
  have hn : H1 (hp.objs.size + 1) = none := I1.hok.fresh (Nat.le_succ _)
  have up : ∀ b o, hp.get? b = some o → ((hp.push (PySem.W.kdv_tup [u])).push (PySem.HandSPX.excO C hp.objs.size)).get? b = some o := fun b o z => Heap.get?_push_of_some _ (Heap.get?_push_of_some _ z)
  have at_ : ((hp.push (PySem.W.kdv_tup [u])).push (PySem.HandSPX.excO C hp.objs.size)).get? (hp.objs.size + 1) = some (PySem.HandSPX.excO C hp.objs.size) := by heap_get
  have I2 := I1.laid (t' := tk) (a := hp.objs.size + 1) (o := exo (hp.objs.size + 1) C none) up (Nat.le_succ _) (exo_ok at_)
  have sp : spI C fld [.ref (hp.objs.size + 1), v] (upd H1 (hp.objs.size + 1) (exo (hp.objs.size + 1) C none)) (fun w H2 => w = .non ∧ ∃ dx, H1 dx = none ∧ dx ≠ hp.objs.size + 1 ∧ H2 = upd (upd H1 dx (exd dx [(fld, v)])) (hp.objs.size + 1) (exo (hp.objs.size + 1) C (some dx))) (fun _ _ _ => False) := by
    refine ⟨_, v, rfl, upd_same, fun dx nd ne => ⟨rfl, dx, by rw [upd_ne ne] at nd; exact nd, ne, ?_⟩⟩
    funext z
    by_cases z1 : z = hp.objs.size + 1
    · rw [z1, upd_same, upd_same]
    · rw [upd_ne z1, upd_ne z1]
      by_cases z2 : z = dx
      · rw [z2, upd_same, upd_same]
      · rw [upd_ne z2, upd_ne z2, upd_ne z1]
  have bd := hb _ [Value.ref (hp.objs.size + 1), u] I2.kIn rfl
  rw [List.append_nil] at bd
  refine wpAny_call (PySem.HandSPX.call_own PySem.F.excBase_ValueError (fun Y => PySem.HandSPX.refsVE_contains Y bm hbm) (I1.kIn _ _ hC) (PySem.W.looks_findIn I1.kIn iC) (fun self => PySem.W.bind_fn I1.kIn self tI) (by show 1 ≤ sizeLine; rw [sizeLine_eq]; omega)
    (codeAny_mono (F1.run _ X.stack _ _ ⟨[.ref (hp.objs.size + 1), u], []⟩ _ _ _ _ (hr.make C [u] []) (I2.env0.make C [u] []) bd (show Vals [V.ref (hp.objs.size + 1), v] [Value.ref (hp.objs.size + 1), u] from .cons rfl (.cons r1 .nil)) sp) fun r s' hq => ?_))
  cases r with
  | error er => exact hx pins σ _ _ er s' I2 hq
  | ok fl =>
    cases fl with
    | ret z =>
      obtain ⟨w, H2, os2, bare2, un2, hok2, rv, ew, dx, nd, ne, rfl⟩ := hq
      subst ew
      refine ⟨rv, .ref (hp.objs.size + 1), _, I2.call' (ch := []) os2 un2 hok2 bare2 (fun b z => absurd z (by simp)), rfl, q1 _ dx hn nd ne⟩
    | next => exact False.elim hq
    | brk => exact False.elim hq
    | cont => exact False.elim hq
/-- how an exception's class answers -/
structure ExK (K : PySem.W.Frag) (cl : String → Option Addr) (isE : String → String → Option Bool) (n : String) : Prop where
  ex : ∃ C, cl n = some C ∧ (PySem.W.clsIn K C).isSome = true ∧ XfC K C ∧ PySem.W.findIn K (.ref C) "__class__" = some (some (.builtin "object.__class__")) ∧
    PySem.W.specialIn K (.builtin "object.__class__") "__get__" = some (some (.builtin "getset_descriptor.__get__")) ∧ PySem.W.takesIn K (.builtin "object.__class__") = some true ∧ PySem.W.mroIn K C (.type "object") = some true ∧
    (∀ b, isE n "ValueError" = some b → PySem.W.kitOne K (.ref C) (.type "ValueError") = some b) ∧ ∀ c b, c ≠ "ValueError" → isE n c = some b → ∃ C', cl c = some C' ∧ PySem.W.kitOne K (.ref C) (.ref C') = some b
def isEO (isE : String → String → Option Bool) : D → D → Option D
  | .exc n _, .cls c => if c == "ValueError" then none else (isE n c).map .bool
  | .exc n _, .ty .verr => (isE n "ValueError").map .bool
  | _, _ => none
def rIsX (K : PySem.W.Frag) : R2 := fun x y H Q => ∃ (a C : Addr) (cv : Value) (dd : Option Addr) (b : Bool), x = .ref a ∧ (∀ u, RelV y u → u = cv) ∧ PySem.W.kitOne K (.ref C) cv = some b ∧ Q (.bl b) H ∧
  ((PySem.W.clsIn K C).isSome = true ∧ XfC K C ∧ PySem.W.findIn K (.ref C) "__class__" = some (some (.builtin "object.__class__")) ∧
    PySem.W.specialIn K (.builtin "object.__class__") "__get__" = some (some (.builtin "getset_descriptor.__get__")) ∧ PySem.W.takesIn K (.builtin "object.__class__") = some true ∧ PySem.W.mroIn K C (.type "object") = some true) ∧
  (H a = some (ExO (.ref C) a) ∨ ∃ d fs, H a = some (exo a C (some d)) ∧ H d = some (exd d fs))
theorem inst_exc {pins : List (Addr × Obj)} {s : Shared} {C : Addr} {r : Addr} (I : Inv X pins σ H s) (h : H r = some (ExO (.ref C) r) ∨ ∃ d fs, H r = some (exo r C (some d)) ∧ H d = some (exd d fs)) : ∃ ox od, PySem.W.InstAt s.heap r ox C od := by
  rcases h with h | ⟨d, fs, h, hd⟩
  · obtain ⟨⟨oe, vs, ho, hz, hv, _⟩, _, _⟩ := I.hok r _ h
    obtain ⟨oc, od, oda, osl⟩ := oe
    obtain ⟨z1, z2⟩ := hz
    simp only at z1 z2 hv
    subst z1 z2 hv
    exact ⟨_, none, ho, rfl, rfl, trivial⟩
  · obtain ⟨t1, ho⟩ := exo_at I.hok h
    obtain ⟨mA, hns, _⟩ := exd_at I.hok hd
    obtain ⟨o, hod, _⟩ := lookIn_ns hns
    exact ⟨_, some o, ho, rfl, rfl, hod⟩
theorem call_isX : CallR X (.builtin "isinstance") (fun xs H Q => ∃ x y, xs = [x, y] ∧ rIsX X.K x y H Q) := by
  intro pins s σ H xs us Q I r h
  obtain ⟨x, y, rfl, a, C, cv, dd, b, rfl, hcv, hk, q, ⟨h1, h2, h3, h4, h5, h6⟩, ho⟩ := h
  obtain ⟨u1, u2, rfl, r1, r2⟩ := vals2 r
  obtain rfl : u1 = Value.ref a := r1
  have e := hcv _ r2
  subst e
  obtain ⟨ox, od, J⟩ := inst_exc I ho
  exact PySem.W.kia_one (PySem.W.kitx_exc (x := a) (ox := ox) (od := od) h1 h2.ga h2.gg h2.exC h3 h4 h5 h6) I.kIn J hk (fun z => nomatch z) fun tk => ⟨.bl b, H, I.tok tk, rfl, q⟩
theorem de_isX {isE : String → String → Option Bool} (hk : ∀ n c b, isE n c = some b → ExK G.K G.cl isE n) (hm : X.mg "isinstance" = none) (ha : DO G X W ρ a ma) (hb : DO G X W ρ b mb) (hg : Gl X "isinstance" := by rfl) (ns : NS a := by intro _ _; rfl) (ns2 : NS b := by intro _ _; rfl) (hK : G.K = X.K := by rfl) :
    DE G X W ρ (.Call (.Name "isinstance" p) [a, b] [] pos) (ma >>= fun x => mb >>= fun y => ofO2 (isEO isE) x y) := by
  refine de_b2 call_isX (snd2_of fun W σ F H ps c x y dx dy d Q w tx ty e q => ?_) hg hm Boot.«isinstance» ha hb (by decide) (by decide) ns ns2
  refine ⟨x, y, rfl, ?_⟩
  have fin : ∀ {n : String} {fs : List (String × D)} {cn : String} {bb : Bool}, dx = .exc n fs → isE n cn = some bb → d = .bool bb → ((cn = "ValueError" ∧ dy = .ty .verr) ∨ (cn ≠ "ValueError" ∧ dy = .cls cn)) → rIsX X.K x y H Q := by
    intro n fs cn bb ex hi ed hy
    subst ex ed
    obtain ⟨C, c1, c2, c3, c4, c5, c6, c7, c8, c9⟩ := (hk n cn bb hi).ex
    rw [hK] at c2 c3 c4 c5 c6 c7 c8 c9
    have hx : ∃ r, x = .ref r ∧ (H r = some (ExO (.ref C) r) ∨ ∃ d fs, H r = some (exo r C (some d)) ∧ H d = some (exd d fs)) := by
      cases tx with
      | own _ _ h => exact nomatch h
      | known h =>
        cases h with
        | exc0 k1 k2 =>
          rw [c1] at k1
          cases k1
          exact ⟨_, rfl, .inl (w.sub _ _ k2)⟩
        | exc1 k1 k2 k3 _ =>
          rw [c1] at k1
          cases k1
          exact ⟨_, rfl, .inr ⟨_, _, w.sub _ _ k2, w.sub _ _ k3⟩⟩
    obtain ⟨r, rfl, hr⟩ := hx
    have hv : ∃ cv, (∀ u, RelV y u → u = cv) ∧ PySem.W.kitOne X.K (.ref C) cv = some bb := by
      rcases hy with ⟨rfl, rfl⟩ | ⟨hne, rfl⟩
      · have ey : y = .ty "ValueError" := by
          cases ty with
          | own _ _ h => exact nomatch h
          | known h => cases h; rfl
        subst ey
        exact ⟨_, fun u r => r, c8 _ hi⟩
      · cases ty with
        | own _ _ h => exact nomatch h
        | known h =>
          cases h with
          | cls z =>
            obtain ⟨C', z1, z2⟩ := c9 _ _ hne hi
            rw [z] at z1
            cases z1
            exact ⟨_, fun u r => r, z2⟩
    obtain ⟨cv, v1, v2⟩ := hv
    exact ⟨r, C, cv, none, bb, rfl, v1, v2, post_here w (.bool bb) q, ⟨c2, c3, c4, c5, c6, c7⟩, hr⟩
  unfold isEO at e
  split at e
  · rename_i n fs cn
    split at e
    · cases e
    · rename_i hne
      cases hi : isE n cn with
      | none => rw [hi] at e; cases e
      | some bb => rw [hi] at e; cases e; exact fin rfl hi rfl (.inr ⟨fun z => hne (by rw [z]; rfl), rfl⟩)
  · rename_i n fs
    cases hi : isE n "ValueError" with
    | none => rw [hi] at e; cases e
    | some bb => rw [hi] at e; cases e; exact fin rfl hi rfl (.inl ⟨rfl, rfl⟩)
  · cases e
theorem de_cname {n : String} {C : Addr} (hm : X.mg x = some (.ref C)) (hc : G.cl n = some C) (hg : Gl X x := by rfl) (hdb : (x == ("__debug__" : Str)) = false := by decide) : DE G X W ρ (.Name x pos) (pure (.cls n)) := de_glob (v := .ref C) hg hm rfl (fun _ _ => .cls hc) hdb
theorem de_verr (hm : X.mg "ValueError" = none) (hg : Gl X "ValueError" := by rfl) : DE G X W ρ (.Name "ValueError" pos) (pure (.ty .verr)) := de_ty .verr hg hm Boot.«ValueError» (by decide) (by decide)
/-- an exception of a class without a making of its own -/
theorem de_exc0 {C : Addr} {n : String} {bmB : List Value} {B newId initId : String} (F0 : ExcBaseFacts B newId initId bmB) (q : PySem.W.excIn X.K C bmB newId = true) (hm : X.mg x = some (.ref C)) (hk : PySem.W.keepIn X.K (.ref C) = true) (hc : G.cl n = some C) (ha : DE G X W ρ a ma) (hg : Gl X x := by rfl) (ns : NS a := by intro _ _; rfl)
    (hdb : (x == ("__debug__" : Str)) = false := by decide) : DE G X W ρ (.Call (.Name x p) [a] [] pos) (ma >>= fun _ => pure (.exc n [])) := by
  refine ⟨pe_imp (pe_exc1 F0 q hm hk hg ha.run (ns _ _) hdb) fun σ H Q ⟨F, ps, c, w, s, q⟩ => ?_⟩
  refine ⟨F, ps, c, w, s, post_then (P := fun r => Post G W σ F H ps r _) q (fun d c' _ q => ?_) fun y c' _ q => q⟩
  intro v F' H' ps' x w' d' r hr
  have x1 : Ext F' H' ps' (upd F' r (ExO (.ref C) r)) (upd H' r (ExO (.ref C) r)) ps' := ext_laid w'.sub hr
  exact q _ _ _ _ (x.trans x1) (Wld.laid w' hr) (.exc0 hc upd_same)
/-- .. of one with a making of its own -/
theorem de_excI {CX : CXT} {C fI : Addr} {k : Nat} {fd : FuncData} {slf xn fld : Str} {n f : String} (T : OexC X.K C) (iC : PySem.W.findIn X.K (.ref C) "__init__" = some (some (.ref fI))) (tI : PySem.W.typeIn X.K (.ref fI) = some (.type "function"))
    (F1 : FnOk X.prog X.w X.K X.mg X.base CX k fI fd [slf, xn] (spI C fld)) (hr : Room (k + 1) X.A) (hb : Binds X.K fd [slf, xn] []) (hx : Passes CX X E0) (hm : X.mg x = some (.ref C)) (hc : G.cl n = some C) (hf : Str.ofString f = fld) (ha : DE G X W ρ a ma) (hg : Gl X x := by rfl) (ns : NS a := by intro _ _; rfl)
    (hdb : (x == ("__debug__" : Str)) = false := by decide) : DE G X W ρ (.Call (.Name x p) [a] [] pos) (ma >>= fun d => pure (.exc n [(f, d)])) := by
  subst hf
  refine ⟨pe_imp (pe_excI T iC tI F1 hr hb hx hg hm ha.run hdb (ns _ _)) fun σ H Q ⟨F, ps, c, w, s, q⟩ => ?_⟩
  refine ⟨F, ps, c, w, s, post_then (P := fun r => Post G W σ F H ps r _) q (fun d c' _ q => ?_) fun y c' _ q => q⟩
  intro v F' H' ps' x w' d' r dx hr hdx ne
  have x1 : Ext F' H' ps' (upd F' dx (exd dx [(Str.ofString f, v)])) (upd H' dx (exd dx [(Str.ofString f, v)])) ps' := ext_laid w'.sub hdx
  have w1 := Wld.laid (o := exd dx [(Str.ofString f, v)]) w' hdx
  have hr1 : (upd H' dx (exd dx [(Str.ofString f, v)])) r = none := by rw [upd_ne (Ne.symm ne)]; exact hr
  have x2 := ext_laid (ps := ps') (o := exo r C (some dx)) w1.sub hr1
  have w2 := Wld.laid (o := exo r C (some dx)) w1 hr1
  exact q _ _ _ _ ((x.trans x1).trans x2) w2 (.exc1 hc upd_same (by rw [upd_ne ne]; exact upd_same) ((d'.ext x1).ext x2))
/-- e.f of an exception that stores f -/
def attO (f : String) : D → Option D
  | .exc _ [(g, x)] => if g == f then some x else none
  | _ => none
theorem de_att {f : String} {fld : Str} (hf : Str.ofString f = fld) (hk : ∀ n C, G.cl n = some C → XfC G.K C ∧ PySem.W.findIn G.K (.ref C) fld = some none) (ha : DE G X W ρ a ma) (hK : G.K = X.K := by rfl) (hb : attributeBase a fld X.env (eval a X.env) = eval a X.env := by rfl) :
    DE G X W ρ (.Attribute a fld pos) (ma >>= ofO (attO f)) := by
  subst hf
  refine ⟨⟨fun pins s σ H Q I ⟨F, ps, c, w, sl, q⟩ => ?_⟩⟩
  refine attr_of hb (thn (ha.run.run pins s σ H (fun x H1 => ∃ r C dd v, x = .ref r ∧ XfC X.K C ∧ PySem.W.findIn X.K (.ref C) (Str.ofString f) = some none ∧ H1 r = some (exo r C (some dd)) ∧ H1 dd = some (exd dd [(Str.ofString f, v)]) ∧ Q v H1) I ⟨F, ps, c, w, sl, ?_⟩) fun u s1 hh => ?_)
  · refine post_then (P := fun r => Post G W σ F H ps r _) q (fun d c' _ q => ?_) fun y c' _ q => q
    intro v F' H' ps' x w' d'
    replace q : Post G W σ F H ps (M.of (attO f d) c') Q := q
    cases e : attO f d with
    | none => rw [e] at q; exact q.elim
    | some y =>
      rw [e] at q
      have q2 : Post G W σ F H ps (.ok y c') Q := q
      unfold attO at e
      split at e
      · rename_i g z0 _
        split at e
        · rename_i hz
          cases e
          have eg : g = f := beq_iff_eq.mp hz
          subst eg
          cases d' with
          | @exc1 r C b _ _ v _ k1 k2 k3 k4 =>
            obtain ⟨t1, t2⟩ := hk _ _ k1
            rw [hK] at t1 t2
            exact ⟨r, C, b, v, rfl, t1, t2, w'.sub _ _ k2, w'.sub _ _ k3, q2 v F' H' ps' x w' k4⟩
        · cases e
      · cases e
  · obtain ⟨x, H1, I1, rx, r, C, dd, v, rfl, t1, t2, k2, k3, q⟩ := hh
    obtain rfl : u = Value.ref r := rx
    obtain ⟨te, ho⟩ := exo_at I1.hok k2
    obtain ⟨mA, hns, hr⟩ := exd_at I1.hok k3
    obtain ⟨od, hod, hl⟩ := lookIn_ns hns
    obtain ⟨u, hu, ru⟩ := RelO.some_of (v := v) (o := mA (Str.ofString f)) (by
      have z := hr (Str.ofString f)
      rw [List.lookup_cons, beq_self_eq_true] at z
      exact z)
    have J : PySem.W.InstAt s1.heap r ({ cls := .ref C, dict := some dd, data := .fields #[.ref te, .none, .none, .none, .bool false, .none] } : Obj) C (some od) := ⟨ho, rfl, rfl, hod⟩
    exact HandSPX.exc_get I1.kIn J t1.ga t1.gg t1.exC (PySem.W.findObj_own t1.hdC t2 rfl (by rw [hl, hu])) (handed_of ru) ⟨v, H1, I1.tok _, ru, q⟩
end
end DL
namespace DL
open PySem PySem.Spec PyProof.Rows L2
section
variable {G : Gx} {X : Cx} {W : WX} {ρ : Rho} {a b e : Expr} {ma mb m : M D} {p pos apos cpos p0 : Pos} {x : Str} {σ : L2.St} {F H : Hp} {ps : List Addr} {c : Sto} {v : V}
def strsO : List D → Option (List (List Nat))
  | [] => some []
  | .str s :: r => (strsO r).map (s :: ·)
  | _ => none
def sumL (ys : List (List Nat)) : Nat := (ys.map (·.length)).sum
def joinO (sep : List Nat) : D → Option D
  | .lst ds => match strsO ds with
    | some ys => if (sumL ys + ys.length * sep.length).ble 16777216 then some (.str (TL.joinL sep ys)) else none
    | none => none
  | _ => none
theorem strs_of : ∀ {vs : List V} {ds : List D} {ys : List (List Nat)}, DRs G.K G.cl F ps vs ds → strsO ds = some ys → vs = (ys.map fun y => (⟨y.toArray⟩ : Str)).map V.str
  | _, _, ys, .nil, e => by
    have : [] = ys := Option.some.inj e
    subst this; rfl
  | _, _, ys, @DRs.cons _ _ _ _ _ _ vs' ds h t, e => by
    cases h with
    | str s =>
      unfold strsO at e
      cases e2 : strsO ds with
      | none => rw [e2] at e; cases e
      | some zs =>
        rw [e2] at e
        cases e
        rw [strs_of t e2]
        rfl
    | _ => exact nomatch e
/-- "..".join(a list of texts) -/
theorem de_join {sep : Str} {k : Nat} {cs : List Nat} (ha : DE G X W ρ a ma) (hcs : sep.cps.toList = cs := by rfl) (ns : NS a := by intro _ _; rfl)
    (hbase : attributeBase (.Constant (.str sep) k p0) "join" X.env (eval (.Constant (.str sep) k p0) X.env) = eval (.Constant (.str sep) k p0) X.env := by rfl) (hline : (apos.endLine == cpos.line) = true := by rfl) :
    DE G X W ρ (.Call (.Attribute (.Constant (.str sep) k p0) "join" apos) [a] [] cpos) (ma >>= fun l => M.of (joinO cs l)) := by
  subst hcs
  refine ⟨pe_imp (pe_join pe_str ha.run (ns _ _) hbase hline) fun σ H Q ⟨F, ps, c, w, s, q⟩ => ⟨⟨sep, rfl⟩, F, ps, c, w, s, ?_⟩⟩
  refine post_then (P := fun r => Post G W σ F H ps r _) q (fun d c' _ q => ?_) fun y c' _ q => q
  intro v F' H' ps' x w' d'
  replace q : Post G W σ F H ps (M.of (joinO sep.cps.toList d) c') Q := q
  cases d' with
  | @lst r vs ds h1 h2 =>
    cases e : strsO ds with
    | none => simp only [joinO, e] at q; exact q.elim
    | some ys =>
      have ev := strs_of h2 e
      simp only [joinO, e] at q
      by_cases hz : (sumL ys + ys.length * sep.cps.toList.length).ble 16777216 = true
      · rw [if_pos hz] at q
        have hz' := Nat.le_of_ble_eq_true hz
        refine ⟨sep, r, ys.map fun y => (⟨y.toArray⟩ : Str), rfl, rfl, .inl (ev ▸ SqL.of (w'.sub _ _ h1)), ?_, ?_⟩
        · rw [List.map_map, List.length_map]
          have e1 : ((fun x : Str => x.length) ∘ fun y : List Nat => (⟨y.toArray⟩ : Str)) = fun y => y.length := by funext y; show (y.toArray).size = _; simp
          have e2 : sep.length = sep.cps.toList.length := by show sep.cps.size = _; simp
          rw [e1, e2]
          exact hz'
        · have ej : Txt.join sep (ys.map fun y => (⟨y.toArray⟩ : Str)) = ⟨(TL.joinL sep.cps.toList ys).toArray⟩ := by
            have z := SX.join_S sep.cps.toList ys
            have es : (⟨sep.cps.toList.toArray⟩ : Str) = sep := by cases sep; simp
            rw [← es]
            exact z
          rw [ej]
          exact q _ F' H' ps' x w' (.str _)
      · rw [if_neg hz] at q; exact q.elim
  | _ => exact q.elim
end
end DL
namespace DL
open PySem PySem.Spec PyProof.Rows L2

/-! ### what the head tells of own exceptions -/
def cA (K : PySem.W.Frag) (n : String) : Addr := He.ga K (Str.ofString n)
def clN (ns : List String) (K : PySem.W.Frag) : String → Option Addr := fun n => if ns.contains n then some (cA K n) else none
def isN (ns : List String) (n c : String) : Option Bool := if ns.contains n then (if c == "ValueError" then some true else if ns.contains c then some (n == c || c == "TraceError") else none) else none
def gsB (K : PySem.W.Frag) : Bool := decide (PySem.W.specialIn K (.builtin "object.__class__") "__get__" = some (some (.builtin "getset_descriptor.__get__"))) && (decide (PySem.W.takesIn K (.builtin "object.__class__") = some true) && decide (PySem.W.nsIn K cStatics "thirdparty.any" = some none))
def exB1 (K : PySem.W.Frag) (fs : List Str) (n : String) : Bool := (PySem.W.clsIn K (cA K n)).isSome && (xfB K (cA K n) && (decide (PySem.W.findIn K (.ref (cA K n)) "__class__" = some (some (.builtin "object.__class__"))) && (decide (PySem.W.mroIn K (cA K n) (.type "object") = some true) &&
  (decide (PySem.W.kitOne K (.ref (cA K n)) (.type "ValueError") = some true) && fs.all fun f => decide (PySem.W.findIn K (.ref (cA K n)) f = some none)))))
def exB2 (K : PySem.W.Frag) (ns : List String) : Bool := ns.all fun n => ns.all fun c => decide (PySem.W.kitOne K (.ref (cA K n)) (.ref (cA K c)) = some (n == c || c == "TraceError"))
def exAll (ns : List String) (fs : List Str) (K : PySem.W.Frag) : Bool := gsB K && (ns.all (exB1 K fs) && exB2 K ns)
section
variable {K : PySem.W.Frag} {ns : List String} {fs : List Str}
theorem clN_of {n : String} {C : Addr} (h : clN ns K n = some C) : ns.contains n = true ∧ C = cA K n := by
  unfold clN at h
  split at h
  · rename_i z; cases h; exact ⟨z, rfl⟩
  · cases h
theorem clN_in {n : String} (h : ns.contains n = true) : clN ns K n = some (cA K n) := by
  unfold clN
  rw [if_pos h]
theorem exK_of (h : exAll ns fs K = true) : ∀ n c b, isN ns n c = some b → ExK K (clN ns K) (isN ns) n := fun n c b hi => by
  obtain ⟨g, h⟩ := He.ba h
  obtain ⟨h1, h2⟩ := He.ba h
  obtain ⟨g1, g⟩ := He.ba g
  obtain ⟨g2, g3⟩ := He.ba g
  have hn : ns.contains n = true := by
    unfold isN at hi
    split at hi
    · assumption
    · cases hi
  have hm : n ∈ ns := List.contains_iff_mem.mp hn
  have e := List.all_eq_true.mp h1 n hm
  obtain ⟨e1, e⟩ := He.ba e
  obtain ⟨e2, e⟩ := He.ba e
  obtain ⟨e3, e⟩ := He.ba e
  obtain ⟨e4, e⟩ := He.ba e
  obtain ⟨e5, _⟩ := He.ba e
  refine ⟨cA K n, clN_in hn, e1, xfB_ok e2, of_decide_eq_true e3, of_decide_eq_true g1, of_decide_eq_true g2, of_decide_eq_true e4, fun b hb => ?_, fun c b hc hb => ?_⟩
  · unfold isN at hb
    rw [if_pos hn, if_pos (by rfl)] at hb
    cases hb
    exact of_decide_eq_true e5
  · unfold isN at hb
    rw [if_pos hn, if_neg (by simp [hc])] at hb
    split at hb
    · rename_i z
      cases hb
      exact ⟨cA K c, clN_in z, of_decide_eq_true (List.all_eq_true.mp (List.all_eq_true.mp h2 n hm) c (List.contains_iff_mem.mp z))⟩
    · cases hb
theorem att_of (h : exAll ns fs K = true) {f : Str} (hf : f ∈ fs) : ∀ n C, clN ns K n = some C → XfC K C ∧ PySem.W.findIn K (.ref C) f = some none := fun n C hc => by
  obtain ⟨hn, rfl⟩ := clN_of hc
  obtain ⟨_, h⟩ := He.ba h
  obtain ⟨h1, _⟩ := He.ba h
  have e := List.all_eq_true.mp h1 n (List.contains_iff_mem.mp hn)
  obtain ⟨e1, e⟩ := He.ba e
  obtain ⟨e2, e⟩ := He.ba e
  obtain ⟨e3, e⟩ := He.ba e
  obtain ⟨e4, e⟩ := He.ba e
  obtain ⟨_, e6⟩ := He.ba e
  exact ⟨xfB_ok e2, of_decide_eq_true (List.all_eq_true.mp e6 f hf)⟩
end
/-! a class whose making calls the base's by super() -/
def initA (K : PySem.W.Frag) (n : String) : Addr := He.ma K (cA K n) "__init__"
abbrev FnC : Type := Option (Str × Str × Arguments × FuncBody × Scope × Addr × List Str × Value × Addr)
def fnC (K : PySem.W.Frag) (n : String) : FnC := match K.lookup (initA K n) with
  | some ⟨_, _, .func fd, _⟩ => some (fd.name, fd.qualname, fd.params, fd.body, fd.scope, fd.globals, fd.closure.map (·.1), fd.defaults, fd.builtins)
  | _ => none
def oexB (K : PySem.W.Frag) (C : Addr) : Bool := match K.lookup C with
  | some ⟨.type "type", _, .cls cd, sl⟩ => (match cd.mro, sl.toList with
    | .ref C' :: bm, [_, _, _, _, some (.builtin n), _] => (C' == C && n == "ValueError.__new__") && ((!cd.hasDel && cd.hasDict) && PySem.HandSPX.refsVE bm)
    | _, _ => false)
  | _ => false
theorem oexB_of {K : PySem.W.Frag} {C : Addr} (h : oexB K C = true) : ∃ nm q N bs bm sn sub ab col dd k0 k1 k2 k3 k5, K.lookup C = some (excClassObj nm q C N bs bm true sn sub ab col dd k0 k1 k2 k3 k5 "ValueError.__new__") ∧ PySem.HandSPX.refsVE bm = true := by
  unfold oexB at h
  split at h
  · rename_i dd cd sl ho
    split at h
    · rename_i C' bm k0 k1 k2 k3 n k5 hm hs
      simp only [Bool.and_eq_true, beq_iff_eq, Bool.not_eq_true'] at h
      obtain ⟨⟨rfl, rfl⟩, ⟨h1, h2⟩, h3⟩ := h
      obtain ⟨nm, bs, mro, nsp, qn, hd, sn, sub, ab, col, del⟩ := cd
      dsimp only at hm h1 h2
      subst hm h1 h2
      obtain ⟨l⟩ := sl
      simp only at hs
      subst hs
      exact ⟨nm, qn, nsp, bs, bm, sn, sub, ab, col, dd, k0, k1, k2, k3, k5, ho, h3⟩
    · cases h
  · cases h
/-- the def's own parts -/
def supB1 (P : Program) (K : PySem.W.Frag) (n : String) : Bool := match K.lookup (initA K n) with
  | some ⟨_, _, .func fd, _⟩ => PySem.W.codeIn K fd.code fd.qualname && ((match fd.code with
    | .ref a => (match K.lookup a with
      | some ⟨_, _, .fields vs, _⟩ => (match (vs[2]? : Option Value) with
        | some (Value.str file _) => ((P.main.file : Str) == file)
        | _ => false)
      | _ => false)
    | _ => false) && (match fd.closure with
    | [(_, cc)] => (match K.lookup cc with
      | some ⟨_, _, .cell (some (.ref C')), _⟩ => C' == cA K n
      | _ => false)
    | _ => false))
  | _ => false
def supB2 (K : PySem.W.Frag) (f : Str) (n : String) : List Bool := [oexB K (cA K n), decide (PySem.W.findIn K (.ref (cA K n)) "__setattr__" = some (some (.builtin "object.__setattr__"))), decide (PySem.W.subIn K (.ref (cA K n)) (.type "BaseException") = some true), decide (PySem.W.typeIn K (.ref (cA K n)) = some (.type "type")), PySem.W.keepIn K (.ref (cA K n)),
    decide (PySem.W.findIn K (.ref (cA K n)) f = some none), decide (PySem.W.ks_superIn K (cA K n) (cA K n) "__init__" = some (some (.builtin "ValueError.__init__"))), decide (PySem.W.subIn K (.ref (cA K n)) (.type "ValueError") = some true), decide (PySem.W.mroIn K (cA K n) (.ref (cA K n)) = some true),
    decide (PySem.W.findIn K (.ref (cA K n)) "__init__" = some (some (.ref (initA K n)))), decide (PySem.W.typeIn K (.ref (initA K n)) = some (.type "function")), decide (PySem.W.nsIn K cStatics "thirdparty.any" = some none)]
def supB (P : Program) (K : PySem.W.Frag) (f : Str) (n : String) : Bool := supB1 P K n && (supB2 K f n).all id
theorem all_at {l : List Bool} (h : l.all id = true) (i : Nat) {b : Bool} (e : l[i]? = some b) : b = true := List.all_eq_true.mp h b (List.mem_of_getElem? e)
/-- what is needed of the text -/
structure SupT (slf xn fld : Str) (params : Arguments) (scope : Scope) (body : List Stmt) (qual : Str) : Prop where
  par : ∃ ar : Arg, (params.posonlyargs ++ params.args).head? = some ar ∧ ar.arg = slf
  body : ∃ p0 p1 pa px pc pe ps pf px2 pas, body = [.Expr (.Call (.Attribute (.Call (.Name "super" p0) [] [] p1) "__init__" pa) [.Name xn px] [] pc) pe, .Assign [.Attribute (.Name slf ps) fld pf] (.Name xn px2) pas] ∧
    ∀ L fI cda cc, BodyOk (PySem.W.ksEnv qual scope L fI (.ref cda) cc) slf xn fld p0 p1 pa px pc pe ps pf px2 pas
  fsup : scope.names.lookup ("super" : Str) = some .globalImplicit
  cls : scope.names.lookup ("__class__" : Str) = some .free
  lself : scope.names.lookup slf = some .local
  lx : scope.names.lookup xn = some .local
  nocell : ∀ y ∈ scope.names, y.2 ≠ .cell
  kind : scope.kind = .function
  co : scope.isCoroutine = false
  gen : scope.isGenerator = false
  ne : slf ≠ xn
  nd1 : (slf == ("__debug__" : Str)) = false
  nd2 : (xn == ("__debug__" : Str)) = false
structure MadeBy (P : Program) (w : World) (K : PySem.W.Frag) (mg : Str → Option Value) (base : Heap) (n : String) (slf xn fld : Str) : Prop where
  T : OexC K (cA K n)
  iC : PySem.W.findIn K (.ref (cA K n)) "__init__" = some (some (.ref (initA K n)))
  tI : PySem.W.typeIn K (.ref (initA K n)) = some (.type "function")
  ok : ∃ fd, FnOk P w K mg base (L2.CX P w) 1 (initA K n) fd [slf, xn] (spI (cA K n) fld) ∧ Binds K fd [slf, xn] []
theorem sup_of {P : Program} {w : World} {K : PySem.W.Frag} {mg : Str → Option Value} {base : Heap} {n : String} {slf xn fld name qual : Str} {params : Arguments} {scope : Scope} {body : List Stmt} (S : SupT slf xn fld params scope body qual) (h : supB P K fld n = true)
    (hf : fnC K n = some (name, qual, params, FuncBody.stmts body, scope, mainGlobals, [("__class__" : Str)], Value.none, builtinsNs)) (htop : (P.main.scope.names.lookup ("super" : Str)).isSome = false) (hms : mg "super" = none)
    (hb : ∀ (kV doc pm : Value) (an : Option Addr) (cdv ct : Value) (cc : Addr) (us : List Value), us.length = 2 → bindArgs (PySem.W.ksFn name qual params body scope .none kV doc pm an cdv ct cc) ⟨us, []⟩ = pure ([slf, xn].zip us)) : MadeBy P w K mg base n slf xn fld := by
  obtain ⟨h1, h2⟩ := He.ba h
  have T : OexC K (cA K n) := ⟨oexB_of (all_at h2 0 rfl), of_decide_eq_true (all_at h2 1 rfl), of_decide_eq_true (all_at h2 2 rfl), of_decide_eq_true (all_at h2 3 rfl), all_at h2 4 rfl⟩
  have iC := of_decide_eq_true (all_at h2 9 rfl)
  have tI := of_decide_eq_true (all_at h2 10 rfl)
  refine ⟨T, iC, tI, ?_⟩
  unfold supB1 at h1
  unfold fnC at hf
  split at h1
  · rename_i oc od fd osl lk
    rw [lk] at hf
    obtain ⟨nm, qn, pr, bd, sc, gl, clo, dfl, kwd, doc, pm, an, cd, clt, blt⟩ := fd
    simp only [Option.some.injEq, Prod.mk.injEq] at hf
    obtain ⟨rfl, rfl, rfl, rfl, rfl, rfl, hclo, rfl, rfl⟩ := hf
    simp only at h1
    obtain ⟨hcd, h1⟩ := He.ba h1
    obtain ⟨hcode, hcell⟩ := He.ba h1
    split at hcode
    · rename_i cda
      split at hcode
      · rename_i ccl cdd vs ccs lcode
        split at hcode
        · rename_i file tf hvs
          split at hcell
          · rename_i y cc
            have ey : y = ("__class__" : Str) := by simpa using hclo
            subst ey
            split at hcell
            · rename_i cl cld C' csl lcell
              have eC : C' = cA K n := beq_iff_eq.mp hcell
              subst eC
              obtain ⟨p0, p1, pa, px, pc, pe, ps, pf, px2, pas, hbody, hbo⟩ := S.body
              exact ⟨_, init_ok (k := 0) { lk := lk, hcd := hcd, code := ⟨ccl, cdd, vs, ccs, file, tf, lcode, hvs, hcode⟩, cell := ⟨cl, cld, csl, lcell⟩, par := S.par, body := ⟨p0, p1, pa, px, pc, pe, ps, pf, px2, pas, hbody, fun L => hbo L _ _ _⟩, fsup := S.fsup, cls := S.cls, lself := S.lself, lx := S.lx, nocell := S.nocell, kind := S.kind, co := S.co, gen := S.gen, ne := S.ne, nd1 := S.nd1, nd2 := S.nd2, T := T, fno := of_decide_eq_true (all_at h2 5 rfl), along := of_decide_eq_true (all_at h2 6 rfl), sub := of_decide_eq_true (all_at h2 7 rfl), mro := of_decide_eq_true (all_at h2 8 rfl), op := of_decide_eq_true (all_at h2 11 rfl), top := htop } hms,
                Binds.all fun us hl => hb _ _ _ _ _ _ _ us hl⟩
            · cases hcell
          · cases hcell
        · cases hcode
      · cases hcode
    · cases hcode
  · cases h1
end DL
namespace DL
open PySem PySem.Spec PyProof.Rows L2

/-! ### the head's look, widened -/
abbrev AlE : Type := He.AlD × Bool × List FnC
def asE (g : Addr → Option Obj) (n : Nat) : List Addr := cStatics :: He.asD g n
def obsE (n : Nat) (fa : List He.Fa) (fn : List He.DefD) (ex : PySem.W.Frag → Bool) (cs : List (String × FnC)) (g : Addr → Option Obj) : AlE :=
  (fun K : PySem.W.Frag => (He.obsD fa fn K, ex K, cs.map fun c => fnC K c.1)) (He.frG g (asE g n))
def hookE (n : Nat) (fa : List He.Fa) (fn : List He.DefD) (ex : PySem.W.Frag → Bool) (cs : List (String × FnC)) : PySem.W.Hook where
  α := AlE
  obs := fun s => obsE n fa fn ex cs s.heap.get?
  val := fun _ => ((He.valD fn, true, cs.map fun c : String × FnC => c.2) : AlE)
  says := fun _ h => ∃ K : PySem.W.Frag, K.In h ∧ He.SaysD fa fn K ∧ ex K = true ∧ cs.map (fun c : String × FnC => fnC K c.1) = cs.map (fun c : String × FnC => c.2)
  of := fun _ _ e => ⟨_, He.frG_in, congrArg (fun z : AlE => z.1) e, congrArg (fun z : AlE => z.2.1) e, (show (cs.map fun c : String × FnC => fnC _ c.1) = cs.map (fun c : String × FnC => c.2) from congrArg (fun z : AlE => z.2.2) e)⟩
  keeps := fun _ _ _ ⟨K, hK, c⟩ k => ⟨K, PySem.W.Frag.In.keeps hK k, c⟩
theorem obsE_eq {n : Nat} {fa : List He.Fa} {fn : List He.DefD} {ex : PySem.W.Frag → Bool} {cs : List (String × FnC)} {g : Addr → Option Obj} {s : Shared} (h : ∀ a, g a = s.heap.get? a) : obsE n fa fn ex cs g = (hookE n fa fn ex cs).obs s := by
  have e : g = s.heap.get? := funext h
  rw [e] <;> rfl
theorem Gb.exc {fa : List He.Fa} {fn : List He.DefD} {K : PySem.W.Frag} {mg : Str → Option Value} (B : Gb fa fn K mg) (i : Nat) {x : Str} (h : fa[i]? = some (.exc x) := by rfl) : PySem.W.excIn K (He.ga K x) He.veBase "ValueError.__new__" = true ∧ PySem.W.keepIn K (.ref (He.ga K x)) = true := by
  obtain ⟨hp, X, N, c⟩ := B
  have e := He.exc_ok (c.fact i h)
  exact ⟨e.1, e.2.1⟩
section
variable {K : PySem.W.Frag} {cl : String → Option Addr}
/-- the law's own promise, from its plain function -/
theorem law_sp {m : D → M D} {n : Nat} (h : ∀ ns : List Int, ns.length ≤ n → ∃ c, m (.scr (ns.map .int)) [] = .ok (.bool true) c) (H : Hp) (a : Addr) (ns : List Int) (hl : ns.length ≤ n) (hs : SqL K H a (ns.map V.int)) : spD K cl 1 (ap1 m) [.ref a] H (fun v _ => v = .bl true) fun _ _ _ => False := by
  have intz : ∀ l : List Int, DRs K cl H [] (l.map V.int) (l.map D.int) := fun l => by
    induction l with
    | nil => exact .nil
    | cons i l ih => exact .cons (.int i) ih
  refine ⟨H, [], [], [.scr (ns.map .int)], ⟨fun _ _ e => e, rfl, .nil, fun n p so e => by simp at e⟩, .cons (.scr hs (intz ns)) .nil, rfl, ?_⟩
  obtain ⟨c, e⟩ := h ns hl
  show PostC K cl H H [] (m (.scr (ns.map .int)) []) _ _
  rw [e]
  exact fun v F' H' ps' _ _ r => by cases r; rfl
end
end DL
namespace DL
open PySem PySem.Spec PyProof.Rows L2
/-- the law's end, for defs that may raise -/
theorem law_end {l : PySem.W.OpenLaw} {m k : Nat} {q : Program} {ls : List Str} {XP : (Str → Option Value) → Heap → Prop} {YP : World → Heap → Prop} {df : DefRec} {arg : Str} (hm : l.most = some m) (hm2 : m ≤ sizeLine) (hd0 : df.params.defaults = []) (room : Room k callerA)
    (F : ∀ (w : World) (mg : Str → Option Value) (fa : Addr) (h : Heap), YP w h → h.Ns mainGlobals mg → mg df.name = some (.ref fa) →
      ∃ (K : PySem.W.Frag) (fd : FuncData) (sp : Sp), K.In h ∧ (∀ (s : Shared) (u : Value), BindsTo s fd ⟨[u], []⟩ [(arg, u)]) ∧
        (∀ (H : Hp) (a : Addr) (ns : List Int), ns.length ≤ m → SqL K H a (ns.map V.int) → sp [.ref a] H (fun v _ => v = .bl true) fun _ _ _ => False) ∧
        ∀ base : Heap, K.In base → base.Ns mainGlobals mg → FnOk l.prog w K mg base (L2.CX l.prog w) k fa fd [arg] sp) :
    PySem.W.WalkO q ls XP YP l.row.toRowW df [] (fun f vs => PySem.call f vs) := by
  refine Att.attach_call hm hd0 fun w s0 s1 mg mb fa o pm cd doc a vs ns GG Y ho hd hcd hmg hobj hints hlen hg => ?_
  obtain ⟨K, fd, sp, KX, hb, hs, hF⟩ := F w mg fa _ Y GG.T.g hmg
  refine law_call KX GG.T.g GG.T.b GG.T.builtins GG.T.nolimit hg hobj hints (Nat.le_trans hlen hm2) room hF hb (fun H _ hS => hs H a ns hlen hS) fun H e s' c => ?_
  obtain ⟨_, _, _, _, _, _, _, _, _, _, _, _, z⟩ := c
  exact z
end DL
namespace LW
open PySem PySem.Spec PyProof.Rows L2 DL
def top (i : Nat) : Stmt := PySem.Challenge.pw_waysretraced_k58_whole_errors.main.body.getD i (.Pass ⟨0, 0, 0, 0⟩)
def dD (g x : Str) (i : Nat) : He.DefD := ⟨(g, none), x, x, defArgs (top i), defBody (top i), defScope (top i), [], []⟩
def fn0 : List He.DefD := [dD "_law_cup" "_law_cup" 25, dD "_law_like" "_law_like" 28, dD "_law_made" "_law_made" 29, dD "_law_right" "_law_right" 31, dD "_law_roll" "_law_roll" 26, dD "_law_signs" "_law_signs" 30, dD "_law_sort" "_law_sort" 27, dD "law" "law" 32]
def fn : List He.DefD := fn0
def fa0 : List He.Fa := [.free "ValueError", .free "abs", .free "bool", .free "enumerate", .free "int", .free "isinstance", .free "len", .free "list", .free "range", .free "str", .free "tuple", .free "zip", .glo "_law_cup", .glo "_law_like", .glo "_law_made", .glo "_law_right", .glo "_law_roll", .glo "_law_signs", .glo "_law_sort", .glo "law", .glo "BadText", .exc "InvalidBundle", .glo "InvalidBundle", .exc "InvalidCode", .glo "InvalidCode", .exc "InvalidGroup", .glo "InvalidGroup", .exc "InvalidMap", .glo "InvalidMap", .exc "InvalidName"]
def fa1 : List He.Fa := [.glo "InvalidName", .exc "InvalidNumber", .glo "InvalidNumber", .exc "InvalidOctets", .glo "InvalidOctets", .exc "InvalidOrder", .glo "InvalidOrder", .exc "InvalidRoute", .glo "InvalidRoute", .exc "InvalidRow", .glo "InvalidRow", .exc "InvalidSet", .glo "InvalidSet", .exc "InvalidSort", .glo "InvalidSort", .exc "InvalidTable", .glo "InvalidTable", .exc "InvalidText", .glo "InvalidText", .exc "InvalidTrace", .glo "InvalidTrace", .exc "InvalidTree", .glo "InvalidTree", .exc "InvalidWeb", .glo "InvalidWeb", .exc "InvalidWord", .glo "InvalidWord", .exc "NotFound", .glo "NotFound", .exc "NotNow"]
def fa2 : List He.Fa := [.glo "NotNow", .glo "TooMany", .exc "TraceError", .glo "TraceError", .free "super"]
def fa : List He.Fa := fa0 ++ fa1 ++ fa2
def NS : List String := ["BadText", "InvalidBundle", "InvalidCode", "InvalidGroup", "InvalidMap", "InvalidName", "InvalidNumber", "InvalidOctets", "InvalidOrder", "InvalidRoute", "InvalidRow", "InvalidSet", "InvalidSort", "InvalidTable", "InvalidText", "InvalidTrace", "InvalidTree", "InvalidWeb", "InvalidWord", "NotFound", "NotNow", "TooMany", "TraceError"]
def FS : List Str := ["at", "limit"]
def ini_BadText : Stmt := match top 22 with
  | .ClassDef _ _ _ b _ _ _ _ _ _ _ => b.getD 0 (.Pass ⟨0, 0, 0, 0⟩)
  | s => s
def ini_TooMany : Stmt := match top 23 with
  | .ClassDef _ _ _ b _ _ _ _ _ _ _ => b.getD 0 (.Pass ⟨0, 0, 0, 0⟩)
  | s => s
structure BEx (P : Program) (w : World) (K : PySem.W.Frag) (mg : Str → Option Value) (base : Heap) : Prop where
  ex : exAll NS FS K = true
  T_BadText : MadeBy P w K mg base "BadText" "self" "at" "at"
  T_TooMany : MadeBy P w K mg base "TooMany" "self" "limit" "limit"
section
variable {P : Program} {w : World} {K : PySem.W.Frag} {mg : Str → Option Value} {base : Heap}
theorem sc__law_cup : FnScope ["script", "cell"] ["script"] (defScope (top 25)) := ⟨rfl, rfl, rfl, by decide +kernel, rfl, by decide +kernel, by decide +kernel⟩
def m__law_cup (p0 : D) : M D := ((((((pure p0) >>= ofO lstO) >>= fun x => (((pure (D.int 0)) >>= fun d => (pure []) >>= fun ds => pure (d :: ds)) >>= mkLst) >>= fun y => addD x y) >>= fun x => (pure (D.int 0)) >>= fun y => M.of (ixO x y)) >>= ofO absO) >>= fun v1 => (((((pure v1) >>= fun x => ((pure (D.int 10)) >>= fun x => (pure (D.int 18)) >>= fun y => powD x y) >>= fun y => cmpM geO x y) >>= fun t => cond t ((pure v1) >>= fun x => (pure (D.int 337)) >>= fun y => fdivD x y) (pure (D.int 0))) >>= fun d => ((((((pure v1) >>= fun x => (pure (D.int 1117)) >>= fun y => mulD x y) >>= fun x => (pure (D.int 103963)) >>= fun y => addD x y) >>= ofO intO) >>= fun x => (pure (D.int 1048576)) >>= fun y => modD x y) >>= fun d => (pure []) >>= fun ds => pure (d :: ds)) >>= fun ds => pure (d :: ds)) >>= mkLst))
theorem fo__law_cup {f : Addr} {fd : FuncData} (B : Gb fa fn K mg) (BE : BEx P w K mg base) (F : FunD K "_law_cup" "_law_cup" (defArgs (top 25)) (defBody (top 25)) (defScope (top 25)) [] [] f fd) : FnOk P w K mg base (L2.CX P w) 1 f fd ["script"] (spF K (clN NS K) 1 (ap1 m__law_cup)) := by
  refine fn_okFD (k := 0) F sc__law_cup rfl fun cdv A outer s E F0 H0 p0 ds hl hr => ?_
  have nd := sc__law_cup.nd
  have PO := po_def (P := P) (w := w) (K := K) (mg := mg) (base := base) (N := ["script", "cell"]) (qual := "_law_cup") (scope := defScope (top 25)) (f := f) (cdv := cdv) (A := A) (outer := outer) (s := s) (H0 := H0) (E := E)
  match ds, hl with
  | [p0], _ => exact ⟨_, rfl, dbf_asg 1 (de_abs (B.free 1) (DE.op (de_ix (DE.op (de_add (DF.op (df_listc (B.free 7) (DE.op (de_var 0 (d := p0))))) (DF.op (df_lstA (da_cons (de_int) (da_nil)))))) (DE.op (de_int)) (un1 hr)))) (fun v1 => dbf_ret (df_lstA (da_cons (de_if (dc_c c_ge (DE.op (de_var 1 (d := v1))) (DE.op (de_pow (DE.op (de_int)) (DE.op (de_int))))) (de_fdiv (DE.op (de_var 1 (d := v1))) (DE.op (de_int))) (de_int)) (da_cons (de_mod (DE.op (de_intc (B.free 4) (DE.op (de_add (DE.op (de_mul (DE.op (de_var 1 (d := v1))) (DE.op (de_int)))) (DE.op (de_int)))))) (DE.op (de_int))) (da_nil))))) nd⟩
theorem ok__law_cup (B : Gb fa fn K mg) (BE : BEx P w K mg base) : Cal P w K mg base (spF K (clN NS K) 1 (ap1 m__law_cup)) "_law_cup" 1 := by
  obtain ⟨fd, F⟩ := B.def_ 0 (d := dD "_law_cup" "_law_cup" 25)
  exact cal_of (q := "_law_cup") (st := top 25) F (B.glo 12) (fo__law_cup B BE F) (fun _ _ _ _ _ _ us hl => match us, hl with | [_], _ => rfl)
theorem sc__law_made : FnScope ["text", "number", "first", "second", "third", "fourth"] ["text", "number"] (defScope (top 29)) := ⟨rfl, rfl, rfl, by decide +kernel, rfl, by decide +kernel, by decide +kernel⟩
def m__law_made (p0 : D) (p1 : D) : M D := ((((((pure p0) >>= fun _ => pure (.exc "InvalidNumber" [])) >>= fun d => (((pure p0) >>= fun _ => pure (.exc "InvalidWord" [])) >>= fun d => (((pure p0) >>= fun _ => pure (.exc "InvalidTree" [])) >>= fun d => (((pure p0) >>= fun _ => pure (.exc "InvalidTrace" [])) >>= fun d => (((pure p0) >>= fun _ => pure (.exc "InvalidMap" [])) >>= fun d => (((pure p0) >>= fun _ => pure (.exc "InvalidTable" [])) >>= fun d => (pure []) >>= fun ds => pure (d :: ds)) >>= fun ds => pure (d :: ds)) >>= fun ds => pure (d :: ds)) >>= fun ds => pure (d :: ds)) >>= fun ds => pure (d :: ds)) >>= fun ds => pure (d :: ds)) >>= mkLst) >>= fun v1 => (((((pure p0) >>= fun _ => pure (.exc "InvalidText" [])) >>= fun d => (((pure p0) >>= fun _ => pure (.exc "InvalidName" [])) >>= fun d => (((pure p0) >>= fun _ => pure (.exc "InvalidSort" [])) >>= fun d => (((pure p0) >>= fun _ => pure (.exc "InvalidSet" [])) >>= fun d => (((pure p0) >>= fun _ => pure (.exc "InvalidRoute" [])) >>= fun d => (((pure p0) >>= fun _ => pure (.exc "InvalidRow" [])) >>= fun d => (pure []) >>= fun ds => pure (d :: ds)) >>= fun ds => pure (d :: ds)) >>= fun ds => pure (d :: ds)) >>= fun ds => pure (d :: ds)) >>= fun ds => pure (d :: ds)) >>= fun ds => pure (d :: ds)) >>= mkLst) >>= fun v2 => (((((pure p0) >>= fun _ => pure (.exc "InvalidGroup" [])) >>= fun d => (((pure p0) >>= fun _ => pure (.exc "InvalidOrder" [])) >>= fun d => (((pure p0) >>= fun _ => pure (.exc "InvalidWeb" [])) >>= fun d => (((pure p0) >>= fun _ => pure (.exc "InvalidOctets" [])) >>= fun d => (((pure p0) >>= fun _ => pure (.exc "InvalidCode" [])) >>= fun d => (((pure p0) >>= fun _ => pure (.exc "InvalidBundle" [])) >>= fun d => (pure []) >>= fun ds => pure (d :: ds)) >>= fun ds => pure (d :: ds)) >>= fun ds => pure (d :: ds)) >>= fun ds => pure (d :: ds)) >>= fun ds => pure (d :: ds)) >>= fun ds => pure (d :: ds)) >>= mkLst) >>= fun v3 => (((((pure p0) >>= fun _ => pure (.exc "NotFound" [])) >>= fun d => (((pure p0) >>= fun _ => pure (.exc "NotNow" [])) >>= fun d => (pure []) >>= fun ds => pure (d :: ds)) >>= fun ds => pure (d :: ds)) >>= mkLst) >>= fun v4 => ((((((pure v1) >>= fun x => (pure v2) >>= fun y => addD x y) >>= fun x => (pure v3) >>= fun y => addD x y) >>= fun x => (pure v4) >>= fun y => addD x y) >>= fun x => ((((pure p1) >>= fun d => pure (.exc "BadText" [("at", d)])) >>= fun d => (((pure p1) >>= fun d => pure (.exc "TooMany" [("limit", d)])) >>= fun d => (pure []) >>= fun ds => pure (d :: ds)) >>= fun ds => pure (d :: ds)) >>= mkLst) >>= fun y => addD x y) >>= fun d => pure (.rt d)))))) : M (Out Unit Empty)) >>= retU
theorem fo__law_made {f : Addr} {fd : FuncData} (B : Gb fa fn K mg) (BE : BEx P w K mg base) (F : FunD K "_law_made" "_law_made" (defArgs (top 29)) (defBody (top 29)) (defScope (top 29)) [] [] f fd) : FnOk P w K mg base (L2.CX P w) 3 f fd ["text", "number"] (spD K (clN NS K) 2 (ap2 m__law_made)) := by
  refine fn_okD (k := 2) F sc__law_made rfl fun cdv A outer s E F0 H0 p0 ds hl hr => ?_
  have nd := sc__law_made.nd
  have PO := po_def (P := P) (w := w) (K := K) (mg := mg) (base := base) (N := ["text", "number", "first", "second", "third", "fourth"]) (qual := "_law_made") (scope := defScope (top 29)) (f := f) (cdv := cdv) (A := A) (outer := outer) (s := s) (H0 := H0) (E := E)
  match ds, hl with
  | [p0, p1], _ => exact ⟨_, rfl, db_asg 2 (DF.de (df_lstA (da_cons (de_exc0 (n := "InvalidNumber") PySem.F.excBase_ValueError (B.exc 31).1 (B.glo 32) (B.exc 31).2 (clN_in (ns := NS) (K := K) (n := "InvalidNumber") rfl) (de_var 0 (d := p0))) (da_cons (de_exc0 (n := "InvalidWord") PySem.F.excBase_ValueError (B.exc 55).1 (B.glo 56) (B.exc 55).2 (clN_in (ns := NS) (K := K) (n := "InvalidWord") rfl) (de_var 0 (d := p0))) (da_cons (de_exc0 (n := "InvalidTree") PySem.F.excBase_ValueError (B.exc 51).1 (B.glo 52) (B.exc 51).2 (clN_in (ns := NS) (K := K) (n := "InvalidTree") rfl) (de_var 0 (d := p0))) (da_cons (de_exc0 (n := "InvalidTrace") PySem.F.excBase_ValueError (B.exc 49).1 (B.glo 50) (B.exc 49).2 (clN_in (ns := NS) (K := K) (n := "InvalidTrace") rfl) (de_var 0 (d := p0))) (da_cons (de_exc0 (n := "InvalidMap") PySem.F.excBase_ValueError (B.exc 27).1 (B.glo 28) (B.exc 27).2 (clN_in (ns := NS) (K := K) (n := "InvalidMap") rfl) (de_var 0 (d := p0))) (da_cons (de_exc0 (n := "InvalidTable") PySem.F.excBase_ValueError (B.exc 45).1 (B.glo 46) (B.exc 45).2 (clN_in (ns := NS) (K := K) (n := "InvalidTable") rfl) (de_var 0 (d := p0))) (da_nil))))))))) (fun v1 => db_asg 3 (DF.de (df_lstA (da_cons (de_exc0 (n := "InvalidText") PySem.F.excBase_ValueError (B.exc 47).1 (B.glo 48) (B.exc 47).2 (clN_in (ns := NS) (K := K) (n := "InvalidText") rfl) (de_var 0 (d := p0))) (da_cons (de_exc0 (n := "InvalidName") PySem.F.excBase_ValueError (B.exc 29).1 (B.glo 30) (B.exc 29).2 (clN_in (ns := NS) (K := K) (n := "InvalidName") rfl) (de_var 0 (d := p0))) (da_cons (de_exc0 (n := "InvalidSort") PySem.F.excBase_ValueError (B.exc 43).1 (B.glo 44) (B.exc 43).2 (clN_in (ns := NS) (K := K) (n := "InvalidSort") rfl) (de_var 0 (d := p0))) (da_cons (de_exc0 (n := "InvalidSet") PySem.F.excBase_ValueError (B.exc 41).1 (B.glo 42) (B.exc 41).2 (clN_in (ns := NS) (K := K) (n := "InvalidSet") rfl) (de_var 0 (d := p0))) (da_cons (de_exc0 (n := "InvalidRoute") PySem.F.excBase_ValueError (B.exc 37).1 (B.glo 38) (B.exc 37).2 (clN_in (ns := NS) (K := K) (n := "InvalidRoute") rfl) (de_var 0 (d := p0))) (da_cons (de_exc0 (n := "InvalidRow") PySem.F.excBase_ValueError (B.exc 39).1 (B.glo 40) (B.exc 39).2 (clN_in (ns := NS) (K := K) (n := "InvalidRow") rfl) (de_var 0 (d := p0))) (da_nil))))))))) (fun v2 => db_asg 4 (DF.de (df_lstA (da_cons (de_exc0 (n := "InvalidGroup") PySem.F.excBase_ValueError (B.exc 25).1 (B.glo 26) (B.exc 25).2 (clN_in (ns := NS) (K := K) (n := "InvalidGroup") rfl) (de_var 0 (d := p0))) (da_cons (de_exc0 (n := "InvalidOrder") PySem.F.excBase_ValueError (B.exc 35).1 (B.glo 36) (B.exc 35).2 (clN_in (ns := NS) (K := K) (n := "InvalidOrder") rfl) (de_var 0 (d := p0))) (da_cons (de_exc0 (n := "InvalidWeb") PySem.F.excBase_ValueError (B.exc 53).1 (B.glo 54) (B.exc 53).2 (clN_in (ns := NS) (K := K) (n := "InvalidWeb") rfl) (de_var 0 (d := p0))) (da_cons (de_exc0 (n := "InvalidOctets") PySem.F.excBase_ValueError (B.exc 33).1 (B.glo 34) (B.exc 33).2 (clN_in (ns := NS) (K := K) (n := "InvalidOctets") rfl) (de_var 0 (d := p0))) (da_cons (de_exc0 (n := "InvalidCode") PySem.F.excBase_ValueError (B.exc 23).1 (B.glo 24) (B.exc 23).2 (clN_in (ns := NS) (K := K) (n := "InvalidCode") rfl) (de_var 0 (d := p0))) (da_cons (de_exc0 (n := "InvalidBundle") PySem.F.excBase_ValueError (B.exc 21).1 (B.glo 22) (B.exc 21).2 (clN_in (ns := NS) (K := K) (n := "InvalidBundle") rfl) (de_var 0 (d := p0))) (da_nil))))))))) (fun v3 => db_asg 5 (DF.de (df_lstA (da_cons (de_exc0 (n := "NotFound") PySem.F.excBase_ValueError (B.exc 57).1 (B.glo 58) (B.exc 57).2 (clN_in (ns := NS) (K := K) (n := "NotFound") rfl) (de_var 0 (d := p0))) (da_cons (de_exc0 (n := "NotNow") PySem.F.excBase_ValueError (B.exc 59).1 (B.glo 60) (B.exc 59).2 (clN_in (ns := NS) (K := K) (n := "NotNow") rfl) (de_var 0 (d := p0))) (da_nil))))) (fun v4 => db_ret (de_add (DE.op (de_add (DE.op (de_add (DE.op (de_add (DE.op (de_var 2 (d := v1))) (DE.op (de_var 3 (d := v2))))) (DE.op (de_var 4 (d := v3))))) (DE.op (de_var 5 (d := v4))))) (DF.op (df_lstA (da_cons (de_excI BE.T_BadText.T BE.T_BadText.iC BE.T_BadText.tI BE.T_BadText.ok.choose_spec.1 (hr.mono (by decide)) BE.T_BadText.ok.choose_spec.2 passL (n := "BadText") (B.glo 20) (clN_in (ns := NS) (K := K) (n := "BadText") rfl) rfl (de_var 1 (d := p1))) (da_cons (de_excI BE.T_TooMany.T BE.T_TooMany.iC BE.T_TooMany.tI BE.T_TooMany.ok.choose_spec.1 (hr.mono (by decide)) BE.T_TooMany.ok.choose_spec.2 passL (n := "TooMany") (B.glo 61) (clN_in (ns := NS) (K := K) (n := "TooMany") rfl) rfl (de_var 1 (d := p1))) (da_nil))))))) nd) nd) nd) nd⟩
theorem ok__law_made (B : Gb fa fn K mg) (BE : BEx P w K mg base) : Cal P w K mg base (spD K (clN NS K) 2 (ap2 m__law_made)) "_law_made" 3 := by
  obtain ⟨fd, F⟩ := B.def_ 2 (d := dD "_law_made" "_law_made" 29)
  exact cal_of (q := "_law_made") (st := top 29) F (B.glo 14) (fo__law_made B BE F) (fun _ _ _ _ _ _ us hl => match us, hl with | [_, _], _ => rfl)
theorem sc__law_sort : FnScope ["value"] ["value"] (defScope (top 27)) := ⟨rfl, rfl, rfl, by decide +kernel, rfl, by decide +kernel, by decide +kernel⟩
def m__law_sort (p0 : D) : M D := (((((pure p0) >>= fun x => (pure D.non) >>= fun y => cmpM isO x y) >>= fun t => cond t (pure true) (((pure p0) >>= fun x => (pure (D.ty .bool)) >>= fun y => ofO2 isiO x y) >>= asBool)) >>= fun t => cond t ((((((pure p0) >>= fun x => (pure D.non) >>= fun y => cmpM isO x y) >>= fun t => cond t (pure (D.int 0)) (pure (D.int 1))) >>= fun d => pure (.rt d)) : M (Out Empty _)) >>= Out.void) (((((pure p0) >>= fun x => (pure (D.ty .int)) >>= fun y => ofO2 isiO x y) >>= asBool) >>= fun t => cond t (pure true) (((pure p0) >>= fun x => (pure (D.ty .str)) >>= fun y => ofO2 isiO x y) >>= asBool)) >>= fun t => cond t (((((((pure p0) >>= fun x => (pure (D.ty .int)) >>= fun y => ofO2 isiO x y) >>= asBool) >>= fun t => cond t (pure (D.int 2)) (pure (D.int 3))) >>= fun d => pure (.rt d)) : M (Out Empty _)) >>= Out.void) (((((pure p0) >>= fun x => (pure (D.ty .tuple)) >>= fun y => ofO2 isiO x y) >>= asBool) >>= fun t => cond t (pure (D.int 4)) ((((pure p0) >>= fun x => (pure (D.ty .list)) >>= fun y => ofO2 isiO x y) >>= asBool) >>= fun t => cond t (pure (D.int 5)) (pure (D.int 6)))) >>= fun d => pure (.rt d)))) : M (Out Unit Empty)) >>= retU
theorem fo__law_sort {f : Addr} {fd : FuncData} (B : Gb fa fn K mg) (BE : BEx P w K mg base) (F : FunD K "_law_sort" "_law_sort" (defArgs (top 27)) (defBody (top 27)) (defScope (top 27)) [] [] f fd) : FnOk P w K mg base (L2.CX P w) 1 f fd ["value"] (spD K (clN NS K) 1 (ap1 m__law_sort)) := by
  refine fn_okD (k := 0) F sc__law_sort rfl fun cdv A outer s E F0 H0 p0 ds hl hr => ?_
  have nd := sc__law_sort.nd
  have PO := po_def (P := P) (w := w) (K := K) (mg := mg) (base := base) (N := ["value"]) (qual := "_law_sort") (scope := defScope (top 27)) (f := f) (cdv := cdv) (A := A) (outer := outer) (s := s) (H0 := H0) (E := E)
  match ds, hl with
  | [p0], _ => exact ⟨_, rfl, db_ifT (DW.dc (dw_or (dc_c c_is (DE.op (de_var 0 (d := p0))) (DE.op (de_non))) (dw_or1 (dc_val (de_isi (B.free 5) (DE.op (de_var 0 (d := p0))) (DE.op (de_tbool (B.free 2)))))))) (db_ret (de_if (dc_c c_is (DE.op (de_var 0 (d := p0))) (DE.op (de_non))) (de_int) (de_int))) (db_ifT (DW.dc (dw_or (dc_val (de_isi (B.free 5) (DE.op (de_var 0 (d := p0))) (DE.op (de_tint (B.free 4))))) (dw_or1 (dc_val (de_isi (B.free 5) (DE.op (de_var 0 (d := p0))) (DE.op (de_tstr (B.free 9)))))))) (db_ret (de_if (dc_val (de_isi (B.free 5) (DE.op (de_var 0 (d := p0))) (DE.op (de_tint (B.free 4))))) (de_int) (de_int))) (db_ret (de_if (dc_val (de_isi (B.free 5) (DE.op (de_var 0 (d := p0))) (DE.op (de_ttuple (B.free 10))))) (de_int) (de_if (dc_val (de_isi (B.free 5) (DE.op (de_var 0 (d := p0))) (DE.op (de_tlist (B.free 7))))) (de_int) (de_int)))))⟩
theorem ok__law_sort (B : Gb fa fn K mg) (BE : BEx P w K mg base) : Cal P w K mg base (spD K (clN NS K) 1 (ap1 m__law_sort)) "_law_sort" 1 := by
  obtain ⟨fd, F⟩ := B.def_ 6 (d := dD "_law_sort" "_law_sort" 27)
  exact cal_of (q := "_law_sort") (st := top 27) F (B.glo 18) (fo__law_sort B BE F) (fun _ _ _ _ _ _ us hl => match us, hl with | [_], _ => rfl)
theorem sc__law_like : FnScope ["one", "other", "sort", "first", "second"] ["one", "other"] (defScope (top 28)) := ⟨rfl, rfl, rfl, by decide +kernel, rfl, by decide +kernel, by decide +kernel⟩
def b__law_like (R : D → D → M D) (p0 : D) (p1 : D) : M D := ((((pure p1) >>= fun a0 => m__law_sort a0) >>= fun v1 => (((((pure p0) >>= fun a0 => m__law_sort a0) >>= fun x => (pure v1) >>= fun y => cmpM neO x y) >>= fun t => cond t (pure true) ((pure v1) >>= fun x => (pure (D.int 6)) >>= fun y => cmpM eqO x y)) >>= fun t => cond t ((((pure (D.bool false)) >>= fun d => pure (.rt d)) : M (Out Empty _)) >>= Out.void) (((pure v1) >>= fun x => (((pure (D.int 4)) >>= fun d => ((pure (D.int 5)) >>= fun d => (pure []) >>= fun ds => pure (d :: ds)) >>= fun ds => pure (d :: ds)) >>= mkTup) >>= fun y => cmpM inO x y) >>= fun t => cond t ((((((valM (((pure p0) >>= ofO lenO) >>= fun x => ((pure p1) >>= ofO lenO) >>= fun y => cmpM eqO x y)) >>= asBool) >>= fun t => cond t (valM ((((pure p0) >>= fun x => (pure p1) >>= fun y => zipM x y) >>= compM pat2 (fun a2 => ((((pure a2.1) >>= fun a0 => (pure a2.2) >>= fun a1 => R a0 a1) >>= asBool) >>= fun b => pure (!b))) (fun a2 => (pure (D.int 1)))) >>= fun x => ((pure []) >>= mkLst) >>= fun y => cmpM eqO x y)) (pure (D.bool false))) >>= fun d => pure (.rt d)) : M (Out Empty _)) >>= Out.void) ((valM ((pure p0) >>= fun x => (pure p1) >>= fun y => cmpM eqO x y)) >>= fun d => pure (.rt d))))) : M (Out Unit Empty)) >>= retU
def m__law_like : Nat → D → D → M D
  | 0 => fun _ _ => M.bad
  | n + 1 => b__law_like (m__law_like n)
theorem okn__law_like (B : Gb fa fn K mg) (BE : BEx P w K mg base) : ∀ n : Nat, Cal P w K mg base (spD K (clN NS K) 2 (ap2 (m__law_like n))) "_law_like" (1 + n)
  | 0 => by
    obtain ⟨fd, F⟩ := B.def_ 1 (d := dD "_law_like" "_law_like" 28)
    exact cal_of (q := "_law_like") (st := top 28) F (B.glo 13) ⟨fun vs H Q E h => by rw [spD_len _ _ _ _ h]; rfl, fun A outer s H args us vs Q E _ _ _ _ ⟨F0, p0, c, ds, _, _, l, q⟩ => False.elim (match ds, l, q with | [p0, p1], _, q => q)⟩ (ps := ["one", "other"]) (fun _ _ _ _ _ _ us hl => match us, hl with | [_, _], _ => rfl)
  | n + 1 => by
    have IH := okn__law_like B BE n
    obtain ⟨fd, F⟩ := B.def_ 1 (d := dD "_law_like" "_law_like" 28)
    have hg : mg "_law_like" = some (.ref (He.fAd K (dD "_law_like" "_law_like" 28).at_)) := B.glo 13
    generalize He.fAd K (dD "_law_like" "_law_like" 28).at_ = f at F hg
    refine cal_of (q := "_law_like") (st := top 28) F hg (fn_okD (k := 1 + n) F sc__law_like rfl fun cdv A outer s E F0 H0 p0 ds hl hr => ?_) (fun _ _ _ _ _ _ us hl => match us, hl with | [_, _], _ => rfl)
    have nd := sc__law_like.nd
    have PO := po_def (P := P) (w := w) (K := K) (mg := mg) (base := base) (N := ["one", "other", "sort", "first", "second"]) (qual := "_law_like") (scope := defScope (top 28)) (f := f) (cdv := cdv) (A := A) (outer := outer) (s := s) (H0 := H0) (E := E)
    match ds, hl with
    | [p0, p1], _ => exact ⟨_, rfl, db_asg 2 (de_c1 (ok__law_sort B BE) (hr.mono (by omega)) tk_def (de_var 1 (d := p1))) (fun v1 => db_ifT (DW.dc (dw_or (dc_c (c_ne hr) (DE.op (de_c1 (ok__law_sort B BE) (hr.mono (by omega)) tk_def (de_var 0 (d := p0)))) (DE.op (de_var 2 (d := v1)))) (dw_or1 (dc_c (c_eq hr) (DE.op (de_var 2 (d := v1))) (DE.op (de_int)))))) (db_ret (de_bool)) (db_ifT (dc_c (c_in hr) (DE.op (de_var 2 (d := v1))) (DE.op (de_tupA (da_cons (de_int) (da_cons (de_int) (da_nil)))))) (db_ret (de_and (de_c (c_eq hr) (DE.op (de_len (B.free 6) (DE.op (de_var 0 (d := p0))))) (DE.op (de_len (B.free 6) (DE.op (de_var 1 (d := p1)))))) (de_one (de_c (c_eq hr) (DF.op (df_lc [("first", 3), ("second", 4)] [3, 4] rfl nd (DI.dj (di_zip (de_var 0 (d := p0)) (de_var 1 (d := p1)) (by rfl) (B.free 11))) (blkOk_by (N := ["one", "other", "sort", "first", "second"]) (sc := defScope (top 28)) (by decide +kernel)) (fun _ _ _ _ _ => dg2 3 4 rfl nd) (fun _ _ _ _ _ a2 => dq_one (dc_not (dc_val (de_c2 (IH) hr tk_blk (de_var 3 (d := a2.1)) (de_var 4 (d := a2.2)))))) (fun _ _ _ _ _ a2 => de_int))) (DF.op (df_lstA (da_nil))))))) (db_ret (de_c (c_eq hr) (DE.op (de_var 0 (d := p0))) (DE.op (de_var 1 (d := p1))))))) nd⟩
def M__law_like := m__law_like 12
theorem ok__law_like (B : Gb fa fn K mg) (BE : BEx P w K mg base) : Cal P w K mg base (spD K (clN NS K) 2 (ap2 M__law_like)) "_law_like" 13 := okn__law_like B BE 12
theorem sc__law_signs : FnScope ["e", "first", "second", "third", "fourth", "fifth"] ["e"] (defScope (top 30)) := ⟨rfl, rfl, rfl, by decide +kernel, rfl, by decide +kernel, by decide +kernel⟩
def m__law_signs (p0 : D) : M D := ((((((pure p0) >>= fun x => (pure (D.cls "InvalidNumber")) >>= fun y => ofO2 (isEO (isN NS)) x y) >>= fun d => (((pure p0) >>= fun x => (pure (D.cls "InvalidWord")) >>= fun y => ofO2 (isEO (isN NS)) x y) >>= fun d => (((pure p0) >>= fun x => (pure (D.cls "InvalidTree")) >>= fun y => ofO2 (isEO (isN NS)) x y) >>= fun d => (((pure p0) >>= fun x => (pure (D.cls "InvalidTrace")) >>= fun y => ofO2 (isEO (isN NS)) x y) >>= fun d => (((pure p0) >>= fun x => (pure (D.cls "InvalidMap")) >>= fun y => ofO2 (isEO (isN NS)) x y) >>= fun d => (pure []) >>= fun ds => pure (d :: ds)) >>= fun ds => pure (d :: ds)) >>= fun ds => pure (d :: ds)) >>= fun ds => pure (d :: ds)) >>= fun ds => pure (d :: ds)) >>= mkLst) >>= fun v1 => (((((pure p0) >>= fun x => (pure (D.cls "InvalidTable")) >>= fun y => ofO2 (isEO (isN NS)) x y) >>= fun d => (((pure p0) >>= fun x => (pure (D.cls "InvalidText")) >>= fun y => ofO2 (isEO (isN NS)) x y) >>= fun d => (((pure p0) >>= fun x => (pure (D.cls "InvalidName")) >>= fun y => ofO2 (isEO (isN NS)) x y) >>= fun d => (((pure p0) >>= fun x => (pure (D.cls "InvalidSort")) >>= fun y => ofO2 (isEO (isN NS)) x y) >>= fun d => (((pure p0) >>= fun x => (pure (D.cls "InvalidSet")) >>= fun y => ofO2 (isEO (isN NS)) x y) >>= fun d => (pure []) >>= fun ds => pure (d :: ds)) >>= fun ds => pure (d :: ds)) >>= fun ds => pure (d :: ds)) >>= fun ds => pure (d :: ds)) >>= fun ds => pure (d :: ds)) >>= mkLst) >>= fun v2 => (((((pure p0) >>= fun x => (pure (D.cls "InvalidRoute")) >>= fun y => ofO2 (isEO (isN NS)) x y) >>= fun d => (((pure p0) >>= fun x => (pure (D.cls "InvalidRow")) >>= fun y => ofO2 (isEO (isN NS)) x y) >>= fun d => (((pure p0) >>= fun x => (pure (D.cls "InvalidGroup")) >>= fun y => ofO2 (isEO (isN NS)) x y) >>= fun d => (((pure p0) >>= fun x => (pure (D.cls "InvalidOrder")) >>= fun y => ofO2 (isEO (isN NS)) x y) >>= fun d => (((pure p0) >>= fun x => (pure (D.cls "InvalidWeb")) >>= fun y => ofO2 (isEO (isN NS)) x y) >>= fun d => (pure []) >>= fun ds => pure (d :: ds)) >>= fun ds => pure (d :: ds)) >>= fun ds => pure (d :: ds)) >>= fun ds => pure (d :: ds)) >>= fun ds => pure (d :: ds)) >>= mkLst) >>= fun v3 => (((((pure p0) >>= fun x => (pure (D.cls "InvalidOctets")) >>= fun y => ofO2 (isEO (isN NS)) x y) >>= fun d => (((pure p0) >>= fun x => (pure (D.cls "InvalidCode")) >>= fun y => ofO2 (isEO (isN NS)) x y) >>= fun d => (((pure p0) >>= fun x => (pure (D.cls "InvalidBundle")) >>= fun y => ofO2 (isEO (isN NS)) x y) >>= fun d => (((pure p0) >>= fun x => (pure (D.cls "NotFound")) >>= fun y => ofO2 (isEO (isN NS)) x y) >>= fun d => (((pure p0) >>= fun x => (pure (D.cls "NotNow")) >>= fun y => ofO2 (isEO (isN NS)) x y) >>= fun d => (pure []) >>= fun ds => pure (d :: ds)) >>= fun ds => pure (d :: ds)) >>= fun ds => pure (d :: ds)) >>= fun ds => pure (d :: ds)) >>= fun ds => pure (d :: ds)) >>= mkLst) >>= fun v4 => (((((pure p0) >>= fun x => (pure (D.cls "BadText")) >>= fun y => ofO2 (isEO (isN NS)) x y) >>= fun d => (((pure p0) >>= fun x => (pure (D.cls "TooMany")) >>= fun y => ofO2 (isEO (isN NS)) x y) >>= fun d => (pure []) >>= fun ds => pure (d :: ds)) >>= fun ds => pure (d :: ds)) >>= mkLst) >>= fun v5 => ((((((pure v1) >>= fun x => (pure v2) >>= fun y => addD x y) >>= fun x => (pure v3) >>= fun y => addD x y) >>= fun x => (pure v4) >>= fun y => addD x y) >>= fun x => (pure v5) >>= fun y => addD x y) >>= fun d => pure (.rt d))))))) : M (Out Unit Empty)) >>= retU
theorem fo__law_signs {f : Addr} {fd : FuncData} (B : Gb fa fn K mg) (BE : BEx P w K mg base) (F : FunD K "_law_signs" "_law_signs" (defArgs (top 30)) (defBody (top 30)) (defScope (top 30)) [] [] f fd) : FnOk P w K mg base (L2.CX P w) 1 f fd ["e"] (spD K (clN NS K) 1 (ap1 m__law_signs)) := by
  refine fn_okD (k := 0) F sc__law_signs rfl fun cdv A outer s E F0 H0 p0 ds hl hr => ?_
  have nd := sc__law_signs.nd
  have PO := po_def (P := P) (w := w) (K := K) (mg := mg) (base := base) (N := ["e", "first", "second", "third", "fourth", "fifth"]) (qual := "_law_signs") (scope := defScope (top 30)) (f := f) (cdv := cdv) (A := A) (outer := outer) (s := s) (H0 := H0) (E := E)
  match ds, hl with
  | [p0], _ => exact ⟨_, rfl, db_asg 1 (DF.de (df_lstA (da_cons (de_isX (exK_of BE.ex) (B.free 5) (DE.op (de_var 0 (d := p0))) (DE.op (de_cname (n := "InvalidNumber") (B.glo 32) (clN_in (ns := NS) (K := K) (n := "InvalidNumber") rfl)))) (da_cons (de_isX (exK_of BE.ex) (B.free 5) (DE.op (de_var 0 (d := p0))) (DE.op (de_cname (n := "InvalidWord") (B.glo 56) (clN_in (ns := NS) (K := K) (n := "InvalidWord") rfl)))) (da_cons (de_isX (exK_of BE.ex) (B.free 5) (DE.op (de_var 0 (d := p0))) (DE.op (de_cname (n := "InvalidTree") (B.glo 52) (clN_in (ns := NS) (K := K) (n := "InvalidTree") rfl)))) (da_cons (de_isX (exK_of BE.ex) (B.free 5) (DE.op (de_var 0 (d := p0))) (DE.op (de_cname (n := "InvalidTrace") (B.glo 50) (clN_in (ns := NS) (K := K) (n := "InvalidTrace") rfl)))) (da_cons (de_isX (exK_of BE.ex) (B.free 5) (DE.op (de_var 0 (d := p0))) (DE.op (de_cname (n := "InvalidMap") (B.glo 28) (clN_in (ns := NS) (K := K) (n := "InvalidMap") rfl)))) (da_nil)))))))) (fun v1 => db_asg 2 (DF.de (df_lstA (da_cons (de_isX (exK_of BE.ex) (B.free 5) (DE.op (de_var 0 (d := p0))) (DE.op (de_cname (n := "InvalidTable") (B.glo 46) (clN_in (ns := NS) (K := K) (n := "InvalidTable") rfl)))) (da_cons (de_isX (exK_of BE.ex) (B.free 5) (DE.op (de_var 0 (d := p0))) (DE.op (de_cname (n := "InvalidText") (B.glo 48) (clN_in (ns := NS) (K := K) (n := "InvalidText") rfl)))) (da_cons (de_isX (exK_of BE.ex) (B.free 5) (DE.op (de_var 0 (d := p0))) (DE.op (de_cname (n := "InvalidName") (B.glo 30) (clN_in (ns := NS) (K := K) (n := "InvalidName") rfl)))) (da_cons (de_isX (exK_of BE.ex) (B.free 5) (DE.op (de_var 0 (d := p0))) (DE.op (de_cname (n := "InvalidSort") (B.glo 44) (clN_in (ns := NS) (K := K) (n := "InvalidSort") rfl)))) (da_cons (de_isX (exK_of BE.ex) (B.free 5) (DE.op (de_var 0 (d := p0))) (DE.op (de_cname (n := "InvalidSet") (B.glo 42) (clN_in (ns := NS) (K := K) (n := "InvalidSet") rfl)))) (da_nil)))))))) (fun v2 => db_asg 3 (DF.de (df_lstA (da_cons (de_isX (exK_of BE.ex) (B.free 5) (DE.op (de_var 0 (d := p0))) (DE.op (de_cname (n := "InvalidRoute") (B.glo 38) (clN_in (ns := NS) (K := K) (n := "InvalidRoute") rfl)))) (da_cons (de_isX (exK_of BE.ex) (B.free 5) (DE.op (de_var 0 (d := p0))) (DE.op (de_cname (n := "InvalidRow") (B.glo 40) (clN_in (ns := NS) (K := K) (n := "InvalidRow") rfl)))) (da_cons (de_isX (exK_of BE.ex) (B.free 5) (DE.op (de_var 0 (d := p0))) (DE.op (de_cname (n := "InvalidGroup") (B.glo 26) (clN_in (ns := NS) (K := K) (n := "InvalidGroup") rfl)))) (da_cons (de_isX (exK_of BE.ex) (B.free 5) (DE.op (de_var 0 (d := p0))) (DE.op (de_cname (n := "InvalidOrder") (B.glo 36) (clN_in (ns := NS) (K := K) (n := "InvalidOrder") rfl)))) (da_cons (de_isX (exK_of BE.ex) (B.free 5) (DE.op (de_var 0 (d := p0))) (DE.op (de_cname (n := "InvalidWeb") (B.glo 54) (clN_in (ns := NS) (K := K) (n := "InvalidWeb") rfl)))) (da_nil)))))))) (fun v3 => db_asg 4 (DF.de (df_lstA (da_cons (de_isX (exK_of BE.ex) (B.free 5) (DE.op (de_var 0 (d := p0))) (DE.op (de_cname (n := "InvalidOctets") (B.glo 34) (clN_in (ns := NS) (K := K) (n := "InvalidOctets") rfl)))) (da_cons (de_isX (exK_of BE.ex) (B.free 5) (DE.op (de_var 0 (d := p0))) (DE.op (de_cname (n := "InvalidCode") (B.glo 24) (clN_in (ns := NS) (K := K) (n := "InvalidCode") rfl)))) (da_cons (de_isX (exK_of BE.ex) (B.free 5) (DE.op (de_var 0 (d := p0))) (DE.op (de_cname (n := "InvalidBundle") (B.glo 22) (clN_in (ns := NS) (K := K) (n := "InvalidBundle") rfl)))) (da_cons (de_isX (exK_of BE.ex) (B.free 5) (DE.op (de_var 0 (d := p0))) (DE.op (de_cname (n := "NotFound") (B.glo 58) (clN_in (ns := NS) (K := K) (n := "NotFound") rfl)))) (da_cons (de_isX (exK_of BE.ex) (B.free 5) (DE.op (de_var 0 (d := p0))) (DE.op (de_cname (n := "NotNow") (B.glo 60) (clN_in (ns := NS) (K := K) (n := "NotNow") rfl)))) (da_nil)))))))) (fun v4 => db_asg 5 (DF.de (df_lstA (da_cons (de_isX (exK_of BE.ex) (B.free 5) (DE.op (de_var 0 (d := p0))) (DE.op (de_cname (n := "BadText") (B.glo 20) (clN_in (ns := NS) (K := K) (n := "BadText") rfl)))) (da_cons (de_isX (exK_of BE.ex) (B.free 5) (DE.op (de_var 0 (d := p0))) (DE.op (de_cname (n := "TooMany") (B.glo 61) (clN_in (ns := NS) (K := K) (n := "TooMany") rfl)))) (da_nil))))) (fun v5 => db_ret (de_add (DE.op (de_add (DE.op (de_add (DE.op (de_add (DE.op (de_var 1 (d := v1))) (DE.op (de_var 2 (d := v2))))) (DE.op (de_var 3 (d := v3))))) (DE.op (de_var 4 (d := v4))))) (DE.op (de_var 5 (d := v5))))) nd) nd) nd) nd) nd⟩
theorem ok__law_signs (B : Gb fa fn K mg) (BE : BEx P w K mg base) : Cal P w K mg base (spD K (clN NS K) 1 (ap1 m__law_signs)) "_law_signs" 1 := by
  obtain ⟨fd, F⟩ := B.def_ 5 (d := dD "_law_signs" "_law_signs" 30)
  exact cal_of (q := "_law_signs") (st := top 30) F (B.glo 17) (fo__law_signs B BE F) (fun _ _ _ _ _ _ us hl => match us, hl with | [_], _ => rfl)
theorem sc__law_right : FnScope ["text", "number", "made", "at", "e", "other"] ["text", "number"] (defScope (top 31)) := ⟨rfl, rfl, rfl, by decide +kernel, rfl, by decide +kernel, by decide +kernel⟩
def m__law_right (p0 : D) (p1 : D) : M D := ((((pure p0) >>= fun a0 => (pure p1) >>= fun a1 => m__law_made a0 a1) >>= fun v1 => ((((pure v1) >>= enumM) >>= fun ds => forL pat2 (fun (s2 : Unit) a3 => ((((pure a3.2) >>= fun a0 => m__law_signs a0) >>= fun x => (((pure (D.int 22)) >>= rng1) >>= compM pat1 (fun a4 => (pure true)) (fun a4 => (valM ((pure a4) >>= fun x => (pure a3.1) >>= fun y => cmpM eqO x y)))) >>= fun y => cmpM neO x y) >>= fun t => cond t ((((pure (D.bool false)) >>= fun d => pure (.rt d)) : M (Out Empty _)) >>= Out.void) ((((((pure a3.2) >>= fun x => (pure (D.cls "TraceError")) >>= fun y => ofO2 (isEO (isN NS)) x y) >>= asBool) >>= fun b => pure (!b)) >>= fun t => cond t (pure true) ((((pure a3.2) >>= fun x => (pure (D.ty .verr)) >>= fun y => ofO2 (isEO (isN NS)) x y) >>= asBool) >>= fun b => pure (!b))) >>= fun t => cond t ((((pure (D.bool false)) >>= fun d => pure (.rt d)) : M (Out Empty _)) >>= Out.void) (pure (.nx ()))))) ds ()) >>= Out.on (fun (s5 : Unit) => (((((((pure v1) >>= fun x => (pure (D.int 20)) >>= fun y => M.of (ixO x y)) >>= ofO (attO "at")) >>= fun d => ((((pure v1) >>= fun x => (pure (D.int 21)) >>= fun y => M.of (ixO x y)) >>= ofO (attO "limit")) >>= fun d => (pure []) >>= fun ds => pure (d :: ds)) >>= fun ds => pure (d :: ds)) >>= mkLst) >>= fun a0 => (((pure p1) >>= fun d => ((pure p1) >>= fun d => (pure []) >>= fun ds => pure (d :: ds)) >>= fun ds => pure (d :: ds)) >>= mkLst) >>= fun a1 => M__law_like a0 a1) >>= fun d => pure (.rt d))))) : M (Out Unit Empty)) >>= retU
theorem fo__law_right {f : Addr} {fd : FuncData} (B : Gb fa fn K mg) (BE : BEx P w K mg base) (F : FunD K "_law_right" "_law_right" (defArgs (top 31)) (defBody (top 31)) (defScope (top 31)) [] [] f fd) : FnOk P w K mg base (L2.CX P w) 15 f fd ["text", "number"] (spD K (clN NS K) 2 (ap2 m__law_right)) := by
  refine fn_okD (k := 14) F sc__law_right rfl fun cdv A outer s E F0 H0 p0 ds hl hr => ?_
  have nd := sc__law_right.nd
  have PO := po_def (P := P) (w := w) (K := K) (mg := mg) (base := base) (N := ["text", "number", "made", "at", "e", "other"]) (qual := "_law_right") (scope := defScope (top 31)) (f := f) (cdv := cdv) (A := A) (outer := outer) (s := s) (H0 := H0) (E := E)
  match ds, hl with
  | [p0, p1], _ => exact ⟨_, rfl, db_asg 2 (de_c2 (ok__law_made B BE) (hr.mono (by decide)) tk_def (de_var 0 (d := p0)) (de_var 1 (d := p1))) (fun v1 => db_cons (ds_for (toS := (fun (s : Unit) => [.val p0, .val p1, .val v1, .no, .no, .no])) () PO rfl (by repeat (first | exact Sub.nil | refine Sub.keep ?_ | refine Sub.drop ?_)) (di_enum (de_var 2 (d := v1)) (by rfl) (B.free 3)) (fun _ => dg2 3 4 rfl nd) (fun s2 a3 => db_ifT (dc_c (c_ne hr) (DE.op (de_c1 (ok__law_signs B BE) (hr.mono (by decide)) tk_def (de_var 4 (d := a3.2)))) (DF.op (df_lc [("other", 5)] [5] rfl nd (DI.dj (di_range1 (de_int) (by rfl) (B.free 8))) (blkOk_by (N := ["text", "number", "made", "at", "e", "other"]) (sc := defScope (top 31)) (by decide +kernel)) (fun _ _ _ _ _ => dg1 5 nd) (fun _ _ _ _ _ a4 => dq_nil) (fun _ _ _ _ _ a4 => de_c (c_eq hr) (DE.op (de_var 5 (d := a4))) (DE.op (de_var 3 (d := a3.1))))))) (db_ret (de_bool)) (db_ifT (DW.dc (dw_or (dc_not (dc_val (de_isX (exK_of BE.ex) (B.free 5) (DE.op (de_var 4 (d := a3.2))) (DE.op (de_cname (n := "TraceError") (B.glo 63) (clN_in (ns := NS) (K := K) (n := "TraceError") rfl)))))) (dw_or1 (dc_not (dc_val (de_isX (exK_of BE.ex) (B.free 5) (DE.op (de_var 4 (d := a3.2))) (DE.op (de_verr (B.free 0))))))))) (db_ret (de_bool)) (db_nil (s := ()) (by repeat (first | exact Sub.nil | refine Sub.keep ?_ | refine Sub.drop ?_)))))) (fun s5 => db_ret (de_c2 (ok__law_like B BE) (hr.mono (by decide)) tk_def (DF.de (df_lstA (da_cons (de_att (f := "at") rfl (att_of BE.ex (by decide)) (de_ix (DE.op (de_var 2 (d := v1))) (DE.op (de_int)) (un1 hr))) (da_cons (de_att (f := "limit") rfl (att_of BE.ex (by decide)) (de_ix (DE.op (de_var 2 (d := v1))) (DE.op (de_int)) (un1 hr))) (da_nil))))) (DF.de (df_lstA (da_cons (de_var 1 (d := p1)) (da_cons (de_var 1 (d := p1)) (da_nil)))))))) nd⟩
theorem ok__law_right (B : Gb fa fn K mg) (BE : BEx P w K mg base) : Cal P w K mg base (spD K (clN NS K) 2 (ap2 m__law_right)) "_law_right" 15 := by
  obtain ⟨fd, F⟩ := B.def_ 3 (d := dD "_law_right" "_law_right" 31)
  exact cal_of (q := "_law_right") (st := top 31) F (B.glo 15) (fo__law_right B BE F) (fun _ _ _ _ _ _ us hl => match us, hl with | [_, _], _ => rfl)
theorem sc__law_roll : FnScope ["cup", "many", "found"] ["cup", "many"] (defScope (top 26)) := ⟨rfl, rfl, rfl, by decide +kernel, rfl, by decide +kernel, by decide +kernel⟩
def m__law_roll (p0 : D) (p1 : D) : M D := (((((pure p0) >>= fun x => (pure (D.int 0)) >>= fun y => ixR x y) >>= fun x => (pure (D.int 0)) >>= fun y => cmpM gtO x y) >>= fun t => cond t (((((((pure p0) >>= fun x => (pure (D.int 0)) >>= fun y => ixR x y) >>= ofO intO) >>= fun x => (pure p1) >>= fun y => modD x y) >>= fun v1 => ((((pure p0) >>= fun x => (pure (D.int 0)) >>= fun y => ixR x y) >>= fun x => (pure p1) >>= fun y => fdivD x y) >>= fun v => (pure p0) >>= fun o => (pure (D.int 0)) >>= fun i => setR o i v >>= fun _ => ((pure v1) >>= fun d => pure (.rt d)))) : M (Out Empty _)) >>= Out.void) (((((((pure p0) >>= fun x => (pure (D.int 1)) >>= fun y => ixR x y) >>= fun x => (pure (D.int 26417)) >>= fun y => mulD x y) >>= fun x => (pure (D.int 61153)) >>= fun y => addD x y) >>= ofO intO) >>= fun x => (pure (D.int 1048576)) >>= fun y => modD x y) >>= fun v => (pure p0) >>= fun o => (pure (D.int 1)) >>= fun i => setR o i v >>= fun _ => ((((((pure p0) >>= fun x => (pure (D.int 1)) >>= fun y => ixR x y) >>= fun x => (pure (D.int 157)) >>= fun y => fdivD x y) >>= ofO intO) >>= fun x => (pure p1) >>= fun y => modD x y) >>= fun d => pure (.rt d)))) : M (Out Unit Empty)) >>= retU
theorem fo__law_roll {f : Addr} {fd : FuncData} (B : Gb fa fn K mg) (BE : BEx P w K mg base) (F : FunD K "_law_roll" "_law_roll" (defArgs (top 26)) (defBody (top 26)) (defScope (top 26)) [] [] f fd) : FnOk P w K mg base (L2.CX P w) 1 f fd ["cup", "many"] (spD K (clN NS K) 2 (ap2 m__law_roll)) := by
  refine fn_okD (k := 0) F sc__law_roll rfl fun cdv A outer s E F0 H0 p0 ds hl hr => ?_
  have nd := sc__law_roll.nd
  have PO := po_def (P := P) (w := w) (K := K) (mg := mg) (base := base) (N := ["cup", "many", "found"]) (qual := "_law_roll") (scope := defScope (top 26)) (f := f) (cdv := cdv) (A := A) (outer := outer) (s := s) (H0 := H0) (E := E)
  match ds, hl with
  | [p0, p1], _ => exact ⟨_, rfl, db_ifT (dc_c c_gt (DE.op (de_ixR (DE.op (de_var 0 (d := p0))) (DE.op (de_int)))) (DE.op (de_int))) (db_asg 2 (de_mod (DE.op (de_intc (B.free 4) (DE.op (de_ixR (DE.op (de_var 0 (d := p0))) (DE.op (de_int)))))) (DE.op (de_var 1 (d := p1)))) (fun v1 => db_setR (de_fdiv (DE.op (de_ixR (DE.op (de_var 0 (d := p0))) (DE.op (de_int)))) (DE.op (de_var 1 (d := p1)))) (de_var 0 (d := p0)) (de_int) (db_ret (de_var 2 (d := v1)))) nd) (db_setR (de_mod (DE.op (de_intc (B.free 4) (DE.op (de_add (DE.op (de_mul (DE.op (de_ixR (DE.op (de_var 0 (d := p0))) (DE.op (de_int)))) (DE.op (de_int)))) (DE.op (de_int)))))) (DE.op (de_int))) (de_var 0 (d := p0)) (de_int) (db_ret (de_mod (DE.op (de_intc (B.free 4) (DE.op (de_fdiv (DE.op (de_ixR (DE.op (de_var 0 (d := p0))) (DE.op (de_int)))) (DE.op (de_int)))))) (DE.op (de_var 1 (d := p1))))))⟩
theorem ok__law_roll (B : Gb fa fn K mg) (BE : BEx P w K mg base) : Cal P w K mg base (spD K (clN NS K) 2 (ap2 m__law_roll)) "_law_roll" 1 := by
  obtain ⟨fd, F⟩ := B.def_ 4 (d := dD "_law_roll" "_law_roll" 26)
  exact cal_of (q := "_law_roll") (st := top 26) F (B.glo 16) (fo__law_roll B BE F) (fun _ _ _ _ _ _ us hl => match us, hl with | [_, _], _ => rfl)
theorem sc_law : FnScope ["script", "base", "cup", "turn", "text", "sign", "at"] ["script"] (defScope (top 32)) := ⟨rfl, rfl, rfl, by decide +kernel, rfl, by decide +kernel, by decide +kernel⟩
def m_law (p0 : D) : M D := ((((pure (D.str [116, 111, 108, 100])) >>= fun _ => pure (.exc "TraceError" [])) >>= fun v1 => ((((((pure v1) >>= fun x => (pure (D.ty .verr)) >>= fun y => ofO2 (isEO (isN NS)) x y) >>= asBool) >>= fun b => pure (!b)) >>= fun t => cond t (pure true) (((((pure v1) >>= fun a0 => m__law_signs a0) >>= itemsM) >>= compM pat1 (fun a2 => ((pure a2) >>= asBool)) (fun a2 => (pure a2))) >>= fun x => ((pure []) >>= mkLst) >>= fun y => cmpM neO x y)) >>= fun t => cond t ((((pure (D.bool false)) >>= fun d => pure (.rt d)) : M (Out Empty _)) >>= Out.void) ((((pure p0) >>= fun a0 => m__law_cup a0) >>= placeM) >>= fun v3 => ((((pure (D.int 4)) >>= rng1) >>= fun ds => forL pat1 (fun (s4 : Unit) a5 => ((((((pure v3) >>= fun a0 => (pure (D.int 9)) >>= fun a1 => m__law_roll a0 a1) >>= rng1) >>= compM pat1 (fun a7 => (pure true)) (fun a7 => ((((pure (D.str [97])) >>= fun d => ((pure (D.str [98])) >>= fun d => ((pure (D.str [32])) >>= fun d => ((pure (D.str [48])) >>= fun d => ((pure (D.str [])) >>= fun d => (pure []) >>= fun ds => pure (d :: ds)) >>= fun ds => pure (d :: ds)) >>= fun ds => pure (d :: ds)) >>= fun ds => pure (d :: ds)) >>= fun ds => pure (d :: ds)) >>= mkTup) >>= fun x => ((pure v3) >>= fun a0 => (pure (D.int 5)) >>= fun a1 => m__law_roll a0 a1) >>= fun y => M.of (ixO x y)))) >>= fun l => M.of (joinO [] l)) >>= fun v6 => (((((pure v6) >>= fun a0 => ((pure v3) >>= fun a0 => (pure (D.int 5000)) >>= fun a1 => m__law_roll a0 a1) >>= fun a1 => m__law_right a0 a1) >>= asBool) >>= fun b => pure (!b)) >>= fun t => cond t ((((pure (D.bool false)) >>= fun d => pure (.rt d)) : M (Out Empty _)) >>= Out.void) (pure (.nx ()))))) ds ()) >>= Out.on (fun (s8 : Unit) => ((pure (D.bool true)) >>= fun d => pure (.rt d))))))) : M (Out Unit Empty)) >>= retU
theorem fo_law {f : Addr} {fd : FuncData} (B : Gb fa fn K mg) (BE : BEx P w K mg base) (F : FunD K "law" "law" (defArgs (top 32)) (defBody (top 32)) (defScope (top 32)) [] [] f fd) : FnOk P w K mg base (L2.CX P w) 16 f fd ["script"] (spD K (clN NS K) 1 (ap1 m_law)) := by
  refine fn_okD (k := 15) F sc_law rfl fun cdv A outer s E F0 H0 p0 ds hl hr => ?_
  have nd := sc_law.nd
  have PO := po_def (P := P) (w := w) (K := K) (mg := mg) (base := base) (N := ["script", "base", "cup", "turn", "text", "sign", "at"]) (qual := "law") (scope := defScope (top 32)) (f := f) (cdv := cdv) (A := A) (outer := outer) (s := s) (H0 := H0) (E := E)
  match ds, hl with
  | [p0], _ => exact ⟨_, rfl, db_asg 1 (de_exc0 (n := "TraceError") PySem.F.excBase_ValueError (B.exc 62).1 (B.glo 63) (B.exc 62).2 (clN_in (ns := NS) (K := K) (n := "TraceError") rfl) (de_str)) (fun v1 => db_ifT (DW.dc (dw_or (dc_not (dc_val (de_isX (exK_of BE.ex) (B.free 5) (DE.op (de_var 1 (d := v1))) (DE.op (de_verr (B.free 0)))))) (dw_or1 (dc_c (c_ne hr) (DF.op (df_lc [("sign", 5)] [5] rfl nd (DI.dj (di_seq (de_c1 (ok__law_signs B BE) (hr.mono (by decide)) tk_def (de_var 1 (d := v1))))) (blkOk_by (N := ["script", "base", "cup", "turn", "text", "sign", "at"]) (sc := defScope (top 32)) (by decide +kernel)) (fun _ _ _ _ _ => dg1 5 nd) (fun _ _ _ _ _ a2 => dq_one (dc_val (de_var 5 (d := a2)))) (fun _ _ _ _ _ a2 => de_var 5 (d := a2)))) (DF.op (df_lstA (da_nil))))))) (db_ret (de_bool)) (db_asg 2 (DF.place (df_c1 (ok__law_cup B BE) (hr.mono (by decide)) tk_def (de_var 0 (d := p0)))) (fun v3 => db_cons (ds_for (toS := (fun (s : Unit) => [.val p0, .val v1, .val v3, .no, .no, .no, .no])) () PO rfl (by repeat (first | exact Sub.nil | refine Sub.keep ?_ | refine Sub.drop ?_)) (di_range1 (de_int) (by rfl) (B.free 8)) (fun _ => dg1 3 nd) (fun s4 a5 => db_asg 4 (de_join (DF.de (df_lc [("at", 6)] [6] rfl nd (DI.dj (di_range1 (de_c2 (ok__law_roll B BE) (hr.mono (by decide)) tk_def (de_var 2 (d := v3)) (de_int)) (by rfl) (B.free 8))) (blkOk_by (N := ["script", "base", "cup", "turn", "text", "sign", "at"]) (sc := defScope (top 32)) (by decide +kernel)) (fun _ _ _ _ _ => dg1 6 nd) (fun _ _ _ _ _ a7 => dq_nil) (fun _ _ _ _ _ a7 => de_ix (DE.op (de_tupA (da_cons (de_str) (da_cons (de_str) (da_cons (de_str) (da_cons (de_str) (da_cons (de_str) (da_nil)))))))) (DE.op (de_c2 (ok__law_roll B BE) (hr.mono (by decide)) tk_blk (de_var 2 (d := v3)) (de_int))) (un1 hr))))) (fun v6 => db_ifT (dc_not (dc_val (de_c2 (ok__law_right B BE) (hr.mono (by decide)) tk_def (de_var 4 (d := v6)) (de_c2 (ok__law_roll B BE) (hr.mono (by decide)) tk_def (de_var 2 (d := v3)) (de_int))))) (db_ret (de_bool)) (db_nil (s := ()) (by repeat (first | exact Sub.nil | refine Sub.keep ?_ | refine Sub.drop ?_)))) nd)) (fun s8 => db_ret (de_bool))) nd)) nd⟩
theorem ok_law (B : Gb fa fn K mg) (BE : BEx P w K mg base) : Cal P w K mg base (spD K (clN NS K) 1 (ap1 m_law)) "law" 16 := by
  obtain ⟨fd, F⟩ := B.def_ 7 (d := dD "law" "law" 32)
  exact cal_of (q := "law") (st := top 32) F (B.glo 19) (fo_law B BE F) (fun _ _ _ _ _ _ us hl => match us, hl with | [_], _ => rfl)
end
end LW
namespace LW
open PySem PySem.Spec PyProof.Rows L2 DL
abbrev R : PySem.W.OpenRow := PySem.W.OpenLaw.row PySem.Challenge.rw_waysretraced_k58_whole_errors
def defOf (s : Stmt) (q : Str) : FnC := some ((match s with | .FunctionDef n _ _ _ _ _ _ _ _ _ => n | _ => q), q, defArgs s, .stmts (defBody s), defScope s, mainGlobals, [("__class__" : Str)], .none, builtinsNs)
def cs : List (String × FnC) := [("BadText", defOf ini_BadText "BadText.__init__"), ("TooMany", defOf ini_TooMany "TooMany.__init__")]
def exA (K : PySem.W.Frag) : Bool := exAll NS FS K && (supB R.prog K "at" "BadText" && supB R.prog K "limit" "TooMany")
abbrev hk : PySem.W.Hook := hookE 4 fa fn exA cs
def ob (s : PySem.W.SharedT) : AlE := obsE 4 fa fn exA cs (HandSHeadRun.getT s)
theorem ob_eq (s : PySem.W.SharedT) : ob s = hk.obs s.abs := obsE_eq (HandSHeadRun.getT_eq s)
def loose : List Str := (["TraceError", "InvalidNumber", "InvalidWord", "InvalidTree", "InvalidTrace", "InvalidMap", "InvalidTable", "InvalidText", "InvalidName", "InvalidSort", "InvalidSet", "InvalidRoute", "InvalidRow", "InvalidGroup", "InvalidOrder", "InvalidWeb", "InvalidOctets", "InvalidCode", "InvalidBundle", "NotFound", "NotNow", "BadText", "TooMany", "_law_cup", "_law_roll", "_law_sort", "_law_like", "_law_made", "_law_signs", "_law_right"] : List Str)
theorem run (w : World) : HandSHeadRun.RunEq R (PySem.W.view R.prog [32]) hk ob 40000 loose w := by
  intro os
  kernel_rfl
end LW
namespace LW
open PySem PySem.Spec PyProof.Rows L2 DL
theorem app_bind {α β : Type} (m : M α) (f : α → M β) (c : Sto) : (m >>= f) c = match m c with
  | .ok a c' => f a c'
  | .err e c' => .err e c'
  | .bad => .bad := rfl
theorem app_pure {α : Type} (a : α) (c : Sto) : (pure a : M α) c = .ok a c := rfl
theorem bind_ok {α β : Type} {m : M α} {f : α → M β} {c c' : Sto} {a : α} (h : m c = .ok a c') : (m >>= f) c = f a c' := by
  rw [app_bind, h]
/-- the cup -/
def Cup (c : Sto) : Prop := ∃ a b : Int, c = [.lst [.int a, .int b]]
theorem roll_ok (m : Int) (hm : 0 < m) (hs : m.natAbs.blt 1073741824 = true) : ∀ c, Cup c → ∃ r c', m__law_roll (.ref 0) (.int m) c = .ok (.int r) c' ∧ Cup c' ∧ 0 ≤ r ∧ r < m := by
  rintro c ⟨a, b, rfl⟩
  have hne : (m != 0) = true := by simp; omega
  by_cases ha : 0 < a
  · refine ⟨a.fmod m, [.lst [.int (a.fdiv m), .int b]], ?_, ⟨_, _, rfl⟩, Int.fmod_nonneg_of_pos _ hm, Int.fmod_lt_of_pos _ hm⟩
    have e1 : gtO (.int a) (.int 0) = some true := by simp [gtO, ha]
    have e2 : modD (.int a) (.int m) = pure (.int (a.fmod m)) := by simp only [modD, hne, if_true]
    have e3 : fdivD (.int a) (.int m) = pure (.int (a.fdiv m)) := by simp only [fdivD, hne, hs, Bool.and_true, if_true]
    simp [m__law_roll, app_bind, app_pure, ixR, atI, ixN, cmpM, M.of, M.pure, e1, ofO, intO, e2, e3, setR, setI, Out.void, retU]
  · refine ⟨(((b * 26417 + 61153).fmod 1048576).fdiv 157).fmod m, [.lst [.int a, .int ((b * 26417 + 61153).fmod 1048576)]], ?_, ⟨_, _, rfl⟩, Int.fmod_nonneg_of_pos _ hm, Int.fmod_lt_of_pos _ hm⟩
    have e1 : gtO (.int a) (.int 0) = some false := by simp [gtO, ha]
    have e2 : ∀ z : Int, modD (.int z) (.int m) = pure (.int (z.fmod m)) := fun z => by simp only [modD, hne, if_true]
    have e3 : mulD (.int b) (.int 26417) = pure (.int (b * 26417)) := by
      have z : DL.small64 26417 = true := by decide
      simp [mulD, z]
    have e4 : ∀ z : Int, fdivD (.int z) (.int 157) = pure (.int (z.fdiv 157)) := fun z => rfl
    have e5 : ∀ z : Int, modD (.int z) (.int 1048576) = pure (.int (z.fmod 1048576)) := fun z => rfl
    simp [m__law_roll, app_bind, app_pure, ixR, atI, ixN, cmpM, M.of, M.pure, e1, ofO, intO, e2, e3, e4, e5, addD, setR, setI, Out.void, retU]
theorem cup_ok (ns : List Int) (hl : ns.length ≤ 63) : ∃ a b : Int, m__law_cup (.scr (ns.map .int)) [] = .ok (.lst [.int a, .int b]) [] := by
  have key : ∀ z : Int, (0 ≤ z) → ∃ a b : Int, ((((((pure (D.int z)) >>= fun x => ((pure (D.int 10)) >>= fun x => (pure (D.int 18)) >>= fun y => powD x y) >>= fun y => cmpM geO x y) >>= fun t => cond t ((pure (D.int z)) >>= fun x => (pure (D.int 337)) >>= fun y => fdivD x y) (pure (D.int 0))) >>= fun d => ((((((pure (D.int z)) >>= fun x => (pure (D.int 1117)) >>= fun y => mulD x y) >>= fun x => (pure (D.int 103963)) >>= fun y => addD x y) >>= ofO intO) >>= fun x => (pure (D.int 1048576)) >>= fun y => modD x y) >>= fun d => (pure []) >>= fun ds => pure (d :: ds)) >>= fun ds => pure (d :: ds)) >>= mkLst) : M D) [] = .ok (.lst [.int a, .int b]) [] := fun z hz => by
    have e3 : mulD (.int z) (.int 1117) = pure (.int (z * 1117)) := by
      have z1 : DL.small64 1117 = true := by decide
      simp [mulD, z1]
    have e4 : fdivD (.int z) (.int 337) = pure (.int (z.fdiv 337)) := rfl
    have e5 : ∀ z : Int, modD (.int z) (.int 1048576) = pure (.int (z.fmod 1048576)) := fun z => rfl
    have e6 : powD (.int 10) (.int 18) = pure (.int 1000000000000000000) := rfl
    have e7 : mkLst = fun ds => if short ds.length then pure (.lst ds) else M.bad := by funext ds; rfl
    by_cases h : (1000000000000000000 : Int) ≤ z
    · have e1 : geO (.int z) (.int 1000000000000000000) = some true := by simp [geO, h]
      exact ⟨z.fdiv 337, (z * 1117 + 103963).fmod 1048576, by simp [app_bind, app_pure, cmpM, M.of, M.pure, e1, e3, e4, e5, e6, addD, ofO, intO, mkLst, short]⟩
    · have e1 : geO (.int z) (.int 1000000000000000000) = some false := by simp [geO, h]
      exact ⟨0, (z * 1117 + 103963).fmod 1048576, by simp [app_bind, app_pure, cmpM, M.of, M.pure, e1, e3, e5, e6, addD, ofO, intO, mkLst, short]⟩
  have ex : ∀ z : Int, absO (.int z) = some (.int (if z < 0 then -z else z)) := fun z => rfl
  have hx : ∃ z : Int, ∀ f : D → M D, (((((((pure (D.scr (ns.map .int))) >>= ofO lstO) >>= fun x => (((pure (D.int 0)) >>= fun d => (pure []) >>= fun ds => pure (d :: ds)) >>= mkLst) >>= fun y => addD x y) >>= fun x => (pure (D.int 0)) >>= fun y => M.of (ixO x y)) >>= ofO absO) >>= f) : M D) [] = f (.int (if z < 0 then -z else z)) [] := by
    have hs : short ((ns.map D.int).length + [D.int 0].length) = true := by
      rw [List.length_map]
      exact Nat.ble_eq_true_of_le (by simp; omega)
    cases ns with
    | nil => exact ⟨0, fun f => rfl⟩
    | cons n ns =>
      refine ⟨n, fun f => ?_⟩
      have e1 : addD (.lst ((n :: ns).map .int)) (.lst [.int 0]) = pure (.lst ((n :: ns).map .int ++ [.int 0])) := by
        show (if short (((n :: ns).map D.int).length + [D.int 0].length) then _ else _) = _
        rw [if_pos hs]
      have e2 : ixO (.lst ((n :: ns).map D.int ++ [.int 0])) (.int 0) = some (.int n) := by
        have hp : (0 : Int) < (((n :: ns).map D.int ++ [D.int 0]).length : Nat) := by
          rw [List.length_append, List.length_map]
          simp only [List.length_cons]
          omega
        show ((if (0 : Int) ≤ 0 then (if (0 : Int) < (((n :: ns).map D.int ++ [D.int 0]).length : Nat) then some (Int.toNat 0) else none) else _).bind _) = _
        rw [if_pos (by decide), if_pos hp]
        rfl
      have e3 : mkLst [D.int 0] = pure (.lst [.int 0]) := rfl
      simp only [app_bind, app_pure, ofO, lstO, M.of, M.pure, e3, e1, e2, ex]
  obtain ⟨z, hz⟩ := hx
  obtain ⟨a, b, k⟩ := key (if z < 0 then -z else z) (by split <;> omega)
  refine ⟨a, b, ?_⟩
  unfold m__law_cup
  rw [hz]
  exact k
theorem sort_int (n : Int) (c : Sto) : m__law_sort (.int n) c = .ok (.int 2) c := by kernel_rfl
theorem like_i (R : D → D → M D) (n : Int) (c : Sto) : b__law_like R (.int n) (.int n) c = .ok (.bool true) c := by
  have e : eqO (.int n) (.int n) = some true := by
    have h : PyData.eqv (toP (.int n)) (toP (.int n)) = true := by simp [toP, PyData.eqv]
    show (if okP (.int n) && okP (.int n) then some (PyData.eqv (toP (.int n)) (toP (.int n))) else none) = _
    rw [h]
    rfl
  have h2 : b__law_like R (.int n) (.int n) c = ((valM ((pure (D.int n)) >>= fun x => (pure (D.int n)) >>= fun y => cmpM eqO x y)) >>= fun d => (pure (.rt d) : M (Out Unit Empty)) >>= retU) c := by kernel_rfl
  rw [h2]
  simp [app_bind, app_pure, valM, cmpM, e, M.of, M.pure, retU]
theorem like_ii (n : Int) (c : Sto) : M__law_like (.lst [.int n, .int n]) (.lst [.int n, .int n]) c = .ok (.bool true) c := by
  have hR : m__law_like 11 (.int n) (.int n) = pure (.bool true) := by
    funext c
    exact like_i (m__law_like 10) n c
  have h1 : ∀ R : D → D → M D, b__law_like R (.lst [.int n, .int n]) (.lst [.int n, .int n]) c = b__law_like (fun _ _ => R (.int n) (.int n)) (.lst [.int n, .int n]) (.lst [.int n, .int n]) c := fun R => by kernel_rfl
  have h2 : b__law_like (fun _ _ => pure (.bool true)) (.lst [.int n, .int n]) (.lst [.int n, .int n]) c = .ok (.bool true) c := by kernel_rfl
  show b__law_like (m__law_like 11) _ _ c = _
  rw [h1, hR, h2]
theorem right_ok (t : List Nat) (n : Int) (c : Sto) : m__law_right (.str t) (.int n) c = .ok (.bool true) c := by
  have h : m__law_right (.str t) (.int n) c = ((M__law_like (.lst [.int n, .int n]) (.lst [.int n, .int n]) >>= fun d => (pure (.rt d) : M (Out Unit Empty))) >>= retU) c := by kernel_rfl
  rw [h]
  simp [app_bind, app_pure, like_ii, retU]
def txtE (v3 : D) (a7 : D) : M D := ((((pure (D.str [97])) >>= fun d => ((pure (D.str [98])) >>= fun d => ((pure (D.str [32])) >>= fun d => ((pure (D.str [48])) >>= fun d => ((pure (D.str [])) >>= fun d => (pure []) >>= fun ds => pure (d :: ds)) >>= fun ds => pure (d :: ds)) >>= fun ds => pure (d :: ds)) >>= fun ds => pure (d :: ds)) >>= fun ds => pure (d :: ds)) >>= mkTup) >>= fun x => ((pure v3) >>= fun a0 => (pure (D.int 5)) >>= fun a1 => m__law_roll a0 a1) >>= fun y => M.of (ixO x y))
def lbody (v3 : D) (s4 : Unit) (a5 : D) : M (Out Unit Unit) := (((((pure v3) >>= fun a0 => (pure (D.int 9)) >>= fun a1 => m__law_roll a0 a1) >>= rng1) >>= compM pat1 (fun a7 => (pure true)) (txtE v3)) >>= fun l => M.of (joinO [] l)) >>= fun v6 => (((((pure v6) >>= fun a0 => ((pure v3) >>= fun a0 => (pure (D.int 5000)) >>= fun a1 => m__law_roll a0 a1) >>= fun a1 => m__law_right a0 a1) >>= asBool) >>= fun b => pure (!b)) >>= fun t => cond t ((((pure (D.bool false)) >>= fun d => pure (.rt d)) : M (Out Empty _)) >>= Out.void) (pure (.nx ())))
theorem txtE_ok (a : D) (c : Sto) (hc : Cup c) : ∃ y c', txtE (.ref 0) a c = .ok (.str y) c' ∧ Cup c' ∧ y.length ≤ 1 := by
  obtain ⟨r, c', e, k, h0, h1⟩ := roll_ok 5 (by decide) (by rfl) c hc
  have ht : ∀ f : D → M D, ((((pure (D.str [97])) >>= fun d => ((pure (D.str [98])) >>= fun d => ((pure (D.str [32])) >>= fun d => ((pure (D.str [48])) >>= fun d => ((pure (D.str [])) >>= fun d => (pure []) >>= fun ds => pure (d :: ds)) >>= fun ds => pure (d :: ds)) >>= fun ds => pure (d :: ds)) >>= fun ds => pure (d :: ds)) >>= fun ds => pure (d :: ds)) >>= mkTup) >>= f) c = f (.tup [.str [97], .str [98], .str [32], .str [48], .str []]) c := fun f => rfl
  have hr : r = 0 ∨ r = 1 ∨ r = 2 ∨ r = 3 ∨ r = 4 := by omega
  have fin : ∀ y, ixO (.tup [.str [97], .str [98], .str [32], .str [48], .str []]) (.int r) = some (.str y) → y.length ≤ 1 → ∃ y c', txtE (.ref 0) a c = .ok (.str y) c' ∧ Cup c' ∧ y.length ≤ 1 := fun y hy hl => ⟨y, c', by
    unfold txtE
    rw [ht]
    simp only [app_bind, app_pure, e, hy, M.of, M.pure], k, hl⟩
  rcases hr with rfl | rfl | rfl | rfl | rfl
  · exact fin _ rfl (by decide)
  · exact fin _ rfl (by decide)
  · exact fin _ rfl (by decide)
  · exact fin _ rfl (by decide)
  · exact fin _ rfl (by decide)
theorem comp_ok : ∀ (ds : List D) (c : Sto), Cup c → ∃ ys c', compL pat1 (fun _ => pure true) (txtE (.ref 0)) ds c = .ok (ys.map D.str) c' ∧ Cup c' ∧ ys.length = ds.length ∧ sumL ys ≤ ds.length
  | [], c, hc => ⟨[], c, rfl, hc, rfl, Nat.le_refl _⟩
  | d :: ds, c, hc => by
    obtain ⟨y, c1, e1, k1, l1⟩ := txtE_ok d c hc
    obtain ⟨ys, c2, e2, k2, l2, l3⟩ := comp_ok ds c1 k1
    refine ⟨y :: ys, c2, ?_, k2, by simp [l2], ?_⟩
    · show (M.of (pat1 d) >>= fun a => M.ne (pure true : M Bool) >>= fun t => cond t (M.ne (txtE (.ref 0) a) >>= fun y => compL pat1 (fun _ => pure true) (txtE (.ref 0)) ds >>= fun r => pure (y :: r)) (compL pat1 (fun _ => pure true) (txtE (.ref 0)) ds)) c = _
      simp only [app_bind, app_pure, pat1, M.of, M.pure, M.ne, cond_true, e1, e2, List.map_cons]
    · unfold sumL at l3 ⊢
      rw [List.map_cons, List.sum_cons, List.length_cons]
      omega
theorem strs_map : ∀ ys : List (List Nat), strsO (ys.map D.str) = some ys
  | [] => rfl
  | y :: ys => by
    show (strsO (ys.map D.str)).map (y :: ·) = _
    rw [strs_map ys]
    rfl
theorem body_ok (a : D) (c : Sto) (hc : Cup c) : ∃ c', lbody (.ref 0) () a c = .ok (.nx ()) c' ∧ Cup c' := by
  obtain ⟨r, c1, e1, k1, h0, h1⟩ := roll_ok 9 (by decide) (by rfl) c hc
  have hz : small62 r = true := Nat.ble_eq_true_of_le (by omega)
  have er : rng1 (.int r) = pure (rangeL 0 r) := by
    show (if small62 r = true then pure (rangeL 0 r) else M.bad) = _
    rw [if_pos hz]
  have hl : (rangeL 0 r).length ≤ 8 := by
    unfold rangeL
    rw [List.length_map, List.length_range]
    omega
  obtain ⟨ys, c2, e2, k2, l2, l3⟩ := comp_ok (rangeL 0 r) c1 k1
  have ec : compM pat1 (fun _ => pure true) (txtE (.ref 0)) (rangeL 0 r) c1 = .ok (.lst (ys.map D.str)) c2 := by
    unfold compM
    rw [if_pos (show short (rangeL 0 r).length = true from Nat.ble_eq_true_of_le (by omega))]
    simp only [app_bind, app_pure, e2]
  have ej : joinO [] (.lst (ys.map D.str)) = some (.str (TL.joinL [] ys)) := by
    simp only [joinO, strs_map]
    rw [if_pos (Nat.ble_eq_true_of_le (by simp; omega))]
  obtain ⟨n, c3, e3, k3, _, _⟩ := roll_ok 5000 (by decide) (by rfl) c2 k2
  refine ⟨c3, ?_, k3⟩
  unfold lbody
  simp only [app_bind, app_pure, e1, er, ec, ej, M.of, M.pure, e3, right_ok, asBool, Bool.not_true, cond_false]
theorem plain (ns : List Int) (hl : ns.length ≤ 63) : ∃ c, m_law (.scr (ns.map .int)) [] = .ok (.bool true) c := by
  obtain ⟨a, b, e⟩ := cup_ok ns hl
  have h : m_law (.scr (ns.map .int)) [] = (((((pure (D.scr (ns.map .int))) >>= fun a0 => m__law_cup a0) >>= placeM) >>= fun v3 => ((((pure (D.int 4)) >>= rng1) >>= fun ds => forL pat1 (lbody v3) ds ()) >>= Out.on (fun (s8 : Unit) => ((pure (D.bool true)) >>= fun d => (pure (.rt d) : M (Out Unit Empty)))))) >>= retU) [] := by kernel_rfl
  rw [h]
  have h4 : ∀ c : Sto, ((pure (D.int 4) : M D) >>= rng1) c = .ok [.int 0, .int 1, .int 2, .int 3] c := fun c => by kernel_rfl
  obtain ⟨c1, e1, k1⟩ := body_ok (.int 0) [.lst [.int a, .int b]] ⟨a, b, rfl⟩
  obtain ⟨c2, e2, k2⟩ := body_ok (.int 1) c1 k1
  obtain ⟨c3, e3, k3⟩ := body_ok (.int 2) c2 k2
  obtain ⟨c4, e4, k4⟩ := body_ok (.int 3) c3 k3
  have hf : forL (S := Unit) (L := Empty) pat1 (lbody (.ref 0)) [.int 0, .int 1, .int 2, .int 3] () [.lst [.int a, .int b]] = .ok (.nx ()) c4 := by
    simp only [forL, app_bind, app_pure, M.of, M.pure, pat1, e1, e2, e3, e4]
  refine ⟨c4, ?_⟩
  have hp : placeM (.lst [.int a, .int b]) [] = .ok (.ref 0) [.lst [.int a, .int b]] := rfl
  rw [app_bind, app_bind, app_bind, app_bind, app_pure]
  simp only [e, hp]
  rw [app_bind, app_bind, h4]
  simp only [hf]
  rfl
end LW
namespace LW
open PySem PySem.Spec PyProof.Rows L2 DL
theorem supT_BadText : SupT "self" "at" "at" (defArgs ini_BadText) (defScope ini_BadText) (defBody ini_BadText) "BadText.__init__" := ⟨⟨_, rfl, rfl⟩, ⟨_, _, _, _, _, _, _, _, _, _, rfl, fun L fI cda cc => ⟨rfl, ⟨_, rfl⟩, rfl, rfl⟩⟩, by rfl, by rfl, by rfl, by rfl, by decide +kernel, rfl, rfl, rfl, by decide, by decide, by decide⟩
theorem supT_TooMany : SupT "self" "limit" "limit" (defArgs ini_TooMany) (defScope ini_TooMany) (defBody ini_TooMany) "TooMany.__init__" := ⟨⟨_, rfl, rfl⟩, ⟨_, _, _, _, _, _, _, _, _, _, rfl, fun L fI cda cc => ⟨rfl, ⟨_, rfl⟩, rfl, rfl⟩⟩, by rfl, by rfl, by rfl, by rfl, by decide +kernel, rfl, rfl, rfl, by decide, by decide, by decide⟩
theorem facts {w : World} {K : PySem.W.Frag} {h : Heap} {mg : Str → Option Value} {f : Addr} (X : K.In h) (N : h.Ns mainGlobals mg) (hfa : mg ("law" : Str) = some (.ref f)) (c : He.SaysD fa fn K) (ce : exA K = true) (cc : cs.map (fun c : String × FnC => fnC K c.1) = cs.map (fun c : String × FnC => c.2)) :
    ∃ fd : FuncData, (∀ (s : Shared) (v : Value), BindsTo s fd ⟨[v], []⟩ [("script", v)]) ∧ ∀ base : Heap, FnOk R.prog w K mg base (L2.CX R.prog w) 16 f fd ["script"] (spD K (clN NS K) 1 (ap1 m_law)) := by
  have B : Gb fa fn K mg := ⟨h, X, N, c⟩
  obtain ⟨e1, e2⟩ := He.ba ce
  obtain ⟨e2, e3⟩ := He.ba e2
  have c0 : fnC K "BadText" = defOf ini_BadText "BadText.__init__" := congrArg (fun l : List FnC => l.headD none) cc
  have c1 : fnC K "TooMany" = defOf ini_TooMany "TooMany.__init__" := congrArg (fun l : List FnC => l.tail.headD none) cc
  obtain ⟨fd, F⟩ := B.def_ 7 (d := dD "law" "law" 32)
  have e := hfa.symm.trans (B.glo (x := "law") 19)
  cases e
  have b := FunD.bindsA (ps := ["script"]) F fun _ _ _ _ _ _ us hl => match us, hl with | [_], _ => rfl
  refine ⟨fd, fun s v => b s [v] rfl, fun base => ?_⟩
  have BE : BEx R.prog w K mg base := ⟨e1,
    sup_of supT_BadText e2 c0 (by decide +kernel) (B.free 64) (fun _ _ _ _ _ _ _ us hl => match us, hl with | [_, _], _ => rfl),
    sup_of supT_TooMany e3 c1 (by decide +kernel) (B.free 64) (fun _ _ _ _ _ _ _ us hl => match us, hl with | [_, _], _ => rfl)⟩
  exact fo_law B BE F
end LW
open PySem PySem.W PySem.Calls PyProof.Rows
theorem PySem.Challenge.cw_waysretraced_k58_whole_errors_holds : PySem.Challenge.rw_waysretraced_k58_whole_errors.Holds := by
  w_on; o_law
  refine HandSHeadRun.head_any (r := OpenLaw.row PySem.Challenge.rw_waysretraced_k58_whole_errors) (q := view (OpenLaw.row PySem.Challenge.rw_waysretraced_k58_whole_errors).prog [32]) (H := LW.hk) (ob := LW.ob) (M := 40000) (loose := LW.loose) (d := HandSHeadRun.topDef (OpenLaw.row PySem.Challenge.rw_waysretraced_k58_whole_errors).prog 32) (kwd := []) LW.ob_eq
    (by kernel_rfl) (fun s => by kernel_rfl) LW.run (by kernel_rfl) (by kernel_rfl) (by kernel_rfl) (by rfl) (by first | assumption | decide +kernel) (by decide +kernel) ⟨rfl, rfl, rfl, rfl, rfl, by decide +kernel⟩ ?hw ?hc
  case hw => w_witness2
  case hc =>
    refine DL.law_end (l := PySem.Challenge.rw_waysretraced_k58_whole_errors) (m := 63) (k := 16) (arg := "script") rfl (by decide) (by kernel_rfl) ⟨rfl, by decide, by decide⟩ ?F
    intro w mg fa h Y G hmg0
    obtain ⟨K, KX, c, ce, cc⟩ := Y
    have hmg : mg ("law" : PySem.Str) = some (.ref fa) := by
      have e : (HandSHeadRun.topDef (OpenLaw.row PySem.Challenge.rw_waysretraced_k58_whole_errors).prog 32).name = ("law" : PySem.Str) := by kernel_rfl
      rw [← e]
      exact hmg0
    obtain ⟨fd, hb, hF⟩ := LW.facts (w := w) KX G hmg c ce cc
    exact ⟨K, fd, _, KX, hb, fun H a ns hl hS => DL.law_sp LW.plain H a ns hl hS, fun base _ _ => hF base⟩
