import PyProof.Rows.All
import Wide.All
import OpenK.AllK
import Wide.FinOn
import HandS.ForMost
import HandS.Walk
import HandS.SlotsOwn
import HandS.DictComp
import HandS.TupAny
import HandS.Zip
import HandS.IsInst
import HandS.Star
import HandS.Conv
import HandS.Strs
import HandS.Wide
import HandS.Style
import HandS.SortInts
import HandS.Codes
import KE.SortData
import PySem.Challenge.RW_settledplay_k30_whole_differences_of_wor
import PyProof.ReprRoads
import PyProof.ReprBulk
import HandS.Ends
import KE.GoesMore
import HandS.TupSets
import HandS.SetFor
import PyProof.TupleOfSeq
import HandS.ExcValue
import KE.KDictZip
import PyProof.ListNew
set_option Elab.async false
set_option linter.all false
set_option maxRecDepth 100000
set_option maxHeartbeats 0 in
open PySem.W PyProof.Rows PySem in
open_top hd for PySem.Challenge.rw_settledplay_k30_whole_differences_of_wor
set_option maxHeartbeats 4010000
/-! Kp0: what stays of the heap, plain data, what an expression's reading comes to. -/
namespace Kp
open L2 PySem PySem.Spec PyProof.Rows

/-! ### what stays -/
/-- the dice: a list of three ints -/
def IsDice (o : HO) : Prop := ∃ a b c : Int, o = .lst [.int a, .int b, .int c]
/-- what a call leaves: all that stood, but the dice at d, which are dice again -/
def Ext (d : Option Addr) (H H' : Hp) : Prop := ∀ a o, H a = some o → H' a = some o ∨ (d = some a ∧ IsDice o ∧ ∃ o', IsDice o' ∧ H' a = some o')
def Plain (u : HO) : Prop := ∀ o v, u ≠ .frz o v
/-- no dict, not locked -/
def Stiff (u : HO) : Prop := Plain u ∧ ∀ kvs, u ≠ .dK kvs
/-- what facts lean on: all that could be read may be read, locked or not -/
structure Wk (d : Option Addr) (H H' : Hp) : Prop where
  keep : ∀ a u, Plain u → ¬ (d = some a ∧ IsDice u) → Rd H a u → Rd H' a u
  dice : ∀ a o, d = some a → IsDice o → H a = some o → ∃ o', IsDice o' ∧ H' a = some o'
  ex : ∀ a u, Stiff u → ¬ (d = some a ∧ IsDice u) → H a = some u → H' a = some u
section
variable {d : Option Addr} {H H1 H2 H3 : Hp}
theorem tup_not (xs : List V) : ¬ IsDice (.tup xs) := fun ⟨_, _, _, h⟩ => by cases h
theorem dK_not (kvs : List (Key × V)) : ¬ IsDice (.dK kvs) := fun ⟨_, _, _, h⟩ => by cases h
theorem ext_not (φ : Heap → Prop) : ¬ IsDice (.ext φ) := fun ⟨_, _, _, h⟩ => by cases h
theorem xd_not (fs : List (Str × V)) : ¬ IsDice (.xd fs) := fun ⟨_, _, _, h⟩ => by cases h
theorem Ext.refl (H : Hp) : Ext d H H := fun _ _ h => .inl h
theorem Ext.trans (a : Ext d H H1) (b : Ext d H1 H2) : Ext d H H2 := fun x o h => by
  rcases a x o h with h1 | ⟨e, h1, o', h2, h3⟩
  · exact b x o h1
  · rcases b x o' h3 with h4 | ⟨_, _, o2, h5, h6⟩
    · exact .inr ⟨e, h1, o', h2, h4⟩
    · exact .inr ⟨e, h1, o2, h5, h6⟩
theorem Ext.any (a : Ext none H H1) : Ext d H H1 := fun x o h => by
  rcases a x o h with h1 | ⟨e, _⟩
  · exact .inl h1
  · cases e
theorem Ext.at {p : Addr} {o : HO} (a : Ext d H H1) (h : H p = some o) (nd : ¬ IsDice o) : H1 p = some o := by
  rcases a p o h with h1 | ⟨_, h1, _⟩
  · exact h1
  · exact absurd h1 nd
theorem Ext.at0 {p : Addr} {o : HO} (a : Ext none H H1) (h : H p = some o) : H1 p = some o := by
  rcases a p o h with h1 | ⟨e, _⟩
  · exact h1
  · cases e
theorem Ext.new {p : Addr} {o : HO} (h : H p = none) : Ext d H (upd H p o) := fun a u e => .inl (by
  rw [upd_ne (ne_of_none e h)]
  exact e)
theorem Ext.mut {p : Addr} {o : HO} (e : Ext d H H1) (h : H p = none) : Ext d H (upd H1 p o) := fun a u ha => by
  rw [upd_ne (ne_of_none ha h)]
  exact e a u ha
theorem Ext.free {p : Addr} (e : Ext d H H1) (h : H1 p = none) : H p = none := by
  cases q : H p with
  | none => rfl
  | some o =>
    rcases e p o q with h1 | ⟨_, _, _, _, h1⟩ <;> (rw [h] at h1; cases h1)
theorem dice_plain {o : HO} (h : IsDice o) : Plain o := fun _ _ z => by
  obtain ⟨_, _, _, rfl⟩ := h
  cases z
theorem Ext.wk (e : Ext d H H1) : Wk d H H1 where
  keep := fun a u hp hd r => by
    rcases r with r | ⟨o, r⟩
    · rcases e a u r with h | ⟨h1, h2, _⟩
      · exact .inl h
      · exact absurd ⟨h1, h2⟩ hd
    · rcases e a _ r with h | ⟨_, h2, _⟩
      · exact .inr ⟨o, h⟩
      · exact absurd rfl (dice_plain h2 o u)
  dice := fun a o hd ho h => by
    rcases e a o h with h1 | ⟨_, _, h1⟩
    · exact ⟨o, ho, h1⟩
    · exact h1
  ex := fun a u _ hd h => by
    rcases e a u h with q | ⟨h1, h2, _⟩
    · exact q
    · exact absurd ⟨h1, h2⟩ hd
theorem Wk.refl (H : Hp) : Wk d H H := (Ext.refl H).wk
theorem Wk.trans (a : Wk d H H1) (b : Wk d H1 H2) : Wk d H H2 where
  keep := fun x u hp hd r => b.keep x u hp hd (a.keep x u hp hd r)
  dice := fun x o hd ho h => by
    obtain ⟨o', h1, h2⟩ := a.dice x o hd ho h
    exact b.dice x o' hd h1 h2
  ex := fun x u hs hd h => b.ex x u hs hd (a.ex x u hs hd h)
theorem Wk.on (a : Wk d H H1) (b : Ext d H1 H2) : Wk d H H2 := a.trans b.wk
theorem rd_some {a : Addr} {u : HO} (r : Rd H a u) : H a ≠ none := fun z => by
  rcases r with r | ⟨_, r⟩ <;> (rw [z] at r; cases r)
/-- what H does not know may be changed -/
theorem Wk.mut {p : Addr} {o : HO} (e : Wk d H H1) (h : H p = none) : Wk d H (upd H1 p o) where
  keep := fun a u hp hd r => by
    have ne : a ≠ p := fun z => rd_some r (by rw [z]; exact h)
    rcases e.keep a u hp hd r with q | ⟨o', q⟩
    · exact .inl (by rw [upd_ne ne]; exact q)
    · exact .inr ⟨o', by rw [upd_ne ne]; exact q⟩
  dice := fun a u hd ho q => by
    have ne : a ≠ p := fun z => by
      rw [z, h] at q
      cases q
    obtain ⟨o', h1, h2⟩ := e.dice a u hd ho q
    exact ⟨o', h1, by rw [upd_ne ne]; exact h2⟩
  ex := fun a u hs hd q => by
    have ne : a ≠ p := fun z => by
      rw [z, h] at q
      cases q
    rw [upd_ne ne]
    exact e.ex a u hs hd q
/-- the dice change -/
theorem Wk.roll {p : Addr} {o : HO} (e : Wk (some p) H H1) (h0 : ∃ o, IsDice o ∧ H p = some o) (ho : IsDice o) : Wk (some p) H (upd H1 p o) where
  keep := fun a u hp hd r => by
    have ne : a ≠ p := fun z => by
      subst z
      obtain ⟨o0, g1, g2⟩ := h0
      rcases r with r | ⟨o', r⟩
      · rw [g2] at r
        cases r
        exact hd ⟨rfl, g1⟩
      · rw [g2] at r
        cases r
        exact dice_plain g1 _ _ rfl
    rcases e.keep a u hp hd r with q | ⟨o', q⟩
    · exact .inl (by rw [upd_ne ne]; exact q)
    · exact .inr ⟨o', by rw [upd_ne ne]; exact q⟩
  dice := fun a u hd _ q => by
    cases hd
    exact ⟨o, ho, upd_same⟩
  ex := fun a u hs hd q => by
    have ne : a ≠ p := fun z => by
      obtain ⟨o0, g1, g2⟩ := h0
      subst z
      rw [g2] at q
      cases q
      exact hd ⟨rfl, g1⟩
    rw [upd_ne ne]
    exact e.ex a u hs hd q
theorem Wk.lock {p : Addr} {kvs : List (Key × V)} {od : Obj} (h : H p = some (.dK kvs)) : Wk d H (upd H p (.frz od (.dK kvs))) where
  keep := fun a v _ _ r => by
    by_cases ha : a = p
    · subst ha
      rcases r with r | ⟨o, r⟩
      · rw [h] at r
        cases r
        exact .inr ⟨od, upd_same⟩
      · rw [h] at r
        cases r
    · rcases r with r | ⟨o, r⟩
      · exact .inl (by rw [upd_ne ha]; exact r)
      · exact .inr ⟨o, by rw [upd_ne ha]; exact r⟩
  dice := fun a v _ hv q => by
    have ne : a ≠ p := fun z => by
      rw [z, h] at q
      cases q
      exact dK_not _ hv
    exact ⟨v, hv, by rw [upd_ne ne]; exact q⟩
  ex := fun a u hs _ q => by
    have ne : a ≠ p := fun z => by
      rw [z, h] at q
      cases q
      exact hs.2 _ rfl
    rw [upd_ne ne]
    exact q
theorem Wk.unlock {p : Addr} {u : HO} {od : Obj} (h : H p = some (.frz od u)) : Wk d H (upd H p u) where
  keep := fun a v hv _ r => by
    by_cases ha : a = p
    · subst ha
      rcases r with r | ⟨o, r⟩
      · rw [h] at r
        cases r
        exact absurd rfl (hv od u)
      · rw [h] at r
        cases r
        exact .inl upd_same
    · rcases r with r | ⟨o, r⟩
      · exact .inl (by rw [upd_ne ha]; exact r)
      · exact .inr ⟨o, by rw [upd_ne ha]; exact r⟩
  dice := fun a v _ hv q => by
    have ne : a ≠ p := fun z => by
      rw [z, h] at q
      cases q
      exact dice_plain hv _ _ rfl
    exact ⟨v, hv, by rw [upd_ne ne]; exact q⟩
  ex := fun a v hs _ q => by
    have ne : a ≠ p := fun z => by
      rw [z, h] at q
      cases q
      exact hs.1 _ _ rfl
    rw [upd_ne ne]
    exact q
theorem tup_plain (xs : List V) : Plain (.tup xs) := fun _ _ h => by cases h
theorem lst_plain (xs : List V) : Plain (.lst xs) := fun _ _ h => by cases h
theorem dK_plain (kvs : List (Key × V)) : Plain (.dK kvs) := fun _ _ h => by cases h
theorem ext_plain (φ : Heap → Prop) : Plain (.ext φ) := fun _ _ h => by cases h
theorem Wk.ext (e : Wk d H H1) {a : Addr} {φ : Heap → Prop} (h : H a = some (.ext φ)) : H1 a = some (.ext φ) := e.ex a _ ⟨ext_plain φ, fun _ z => nomatch z⟩ (fun z => ext_not φ z.2) h
theorem Wk.xd (e : Wk d H H1) {a : Addr} {fs : List (Str × V)} (h : H a = some (.xd fs)) : H1 a = some (.xd fs) := e.ex a _ ⟨(fun _ _ z => nomatch z), fun _ z => nomatch z⟩ (fun z => xd_not fs z.2) h
theorem Wk.lst (e : Wk d H H1) {a : Addr} {xs : List V} (np : d ≠ some a) (h : H a = some (.lst xs)) : H1 a = some (.lst xs) := e.ex a _ ⟨lst_plain xs, fun _ z => nomatch z⟩ (fun z => np z.1) h
/-- the tuples stay -/
def Tk (H H' : Hp) : Prop := ∀ a xs, Rd H a (.tup xs) → Rd H' a (.tup xs)
theorem Wk.tk (e : Wk d H H1) : Tk H H1 := fun a xs h => e.keep a _ (tup_plain xs) (fun z => tup_not xs z.2) h
theorem Tk.of {p : Addr} {u o : HO} (h : H p = some u) (hu : ∀ xs, u ≠ .tup xs) (hf : ∀ o xs, u ≠ .frz o (.tup xs)) : Tk H (upd H p o) := fun a xs r => by
  have ne : a ≠ p := fun z => by
    subst z
    rcases r with r | ⟨o', r⟩
    · rw [h] at r
      cases r
      exact hu xs rfl
    · rw [h] at r
      cases r
      exact hf o' xs rfl
  rcases r with q | ⟨o', q⟩
  · exact .inl (by rw [upd_ne ne]; exact q)
  · exact .inr ⟨o', by rw [upd_ne ne]; exact q⟩
theorem Tk.lst {p : Addr} {ys : List V} {o : HO} (h : H p = some (.lst ys)) : Tk H (upd H p o) := Tk.of h (fun _ z => nomatch z) (fun _ _ z => nomatch z)
theorem Tk.dK {p : Addr} {ys : List (Key × V)} {o : HO} (h : H p = some (.dK ys)) : Tk H (upd H p o) := Tk.of h (fun _ z => nomatch z) (fun _ _ z => nomatch z)
theorem Tk.trans (a : Tk H H1) (b : Tk H1 H2) : Tk H H2 := fun x xs h => b x xs (a x xs h)
theorem Tk.sqT {K : PySem.W.Frag} (e : Tk H H1) {a : Addr} {xs : List V} (h : SqT K H a xs) : SqT K H1 a xs := by
  rcases h with h | h
  · exact .inl (e a xs h)
  · exact .inr h
theorem Wk.sqT {K : PySem.W.Frag} (e : Wk d H H1) {a : Addr} {xs : List V} (h : SqT K H a xs) : SqT K H1 a xs := e.tk.sqT h
end

/-! ### plain data: None, bools, ints, texts, tuples -/
mutual
inductive Dt (K : PySem.W.Frag) (H : Hp) : PyData → V → Prop
  | non : Dt K H .none .non
  | bl (b : Bool) : Dt K H (.bool b) (.bl b)
  | int (i : Int) : Dt K H (.int i) (.int i)
  | str (x : Str) : Dt K H (.str x) (.str x)
  | tup {a : Addr} {xs : List V} {ds : List PyData} : SqT K H a xs → DtA K H ds xs → Dt K H (.tuple ds) (.ref a)
inductive DtA (K : PySem.W.Frag) (H : Hp) : List PyData → List V → Prop
  | nil : DtA K H [] []
  | cons {v : V} {vs : List V} {x : PyData} {ds : List PyData} : Dt K H x v → DtA K H ds vs → DtA K H (x :: ds) (v :: vs)
end
section
variable {K : PySem.W.Frag} {d : Option Addr} {H H1 : Hp}
mutual
theorem Dt.tk (e : Tk H H1) : ∀ (x : PyData) (v : V), Dt K H x v → Dt K H1 x v
  | _, _, .non => .non
  | _, _, .bl b => .bl b
  | _, _, .int i => .int i
  | _, _, .str x => .str x
  | .tuple ds, _, .tup (xs := xs) h1 h2 => .tup (e.sqT h1) (DtA.tk e ds xs h2)
theorem DtA.tk (e : Tk H H1) : ∀ (ds : List PyData) (vs : List V), DtA K H ds vs → DtA K H1 ds vs
  | _, _, .nil => .nil
  | x :: ds, v :: vs, .cons h1 h2 => .cons (Dt.tk e x v h1) (DtA.tk e ds vs h2)
end
theorem Dt.up (e : Wk d H H1) (x : PyData) (v : V) (h : Dt K H x v) : Dt K H1 x v := Dt.tk e.tk x v h
theorem DtA.up (e : Wk d H H1) (ds : List PyData) (vs : List V) (h : DtA K H ds vs) : DtA K H1 ds vs := DtA.tk e.tk ds vs h
mutual
theorem Dt.dp : ∀ (x : PyData) (v : V), Dt K H x v → Dp K H v x
  | _, _, .non => .non
  | _, _, .bl b => .bl b
  | _, _, .int i => .int i
  | _, _, .str x => .str x
  | .tuple ds, _, .tup (xs := xs) h1 h2 => .tup h1 (DtA.dp ds xs h2)
theorem DtA.dp : ∀ (ds : List PyData) (vs : List V), DtA K H ds vs → DpAll K H vs ds
  | _, _, .nil => .nil
  | x :: ds, v :: vs, .cons h1 h2 => .cons (Dt.dp x v h1) (DtA.dp ds vs h2)
end
theorem DtA.length : ∀ {ds : List PyData} {vs : List V}, DtA K H ds vs → ds.length = vs.length
  | _, _, .nil => rfl
  | _, _, .cons _ t => by rw [List.length_cons, List.length_cons, DtA.length t]
theorem DtA.get : ∀ {ds : List PyData} {vs : List V} {i : Nat} {x : PyData}, DtA K H ds vs → ds[i]? = some x → ∃ v, vs[i]? = some v ∧ Dt K H x v
  | _, _, _, _, .nil, q => by simp at q
  | _, _, 0, _, .cons r _, q => by simp at q; subst q; exact ⟨_, rfl, r⟩
  | _, _, j + 1, x, .cons _ t, e => by
    obtain ⟨u, h1, h2⟩ := DtA.get (i := j) (x := x) t (by simpa using e)
    (exact ⟨u, by simpa using h1, h2⟩)
theorem DtA.getV : ∀ {ds : List PyData} {vs : List V} {i : Nat} {v : V}, DtA K H ds vs → vs[i]? = some v → ∃ x, ds[i]? = some x ∧ Dt K H x v
  | _, _, _, _, .nil, q => by simp at q
  | _, _, 0, _, .cons r _, q => by simp at q; subst q; exact ⟨_, rfl, r⟩
  | _, _, j + 1, x, .cons _ t, e => by
    obtain ⟨u, h1, h2⟩ := DtA.getV (i := j) (v := x) t (by simpa using e)
    (exact ⟨u, by simpa using h1, h2⟩)
theorem DtA.append : ∀ {ds es : List PyData} {vs ws : List V}, DtA K H ds vs → DtA K H es ws → DtA K H (ds ++ es) (vs ++ ws)
  | _, _, _, _, .nil, s => s
  | _, _, _, _, .cons r t, s => .cons r (DtA.append t s)
theorem DtA.take : ∀ {ds : List PyData} {vs : List V} (n : Nat), DtA K H ds vs → DtA K H (ds.take n) (vs.take n)
  | _, _, 0, _ => .nil
  | _, _, _ + 1, .nil => .nil
  | _, _, n + 1, .cons r t => .cons r (DtA.take n t)
theorem DtA.drop : ∀ {ds : List PyData} {vs : List V} (n : Nat), DtA K H ds vs → DtA K H (ds.drop n) (vs.drop n)
  | _, _, 0, r => r
  | _, _, _ + 1, .nil => .nil
  | _, _, n + 1, .cons _ t => DtA.drop n t
theorem DtA.snoc {ds : List PyData} {vs : List V} {x : PyData} {v : V} (h : DtA K H ds vs) (r : Dt K H x v) : DtA K H (ds ++ [x]) (vs ++ [v]) := h.append (.cons r .nil)
theorem DtA.ints : ∀ {ns : List Int} {vs : List V}, DtA K H (ns.map .int) vs → vs = ns.map V.int
  | [], _, .nil => rfl
  | n :: ns, _, .cons (.int _) t => by rw [DtA.ints t]; rfl
theorem DtA.of_ints : ∀ (ns : List Int), DtA K H (ns.map .int) (ns.map V.int)
  | [] => .nil
  | n :: ns => .cons (.int n) (DtA.of_ints ns)
theorem DtA.bools : ∀ {bs : List Bool} {vs : List V}, DtA K H (bs.map .bool) vs → vs = bs.map V.bl
  | [], _, .nil => rfl
  | n :: ns, _, .cons (.bl _) t => by rw [DtA.bools t]; rfl
end

/-! ### what is known of a value -/
abbrev Phi := V → Hp → Prop
class Sta (d : Option Addr) (F : Phi) : Prop where
  up : ∀ (v : V) (H H' : Hp), Wk d H H' → F v H → F v H'
/-- plain data -/
def D (K : PySem.W.Frag) (x : PyData) : Phi := fun v H => Dt K H x v
/-- a list of plain data that is no dice -/
def Ls (K : PySem.W.Frag) (d : Option Addr) (ds : List PyData) : Phi := fun v H => ∃ p xs, v = .ref p ∧ d ≠ some p ∧ H p = some (.lst xs) ∧ DtA K H ds xs
/-- the dice at p -/
def Dc (p : Addr) : Phi := fun v H => v = .ref p ∧ ∃ o, IsDice o ∧ H p = some o
/-- one of many -/
def Sm {α : Type} (F : α → Phi) : Phi := fun v H => ∃ a, F a v H
/-- .. with a fact -/
def Wi (p : Prop) (F : Phi) : Phi := fun v H => p ∧ F v H
instance (K : PySem.W.Frag) (d : Option Addr) (x : PyData) : Sta d (D K x) := ⟨fun v _ _ e h => Dt.up e x v h⟩
instance (K : PySem.W.Frag) (d : Option Addr) (ds : List PyData) : Sta d (Ls K d ds) := ⟨fun v H H' e ⟨p, xs, h1, h2, h3, h4⟩ => ⟨p, xs, h1, h2, e.lst h2 h3, DtA.up e ds xs h4⟩⟩
instance (p : Addr) : Sta (some p) (Dc p) := ⟨fun v H H' e ⟨h1, o, h2, h3⟩ => ⟨h1, e.dice p o rfl h2 h3⟩⟩
instance {α : Type} (d : Option Addr) (F : α → Phi) [h : ∀ a, Sta d (F a)] : Sta d (Sm F) := ⟨fun v H H' e ⟨a, q⟩ => ⟨a, (h a).up v H H' e q⟩⟩
instance (d : Option Addr) (p : Prop) (F : Phi) [h : Sta d F] : Sta d (Wi p F) := ⟨fun v H H' e ⟨a, q⟩ => ⟨a, h.up v H H' e q⟩⟩
/-- dice stand where they should -/
def DOk (d : Option Addr) (H : Hp) : Prop := ∀ p, d = some p → ∃ o, IsDice o ∧ H p = some o
theorem DOk.up {d : Option Addr} {H H' : Hp} (h : DOk d H) (e : Wk d H H') : DOk d H' := fun p z => by
  obtain ⟨o, h1, h2⟩ := h p z
  exact e.dice p o z h1 h2
theorem DOk.no (H : Hp) : DOk none H := fun _ z => nomatch z
theorem DOk.ne {d : Option Addr} {H : Hp} (h : DOk d H) {p : Addr} (hp : H p = none) : d ≠ some p := fun z => by
  obtain ⟨o, _, h2⟩ := h p z
  rw [hp] at h2
  cases h2

/-! ### what a reading comes to -/
def Ev (d : Option Addr) (te : TE) (σ : L2.St) (H : Hp) (F : Phi) : Prop := ∀ H1, Wk d H H1 → ∀ Q : VK, (∀ v H2, Ext d H1 H2 → F v H2 → Q v H2) → te σ H1 Q
def EvT (d : Option Addr) (tt : TT) (σ : L2.St) (H : Hp) (F : Bool → Prop) : Prop := ∀ H1, Wk d H H1 → ∀ Q : Bool → Hp → Prop, (∀ b H2, Ext d H1 H2 → F b → Q b H2) → tt σ H1 Q
def All : List Phi → List V → Hp → Prop
  | [], [], _ => True
  | F :: Fs, v :: vs, H => F v H ∧ All Fs vs H
  | _, _, _ => False
/-- arguments -/
def EvA (d : Option Addr) (ta : TA) (σ : L2.St) (H : Hp) (Fs : List Phi) : Prop := ∀ H1, Wk d H H1 → ∀ Q : List V → Hp → Prop, (∀ vs H2, Ext d H1 H2 → All Fs vs H2 → Q vs H2) → ta σ H1 Q
/-- items of a display: plain data -/
def EvI (K : PySem.W.Frag) (d : Option Addr) (ta : TA) (σ : L2.St) (H : Hp) (ds : List PyData) : Prop := ∀ H1, Wk d H H1 → ∀ Q : List V → Hp → Prop, (∀ vs H2, Ext d H1 H2 → DtA K H2 ds vs → Q vs H2) → ta σ H1 Q
/-- an operation on values that stands at H -/
def RV (d : Option Addr) (r : R2) (x y : V) (H : Hp) (F : Phi) : Prop := ∀ Q : VK, (∀ v H2, Ext d H H2 → F v H2 → Q v H2) → r x y H Q
def RC (d : Option Addr) (r : List V → Hp → VK → Prop) (vs : List V) (H : Hp) (F : Phi) : Prop := ∀ Q : VK, (∀ v H2, Ext d H H2 → F v H2 → Q v H2) → r vs H Q
section
variable {K : PySem.W.Frag} {d : Option Addr} {σ : L2.St} {H H' : Hp} {ta tb tc te : TE} {t u : TT} {F G F' : Phi} {v : V} {r r' : R2}
theorem Ev.up (e : Wk d H H') (h : Ev d te σ H F) : Ev d te σ H' F := fun H1 a => h H1 (e.trans a)
theorem EvT.up {F : Bool → Prop} (e : Wk d H H') (h : EvT d t σ H F) : EvT d t σ H' F := fun H1 a => h H1 (e.trans a)
theorem Ev.imp (h : Ev d te σ H F) (k : ∀ v H2, Wk d H H2 → F v H2 → G v H2) : Ev d te σ H G := fun H1 a Q q => h H1 a Q fun v H2 e f => q v H2 e (k v H2 (a.on e) f)
theorem Ev.is {x y : PyData} (h : Ev d te σ H (D K x)) (e : x = y) : Ev d te σ H (D K y) := by rw [← e]; exact h
theorem EvT.is {a b : Bool} (h : EvT d t σ H (· = a)) (e : a = b) : EvT d t σ H (· = b) := by rw [← e]; exact h
theorem ev_v {i : Nat} (h : σ[i]? = some (some v)) (f : F v H) [s : Sta d F] : Ev d (tVar i) σ H F := fun H1 e Q q => ⟨v, h, q v H1 (Ext.refl H1) (s.up v H H1 e f)⟩
theorem ev_int {i : Int} : Ev d (tC (.int i)) σ H (D K (.int i)) := fun H1 _ Q q => q _ H1 (Ext.refl H1) (.int i)
theorem ev_str {x : Str} : Ev d (tC (.str x)) σ H (D K (.str x)) := fun H1 _ Q q => q _ H1 (Ext.refl H1) (.str x)
theorem ev_bl {x : Bool} : Ev d (tC (.bl x)) σ H (D K (.bool x)) := fun H1 _ Q q => q _ H1 (Ext.refl H1) (.bl x)
theorem ev_non : Ev d (tC .non) σ H (D K .none) := fun H1 _ Q q => q _ H1 (Ext.refl H1) .non
theorem ev_op (ha : Ev d ta σ H F) [s : Sta d F] (hb : Ev d tb σ H G) (hr : ∀ x y H1, Wk d H H1 → F x H1 → G y H1 → RV d r x y H1 F') : Ev d (tOp r ta tb) σ H F' := fun H1 e Q q =>
  ha H1 e _ fun x H2 e2 f => hb H2 (e.on e2) _ fun y H3 e3 g => hr x y H3 ((e.on e2).on e3) (s.up x H2 H3 e3.wk f) g Q fun v H4 e4 k => q v H4 ((e2.trans e3).trans e4) k
theorem rv_now (h : ∀ Q : VK, Q v H → r x y H Q) (f : F v H) : RV d r x y H F := fun Q q => h Q (q v H (Ext.refl H) f)
theorem ev_rI0 {g : Int → Int → V} {i j : Int} {x : PyData} (ha : Ev d ta σ H (D K (.int i))) (hb : Ev d tb σ H (D K (.int j))) (hg : ∀ H, Dt K H x (g i j)) : Ev d (tOp (rI0 g) ta tb) σ H (D K x) :=
  ev_op ha hb fun _ _ H1 _ a b => by
    cases a
    cases b
    exact rv_now (fun Q q => ⟨i, j, rfl, rfl, q⟩) (hg H1)
theorem ev_rI {C : Int → Int → Prop} {g : Int → Int → V} {i j : Int} {x : PyData} (ha : Ev d ta σ H (D K (.int i))) (hb : Ev d tb σ H (D K (.int j))) (hc : C i j) (hg : ∀ H, Dt K H x (g i j)) : Ev d (tOp (rI C g) ta tb) σ H (D K x) :=
  ev_op ha hb fun _ _ H1 _ a b => by
    cases a
    cases b
    exact rv_now (fun Q q => ⟨i, j, rfl, rfl, hc, q⟩) (hg H1)
theorem ev_add {i j : Int} (ha : Ev d ta σ H (D K (.int i))) (hb : Ev d tb σ H (D K (.int j))) : Ev d (tOp (rI0 fun i j => .int (i + j)) ta tb) σ H (D K (.int (i + j))) := ev_rI0 ha hb fun _ => .int _
theorem ev_sub {i j : Int} (ha : Ev d ta σ H (D K (.int i))) (hb : Ev d tb σ H (D K (.int j))) : Ev d (tOp (rI0 fun i j => .int (i - j)) ta tb) σ H (D K (.int (i - j))) := ev_rI0 ha hb fun _ => .int _
theorem ev_lt {i j : Int} (ha : Ev d ta σ H (D K (.int i))) (hb : Ev d tb σ H (D K (.int j))) : Ev d (tOp (rI0 fun i j => .bl (decide (i < j))) ta tb) σ H (D K (.bool (decide (i < j)))) := ev_rI0 ha hb fun _ => .bl _
theorem ev_le {i j : Int} (ha : Ev d ta σ H (D K (.int i))) (hb : Ev d tb σ H (D K (.int j))) : Ev d (tOp (rI0 fun i j => .bl (decide (i ≤ j))) ta tb) σ H (D K (.bool (decide (i ≤ j)))) := ev_rI0 ha hb fun _ => .bl _
theorem ev_gt {i j : Int} (ha : Ev d ta σ H (D K (.int i))) (hb : Ev d tb σ H (D K (.int j))) : Ev d (tOp (rI0 fun i j => .bl (decide (j < i))) ta tb) σ H (D K (.bool (decide (j < i)))) := ev_rI0 ha hb fun _ => .bl _
theorem ev_ge {i j : Int} (ha : Ev d ta σ H (D K (.int i))) (hb : Ev d tb σ H (D K (.int j))) : Ev d (tOp (rI0 fun i j => .bl (decide (j ≤ i))) ta tb) σ H (D K (.bool (decide (j ≤ i)))) := ev_rI0 ha hb fun _ => .bl _
theorem ev_neg {i : Int} (ha : Ev d ta σ H (D K (.int i))) : Ev d (tUn (rU fun i => .int (-i)) ta) σ H (D K (.int (-i))) := fun H1 e Q q => ha H1 e _ fun x H2 e2 f => by
  cases f
  exact ⟨i, rfl, q _ H2 e2 (.int _)⟩
/-- == and != of plain data -/
theorem ev_eqD {x y : PyData} (ha : Ev d ta σ H (D K x)) (hb : Ev d tb σ H (D K y)) (hx : SeqAt.shaped x = true) (hy : SeqAt.shaped y = true) : Ev d (tOp (rEqD K) ta tb) σ H (D K (.bool (PyData.eqv x y))) :=
  ev_op ha hb fun _ _ H1 _ a b => rv_now (fun Q q => ⟨x, y, Dt.dp _ _ a, Dt.dp _ _ b, hx, hy, q⟩) (.bl _)
theorem ev_neD {x y : PyData} (ha : Ev d ta σ H (D K x)) (hb : Ev d tb σ H (D K y)) (hx : SeqAt.shaped x = true) (hy : SeqAt.shaped y = true) : Ev d (tOp (rNeD K) ta tb) σ H (D K (.bool (!PyData.eqv x y))) :=
  ev_op ha hb fun _ _ H1 _ a b => rv_now (fun Q q => ⟨x, y, Dt.dp _ _ a, Dt.dp _ _ b, hx, hy, q⟩) (.bl _)
theorem shaped_int (i : Int) : SeqAt.shaped (.int i) = true := rfl
theorem shaped_str {x : Str} (h : PyData.strOk x = true) : SeqAt.shaped (.str x) = true := by
  unfold SeqAt.shaped
  rw [PyData.canLay0, h, PyData.depth]
  rfl
theorem ev_eqI {i j : Int} (ha : Ev d ta σ H (D K (.int i))) (hb : Ev d tb σ H (D K (.int j))) : Ev d (tOp (rEqD K) ta tb) σ H (D K (.bool (decide (i = j)))) :=
  (ev_eqD ha hb (shaped_int i) (shaped_int j)).is (by rw [PyData.eqv, Bool.beq_eq_decide_eq])
theorem ev_neI {i j : Int} (ha : Ev d ta σ H (D K (.int i))) (hb : Ev d tb σ H (D K (.int j))) : Ev d (tOp (rNeD K) ta tb) σ H (D K (.bool (!decide (i = j)))) :=
  (ev_neD ha hb (shaped_int i) (shaped_int j)).is (by rw [PyData.eqv, Bool.beq_eq_decide_eq])
theorem ev_eqS {i j : Str} (ha : Ev d ta σ H (D K (.str i))) (hb : Ev d tb σ H (D K (.str j))) (hi : PyData.strOk i = true) (hj : PyData.strOk j = true) : Ev d (tOp (rEqD K) ta tb) σ H (D K (.bool (decide (i = j)))) :=
  (ev_eqD ha hb (shaped_str hi) (shaped_str hj)).is (by rw [PyData.eqv, Bool.beq_eq_decide_eq])
theorem ev_neS {i j : Str} (ha : Ev d ta σ H (D K (.str i))) (hb : Ev d tb σ H (D K (.str j))) (hi : PyData.strOk i = true) (hj : PyData.strOk j = true) : Ev d (tOp (rNeD K) ta tb) σ H (D K (.bool (!decide (i = j)))) :=
  (ev_neD ha hb (shaped_str hi) (shaped_str hj)).is (by rw [PyData.eqv, Bool.beq_eq_decide_eq])
theorem atI_dt {ds : List PyData} {xs : List V} (h : DtA K H ds xs) {i : Int} {x : PyData} (hi : atI ds i = some x) : ∃ v, atI xs i = some v ∧ Dt K H x v := by
  unfold atI at hi ⊢
  rw [← h.length]
  cases e : ixN ds.length i with
  | none => rw [e] at hi; cases hi
  | some j =>
    rw [e] at hi
    exact h.get hi
/-- t[i] -/
theorem ev_ixT {ds : List PyData} {i : Int} {x : PyData} (ha : Ev d ta σ H (D K (.tuple ds))) (hb : Ev d tb σ H (D K (.int i))) (hi : atI ds i = some x) : Ev d (tOp (rIxT K) ta tb) σ H (D K x) :=
  ev_op ha hb fun _ _ H1 _ a b => by
    cases b
    cases a with
    | tup h1 h2 =>
      obtain ⟨v, e1, e2⟩ := atI_dt h2 hi
      exact rv_now (v := v) (fun Q q => ⟨_, _, i, v, rfl, rfl, h1, e1, q⟩) e2
/-- xs[i] -/
theorem ev_ixL {ds : List PyData} {i : Int} {x : PyData} (ha : Ev d ta σ H (Ls K d ds)) (hb : Ev d tb σ H (D K (.int i))) (hi : atI ds i = some x) : Ev d (tOp (rIxL K) ta tb) σ H (D K x) :=
  ev_op ha hb fun _ _ H1 _ a b => by
    cases b
    obtain ⟨p, xs, rfl, _, h1, h2⟩ := a
    obtain ⟨v, e1, e2⟩ := atI_dt h2 hi
    exact rv_now (v := v) (fun Q q => ⟨_, _, i, v, rfl, rfl, .inl (.inl h1), e1, q⟩) e2
theorem atI_nat' {α : Type} {xs : List α} {n : Nat} {x : α} (h : xs[n]? = some x) : atI xs (n : Int) = some x := atI_nat h
/-! tests, values of truth -/
theorem et_test {b : Bool} (h : Ev d te σ H (D K (.bool b))) : EvT d (tTest te) σ H (· = b) := fun H1 e Q q => h H1 e _ fun x H2 e2 f => by
  cases f
  exact ⟨b, rfl, q b H2 e2 rfl⟩
theorem et_B {b : Bool} (h : Ev d te σ H (D K (.bool b))) : EvT d (tB te) σ H (· = b) := fun H1 e Q q => h H1 e _ fun x H2 e2 f => by
  cases f
  exact ⟨b, rfl, q b H2 e2 rfl⟩
theorem et_and {a b : Bool} (h1 : EvT d t σ H (· = a)) (h2 : a = true → EvT d u σ H (· = b)) : EvT d (tAnd t u) σ H (· = (a && b)) := fun H1 e Q q => h1 H1 e _ fun c H2 e2 f => by
  subst f
  cases c with
  | true => exact h2 rfl H2 (e.on e2) Q fun c H3 e3 f => q c H3 (e2.trans e3) (by rw [f]; rfl)
  | false => exact q false H2 e2 rfl
theorem et_or {a b : Bool} (h1 : EvT d t σ H (· = a)) (h2 : a = false → EvT d u σ H (· = b)) : EvT d (tOr t u) σ H (· = (a || b)) := fun H1 e Q q => h1 H1 e _ fun c H2 e2 f => by
  subst f
  cases c with
  | true => exact q true H2 e2 rfl
  | false => exact h2 rfl H2 (e.on e2) Q fun c H3 e3 f => q c H3 (e2.trans e3) (by rw [f]; rfl)
theorem et_not {a : Bool} (h1 : EvT d t σ H (· = a)) : EvT d (tNot t) σ H (· = !a) := fun H1 e Q q => h1 H1 e _ fun c H2 e2 f => q (!c) H2 e2 (by rw [f])
theorem et_yes : EvT d tYes σ H (· = true) := fun H1 e Q q => q true H1 (Ext.refl H1) rfl
theorem ev_andV {a b : Bool} (h1 : Ev d ta σ H (D K (.bool a))) (h2 : a = true → Ev d tb σ H (D K (.bool b))) : Ev d (tAndV ta tb) σ H (D K (.bool (a && b))) := fun H1 e Q q => h1 H1 e _ fun c H2 e2 f => by
  cases f
  refine ⟨a, rfl, ?_⟩
  cases a with
  | true => exact h2 rfl H2 (e.on e2) Q fun c H3 e3 f => q c H3 (e2.trans e3) f
  | false => exact q _ H2 e2 (.bl false)
theorem ev_orV {a b : Bool} (h1 : Ev d ta σ H (D K (.bool a))) (h2 : a = false → Ev d tb σ H (D K (.bool b))) : Ev d (tOrV ta tb) σ H (D K (.bool (a || b))) := fun H1 e Q q => h1 H1 e _ fun c H2 e2 f => by
  cases f
  refine ⟨a, rfl, ?_⟩
  cases a with
  | true => exact q _ H2 e2 (.bl true)
  | false => exact h2 rfl H2 (e.on e2) Q fun c H3 e3 f => q c H3 (e2.trans e3) f
theorem ev_notV {a : Bool} (h1 : Ev d ta σ H (D K (.bool a))) : Ev d (tNotV ta) σ H (D K (.bool (!a))) := fun H1 e Q q => h1 H1 e _ fun c H2 e2 f => by
  cases f
  exact ⟨a, rfl, q _ H2 e2 (.bl _)⟩
theorem ev_if {b : Bool} (h : EvT d t σ H (· = b)) (h1 : b = true → Ev d ta σ H F) (h2 : b = false → Ev d tb σ H F) : Ev d (tIf t ta tb) σ H F := fun H1 e Q q => h H1 e _ fun c H2 e2 f => by
  subst f
  cases c with
  | true => exact h1 rfl H2 (e.on e2) Q fun v H3 e3 k => q v H3 (e2.trans e3) k
  | false => exact h2 rfl H2 (e.on e2) Q fun v H3 e3 k => q v H3 (e2.trans e3) k
/-- a < b < c of ints -/
theorem ev_chain {f g : Int → Int → Bool} {i j k : Int} (ha : Ev d ta σ H (D K (.int i))) (hb : Ev d tb σ H (D K (.int j))) (hc : Ev d tc σ H (D K (.int k))) :
    Ev d (tChain (rI0 fun i j => .bl (f i j)) (rI0 fun i j => .bl (g i j)) ta tb tc) σ H (D K (.bool (f i j && g j k))) := fun H1 e Q q =>
  ha H1 e _ fun x H2 e2 fx => hb H2 (e.on e2) _ fun y H3 e3 fy => by
    cases fx
    cases fy
    refine ⟨i, j, rfl, rfl, f i j, rfl, ?_⟩
    cases hf : f i j with
    | false => exact q _ H3 (e2.trans e3) (by rw [hf, Bool.false_and]; exact .bl _)
    | true =>
      refine hc H3 ((e.on e2).on e3) _ fun z H4 e4 fz => ?_
      cases fz
      exact ⟨j, k, rfl, rfl, q _ H4 ((e2.trans e3).trans e4) (by rw [hf, Bool.true_and]; exact .bl _)⟩
/-! arguments, displays -/
theorem ea_nil : EvA d tNil σ H [] := fun H1 _ Q q => q [] H1 (Ext.refl H1) trivial
theorem All.up {d : Option Addr} {H H' : Hp} (e : Wk d H H') : ∀ {Fs : List Phi} {vs : List V}, (∀ F ∈ Fs, Sta d F) → All Fs vs H → All Fs vs H'
  | [], [], _, _ => trivial
  | F :: Fs, v :: vs, s, h => ⟨(s F List.mem_cons_self).up v H H' e h.1, All.up e (fun G hG => s G (List.mem_cons_of_mem _ hG)) h.2⟩
  | [], _ :: _, _, h => h.elim
  | _ :: _, [], _, h => h.elim
theorem ea_cons {tr : TA} {Fs : List Phi} (h : Ev d ta σ H F) [s : Sta d F] (hr : EvA d tr σ H Fs) : EvA d (tCons ta tr) σ H (F :: Fs) := fun H1 e Q q =>
  h H1 e _ fun x H2 e2 f => hr H2 (e.on e2) _ fun vs H3 e3 g => q _ H3 (e2.trans e3) ⟨s.up x H2 H3 e3.wk f, g⟩
theorem ei_nil : EvI K d tNil σ H [] := fun H1 _ Q q => q [] H1 (Ext.refl H1) .nil
theorem ei_cons {tr : TA} {x : PyData} {ds : List PyData} (h : Ev d ta σ H (D K x)) (hr : EvI K d tr σ H ds) : EvI K d (tCons ta tr) σ H (x :: ds) := fun H1 e Q q =>
  h H1 e _ fun v H2 e2 f => hr H2 (e.on e2) _ fun vs H3 e3 g => q _ H3 (e2.trans e3) (.cons (Dt.up e3.wk x v f) g)
/-- *t, *xs in a display -/
theorem ei_starT {tr : TA} {xs ds : List PyData} (h : Ev d ta σ H (D K (.tuple xs))) (hr : EvI K d tr σ H ds) : EvI K d (StX.tStar K ta tr) σ H (xs ++ ds) := fun H1 e Q q =>
  h H1 e _ fun v H2 e2 f => by
    cases f with
    | tup h1 h2 => exact ⟨_, _, rfl, .inl h1, hr H2 (e.on e2) _ fun vs H3 e3 g => q _ H3 (e2.trans e3) ((DtA.up e3.wk _ _ h2).append g)⟩
theorem ei_starL {tr : TA} {xs ds : List PyData} (h : Ev d ta σ H (Ls K d xs)) (hr : EvI K d tr σ H ds) : EvI K d (StX.tStar K ta tr) σ H (xs ++ ds) := fun H1 e Q q =>
  h H1 e _ fun v H2 e2 f => by
    obtain ⟨p, vs, rfl, _, h1, h2⟩ := f
    exact ⟨_, _, rfl, .inr (.inl (.inl h1)), hr H2 (e.on e2) _ fun vs H3 e3 g => q _ H3 (e2.trans e3) ((DtA.up e3.wk _ _ h2).append g)⟩
theorem sz_of {m : Nat} (h : m ≤ 100000) : m ≤ sizeLine := Nat.le_trans h (by decide)
theorem sz_lt {m : Nat} (h : m < 100000) : m < sizeLine := Nat.lt_of_lt_of_le h (by decide)
theorem ev_tup {tr : TA} {ds : List PyData} (h : EvI K d tr σ H ds) (hl : ds.length ≤ 100000) : Ev d (tTup tr) σ H (D K (.tuple ds)) := fun H1 e Q q =>
  h H1 e _ fun vs H2 e2 f => ⟨by rw [← f.length]; exact sz_of hl, fun p hp => q _ _ (e2.trans (Ext.new hp)) (.tup (.inl (.inl upd_same)) (DtA.up (Ext.new (d := d) hp).wk _ _ f))⟩
theorem ev_lst {tr : TA} {ds : List PyData} (h : EvI K d tr σ H ds) (hl : ds.length ≤ 100000) (hd : DOk d H) : Ev d (tLst tr) σ H (Ls K d ds) := fun H1 e Q q =>
  h H1 e _ fun vs H2 e2 f => ⟨by rw [← f.length]; exact sz_of hl, fun p hp => q _ _ (e2.trans (Ext.new hp)) ⟨p, vs, rfl, (hd.up (e.on e2)).ne hp, upd_same, DtA.up (Ext.new (d := d) hp).wk _ _ f⟩⟩
end

/-! ### comprehensions -/
/-- what is walked: as, one item a turn, whatever else happens -/
structure Src {α : Type} (d : Option Addr) (J : It) (as : List α) (Item : α → Phi) (H2 : Hp) : Prop where
  go : ∀ i H', i < as.length → Ext d H2 H' → J.go i H'
  stop : ∀ H', Ext d H2 H' → J.stop as.length H'
  yld : ∀ i a H' x H'', as[i]? = some a → Ext d H2 H' → J.yld i H' x H'' → Ext d H' H'' ∧ Item a x H''
/-- .. at this very heap -/
def EvS1 {α : Type} (d : Option Addr) (wi : TI) (σ : L2.St) (H1 : Hp) (as : List α) (Item : α → Phi) : Prop := ∀ R : It → Hp → Prop, (∀ J H2, Ext d H1 H2 → Src d J as Item H2 → R J H2) → wi σ H1 R
def Ev1 (d : Option Addr) (te : TE) (σ : L2.St) (H1 : Hp) (F : Phi) : Prop := ∀ Q : VK, (∀ v H2, Ext d H1 H2 → F v H2 → Q v H2) → te σ H1 Q
def EvT1 (d : Option Addr) (tt : TT) (σ : L2.St) (H1 : Hp) (F : Bool → Prop) : Prop := ∀ Q : Bool → Hp → Prop, (∀ b H2, Ext d H1 H2 → F b → Q b H2) → tt σ H1 Q
def EvI1 (K : PySem.W.Frag) (d : Option Addr) (ta : TA) (σ : L2.St) (H1 : Hp) (ds : List PyData) : Prop := ∀ Q : List V → Hp → Prop, (∀ vs H2, Ext d H1 H2 → DtA K H2 ds vs → Q vs H2) → ta σ H1 Q
def EvS {α : Type} (d : Option Addr) (wi : TI) (σ : L2.St) (H : Hp) (as : List α) (Item : α → Phi) : Prop := ∀ H1, Wk d H H1 → ∀ R : It → Hp → Prop, (∀ J H2, Ext d H1 H2 → Src d J as Item H2 → R J H2) → wi σ H1 R
section
variable {K : PySem.W.Frag} {d : Option Addr} {σ : L2.St} {H : Hp} {ta te tl : TE} {α β : Type}
theorem take_filter {f : α → Bool} {as : List α} {i : Nat} {a : α} (h : as[i]? = some a) : (as.take (i + 1)).filter f = (as.take i).filter f ++ (if f a = true then [a] else []) := by
  (rw [List.take_add_one, h, List.filter_append])
  cases e : f a with
  | true => simp [e]
  | false => simp [e]
theorem ev1_lcG {wi : TI} {g : TG} {tt : TT} {vs : List Nat} {as : List α} {Item : α → Phi} (f : α → Bool) (r : α → PyData) (hd : DOk d H) (hz : as.length ≤ 40000) (hsrc : EvS1 d wi σ H as Item)
    (hb : ∀ a ∈ as, ∀ x H1, Wk d H H1 → Item a x H1 → ∀ Q : L2.St → Hp → Prop, (∀ σ2 H2, Ext d H1 H2 → wipe σ2 vs = wipe σ vs → EvT d tt σ2 H2 (· = f a) → (f a = true → Ev d te σ2 H2 (D K (r a))) → Q σ2 H2) → g x (wipe σ vs) H1 Q) :
    Ev1 d (tLc wi g tt te vs) σ H (Ls K d ((as.filter f).map r)) := fun Q q => hsrc _ fun J H2 e2 S => fun Dl hD => by
  let W : Nat → Nat → Hp → Prop := fun i m H' => m = as.length - i ∧ i ≤ as.length ∧ Ext d H2 H' ∧ ∃ xs, H' Dl = some (.lst xs) ∧ DtA K H' (((as.take i).filter f).map r) xs
  have nd : ∀ {H'}, Ext d H2 H' → d ≠ some Dl := fun {H'} _ z => by
    obtain ⟨o, _, h2⟩ := (hd.up e2.wk) Dl z
    rw [hD] at h2
    cases h2
  refine ⟨W, ⟨as.length, by simp, Nat.zero_le _, Ext.new hD, [], upd_same, .nil⟩, ?_⟩
  rintro i m H' ⟨rfl, hi, e', xs, hl, hx⟩
  by_cases hlt : i < as.length
  · refine .inr ⟨S.go i H' hlt e', fun H' => W (i + 1) (as.length - (i + 1)) H', fun H'' w => ⟨_, by omega, w⟩, fun x H'' y => ?_⟩
    obtain ⟨a, ha⟩ : ∃ a, as[i]? = some a := ⟨as[i], by simp [hlt]⟩
    obtain ⟨e'', it⟩ := S.yld i a H' x H'' ha e' y
    refine hb a (List.mem_of_getElem? ha) x H'' ((e2.trans e').trans e'').wk it _ fun σ2 H3 e3 hw ht he => ⟨hw, ht H3 (Wk.refl _) _ fun b H4 e4 hbf => ?_⟩
    have eo : Ext d H2 H4 := ((e'.trans e'').trans e3).trans e4
    have em : Ext d H' H4 := (e''.trans e3).trans e4
    have hl4 : H4 Dl = some (.lst xs) := by
      rcases em Dl _ hl with z | ⟨z, _⟩
      · exact z
      · exact absurd z (nd e')
    have hx4 := DtA.up em.wk _ _ hx
    subst hbf
    cases hf : f a with
    | true =>
      rw [if_pos rfl]
      refine he hf H4 e4.wk _ fun v H5 e5 fv => ?_
      have hl5 : H5 Dl = some (.lst xs) := by
        rcases e5 Dl _ hl4 with z | ⟨z, _⟩
        · exact z
        · exact absurd z (nd e')
      have len : xs.length ≤ i := by
        rw [← hx.length, List.length_map]
        exact Nat.le_trans (List.length_filter_le _ _) (by rw [List.length_take]; omega)
      refine ⟨xs, hl5, sz_lt (by omega), rfl, by omega, (eo.trans e5).mut hD, xs ++ [v], upd_same, ?_⟩
      rw [take_filter ha, if_pos hf, List.map_append]
      have t5 : Tk H5 (upd H5 Dl (.lst (xs ++ [v]))) := Tk.lst hl5
      exact (DtA.tk t5 _ _ (DtA.up e5.wk _ _ hx4)).snoc (Dt.tk t5 _ _ fv)
    | false =>
      rw [if_neg (by decide)]
      exact ⟨rfl, by omega, eo, xs, hl4, by rw [take_filter ha, hf, if_neg (by decide), List.append_nil]; exact hx4⟩
  · have e : i = as.length := by omega
    subst e
    refine .inl ⟨S.stop H' e', q _ H' (e2.trans e') ⟨Dl, xs, rfl, nd e', hl, ?_⟩⟩
    rw [List.take_length] at hx
    exact hx
theorem ev_lcG {wi : TI} {g : TG} {tt : TT} {vs : List Nat} {as : List α} {Item : α → Phi} (f : α → Bool) (r : α → PyData) (hd : DOk d H) (hz : as.length ≤ 40000) (hsrc : EvS d wi σ H as Item)
    (hb : ∀ a ∈ as, ∀ x H1, Wk d H H1 → Item a x H1 → ∀ Q : L2.St → Hp → Prop, (∀ σ2 H2, Ext d H1 H2 → wipe σ2 vs = wipe σ vs → EvT d tt σ2 H2 (· = f a) → (f a = true → Ev d te σ2 H2 (D K (r a))) → Q σ2 H2) → g x (wipe σ vs) H1 Q) :
    Ev d (tLc wi g tt te vs) σ H (Ls K d ((as.filter f).map r)) := fun H0 e0 => ev1_lcG f r (hd.up e0) hz (hsrc H0 e0) fun a ha x H1 e1 => hb a ha x H1 (e0.trans e1)
end

/-! ### statements -/
section
variable {K : PySem.W.Frag} {d : Option Addr} {σ : L2.St} {H : Hp} {ta te : TE} {t : TT} {F : Phi} {E : Ends} {tu tw tx : TS}
theorem s_set {i : Nat} (h : Ev d te σ H F) (k : ∀ v H1, Ext d H H1 → F v H1 → E.nx (σ.set i (some v)) H1) : tAsg te (gName i) E σ H := h H (Wk.refl H) _ fun v H1 e f => k v H1 e f
theorem q_set {i : Nat} (h : Ev d te σ H F) (k : ∀ v H1, Ext d H H1 → F v H1 → tx E (σ.set i (some v)) H1) : tSeq (tAsg te (gName i)) tx E σ H := h H (Wk.refl H) _ fun v H1 e f => k v H1 e f
theorem s_ret (h : Ev d te σ H F) (k : ∀ v H1, Ext d H H1 → F v H1 → E.rt v H1) : tRet te E σ H := h H (Wk.refl H) _ k
theorem q_ret (h : Ev d te σ H F) (k : ∀ v H1, Ext d H H1 → F v H1 → E.rt v H1) : tSeq (tRet te) tx E σ H := h H (Wk.refl H) _ k
theorem s_if {P : Bool → Prop} (h : EvT d t σ H P) (h1 : P true → ∀ H1, Ext d H H1 → tu E σ H1) (h2 : P false → ∀ H1, Ext d H H1 → tw E σ H1) : tIfS t tu tw E σ H := h H (Wk.refl H) _ fun b H1 e f => by
  cases b with
  | true => exact h1 f H1 e
  | false => exact h2 f H1 e
theorem q_if {P : Bool → Prop} (h : EvT d t σ H P) (h1 : P true → ∀ H1, Ext d H H1 → tu { E with nx := tx E } σ H1) (h2 : P false → ∀ H1, Ext d H H1 → tw { E with nx := tx E } σ H1) : tSeq (tIfS t tu tw) tx E σ H := h H (Wk.refl H) _ fun b H1 e f => by
  cases b with
  | true => exact h1 f H1 e
  | false => exact h2 f H1 e
/-- a test that is never true, then the rest -/
theorem q_if0 (h : EvT d t σ H (· = false)) (k : ∀ H1, Ext d H H1 → tx E σ H1) : tSeq (tIfS t tu tNext) tx E σ H := q_if h (fun z => nomatch z) fun _ H1 e => k H1 e
theorem s_drop (h : Ev d te σ H F) (k : ∀ v H1, Ext d H H1 → F v H1 → E.nx σ H1) : tDrop te E σ H := h H (Wk.refl H) _ k
theorem q_drop (h : Ev d te σ H F) (k : ∀ v H1, Ext d H H1 → F v H1 → tx E σ H1) : tSeq (tDrop te) tx E σ H := h H (Wk.refl H) _ k
end
end Kp
set_option maxHeartbeats 410000
/-! Kp0b: what is walked, comprehensions by their targets, built-in functions. -/
namespace Kp
open L2 PySem PySem.Spec PyProof.Rows
section
variable {H : Hp}
theorem all_len {Fs : List Phi} {vs : List V} {H : Hp} : ∀ {Fs : List Phi} {vs : List V}, All Fs vs H → vs.length = Fs.length
  | [], [], _ => rfl
  | _ :: _, _ :: _, h => by rw [List.length_cons, List.length_cons, all_len (Fs := []) (vs := []) h.2]
  | [], _ :: _, h => h.elim
  | _ :: _, [], h => h.elim
theorem all1 {F : Phi} {vs : List V} (h : All [F] vs H) : ∃ v, vs = [v] ∧ F v H := by
  match vs, h with
  | [v], h => exact ⟨v, rfl, h.1⟩
theorem all2 {F G : Phi} {vs : List V} (h : All [F, G] vs H) : ∃ v w, vs = [v, w] ∧ F v H ∧ G w H := by
  match vs, h with
  | [v, w], h => exact ⟨v, w, rfl, h.1, h.2.1⟩
theorem all3 {F G F3 : Phi} {vs : List V} (h : All [F, G, F3] vs H) : ∃ v w x, vs = [v, w, x] ∧ F v H ∧ G w H ∧ F3 x H := by
  match vs, h with
  | [v, w, x], h => exact ⟨v, w, x, rfl, h.1, h.2.1, h.2.2.1⟩
theorem all4 {F G F3 F4 : Phi} {vs : List V} (h : All [F, G, F3, F4] vs H) : ∃ v w x y, vs = [v, w, x, y] ∧ F v H ∧ G w H ∧ F3 x H ∧ F4 y H := by
  match vs, h with
  | [v, w, x, y], h => exact ⟨v, w, x, y, rfl, h.1, h.2.1, h.2.2.1, h.2.2.2.1⟩
end
section
variable {K : PySem.W.Frag} {d : Option Addr} {σ : L2.St} {H : Hp} {ta te tl tb : TE} {tr : TA} {α β : Type}
theorem getmap {enc : α → PyData} {as : List α} {i : Nat} {a : α} (h : as[i]? = some a) : (as.map enc)[i]? = some (enc a) := by
  rw [List.getElem?_map, h]
  rfl
theorem dta_at {H : Hp} {enc : α → PyData} {as : List α} {xs : List V} (h : DtA K H (as.map enc) xs) {i : Nat} {a : α} {x : V} (ha : as[i]? = some a) (hx : xs[i]? = some x) : Dt K H (enc a) x := by
  obtain ⟨y, e1, e2⟩ := h.get (getmap ha)
  rw [hx] at e1
  cases e1
  exact e2
theorem dta_len {H : Hp} {enc : α → PyData} {as : List α} {xs : List V} (h : DtA K H (as.map enc) xs) : xs.length = as.length := by
  rw [← h.length, List.length_map]
/-! sources -/
theorem es_tup {as : List α} {enc : α → PyData} (h : Ev d tl σ H (D K (.tuple (as.map enc)))) : EvS d (iTup K tl) σ H as (fun a => D K (enc a)) := fun H1 e1 R q =>
  h H1 e1 _ fun v H2 e2 f => by
    cases f with
    | @tup p xs _ h1 h2 =>
      have len := dta_len h2
      refine ⟨p, rfl, ⟨xs, h1⟩, q _ H2 e2 ⟨fun i H' hi e => ⟨xs, xs[i]'(by omega), e.wk.sqT h1, by simp [len, hi]⟩, fun H' e => ⟨xs, e.wk.sqT h1, by omega⟩, fun i a H' x H'' ha e y => ?_⟩⟩
      obtain ⟨rfl, y⟩ := y
      exact ⟨Ext.refl _, dta_at (DtA.up e.wk _ _ h2) ha (y xs (e.wk.sqT h1))⟩
theorem es_lst {as : List α} {enc : α → PyData} (h : Ev d tl σ H (Ls K d (as.map enc))) : EvS d (iList K tl) σ H as (fun a => D K (enc a)) := fun H1 e1 R q =>
  h H1 e1 _ fun v H2 e2 f => by
    obtain ⟨p, xs, rfl, np, h1, h2⟩ := f
    have len := dta_len h2
    have up : ∀ {H'}, Ext d H2 H' → SqL K H' p xs := fun {H'} e => .inl (.inl (e.wk.lst np h1))
    refine ⟨p, rfl, ⟨xs, .inl (.inl h1)⟩, q _ H2 e2 ⟨fun i H' hi e => ⟨xs, xs[i]'(by omega), up e, by simp [len, hi]⟩, fun H' e => ⟨xs, up e, by omega⟩, fun i a H' x H'' ha e y => ?_⟩⟩
    obtain ⟨rfl, y⟩ := y
    exact ⟨Ext.refl _, dta_at (DtA.up e.wk _ _ h2) ha (y xs (up e))⟩
theorem es_str {x : Str} (h : Ev d tl σ H (D K (.str x))) : EvS d (iStr tl) σ H x.cps.toList (fun c => D K (.str ⟨#[c]⟩)) := fun H1 e1 R q =>
  h H1 e1 _ fun v H2 e2 f => by
    cases f
    have w := @walk_str x
    refine ⟨x, rfl, q _ H2 e2 ⟨fun i H' hi _ => w.goes i H' (by simpa using hi) trivial, fun H' _ => by simpa using w.stops H' trivial, fun i a H' y H'' ha _ hy => ?_⟩⟩
    have hi : i < x.cps.size := by
      have := (List.getElem?_eq_some_iff.mp ha).1
      simpa using this
    obtain ⟨rfl, c, h1, rfl⟩ := w.yields i H' y H'' hi trivial hy
    have ec : a = c := by
      rw [Array.getElem?_toList, h1] at ha
      exact (Option.some.inj ha).symm
    subst ec
    exact ⟨Ext.refl _, .str _⟩
theorem es_rng {n : Int} (h : EvA d tr σ H [D K (.int n)]) (hn : n ≤ 40000) (h0 : -40000 ≤ n) : EvS d (iRng1 tr) σ H (List.range n.toNat) (fun i => D K (.int (i : Int))) := fun H1 e1 R q =>
  h H1 e1 _ fun vs H2 e2 f => by
    obtain ⟨v, rfl, f1⟩ := all1 f
    cases f1
    refine ⟨n, rfl, by omega, by omega, q _ H2 e2 ⟨fun i H' hi _ => ?_, fun H' _ => ?_, fun i a H' x H'' ha _ y => ?_⟩⟩
    · rw [List.length_range] at hi
      exact hi
    · rw [List.length_range]
      exact Nat.le_refl _
    obtain ⟨rfl, rfl⟩ := y
    have ea : a = i := by
      rw [List.getElem?_range (by have := (List.getElem?_eq_some_iff.mp ha).1; simpa using this)] at ha
      exact (Option.some.inj ha).symm
    subst ea
    refine ⟨Ext.refl _, ?_⟩
    show Dt K H'' (.int (a : Int)) (.int ((0 : Int) + (a : Int)))
    rw [Int.zero_add]
    exact .int _
theorem pair_dt {H' : Hp} {T : Addr} {x y : V} {p q : PyData} (hT : H' T = none) (h1 : Dt K H' p x) (h2 : Dt K H' q y) : Dt K (upd H' T (.tup [x, y])) (.tuple [p, q]) (.ref T) :=
  .tup (.inl (.inl upd_same)) (.cons (Dt.up (Ext.new (d := none) hT).wk _ _ h1) (.cons (Dt.up (Ext.new (d := none) hT).wk _ _ h2) .nil))
theorem zip_at {as : List α} {bs : List β} {i : Nat} {p : α × β} (h : (as.zip bs)[i]? = some p) : as[i]? = some p.1 ∧ bs[i]? = some p.2 := by
  rw [List.getElem?_zip_eq_some] at h
  exact h
theorem es_zipT {as : List α} {bs : List β} {enc : α → PyData} {enc' : β → PyData} (h : EvA d tr σ H [D K (.tuple (as.map enc)), D K (.tuple (bs.map enc'))]) : EvS d (RZ.iZipA K tr) σ H (as.zip bs) (fun p => D K (.tuple [enc p.1, enc' p.2])) := fun H1 e1 R q =>
  h H1 e1 _ fun vs H2 e2 f => by
    obtain ⟨v, u, rfl, f1, f2⟩ := all2 f
    cases f1 with
    | @tup p xs _ h1 h2 =>
      cases f2 with
      | @tup p' ys _ g1 g2 =>
        have l1 := dta_len h2
        have l2 := dta_len g2
        refine ⟨p, p', xs, ys, rfl, .inr ⟨h1, g1, q _ H2 e2 ⟨fun i H' hi e => ?_, fun H' e => ?_, fun i a H' x H'' ha e y => ?_⟩⟩⟩
        · rw [List.length_zip] at hi
          exact ⟨xs, ys, xs[i]'(by omega), ys[i]'(by omega), e.wk.sqT h1, e.wk.sqT g1, by simp [show i < xs.length by omega], by simp [show i < ys.length by omega]⟩
        · rw [List.length_zip]
          exact ⟨xs, ys, e.wk.sqT h1, e.wk.sqT g1, by omega⟩
        · obtain ⟨T, x1, y1, rfl, hT, rfl, k1, k2⟩ := y
          obtain ⟨z1, z2⟩ := zip_at ha
          exact ⟨Ext.new hT, pair_dt hT (dta_at (DtA.up e.wk _ _ h2) z1 (k1 xs (e.wk.sqT h1))) (dta_at (DtA.up e.wk _ _ g2) z2 (k2 ys (e.wk.sqT g1)))⟩
theorem es_zipL {as : List α} {bs : List β} {enc : α → PyData} {enc' : β → PyData} (h : EvA d tr σ H [Ls K d (as.map enc), Ls K d (bs.map enc')]) : EvS d (RZ.iZipA K tr) σ H (as.zip bs) (fun p => D K (.tuple [enc p.1, enc' p.2])) := fun H1 e1 R q =>
  h H1 e1 _ fun vs H2 e2 f => by
    obtain ⟨v, u, rfl, f1, f2⟩ := all2 f
    obtain ⟨p, xs, rfl, np, h1, h2⟩ := f1
    obtain ⟨p', ys, rfl, np', g1, g2⟩ := f2
    have l1 := dta_len h2
    have l2 := dta_len g2
    have up : ∀ {H'}, Ext d H2 H' → SqL K H' p xs := fun {H'} e => .inl (.inl (e.wk.lst np h1))
    have up' : ∀ {H'}, Ext d H2 H' → SqL K H' p' ys := fun {H'} e => .inl (.inl (e.wk.lst np' g1))
    refine ⟨p, p', xs, ys, rfl, .inl ⟨.inl (.inl h1), .inl (.inl g1), q _ H2 e2 ⟨fun i H' hi e => ?_, fun H' e => ?_, fun i a H' x H'' ha e y => ?_⟩⟩⟩
    · rw [List.length_zip] at hi
      exact ⟨xs, ys, xs[i]'(by omega), ys[i]'(by omega), up e, up' e, by simp [show i < xs.length by omega], by simp [show i < ys.length by omega]⟩
    · rw [List.length_zip]
      exact ⟨xs, ys, up e, up' e, by omega⟩
    · obtain ⟨T, x1, y1, rfl, hT, rfl, k1, k2⟩ := y
      obtain ⟨z1, z2⟩ := zip_at ha
      exact ⟨Ext.new hT, pair_dt hT (dta_at (DtA.up e.wk _ _ h2) z1 (k1 xs (up e))) (dta_at (DtA.up e.wk _ _ g2) z2 (k2 ys (up' e)))⟩
/-- enumerate(xs): the item and its place -/
theorem es_enumL {as : List α} {enc : α → PyData} (h : EvA d tr σ H [Ls K d (as.map enc)]) : EvS d (iEnum K tr) σ H as.zipIdx (fun p => D K (.tuple [.int (p.2 : Int), enc p.1])) := fun H1 e1 R q =>
  h H1 e1 _ fun vs H2 e2 f => by
    obtain ⟨v, rfl, f1⟩ := all1 f
    obtain ⟨p, xs, rfl, np, h1, h2⟩ := f1
    have len := dta_len h2
    have up : ∀ {H'}, Ext d H2 H' → SqL K H' p xs := fun {H'} e => .inl (.inl (e.wk.lst np h1))
    refine ⟨p, xs, rfl, .inl (.inl h1), q _ H2 e2 ⟨fun i H' hi e => ?_, fun H' e => ?_, fun i a H' x H'' ha e y => ?_⟩⟩
    · rw [List.length_zipIdx] at hi
      exact ⟨xs, xs[i]'(by omega), up e, by simp [show i < xs.length by omega]⟩
    · rw [List.length_zipIdx]
      exact ⟨xs, up e, by omega⟩
    · obtain ⟨T, x1, rfl, hT, rfl, k1⟩ := y
      rw [List.getElem?_zipIdx] at ha
      cases ea : as[i]? with
      | none => rw [ea] at ha; cases ha
      | some b =>
        rw [ea] at ha
        cases ha
        refine ⟨Ext.new hT, ?_⟩
        show Dt K (upd H' T (.tup [.int (i : Int), x1])) (.tuple [.int ((0 + i : Nat) : Int), enc b]) (.ref T)
        rw [Nat.zero_add]
        exact pair_dt hT (.int _) (dta_at (DtA.up e.wk _ _ h2) ea (k1 xs (up e)))
/-! targets -/
theorem ev1_lc1 {wi : TI} {tt : TT} {vs : List Nat} {j : Nat} {as : List α} {Item : α → Phi} (f : α → Bool) (r : α → PyData) (hd : DOk d H) (hz : as.length ≤ 40000) (hsrc : EvS1 d wi σ H as Item)
    (ht : ∀ a ∈ as, ∀ x H1, Wk d H H1 → Item a x H1 → EvT d tt ((wipe σ vs).set j (some x)) H1 (· = f a)) (he : ∀ a ∈ as, ∀ x H1, Wk d H H1 → Item a x H1 → f a = true → Ev d te ((wipe σ vs).set j (some x)) H1 (D K (r a)))
    (hw : ∀ x, wipe ((wipe σ vs).set j (some x)) vs = wipe σ vs := by intro _; rfl) :
    Ev1 d (tLc wi (gName j) tt te vs) σ H (Ls K d ((as.filter f).map r)) :=
  ev1_lcG f r hd hz hsrc fun a ha x H1 e1 it Q q => q _ H1 (Ext.refl H1) (hw x) (ht a ha x H1 e1 it) (he a ha x H1 e1 it)
theorem ev_lc1 {wi : TI} {tt : TT} {vs : List Nat} {j : Nat} {as : List α} {Item : α → Phi} (f : α → Bool) (r : α → PyData) (hd : DOk d H) (hz : as.length ≤ 40000) (hsrc : EvS d wi σ H as Item)
    (ht : ∀ a ∈ as, ∀ x H1, Wk d H H1 → Item a x H1 → EvT d tt ((wipe σ vs).set j (some x)) H1 (· = f a)) (he : ∀ a ∈ as, ∀ x H1, Wk d H H1 → Item a x H1 → f a = true → Ev d te ((wipe σ vs).set j (some x)) H1 (D K (r a)))
    (hw : ∀ x, wipe ((wipe σ vs).set j (some x)) vs = wipe σ vs := by intro _; rfl) :
    Ev d (tLc wi (gName j) tt te vs) σ H (Ls K d ((as.filter f).map r)) :=
  ev_lcG f r hd hz hsrc fun a ha x H1 e1 it Q q => q _ H1 (Ext.refl H1) (hw x) (ht a ha x H1 e1 it) (he a ha x H1 e1 it)
theorem filter_true (as : List α) : as.filter (fun _ => true) = as := List.filter_eq_self.mpr fun _ _ => rfl
theorem ev_lc1y {wi : TI} {vs : List Nat} {j : Nat} {as : List α} {Item : α → Phi} (r : α → PyData) (hd : DOk d H) (hz : as.length ≤ 40000) (hsrc : EvS d wi σ H as Item)
    (he : ∀ a ∈ as, ∀ x H1, Wk d H H1 → Item a x H1 → Ev d te ((wipe σ vs).set j (some x)) H1 (D K (r a)))
    (hw : ∀ x, wipe ((wipe σ vs).set j (some x)) vs = wipe σ vs := by intro _; rfl) :
    Ev d (tLc wi (gName j) tYes te vs) σ H (Ls K d (as.map r)) := by
  have h := ev_lc1 (te := te) (fun _ => true) r hd hz hsrc (fun _ _ _ _ _ _ => et_yes) (fun a ha x H1 e it _ => he a ha x H1 e it) hw
  rw [filter_true] at h
  exact h
theorem g2_run {i j : Nat} {σ2 : L2.St} {H1 : Hp} {x : V} {p q : PyData} {Q : L2.St → Hp → Prop} (h : D K (.tuple [p, q]) x H1) (k : ∀ y z, D K p y H1 → D K q z H1 → Q ((σ2.set i (some y)).set j (some z)) H1) : gTup K 2 (gCons (gName i) (gCons (gName j) gNil)) x σ2 H1 Q := by
  cases h with
  | tup h1 h2 =>
    cases h2 with
    | cons a1 h2 =>
      cases h2 with
      | cons a2 h2 =>
        cases h2
        exact ⟨_, _, rfl, h1, rfl, _, _, rfl, _, _, rfl, rfl, k _ _ a1 a2⟩
theorem g3_run {i j l : Nat} {σ2 : L2.St} {H1 : Hp} {x : V} {p q r : PyData} {Q : L2.St → Hp → Prop} (h : D K (.tuple [p, q, r]) x H1) (k : ∀ y z u, D K p y H1 → D K q z H1 → D K r u H1 → Q (((σ2.set i (some y)).set j (some z)).set l (some u)) H1) :
    gTup K 3 (gCons (gName i) (gCons (gName j) (gCons (gName l) gNil))) x σ2 H1 Q := by
  cases h with
  | tup h1 h2 =>
    cases h2 with
    | cons a1 h2 =>
      cases h2 with
      | cons a2 h2 =>
        cases h2 with
        | cons a3 h2 =>
          cases h2
          exact ⟨_, _, rfl, h1, rfl, _, _, rfl, _, _, rfl, _, _, rfl, rfl, k _ _ _ a1 a2 a3⟩
theorem ev_lc2 {wi : TI} {tt : TT} {vs : List Nat} {i j : Nat} {as : List α} {p q : α → PyData} (f : α → Bool) (r : α → PyData) (hd : DOk d H) (hz : as.length ≤ 40000) (hsrc : EvS d wi σ H as fun a => D K (.tuple [p a, q a]))
    (ht : ∀ a ∈ as, ∀ x y H1, Wk d H H1 → D K (p a) x H1 → D K (q a) y H1 → EvT d tt (((wipe σ vs).set i (some x)).set j (some y)) H1 (· = f a))
    (he : ∀ a ∈ as, ∀ x y H1, Wk d H H1 → D K (p a) x H1 → D K (q a) y H1 → f a = true → Ev d te (((wipe σ vs).set i (some x)).set j (some y)) H1 (D K (r a)))
    (hw : ∀ x y, wipe (((wipe σ vs).set i (some x)).set j (some y)) vs = wipe σ vs := by intro _ _; rfl) :
    Ev d (tLc wi (gTup K 2 (gCons (gName i) (gCons (gName j) gNil))) tt te vs) σ H (Ls K d ((as.filter f).map r)) :=
  ev_lcG f r hd hz hsrc fun a ha x H1 e1 it Q k => g2_run it fun y z h1 h2 => k _ H1 (Ext.refl H1) (hw y z) (ht a ha y z H1 e1 h1 h2) (he a ha y z H1 e1 h1 h2)
theorem ev_lc2y {wi : TI} {vs : List Nat} {i j : Nat} {as : List α} {p q : α → PyData} (r : α → PyData) (hd : DOk d H) (hz : as.length ≤ 40000) (hsrc : EvS d wi σ H as fun a => D K (.tuple [p a, q a]))
    (he : ∀ a ∈ as, ∀ x y H1, Wk d H H1 → D K (p a) x H1 → D K (q a) y H1 → Ev d te (((wipe σ vs).set i (some x)).set j (some y)) H1 (D K (r a)))
    (hw : ∀ x y, wipe (((wipe σ vs).set i (some x)).set j (some y)) vs = wipe σ vs := by intro _ _; rfl) :
    Ev d (tLc wi (gTup K 2 (gCons (gName i) (gCons (gName j) gNil))) tYes te vs) σ H (Ls K d (as.map r)) := by
  have h := ev_lc2 (te := te) (fun _ => true) r hd hz hsrc (fun _ _ _ _ _ _ _ _ => et_yes) (fun a ha x y H1 e h1 h2 _ => he a ha x y H1 e h1 h2) hw
  rw [filter_true] at h
  exact h
theorem ev_lc3 {wi : TI} {tt : TT} {vs : List Nat} {i j l : Nat} {as : List α} {p q s : α → PyData} (f : α → Bool) (r : α → PyData) (hd : DOk d H) (hz : as.length ≤ 40000) (hsrc : EvS d wi σ H as fun a => D K (.tuple [p a, q a, s a]))
    (ht : ∀ a ∈ as, ∀ x y z H1, Wk d H H1 → D K (p a) x H1 → D K (q a) y H1 → D K (s a) z H1 → EvT d tt ((((wipe σ vs).set i (some x)).set j (some y)).set l (some z)) H1 (· = f a))
    (he : ∀ a ∈ as, ∀ x y z H1, Wk d H H1 → D K (p a) x H1 → D K (q a) y H1 → D K (s a) z H1 → f a = true → Ev d te ((((wipe σ vs).set i (some x)).set j (some y)).set l (some z)) H1 (D K (r a)))
    (hw : ∀ x y z, wipe ((((wipe σ vs).set i (some x)).set j (some y)).set l (some z)) vs = wipe σ vs := by intro _ _ _; rfl) :
    Ev d (tLc wi (gTup K 3 (gCons (gName i) (gCons (gName j) (gCons (gName l) gNil)))) tt te vs) σ H (Ls K d ((as.filter f).map r)) :=
  ev_lcG f r hd hz hsrc fun a ha x H1 e1 it Q k => g3_run it fun y z u h1 h2 h3 => k _ H1 (Ext.refl H1) (hw y z u) (ht a ha y z u H1 e1 h1 h2 h3) (he a ha y z u H1 e1 h1 h2 h3)
/-! built-in functions -/
abbrev lenR (K : PySem.W.Frag) : List V → Hp → VK → Prop := fun xs H Q => ∃ p ys, xs = [V.ref p] ∧ (SqL K H p ys ∨ SqT K H p ys) ∧ Q (.int ys.length) H
abbrev tupR (K : PySem.W.Frag) : List V → Hp → VK → Prop := fun xs H Q => ∃ p ys, xs = [V.ref p] ∧ ((SqL K H p ys ∧ ∀ l, H l = none → Q (.ref l) (upd H l (.tup ys))) ∨ (SqT K H p ys ∧ Q (.ref p) H))
abbrev lisR (K : PySem.W.Frag) : List V → Hp → VK → Prop := fun xs H Q => ∃ p ys, xs = [V.ref p] ∧ (SqL K H p ys ∨ SqT K H p ys) ∧ ∀ l, H l = none → Q (.ref l) (upd H l (.lst ys))
theorem ev_all {as : List α} {p : α → Bool} (h : Ev d ta σ H (Ls K d (as.map fun a => .bool (p a)))) : Ev d (tCB (rAll K) (tCons ta tNil)) σ H (D K (.bool (as.all p))) := fun H1 e Q q =>
  h H1 e _ fun v H2 e2 f => by
    obtain ⟨l, xs, rfl, _, h1, h2⟩ := f
    have h2' : DtA K H2 ((as.map p).map .bool) xs := by rw [List.map_map]; exact h2
    rw [DtA.bools h2'] at h1
    refine ⟨l, as.map p, rfl, .inl (.inl h1), ?_⟩
    rw [List.all_map]
    exact q _ H2 e2 (.bl _)
theorem ev_any {as : List α} {p : α → Bool} (h : Ev d ta σ H (Ls K d (as.map fun a => .bool (p a)))) : Ev d (tCB (rAny K) (tCons ta tNil)) σ H (D K (.bool (as.any p))) := fun H1 e Q q =>
  h H1 e _ fun v H2 e2 f => by
    obtain ⟨l, xs, rfl, _, h1, h2⟩ := f
    have h2' : DtA K H2 ((as.map p).map .bool) xs := by rw [List.map_map]; exact h2
    rw [DtA.bools h2'] at h1
    refine ⟨l, as.map p, rfl, .inl (.inl h1), ?_⟩
    rw [List.any_map]
    exact q _ H2 e2 (.bl _)
theorem ev_sum {as : List α} {p : α → Int} (h : Ev d ta σ H (Ls K d (as.map fun a => .int (p a)))) : Ev d (tCB (rSum K) (tCons ta tNil)) σ H (D K (.int (as.map p).sum)) := fun H1 e Q q =>
  h H1 e _ fun v H2 e2 f => by
    obtain ⟨l, xs, rfl, _, h1, h2⟩ := f
    have h2' : DtA K H2 ((as.map p).map .int) xs := by rw [List.map_map]; exact h2
    rw [DtA.ints h2'] at h1
    exact ⟨l, as.map p, rfl, .inl (.inl h1), q _ H2 e2 (.int _)⟩
theorem ev_tupL {ds : List PyData} (h : Ev d ta σ H (Ls K d ds)) : Ev d (tCB (fun xs H Q => ∃ p ys, xs = [V.ref p] ∧ ((SqL K H p ys ∧ ∀ l, H l = none → Q (.ref l) (upd H l (.tup ys))) ∨ (SqT K H p ys ∧ Q (.ref p) H))) (tCons ta tNil)) σ H (D K (.tuple ds)) := fun H1 e Q q =>
  h H1 e _ fun v H2 e2 f => by
    obtain ⟨l, xs, rfl, _, h1, h2⟩ := f
    exact ⟨l, xs, rfl, .inl ⟨.inl (.inl h1), fun p hp => q _ _ (e2.trans (Ext.new hp)) (.tup (.inl (.inl upd_same)) (DtA.up (Ext.new (d := d) hp).wk _ _ h2))⟩⟩
theorem ev_listT {ds : List PyData} (hd : DOk d H) (h : Ev d ta σ H (D K (.tuple ds))) : Ev d (tCB (fun xs H Q => ∃ p ys, xs = [V.ref p] ∧ (SqL K H p ys ∨ SqT K H p ys) ∧ ∀ l, H l = none → Q (.ref l) (upd H l (.lst ys))) (tCons ta tNil)) σ H (Ls K d ds) := fun H1 e Q q =>
  h H1 e _ fun v H2 e2 f => by
    cases f with
    | @tup p xs _ h1 h2 => exact ⟨p, xs, rfl, .inr h1, fun l hl => q _ _ (e2.trans (Ext.new hl)) ⟨l, xs, rfl, (hd.up (e.on e2)).ne hl, upd_same, DtA.up (Ext.new (d := d) hl).wk _ _ h2⟩⟩
theorem ev_lenT {ds : List PyData} {n : Int} (h : Ev d ta σ H (D K (.tuple ds))) (hn : (ds.length : Int) = n) : Ev d (tCB (fun xs H Q => ∃ p ys, xs = [V.ref p] ∧ (SqL K H p ys ∨ SqT K H p ys) ∧ Q (.int ys.length) H) (tCons ta tNil)) σ H (D K (.int n)) := fun H1 e Q q =>
  h H1 e _ fun v H2 e2 f => by
    cases f with
    | @tup p xs _ h1 h2 =>
      refine ⟨p, xs, rfl, .inr h1, ?_⟩
      rw [← h2.length, hn]
      exact q _ H2 e2 (.int _)
theorem ev_lenL {ds : List PyData} {n : Int} (h : Ev d ta σ H (Ls K d ds)) (hn : (ds.length : Int) = n) : Ev d (tCB (fun xs H Q => ∃ p ys, xs = [V.ref p] ∧ (SqL K H p ys ∨ SqT K H p ys) ∧ Q (.int ys.length) H) (tCons ta tNil)) σ H (D K (.int n)) := fun H1 e Q q =>
  h H1 e _ fun v H2 e2 f => by
    obtain ⟨l, xs, rfl, _, h1, h2⟩ := f
    refine ⟨l, xs, rfl, .inl (.inl (.inl h1)), ?_⟩
    rw [← h2.length, hn]
    exact q _ H2 e2 (.int _)
theorem ev_lenS {x : Str} {n : Int} (h : Ev d ta σ H (D K (.str x))) (hz : x.length ≤ 100000) (hn : (x.length : Int) = n) : Ev d (tCB (fun xs H Q => ∃ z : Str, xs = [V.str z] ∧ z.length ≤ sizeLine ∧ Q (.int z.length) H) (tCons ta tNil)) σ H (D K (.int n)) := fun H1 e Q q =>
  h H1 e _ fun v H2 e2 f => by
    cases f
    refine ⟨x, rfl, sz_of hz, ?_⟩
    rw [hn]
    exact q _ H2 e2 (.int _)
/-- c in s, c one sign -/
theorem ev_inSign {c : Nat} {z : Str} (ha : Ev d ta σ H (D K (.str ⟨#[c]⟩))) (hb : Ev d tb σ H (D K (.str z))) : Ev d (tOp (fun x y H Q => ∃ (c : Nat) (z : Str), x = V.str ⟨#[c]⟩ ∧ y = .str z ∧ Q (.bl (decide (c ∈ z.cps.toList))) H) ta tb) σ H (D K (.bool (decide (c ∈ z.cps.toList)))) :=
  ev_op ha hb fun _ _ H1 _ a b => by
    cases a
    cases b
    exact rv_now (fun Q q => ⟨c, z, rfl, rfl, q⟩) (.bl _)
theorem sml {n : Nat} (h : Nat.ble n 100000 = true) : n ≤ 100000 := Nat.le_of_ble_eq_true h
/-! joined, cut, looked through -/
theorem ev_cat {ds es : List PyData} (ha : Ev d ta σ H (Ls K d ds)) (hb : Ev d tb σ H (Ls K d es)) (hd : DOk d H) (hl : ds.length + es.length ≤ 100000) : Ev d (tOp rCat ta tb) σ H (Ls K d (ds ++ es)) :=
  ev_op ha hb fun _ _ H1 e a b => by
    obtain ⟨p, xs, rfl, np, h1, h2⟩ := a
    obtain ⟨p', ys, rfl, np', g1, g2⟩ := b
    intro Q q
    refine ⟨p, p', xs, ys, rfl, rfl, h1, g1, by rw [← h2.length, ← g2.length]; exact sz_of hl, fun l hp => q _ _ (Ext.new hp) ⟨l, xs ++ ys, rfl, (hd.up e).ne hp, upd_same, ?_⟩⟩
    exact DtA.up (Ext.new (d := d) hp).wk _ _ (h2.append g2)
theorem ev_catT {ds es : List PyData} (ha : Ev d ta σ H (D K (.tuple ds))) (hb : Ev d tb σ H (D K (.tuple es))) (hl : ds.length + es.length ≤ 100000) : Ev d (tOp (rCatA K) ta tb) σ H (D K (.tuple (ds ++ es))) :=
  ev_op ha hb fun _ _ H1 e a b => by
    cases a with
    | @tup p xs _ h1 h2 =>
      cases b with
      | @tup p' ys _ g1 g2 =>
        intro Q q
        refine ⟨p, p', xs, ys, rfl, rfl, h1, g1, by rw [← h2.length, ← g2.length]; exact sz_of hl, fun z => ?_, fun _ z => ?_, fun _ _ l hp => ?_⟩
        · subst z
          cases h2
          exact q _ _ (Ext.refl _) (.tup g1 g2)
        · subst z
          cases g2
          rw [List.append_nil] at q
          exact q _ _ (Ext.refl _) (.tup h1 h2)
        · exact q _ _ (Ext.new hp) (.tup (.inl (.inl upd_same)) (DtA.up (Ext.new (d := d) hp).wk _ _ (h2.append g2)))
def EvO (d : Option Addr) (to : TO) (σ : L2.St) (H : Hp) (o : Option Int) : Prop := ∀ H1, Wk d H H1 → ∀ Q : Option Int → Hp → Prop, (∀ H2, Ext d H1 H2 → Q o H2) → to σ H1 Q
theorem eo_none : EvO d tNoPart σ H none := fun H1 _ Q q => q H1 (Ext.refl H1)
theorem eo_some {i : Int} (h : Ev d te σ H (D K (.int i))) : EvO d (tPart te) σ H (some i) := fun H1 e Q q => h H1 e _ fun v H2 e2 f => by
  cases f
  exact ⟨i, rfl, q H2 e2⟩
theorem eo_int {i : Int} : EvO d (tPart (tC (.int i))) σ H (some i) := fun H1 _ Q q => ⟨i, rfl, q H1 (Ext.refl H1)⟩
def cutG {γ : Type} (xs : List γ) (lo hi : Option Int) : List γ := (xs.drop (HT.sIx xs.length 0 lo)).take (HT.sIx xs.length xs.length hi - HT.sIx xs.length 0 lo)
theorem cut_dt {H' : Hp} {ds : List PyData} {xs : List V} (h : DtA K H' ds xs) (lo hi : Option Int) : DtA K H' (cutG ds lo hi) (cutV xs lo hi) := by
  unfold cutG cutV
  rw [h.length]
  exact (h.drop _).take _
theorem ev_slT {ds es : List PyData} {lo hi : Option Int} {tl' th : TO} (ha : Ev d ta σ H (D K (.tuple ds))) (hl : EvO d tl' σ H lo) (hh : EvO d th σ H hi) (e : cutG ds lo hi = es) : Ev d (tSl (rSlA K) ta tl' th) σ H (D K (.tuple es)) := fun H1 e1 Q q =>
  ha H1 e1 _ fun v H2 e2 f => hl H2 (e1.on e2) _ fun H3 e3 => hh H3 ((e1.on e2).on e3) _ fun H4 e4 => by
    subst e
    cases Dt.up (e3.trans e4).wk _ _ f with
    | @tup p xs _ h1 h2 =>
      refine ⟨p, xs, rfl, h1, fun z => ?_, fun _ l hp => ?_⟩
      · refine q _ H4 ((e2.trans e3).trans e4) ?_
        have ec : cutG ds lo hi = ds := by
          unfold cutG
          rw [h2.length, z.1, z.2, List.drop_zero, Nat.sub_zero, ← h2.length, List.take_length]
        rw [ec]
        exact .tup h1 h2
      · exact q _ _ (((e2.trans e3).trans e4).trans (Ext.new hp)) (.tup (.inl (.inl upd_same)) (DtA.up (Ext.new (d := d) hp).wk _ _ (cut_dt h2 lo hi)))
theorem ev_slL {ds es : List PyData} {lo hi : Option Int} {tl' th : TO} (hd : DOk d H) (ha : Ev d ta σ H (Ls K d ds)) (hl : EvO d tl' σ H lo) (hh : EvO d th σ H hi) (e : cutG ds lo hi = es) : Ev d (tSl (rSlL K) ta tl' th) σ H (Ls K d es) := fun H1 e1 Q q =>
  ha H1 e1 _ fun v H2 e2 f => hl H2 (e1.on e2) _ fun H3 e3 => hh H3 ((e1.on e2).on e3) _ fun H4 e4 => by
    subst e
    obtain ⟨p, xs, rfl, np, h1, h2⟩ := f
    have w4 := (e3.trans e4).wk
    exact ⟨p, xs, rfl, .inl (.inl (w4.lst np h1)), fun l hp => q _ _ (((e2.trans e3).trans e4).trans (Ext.new hp)) ⟨l, cutV xs lo hi, rfl, (((hd.up e1).up e2.wk).up w4).ne hp, upd_same, DtA.up (Ext.new (d := d) hp).wk _ _ (cut_dt (DtA.up w4 _ _ h2) lo hi)⟩⟩
theorem cut_from {γ : Type} (xs : List γ) (k : Nat) : cutG xs (some (k : Int)) none = xs.drop k := by
  unfold cutG
  rw [HT.sIx_nat, HT.sIx_none]
  by_cases h : k ≤ xs.length
  · rw [Nat.min_eq_left h]
    exact List.take_of_length_le (by rw [List.length_drop]; exact Nat.le_refl _)
  · rw [Nat.min_eq_right (by omega), List.drop_length, List.drop_eq_nil_of_le (by omega)]
    exact List.take_nil
theorem cut_to {γ : Type} (xs : List γ) (k : Nat) : cutG xs none (some (k : Int)) = xs.take k := by
  unfold cutG
  rw [HT.sIx_nat, HT.sIx_none, List.drop_zero, Nat.sub_zero]
  by_cases h : k ≤ xs.length
  · rw [Nat.min_eq_left h]
  · rw [Nat.min_eq_right (by omega), List.take_length, List.take_of_length_le (by omega)]
theorem flat_ints : ∀ ns : List Int, (ns.map V.int).all flatV = true
  | [] => rfl
  | n :: ns => by rw [List.map_cons, List.all_cons, flat_ints ns]; rfl
theorem inV_ints (n : Int) : ∀ ns : List Int, inV (.int n) (ns.map V.int) = ns.any fun m => m == n
  | [] => rfl
  | m :: ns => by
    have ih := inV_ints n ns
    unfold inV at ih ⊢
    rw [List.map_cons, List.any_cons, ih, List.any_cons]
    rfl
theorem ev_inL {neg : Bool} {n : Int} {ns : List Int} (ha : Ev d ta σ H (D K (.int n))) (hb : Ev d tb σ H (Ls K d (ns.map .int))) : Ev d (tOp (rIn K neg) ta tb) σ H (D K (.bool (if neg then !ns.any fun m => m == n else ns.any fun m => m == n))) :=
  ev_op ha hb fun _ _ H1 _ a b => by
    cases a
    obtain ⟨p, xs, rfl, np, h1, h2⟩ := b
    rw [DtA.ints h2] at h1
    refine rv_now (fun Q q => ⟨p, _, rfl, .inl (.inl (.inl h1)), rfl, flat_ints ns, ?_⟩) (.bl _)
    rw [inV_ints]
    exact q
theorem ev_inT {neg : Bool} {n : Int} {ns : List Int} (ha : Ev d ta σ H (D K (.int n))) (hb : Ev d tb σ H (D K (.tuple (ns.map .int)))) : Ev d (tOp (rIn K neg) ta tb) σ H (D K (.bool (if neg then !ns.any fun m => m == n else ns.any fun m => m == n))) :=
  ev_op ha hb fun _ _ H1 _ a b => by
    cases a
    cases b with
    | @tup p xs _ h1 h2 =>
      rw [DtA.ints h2] at h1
      refine rv_now (fun Q q => ⟨p, _, rfl, .inr h1, rfl, flat_ints ns, ?_⟩) (.bl _)
      rw [inV_ints]
      exact q
/-- != of two lists of plain data -/
theorem ev_neL {ds es : List PyData} (ha : Ev d ta σ H (Ls K d ds)) (hb : Ev d tb σ H (Ls K d es)) (h1 : SeqAt.shaped (.list ds) = true) (h2 : SeqAt.shaped (.list es) = true) : Ev d (tOp (rNeD K) ta tb) σ H (D K (.bool (!PyData.eqv (.list ds) (.list es)))) :=
  ev_op ha hb fun _ _ H1 _ a b => by
    obtain ⟨p, xs, rfl, np, a1, a2⟩ := a
    obtain ⟨p', ys, rfl, np', b1, b2⟩ := b
    exact rv_now (fun Q q => ⟨.list ds, .list es, .lst (.inl (.inl a1)) (DtA.dp _ _ a2), .lst (.inl (.inl b1)) (DtA.dp _ _ b2), h1, h2, q⟩) (.bl _)
end
end Kp
set_option maxHeartbeats 4010000
/-! Kp1: the text, what the top leaves, promises. -/
namespace Kp
open L2 PySem PySem.Spec PyProof.Rows
/-! ### the text by places -/
def topS (i : Nat) : Stmt := PySem.Challenge.pw_settledplay_k30_whole_differences_of_wor.main.body.getD i (.Pass ⟨0, 0, 0, 0⟩)
abbrev s_is_whole : Stmt := topS 9
abbrev s_is_short : Stmt := topS 10
abbrev s_is_from : Stmt := topS 11
abbrev s_is_tick : Stmt := topS 12
abbrev s_is_luck_in : Stmt := topS 15
abbrev s_is_luck : Stmt := topS 16
abbrev s_is_number : Stmt := topS 19
abbrev s_is_name : Stmt := topS 23
abbrev s_is_tuple_within : Stmt := topS 24
abbrev s_is_name_in : Stmt := topS 31
abbrev s_are_numbers_in : Stmt := topS 32
abbrev s_is_thing_in : Stmt := topS 33
abbrev s_are_things_in : Stmt := topS 34
abbrev s_parts_told : Stmt := topS 36
abbrev s_made_world : Stmt := topS 38
abbrev s_do_ascend : Stmt := topS 47
abbrev s_is_thing : Stmt := topS 48
abbrev s_is_change : Stmt := topS 49
abbrev s_are_parts : Stmt := topS 50
abbrev s_is_difference : Stmt := topS 51
abbrev s_is_same_sort : Stmt := topS 52
abbrev s_difference_in : Stmt := topS 53
abbrev s_unfit_ids : Stmt := topS 54
abbrev s_applied_in : Stmt := topS 55
abbrev s_require_any_world : Stmt := topS 56
abbrev s_require_difference : Stmt := topS 57
abbrev s_difference : Stmt := topS 58
abbrev s_applied : Stmt := topS 59
abbrev s_size : Stmt := topS 60
abbrev s_law_dice : Stmt := topS 62
abbrev s_law_roll : Stmt := topS 63
abbrev s_law_pick : Stmt := topS 64
abbrev s_law_near : Stmt := topS 65
abbrev s_law_kp_numbers : Stmt := topS 66
abbrev s_law_kp_thing : Stmt := topS 67
abbrev s_law_kp_world : Stmt := topS 68
abbrev s_law_kp_near_thing : Stmt := topS 69
abbrev s_law_kp_near : Stmt := topS 70
abbrev s_law_kp_real : Stmt := topS 71
abbrev s_law_kp_by_ids : Stmt := topS 72
abbrev s_law_kp_difference : Stmt := topS 73
abbrev s_law_kp_size : Stmt := topS 74
abbrev s_law_longer : Stmt := topS 75
abbrev s_law_pair_right : Stmt := topS 76
abbrev s_law_right : Stmt := topS 77
abbrev s_law : Stmt := topS 78
abbrev s_KnownParts___init__ : Stmt := inClass (topS 35) 1
abbrev s_World___init__ : Stmt := inClass (topS 37) 1
abbrev s_World___eq__ : Stmt := inClass (topS 37) 12
/-! ### the built-in names -/
theorem bt_len : bootBuiltins "len" = some (.builtin "len") := by decide +kernel
theorem bt_isinstance : bootBuiltins "isinstance" = some (.builtin "isinstance") := by decide +kernel
theorem bt_all : bootBuiltins "all" = some (.builtin "all") := by decide +kernel
theorem bt_any : bootBuiltins "any" = some (.builtin "any") := by decide +kernel
theorem bt_sum : bootBuiltins "sum" = some (.builtin "sum") := by decide +kernel
theorem bt_abs : bootBuiltins "abs" = some (.builtin "abs") := by decide +kernel
theorem bt_max : bootBuiltins "max" = some (.builtin "max") := by decide +kernel
theorem bt_min : bootBuiltins "min" = some (.builtin "min") := by decide +kernel
theorem bt_sorted : bootBuiltins "sorted" = some (.builtin "sorted") := by decide +kernel
theorem bt_repr : bootBuiltins "repr" = some (.builtin "repr") := by decide +kernel
theorem bt_int : bootBuiltins "int" = some (.type "int") := by decide +kernel
theorem bt_bool : bootBuiltins "bool" = some (.type "bool") := by decide +kernel
theorem bt_str : bootBuiltins "str" = some (.type "str") := by decide +kernel
theorem bt_tuple : bootBuiltins "tuple" = some (.type "tuple") := by decide +kernel
theorem bt_list : bootBuiltins "list" = some (.type "list") := by decide +kernel
theorem bt_dict : bootBuiltins "dict" = some (.type "dict") := by decide +kernel
theorem bt_set : bootBuiltins "set" = some (.type "set") := by decide +kernel
theorem bt_range : bootBuiltins "range" = some (.type "range") := by decide +kernel
theorem bt_zip : bootBuiltins "zip" = some (.type "zip") := by decide +kernel
theorem bt_enumerate : bootBuiltins "enumerate" = some (.type "enumerate") := by decide +kernel
/-- a def that stands in the module under its name -/
def Dfn (K : PySem.W.Frag) (mg : Str → Option Value) (x : Str) (st : Stmt) (ps : List Str) : Prop := ∃ f fd, C8.Def K mg x st f fd ∧ Binds K fd ps []
/-- what the top leaves: K the written part, CK and CW the two classes with slots -/
structure Txt (K : PySem.W.Frag) (mg : Str → Option Value) (CK CW gE : Addr) : Prop where
  c_GREATEST : ∃ u, mg "GREATEST" = some u ∧ RelV (.int (10 ^ 60)) u
  c_MODULUS : ∃ u, mg "MODULUS" = some u ∧ RelV (.int 999999937) u
  c_MOST : ∃ u, mg "MOST" = some u ∧ RelV (.int 1000000000) u
  c_MOST_NAME_pieces : ∃ u, mg "MOST_NAME_pieces" = some u ∧ RelV (.int 8) u
  c_SIGNS : ∃ u, mg "SIGNS" = some u ∧ RelV (.str "abcdefghijklmnopqrstuvwxyz") u
  c_MAX_THINGS_forms : ∃ u, mg "MAX_THINGS_forms" = some u ∧ RelV (.int 12) u
  c_MOST_NUMBERS : ∃ u, mg "MOST_NUMBERS" = some u ∧ RelV (.int 8) u
  c_MOST_NAME_worlds : ∃ u, mg "MOST_NAME_worlds" = some u ∧ RelV (.int 8) u
  c_THING_PARTS : ∃ u, mg "THING_PARTS" = some u ∧ RelV (.int 3) u
  c_LETTERS : ∃ u, mg "LETTERS" = some u ∧ RelV (.str "abcdefghijklmnopqrstuvwxyz") u
  c_PARTS : ∃ u, mg "PARTS" = some u ∧ RelV (.int 6) u
  c_HEAD : ∃ u, mg "HEAD" = some u ∧ RelV (.int 3) u
  c_MAX_THINGS_parts : ∃ u, mg "MAX_THINGS_parts" = some u ∧ RelV (.int 12) u
  c_MAX_FIELDS : ∃ u, mg "MAX_FIELDS" = some u ∧ RelV (.int 8) u
  c_FIT : ∃ u, mg "FIT" = some u ∧ RelV (.str "fit") u
  b_len : mg "len" = none
  b_isinstance : mg "isinstance" = none
  b_all : mg "all" = none
  b_any : mg "any" = none
  b_sum : mg "sum" = none
  b_abs : mg "abs" = none
  b_max : mg "max" = none
  b_min : mg "min" = none
  b_sorted : mg "sorted" = none
  b_repr : mg "repr" = none
  b_int : mg "int" = none
  b_bool : mg "bool" = none
  b_str : mg "str" = none
  b_tuple : mg "tuple" = none
  b_list : mg "list" = none
  b_dict : mg "dict" = none
  b_set : mg "set" = none
  b_range : mg "range" = none
  b_zip : mg "zip" = none
  b_enumerate : mg "enumerate" = none
  g_KnownParts : mg "KnownParts" = some (.ref CK)
  g_World : mg "World" = some (.ref CW)
  sc_K : SlX.SCls K CK
  sc_W : SlX.SCls K CW
  si_K : SlX.SIsi K CK
  si_W : SlX.SIsi K CW
  sl_K_own_luck : ∃ p, SlX.Slot1 K CK "own_luck" p 0
  sl_K_own_next_id : ∃ p, SlX.Slot1 K CK "own_next_id" p 1
  sl_K_own_things : ∃ p, SlX.Slot1 K CK "own_things" p 2
  sl_K_own_tick : ∃ p, SlX.Slot1 K CK "own_tick" p 3
  sl_W_own_ids : ∃ p, SlX.Slot1 K CW "own_ids" p 0
  sl_W_own_luck : ∃ p, SlX.Slot1 K CW "own_luck" p 1
  sl_W_own_next_id : ∃ p, SlX.Slot1 K CW "own_next_id" p 2
  sl_W_own_things : ∃ p, SlX.Slot1 K CW "own_things" p 3
  sl_W_own_tick : ∃ p, SlX.Slot1 K CW "own_tick" p 4
  kk_KK : PySem.W.kitOne K (.ref CK) (.ref CK) = some true
  kk_WW : PySem.W.kitOne K (.ref CW) (.ref CW) = some true
  kk_iK : PySem.W.kitOne K (.type "int") (.ref CK) = some false
  mk_K : ∃ f fd, Mk K CK f ∧ C8.Fun K "__init__" "KnownParts.__init__" s_KnownParts___init__ f fd ∧ Binds K fd ["self", "tick", "next_id", "luck", "things"] []
  mk_W : ∃ f fd, Mk K CW f ∧ C8.Fun K "__init__" "World.__init__" s_World___init__ f fd ∧ Binds K fd ["self", "tick", "next_id", "luck", "things"] []
  eq_W : PySem.W.findIn K (.ref CW) "__eq__" = some (some (.ref gE)) ∧ PySem.W.isFn K (.ref gE) = true ∧ ∃ fd, C8.Fun K "__eq__" "World.__eq__" s_World___eq__ gE fd ∧ Binds K fd ["self", "other"] []
  ne_W : PySem.W.findIn K (.ref CW) "__ne__" = some (some (.builtin "object.__ne__"))
  d_is_whole : Dfn K mg "is_whole" s_is_whole ["value"]
  d_is_short : Dfn K mg "is_short" s_is_short ["value"]
  d_is_from : Dfn K mg "is_from" s_is_from ["value", "least", "most"]
  d_is_tick : Dfn K mg "is_tick" s_is_tick ["value"]
  d_is_luck_in : Dfn K mg "is_luck_in" s_is_luck_in ["value"]
  d_is_luck : Dfn K mg "is_luck" s_is_luck ["value"]
  d_is_number : Dfn K mg "is_number" s_is_number ["value"]
  d_is_name : Dfn K mg "is_name" s_is_name ["value"]
  d_is_tuple_within : Dfn K mg "is_tuple_within" s_is_tuple_within ["value", "least", "most"]
  d_is_name_in : Dfn K mg "is_name_in" s_is_name_in ["value"]
  d_are_numbers_in : Dfn K mg "are_numbers_in" s_are_numbers_in ["value"]
  d_is_thing_in : Dfn K mg "is_thing_in" s_is_thing_in ["value"]
  d_are_things_in : Dfn K mg "are_things_in" s_are_things_in ["next_id", "value"]
  d_parts_told : Dfn K mg "parts_told" s_parts_told ["tick", "next_id", "luck", "things"]
  d_made_world : Dfn K mg "made_world" s_made_world ["tick", "next_id", "luck", "things"]
  d_do_ascend : Dfn K mg "do_ascend" s_do_ascend ["items"]
  d_is_thing : Dfn K mg "is_thing" s_is_thing ["value"]
  d_is_change : Dfn K mg "is_change" s_is_change ["value"]
  d_are_parts : Dfn K mg "are_parts" s_are_parts ["gone", "came", "changed"]
  d_is_difference : Dfn K mg "is_difference" s_is_difference ["value"]
  d_is_same_sort : Dfn K mg "is_same_sort" s_is_same_sort ["one", "other"]
  d_difference_in : Dfn K mg "difference_in" s_difference_in ["one", "other"]
  d_unfit_ids : Dfn K mg "unfit_ids" s_unfit_ids ["world", "told"]
  d_applied_in : Dfn K mg "applied_in" s_applied_in ["world", "told"]
  d_require_any_world : Dfn K mg "require_any_world" s_require_any_world ["value"]
  d_require_difference : Dfn K mg "require_difference" s_require_difference ["value"]
  d_difference : Dfn K mg "difference" s_difference ["one", "other"]
  d_applied : Dfn K mg "applied" s_applied ["world", "told"]
  d_size : Dfn K mg "size" s_size ["told"]
  d_law_dice : Dfn K mg "_law_dice" s_law_dice ["_law_script", "_law_spot"]
  d_law_roll : Dfn K mg "_law_roll" s_law_roll ["_law_dice_here", "_law_total"]
  d_law_pick : Dfn K mg "_law_pick" s_law_pick ["_law_dice_here", "_law_items"]
  d_law_near : Dfn K mg "_law_near" s_law_near ["_law_dice_here", "_law_most"]
  d_law_kp_numbers : Dfn K mg "_law_kp_numbers" s_law_kp_numbers ["_law_dice_here", "_law_many"]
  d_law_kp_thing : Dfn K mg "_law_kp_thing" s_law_kp_thing ["_law_dice_here", "_law_number"]
  d_law_kp_world : Dfn K mg "_law_kp_world" s_law_kp_world ["_law_dice_here", "_law_tick", "_law_most"]
  d_law_kp_near_thing : Dfn K mg "_law_kp_near_thing" s_law_kp_near_thing ["_law_dice_here", "_law_thing"]
  d_law_kp_near : Dfn K mg "_law_kp_near" s_law_kp_near ["_law_dice_here", "_law_world", "_law_tick"]
  d_law_kp_real : Dfn K mg "_law_kp_real" s_law_kp_real ["_law_world"]
  d_law_kp_by_ids : Dfn K mg "_law_kp_by_ids" s_law_kp_by_ids ["_law_world"]
  d_law_kp_difference : Dfn K mg "_law_kp_difference" s_law_kp_difference ["_law_one", "_law_other"]
  d_law_kp_size : Dfn K mg "_law_kp_size" s_law_kp_size ["_law_told"]
  d_law_longer : Dfn K mg "_law_longer" s_law_longer ["_law_dice_here", "_law_one", "_law_other", "_law_due"]
  d_law_pair_right : Dfn K mg "_law_pair_right" s_law_pair_right ["_law_dice_here", "_law_one", "_law_other"]
  d_law_right : Dfn K mg "_law_right" s_law_right ["_law_dice_here"]
  d_law : Dfn K mg "law" s_law ["_law_script"]

/-! ### promises -/
/-- a is chosen so that pre a; the arguments are args a; what comes back is res a; of the heap all stays but the dice at dd a -/
def Pr {α : Type} (dd : α → Option Addr) (pre : α → Prop) (args : α → List Phi) (res : α → Phi) : Sp := fun vs H Q _ => ∃ a, pre a ∧ DOk (dd a) H ∧ All (args a) vs H ∧ ∀ v H', Ext (dd a) H H' → res a v H' → Q v H'
/-- a def that leaves all as it was -/
abbrev Pu {α : Type} (pre : α → Prop) (args : α → List Phi) (res : α → Phi) : Sp := Pr (fun _ => none) pre args res
section
variable {d : Option Addr} {σ : L2.St} {H : Hp} {t : TA} {α : Type} {pre : α → Prop} {args : α → List Phi} {res : α → Phi} {dd : α → Option Addr}
theorem ev_callP (a : α) (hp : pre a) (h : EvA d t σ H (args a)) : Ev d (tCall (Pu pre args res) [] C8.E0 t) σ H (res a) := fun H1 e Q q =>
  h H1 e _ fun vs H2 e2 f => ⟨a, hp, DOk.no _, by rw [List.append_nil]; exact f, fun v H3 e3 g => q v H3 (e2.trans e3.any) g⟩
theorem ev_callD (a : α) (hp : pre a) (hd : dd a = d) (hk : DOk d H) (h : EvA d t σ H (args a)) : Ev d (tCall (Pr dd pre args res) [] C8.E0 t) σ H (res a) := fun H1 e Q q => by
  subst hd
  exact h H1 e _ fun vs H2 e2 f => ⟨a, hp, hk.up (e.on e2), by rw [List.append_nil]; exact f, fun v H3 e3 g => q v H3 (e2.trans e3) g⟩
end
section
variable {K : PySem.W.Frag} {P : Program} {w : World} {mg : Str → Option Value} {base : Heap}
/-- a def by its body -/
theorem cal_of {x : Str} {st : Stmt} {ps N : List Str} {k : Nat} {α : Type} {pre : α → Prop} {args : α → List Phi} {res : α → Phi} {dd : α → Option Addr} (F : Dfn K mg x st ps) (S : FnScope N ps (C8.fnScope st)) (hl : ∀ a, (args a).length = ps.length)
    (hb : ∀ (cdv : Value) (f : Addr) (A : Around) (outer : List Env) (s : Shared) (H : Hp) (vs : List V) (Q : VK) (E : XK), Room k (A.deeper (envOfC x (C8.fnScope st) s.heap.objs.size f cdv)) → (∀ a, pre a → DOk (dd a) H → All (args a) vs H → (∀ v H', Ext (dd a) H H' → res a v H' → Q v H') →
      ∃ t, PSs (cxOf C8.CX0 P w K mg base N x (C8.fnScope st) f cdv A outer s H E).nox (C8.fnBody st) t ∧ t { nx := fun _ H' => Q .non H', rt := Q } (start N vs) H)) : C8.Cal P w K mg base (k + 1) x (Pr dd pre args res) [] := by
  obtain ⟨f, fd, F1, b⟩ := F
  refine C8.cal0 F1 b .nil S (fun vs H Q E h => ?_) fun cdv A outer s H vs Q E hr h => ?_
  · obtain ⟨a, _, _, h2, _⟩ := h
    exact (all_len (Fs := []) (vs := []) h2).trans (hl a)
  · obtain ⟨a, h1, h2, h3, q⟩ := h
    exact hb cdv f A outer s H vs Q E hr a h1 h2 h3 q
end
/-! ### isinstance -/
section
variable {K : PySem.W.Frag} {d : Option Addr} {σ : L2.St} {H : Hp} {ta tb : TE}
def tyN : PyData → Option String
  | .none => some "NoneType"
  | .bool _ => some "bool"
  | .int _ => some "int"
  | .str _ => some "str"
  | .tuple _ => some "tuple"
  | _ => none
theorem dt_ty {x : PyData} {v : V} (h : Dt K H x v) {n : String} (e : tyN x = some n) : TyX K H v (.type n) := by
  cases h with
  | non => cases e; exact .base .non
  | bl b => cases e; exact .base (.bl b)
  | int i => cases e; exact .base (.int i)
  | str y => cases e; exact .base (.str y)
  | tup h1 h2 =>
    cases e
    rcases h1 with (h1 | ⟨o, h1⟩) | ⟨o, its, n, h1, h2, _⟩
    · exact .base (.tup h1)
    · exact .fTuple h1
    · exact .kTuple h1 h2
/-- isinstance(e, T), T a built-in class -/
theorem ev_isi {x : PyData} {n m : String} {b : Bool} (ha : Ev d ta σ H (D K x)) (e : tyN x = some n) (hb : kitB n m = some b) : Ev d (tCB (rIsi K) (tCons ta (tCons (tC (.ty m)) tNil))) σ H (D K (.bool b)) := fun H1 e1 Q q =>
  ha H1 e1 _ fun v H2 e2 f => ⟨v, .ty m, .type n, .type m, b, rfl, .ty m, dt_ty f e, kit_ty hb, q _ H2 e2 (.bl b)⟩
/-- .. an own class that it is none of -/
theorem ev_isiC {x : PyData} {n : String} {C : Addr} {b : Bool} (ha : Ev d ta σ H (D K x)) (e : tyN x = some n) (hb : PySem.W.kitOne K (.type n) (.ref C) = some b) : Ev d (tCB (rIsi K) (tCons ta (tCons (tC (.ref C)) tNil))) σ H (D K (.bool b)) := fun H1 e1 Q q =>
  ha H1 e1 _ fun v H2 e2 f => ⟨v, .ref C, .type n, .ref C, b, rfl, .own C, dt_ty f e, hb, q _ H2 e2 (.bl b)⟩
theorem kB_ii : kitB "int" "int" = some true := by decide +kernel
theorem kB_ib : kitB "int" "bool" = some false := by decide +kernel
theorem kB_ss : kitB "str" "str" = some true := by decide +kernel
theorem kB_tt : kitB "tuple" "tuple" = some true := by decide +kernel
end
end Kp
set_option maxHeartbeats 410000
/-! KpG: defs that run where no text of a tuple is being made, so that repr may be asked. -/
namespace Kp
open L2 PySem PySem.Spec PyProof.Rows
/-- the promise of a def where nothing on the way is guarded -/
structure FnG (P : Program) (w : World) (K : PySem.W.Frag) (mg : Str → Option Value) (base : Heap) (k : Nat) (f : Addr) (fd : FuncData) (ps : List Str) (sp : Sp) : Prop where
  len : ∀ ws H Q E, sp ws H Q E → ws.length = ps.length
  run : ∀ (A : Around) (outer : List Env) (s : Shared) (H : Hp) (args : Args) (us : List Value) (vs : List V) (Q : VK) (E : XK), A.guards = some [] → Room k A → Env0 P w K mg base A outer s H → BindsTo s fd args (ps.zip us) → Vals vs us → sp vs H Q E → codeAny (model P w) A (.call (.ref f) args) (CR C8.CX0 outer P w H s Q E) s
structure CalG (P : Program) (w : World) (K : PySem.W.Frag) (mg : Str → Option Value) (base : Heap) (k : Nat) (x : Str) (sp : Sp) : Prop where
  ex : ∃ (f : Addr) (fd : FuncData) (ps : List Str), FnG P w K mg base k f fd ps sp ∧ mg x = some (.ref f) ∧ PySem.W.keepIn K (.ref f) = true ∧ Binds K fd ps []
section
variable {K : PySem.W.Frag} {P : Program} {w : World} {mg : Str → Option Value} {base : Heap}
/-- a def by its body -/
theorem fn_g {x : Str} {st : Stmt} {f : Addr} {fd : FuncData} {N ps : List Str} {k : Nat} {sp : Sp} (F : C8.Fun K x x st f fd) (S : FnScope N ps (C8.fnScope st)) (len : ∀ vs H Q E, sp vs H Q E → vs.length = ps.length)
    (hb : ∀ (cdv : Value) (A : Around) (outer : List Env) (s : Shared) (H : Hp) (vs : List V) (Q : VK) (E : XK), (A.deeper (envOfC x (C8.fnScope st) s.heap.objs.size f cdv)).guards = some [] → Room k (A.deeper (envOfC x (C8.fnScope st) s.heap.objs.size f cdv)) → sp vs H Q E →
      ∃ t, PSs (cxOf C8.CX0 P w K mg base N x (C8.fnScope st) f cdv A outer s H E).nox (C8.fnBody st) t ∧ t { nx := fun _ H' => Q .non H', rt := Q } (start N vs) H) : FnG P w K mg base (k + 1) f fd ps sp := by
  obtain ⟨oc, od, dV, kV, doc, pm, an, cdv, ct, osl, rfl, lk, code⟩ := F.ex
  refine ⟨len, fun A outer s H args us vs Q E free room e0 binds rel want => ?_⟩
  have many := len _ _ _ _ want
  have inK : K.In s.heap := e0.mod.kin.keeps fun b o z => (e0.bs b o z).1
  have lim : s.heap.NoLimit := e0.mod.nolimit.keeps fun b o z => (e0.bs b o z).1
  refine codeAny_call_function room.depth (inK _ _ lk) rfl S.co S.gen rfl (PySem.W.codeRec_of inK code) (binds _ _ _ _ (wpAny_newFunctionEnv_cells S.kind (fun ⟨n, v⟩ hy => ?_) fun env he s1 z => ?_))
  · rcases S.par n (List.of_mem_zip hy).1 with q | q
    · exact .inl q
    · (exact .inr ⟨q, PySem.W.cellsFrom_some _ _ _ (.inl q)⟩)
  subst he
  refine ⟨lim.keeps z.toInCall.keep, codeAny_func ?_⟩
  obtain ⟨t, ht, hq⟩ := hb cdv A outer s H vs Q E free (room.deeper _) want
  have I := inv_start (CX := C8.CX0) (E := E) S room.hd e0 many rel z
  have back : ∀ {σ' : L2.St} {H' : Hp} {v : V} {u : Value} {s' : Shared}, Inv (cxOf C8.CX0 P w K mg base N x (C8.fnScope st) f cdv A outer s H E) [] σ' H' s' → RelV v u → Q v H' → CE outer P w H s Q u s' := fun J r q => ⟨_, _, J.os, J.bare, J.base, J.hok, r, q⟩
  refine wpAny_mono (ht.nox.run [] s1 (start N vs) H _ I hq) (fun fl s' hs => ?_) fun _ _ hs => hs
  match fl, hs with
  | .ret u, ⟨v, σ', H', J, r, q⟩ => exact back J r q
  | .next, ⟨σ', H', J, q⟩ => exact back (v := V.non) (u := Value.none) J rfl q
  | .brk, ⟨_, _, _, q⟩ => exact q.elim
  | .cont, ⟨_, _, _, q⟩ => exact q.elim
theorem fn_gP {f : Addr} {fd : FuncData} {x : Str} {st : Stmt} {ps N : List Str} {k : Nat} {α : Type} {pre : α → Prop} {args : α → List Phi} {res : α → Phi} {dd : α → Option Addr} (F : C8.Fun K x x st f fd) (S : FnScope N ps (C8.fnScope st)) (hl : ∀ a, (args a).length = ps.length)
    (hb : ∀ (cdv : Value) (f : Addr) (A : Around) (outer : List Env) (s : Shared) (H : Hp) (vs : List V) (Q : VK) (E : XK), (A.deeper (envOfC x (C8.fnScope st) s.heap.objs.size f cdv)).guards = some [] → Room k (A.deeper (envOfC x (C8.fnScope st) s.heap.objs.size f cdv)) → (∀ a, pre a → DOk (dd a) H → All (args a) vs H → (∀ v H', Ext (dd a) H H' → res a v H' → Q v H') →
      ∃ t, PSs (cxOf C8.CX0 P w K mg base N x (C8.fnScope st) f cdv A outer s H E).nox (C8.fnBody st) t ∧ t { nx := fun _ H' => Q .non H', rt := Q } (start N vs) H)) : FnG P w K mg base (k + 1) f fd ps (Pr dd pre args res) := by
  refine fn_g F S (fun vs H Q E h => ?_) fun cdv A outer s H vs Q E hg hr h => ?_
  · obtain ⟨a, _, _, h2, _⟩ := h
    exact (all_len (Fs := []) (vs := []) h2).trans (hl a)
  · obtain ⟨a, h1, h2, h3, q⟩ := h
    exact hb cdv f A outer s H vs Q E hg hr a h1 h2 h3 q
theorem cal_g {x : Str} {st : Stmt} {ps N : List Str} {k : Nat} {α : Type} {pre : α → Prop} {args : α → List Phi} {res : α → Phi} {dd : α → Option Addr} (F : Dfn K mg x st ps) (S : FnScope N ps (C8.fnScope st)) (hl : ∀ a, (args a).length = ps.length)
    (hb : ∀ (cdv : Value) (f : Addr) (A : Around) (outer : List Env) (s : Shared) (H : Hp) (vs : List V) (Q : VK) (E : XK), (A.deeper (envOfC x (C8.fnScope st) s.heap.objs.size f cdv)).guards = some [] → Room k (A.deeper (envOfC x (C8.fnScope st) s.heap.objs.size f cdv)) → (∀ a, pre a → DOk (dd a) H → All (args a) vs H → (∀ v H', Ext (dd a) H H' → res a v H' → Q v H') →
      ∃ t, PSs (cxOf C8.CX0 P w K mg base N x (C8.fnScope st) f cdv A outer s H E).nox (C8.fnBody st) t ∧ t { nx := fun _ H' => Q .non H', rt := Q } (start N vs) H)) : CalG P w K mg base (k + 1) x (Pr dd pre args res) := by
  obtain ⟨f, fd, F1, b⟩ := F
  exact ⟨f, fd, ps, fn_gP F1.fn S hl hb, F1.mgf, F1.kp, b⟩
end
section
variable {X : Cx} {k j : Nat} {x : Str} {sp : Sp} {p pos : Pos} {e : Expr} {es : List Expr} {t : TA}
theorem pe_g (c : CalG X.prog X.w X.K X.mg X.base k x sp) (hg : X.A.guards = some []) (hr : Room j X.A) (hk : k ≤ j) (hgl : Gl X x) (ha : PA X (e :: es) t)
    (hdb : (x == ("__debug__" : Str)) = false := by decide) (he : starEach (e :: es) X.env = (false, eval e X.env) :: starEach es X.env := by rfl) (hpl : (backTo pos (starEach es X.env)).any (·.1) = false := by rfl) : PE X (.Call (.Name x p) (e :: es) [] pos) (tCall sp [] C8.E0 t) := by
  obtain ⟨f, fd, ps, F, hm, kp, b⟩ := c.ex
  constructor
  intro pins s σ H Q I h
  refine wpAny_Call_Name_kw (ld_glob I hgl hm (PySem.W.callWith_K (h₀ := X.base) I.ok.mod.kin kp (thn (ha.run pos pins s σ H _ I h) fun us s1 ⟨vs, H1, I1, r, q⟩ => ⟨I1.kIn, ?_⟩) he hpl) hdb)
  have q' : sp vs H1 Q C8.E0 := by
    have z : sp (vs ++ []) H1 Q C8.E0 := q
    rw [List.append_nil] at z
    exact z
  have hl : (us ++ []).length = ps.length := by rw [List.append_nil, ← r.length]; exact F.len _ _ _ _ q'
  have bt := b s1 us I1.kIn hl
  rw [List.append_nil] at bt
  refine wpAny_call (codeAny_mono (F.run X.A X.stack s1 H1 ⟨us, []⟩ us vs Q C8.E0 hg (hr.mono hk) I1.env0 bt r q') fun r' s' hq => ?_)
  match r', hq with
  | .error e, hq => exact C8.pass0 (X := X) (E := C8.E0) pins σ H1 s1 e s' I1 hq
  | .ok (.ret u), hq => exact I1.after hq
  | .ok .next, hq => exact hq.elim
  | .ok .brk, hq => exact hq.elim
  | .ok .cont, hq => exact hq.elim
/-- repr of plain data in a tuple -/
def rRepr (K : PySem.W.Frag) : List V → Hp → VK → Prop := fun xs H Q => ∃ (a : Addr) (y : PyData), xs = [V.ref a] ∧ Dt K H y (.ref a) ∧ y.showable = true ∧ y.hasDict = false ∧ y.depth ≤ 60 ∧ y.shown.length ≤ sizeLine ∧ Q (.str y.shown) H
theorem cr_repr (hg : X.A.guards = some []) (hu : X.A.units + 64 < cLine) : CallR X (.builtin "repr") (rRepr X.K) := by
  (intro pins s σ H xs us Q I r h)
  obtain ⟨a, y, rfl, hd, h1, h2, h3, h4, q⟩ := h
  obtain ⟨u, rfl, ru⟩ := r.one
  (cases (show u = Value.ref a from ru))
  obtain ⟨as, rd⟩ := Dp.reads I y (.ref a) (.ref a) (Dt.dp _ _ hd) rfl
  refine repr_of_reads' rd h1 (fun z => by rw [h2] at z; cases z) hg (by omega) (fun _ _ z => z) (fun h' u tk kept => ?_) h4
  exact ⟨.str y.shown, H, I.kept kept, ⟨u, rfl⟩, q⟩
end
end Kp
set_option maxHeartbeats 410000
/-! Kp2: the judgements about numbers, names, things. -/
namespace Kp
open L2 PySem PySem.Spec PyProof.Rows
/-! ### things and worlds as plain values -/
structure Thing where
  id : Int
  kind : Str
  nums : List Int
def Thing.d (t : Thing) : PyData := .tuple [.int t.id, .str t.kind, .tuple (t.nums.map .int)]
def NumOk (n : Int) : Prop := -1000000000 ≤ n ∧ n ≤ 1000000000
def TickOk (n : Int) : Prop := 0 ≤ n ∧ n < 10 ^ 60
def LuckOk (n : Int) : Prop := 0 ≤ n ∧ n < 999999937
def abc : Str := "abcdefghijklmnopqrstuvwxyz"
structure KindOk (k : Str) : Prop where
  l1 : 1 ≤ k.length
  l8 : k.length ≤ 8
  abc : ∀ c ∈ k.cps.toList, c ∈ abc.cps.toList
structure Thing.Ok (t : Thing) : Prop where
  id : TickOk t.id
  kind : KindOk t.kind
  n1 : 1 ≤ t.nums.length
  n8 : t.nums.length ≤ 8
  nums : ∀ n ∈ t.nums, NumOk n
/-! ### short words -/
section
variable {K : PySem.W.Frag} {d : Option Addr} {σ : L2.St} {H : Hp} {te ta : TE} {E : Ends} {x y : PyData}
theorem ev_vD {i : Nat} {v : V} (h : σ[i]? = some (some v)) (f : D K x v H) : Ev d (tVar i) σ H (D K x) := ev_v h f
theorem s_retD (h : Ev d te σ H (D K x)) (e : x = y) (k : ∀ v H1, Ext d H H1 → D K y v H1 → E.rt v H1) : tRet te E σ H := s_ret (h.is e) k
theorem ev_callP' {t : TA} {α : Type} {pre : α → Prop} {args : α → List Phi} {x : α → PyData} (a : α) (hp : pre a) (h : EvA d t σ H (args a)) : Ev d (tCall (Pu pre args fun a => D K (x a)) [] C8.E0 t) σ H (D K (x a)) := ev_callP a hp h
theorem up {F : Phi} {v : V} {H H' : Hp} [s : Sta d F] (e : Ext d H H') (h : F v H) : F v H' := s.up v H H' e.wk h
theorem upw {F : Phi} {v : V} {H H' : Hp} [s : Sta d F] (e : Wk d H H') (h : F v H) : F v H' := s.up v H H' e h
/-- a test that holds, one that fails -/
theorem et_B1 (h : Ev d te σ H (D K (.bool true))) : EvT d (tB te) σ H (· = true) := et_B h
theorem et_notF {t : TT} (h1 : EvT d t σ H (· = true)) : EvT d (tNot t) σ H (· = false) := et_not h1
theorem et_orF {t u : TT} (h1 : EvT d t σ H (· = false)) (h2 : EvT d u σ H (· = false)) : EvT d (tOr t u) σ H (· = false) := et_or h1 fun _ => h2
theorem ev_andT {tb : TE} (h1 : Ev d ta σ H (D K (.bool true))) (h2 : Ev d tb σ H (D K (.bool true))) : Ev d (tAndV ta tb) σ H (D K (.bool true)) := ev_andV h1 fun _ => h2
theorem et_testF {b : Bool} (h : Ev d te σ H (D K (.bool b))) (e : b = false) : EvT d (tTest te) σ H (· = false) := (et_test h).is e
end
section
variable {P : Program} {w : World} {K : PySem.W.Frag} {mg : Str → Option Value} {base : Heap} {CK CW gE : Addr}
theorem sc_is_whole : FnScope ["value"] ["value"] (C8.fnScope s_is_whole) := C8.fnScope_by (by decide +kernel)
abbrev sp_is_whole (K : PySem.W.Frag) : Sp := Pu (fun _ : Int => True) (fun i => [D K (.int i)]) (fun _ => D K (.bool true))
theorem c_is_whole (T : Txt K mg CK CW gE) : C8.Cal P w K mg base 1 "is_whole" (sp_is_whole K) [] := by
  refine cal_of T.d_is_whole sc_is_whole (fun _ => rfl) fun cdv f A outer s H vs Q E hr a _ _ hA q => ?_
  obtain ⟨v, rfl, h⟩ := all1 hA
  refine ⟨_, (pss_one (ps_ret (pe_and (pe_callB call_isi (by rfl) T.b_isinstance bt_isinstance (pa_cons (pv 0) (pa_cons (pe_bltn (v := .ty "int") (by rfl) T.b_int bt_int rfl) pa_nil))) (pe_one (pe_not (pe_callB call_isi (by rfl) T.b_isinstance bt_isinstance (pa_cons (pv 0) (pa_cons (pe_bltn (v := .ty "bool") (by rfl) T.b_bool bt_bool rfl) pa_nil)))))))), ?_⟩
  exact s_ret (ev_andT (ev_isi (ev_vD rfl h) rfl kB_ii) (ev_notV (ev_isi (ev_vD rfl h) rfl kB_ib))) q
theorem sc_is_short : FnScope ["value"] ["value"] (C8.fnScope s_is_short) := C8.fnScope_by (by decide +kernel)
abbrev sp_is_short (K : PySem.W.Frag) : Sp := Pu (fun i : Int => -(10 ^ 60) < i ∧ i < 10 ^ 60) (fun i => [D K (.int i)]) (fun _ => D K (.bool true))
theorem c_is_short (T : Txt K mg CK CW gE) : C8.Cal P w K mg base 2 "is_short" (sp_is_short K) [] := by
  refine cal_of T.d_is_short sc_is_short (fun _ => rfl) fun cdv f A outer s H vs Q E hr i hi _ hA q => ?_
  obtain ⟨v, rfl, h⟩ := all1 hA
  refine ⟨_, (pss_one (ps_ret (pe_and (C8.pe_c (c_is_whole T) hr (by decide) (by rfl) (pa_cons (pv 0) pa_nil)) (pe_one (pe_chain op_lt op_lt (pe_un un_neg (C8.pe_gc (by rfl) T.c_GREATEST)) (pv 0) (C8.pe_gc (by rfl) T.c_GREATEST)))))), ?_⟩
  refine s_ret (ev_andT (ev_callP i trivial (ea_cons (ev_vD rfl h) ea_nil)) ((ev_chain (ev_neg ev_int) (ev_vD rfl h) ev_int).is ?_)) q
  rw [decide_eq_true hi.1, decide_eq_true hi.2]
  rfl
theorem sc_is_from : FnScope ["value", "least", "most"] ["value", "least", "most"] (C8.fnScope s_is_from) := C8.fnScope_by (by decide +kernel)
abbrev sp_is_from (K : PySem.W.Frag) : Sp := Pu (fun p : Int × Int × Int => p.2.1 ≤ p.1 ∧ p.1 ≤ p.2.2) (fun p => [D K (.int p.1), D K (.int p.2.1), D K (.int p.2.2)]) (fun _ => D K (.bool true))
theorem c_is_from (T : Txt K mg CK CW gE) : C8.Cal P w K mg base 2 "is_from" (sp_is_from K) [] := by
  refine cal_of T.d_is_from sc_is_from (fun _ => rfl) fun cdv f A outer s H vs Q E hr p hi _ hA q => ?_
  obtain ⟨v, v1, v2, rfl, h, h1, h2⟩ := all3 hA
  refine ⟨_, (pss_one (ps_ret (pe_and (C8.pe_c (c_is_whole T) hr (by decide) (by rfl) (pa_cons (pv 0) pa_nil)) (pe_one (pe_chain op_le op_le (pv 1) (pv 0) (pv 2)))))), ?_⟩
  refine s_ret (ev_andT (ev_callP p.1 trivial (ea_cons (ev_vD rfl h) ea_nil)) ((ev_chain (ev_vD rfl h1) (ev_vD rfl h) (ev_vD rfl h2)).is ?_)) q
  rw [decide_eq_true hi.1, decide_eq_true hi.2]
  rfl
theorem sc_is_tick : FnScope ["value"] ["value"] (C8.fnScope s_is_tick) := C8.fnScope_by (by decide +kernel)
abbrev sp_is_tick (K : PySem.W.Frag) : Sp := Pu (fun i : Int => TickOk i) (fun i => [D K (.int i)]) (fun _ => D K (.bool true))
theorem c_is_tick (T : Txt K mg CK CW gE) : C8.Cal P w K mg base 3 "is_tick" (sp_is_tick K) [] := by
  refine cal_of T.d_is_tick sc_is_tick (fun _ => rfl) fun cdv f A outer s H vs Q E hr i hi _ hA q => ?_
  obtain ⟨v, rfl, h⟩ := all1 hA
  refine ⟨_, (pss_one (ps_ret (pe_and (C8.pe_c (c_is_short T) hr (by decide) (by rfl) (pa_cons (pv 0) pa_nil)) (pe_one (pe_cmpR op_ge (pv 0) pe_int (nomark _)))))), ?_⟩
  have h0 : -(10 ^ 60) < i := Int.lt_of_lt_of_le (by decide) hi.1
  refine s_ret (ev_andT (ev_callP i ⟨h0, hi.2⟩ (ea_cons (ev_vD rfl h) ea_nil)) ((ev_ge (ev_vD rfl h) ev_int).is ?_)) q
  rw [decide_eq_true hi.1]
theorem sc_is_luck_in : FnScope ["value"] ["value"] (C8.fnScope s_is_luck_in) := C8.fnScope_by (by decide +kernel)
abbrev sp_is_luck (K : PySem.W.Frag) : Sp := Pu (fun i : Int => LuckOk i) (fun i => [D K (.int i)]) (fun _ => D K (.bool true))
theorem c_is_luck_in (T : Txt K mg CK CW gE) : C8.Cal P w K mg base 3 "is_luck_in" (sp_is_luck K) [] := by
  refine cal_of T.d_is_luck_in sc_is_luck_in (fun _ => rfl) fun cdv f A outer s H vs Q E hr i hi _ hA q => ?_
  obtain ⟨v, rfl, h⟩ := all1 hA
  refine ⟨_, (pss_one (ps_ret (C8.pe_c (c_is_from T) hr (by decide) (by rfl) (pa_cons (pv 0) (pa_cons pe_int (pa_cons (pe_op op_sub (C8.pe_gc (by rfl) T.c_MODULUS) pe_int) pa_nil)))))), ?_⟩
  have h2 := hi.2
  exact s_ret (ev_callP (i, 0, 999999937 - 1) ⟨hi.1, by show i ≤ 999999937 - 1; omega⟩ (ea_cons (ev_vD rfl h) (ea_cons ev_int (ea_cons (ev_sub ev_int ev_int) ea_nil)))) q
theorem sc_is_luck : FnScope ["value"] ["value"] (C8.fnScope s_is_luck) := C8.fnScope_by (by decide +kernel)
theorem c_is_luck (T : Txt K mg CK CW gE) : C8.Cal P w K mg base 4 "is_luck" (sp_is_luck K) [] := by
  refine cal_of T.d_is_luck sc_is_luck (fun _ => rfl) fun cdv f A outer s H vs Q E hr i hi _ hA q => ?_
  obtain ⟨v, rfl, h⟩ := all1 hA
  refine ⟨_, (pss_one (ps_ret (C8.pe_c (c_is_luck_in T) hr (by decide) (by rfl) (pa_cons (pv 0) pa_nil)))), ?_⟩
  exact s_ret (ev_callP i hi (ea_cons (ev_vD rfl h) ea_nil)) q
theorem sc_is_number : FnScope ["value"] ["value"] (C8.fnScope s_is_number) := C8.fnScope_by (by decide +kernel)
abbrev sp_is_number (K : PySem.W.Frag) : Sp := Pu (fun i : Int => NumOk i) (fun i => [D K (.int i)]) (fun _ => D K (.bool true))
theorem c_is_number (T : Txt K mg CK CW gE) : C8.Cal P w K mg base 3 "is_number" (sp_is_number K) [] := by
  refine cal_of T.d_is_number sc_is_number (fun _ => rfl) fun cdv f A outer s H vs Q E hr i hi _ hA q => ?_
  obtain ⟨v, rfl, h⟩ := all1 hA
  refine ⟨_, (pss_one (ps_ret (C8.pe_c (c_is_from T) hr (by decide) (by rfl) (pa_cons (pv 0) (pa_cons (pe_un un_neg (C8.pe_gc (by rfl) T.c_MOST)) (pa_cons (C8.pe_gc (by rfl) T.c_MOST) pa_nil)))))), ?_⟩
  exact s_ret (ev_callP (i, -1000000000, 1000000000) ⟨hi.1, hi.2⟩ (ea_cons (ev_vD rfl h) (ea_cons (ev_neg ev_int) (ea_cons ev_int ea_nil)))) q
theorem all_true {α : Type} {p : α → Bool} {as : List α} (h : ∀ a ∈ as, p a = true) : as.all p = true := List.all_eq_true.mpr h
theorem kind_len {k : Str} (h : KindOk k) : k.length ≤ 100000 := Nat.le_trans h.l8 (by decide)
theorem sc_is_name : FnScope ["value", "sign"] ["value"] (C8.fnScope s_is_name) := C8.fnScope_by (by decide +kernel)
abbrev sp_is_name (K : PySem.W.Frag) : Sp := Pu (fun k : Str => KindOk k) (fun k => [D K (.str k)]) (fun _ => D K (.bool true))
theorem c_is_name (T : Txt K mg CK CW gE) : C8.Cal P w K mg base 1 "is_name" (sp_is_name K) [] := by
  refine cal_of T.d_is_name sc_is_name (fun _ => rfl) fun cdv f A outer s H vs Q E hr k hk _ hA q => ?_
  obtain ⟨v, rfl, h⟩ := all1 hA
  refine ⟨_, (pss_one (ps_ret (pe_and (pe_callB call_isi (by rfl) T.b_isinstance bt_isinstance (pa_cons (pv 0) (pa_cons (pe_bltn (v := .ty "str") (by rfl) T.b_str bt_str rfl) pa_nil))) (pe_and (pe_chain op_le op_le pe_int (pe_callB call_len_str (by rfl) T.b_len bt_len (pa_cons (pv 0) pa_nil)) (C8.pe_gc (by rfl) T.c_MOST_NAME_pieces)) (pe_one (pe_callB (cr_all rfl) (by rfl) T.b_all bt_all (pa_cons (pe_lc (own := [("sign", 1)]) rfl sc_is_name.nd (pi_str (pv 0)) (blkOk_by (own := [("sign", 1)]) (N := ["value", "sign"]) (sc := C8.fnScope (topS 23)) (by decide +kernel)) (fun _ _ _ _ _ => (pg_name (i := 1) sc_is_name.nd rfl (by first | exact Or.inl rfl | exact Or.inr rfl))) (fun _ _ _ _ _ => pts_nil) (fun _ _ _ _ _ => (pe_cmpR op_in_sign (pv 1) (C8.pe_gc (by rfl) T.c_SIGNS) rfl))) pa_nil))))))), ?_⟩
  refine s_ret (ev_andT (ev_isi (ev_vD rfl h) rfl kB_ss) (ev_andT ((ev_chain ev_int (ev_lenS (ev_vD rfl h) (kind_len hk) rfl) ev_int).is ?_) ((ev_all (as := k.cps.toList) (p := fun c => decide (c ∈ abc.cps.toList)) ?_).is ?_))) q
  · have a := hk.l1
    have b := hk.l8
    rw [decide_eq_true (show (1 : Int) ≤ (k.length : Int) by omega), decide_eq_true (show (k.length : Int) ≤ (8 : Int) by omega)]
    rfl
  · refine ev_lc1y (fun c => .bool (decide (c ∈ abc.cps.toList))) (DOk.no _) ?_ (es_str (ev_vD rfl h)) fun c hc x H1 e it => ev_inSign (ev_vD rfl it) ev_str
    have b := hk.l8
    have e : k.cps.toList.length = k.length := by simp [Str.length]
    omega
  · rw [all_true fun c hc => decide_eq_true (hk.abc c hc)]
theorem sc_is_name_in : FnScope ["value", "sign"] ["value"] (C8.fnScope s_is_name_in) := C8.fnScope_by (by decide +kernel)
theorem c_is_name_in (T : Txt K mg CK CW gE) : C8.Cal P w K mg base 1 "is_name_in" (sp_is_name K) [] := by
  refine cal_of T.d_is_name_in sc_is_name_in (fun _ => rfl) fun cdv f A outer s H vs Q E hr k hk _ hA q => ?_
  obtain ⟨v, rfl, h⟩ := all1 hA
  refine ⟨_, (pss_one (ps_ret (pe_and (pe_callB call_isi (by rfl) T.b_isinstance bt_isinstance (pa_cons (pv 0) (pa_cons (pe_bltn (v := .ty "str") (by rfl) T.b_str bt_str rfl) pa_nil))) (pe_and (pe_chain op_le op_le pe_int (pe_callB call_len_str (by rfl) T.b_len bt_len (pa_cons (pv 0) pa_nil)) (C8.pe_gc (by rfl) T.c_MOST_NAME_worlds)) (pe_one (pe_callB (cr_all rfl) (by rfl) T.b_all bt_all (pa_cons (pe_lc (own := [("sign", 1)]) rfl sc_is_name_in.nd (pi_str (pv 0)) (blkOk_by (own := [("sign", 1)]) (N := ["value", "sign"]) (sc := C8.fnScope (topS 31)) (by decide +kernel)) (fun _ _ _ _ _ => (pg_name (i := 1) sc_is_name_in.nd rfl (by first | exact Or.inl rfl | exact Or.inr rfl))) (fun _ _ _ _ _ => pts_nil) (fun _ _ _ _ _ => (pe_cmpR op_in_sign (pv 1) (C8.pe_gc (by rfl) T.c_LETTERS) rfl))) pa_nil))))))), ?_⟩
  refine s_ret (ev_andT (ev_isi (ev_vD rfl h) rfl kB_ss) (ev_andT ((ev_chain ev_int (ev_lenS (ev_vD rfl h) (kind_len hk) rfl) ev_int).is ?_) ((ev_all (as := k.cps.toList) (p := fun c => decide (c ∈ abc.cps.toList)) ?_).is ?_))) q
  · have a := hk.l1
    have b := hk.l8
    rw [decide_eq_true (show (1 : Int) ≤ (k.length : Int) by omega), decide_eq_true (show (k.length : Int) ≤ (8 : Int) by omega)]
    rfl
  · refine ev_lc1y (fun c => .bool (decide (c ∈ abc.cps.toList))) (DOk.no _) ?_ (es_str (ev_vD rfl h)) fun c hc x H1 e it => ev_inSign (ev_vD rfl it) ev_str
    have b := hk.l8
    have e : k.cps.toList.length = k.length := by simp [Str.length]
    omega
  · rw [all_true fun c hc => decide_eq_true (hk.abc c hc)]
theorem sc_is_tuple_within : FnScope ["value", "least", "most"] ["value", "least", "most"] (C8.fnScope s_is_tuple_within) := C8.fnScope_by (by decide +kernel)
abbrev sp_is_tuple_within (K : PySem.W.Frag) : Sp := Pu (fun p : List PyData × Int × Int => p.2.1 ≤ p.1.length ∧ p.1.length ≤ p.2.2) (fun p => [D K (.tuple p.1), D K (.int p.2.1), D K (.int p.2.2)]) (fun _ => D K (.bool true))
theorem c_is_tuple_within (T : Txt K mg CK CW gE) : C8.Cal P w K mg base 1 "is_tuple_within" (sp_is_tuple_within K) [] := by
  refine cal_of T.d_is_tuple_within sc_is_tuple_within (fun _ => rfl) fun cdv f A outer s H vs Q E hr p hi _ hA q => ?_
  obtain ⟨v, v1, v2, rfl, h, h1, h2⟩ := all3 hA
  refine ⟨_, (pss_one (ps_ret (pe_and (pe_callB call_isi (by rfl) T.b_isinstance bt_isinstance (pa_cons (pv 0) (pa_cons (pe_bltn (v := .ty "tuple") (by rfl) T.b_tuple bt_tuple rfl) pa_nil))) (pe_one (pe_chain op_le op_le (pv 1) (pe_callB call_len_seq (by rfl) T.b_len bt_len (pa_cons (pv 0) pa_nil)) (pv 2)))))), ?_⟩
  refine s_ret (ev_andT (ev_isi (ev_vD rfl h) rfl kB_tt) ((ev_chain (ev_vD rfl h1) (ev_lenT (ev_vD rfl h) rfl) (ev_vD rfl h2)).is ?_)) q
  rw [decide_eq_true hi.1, decide_eq_true hi.2]
  rfl
theorem sc_are_numbers_in : FnScope ["value", "one"] ["value"] (C8.fnScope s_are_numbers_in) := C8.fnScope_by (by decide +kernel)
abbrev sp_are_numbers_in (K : PySem.W.Frag) : Sp := Pu (fun ns : List Int => 1 ≤ ns.length ∧ ns.length ≤ 8 ∧ ∀ n ∈ ns, NumOk n) (fun ns => [D K (.tuple (ns.map .int))]) (fun _ => D K (.bool true))
theorem c_are_numbers_in (T : Txt K mg CK CW gE) : C8.Cal P w K mg base 4 "are_numbers_in" (sp_are_numbers_in K) [] := by
  refine cal_of T.d_are_numbers_in sc_are_numbers_in (fun _ => rfl) fun cdv f A outer s H vs Q E hr ns hi _ hA q => ?_
  obtain ⟨v, rfl, h⟩ := all1 hA
  refine ⟨_, (pss_one (ps_ret (pe_and (pe_callB call_isi (by rfl) T.b_isinstance bt_isinstance (pa_cons (pv 0) (pa_cons (pe_bltn (v := .ty "tuple") (by rfl) T.b_tuple bt_tuple rfl) pa_nil))) (pe_and (pe_chain op_le op_le pe_int (pe_callB call_len_seq (by rfl) T.b_len bt_len (pa_cons (pv 0) pa_nil)) (C8.pe_gc (by rfl) T.c_MOST_NUMBERS)) (pe_one (pe_callB (cr_all rfl) (by rfl) T.b_all bt_all (pa_cons (pe_lc (own := [("one", 1)]) rfl sc_are_numbers_in.nd (pi_tup (pv 0)) (blkOk_by (own := [("one", 1)]) (N := ["value", "one"]) (sc := C8.fnScope (topS 32)) (by decide +kernel)) (fun _ _ _ _ _ => (pg_name (i := 1) sc_are_numbers_in.nd rfl (by first | exact Or.inl rfl | exact Or.inr rfl))) (fun _ _ _ _ _ => pts_nil) (fun _ _ _ _ _ => (C8.pe_c (c_is_number T) hr (by decide) (by rfl) (pa_cons (pv 1) pa_nil)))) pa_nil))))))), ?_⟩
  obtain ⟨i1, i8, im⟩ := hi
  refine s_ret (ev_andT (ev_isi (ev_vD rfl h) rfl kB_tt) (ev_andT ((ev_chain ev_int (ev_lenT (ev_vD rfl h) (congrArg Int.ofNat (List.length_map _))) ev_int).is ?_) ((ev_all (as := ns) (p := fun _ => true) ?_).is ?_))) q
  · rw [decide_eq_true (show (1 : Int) ≤ Int.ofNat ns.length by show (1 : Int) ≤ (ns.length : Int); omega), decide_eq_true (show Int.ofNat ns.length ≤ (8 : Int) by show (ns.length : Int) ≤ 8; omega)]
    rfl
  · exact ev_lc1y (fun _ => .bool true) (DOk.no _) (by omega) (es_tup (ev_vD rfl h)) fun n hn x H1 e it => ev_callP n (im n hn) (ea_cons (ev_vD rfl it) ea_nil)
  · rw [all_true fun _ _ => rfl]
end
end Kp
set_option maxHeartbeats 410000
/-! Kp3: worlds: what is right of their parts, how they are made, read, compared. -/
namespace Kp
open L2 PySem PySem.Spec PyProof.Rows
/-! ### worlds as plain values -/
structure Wd where
  tick : Int
  nid : Int
  luck : Int
  things : List Thing
def thsD (ts : List Thing) : PyData := .tuple (ts.map Thing.d)
/-- ascending, below the next id -/
def Asc (ns : List Int) : Prop := ns.Pairwise (· < ·)
structure ThsOk (nid : Int) (ts : List Thing) : Prop where
  few : ts.length ≤ 12
  ok : ∀ t ∈ ts, t.Ok
  asc : Asc (ts.map Thing.id ++ [nid])
structure Wd.Ok (x : Wd) : Prop where
  tick : TickOk x.tick
  nid : TickOk x.nid
  luck : LuckOk x.luck
  ths : ThsOk x.nid x.things
theorem asc_zip : ∀ (ns : List Int), Asc ns → ∀ p ∈ ns.zip (ns.drop 1), p.1 < p.2
  | [], _, p, hp => by simp at hp
  | [_], _, p, hp => by simp at hp
  | a :: b :: r, h, p, hp => by
    (have h' := List.pairwise_cons.mp h)
    rw [List.drop_succ_cons, List.drop_zero, List.zip_cons_cons] at hp
    (rcases List.mem_cons.mp hp with rfl | hp)
    · exact h'.1 b List.mem_cons_self
    · exact asc_zip (b :: r) h'.2 p (by rw [List.drop_succ_cons, List.drop_zero]; exact hp)
theorem cutmap {α : Type} (as : List α) (f : α → PyData) (k : Nat) : cutG (as.map f) (some (k : Int)) none = (as.drop k).map f := by rw [cut_from, List.map_drop]
section
variable {K : PySem.W.Frag} {d : Option Addr} {σ : L2.St} {H : Hp}
theorem ev_vL {i : Nat} {v : V} {ds : List PyData} (h : σ[i]? = some (some v)) (f : Ls K d ds v H) : Ev d (tVar i) σ H (Ls K d ds) := ev_v h f
end
section
variable {P : Program} {w : World} {K : PySem.W.Frag} {mg : Str → Option Value} {base : Heap} {CK CW gE : Addr}
theorem at0 {d : Option Addr} {σ : L2.St} {H : Hp} {ta : TE} {a b c : PyData} (ha : Ev d ta σ H (D K (.tuple [a, b, c]))) : Ev d (tOp (rIxT K) ta (tC (.int 0))) σ H (D K a) := ev_ixT ha ev_int rfl
theorem at1 {d : Option Addr} {σ : L2.St} {H : Hp} {ta : TE} {a b c : PyData} (ha : Ev d ta σ H (D K (.tuple [a, b, c]))) : Ev d (tOp (rIxT K) ta (tC (.int 1))) σ H (D K b) := ev_ixT ha ev_int rfl
theorem at2 {d : Option Addr} {σ : L2.St} {H : Hp} {ta : TE} {a b c : PyData} (ha : Ev d ta σ H (D K (.tuple [a, b, c]))) : Ev d (tOp (rIxT K) ta (tC (.int 2))) σ H (D K c) := ev_ixT ha ev_int rfl
theorem sc_is_thing_in : FnScope ["value"] ["value"] (C8.fnScope s_is_thing_in) := C8.fnScope_by (by decide +kernel)
abbrev sp_is_thing (K : PySem.W.Frag) : Sp := Pu (fun t : Thing => t.Ok) (fun t => [D K t.d]) (fun _ => D K (.bool true))
theorem c_is_thing_in (T : Txt K mg CK CW gE) : C8.Cal P w K mg base 5 "is_thing_in" (sp_is_thing K) [] := by
  refine cal_of T.d_is_thing_in sc_is_thing_in (fun _ => rfl) fun cdv f A outer s H vs Q E hr t ht _ hA q => ?_
  obtain ⟨v, rfl, h⟩ := all1 hA
  refine ⟨_, (pss_cons (ps_if (PW.pt (pw_or (pt_not (pt_val (pe_callB call_isi (by rfl) T.b_isinstance bt_isinstance (pa_cons (pv 0) (pa_cons (pe_bltn (v := .ty "tuple") (by rfl) T.b_tuple bt_tuple rfl) pa_nil))))) (pw_or (pt_cmpR (op_neD hr.units) (pe_callB call_len_seq (by rfl) T.b_len bt_len (pa_cons (pv 0) pa_nil)) (C8.pe_gc (by rfl) T.c_THING_PARTS) (nomark _)) (pw_or (pt_not (pt_val (C8.pe_c (c_is_whole T) hr (by decide) (by rfl) (pa_cons (pe_ix ix_tup (pv 0) pe_int (fun _ _ => rfl)) pa_nil)))) (pw_or1 (pt_cmpR op_lt (pe_ix ix_tup (pv 0) pe_int (fun _ _ => rfl)) pe_int (nomark _))))))) (pss_one (ps_ret pe_bl)) pss_nil) (pss_one (ps_ret (pe_and (C8.pe_c (c_is_name_in T) hr (by decide) (by rfl) (pa_cons (pe_ix ix_tup (pv 0) pe_int (fun _ _ => rfl)) pa_nil)) (pe_one (C8.pe_c (c_are_numbers_in T) hr (by decide) (by rfl) (pa_cons (pe_ix ix_tup (pv 0) pe_int (fun _ _ => rfl)) pa_nil))))))), ?_⟩
  have h : D K (.tuple [.int t.id, .str t.kind, .tuple (t.nums.map .int)]) v H := h
  refine q_if0 (d := none) (et_orF (et_notF (et_B (ev_isi (ev_vD rfl h) rfl kB_tt))) (et_orF (et_testF (ev_neI (ev_lenT (ev_vD rfl h) rfl) ev_int) rfl) (et_orF (et_notF (et_B (ev_callP t.id trivial (ea_cons (at0 (ev_vD rfl h)) ea_nil)))) (et_testF (ev_lt (at0 (ev_vD rfl h)) ev_int) ?_)))) fun H1 e1 => ?_
  · have := ht.id.1
    (exact decide_eq_false (by omega))
  replace h := up e1 h
  exact s_ret (ev_andT (ev_callP t.kind ht.kind (ea_cons (at1 (ev_vD rfl h)) ea_nil)) (ev_callP t.nums ⟨ht.n1, ht.n8, ht.nums⟩ (ea_cons (at2 (ev_vD rfl h)) ea_nil))) fun v H2 e2 g => q v H2 (e1.trans e2) g
theorem sc_are_things_in : FnScope ["next_id", "value", "ids", "one", "other"] ["next_id", "value"] (C8.fnScope s_are_things_in) := C8.fnScope_by (by decide +kernel)
abbrev sp_are_things_in (K : PySem.W.Frag) : Sp := Pu (fun p : Int × List Thing => ThsOk p.1 p.2) (fun p => [D K (.int p.1), D K (thsD p.2)]) (fun _ => D K (.bool true))
theorem c_are_things_in (T : Txt K mg CK CW gE) : C8.Cal P w K mg base 6 "are_things_in" (sp_are_things_in K) [] := by
  refine cal_of T.d_are_things_in sc_are_things_in (fun _ => rfl) fun cdv f A outer s H vs Q E hr p hp _ hA q => ?_
  obtain ⟨v, v1, rfl, h, h1⟩ := all2 hA
  obtain ⟨n, ts⟩ := p
  have h : D K (.int n) v H := h
  have h1 : D K (.tuple (ts.map Thing.d)) v1 H := h1
  have few : ts.length ≤ 12 := hp.few
  refine ⟨_, (pss_cons (ps_if (PW.pt (pw_or (pt_not (pt_val (pe_callB call_isi (by rfl) T.b_isinstance bt_isinstance (pa_cons (pv 1) (pa_cons (pe_bltn (v := .ty "tuple") (by rfl) T.b_tuple bt_tuple rfl) pa_nil))))) (pw_or (pt_cmpR op_gt (pe_callB call_len_seq (by rfl) T.b_len bt_len (pa_cons (pv 1) pa_nil)) (C8.pe_gc (by rfl) T.c_MAX_THINGS_forms) (nomark _)) (pw_or1 (pt_not (pt_val (pe_callB (cr_all rfl) (by rfl) T.b_all bt_all (pa_cons (pe_lc (own := [("one", 3)]) rfl sc_are_things_in.nd (pi_tup (pv 1)) (blkOk_by (own := [("one", 3)]) (N := ["next_id", "value", "ids", "one", "other"]) (sc := C8.fnScope (topS 34)) (by decide +kernel)) (fun _ _ _ _ _ => (pg_name (i := 3) sc_are_things_in.nd rfl (by first | exact Or.inl rfl | exact Or.inr rfl))) (fun _ _ _ _ _ => pts_nil) (fun _ _ _ _ _ => (C8.pe_c (c_is_thing_in T) hr (by decide) (by rfl) (pa_cons (pv 3) pa_nil)))) pa_nil)))))))) (pss_one (ps_ret pe_bl)) pss_nil) (pss_cons (ps_set (i := 2) sc_are_things_in.nd rfl (by first | exact Or.inl rfl | exact Or.inr rfl) (pe_op op_cat (pe_lc (own := [("one", 3)]) rfl sc_are_things_in.nd (pi_tup (pv 1)) (blkOk_by (own := [("one", 3)]) (N := ["next_id", "value", "ids", "one", "other"]) (sc := C8.fnScope (topS 34)) (by decide +kernel)) (fun _ _ _ _ _ => (pg_name (i := 3) sc_are_things_in.nd rfl (by first | exact Or.inl rfl | exact Or.inr rfl))) (fun _ _ _ _ _ => pts_nil) (fun _ _ _ _ _ => (pe_ix (r := rIxT K) ix_tup (pv 3) pe_int (fun _ _ => rfl)))) (pe_lst (pa_cons (pv 0) pa_nil)))) (pss_one (ps_ret (pe_callB (cr_all rfl) (by rfl) T.b_all bt_all (pa_cons (pe_lc (own := [("one", 3), ("other", 4)]) (g := gTup K 2 (gCons (gName 3) (gCons (gName 4) gNil))) rfl sc_are_things_in.nd (RZ.pi_zipA (by rfl) T.b_zip (pa_cons (pv 2) (pa_cons (pe_slice sl_list (pv 2) (po_some pe_int) po_none) pa_nil))) (blkOk_by (own := [("one", 3), ("other", 4)]) (N := ["next_id", "value", "ids", "one", "other"]) (sc := C8.fnScope (topS 34)) (by decide +kernel)) (fun _ _ _ _ _ => (pg_tup rfl (pgs_cons (pg_name (i := 3) sc_are_things_in.nd rfl (by first | exact Or.inl rfl | exact Or.inr rfl)) (pgs_cons (pg_name (i := 4) sc_are_things_in.nd rfl (by first | exact Or.inl rfl | exact Or.inr rfl)) pgs_nil)))) (fun _ _ _ _ _ => pts_nil) (fun _ _ _ _ _ => (pe_cmpR op_lt (pv 3) (pv 4) (nomark _)))) pa_nil)))))), ?_⟩
  refine q_if0 (d := none) (et_orF (et_notF (et_B (ev_isi (ev_vD rfl h1) rfl kB_tt))) (et_orF (et_testF (ev_gt (ev_lenT (ev_vD rfl h1) rfl) ev_int) ?_) (et_notF (et_B ((ev_all (as := ts) (p := fun _ => true) ?_).is ?_))))) fun H1 e1 => ?_
  · rw [List.length_map]
    (exact decide_eq_false (by omega))
  · exact ev_lc1y (fun _ => .bool true) (DOk.no _) (by omega) (es_tup (ev_vD rfl h1)) fun t ht x H1 e it => ev_callP t (hp.ok t ht) (ea_cons (ev_vD rfl it) ea_nil)
  · rw [all_true fun _ _ => rfl]
  replace h := up e1 h
  replace h1 := up e1 h1
  refine q_set (d := none) (F := Ls K none ((ts.map Thing.id ++ [n]).map .int)) ?_ fun v2 H2 e2 h2 => ?_
  · have e : (ts.map Thing.id ++ [n]).map PyData.int = ts.map (fun t => PyData.int t.id) ++ [.int n] := by rw [List.map_append, List.map_map]; rfl
    rw [e]
    refine ev_cat (ev_lc1y (fun t : Thing => .int t.id) (DOk.no _) (by omega) (es_tup (ev_vD rfl h1)) fun t _ x H1 e it => ?_) (ev_lst (ei_cons (ev_vD rfl h) ei_nil) (sml rfl) (DOk.no _)) (DOk.no _) (by rw [List.length_map]; show ts.length + 1 ≤ 100000; omega)
    exact at0 (ev_vD rfl it)
  have hl : (ts.map Thing.id ++ [n]).length = ts.length + 1 := by rw [List.length_append, List.length_map]; rfl
  have ha : Asc (ts.map Thing.id ++ [n]) := hp.asc
  generalize ts.map Thing.id ++ [n] = ids at h2 hl ha
  refine s_ret ((ev_all (as := ids.zip (ids.drop 1)) (p := fun p => decide (p.1 < p.2)) (ev_lc2y (fun p : Int × Int => .bool (decide (p.1 < p.2))) (DOk.no _) ?_ (es_zipL (ea_cons (ev_vL rfl h2) (ea_cons (ev_slL (DOk.no _) (ev_vL rfl h2) eo_int eo_none (cutmap ids .int 1)) ea_nil))) fun p _ x y H1 e a b => ev_lt (ev_vD rfl a) (ev_vD rfl b))).is ?_) fun v H3 e3 g => q v H3 ((e1.trans e2).trans e3) g
  · rw [List.length_zip, List.length_drop]
    omega
  · rw [all_true fun p hp => decide_eq_true (asc_zip ids ha p hp)]
end
end Kp
set_option maxHeartbeats 410000
/-! Kp4: the two classes: made, read, compared. -/
namespace Kp
open L2 PySem PySem.Spec PyProof.Rows
/-! ### instances -/
/-- parts that are known to be right -/
def KnAt (K : PySem.W.Frag) (CK : Addr) (x : Wd) (a dx : Addr) (H : Hp) : Prop := ∃ vs th, H a = some (SlX.SlO a CK dx vs) ∧ H dx = some (.xd []) ∧ vs[3]? = some (some (.int x.tick)) ∧ vs[1]? = some (some (.int x.nid)) ∧ vs[0]? = some (some (.int x.luck)) ∧ vs[2]? = some (some th) ∧ D K (thsD x.things) th H
def Kn (K : PySem.W.Frag) (CK : Addr) (x : Wd) : Phi := fun v H => ∃ a dx vs th, v = .ref a ∧ H a = some (SlX.SlO a CK dx vs) ∧ H dx = some (.xd []) ∧ vs[3]? = some (some (.int x.tick)) ∧ vs[1]? = some (some (.int x.nid)) ∧ vs[0]? = some (some (.int x.luck)) ∧ vs[2]? = some (some th) ∧ D K (thsD x.things) th H
theorem KnAt.kn {K : PySem.W.Frag} {CK : Addr} {x : Wd} {a dx : Addr} {H : Hp} (h : KnAt K CK x a dx H) : Kn K CK x (.ref a) H := by
  obtain ⟨vs, th, h⟩ := h
  exact ⟨a, dx, vs, th, rfl, h⟩
theorem Kn.at_ {K : PySem.W.Frag} {CK : Addr} {x : Wd} {v : V} {H : Hp} (h : Kn K CK x v H) : ∃ a dx, v = .ref a ∧ KnAt K CK x a dx H := by
  obtain ⟨a, dx, vs, th, e, h⟩ := h
  exact ⟨a, dx, e, vs, th, h⟩
/-- a world -/
def Wp (K : PySem.W.Frag) (CW : Addr) (x : Wd) : Phi := fun v H => ∃ a dx vs th, v = .ref a ∧ H a = some (SlX.SlO a CW dx vs) ∧ H dx = some (.xd []) ∧ vs[4]? = some (some (.int x.tick)) ∧ vs[2]? = some (some (.int x.nid)) ∧ vs[1]? = some (some (.int x.luck)) ∧ vs[3]? = some (some th) ∧ D K (thsD x.things) th H
instance (K : PySem.W.Frag) (CK : Addr) (d : Option Addr) (x : Wd) : Sta d (Kn K CK x) := ⟨fun v H H' e ⟨a, dx, vs, th, h0, h1, h2, h3, h4, h5, h6, h7⟩ => ⟨a, dx, vs, th, h0, e.ext h1, e.xd h2, h3, h4, h5, h6, Dt.up e _ _ h7⟩⟩
instance (K : PySem.W.Frag) (CK : Addr) (d : Option Addr) (x : Wd) : Sta d (Wp K CK x) := ⟨fun v H H' e ⟨a, dx, vs, th, h0, h1, h2, h3, h4, h5, h6, h7⟩ => ⟨a, dx, vs, th, h0, e.ext h1, e.xd h2, h3, h4, h5, h6, Dt.up e _ _ h7⟩⟩
section
variable {K : PySem.W.Frag} {d : Option Addr} {σ : L2.St} {H : Hp} {ta te : TE} {mg : Str → Option Value} {CK CW gE : Addr} {x : Wd}
theorem ev_vW {i : Nat} {v : V} (h : σ[i]? = some (some v)) (f : Wp K CW x v H) : Ev d (tVar i) σ H (Wp K CW x) := ev_v h f
theorem ev_vK {i : Nat} {v : V} (h : σ[i]? = some (some v)) (f : Kn K CK x v H) : Ev d (tVar i) σ H (Kn K CK x) := ev_v h f
theorem ev_wTick (T : Txt K mg CK CW gE) (h : Ev d ta σ H (Wp K CW x)) : Ev d (SlX.tSl K ta "own_tick") σ H (D K (.int x.tick)) := fun H1 e Q q => h H1 e _ fun v H2 e2 ⟨a, dx, vs, th, h0, h1, h2, h3, h4, h5, h6, h7⟩ => by
  obtain ⟨p, s⟩ := T.sl_W_own_tick
  exact ⟨a, CW, dx, p, vs, 4, _, h0, .inr ⟨h1, h2⟩, T.sc_W, s, h3, q _ H2 e2 (.int _)⟩
theorem ev_wNid (T : Txt K mg CK CW gE) (h : Ev d ta σ H (Wp K CW x)) : Ev d (SlX.tSl K ta "own_next_id") σ H (D K (.int x.nid)) := fun H1 e Q q => h H1 e _ fun v H2 e2 ⟨a, dx, vs, th, h0, h1, h2, h3, h4, h5, h6, h7⟩ => by
  obtain ⟨p, s⟩ := T.sl_W_own_next_id
  exact ⟨a, CW, dx, p, vs, 2, _, h0, .inr ⟨h1, h2⟩, T.sc_W, s, h4, q _ H2 e2 (.int _)⟩
theorem ev_wLuck (T : Txt K mg CK CW gE) (h : Ev d ta σ H (Wp K CW x)) : Ev d (SlX.tSl K ta "own_luck") σ H (D K (.int x.luck)) := fun H1 e Q q => h H1 e _ fun v H2 e2 ⟨a, dx, vs, th, h0, h1, h2, h3, h4, h5, h6, h7⟩ => by
  obtain ⟨p, s⟩ := T.sl_W_own_luck
  exact ⟨a, CW, dx, p, vs, 1, _, h0, .inr ⟨h1, h2⟩, T.sc_W, s, h5, q _ H2 e2 (.int _)⟩
theorem ev_wThs (T : Txt K mg CK CW gE) (h : Ev d ta σ H (Wp K CW x)) : Ev d (SlX.tSl K ta "own_things") σ H (D K (thsD x.things)) := fun H1 e Q q => h H1 e _ fun v H2 e2 ⟨a, dx, vs, th, h0, h1, h2, h3, h4, h5, h6, h7⟩ => by
  obtain ⟨p, s⟩ := T.sl_W_own_things
  exact ⟨a, CW, dx, p, vs, 3, th, h0, .inr ⟨h1, h2⟩, T.sc_W, s, h6, q _ H2 e2 h7⟩
theorem ev_kTick (T : Txt K mg CK CW gE) (h : Ev d ta σ H (Kn K CK x)) : Ev d (SlX.tSl K ta "own_tick") σ H (D K (.int x.tick)) := fun H1 e Q q => h H1 e _ fun v H2 e2 ⟨a, dx, vs, th, h0, h1, h2, h3, h4, h5, h6, h7⟩ => by
  obtain ⟨p, s⟩ := T.sl_K_own_tick
  exact ⟨a, CK, dx, p, vs, 3, _, h0, .inr ⟨h1, h2⟩, T.sc_K, s, h3, q _ H2 e2 (.int _)⟩
theorem ev_kNid (T : Txt K mg CK CW gE) (h : Ev d ta σ H (Kn K CK x)) : Ev d (SlX.tSl K ta "own_next_id") σ H (D K (.int x.nid)) := fun H1 e Q q => h H1 e _ fun v H2 e2 ⟨a, dx, vs, th, h0, h1, h2, h3, h4, h5, h6, h7⟩ => by
  obtain ⟨p, s⟩ := T.sl_K_own_next_id
  exact ⟨a, CK, dx, p, vs, 1, _, h0, .inr ⟨h1, h2⟩, T.sc_K, s, h4, q _ H2 e2 (.int _)⟩
theorem ev_kLuck (T : Txt K mg CK CW gE) (h : Ev d ta σ H (Kn K CK x)) : Ev d (SlX.tSl K ta "own_luck") σ H (D K (.int x.luck)) := fun H1 e Q q => h H1 e _ fun v H2 e2 ⟨a, dx, vs, th, h0, h1, h2, h3, h4, h5, h6, h7⟩ => by
  obtain ⟨p, s⟩ := T.sl_K_own_luck
  exact ⟨a, CK, dx, p, vs, 0, _, h0, .inr ⟨h1, h2⟩, T.sc_K, s, h5, q _ H2 e2 (.int _)⟩
theorem ev_kThs (T : Txt K mg CK CW gE) (h : Ev d ta σ H (Kn K CK x)) : Ev d (SlX.tSl K ta "own_things") σ H (D K (thsD x.things)) := fun H1 e Q q => h H1 e _ fun v H2 e2 ⟨a, dx, vs, th, h0, h1, h2, h3, h4, h5, h6, h7⟩ => by
  obtain ⟨p, s⟩ := T.sl_K_own_things
  exact ⟨a, CK, dx, p, vs, 2, th, h0, .inr ⟨h1, h2⟩, T.sc_K, s, h6, q _ H2 e2 h7⟩
/-- isinstance(e, World) of a world, isinstance(e, KnownParts) of known parts -/
theorem ev_isW (T : Txt K mg CK CW gE) (h : Ev d ta σ H (Wp K CW x)) : Ev d (tCB (SlX.rIsiSl K (.ref CW)) (tCons ta (tCons (tC (.ref CW)) tNil))) σ H (D K (.bool true)) := fun H1 e Q q => h H1 e _ fun v H2 e2 ⟨a, dx, vs, th, h0, h1, h2, _⟩ => by
  subst h0
  exact ⟨a, CW, dx, vs, .ref CW, true, rfl, rfl, fun w z => z, .inr ⟨h1, h2⟩, T.sc_W, T.si_W, T.kk_WW, q _ H2 e2 (.bl _)⟩
/-! ### made -/
/-- the promise of an __init__: the instance is new, all else stays -/
def SpI {α : Type} (C : Addr) (pre : α → Prop) (args : α → List Phi) (res : α → Phi) : Sp := fun vs H Q _ => ∃ (a : α) (H0 : Hp) (p dx : Addr) (ws : List V), vs = .ref p :: ws ∧ H0 p = none ∧ H0 dx = none ∧ dx ≠ p ∧ H = upd (upd H0 dx (.own p)) p (.ins C dx []) ∧ pre a ∧ All (args a) ws H0 ∧ ∀ H', Ext none H0 H' → res a (.ref p) H' → Q .non H'
theorem ev_make {α : Type} {C : Addr} {pre : α → Prop} {args : α → List Phi} {res : α → Phi} {t : TA} (a : α) (hp : pre a) (h : EvA d t σ H (args a)) : Ev d (tMake C (SpI C pre args res) [] C8.E0 t) σ H (res a) := fun H1 e Q q =>
  h H1 e _ fun vs H2 e2 f => fun p dx np nd ne => ⟨a, H2, p, dx, vs ++ [], rfl, np, nd, ne, rfl, hp, by rw [List.append_nil]; exact f, fun H' e' g => ⟨rfl, q _ H' (e2.trans e'.any) g⟩⟩
theorem slt_ext {H H1 : Hp} {a C dx : Addr} {vs : List (Option V)} (e : Ext none H H1) (h : SlX.Slt H a C dx vs) : SlX.Slt H1 a C dx vs := by
  (rcases h with ⟨h1, h2⟩ | ⟨h1, h2⟩)
  · exact .inl ⟨e.at0 h1, h2⟩
  · exact .inr ⟨e.at0 h1, e.at0 h2⟩
theorem slH_ext {H0 H : Hp} {p C dx : Addr} {vs : List (Option V)} (e : Ext none H0 H) (hp : H0 p = none) (hd : H0 dx = none) : Ext none H0 (SlX.slH H p C dx vs) := (e.mut hd).mut hp
theorem slH_tk {H : Hp} {p C dx : Addr} {vs ws : List (Option V)} (h : SlX.Slt H p C dx vs) (hd : H dx = some (.own p) ∨ H dx = some (.xd [])) (ne : dx ≠ p) : Tk H (SlX.slH H p C dx ws) := by
  have t1 : Tk H (upd H dx (.xd [])) := by
    rcases hd with hd | hd
    · exact Tk.of hd (fun _ z => nomatch z) (fun _ _ z => nomatch z)
    · exact Tk.of hd (fun _ z => nomatch z) (fun _ _ z => nomatch z)
  refine t1.trans ?_
  (rcases h with ⟨h1, _⟩ | ⟨h1, _⟩)
  · exact Tk.of (u := .ins C dx []) (by rw [upd_ne ne.symm]; exact h1) (fun _ z => nomatch z) (fun _ _ z => nomatch z)
  · refine Tk.of (u := SlX.SlO p C dx vs) (by rw [upd_ne ne.symm]; exact h1) (fun _ z => ?_) (fun _ _ z => ?_) <;> (unfold SlX.SlO at z; cases z)
/-- self.f = e in an __init__ -/
theorem i_sl {H0 : Hp} {p dx C p1 : Addr} {vs : List (Option V)} {f : Str} {i : Nat} {F : Phi} {tx : TS} {E : Ends} (c : SlX.SCls K C) (s : SlX.Slot1 K C f p1 i) (hp : H0 p = none) (hd0 : H0 dx = none) (ne : dx ≠ p) (e0 : Ext none H0 H) (hs : SlX.Slt H p C dx vs) (hd : H dx = some (.own p) ∨ H dx = some (.xd []))
    (h0 : σ[0]? = some (some (.ref p))) (h : Ev none te σ H F)
    (k : ∀ v H1 H2, Ext none H H1 → F v H1 → H2 = SlX.slH H1 p C dx (SlX.putS i v vs) → Ext none H0 H2 → Tk H H2 → Tk H1 H2 → SlX.Slt H2 p C dx (SlX.putS i v vs) → (H2 dx = some (.own p) ∨ H2 dx = some (.xd [])) → tx E σ H2) : tSeq (SlX.sSl K (tVar 0) te f) tx E σ H :=
  h H (Wk.refl H) _ fun v H1 e1 fv => ⟨.ref p, h0, p, C, dx, p1, vs, i, rfl, slt_ext e1 hs, c, s, by
    have hd1 : H1 dx = some (.own p) ∨ H1 dx = some (.xd []) := hd.imp (fun z => e1.at0 z) (fun z => e1.at0 z)
    have t1 : Tk H1 (SlX.slH H1 p C dx (SlX.putS i v vs)) := slH_tk (slt_ext e1 hs) hd1 ne
    exact k v H1 _ e1 fv rfl (slH_ext (e0.trans e1) hp hd0) (e1.wk.tk.trans t1) t1 (SlX.slH_slt ne) (.inr (by unfold SlX.slH; rw [upd_ne ne, upd_same]))⟩
theorem s_sl {H0 : Hp} {p dx C p1 : Addr} {vs : List (Option V)} {f : Str} {i : Nat} {F : Phi} {E : Ends} (c : SlX.SCls K C) (s : SlX.Slot1 K C f p1 i) (hp : H0 p = none) (hd0 : H0 dx = none) (ne : dx ≠ p) (e0 : Ext none H0 H) (hs : SlX.Slt H p C dx vs) (hd : H dx = some (.own p) ∨ H dx = some (.xd []))
    (h0 : σ[0]? = some (some (.ref p))) (h : Ev none te σ H F)
    (k : ∀ v H1 H2, Ext none H H1 → F v H1 → H2 = SlX.slH H1 p C dx (SlX.putS i v vs) → Ext none H0 H2 → Tk H H2 → Tk H1 H2 → SlX.Slt H2 p C dx (SlX.putS i v vs) → (H2 dx = some (.own p) ∨ H2 dx = some (.xd [])) → E.nx σ H2) : SlX.sSl K (tVar 0) te f E σ H :=
  i_sl (tx := fun D σ H => D.nx σ H) (E := E) c s hp hd0 ne e0 hs hd h0 h k
end
section
variable {P : Program} {w : World} {K : PySem.W.Frag} {mg : Str → Option Value} {base : Heap} {CK CW gE : Addr}
theorem sc_KnownParts___init__ : FnScope ["self", "tick", "next_id", "luck", "things"] ["self", "tick", "next_id", "luck", "things"] (C8.fnScope s_KnownParts___init__) := C8.fnScope_by (by decide +kernel)
abbrev sp_KnownParts (K : PySem.W.Frag) (CK : Addr) : Sp := SpI CK (fun _ : Wd => True) (fun x => [D K (.int x.tick), D K (.int x.nid), D K (.int x.luck), D K (thsD x.things)]) (Kn K CK)
theorem c_KnownParts (T : Txt K mg CK CW gE) : C8.Mak P w K mg base 1 "KnownParts" CK (sp_KnownParts K CK) [] := by
  obtain ⟨f, fd, M, F, b⟩ := T.mk_K
  refine C8.mak0 M T.g_KnownParts F b .nil sc_KnownParts___init__ (fun vs H Q E h => ?_) fun cdv A outer s H vs Q E hr h => ?_
  · obtain ⟨a, H0, p, dx, ws, rfl, _, _, _, _, _, h, _⟩ := h
    rw [List.length_cons, all_len (Fs := []) (vs := []) h]
    rfl
  obtain ⟨x, H0, p, dx, ws, rfl, np, nd, ne, rfl, _, hA, q⟩ := h
  obtain ⟨v1, v2, v3, v4, rfl, h1, h2, h3, h4⟩ := all4 hA
  refine ⟨_, (pss_cons (SlX.ps_sl (pv 0) (pv 1)) (pss_cons (SlX.ps_sl (pv 0) (pv 2)) (pss_cons (SlX.ps_sl (pv 0) (pv 3)) (pss_one (SlX.ps_sl (pv 0) (pv 4)))))), ?_⟩
  obtain ⟨p1, s1⟩ := T.sl_K_own_tick
  obtain ⟨p2, s2⟩ := T.sl_K_own_next_id
  obtain ⟨p3, s3⟩ := T.sl_K_own_luck
  obtain ⟨p4, s4⟩ := T.sl_K_own_things
  have e0 : Ext none H0 (upd (upd H0 dx (.own p)) p (.ins CK dx [])) := ((Ext.refl H0).mut nd).mut np
  have t0 : Tk H0 (upd (upd H0 dx (.own p)) p (.ins CK dx [])) := e0.wk.tk
  cases h1
  cases h2
  cases h3
  refine i_sl (K := K) T.sc_K s1 np nd ne e0 (.inl ⟨upd_same, rfl⟩) (.inl (by rw [upd_ne ne, upd_same])) rfl (F := D K (.int x.tick)) (ev_vD rfl (.int _)) fun u1 H1 H2 e1 f1 _ e2 t2 _ l2 d2 => ?_
  cases f1
  refine i_sl (K := K) T.sc_K s2 np nd ne e2 l2 d2 rfl (F := D K (.int x.nid)) (ev_vD rfl (.int _)) fun u1 H1 H3 e1 f1 _ e3 t3 _ l3 d3 => ?_
  cases f1
  refine i_sl (K := K) T.sc_K s3 np nd ne e3 l3 d3 rfl (F := D K (.int x.luck)) (ev_vD rfl (.int _)) fun u1 H1 H4 e1 f1 _ e4 t4 _ l4 d4 => ?_
  cases f1
  have h4' : D K (thsD x.things) v4 H4 := Dt.tk (((t0.trans t2).trans t3).trans t4) _ _ h4
  refine s_sl (F := fun v H' => v = v4) T.sc_K s4 np nd ne e4 l4 d4 rfl (fun H1 e Q q => ⟨v4, rfl, q _ H1 (Ext.refl _) rfl⟩) fun u1 H1 H5 e1 f1 _ e5 t5 _ l5 d5 => ?_
  subst u1
  refine q H5 e5 ?_
  rcases l5 with ⟨_, z⟩ | ⟨l5, l6⟩
  · cases z
  · exact ⟨p, dx, _, _, rfl, l5, l6, rfl, rfl, rfl, rfl, Dt.tk t5 _ _ h4'⟩
end
end Kp
set_option maxHeartbeats 410000
/-! KpN: != of instances with slots whose class has an own == and no own !=. -/
namespace Kp
open L2 PySem PySem.Spec PyProof.Rows SlX
def rNeO (C : Addr) (sp : Sp) (E : XK) : R2 := fun x y H Q => ∃ a dx vs b dy ws, x = .ref a ∧ y = .ref b ∧ Slt H a C dx vs ∧ Slt H b C dy ws ∧ sp [x, y] H (fun z H' => ∃ k, z = .bl k ∧ Q (.bl (!k)) H') E
section
variable {X : Cx} {CX : CXT} {σ : L2.St} {H : Hp} {s : Shared} {C g : Addr} {n : Nat} {sp : Sp} {E : XK}
theorem try_ne {M : Model} {A : Around} {E' : Value → Shared → Prop} {K : PySem.W.Frag} {a b C : Addr} {ox : Obj} {od : Option Obj} {s : Shared} {Q : Option Value → Shared → Prop} (X : K.In s.heap) (I : PySem.W.InstAt s.heap a ox C od) (hs : PySem.W.findIn K (.ref C) "__ne__" = some (some (.builtin "object.__ne__")))
    (h : wpAny M A (call (.builtin "object.__ne__") [.ref a, .ref b]) (fun v s' => ∃ k, v = .bool k ∧ Q (some (.bool k)) s') E' s) : wpAny M A (tryCompare (.ref a) "__ne__" (.ref b)) Q E' s := by
  unfold tryCompare
  refine wpAny_bind ?_
  (simp only [callSpecialIfBound?, bindSpecialIfBound?])
  (refine wpAny_holding (wpAny_bind (wpAny_bind (wpAny_bind (I.type.here ((PySem.W.looks_findIn X hs).here ?_))))))
  simp only [PySem.F.cmp_object.ne.bind]
  (refine wpAny_bind (wpAny_askSetting (wpAny_ite ?_)))
  have fin : wpAny M A (call (.builtin "object.__ne__") ([.ref a] ++ [.ref b]) >>= fun v => pure (some v)) (fun a s' => wpAny M A (match a with | some Value.notImplemented => pure none | none => pure none | some v => pure (some v)) Q E' s') E' s :=
    wpAny_bind (wpAny_mono h (fun v s' z => wpAny_pure (by
      obtain ⟨k, rfl, q⟩ := z
      exact wpAny_pure q)) fun _ _ z => z)
  split
  · (exact wpAny_bind (wpAny_pure (wpAny_pure fin)))
  · (exact wpAny_tryCatch (wpAny_bind (wpAny_pure (wpAny_pure fin))))
theorem call_ne {prog : Program} {w : World} {A : Around} {E' : Value → Shared → Prop} {K : PySem.W.Frag} {a b C f : Addr} {ox : Obj} {od : Option Obj} {s : Shared} {Q : Value → Shared → Prop} (hu : A.in1.units < cLine) (X : K.In s.heap) (I : PySem.W.InstAt s.heap a ox C od) (hm : PySem.W.mroIn K C (.type "object") = some true)
    (hs : PySem.W.findIn K (.ref C) "__eq__" = some (some (.ref f))) (hf : PySem.W.isFn K (.ref f) = true)
    (h : wpAny (model prog w) A.in1 (call (.ref f) [.ref a, .ref b]) (fun v s' => ∃ k, v = .bool k ∧ Q (.bool (!k)) s') E' s) : wpAny (model prog w) A (call (.builtin "object.__ne__") [.ref a, .ref b]) Q E' s := by
  have fin : wpAny (model prog w) A.in1 (Builtin.«object.__ne__» ⟨[.ref a, .ref b], []⟩) (fun f s' => match f with | .done f => (match f with | .ret v => Q v s' | _ => False) | .again c' => False) E' s := by
    (unfold Builtin.«object.__ne__»)
    repeat (first
      | (with_reducible refine wpAny_cRoomFor hu ?_)
      | (refine wpAny_bind (m := callSpecialIfBound? (.ref a) (Str.ofString "__eq__") [.ref b])
          (PySem.W.ifBound_K X I hs hf (wpAny_mono h (fun r s' hr => by
            obtain ⟨k, rfl, hq⟩ := hr
            repeat (first | (exact hq) | (exact wpAny_pure hq) | exact wpAny_truthy_bool hq | (refine wpAny_bind (m := truthy (.bool _)) (wpAny_truthy_bool ?_)) | wp_step)) fun _ _ e => e)))
      | wp_step)
  (have L0 := I.type (M := model prog w))
  have L1 := PySem.W.looks_mroIn (M := model prog w) X hm
  have chk : wpAny (model prog w) A.in1 (checkBuiltinCall "object.__ne__" ⟨[.ref a, .ref b], []⟩) (fun _ s' => s' = s) E' s := by
    simp only [checkBuiltinCall, PySem.F.cmpKind_ne, PySem.F.cmpSplit_ne]
    have ha := PySem.F.cmpArgs_ne (.ref a) (.ref b)
    refine wpAny_bind ?_
    unfold isInstance
    refine wpAny_bind (L0.here (L1.here ?_))
    refine wpAny_ite_false (by simp) ?_
    cases hsig : Manifest.signature? "object.__ne__" with
    | none => exact wpAny_pure rfl
    | some sig =>
      (simp only [argsOk, hsig] at ha)
      have h2 : Bind.checkArgs "object.__ne__" sig ⟨[.ref a, .ref b], []⟩ = pure () := ha
      show wpAny _ A.in1 (Bind.checkArgs "object.__ne__" sig ⟨[.ref a, .ref b], []⟩) _ _ _
      rw [h2]
      exact wpAny_pure rfl
  refine wpAny_call (codeAny_call_builtin PySem.F.cmp_object.ne.plain PySem.F.cmpEntry_ne (wpAny_mono chk (fun _ s1 e => ?_) fun _ _ z => z))
  subst e
  refine wpAny_mono fin (fun r s' hr => ?_) fun _ _ z => z
  cases r with
  | done f =>
    cases f with
    | ret v => exact hr
    | next => exact hr.elim
    | brk => exact hr.elim
    | cont => exact hr.elim
  | again c => exact hr.elim
theorem op_neOwn (hs : PySem.W.findIn X.K (.ref C) "__ne__" = some (some (.builtin "object.__ne__"))) (he : PySem.W.findIn X.K (.ref C) "__eq__" = some (some (.ref g))) (hm : PySem.W.mroIn X.K C (.type "object") = some true) (hf : PySem.W.isFn X.K (.ref g) = true) (F : FnR X.prog X.w X.K X.mg X.base CX n g sp)
    (hr : Room (n + 1) X.A) (hx : Passes CX X E) : OpR X (compareOp .NotEq) (rNeO C sp E) := by
  (intro pins s σ H x y v u Q I rx ry h)
  obtain ⟨a, dx, vs, b, dy, ws, rfl, rfl, ha, hb, q⟩ := h
  (cases (show v = Value.ref a from rx))
  (cases (show u = Value.ref b from ry))
  (obtain ⟨sl, od, _, J, _⟩ := slt_inst I ha)
  (obtain ⟨sl', od', _, J', _⟩ := slt_inst I hb)
  show wpAny _ _ (richCompare .NotEq (.ref a) (.ref b)) _ _ _
  unfold richCompare
  simp only [oneThing_ref]
  refine wpAny_holding ?_
  refine wpAny_bind (wpAny_cRoomFor hr.units0 ?_)
  rw [cmpInfo_NotEq]
  dsimp only
  refine wpAny_bind (J.type.here (wpAny_bind (J'.type.here ?_)))
  (rw [show (Value.ref C != Value.ref C) = false from by simp])
  (simp only [Bool.false_eq_true, if_false])
  (refine wpAny_bind (wpAny_pure ?_))
  (simp only [Bool.false_eq_true, if_false])
  refine wpAny_bind (wpAny_mono (Q := fun r s' => ∃ k, r = some (.bool k) ∧ EP X pins σ Q (.bool k) s') (try_ne I.kIn J hs (call_ne (show X.A.units + 1 < cLine by have := hr.un; omega) I.kIn J hm he hf (wpAny_mono (wpAny_call (run_at (us := [.ref a, .ref b]) (ws := [.ref a, .ref b]) F hr.in1 I.env0.in1 hx I (.cons rfl (.cons rfl .nil)) q)) (fun w s' z => ?_) fun _ _ x => x))) (fun r s' z => ?_) fun _ _ x => x)
  · obtain ⟨z', H', I', rz, k, ek, qz⟩ := z
    subst ek
    cases (show w = Value.bool k from rz)
    exact ⟨k, rfl, !k, rfl, !k, rfl, .bl (!k), H', I', rfl, qz⟩
  · obtain ⟨k, rfl, q⟩ := z
    exact wpAny_pure q
end
end Kp
set_option maxHeartbeats 410000
/-! Kp5: worlds: made, compared. -/
namespace Kp
open L2 PySem PySem.Spec PyProof.Rows
/-! ### shapes of data -/
def Flat (n : Nat) (d : PyData) : Prop := d.canLay0 = true ∧ d.depth ≤ n
theorem flat_all {n : Nat} : ∀ {ds : List PyData}, (∀ x ∈ ds, Flat n x) → PyData.canLayAll0 ds = true ∧ PyData.depthAll ds ≤ n
  | [], _ => ⟨rfl, Nat.zero_le _⟩
  | x :: ds, h => by
    have h1 := h x List.mem_cons_self
    have h2 := flat_all (ds := ds) fun y hy => h y (List.mem_cons_of_mem _ hy)
    refine ⟨?_, ?_⟩
    · rw [PyData.canLayAll0, h1.1, h2.1]
      rfl
    · rw [PyData.depthAll]
      exact Nat.max_le.mpr ⟨h1.2, h2.2⟩
theorem flat_tup {n : Nat} {ds : List PyData} (h : ∀ x ∈ ds, Flat n x) : Flat (n + 1) (.tuple ds) := by
  have h := flat_all h
  refine ⟨?_, ?_⟩
  · rw [PyData.canLay0]
    exact h.1
  · rw [PyData.depth]
    exact Nat.succ_le_succ h.2
theorem flat_lst {n : Nat} {ds : List PyData} (h : ∀ x ∈ ds, Flat n x) : Flat (n + 1) (.list ds) := by
  have h := flat_all h
  refine ⟨?_, ?_⟩
  · rw [PyData.canLay0]
    exact h.1
  · rw [PyData.depth]
    exact Nat.succ_le_succ h.2
theorem flat_int {n : Nat} (i : Int) : Flat n (.int i) := ⟨rfl, Nat.zero_le _⟩
theorem flat_str {n : Nat} {x : Str} (h : PyData.strOk x = true) : Flat n (.str x) := ⟨by rw [PyData.canLay0]; exact h, by rw [PyData.depth]; exact Nat.zero_le _⟩
theorem flatI {n : Nat} (ns : List Int) : Flat (n + 1) (.tuple (ns.map .int)) := flat_tup fun x hx => by
  obtain ⟨i, _, rfl⟩ := List.mem_map.mp hx
  exact flat_int i
theorem Flat.up {n m : Nat} {d : PyData} (h : Flat n d) (e : n ≤ m) : Flat m d := ⟨h.1, Nat.le_trans h.2 e⟩
theorem Flat.shaped {d : PyData} (h : Flat 64 d) : SeqAt.shaped d = true := by
  unfold SeqAt.shaped
  rw [h.1, decide_eq_true h.2]
  rfl
theorem Flat.refl {n : Nat} {d : PyData} (h : Flat n d) : PyData.eqv d d = true := SeqAt.eqv_refl d h.1
theorem flat_cons {n : Nat} {x : PyData} {ds : List PyData} (h : Flat n x) (h' : ∀ y ∈ ds, Flat n y) : ∀ y ∈ x :: ds, Flat n y := fun y hy => by
  (rcases List.mem_cons.mp hy with rfl | hy)
  · exact h
  · exact h' y hy
theorem flat_nil {n : Nat} : ∀ y ∈ ([] : List PyData), Flat n y := fun _ h => nomatch h
theorem abc_small : ∀ c ∈ abc.cps.toList, c < 0x110000 := by decide +kernel
theorem KindOk.str {k : Str} (h : KindOk k) : PyData.strOk k = true := by
  unfold PyData.strOk
  rw [Array.all_eq_true]
  intro i hi
  exact decide_eq_true (abc_small _ (h.abc _ (by simp)))
theorem Thing.Ok.flat {t : Thing} (h : t.Ok) : Flat 2 t.d := flat_tup (flat_cons (flat_int _) (flat_cons (flat_str h.kind.str) (flat_cons (flatI _) flat_nil)))
theorem ths_flat {ts : List Thing} (h : ∀ t ∈ ts, t.Ok) : Flat 3 (thsD ts) := flat_tup fun x hx => by
  obtain ⟨t, ht, rfl⟩ := List.mem_map.mp hx
  exact (h t ht).flat
section
variable {P : Program} {w : World} {K : PySem.W.Frag} {mg : Str → Option Value} {base : Heap} {CK CW gE : Addr} {d : Option Addr} {σ : L2.St} {H : Hp} {ta te : TE}
theorem sc_parts_told : FnScope ["tick", "next_id", "luck", "things"] ["tick", "next_id", "luck", "things"] (C8.fnScope s_parts_told) := C8.fnScope_by (by decide +kernel)
abbrev sp_parts_told (K : PySem.W.Frag) (CK : Addr) : Sp := Pu (fun x : Wd => x.Ok) (fun x => [D K (.int x.tick), D K (.int x.nid), D K (.int x.luck), D K (thsD x.things)]) (Kn K CK)
theorem c_parts_told (T : Txt K mg CK CW gE) : C8.Cal P w K mg base 7 "parts_told" (sp_parts_told K CK) [] := by
  refine cal_of T.d_parts_told sc_parts_told (fun _ => rfl) fun cdv f A outer s H vs Q E hr x hx _ hA q => ?_
  obtain ⟨v1, v2, v3, v4, rfl, h1, h2, h3, h4⟩ := all4 hA
  refine ⟨_, (pss_cons (ps_if (PW.pt (pw_or (pt_not (pt_val (C8.pe_c (c_is_tick T) hr (by decide) (by rfl) (pa_cons (pv 0) pa_nil)))) (pw_or (pt_not (pt_val (C8.pe_c (c_is_tick T) hr (by decide) (by rfl) (pa_cons (pv 1) pa_nil)))) (pw_or1 (pt_not (pt_val (C8.pe_c (c_is_luck T) hr (by decide) (by rfl) (pa_cons (pv 2) pa_nil)))))))) (pss_one ps_never) pss_nil) (pss_cons (ps_if (pt_not (pt_val (C8.pe_c (c_are_things_in T) hr (by decide) (by rfl) (pa_cons (pv 1) (pa_cons (pv 3) pa_nil))))) (pss_one ps_never) pss_nil) (pss_one (ps_ret (C8.pe_mk (c_KnownParts T) hr (by decide) (by rfl) (pa_cons (pv 0) (pa_cons (pv 1) (pa_cons (pv 2) (pa_cons (pv 3) pa_nil))))))))), ?_⟩
  refine q_if0 (d := none) (et_orF (et_notF (et_B (ev_callP x.tick hx.tick (ea_cons (ev_vD rfl h1) ea_nil)))) (et_orF (et_notF (et_B (ev_callP x.nid hx.nid (ea_cons (ev_vD rfl h2) ea_nil)))) (et_notF (et_B (ev_callP x.luck hx.luck (ea_cons (ev_vD rfl h3) ea_nil)))))) fun H1 e1 => ?_
  replace h1 := up e1 h1
  replace h2 := up e1 h2
  replace h3 := up e1 h3
  replace h4 := up e1 h4
  refine q_if0 (d := none) (et_notF (et_B (ev_callP (x.nid, x.things) hx.ths (ea_cons (ev_vD rfl h2) (ea_cons (ev_vD rfl h4) ea_nil))))) fun H2 e2 => ?_
  replace h1 := up e2 h1
  replace h2 := up e2 h2
  replace h3 := up e2 h3
  replace h4 := up e2 h4
  exact s_ret (ev_make x trivial (ea_cons (ev_vD rfl h1) (ea_cons (ev_vD rfl h2) (ea_cons (ev_vD rfl h3) (ea_cons (ev_vD rfl h4) ea_nil))))) fun v H3 e3 g => q v H3 ((e1.trans e2).trans e3) g
theorem KnAt.ext {x : Wd} {a dx : Addr} {H H1 : Hp} (e : Ext none H H1) (h : KnAt K CK x a dx H) : KnAt K CK x a dx H1 := by
  obtain ⟨vs, th, h1, h2, h3, h4, h5, h6, h7⟩ := h
  exact ⟨vs, th, e.at0 h1, e.at0 h2, h3, h4, h5, h6, Dt.up e.wk _ _ h7⟩
theorem KnAt.slH {x : Wd} {a dx p q C : Addr} {vs ws : List (Option V)} {H : Hp} (n1 : a ≠ p) (n2 : a ≠ q) (n3 : dx ≠ p) (n4 : dx ≠ q) (t : Tk H (SlX.slH H p C q ws)) (h : KnAt K CK x a dx H) : KnAt K CK x a dx (SlX.slH H p C q ws) := by
  obtain ⟨vs, th, h1, h2, h3, h4, h5, h6, h7⟩ := h
  refine ⟨vs, th, ?_, ?_, h3, h4, h5, h6, Dt.tk t _ _ h7⟩ <;> unfold SlX.slH
  · rw [upd_ne n1, upd_ne n2]
    exact h1
  · rw [upd_ne n3, upd_ne n4]
    exact h2
/-- isinstance(e, KnownParts), of both kinds -/
theorem ev_isK {r : List V → Hp → VK → Prop} (T : Txt K mg CK CW gE) {x : Wd} (h : Ev d ta σ H (Kn K CK x)) : Ev d (tCB (fun xs H Q => r xs H Q ∨ SlX.rIsiSl K (.ref CK) xs H Q) (tCons ta (tCons (tC (.ref CK)) tNil))) σ H (D K (.bool true)) := fun H1 e Q q => h H1 e _ fun v H2 e2 ⟨a, dx, vs, th, h0, h1, h2, _⟩ => by
  subst h0
  exact .inr ⟨a, CK, dx, vs, .ref CK, true, rfl, rfl, fun w z => z, .inr ⟨h1, h2⟩, T.sc_K, T.si_K, T.kk_KK, q _ H2 e2 (.bl _)⟩
theorem ev_isNK {r : List V → Hp → VK → Prop} (T : Txt K mg CK CW gE) {i : Int} (h : Ev d ta σ H (D K (.int i))) : Ev d (tCB (fun xs H Q => rIsi K xs H Q ∨ r xs H Q) (tCons ta (tCons (tC (.ref CK)) tNil))) σ H (D K (.bool false)) := fun H1 e1 Q q =>
  h H1 e1 _ fun v H2 e2 f => .inl ⟨v, .ref CK, .type "int", .ref CK, false, rfl, .own CK, dt_ty f rfl, T.kk_iK, q _ H2 e2 (.bl _)⟩
theorem ev_knT {x : Wd} (T : Txt K mg CK CW gE) {i : Nat} {a dx : Addr} (h : σ[i]? = some (some (.ref a))) (f : KnAt K CK x a dx H) : Ev d (tVar i) σ H (Kn K CK x) := ev_v h f.kn
theorem sc_World___init__ : FnScope ["self", "tick", "next_id", "luck", "things", "known", "one"] ["self", "tick", "next_id", "luck", "things"] (C8.fnScope s_World___init__) := C8.fnScope_by (by decide +kernel)
def wArgs (K : PySem.W.Frag) (CK : Addr) : Wd × Bool → List Phi
  | (x, true) => [Kn K CK x, D K .none, D K .none, D K .none]
  | (x, false) => [D K (.int x.tick), D K (.int x.nid), D K (.int x.luck), D K (thsD x.things)]
abbrev sp_World (K : PySem.W.Frag) (CK CW : Addr) : Sp := SpI CW (fun p : Wd × Bool => (p.2 = false → p.1.Ok) ∧ p.1.things.length ≤ 40000) (wArgs K CK) (fun p => Wp K CW p.1)
theorem c_World (T : Txt K mg CK CW gE) : C8.Mak P w K mg base 8 "World" CW (sp_World K CK CW) [] := by
  obtain ⟨f, fd, M, F, b⟩ := T.mk_W
  refine C8.mak0 M T.g_World F b .nil sc_World___init__ (fun vs H Q E h => ?_) fun cdv A outer s H vs Q E hr h => ?_
  · obtain ⟨⟨x, k⟩, H0, p, dx, ws, rfl, _, _, _, _, _, h, _⟩ := h
    rw [List.length_cons, all_len (Fs := []) (vs := []) h]
    cases k <;> rfl
  obtain ⟨⟨x, k⟩, H0, p, dx, ws, rfl, np, nd, ne, rfl, ⟨hx, hfew⟩, hA, q⟩ := h
  replace hfew : x.things.length ≤ 40000 := hfew
  refine ⟨_, (pss_cons (ps_set (i := 5) sc_World___init__.nd rfl (by first | exact Or.inl rfl | exact Or.inr rfl) (pe_ifExp (pt_val (pe_callB (CallR.or call_isi (SlX.call_isiSl (.ref CK))) (by rfl) T.b_isinstance bt_isinstance (pa_cons (pv 1) (pa_cons (pe_glob (v := .ref CK) (by rfl) T.g_KnownParts rfl) pa_nil)))) (pv 1) (C8.pe_c (c_parts_told T) hr (by decide) (by rfl) (pa_cons (pv 1) (pa_cons (pv 2) (pa_cons (pv 3) (pa_cons (pv 4) pa_nil))))))) (pss_cons (SlX.ps_sl (pv 0) (SlX.pe_sl (pv 5))) (pss_cons (SlX.ps_sl (pv 0) (SlX.pe_sl (pv 5))) (pss_cons (SlX.ps_sl (pv 0) (SlX.pe_sl (pv 5))) (pss_cons (SlX.ps_sl (pv 0) (SlX.pe_sl (pv 5))) (pss_one (SlX.ps_sl (pv 0) (pe_lc (own := [("one", 6)]) rfl sc_World___init__.nd (pi_tup (SlX.pe_sl (pv 5))) (blkOk_by (own := [("one", 6)]) (N := ["self", "tick", "next_id", "luck", "things", "known", "one"]) (sc := C8.fnScope (inClass (topS 37) 1)) (by decide +kernel)) (fun _ _ _ _ _ => (pg_name (i := 6) sc_World___init__.nd rfl (by first | exact Or.inl rfl | exact Or.inr rfl))) (fun _ _ _ _ _ => pts_nil) (fun _ _ _ _ _ => (pe_ix (r := rIxT K) ix_tup (pv 6) pe_int (fun _ _ => rfl))))))))))), ?_⟩
  obtain ⟨p1, s1⟩ := T.sl_W_own_tick
  obtain ⟨p2, s2⟩ := T.sl_W_own_next_id
  obtain ⟨p3, s3⟩ := T.sl_W_own_luck
  obtain ⟨p4, s4⟩ := T.sl_W_own_things
  obtain ⟨p5, s5⟩ := T.sl_W_own_ids
  have e0 : Ext none H0 (upd (upd H0 dx (.own p)) p (.ins CW dx [])) := ((Ext.refl H0).mut nd).mut np
  have hp0 : upd (upd H0 dx (.own p)) p (.ins CW dx []) p = some (.ins CW dx []) := upd_same
  have hd0 : upd (upd H0 dx (.own p)) p (.ins CW dx []) dx = some (.own p) := by rw [upd_ne ne, upd_same]
  generalize upd (upd H0 dx (.own p)) p (.ins CW dx []) = Hs at e0 hp0 hd0
  have kn : ∃ v1 v2 v3 v4, ws = [v1, v2, v3, v4] ∧ Ev none (tIf (tB (tCB (fun xs H Q => rIsi K xs H Q ∨ SlX.rIsiSl K (.ref CK) xs H Q) (tCons (tVar 1) (tCons (tC (.ref CK)) tNil)))) (tVar 1) (tCall (sp_parts_told K CK) [] C8.E0 (tCons (tVar 1) (tCons (tVar 2) (tCons (tVar 3) (tCons (tVar 4) tNil)))))) (start ["self", "tick", "next_id", "luck", "things", "known", "one"] (.ref p :: ws)) Hs (Kn K CK x) := by
    cases k with
    | true =>
      obtain ⟨v1, v2, v3, v4, rfl, h1, h2, h3, h4⟩ := all4 hA
      replace h1 := up e0 h1
      exact ⟨v1, v2, v3, v4, rfl, ev_if (et_B (ev_isK T (ev_vK rfl h1))) (fun _ => ev_vK rfl h1) (fun z => nomatch z)⟩
    | false =>
      obtain ⟨v1, v2, v3, v4, rfl, h1, h2, h3, h4⟩ := all4 hA
      replace h1 := up e0 h1
      replace h2 := up e0 h2
      replace h3 := up e0 h3
      replace h4 := up e0 h4
      exact ⟨v1, v2, v3, v4, rfl, ev_if (et_B (ev_isNK T (ev_vD rfl h1))) (fun z => nomatch z) (fun _ => ev_callP x (hx rfl) (ea_cons (ev_vD rfl h1) (ea_cons (ev_vD rfl h2) (ea_cons (ev_vD rfl h3) (ea_cons (ev_vD rfl h4) ea_nil)))))⟩
  obtain ⟨v1, v2, v3, v4, rfl, kn⟩ := kn
  refine q_set kn fun v H1 e1 hk0 => ?_
  obtain ⟨a, dxa, ev, hk⟩ := hk0.at_
  clear hk0
  subst ev
  have hp1 := e1.at0 hp0
  have hd1 := e1.at0 hd0
  have n1 : a ≠ p := fun z => by
    obtain ⟨vs, th, z1, _⟩ := hk
    rw [z, hp1] at z1
    unfold SlX.SlO at z1
    cases z1
  have n2 : a ≠ dx := fun z => by
    obtain ⟨vs, th, z1, _⟩ := hk
    rw [z, hd1] at z1
    unfold SlX.SlO at z1
    cases z1
  have n3 : dxa ≠ p := fun z => by
    obtain ⟨vs, th, _, z1, _⟩ := hk
    rw [z, hp1] at z1
    cases z1
  have n4 : dxa ≠ dx := fun z => by
    obtain ⟨vs, th, _, z1, _⟩ := hk
    rw [z, hd1] at z1
    cases z1
  refine i_sl (K := K) T.sc_W s1 np nd ne (e0.trans e1) (.inl ⟨hp1, rfl⟩) (.inl hd1) rfl (F := D K (.int x.tick)) (ev_kTick T (ev_knT T rfl hk)) fun u1 H1' H2 e1 f1 eH e2 t2 t2' l2 d2 => ?_
  cases f1
  replace hk : KnAt K CK x a dxa H2 := by
    subst eH
    exact KnAt.slH (vs := []) n1 n2 n3 n4 t2' (hk.ext e1)
  refine i_sl (K := K) T.sc_W s2 np nd ne e2 l2 d2 rfl (F := D K (.int x.nid)) (ev_kNid T (ev_knT T rfl hk)) fun u1 H1' H3 e1 f1 eH e3 t3 t3' l3 d3 => ?_
  cases f1
  replace hk : KnAt K CK x a dxa H3 := by
    subst eH
    exact KnAt.slH (vs := []) n1 n2 n3 n4 t3' (hk.ext e1)
  refine i_sl (K := K) T.sc_W s3 np nd ne e3 l3 d3 rfl (F := D K (.int x.luck)) (ev_kLuck T (ev_knT T rfl hk)) fun u1 H1' H4 e1 f1 eH e4 t4 t4' l4 d4 => ?_
  cases f1
  replace hk : KnAt K CK x a dxa H4 := by
    subst eH
    exact KnAt.slH (vs := []) n1 n2 n3 n4 t4' (hk.ext e1)
  refine i_sl (K := K) T.sc_W s4 np nd ne e4 l4 d4 rfl (F := D K (thsD x.things)) (ev_kThs T (ev_knT T rfl hk)) fun u4 H1' H5 e1 f4 eH e5 t5 t5' l5 d5 => ?_
  replace hk : KnAt K CK x a dxa H5 := by
    subst eH
    exact KnAt.slH (vs := []) n1 n2 n3 n4 t5' (hk.ext e1)
  replace f4 := Dt.tk t5' _ _ f4
  refine s_sl (K := K) (F := Ls K none (x.things.map fun t : Thing => .int t.id)) T.sc_W s5 np nd ne e5 l5 d5 rfl (ev_lc1y (fun t : Thing => .int t.id) (DOk.no _) hfew (es_tup (ev_kThs T (ev_knT T rfl hk))) fun t _ y H1 e it => at0 (ev_vD rfl it)) fun u5 H1' H6 e1 f5 eH e6 t6 t6' l6 d6 => ?_
  refine q H6 e6 ?_
  rcases l6 with ⟨_, z⟩ | ⟨l6, l7⟩
  · cases z
  · exact ⟨p, dx, _, u4, rfl, l6, l7, rfl, rfl, rfl, rfl, Dt.tk t6 _ _ f4⟩
theorem sc_made_world : FnScope ["tick", "next_id", "luck", "things"] ["tick", "next_id", "luck", "things"] (C8.fnScope s_made_world) := C8.fnScope_by (by decide +kernel)
abbrev sp_made_world (K : PySem.W.Frag) (CW : Addr) : Sp := Pu (fun x : Wd => x.things.length ≤ 40000) (fun x => [D K (.int x.tick), D K (.int x.nid), D K (.int x.luck), D K (thsD x.things)]) (Wp K CW)
theorem ev_World (T : Txt K mg CK CW gE) {t : TA} {x : Wd} {b : Bool} (hp : (b = false → x.Ok) ∧ x.things.length ≤ 40000) (h : EvA d t σ H (wArgs K CK (x, b))) : Ev d (tMake CW (sp_World K CK CW) [] C8.E0 t) σ H (Wp K CW x) := ev_make (α := Wd × Bool) (pre := fun p : Wd × Bool => (p.2 = false → p.1.Ok) ∧ p.1.things.length ≤ 40000) (args := wArgs K CK) (res := fun p => Wp K CW p.1) (x, b) hp h
theorem c_made_world (T : Txt K mg CK CW gE) : C8.Cal P w K mg base 10 "made_world" (sp_made_world K CW) [] := by
  refine cal_of T.d_made_world sc_made_world (fun _ => rfl) fun cdv f A outer s H vs Q E hr x hx _ hA q => ?_
  obtain ⟨v1, v2, v3, v4, rfl, h1, h2, h3, h4⟩ := all4 hA
  refine ⟨_, (pss_one (ps_ret (C8.pe_mk (c_World T) hr (by decide) (by rfl) (pa_cons (C8.pe_mk (c_KnownParts T) hr (by decide) (by rfl) (pa_cons (pv 0) (pa_cons (pv 1) (pa_cons (pv 2) (pa_cons (pv 3) pa_nil))))) (pa_cons pe_non (pa_cons pe_non (pa_cons pe_non pa_nil))))))), ?_⟩
  exact s_ret (ev_World T (b := true) ⟨(fun z => nomatch z), hx⟩ (ea_cons (ev_make x trivial (ea_cons (ev_vD rfl h1) (ea_cons (ev_vD rfl h2) (ea_cons (ev_vD rfl h3) (ea_cons (ev_vD rfl h4) ea_nil))))) (ea_cons ev_non (ea_cons ev_non (ea_cons ev_non ea_nil))))) q
end
end Kp
set_option maxHeartbeats 410000
/-! Kp6: the judgements about differences; worlds compared. -/
namespace Kp
open L2 PySem PySem.Spec PyProof.Rows
/-! ### differences as plain values -/
abbrev Chg := Int × Int × Int
def chD (c : Chg) : PyData := .tuple [.int c.1, .int c.2.1, .int c.2.2]
structure Df where
  tick : Int
  nid : Int
  luck : Int
  gone : List Int
  came : List Thing
  chg : List Chg
def Df.d (x : Df) : PyData := .tuple [.int x.tick, .int x.nid, .int x.luck, .tuple (x.gone.map .int), thsD x.came, .tuple (x.chg.map chD)]
def lt2 (p q : Int × Int) : Prop := p.1 < q.1 ∨ (p.1 = q.1 ∧ p.2 < q.2)
def place (c : Chg) : Int × Int := (c.1, c.2.1)
def ChgOk (c : Chg) : Prop := TickOk c.1 ∧ 0 ≤ c.2.1 ∧ c.2.1 ≤ 7 ∧ NumOk c.2.2
structure PartsOk (gone : List Int) (came : List Thing) (chg : List Chg) : Prop where
  l1 : gone.length ≤ 1000
  l2 : came.length ≤ 1000
  l3 : chg.length ≤ 1000
  gok : ∀ n ∈ gone, TickOk n
  cok : ∀ t ∈ came, t.Ok
  xok : ∀ c ∈ chg, ChgOk c
  gasc : Asc gone
  casc : Asc (came.map Thing.id)
  xasc : (chg.map place).Pairwise lt2
theorem chd_flat (c : Chg) : Flat 1 (chD c) := flat_tup (flat_cons (flat_int _) (flat_cons (flat_int _) (flat_cons (flat_int _) flat_nil)))
theorem PartsOk.flat {x : Df} (h : PartsOk x.gone x.came x.chg) : Flat 4 x.d := flat_tup (flat_cons (flat_int _) (flat_cons (flat_int _) (flat_cons (flat_int _) (flat_cons ((flatI (n := 0) _).up (by decide)) (flat_cons (ths_flat h.cok) (flat_cons ((flat_tup fun y hy => by
  obtain ⟨c, _, rfl⟩ := List.mem_map.mp hy
  exact chd_flat c).up (show 2 ≤ 3 by decide)) flat_nil))))))
/-! ### ascending -/
inductive Asd
  | tup (ns : List Int)
  | lst (ns : List Int)
  | prs (ps : List (Int × Int))
def prD (p : Int × Int) : PyData := .tuple ([p.1, p.2].map .int)
def Asd.Ok : Asd → Prop
  | .tup ns => Asc ns ∧ ns.length ≤ 1000
  | .lst ns => Asc ns ∧ ns.length ≤ 1000
  | .prs ps => ps.Pairwise lt2 ∧ ps.length ≤ 1000
def Asd.phi (K : PySem.W.Frag) : Asd → Phi
  | .tup ns => D K (.tuple (ns.map .int))
  | .lst ns => Ls K none (ns.map .int)
  | .prs ps => Ls K none (ps.map prD)
theorem pw_zip {α : Type} {R : α → α → Prop} : ∀ (ns : List α), ns.Pairwise R → ∀ p ∈ ns.zip (ns.drop 1), R p.1 p.2
  | [], _, p, hp => by simp at hp
  | [_], _, p, hp => by simp at hp
  | a :: b :: r, h, p, hp => by
    (have h' := List.pairwise_cons.mp h)
    rw [List.drop_succ_cons, List.drop_zero, List.zip_cons_cons] at hp
    (rcases List.mem_cons.mp hp with rfl | hp)
    · exact h'.1 b List.mem_cons_self
    · exact pw_zip (b :: r) h'.2 p (by rw [List.drop_succ_cons, List.drop_zero]; exact hp)
theorem lex_lt2 {p q : Int × Int} (h : lt2 p q) : HT.lexLt [p.1, p.2] [q.1, q.2] = true := by
  rw [HT.lexLt_cons, HT.lexLt_cons, HT.lexLt_nil_nil]
  rcases h with h | ⟨h1, h2⟩
  · rw [if_neg (by omega), decide_eq_true h]
  · rw [if_pos h1, if_neg (by omega), decide_eq_true h2]
section
variable {K : PySem.W.Frag} {d : Option Addr} {σ : L2.St} {H : Hp} {ta tb : TE}
theorem ev_ltT {ns ms : List Int} (ha : Ev d ta σ H (D K (.tuple (ns.map .int)))) (hb : Ev d tb σ H (D K (.tuple (ms.map .int)))) : Ev d (tOp (rLtT K) ta tb) σ H (D K (.bool (HT.lexLt ns ms))) :=
  ev_op ha hb fun _ _ H1 _ a b => by
    cases a with
    | tup h1 h2 =>
      cases b with
      | tup g1 g2 =>
        rw [DtA.ints h2] at h1
        rw [DtA.ints g2] at g1
        exact rv_now (fun Q q => ⟨_, _, ns, ms, rfl, rfl, h1, g1, q⟩) (.bl _)
end
section
variable {P : Program} {w : World} {K : PySem.W.Frag} {mg : Str → Option Value} {base : Heap} {CK CW gE : Addr} {d : Option Addr} {σ : L2.St} {H : Hp} {ta tb te : TE}
theorem sc_do_ascend : FnScope ["items", "one", "other"] ["items"] (C8.fnScope s_do_ascend) := C8.fnScope_by (by decide +kernel)
abbrev sp_do_ascend (K : PySem.W.Frag) : Sp := Pu Asd.Ok (fun a => [a.phi K]) (fun _ => D K (.bool true))
theorem c_do_ascend (T : Txt K mg CK CW gE) : C8.Cal P w K mg base 1 "do_ascend" (sp_do_ascend K) [] := by
  refine cal_of T.d_do_ascend sc_do_ascend (fun _ => rfl) fun cdv f A outer s H vs Q E hr a ha _ hA q => ?_
  obtain ⟨v, rfl, h⟩ := all1 hA
  cases a with
  | tup ns =>
    obtain ⟨h1, h2⟩ := ha
    refine ⟨_, (pss_one (ps_ret (pe_callB (cr_all rfl) (by rfl) T.b_all bt_all (pa_cons (pe_lc (own := [("one", 1), ("other", 2)]) (g := gTup K 2 (gCons (gName 1) (gCons (gName 2) gNil))) rfl sc_do_ascend.nd (RZ.pi_zipA (by rfl) T.b_zip (pa_cons (pv 0) (pa_cons (pe_slice sl_tupA (pv 0) (po_some pe_int) po_none) pa_nil))) (blkOk_by (own := [("one", 1), ("other", 2)]) (N := ["items", "one", "other"]) (sc := C8.fnScope (topS 47)) (by decide +kernel)) (fun _ _ _ _ _ => (pg_tup rfl (pgs_cons (pg_name (i := 1) sc_do_ascend.nd rfl (by first | exact Or.inl rfl | exact Or.inr rfl)) (pgs_cons (pg_name (i := 2) sc_do_ascend.nd rfl (by first | exact Or.inl rfl | exact Or.inr rfl)) pgs_nil)))) (fun _ _ _ _ _ => pts_nil) (fun _ _ _ _ _ => (pe_cmpR op_lt (pv 1) (pv 2) (nomark _)))) pa_nil)))), ?_⟩
    refine s_ret ((ev_all (as := ns.zip (ns.drop 1)) (p := fun p => decide (p.1 < p.2)) (ev_lc2y (fun p : Int × Int => .bool (decide (p.1 < p.2))) (DOk.no _) ?_ (es_zipT (ea_cons (ev_vD rfl h) (ea_cons (ev_slT (ev_vD rfl h) eo_int eo_none (cutmap ns .int 1)) ea_nil))) fun p _ x y H1 e a b => ev_lt (ev_vD rfl a) (ev_vD rfl b))).is ?_) q
    · rw [List.length_zip, List.length_drop]
      omega
    · rw [all_true fun p hp => decide_eq_true (pw_zip ns h1 p hp)]
  | lst ns =>
    obtain ⟨h1, h2⟩ := ha
    refine ⟨_, (pss_one (ps_ret (pe_callB (cr_all rfl) (by rfl) T.b_all bt_all (pa_cons (pe_lc (own := [("one", 1), ("other", 2)]) (g := gTup K 2 (gCons (gName 1) (gCons (gName 2) gNil))) rfl sc_do_ascend.nd (RZ.pi_zipA (by rfl) T.b_zip (pa_cons (pv 0) (pa_cons (pe_slice sl_list (pv 0) (po_some pe_int) po_none) pa_nil))) (blkOk_by (own := [("one", 1), ("other", 2)]) (N := ["items", "one", "other"]) (sc := C8.fnScope (topS 47)) (by decide +kernel)) (fun _ _ _ _ _ => (pg_tup rfl (pgs_cons (pg_name (i := 1) sc_do_ascend.nd rfl (by first | exact Or.inl rfl | exact Or.inr rfl)) (pgs_cons (pg_name (i := 2) sc_do_ascend.nd rfl (by first | exact Or.inl rfl | exact Or.inr rfl)) pgs_nil)))) (fun _ _ _ _ _ => pts_nil) (fun _ _ _ _ _ => (pe_cmpR op_lt (pv 1) (pv 2) (nomark _)))) pa_nil)))), ?_⟩
    refine s_ret ((ev_all (as := ns.zip (ns.drop 1)) (p := fun p => decide (p.1 < p.2)) (ev_lc2y (fun p : Int × Int => .bool (decide (p.1 < p.2))) (DOk.no _) ?_ (es_zipL (ea_cons (ev_vL rfl h) (ea_cons (ev_slL (DOk.no _) (ev_vL rfl h) eo_int eo_none (cutmap ns .int 1)) ea_nil))) fun p _ x y H1 e a b => ev_lt (ev_vD rfl a) (ev_vD rfl b))).is ?_) q
    · rw [List.length_zip, List.length_drop]
      omega
    · rw [all_true fun p hp => decide_eq_true (pw_zip ns h1 p hp)]
  | prs ps =>
    obtain ⟨h1, h2⟩ := ha
    refine ⟨_, (pss_one (ps_ret (pe_callB (cr_all rfl) (by rfl) T.b_all bt_all (pa_cons (pe_lc (own := [("one", 1), ("other", 2)]) (g := gTup K 2 (gCons (gName 1) (gCons (gName 2) gNil))) rfl sc_do_ascend.nd (RZ.pi_zipA (by rfl) T.b_zip (pa_cons (pv 0) (pa_cons (pe_slice sl_list (pv 0) (po_some pe_int) po_none) pa_nil))) (blkOk_by (own := [("one", 1), ("other", 2)]) (N := ["items", "one", "other"]) (sc := C8.fnScope (topS 47)) (by decide +kernel)) (fun _ _ _ _ _ => (pg_tup rfl (pgs_cons (pg_name (i := 1) sc_do_ascend.nd rfl (by first | exact Or.inl rfl | exact Or.inr rfl)) (pgs_cons (pg_name (i := 2) sc_do_ascend.nd rfl (by first | exact Or.inl rfl | exact Or.inr rfl)) pgs_nil)))) (fun _ _ _ _ _ => pts_nil) (fun _ _ _ _ _ => (pe_cmpR (r := rLtT K) (op_ltT hr.units0) (pv 1) (pv 2) (nomark _)))) pa_nil)))), ?_⟩
    refine s_ret ((ev_all (as := ps.zip (ps.drop 1)) (p := fun p => HT.lexLt [p.1.1, p.1.2] [p.2.1, p.2.2]) (ev_lc2y (fun p : (Int × Int) × (Int × Int) => .bool (HT.lexLt [p.1.1, p.1.2] [p.2.1, p.2.2])) (DOk.no _) ?_ (es_zipL (ea_cons (ev_vL rfl h) (ea_cons (ev_slL (DOk.no _) (ev_vL rfl h) eo_int eo_none (cutmap ps prD 1)) ea_nil))) fun p _ x y H1 e a b => ev_ltT (ns := [p.1.1, p.1.2]) (ms := [p.2.1, p.2.2]) (ev_vD rfl a) (ev_vD rfl b))).is ?_) q
    · rw [List.length_zip, List.length_drop]
      omega
    · rw [all_true fun p hp => lex_lt2 (pw_zip ps h1 p hp)]
theorem sc_is_thing : FnScope ["value", "number"] ["value"] (C8.fnScope s_is_thing) := C8.fnScope_by (by decide +kernel)
theorem c_is_thing (T : Txt K mg CK CW gE) : C8.Cal P w K mg base 4 "is_thing" (sp_is_thing K) [] := by
  refine cal_of T.d_is_thing sc_is_thing (fun _ => rfl) fun cdv f A outer s H vs Q E hr t ht _ hA q => ?_
  obtain ⟨v, rfl, h⟩ := all1 hA
  refine ⟨_, (pss_cons (ps_if (PW.pt (pw_or (pt_not (pt_val (C8.pe_c (c_is_tuple_within T) hr (by decide) (by rfl) (pa_cons (pv 0) (pa_cons pe_int (pa_cons pe_int pa_nil)))))) (pw_or (pt_not (pt_val (C8.pe_c (c_is_tick T) hr (by decide) (by rfl) (pa_cons (pe_ix ix_tup (pv 0) pe_int (fun _ _ => rfl)) pa_nil)))) (pw_or1 (pt_not (pt_val (C8.pe_c (c_is_name T) hr (by decide) (by rfl) (pa_cons (pe_ix ix_tup (pv 0) pe_int (fun _ _ => rfl)) pa_nil)))))))) (pss_one (ps_ret pe_bl)) pss_nil) (pss_one (ps_ret (pe_and (C8.pe_c (c_is_tuple_within T) hr (by decide) (by rfl) (pa_cons (pe_ix ix_tup (pv 0) pe_int (fun _ _ => rfl)) (pa_cons pe_int (pa_cons (C8.pe_gc (by rfl) T.c_MAX_FIELDS) pa_nil)))) (pe_one (pe_callB (cr_all rfl) (by rfl) T.b_all bt_all (pa_cons (pe_lc (own := [("number", 1)]) rfl sc_is_thing.nd (pi_tup (pe_ix ix_tup (pv 0) pe_int (fun _ _ => rfl))) (blkOk_by (own := [("number", 1)]) (N := ["value", "number"]) (sc := C8.fnScope (topS 48)) (by decide +kernel)) (fun _ _ _ _ _ => (pg_name (i := 1) sc_is_thing.nd rfl (by first | exact Or.inl rfl | exact Or.inr rfl))) (fun _ _ _ _ _ => pts_nil) (fun _ _ _ _ _ => (C8.pe_c (c_is_number T) hr (by decide) (by rfl) (pa_cons (pv 1) pa_nil)))) pa_nil))))))), ?_⟩
  have h : D K (.tuple [.int t.id, .str t.kind, .tuple (t.nums.map .int)]) v H := h
  refine q_if0 (d := none) (et_orF (et_notF (et_B (ev_callP (([.int t.id, .str t.kind, .tuple (t.nums.map .int)] : List PyData), (3 : Int), (3 : Int)) ⟨by show (3 : Int) ≤ 3; decide, by show (3 : Int) ≤ 3; decide⟩ (ea_cons (ev_vD rfl h) (ea_cons ev_int (ea_cons ev_int ea_nil)))))) (et_orF (et_notF (et_B (ev_callP t.id ht.id (ea_cons (at0 (ev_vD rfl h)) ea_nil)))) (et_notF (et_B (ev_callP t.kind ht.kind (ea_cons (at1 (ev_vD rfl h)) ea_nil)))))) fun H1 e1 => ?_
  replace h := up e1 h
  have l1 := ht.n1
  have l8 := ht.n8
  refine s_ret (ev_andT (ev_callP (t.nums.map PyData.int, (1 : Int), (8 : Int)) ⟨by show (1 : Int) ≤ ((t.nums.map PyData.int).length : Int); rw [List.length_map]; omega, by show ((t.nums.map PyData.int).length : Int) ≤ 8; rw [List.length_map]; omega⟩ (ea_cons (at2 (ev_vD rfl h)) (ea_cons ev_int (ea_cons ev_int ea_nil)))) ((ev_all (as := t.nums) (p := fun _ => true) ?_).is ?_)) fun v H2 e2 g => q v H2 (e1.trans e2) g
  · exact ev_lc1y (fun _ => .bool true) (DOk.no _) (by omega) (es_tup (at2 (ev_vD rfl h))) fun n hn x H1 e it => ev_callP n (ht.nums n hn) (ea_cons (ev_vD rfl it) ea_nil)
  · rw [all_true fun _ _ => rfl]
theorem sc_is_change : FnScope ["value"] ["value"] (C8.fnScope s_is_change) := C8.fnScope_by (by decide +kernel)
abbrev sp_is_change (K : PySem.W.Frag) : Sp := Pu ChgOk (fun c => [D K (chD c)]) (fun _ => D K (.bool true))
theorem c_is_change (T : Txt K mg CK CW gE) : C8.Cal P w K mg base 4 "is_change" (sp_is_change K) [] := by
  refine cal_of T.d_is_change sc_is_change (fun _ => rfl) fun cdv f A outer s H vs Q E hr c hc _ hA q => ?_
  obtain ⟨v, rfl, h⟩ := all1 hA
  refine ⟨_, (pss_cons (ps_if (PW.pt (pw_or (pt_not (pt_val (C8.pe_c (c_is_tuple_within T) hr (by decide) (by rfl) (pa_cons (pv 0) (pa_cons pe_int (pa_cons pe_int pa_nil)))))) (pw_or1 (pt_not (pt_val (C8.pe_c (c_is_tick T) hr (by decide) (by rfl) (pa_cons (pe_ix ix_tup (pv 0) pe_int (fun _ _ => rfl)) pa_nil))))))) (pss_one (ps_ret pe_bl)) pss_nil) (pss_one (ps_ret (pe_and (C8.pe_c (c_is_from T) hr (by decide) (by rfl) (pa_cons (pe_ix ix_tup (pv 0) pe_int (fun _ _ => rfl)) (pa_cons pe_int (pa_cons (pe_op op_sub (C8.pe_gc (by rfl) T.c_MAX_FIELDS) pe_int) pa_nil)))) (pe_one (C8.pe_c (c_is_number T) hr (by decide) (by rfl) (pa_cons (pe_ix ix_tup (pv 0) pe_int (fun _ _ => rfl)) pa_nil))))))), ?_⟩
  have h : D K (.tuple [.int c.1, .int c.2.1, .int c.2.2]) v H := h
  refine q_if0 (d := none) (et_orF (et_notF (et_B (ev_callP (([.int c.1, .int c.2.1, .int c.2.2] : List PyData), (3 : Int), (3 : Int)) ⟨by show (3 : Int) ≤ 3; decide, by show (3 : Int) ≤ 3; decide⟩ (ea_cons (ev_vD rfl h) (ea_cons ev_int (ea_cons ev_int ea_nil)))))) (et_notF (et_B (ev_callP c.1 hc.1 (ea_cons (at0 (ev_vD rfl h)) ea_nil))))) fun H1 e1 => ?_
  replace h := up e1 h
  exact s_ret (ev_andT (ev_callP (c.2.1, 0, 8 - 1) ⟨hc.2.1, hc.2.2.1⟩ (ea_cons (at1 (ev_vD rfl h)) (ea_cons ev_int (ea_cons (ev_sub ev_int ev_int) ea_nil)))) (ev_callP c.2.2 hc.2.2.2 (ea_cons (at2 (ev_vD rfl h)) ea_nil))) fun v H2 e2 g => q v H2 (e1.trans e2) g
theorem sc_are_parts : FnScope ["gone", "came", "changed", "places", "part", "one"] ["gone", "came", "changed"] (C8.fnScope s_are_parts) := C8.fnScope_by (by decide +kernel)
abbrev DfA := List Int × List Thing × List Chg
abbrev sp_are_parts (K : PySem.W.Frag) : Sp := Pu (fun p : DfA => PartsOk p.1 p.2.1 p.2.2) (fun p => [D K (.tuple (p.1.map .int)), D K (thsD p.2.1), D K (.tuple (p.2.2.map chD))]) (fun _ => D K (.bool true))
theorem c_are_parts (T : Txt K mg CK CW gE) : C8.Cal P w K mg base 5 "are_parts" (sp_are_parts K) [] := by
  refine cal_of T.d_are_parts sc_are_parts (fun _ => rfl) fun cdv f A outer s H vs Q E hr p hp _ hA q => ?_
  obtain ⟨v1, v2, v3, rfl, h1, h2, h3⟩ := all3 hA
  obtain ⟨gone, came, chg⟩ := p
  have h1 : D K (.tuple (gone.map .int)) v1 H := h1
  have h2 : D K (.tuple (came.map Thing.d)) v2 H := h2
  have h3 : D K (.tuple (chg.map chD)) v3 H := h3
  have l1 : gone.length ≤ 1000 := hp.l1
  have l2 : came.length ≤ 1000 := hp.l2
  have l3 : chg.length ≤ 1000 := hp.l3
  refine ⟨_, (pss_cons (ps_if (pt_not (pt_val (pe_callB (cr_all rfl) (by rfl) T.b_all bt_all (pa_cons (pe_lc (own := [("part", 4)]) rfl sc_are_parts.nd (pi_tup (pe_tup (pa_cons (pv 0) (pa_cons (pv 1) (pa_cons (pv 2) pa_nil))))) (blkOk_by (own := [("part", 4)]) (N := ["gone", "came", "changed", "places", "part", "one"]) (sc := C8.fnScope (topS 50)) (by decide +kernel)) (fun _ _ _ _ _ => (pg_name (i := 4) sc_are_parts.nd rfl (by first | exact Or.inl rfl | exact Or.inr rfl))) (fun _ _ _ _ _ => pts_nil) (fun _ _ _ _ _ => (pe_callB (r := rIsi K) call_isi (by rfl) T.b_isinstance bt_isinstance (pa_cons (pv 4) (pa_cons (pe_bltn (v := .ty "tuple") (by rfl) T.b_tuple bt_tuple rfl) pa_nil))))) pa_nil)))) (pss_one (ps_ret pe_bl)) pss_nil) (pss_cons (ps_if (PW.pt (pw_or (pt_not (pt_val (pe_callB (cr_all rfl) (by rfl) T.b_all bt_all (pa_cons (pe_lc (own := [("one", 5)]) rfl sc_are_parts.nd (pi_tup (pv 0)) (blkOk_by (own := [("one", 5)]) (N := ["gone", "came", "changed", "places", "part", "one"]) (sc := C8.fnScope (topS 50)) (by decide +kernel)) (fun _ _ _ _ _ => (pg_name (i := 5) sc_are_parts.nd rfl (by first | exact Or.inl rfl | exact Or.inr rfl))) (fun _ _ _ _ _ => pts_nil) (fun _ _ _ _ _ => (C8.pe_c (c_is_tick T) hr (by decide) (by rfl) (pa_cons (pv 5) pa_nil)))) pa_nil)))) (pw_or1 (pt_not (pt_val (pe_callB (cr_all rfl) (by rfl) T.b_all bt_all (pa_cons (pe_lc (own := [("one", 5)]) rfl sc_are_parts.nd (pi_tup (pv 1)) (blkOk_by (own := [("one", 5)]) (N := ["gone", "came", "changed", "places", "part", "one"]) (sc := C8.fnScope (topS 50)) (by decide +kernel)) (fun _ _ _ _ _ => (pg_name (i := 5) sc_are_parts.nd rfl (by first | exact Or.inl rfl | exact Or.inr rfl))) (fun _ _ _ _ _ => pts_nil) (fun _ _ _ _ _ => (C8.pe_c (c_is_thing T) hr (by decide) (by rfl) (pa_cons (pv 5) pa_nil)))) pa_nil))))))) (pss_one (ps_ret pe_bl)) pss_nil) (pss_cons (ps_if (pt_not (pt_val (pe_callB (cr_all rfl) (by rfl) T.b_all bt_all (pa_cons (pe_lc (own := [("one", 5)]) rfl sc_are_parts.nd (pi_tup (pv 2)) (blkOk_by (own := [("one", 5)]) (N := ["gone", "came", "changed", "places", "part", "one"]) (sc := C8.fnScope (topS 50)) (by decide +kernel)) (fun _ _ _ _ _ => (pg_name (i := 5) sc_are_parts.nd rfl (by first | exact Or.inl rfl | exact Or.inr rfl))) (fun _ _ _ _ _ => pts_nil) (fun _ _ _ _ _ => (C8.pe_c (c_is_change T) hr (by decide) (by rfl) (pa_cons (pv 5) pa_nil)))) pa_nil)))) (pss_one (ps_ret pe_bl)) pss_nil) (pss_cons (ps_setLc (i := 3) (own := [("one", 5)]) rfl sc_are_parts.nd rfl rfl (sw_true rfl rfl rfl (by decide +kernel)) (pi_tup (pv 2)) (blkOk_by (own := [("one", 5)]) (N := ["gone", "came", "changed", "places", "part", "one"]) (sc := C8.fnScope (topS 50)) (by decide +kernel)) (fun _ _ _ _ _ => (pg_name (i := 5) sc_are_parts.nd rfl (by first | exact Or.inl rfl | exact Or.inr rfl))) (fun _ _ _ _ _ => pts_nil) (fun _ _ _ _ _ => (pe_slice (r := rSlA K) sl_tupA (pv 5) po_none (po_some pe_int)))) (pss_one (ps_ret (pe_and (C8.pe_c (c_do_ascend T) hr (by decide) (by rfl) (pa_cons (pv 0) pa_nil)) (pe_and (C8.pe_c (c_do_ascend T) hr (by decide) (by rfl) (pa_cons (pe_lc (own := [("one", 5)]) rfl sc_are_parts.nd (pi_tup (pv 1)) (blkOk_by (own := [("one", 5)]) (N := ["gone", "came", "changed", "places", "part", "one"]) (sc := C8.fnScope (topS 50)) (by decide +kernel)) (fun _ _ _ _ _ => (pg_name (i := 5) sc_are_parts.nd rfl (by first | exact Or.inl rfl | exact Or.inr rfl))) (fun _ _ _ _ _ => pts_nil) (fun _ _ _ _ _ => (pe_ix (r := rIxT K) ix_tup (pv 5) pe_int (fun _ _ => rfl)))) pa_nil)) (pe_one (C8.pe_c (c_do_ascend T) hr (by decide) (by rfl) (pa_cons (pv 3) pa_nil))))))))))), ?_⟩
  refine q_if0 (d := none) (et_notF (et_B ((ev_all (as := [gone.map PyData.int, came.map Thing.d, chg.map chD]) (p := fun _ => true) (ev_lc1y (fun _ => .bool true) (DOk.no _) (show 3 ≤ 40000 by decide) (es_tup (enc := PyData.tuple) (ev_tup (ei_cons (ev_vD rfl h1) (ei_cons (ev_vD rfl h2) (ei_cons (ev_vD rfl h3) ei_nil))) (sml rfl))) fun a ha x H1 e it => ev_isi (ev_vD rfl it) rfl kB_tt)).is ?_))) fun H1 e1 => ?_
  · rw [all_true fun _ _ => rfl]
  replace h1 := up e1 h1
  replace h2 := up e1 h2
  replace h3 := up e1 h3
  refine q_if0 (d := none) (et_orF (et_notF (et_B ((ev_all (as := gone) (p := fun _ => true) (ev_lc1y (fun _ => .bool true) (DOk.no _) (by omega) (es_tup (ev_vD rfl h1)) fun n hn x H1 e it => ev_callP n (hp.gok n hn) (ea_cons (ev_vD rfl it) ea_nil))).is ?_))) (et_notF (et_B ((ev_all (as := came) (p := fun _ => true) (ev_lc1y (fun _ => .bool true) (DOk.no _) (by omega) (es_tup (ev_vD rfl h2)) fun t ht x H1 e it => ev_callP t (hp.cok t ht) (ea_cons (ev_vD rfl it) ea_nil))).is ?_)))) fun H2 e2 => ?_
  · rw [all_true fun _ _ => rfl]
  · rw [all_true fun _ _ => rfl]
  replace h1 := up e2 h1
  replace h2 := up e2 h2
  replace h3 := up e2 h3
  refine q_if0 (d := none) (et_notF (et_B ((ev_all (as := chg) (p := fun _ => true) (ev_lc1y (fun _ => .bool true) (DOk.no _) (by omega) (es_tup (ev_vD rfl h3)) fun c hc x H1 e it => ev_callP c (hp.xok c hc) (ea_cons (ev_vD rfl it) ea_nil))).is ?_))) fun H3 e3 => ?_
  · rw [all_true fun _ _ => rfl]
  replace h1 := up e3 h1
  replace h2 := up e3 h2
  replace h3 := up e3 h3
  refine q_set (d := none) (F := Ls K none ((chg.map place).map prD)) ?_ fun v4 H4 e4 h4 => ?_
  · rw [List.map_map]
    exact ev_lc1y (fun c : Chg => prD (place c)) (DOk.no _) (by omega) (es_tup (ev_vD rfl h3)) fun c hc x H1 e it => ev_slT (ds := [.int c.1, .int c.2.1, .int c.2.2]) (ev_vD rfl it) eo_none eo_int (cut_to _ 2)
  replace h1 := up e4 h1
  replace h2 := up e4 h2
  refine s_ret (ev_andT (ev_callP (Asd.tup gone) ⟨hp.gasc, l1⟩ (ea_cons (F := D K (.tuple (gone.map .int))) (ev_vD rfl h1) ea_nil)) (ev_andT (ev_callP (Asd.lst (came.map Thing.id)) ⟨hp.casc, by rw [List.length_map]; exact l2⟩ (ea_cons (F := Ls K none ((came.map Thing.id).map .int)) ?_ ea_nil)) (ev_callP (Asd.prs (chg.map place)) ⟨hp.xasc, by rw [List.length_map]; exact l3⟩ (ea_cons (F := Ls K none ((chg.map place).map prD)) (ev_vL rfl h4) ea_nil)))) fun v H5 e5 g => q v H5 ((((e1.trans e2).trans e3).trans e4).trans e5) g
  rw [List.map_map]
  exact ev_lc1y (fun t : Thing => .int t.id) (DOk.no _) (by omega) (es_tup (ev_vD rfl h2)) fun t ht x H1 e it => at0 (ev_vD rfl it)
theorem sc_is_same_sort : FnScope ["one", "other"] ["one", "other"] (C8.fnScope s_is_same_sort) := C8.fnScope_by (by decide +kernel)
abbrev sp_is_same_sort (K : PySem.W.Frag) : Sp := Pu (fun p : Thing × Thing => p.1.Ok ∧ p.2.Ok) (fun p => [D K p.1.d, D K p.2.d]) (fun p => D K (.bool (decide (p.1.kind = p.2.kind) && decide ((p.1.nums.length : Int) = p.2.nums.length))))
theorem c_is_same_sort (T : Txt K mg CK CW gE) : C8.Cal P w K mg base 1 "is_same_sort" (sp_is_same_sort K) [] := by
  refine cal_of T.d_is_same_sort sc_is_same_sort (fun _ => rfl) fun cdv f A outer s H vs Q E hr p hp _ hA q => ?_
  obtain ⟨v1, v2, rfl, h1, h2⟩ := all2 hA
  obtain ⟨t, u⟩ := p
  have h1 : D K (.tuple [.int t.id, .str t.kind, .tuple (t.nums.map .int)]) v1 H := h1
  have h2 : D K (.tuple [.int u.id, .str u.kind, .tuple (u.nums.map .int)]) v2 H := h2
  refine ⟨_, (pss_one (ps_ret (pe_and (pe_cmpR (op_eqD hr.units) (pe_ix ix_tup (pv 0) pe_int (fun _ _ => rfl)) (pe_ix ix_tup (pv 1) pe_int (fun _ _ => rfl)) (nomark _)) (pe_one (pe_cmpR (op_eqD hr.units) (pe_callB call_len_seq (by rfl) T.b_len bt_len (pa_cons (pe_ix ix_tup (pv 0) pe_int (fun _ _ => rfl)) pa_nil)) (pe_callB call_len_seq (by rfl) T.b_len bt_len (pa_cons (pe_ix ix_tup (pv 1) pe_int (fun _ _ => rfl)) pa_nil)) (nomark _)))))), ?_⟩
  exact s_ret (ev_andV (ev_eqS (at1 (ev_vD rfl h1)) (at1 (ev_vD rfl h2)) hp.1.kind.str hp.2.kind.str) fun _ => ev_eqI (ev_lenT (at2 (ev_vD rfl h1)) (by rw [List.length_map])) (ev_lenT (at2 (ev_vD rfl h2)) (by rw [List.length_map]))) q
/-! ### worlds compared -/
theorem sc_World___eq__ : FnScope ["self", "other"] ["self", "other"] (C8.fnScope s_World___eq__) := C8.fnScope_by (by decide +kernel)
abbrev sp_eq (K : PySem.W.Frag) (CW : Addr) : Sp := Pu (fun x : Wd => ∀ t ∈ x.things, t.Ok) (fun x => [Wp K CW x, Wp K CW x]) (fun _ => D K (.bool true))
theorem f_eq (T : Txt K mg CK CW gE) : FnR P w K mg base C8.CX0 1 gE (sp_eq K CW) := by
  obtain ⟨_, _, fd, F, b⟩ := T.eq_W
  have h := (C8.fn0 (P := P) (w := w) (mg := mg) (base := base) (k := 0) (sp := sp_eq K CW) F sc_World___eq__ (fun vs H Q E h => ?_) (fun cdv A outer s H vs Q E hr h => ?_)).raw b .nil
  · refine h.imp fun vs H Q E hs => ?_
    rw [List.append_nil]
    exact hs
  · obtain ⟨a, _, _, h, _⟩ := h
    exact all_len (Fs := []) (vs := []) h
  · obtain ⟨x, hx, _, hA, q⟩ := h
    obtain ⟨v1, v2, rfl, h1, h2⟩ := all2 hA
    refine ⟨_, (pss_cons (ps_if (pt_not (pt_val (pe_callB (SlX.call_isiSl (.ref CW)) (by rfl) T.b_isinstance bt_isinstance (pa_cons (pv 1) (pa_cons (pe_glob (v := .ref CW) (by rfl) T.g_World rfl) pa_nil))))) (pss_one (ps_ret pe_bl)) pss_nil) (pss_cons (ps_if (pt_cmpR (op_neD hr.units) (pe_tup (pa_cons (SlX.pe_sl (pv 0)) (pa_cons (SlX.pe_sl (pv 0)) (pa_cons (SlX.pe_sl (pv 0)) pa_nil)))) (pe_tup (pa_cons (SlX.pe_sl (pv 1)) (pa_cons (SlX.pe_sl (pv 1)) (pa_cons (SlX.pe_sl (pv 1)) pa_nil)))) (nomark _)) (pss_one (ps_ret pe_bl)) pss_nil) (pss_one (ps_ret (pe_cmpR (op_eqD hr.units) (SlX.pe_sl (pv 0)) (SlX.pe_sl (pv 1)) (nomark _)))))), ?_⟩
    refine q_if0 (d := none) (et_notF (et_B (ev_isW T (ev_vW rfl h2)))) fun H1 e1 => ?_
    replace h1 := up e1 h1
    replace h2 := up e1 h2
    have fl : Flat 1 (.tuple [.int x.tick, .int x.nid, .int x.luck]) := flat_tup (flat_cons (flat_int _) (flat_cons (flat_int _) (flat_cons (flat_int _) flat_nil)))
    refine q_if0 (d := none) (et_testF (ev_neD (ev_tup (ei_cons (ev_wTick T (ev_vW rfl h1)) (ei_cons (ev_wNid T (ev_vW rfl h1)) (ei_cons (ev_wLuck T (ev_vW rfl h1)) ei_nil))) (sml rfl)) (ev_tup (ei_cons (ev_wTick T (ev_vW rfl h2)) (ei_cons (ev_wNid T (ev_vW rfl h2)) (ei_cons (ev_wLuck T (ev_vW rfl h2)) ei_nil))) (sml rfl)) (fl.up (by decide)).shaped (fl.up (by decide)).shaped) ?_) fun H2 e2 => ?_
    · rw [fl.refl]
      rfl
    replace h1 := up e2 h1
    replace h2 := up e2 h2
    have ft : Flat 3 (thsD x.things) := ths_flat hx
    refine s_ret ((ev_eqD (ev_wThs T (ev_vW rfl h1)) (ev_wThs T (ev_vW rfl h2)) (ft.up (by decide)).shaped (ft.up (by decide)).shaped).is ?_) fun v H3 e3 g => q v H3 ((e1.trans e2).trans e3) g
    rw [ft.refl]
/-- e == f, e != f of one world twice -/
theorem ev_eqW {x : Wd} (hx : ∀ t ∈ x.things, t.Ok) (ha : Ev d ta σ H (Wp K CW x)) (hb : Ev d tb σ H (Wp K CW x)) : Ev d (tOp (SlX.rOwn K CW (sp_eq K CW) C8.E0) ta tb) σ H (D K (.bool true)) :=
  ev_op ha hb fun v u H1 e a b => fun Q q => by
    obtain ⟨a1, dx, vs, th, rfl, h1, h2, h3⟩ := id a
    obtain ⟨b1, dy, ws, th', rfl, g1, g2, g3⟩ := id b
    exact ⟨a1, dx, vs, b1, CW, dy, ws, rfl, rfl, .inr ⟨h1, h2⟩, .inr ⟨g1, g2⟩, by simp [PySem.W.notFirst], x, hx, DOk.no _, ⟨a, b, trivial⟩, fun v H' e g => q v H' e.any g⟩
theorem ev_neW {x : Wd} (hx : ∀ t ∈ x.things, t.Ok) (ha : Ev d ta σ H (Wp K CW x)) (hb : Ev d tb σ H (Wp K CW x)) : Ev d (tOp (rNeO CW (sp_eq K CW) C8.E0) ta tb) σ H (D K (.bool false)) :=
  ev_op ha hb fun v u H1 e a b => fun Q q => by
    obtain ⟨a1, dx, vs, th, rfl, h1, h2, h3⟩ := id a
    obtain ⟨b1, dy, ws, th', rfl, g1, g2, g3⟩ := id b
    refine ⟨a1, dx, vs, b1, dy, ws, rfl, rfl, .inr ⟨h1, h2⟩, .inr ⟨g1, g2⟩, x, hx, DOk.no _, ⟨a, b, trivial⟩, fun v H' e g => ?_⟩
    cases g
    exact ⟨true, rfl, q _ H' e.any (.bl false)⟩
theorem op_eqW {X : Cx} {j : Nat} {mg : Str → Option Value} {CK CW gE : Addr} (T : Txt X.K mg CK CW gE) (e : X.mg = mg) (hr : Room j X.A) (hj : 1 ≤ j) : OpR X (compareOp .Eq) (SlX.rOwn X.K CW (sp_eq X.K CW) C8.E0) := by
  subst e
  exact SlX.op_own (op := .Eq) (fun _ _ => rfl) T.eq_W.1 T.eq_W.2.1 (f_eq T) (hr.mono hj) C8.pass0
theorem op_neW {X : Cx} {j : Nat} {mg : Str → Option Value} {CK CW gE : Addr} (T : Txt X.K mg CK CW gE) (e : X.mg = mg) (hr : Room j X.A) (hj : 2 ≤ j) : OpR X (compareOp .NotEq) (rNeO CW (sp_eq X.K CW) C8.E0) := by
  subst e
  exact op_neOwn T.ne_W T.eq_W.1 T.si_W.cm T.eq_W.2.1 (f_eq T) (hr.mono hj) C8.pass0
theorem sc_require_any_world : FnScope ["value"] ["value"] (C8.fnScope s_require_any_world) := C8.fnScope_by (by decide +kernel)
abbrev sp_require_any_world (K : PySem.W.Frag) (CW : Addr) : Sp := Pu (fun _ : Wd => True) (fun x => [Wp K CW x]) (fun _ => D K .none)
theorem c_require_any_world (T : Txt K mg CK CW gE) : C8.Cal P w K mg base 1 "require_any_world" (sp_require_any_world K CW) [] := by
  refine cal_of T.d_require_any_world sc_require_any_world (fun _ => rfl) fun cdv f A outer s H vs Q E hr x hx _ hA q => ?_
  obtain ⟨v1, rfl, h1⟩ := all1 hA
  refine ⟨_, (pss_one (ps_if (pt_not (pt_val (pe_callB (SlX.call_isiSl (.ref CW)) (by rfl) T.b_isinstance bt_isinstance (pa_cons (pv 0) (pa_cons (pe_glob (v := .ref CW) (by rfl) T.g_World rfl) pa_nil))))) (pss_one ps_never) pss_nil)), ?_⟩
  exact s_if (d := none) (et_notF (et_B (ev_isW T (ev_vW rfl h1)))) (fun z => nomatch z) fun _ H1 e1 => q .non H1 e1 .non
end
end Kp
set_option maxHeartbeats 410000
/-! Kp7: dicts, locks, loops, lists that grow. -/
namespace Kp
open L2 PySem PySem.Spec PyProof.Rows
/-! ### dicts of ints to plain data -/
inductive DtK (K : PySem.W.Frag) (H : Hp) : List (Int × PyData) → List (Key × V) → Prop
  | nil : DtK K H [] []
  | cons {k : Int} {x : PyData} {v : V} {m : List (Int × PyData)} {kvs : List (Key × V)} : Dt K H x v → DtK K H m kvs → DtK K H ((k, x) :: m) ((.inl k, v) :: kvs)
def getD? (m : List (Int × PyData)) (k : Int) : Option PyData := (m.find? fun p => decide (p.1 = k)).map (·.2)
def hasD (m : List (Int × PyData)) (k : Int) : Bool := m.any fun p => decide (p.1 = k)
def putD (m : List (Int × PyData)) (k : Int) (x : PyData) : List (Int × PyData) := if hasD m k = true then m.map (fun p => if p.1 = k then (p.1, x) else p) else m ++ [(k, x)]
section
variable {K : PySem.W.Frag} {d : Option Addr} {H H1 : Hp}
theorem DtK.tk (e : Tk H H1) : ∀ {m : List (Int × PyData)} {kvs : List (Key × V)}, DtK K H m kvs → DtK K H1 m kvs
  | _, _, .nil => .nil
  | _, _, .cons h t => .cons (Dt.tk e _ _ h) (DtK.tk e t)
theorem DtK.length : ∀ {m : List (Int × PyData)} {kvs : List (Key × V)}, DtK K H m kvs → kvs.length = m.length
  | _, _, .nil => rfl
  | _, _, .cons h t => by rw [List.length_cons, List.length_cons, DtK.length t]
theorem DtK.append : ∀ {m m' : List (Int × PyData)} {kvs kvs' : List (Key × V)}, DtK K H m kvs → DtK K H m' kvs' → DtK K H (m ++ m') (kvs ++ kvs')
  | _, _, _, _, .nil, s => s
  | _, _, _, _, .cons h t, s => .cons h (DtK.append t s)
theorem inl_dec (a b : Int) : decide ((Sum.inl a : Key) = Sum.inl b) = decide (a = b) := by
  by_cases h : a = b
  · subst h
    simp
  · simp [h]
theorem DtK.has : ∀ {m : List (Int × PyData)} {kvs : List (Key × V)} (k : Int), DtK K H m kvs → (kvs.any fun kv => decide (kv.1 = Sum.inl k)) = hasD m k
  | _, _, _, .nil => rfl
  | _, _, k, .cons (k := j) h t => by
    unfold hasD
    rw [List.any_cons, List.any_cons, DtK.has k t]
    show (decide ((Sum.inl j : Key) = Sum.inl k) || _) = _
    rw [inl_dec]
    rfl
theorem DtK.put : ∀ {m : List (Int × PyData)} {kvs : List (Key × V)} {k : Int} {x : PyData} {v : V}, DtK K H m kvs → Dt K H x v → DtK K H (putD m k x) (putK kvs (.inl k) v) := fun {m kvs k x v} h hv => by
  unfold putD putK
  rw [DtK.has k h]
  cases hasD m k with
  | false =>
    rw [if_neg (by decide), if_neg (by decide)]
    exact h.append (.cons hv .nil)
  | true =>
    rw [if_pos rfl, if_pos rfl]
    have go : ∀ {m : List (Int × PyData)} {kvs : List (Key × V)}, DtK K H m kvs → DtK K H (m.map (fun p => if p.1 = k then (p.1, x) else p)) (kvs.map (fun kv => if kv.1 = Sum.inl k then (kv.1, v) else kv)) := by
      intro m kvs h
      induction h with
      | nil => exact .nil
      | @cons j y u m kvs hh t ih =>
        (rw [List.map_cons, List.map_cons])
        by_cases e : j = k
        · subst e
          rw [if_pos rfl, if_pos rfl]
          exact .cons hv ih
        · rw [if_neg e, if_neg (fun z => e (Sum.inl.inj z))]
          exact .cons hh ih
    exact go h
theorem DtK.get : ∀ {m : List (Int × PyData)} {kvs : List (Key × V)} {k : Int}, DtK K H m kvs → match getD? m k with | some x => ∃ v, valV kvs (.inl k) = some v ∧ Dt K H x v | none => valV kvs (Sum.inl k) = none := fun {m kvs k} h => by
  induction h with
  | nil => exact rfl
  | @cons j y u m kvs hh t ih =>
    unfold getD?
    rw [List.find?_cons]
    by_cases e : j = k
    · subst e
      rw [decide_eq_true rfl]
      exact ⟨u, valV_pos rfl, hh⟩
    · rw [decide_eq_false e]
      rw [valV_neg (fun z => e (Sum.inl.inj z))]
      exact ih
theorem DtK.some {m : List (Int × PyData)} {kvs : List (Key × V)} {k : Int} {x : PyData} (h : DtK K H m kvs) (e : getD? m k = some x) : ∃ v, valV kvs (.inl k) = some v ∧ Dt K H x v := by
  have g := h.get (k := k)
  rw [e] at g
  exact g
theorem DtK.none {m : List (Int × PyData)} {kvs : List (Key × V)} {k : Int} (h : DtK K H m kvs) (e : getD? m k = none) : valV kvs (.inl k) = none := by
  have g := h.get (k := k)
  rw [e] at g
  exact g
theorem DtK.at : ∀ {m : List (Int × PyData)} {kvs : List (Key × V)} {i : Nat} {k : Int} {x : PyData} {kk : Key} {v : V}, DtK K H m kvs → m[i]? = Option.some (k, x) → kvs[i]? = Option.some (kk, v) → kk = .inl k ∧ Dt K H x v
  | _, _, _, _, _, _, _, .nil, e, _ => by simp at e
  | _, _, 0, _, _, _, _, .cons h _, e, e' => by
    simp at e e'
    obtain ⟨rfl, rfl⟩ := e
    obtain ⟨rfl, rfl⟩ := e'
    exact ⟨rfl, h⟩
  | _, _, i + 1, _, _, _, _, .cons _ t, e, e' => DtK.at (i := i) t (by simpa using e) (by simpa using e')
theorem has_get (m : List (Int × PyData)) (k : Int) : hasD m k = (getD? m k).isSome := by
  unfold hasD getD?
  induction m with
  | nil => rfl
  | cons p m ih =>
    rw [List.any_cons, List.find?_cons]
    cases decide (p.1 = k) with
    | true => rfl
    | false => rw [Bool.false_or]; exact ih
/-- a dict that may be read -/
def Dd (K : PySem.W.Frag) (m : List (Int × PyData)) : Phi := fun v H => ∃ p kvs, v = .ref p ∧ Rd H p (.dK kvs) ∧ DtK K H m kvs
/-- .. that may be written too, at p -/
def DdX (K : PySem.W.Frag) (m : List (Int × PyData)) (p : Addr) (H : Hp) : Prop := ∃ kvs, H p = some (.dK kvs) ∧ DtK K H m kvs
/-- a list that grows, at p -/
def LsX (K : PySem.W.Frag) (ds : List PyData) (p : Addr) (H : Hp) : Prop := ∃ xs, H p = some (.lst xs) ∧ DtA K H ds xs
instance (K : PySem.W.Frag) (d : Option Addr) (m : List (Int × PyData)) : Sta d (Dd K m) := ⟨fun v H H' e ⟨p, kvs, h1, h2, h3⟩ => ⟨p, kvs, h1, e.keep p _ (dK_plain kvs) (fun z => dK_not kvs z.2) h2, DtK.tk e.tk h3⟩⟩
theorem DdX.dd {m : List (Int × PyData)} {p : Addr} (h : DdX K m p H) : Dd K m (.ref p) H := by
  obtain ⟨kvs, h1, h2⟩ := h
  exact ⟨p, kvs, rfl, .inl h1, h2⟩
theorem DdX.up {m : List (Int × PyData)} {p : Addr} (e : Ext d H H1) (h : DdX K m p H) : DdX K m p H1 := by
  obtain ⟨kvs, h1, h2⟩ := h
  exact ⟨kvs, e.at h1 (dK_not kvs), DtK.tk e.wk.tk h2⟩
theorem DdX.tk {m : List (Int × PyData)} {p : Addr} (e : Tk H H1) (hp : H1 p = H p) (h : DdX K m p H) : DdX K m p H1 := by
  obtain ⟨kvs, h1, h2⟩ := h
  exact ⟨kvs, hp.trans h1, DtK.tk e h2⟩
theorem LsX.tk {ds : List PyData} {p : Addr} (e : Tk H H1) (hp : H1 p = H p) (h : LsX K ds p H) : LsX K ds p H1 := by
  obtain ⟨xs, h1, h2⟩ := h
  exact ⟨xs, hp.trans h1, DtA.tk e _ _ h2⟩
theorem LsX.up {ds : List PyData} {p : Addr} (e : Ext d H H1) (np : d ≠ some p) (h : LsX K ds p H) : LsX K ds p H1 := by
  obtain ⟨xs, h1, h2⟩ := h
  refine ⟨xs, ?_, DtA.up e.wk _ _ h2⟩
  rcases e p _ h1 with z | ⟨z, _⟩
  · exact z
  · exact absurd z np
theorem LsX.ls {ds : List PyData} {p : Addr} (np : d ≠ some p) (h : LsX K ds p H) : Ls K d ds (.ref p) H := by
  obtain ⟨xs, h1, h2⟩ := h
  exact ⟨p, xs, rfl, np, h1, h2⟩
theorem Ls.x {ds : List PyData} {v : V} (h : Ls K d ds v H) : ∃ p, v = .ref p ∧ d ≠ some p ∧ LsX K ds p H := by
  obtain ⟨p, xs, h0, np, h1, h2⟩ := h
  exact ⟨p, h0, np, xs, h1, h2⟩
end
section
variable {K : PySem.W.Frag} {d : Option Addr} {σ : L2.St} {H : Hp} {ta tb te tl td ty : TE} {m : List (Int × PyData)} {k : Int} {x : PyData}
theorem ev_vM {i : Nat} {v : V} (h : σ[i]? = some (some v)) (f : Dd K m v H) : Ev d (tVar i) σ H (Dd K m) := ev_v h f
/-- d[k] -/
theorem ev_dget (ha : Ev d td σ H (Dd K m)) (hb : Ev d ty σ H (D K (.int k))) (e : getD? m k = some x) : Ev d (tDGet td ty) σ H (D K x) := fun H1 e1 Q q =>
  ha H1 e1 _ fun v H2 e2 f => hb H2 (e1.on e2) _ fun u H3 e3 g => by
    obtain ⟨p, kvs, rfl, h1, h2⟩ := (inferInstance : Sta d (Dd K m)).up _ _ _ e3.wk f
    cases g
    obtain ⟨v, g1, g2⟩ := h2.some e
    exact ⟨p, v, rfl, .inl ⟨kvs, .inl k, h1, rfl, g1.symm⟩, q _ H3 (e2.trans e3) g2⟩
theorem et_din (ha : Ev d td σ H (Dd K m)) (hb : Ev d ty σ H (D K (.int k))) : Ev d (tDIn ty td) σ H (D K (.bool (hasD m k))) := fun H1 e1 Q q =>
  hb H1 e1 _ fun u H2 e2 g => ha H2 (e1.on e2) _ fun v H3 e3 f => by
    obtain ⟨p, kvs, rfl, h1, h2⟩ := f
    cases g
    refine ⟨p, _, rfl, .inl ⟨kvs, .inl k, h1, rfl, rfl⟩, ?_⟩
    rw [← valV_any, h2.has]
    exact q _ H3 (e2.trans e3) (.bl _)
theorem et_dnotin (ha : Ev d td σ H (Dd K m)) (hb : Ev d ty σ H (D K (.int k))) : Ev d (tDNotIn ty td) σ H (D K (.bool (!hasD m k))) := fun H1 e1 Q q =>
  hb H1 e1 _ fun u H2 e2 g => ha H2 (e1.on e2) _ fun v H3 e3 f => by
    obtain ⟨p, kvs, rfl, h1, h2⟩ := f
    cases g
    refine ⟨p, _, rfl, .inl ⟨kvs, .inl k, h1, rfl, rfl⟩, ?_⟩
    rw [← valV_any, h2.has]
    exact q _ H3 (e2.trans e3) (.bl _)
/-- d.get(k, x) -/
theorem ev_dget2 {y : PyData} (ha : Ev d td σ H (Dd K m)) (hb : Ev d ty σ H (D K (.int k))) (hc : Ev d tl σ H (D K y)) : Ev d (tDGet2 td ty tl) σ H (D K ((getD? m k).getD y)) := fun H1 e1 Q q =>
  ha H1 e1 _ fun v H2 e2 f => by
    obtain ⟨p, kvs, rfl, h1, h2⟩ := id f
    refine ⟨p, rfl, .inl ⟨kvs, h1⟩, hb H2 (e1.on e2) _ fun u H3 e3 g => hc H3 ((e1.on e2).on e3) _ fun z H4 e4 gz => ?_⟩
    obtain ⟨p', kvs', e', h1', h2'⟩ := (inferInstance : Sta d (Dd K m)).up _ _ _ (e3.trans e4).wk f
    cases e'
    cases g
    refine ⟨valV kvs' (.inl k), .inl ⟨kvs', .inl k, h1', rfl, rfl⟩, ?_⟩
    cases eg : getD? m k with
    | none =>
      rw [h2'.none eg]
      exact q _ H4 ((e2.trans e3).trans e4) (by rw [eg]; exact gz)
    | some y' =>
      obtain ⟨v, g1, g2⟩ := h2'.some eg
      rw [g1]
      exact q _ H4 ((e2.trans e3).trans e4) (by rw [eg]; exact g2)
/-- for k in d, of a locked dict -/
theorem es1_keys {p : Addr} {kvs : List (Key × V)} {o : Obj} {i : Nat} (hi : σ[i]? = some (some (.ref p))) (hp : H p = some (.frz o (.dK kvs))) (h2 : DtK K H m kvs) : EvS1 d (iKeys (tVar i)) σ H m (fun a => D K (.int a.1)) := fun R q =>
  have nf : ¬ IsDice (.frz o (.dK kvs)) := fun ⟨_, _, _, z⟩ => nomatch z
  ⟨.ref p, hi, p, o, rfl, .inl ⟨kvs, hp, q _ H (Ext.refl _) ⟨fun j H' hj e => ⟨e.at hp nf, by rw [h2.length]; exact hj⟩, fun H' e => ⟨e.at hp nf, by rw [h2.length]; exact Nat.le_refl _⟩, fun j a H' x H'' ha e y => by
    obtain ⟨rfl, k, v, y1, rfl⟩ := y
    obtain ⟨e1, _⟩ := h2.at (k := a.1) (x := a.2) ha y1
    subst e1
    exact ⟨Ext.refl _, .int _⟩⟩⟩⟩
theorem ext_unlock {u : HO} {p : Addr} {od : Obj} {H' : Hp} (hp : H p = some u) (hu : ¬ IsDice u) (e : Ext d (upd H p (.frz od u)) H') : H' p = some (.frz od u) ∧ Ext d H (upd H' p u) := by
  have h1 : H' p = some (.frz od u) := e.at upd_same fun ⟨_, _, _, z⟩ => nomatch z
  refine ⟨h1, fun a o ha => ?_⟩
  by_cases z : a = p
  · subst z
    rw [hp] at ha
    cases ha
    exact .inl upd_same
  · rw [upd_ne z]
    exact e a o (by rw [upd_ne z]; exact ha)
/-- an expression that runs while the dict at p is locked -/
theorem ev1_lock {te : TE} {F : Phi} [s : Sta d F] {p : Addr} {kvs : List (Key × V)} (hp : H p = some (.dK kvs)) (h : ∀ od, Ev1 d te σ (upd H p (.frz od (.dK kvs))) F) : Ev1 d (tLockE te) σ H F := fun Q q =>
  ⟨p, .dK kvs, hp, trivial, fun od => h od _ fun v H' e f => by
    obtain ⟨h1, h2⟩ := ext_unlock hp (dK_not kvs) e
    exact ⟨h1, q v _ h2 (s.up v _ _ (Wk.unlock h1) f)⟩⟩
theorem Ev.one {te : TE} {F : Phi} (h : Ev d te σ H F) : Ev1 d te σ H F := h H (Wk.refl H)
theorem EvI.one {t : TA} {ds : List PyData} (h : EvI K d t σ H ds) : EvI1 K d t σ H ds := h H (Wk.refl H)
theorem EvT.one {t : TT} {P : Bool → Prop} (h : EvT d t σ H P) : EvT1 d t σ H P := h H (Wk.refl H)
/-- [.. for k in d if .. k ..] -/
theorem ev1_keys {te : TE} {tt : TT} {vs : List Nat} {i j : Nat} {p : Addr} (f : Int → Bool) (r : Int → PyData) (hd : DOk d H) (hz : m.length ≤ 40000) (hx : DdX K m p H) (hi : σ[i]? = some (some (.ref p)))
    (ht : ∀ a ∈ m, ∀ H1, Wk d H H1 → EvT d tt ((wipe σ vs).set j (some (.int a.1))) H1 (· = f a.1)) (he : ∀ a ∈ m, ∀ H1, Wk d H H1 → f a.1 = true → Ev d te ((wipe σ vs).set j (some (.int a.1))) H1 (D K (r a.1)))
    (hw : ∀ x, wipe ((wipe σ vs).set j (some x)) vs = wipe σ vs := by intro _; rfl) :
    Ev1 d (tLockE (tLc (iKeys (tVar i)) (gName j) tt te vs)) σ H (Ls K d ((m.filter fun a => f a.1).map fun a => r a.1)) := by
  obtain ⟨kvs, h1, h2⟩ := hx
  refine ev1_lock h1 fun od => ?_
  have w : Wk d H (upd H p (.frz od (.dK kvs))) := Wk.lock h1
  refine ev1_lc1 (Item := fun a => D K (.int a.1)) (fun a : Int × PyData => f a.1) (fun a : Int × PyData => r a.1) (hd.up w) hz (es1_keys hi upd_same (DtK.tk w.tk h2)) (fun a ha x H1 e it => ?_) (fun a ha x H1 e it hf => ?_) hw
  · cases it
    exact ht a ha H1 (w.trans e)
  · cases it
    exact he a ha H1 (w.trans e) hf
theorem ev1_tupL {te : TE} {ds : List PyData} (h : Ev1 d te σ H (Ls K d ds)) : Ev1 d (tCB (tupR K) (tCons te tNil)) σ H (D K (.tuple ds)) := fun Q q =>
  h _ fun v H2 e2 f => by
    obtain ⟨l, xs, rfl, _, h1, h2⟩ := f
    exact ⟨l, xs, rfl, .inl ⟨.inl (.inl h1), fun p hp => q _ _ (e2.trans (Ext.new hp)) (.tup (.inl (.inl upd_same)) (DtA.up (Ext.new (d := d) hp).wk _ _ h2))⟩⟩
theorem ev1_any {te : TE} {α : Type} {as : List α} {p : α → Bool} (h : Ev1 d te σ H (Ls K d (as.map fun a => .bool (p a)))) : Ev1 d (tCB (rAny K) (tCons te tNil)) σ H (D K (.bool (as.any p))) := fun Q q =>
  h _ fun v H2 e2 f => by
    obtain ⟨l, xs, rfl, _, h1, h2⟩ := f
    have h2' : DtA K H2 ((as.map p).map .bool) xs := by rw [List.map_map]; exact h2
    rw [DtA.bools h2'] at h1
    refine ⟨l, as.map p, rfl, .inl (.inl h1), ?_⟩
    rw [List.any_map]
    exact q _ H2 e2 (.bl _)
theorem et1_B {te : TE} {b : Bool} (h : Ev1 d te σ H (D K (.bool b))) : EvT1 d (tB te) σ H (· = b) := fun Q q => h _ fun x H2 e2 f => by
  cases f
  exact ⟨b, rfl, q b H2 e2 rfl⟩
theorem et1_orF {t u : TT} (h1 : EvT1 d t σ H (· = false)) (h2 : ∀ H1, Ext d H H1 → EvT1 d u σ H1 (· = false)) : EvT1 d (tOr t u) σ H (· = false) := fun Q q => h1 _ fun c H2 e2 f => by
  subst f
  exact h2 H2 e2 Q fun c H3 e3 f => q c H3 (e2.trans e3) f
theorem q1_set {tx : TS} {te : TE} {F : Phi} {E : Ends} {i : Nat} (h : Ev1 d te σ H F) (k : ∀ v H1, Ext d H H1 → F v H1 → tx E (σ.set i (some v)) H1) : tSeq (tAsg te (gName i)) tx E σ H := h _ fun v H1 e f => k v H1 e f
theorem q1_if0 {t : TT} {tx tu : TS} {E : Ends} (h : EvT1 d t σ H (· = false)) (k : ∀ H1, Ext d H H1 → tx E σ H1) : tSeq (tIfS t tu tNext) tx E σ H := h _ fun b H1 e f => by
  subst f
  exact k H1 e
/-- len(d) -/
theorem ev1_lenD {te : TE} {n : Int} {p : Addr} {i : Nat} (hi : σ[i]? = some (some (.ref p))) (h : DdX K m p H) (hn : (m.length : Int) = n) : Ev1 d (tCB (fun xs H Q => ∃ a kvs, xs = [V.ref a] ∧ H a = some (.dK kvs) ∧ Q (.int kvs.length) H) (tCons (tVar i) tNil)) σ H (D K (.int n)) := fun Q q => by
  obtain ⟨kvs, h1, h2⟩ := h
  refine ⟨.ref p, hi, p, kvs, rfl, h1, ?_⟩
  rw [h2.length, hn]
  exact q _ H (Ext.refl _) (.int _)
end
end Kp
set_option maxHeartbeats 410000
/-! KpE: enumerate(t) of a tuple. -/
namespace Kp
open L2 PySem PySem.Spec PyProof.Rows
/-- a tuple's items, each in a new pair behind its place -/
def Ien (K : PySem.W.Frag) (a : Addr) : It where
  go i H := ∃ (ys : List V) (y : V), SqT K H a ys ∧ ys[i]? = some y
  yld i H v H' := ∃ T y, v = .ref T ∧ H T = none ∧ H' = upd H T (.tup [.int (i : Nat), y]) ∧ ∀ ys, SqT K H a ys → ys[i]? = some y
  stop i H := ∃ ys : List V, SqT K H a ys ∧ ys.length ≤ i
section
variable {prog : Program} {A : Around} {w : World} {E : Value → Shared → Prop} {s : Shared}
set_option maxHeartbeats 1010000 in
theorem enum_newT (t : Addr) (items : Array Value) : Meets (Builtin.«enumerate.__new__» ⟨[.type "enumerate", .ref t], []⟩) (fun _ R s => s.heap.IsTuple t items ∧
      R (.ok (.ret (.ref (s.heap.push { cls := .type "tuple_iterator", data := .fields #[.ref t, .int 0 0] }).objs.size)))
        { s with heap := (s.heap.push { cls := .type "tuple_iterator", data := .fields #[.ref t, .int 0 0] }).push { cls := .type "enumerate", data := .fields #[.none, .bool false, .ref s.heap.objs.size, rawInt 0, .none, .none] } }) :=
  .of_wp fun prog w A R s hh => by
    obtain ⟨hp, gn, dr, tk, os⟩ := s
    obtain ⟨isT, go⟩ := hh
    have hsub := sub_enumerate
    have step : ∀ {A' : Around} {E Q : Value → Shared → Prop}, Q (.ref hp.objs.size) ⟨hp.push { cls := .type "tuple_iterator", data := .fields #[.ref t, .int 0 0] }, gn, dr, tk, os⟩ → wpAny (model prog w) A' (pyIter (.ref t)) Q E ⟨hp, gn, dr, tk, os⟩ :=
      fun q => (begins_tuple t items).iter prog w _ _ _ _ isT q
    obtain ⟨ob, ob1, ob2, ob3⟩ := id isT
    wp_walk using step, AutoSeq1.wpAny_loadPart' ob1
    refine wpAny_stack_any fun _ => wpAny_pure ?_
    split
    · rename_i c _ _ _ _ _
      cases (c == Value.type "enumerate") <;> (wp_walk using step, AutoSeq1.wpAny_loadPart' ob1; exact ⟨_, rfl, go⟩)
    · wp_walk using step, AutoSeq1.wpAny_loadPart' ob1
      exact ⟨_, rfl, go⟩
theorem enum_tup {t : Addr} {items : Array Value} {Q : Value → Shared → Prop} (isT : s.heap.IsTuple t items)
    (h : ∀ h', IsEnum h' (s.heap.objs.size + 1) s.heap.objs.size 0 .none → h'.IsTupleIter s.heap.objs.size t 0 → (∀ b o, s.heap.get? b = some o → h'.get? b = some o) → Q (.ref (s.heap.objs.size + 1)) { s with heap := h' }) : wpAny (model prog w) A (call (.type "enumerate") [.ref t]) Q E s := by
  refine callType_new F.called_enumerate (by decide) (F.typeCall_enumerate_1 _) (F.newCall_enumerate_1 _) (fun obj => F.args_object_init_2 obj _) F.entry_enumerate_new (enum_newT t items) ⟨isT, ?_⟩
  have sz : (s.heap.push { cls := .type "tuple_iterator", data := .fields #[.ref t, .int 0 0] }).objs.size = s.heap.objs.size + 1 := Heap.size_push ..
  have top := Heap.get?_push_size (s.heap.push { cls := .type "tuple_iterator", data := .fields #[.ref t, .int 0 0] }) (o := { cls := .type "enumerate", data := .fields #[.none, .bool false, .ref s.heap.objs.size, rawInt 0, .none, .none] }) rfl
  rw [sz] at top
  show _ ∧ _
  rw [sz]
  exact ⟨⟨_, top, rfl⟩, h _ top ⟨_, Heap.get?_push_of_some _ (Heap.get?_push_size _ rfl), rfl, rfl⟩ fun b o z => Heap.get?_push_of_some _ (Heap.get?_push_of_some _ z)⟩
end
theorem turn_enT {P : Program} {w : World} {K : PySem.W.Frag} {elts : List Expr} {kk : Nat} {tpos : Pos} (a e it : Addr) :
    Turn P w K (.Tuple elts kk tpos) (Ien K a) [e, it] e (fun i h => (∃ old, IsEnum h e it ((i : Nat) : Int) old) ∧ h.IsTupleIter it a i ∧ e ≠ it) := by
  have two : ∀ {b : Addr}, b ∈ [e, it] → b = e ∨ b = it := fun hb => by simpa using hb
  refine ⟨List.mem_cons_self, fun i h st b hb => ?_, fun i h h' ⟨⟨old, q1⟩, q2, q3⟩ k => ⟨⟨old, k e List.mem_cons_self _ q1⟩, q2.at fun o z => k it (List.mem_cons_of_mem _ List.mem_cons_self) o z, q3⟩, fun X eP ew eK calm i pins s σ H E I free st hg => ?_, fun X eP ew eK calm i pins s σ H E I free st hg => ?_, fun A i s Q E st h => ?_⟩
  · obtain ⟨⟨old, q1⟩, ⟨o, q2, _, q4⟩, _⟩ := st
    rcases two hb with rfl | rfl
    · exact ⟨_, q1, fun _ z => nomatch z⟩
    · exact ⟨o, q2, fun _ z => by rw [q4] at z; cases z⟩
  · subst eP ew eK
    obtain ⟨⟨old, q1⟩, q2, q3⟩ := st
    obtain ⟨ys, y, sq, hy⟩ := hg
    obtain ⟨its, vs, isT, _⟩ := I.tuple sq
    obtain ⟨u, hu, ru⟩ := vs.get hy
    have ne : a ≠ it := fun z => by
      obtain ⟨o1, z1, z2, _⟩ := isT
      obtain ⟨o2, z3, z4, _⟩ := q2
      rw [z, z3] at z1
      cases z1
      rw [z2] at z4
      injection z4 with z5
      exact absurd z5 (by decide)
    have le1 : e < s.heap.objs.size := Heap.lt_size q1
    have le2 : it < s.heap.objs.size := let ⟨_, z, _⟩ := q2; Heap.lt_size z
    refine wpAny_pyNext_enum_itemD (Draws.tuple (A := X.A.in1) (I.ok.hd calm) it a ne its.toArray) q1 ⟨q2, isT⟩ (by have := vs.length; have := (List.getElem?_eq_some_iff.mp hy).1; simp; omega) q3 (fun z => ?_) fun x h' tk hx out st' new _ kept => ?_
    · (rcases List.mem_cons.mp z with z | z)
      · exact q3 z
      · rw [List.mem_singleton] at z
        obtain ⟨o1, z1, z2, _⟩ := isT
        have q1' : s.heap.get? e = some _ := q1
        rw [z, z1] at q1'
        have q5 : o1 = _ := Option.some.inj q1'
        subst q5
        injection z2 with z5
        exact absurd z5 (by decide)
    · have ex : u = x := by
        have hx' : its.toArray[i]? = some x := hx
        rw [List.getElem?_toArray, hu] at hx'
        exact Option.some.inj hx'
      subst ex
      refine ⟨_, rfl, wpAny_letOwnedTupleGo_enum (s := { s with heap := h', toks := tk + 1 }) out fun h2 back sb => ?_⟩
      have laid : h2.get? s.heap.objs.size = some { cls := .type "tuple", data := .seq #[.int i tk, u] } := (sb.2 _ (Nat.ne_of_gt le1)).trans new
      have okT : ObjOk X.prog X.w (upd H s.heap.objs.size (.tup [.int (i : Nat), y])) h2 s.heap.objs.size (.tup [.int (i : Nat), y]) := ⟨show 2 ≤ sizeLine by decide, [.int i tk, u], .cons ⟨_, rfl⟩ (.cons ru .nil), _, laid, rfl, _, rfl⟩
      have I2 : Inv X pins σ (upd H s.heap.objs.size (.tup [.int (i : Nat), y])) { s with heap := h2, toks := tk + 1 } := I.turnedNew (ch := [e, it]) (fun b o nb z => (sb.2 b fun q => nb (q ▸ List.mem_cons_self)).trans (kept b o (fun q => nb (q ▸ List.mem_cons_self)) (fun q => nb (q ▸ List.mem_cons_of_mem _ List.mem_cons_self)) z)) free (Nat.le_refl _) okT
      refine ⟨.ref s.heap.objs.size, _, I2, rfl, ⟨_, y, rfl, I.hok.fresh (Nat.le_refl _), rfl, fun zs hz => by rw [I.tuple_inj hz sq]; exact hy⟩, ⟨⟨u, by rw [show ((i + 1 : Nat) : Int) = (i : Int) + 1 by omega]; exact back⟩, st'.1.at fun o z => (sb.2 it q3.symm).trans z, q3⟩, fun b hb => ?_⟩
      rw [upd_ne (by rcases two hb with rfl | rfl; exact Nat.ne_of_lt le1; exact Nat.ne_of_lt le2)]
      exact (free b hb).1
  · subst eP ew eK
    obtain ⟨⟨old, q1⟩, q2, q3⟩ := st
    obtain ⟨ys, sq, hy⟩ := hg
    obtain ⟨its, vs, isT, _⟩ := I.tuple sq
    obtain ⟨f0, f1, f2, f3, f4, f5⟩ := free it (List.mem_cons_of_mem _ List.mem_cons_self)
    have no : its.toArray[i]? = none := by
      have := vs.length
      rw [List.getElem?_toArray]
      exact List.getElem?_eq_none (by omega)
    have D : Draws X.prog X.w X.A.in1 it [it, a] i (fun _ _ => True) (fun j h => j = i ∧ h.IsTupleIter it a i ∧ h.IsTuple a its.toArray) := by
      refine ⟨fun j h z => let ⟨o, z1, _⟩ := z.2.1; ⟨o, z1⟩, fun j h h' z k => ⟨z.1, z.2.1.at fun o z1 => k it List.mem_cons_self o z1, z.2.2.at fun o z1 => k a (List.mem_cons_of_mem _ List.mem_cons_self) o z1⟩, fun j s' Q E' lt z _ => absurd z.1 (Nat.ne_of_lt lt), fun s' Q E' z hE => ?_⟩
      exact wpAny_nextOf_tuple_end (I.ok.hd calm) z.2.1 z.2.2 no hE
    exact wpAny_pyNext_enum_endD D q1 ⟨rfl, q2, isT⟩ fun h' but => ⟨rfl, I.turned (t' := s.toks) (fun b o nb z => but b o nb z) f0 f1 f3 f4 f5⟩
  · obtain ⟨⟨_, q⟩, _⟩ := st
    exact wpAny_pyIter_enum q h
def iEnT (K : PySem.W.Frag) (ta : TA) : TI := fun σ H R => ta σ H fun vs H1 => ∃ a xs, vs = [.ref a] ∧ SqT K H1 a xs ∧ R (Ien K a) H1
theorem pi_enumT {X : Cx} {e : Expr} {ta : TA} {p pos tpos : Pos} {elts : List Expr} {kk : Nat} (hg : Gl X "enumerate") (hm : X.mg "enumerate" = none) (ha : PA X [e] ta) (hs : starEach [e] X.env = [(false, eval e X.env)] := by rfl) : PI X (.Tuple elts kk tpos) (.Call (.Name "enumerate" p) [e] [] pos) (iEnT X.K ta) := by
  constructor
  intro pins s σ H R I h
  refine Call_ (ld_blt I hg hm boot_enumerate (PyProof.Rows.callWith_type1 (thn (ha.run pos pins s σ H _ I h) fun us s1 ⟨vs, H1, I1, r1, a, xs, ev, sq, q⟩ => ?_) hs rfl))
  subst ev
  obtain ⟨u, rfl, ru⟩ := r1.one
  (cases (show u = Value.ref a from ru))
  obtain ⟨its, rv, isT, _⟩ := I1.tuple sq
  refine enum_tup isT fun h' en it kept => wpAny_pyIter_enum en ?_
  have free : ∀ b ∈ [s1.heap.objs.size + 1, s1.heap.objs.size], FpOk X pins H1 b := fun b hb => by
    have le : s1.heap.objs.size ≤ b := by
      (rcases List.mem_cons.mp hb with z | z)
      · omega
      · rw [List.mem_singleton] at z
        omega
    exact I1.fpOk le (I1.hok.fresh le)
  exact ⟨_, _, _, _, H1, rfl, I1.kept (t' := s1.toks) kept, turn_enT a (s1.heap.objs.size + 1) s1.heap.objs.size, ⟨⟨.none, en⟩, it, Nat.succ_ne_self _⟩, free, q⟩
end Kp
set_option maxHeartbeats 410000
/-! Kp8: dict comprehensions, loops, lists that grow, sorted ints. -/
namespace Kp
open L2 PySem PySem.Spec PyProof.Rows
/-! ### dicts built by a comprehension -/
section
variable {K : PySem.W.Frag} {d : Option Addr} {σ : L2.St} {H : Hp} {te tk tv tl : TE} {α : Type}
def putAll (m : List (Int × PyData)) (ps : List (Int × PyData)) : List (Int × PyData) := ps.foldl (fun m p => putD m p.1 p.2) m
theorem putAll_snoc (m ps : List (Int × PyData)) (p : Int × PyData) : putAll m (ps ++ [p]) = putD (putAll m ps) p.1 p.2 := by
  unfold putAll
  rw [List.foldl_append]
  rfl
theorem putD_len (m : List (Int × PyData)) (k : Int) (x : PyData) : (putD m k x).length ≤ m.length + 1 := by
  unfold putD
  split
  · rw [List.length_map]
    omega
  · rw [List.length_append]
    exact Nat.le_refl _
theorem putAll_len (ps : List (Int × PyData)) : ∀ m : List (Int × PyData), (putAll m ps).length ≤ m.length + ps.length := by
  induction ps with
  | nil => exact fun m => Nat.le_refl _
  | cons p ps ih =>
    intro m
    have h1 := ih (putD m p.1 p.2)
    have h2 := putD_len m p.1 p.2
    rw [List.length_cons]
    show (putAll (putD m p.1 p.2) ps).length ≤ _
    omega
theorem ev_dcG {wi : TI} {g : TG} {tt : TT} {vs : List Nat} {as : List α} {Item : α → Phi} (f : α → Bool) (k : α → Int) (r : α → PyData) (hz : as.length ≤ 40000) (hsrc : EvS d wi σ H as Item)
    (hb : ∀ a ∈ as, ∀ x H1, Wk d H H1 → Item a x H1 → ∀ Q : L2.St → Hp → Prop, (∀ σ2 H2, Ext d H1 H2 → wipe σ2 vs = wipe σ vs → EvT d tt σ2 H2 (· = f a) → (f a = true → Ev d tk σ2 H2 (D K (.int (k a))) ∧ Ev d tv σ2 H2 (D K (r a))) → Q σ2 H2) → g x (wipe σ vs) H1 Q) :
    Ev1 d (tDc wi g tt tk tv vs) σ H (fun v H' => ∃ p, v = .ref p ∧ H p = none ∧ DdX K (putAll [] ((as.filter f).map fun a => (k a, r a))) p H') := fun Q q => hsrc H (Wk.refl H) _ fun J H2 e2 S => fun Dl hD => by
  have H0D : H Dl = none := e2.free hD
  let W : Nat → Nat → Hp → Prop := fun i m H' => m = as.length - i ∧ i ≤ as.length ∧ Ext d H2 H' ∧ DdX K (putAll [] (((as.take i).filter f).map fun a => (k a, r a))) Dl H'
  refine ⟨W, ⟨as.length, by simp, Nat.zero_le _, Ext.new hD, [], upd_same, .nil⟩, ?_⟩
  rintro i m H' ⟨rfl, hi, e', kvs, hl, hx⟩
  by_cases hlt : i < as.length
  · refine .inr ⟨S.go i H' hlt e', fun H' => W (i + 1) (as.length - (i + 1)) H', fun H'' w => ⟨_, by omega, w⟩, fun x H'' y => ?_⟩
    obtain ⟨a, ha⟩ : ∃ a, as[i]? = some a := ⟨as[i], by simp [hlt]⟩
    obtain ⟨e'', it⟩ := S.yld i a H' x H'' ha e' y
    refine hb a (List.mem_of_getElem? ha) x H'' (((e2.trans e').trans e'').wk) it _ fun σ2 H3 e3 hw ht he => ⟨hw, ht H3 (Wk.refl _) _ fun b H4 e4 hbf => ?_⟩
    have eo : Ext d H2 H4 := ((e'.trans e'').trans e3).trans e4
    have em : Ext d H' H4 := (e''.trans e3).trans e4
    have hl4 : H4 Dl = some (.dK kvs) := em.at hl (dK_not kvs)
    have hx4 := DtK.tk em.wk.tk hx
    subst hbf
    cases hf : f a with
    | true =>
      rw [if_pos rfl]
      obtain ⟨hk, hv⟩ := he hf
      refine hk H4 e4.wk _ fun y1 H5 e5 f5 => hv H5 (e4.wk.on e5) _ fun y2 H6 e6 f6 => ?_
      cases f5
      have e56 : Ext d H4 H6 := e5.trans e6
      have hl6 : H6 Dl = some (.dK kvs) := e56.at hl4 (dK_not kvs)
      have len : kvs.length ≤ i := by
        rw [hx.length]
        refine Nat.le_trans (putAll_len _ []) ?_
        rw [List.length_map, List.length_nil, Nat.zero_add]
        exact Nat.le_trans (List.length_filter_le _ _) (by rw [List.length_take]; omega)
      refine ⟨kvs, .inl (k a), rfl, hl6, sz_lt (by omega), rfl, by omega, (eo.trans e56).mut hD, _, upd_same, ?_⟩
      rw [take_filter ha, if_pos hf, List.map_append]
      show DtK K _ (putAll [] (_ ++ [(k a, r a)])) _
      rw [putAll_snoc]
      have t6 : Tk H6 (upd H6 Dl (.dK (putK kvs (.inl (k a)) y2))) := Tk.dK hl6
      exact DtK.tk t6 (DtK.put (DtK.tk e56.wk.tk hx4) f6)
    | false =>
      rw [if_neg (by decide)]
      refine ⟨rfl, by omega, eo, kvs, hl4, ?_⟩
      rw [take_filter ha, hf, if_neg (by decide), List.append_nil]
      exact hx4
  · have e : i = as.length := by omega
    subst e
    refine .inl ⟨S.stop H' e', q _ H' (e2.trans e') ⟨Dl, rfl, H0D, kvs, hl, ?_⟩⟩
    rw [List.take_length] at hx
    exact hx
theorem ev_dc1 {wi : TI} {tt : TT} {vs : List Nat} {j : Nat} {as : List α} {Item : α → Phi} (f : α → Bool) (k : α → Int) (r : α → PyData) (hz : as.length ≤ 40000) (hsrc : EvS d wi σ H as Item)
    (ht : ∀ a ∈ as, ∀ x H1, Wk d H H1 → Item a x H1 → EvT d tt ((wipe σ vs).set j (some x)) H1 (· = f a))
    (hk : ∀ a ∈ as, ∀ x H1, Wk d H H1 → Item a x H1 → f a = true → Ev d tk ((wipe σ vs).set j (some x)) H1 (D K (.int (k a))))
    (hv : ∀ a ∈ as, ∀ x H1, Wk d H H1 → Item a x H1 → f a = true → Ev d tv ((wipe σ vs).set j (some x)) H1 (D K (r a)))
    (hw : ∀ x, wipe ((wipe σ vs).set j (some x)) vs = wipe σ vs := by intro _; rfl) :
    Ev1 d (tDc wi (gName j) tt tk tv vs) σ H (fun v H' => ∃ p, v = .ref p ∧ H p = none ∧ DdX K (putAll [] ((as.filter f).map fun a => (k a, r a))) p H') :=
  ev_dcG f k r hz hsrc fun a ha x H1 e1 it Q q => q _ H1 (Ext.refl H1) (hw x) (ht a ha x H1 e1 it) fun hf => ⟨hk a ha x H1 e1 it hf, hv a ha x H1 e1 it hf⟩
theorem ev_dc1y {wi : TI} {vs : List Nat} {j : Nat} {as : List α} {Item : α → Phi} (k : α → Int) (r : α → PyData) (hz : as.length ≤ 40000) (hsrc : EvS d wi σ H as Item)
    (hk : ∀ a ∈ as, ∀ x H1, Wk d H H1 → Item a x H1 → Ev d tk ((wipe σ vs).set j (some x)) H1 (D K (.int (k a))))
    (hv : ∀ a ∈ as, ∀ x H1, Wk d H H1 → Item a x H1 → Ev d tv ((wipe σ vs).set j (some x)) H1 (D K (r a)))
    (hw : ∀ x, wipe ((wipe σ vs).set j (some x)) vs = wipe σ vs := by intro _; rfl) :
    Ev1 d (tDc wi (gName j) tYes tk tv vs) σ H (fun v H' => ∃ p, v = .ref p ∧ H p = none ∧ DdX K (putAll [] (as.map fun a => (k a, r a))) p H') := by
  have h := ev_dc1 (tk := tk) (tv := tv) (K := K) (fun _ => true) k r hz hsrc (fun _ _ _ _ _ _ => et_yes) (fun a ha x H1 e it _ => hk a ha x H1 e it) (fun a ha x H1 e it _ => hv a ha x H1 e it) hw
  rw [filter_true] at h
  exact h
end
/-! ### loops -/
section
variable {K : PySem.W.Frag} {d : Option Addr} {σ : L2.St} {H : Hp} {te tl : TE} {α : Type} {g : TG} {tb tx : TS} {E : Ends}
/-- what is walked while Keep holds; a turn's own doing: Rl -/
structure SrcK (Keep : Hp → Prop) (Rl : Hp → Hp → Prop) (J : It) (as : List α) (Item : α → Phi) : Prop where
  go : ∀ i H', Keep H' → i < as.length → J.go i H'
  stop : ∀ H', Keep H' → J.stop as.length H'
  yld : ∀ i a H' x H'', as[i]? = some a → Keep H' → J.yld i H' x H'' → Rl H' H'' ∧ Item a x H''
theorem for_run {Keep : Hp → Prop} {Rl : Hp → Hp → Prop} {J : It} {as : List α} {Item : α → Phi} (S : SrcK Keep Rl J as Item) (I : Nat → L2.St → Hp → Prop) (h0 : I 0 σ H) (hk : ∀ i σ' H', I i σ' H' → Keep H')
    (hb : ∀ i a σ' H' x H'', as[i]? = some a → I i σ' H' → Rl H' H'' → Item a x H'' → g x σ' H'' fun σ2 H2 => tb { E with nx := I (i + 1), ct := I (i + 1), bk := E.nx } σ2 H2) (hn : ∀ σ' H', I as.length σ' H' → E.nx σ' H') :
    ∃ W : Nat → Nat → L2.St → Hp → Prop, (∃ m, W 0 m σ H) ∧ ∀ i m σ H, W i m σ H → (J.stop i H ∧ E.nx σ H) ∨ (J.go i H ∧ ∃ N : L2.St → Hp → Prop, (∀ σ' H', N σ' H' → ∃ m', m' < m ∧ W (i + 1) m' σ' H') ∧ ∀ x H', J.yld i H x H' → g x σ H' fun σ2 H2 => tb { E with nx := N, ct := N, bk := E.nx } σ2 H2) := by
  refine ⟨fun i m σ' H' => m = as.length - i ∧ i ≤ as.length ∧ I i σ' H', ⟨_, rfl, Nat.zero_le _, h0⟩, ?_⟩
  rintro i m σ' H' ⟨rfl, hi, hI⟩
  by_cases hlt : i < as.length
  · refine .inr ⟨S.go i H' (hk _ _ _ hI) hlt, I (i + 1), fun σ2 H2 h => ⟨_, by omega, rfl, hlt, h⟩, fun x H'' y => ?_⟩
    obtain ⟨a, ha⟩ : ∃ a, as[i]? = some a := ⟨as[i], by simp [hlt]⟩
    obtain ⟨e, it⟩ := S.yld i a H' x H'' ha (hk _ _ _ hI) y
    exact hb i a σ' H' x H'' ha hI e it
  · have e : i = as.length := by omega
    subst e
    exact .inl ⟨S.stop H' (hk _ _ _ hI), hn _ _ hI⟩
/-- the turn of a loop: from I i to I (i + 1) -/
abbrev Turn1 (E : Ends) (g : TG) (tb : TS) (I : Nat → L2.St → Hp → Prop) (i : Nat) (x : V) (σ' : L2.St) (H' : Hp) : Prop := g x σ' H' fun σ2 H2 => tb { E with nx := I (i + 1), ct := I (i + 1), bk := E.nx } σ2 H2
/-- for x in t: of a tuple -/
theorem s_forT {as : List α} {enc : α → PyData} (h : Ev1 d tl σ H (D K (.tuple (as.map enc))))
    (k : ∀ H1, Ext d H H1 → ∃ I : Nat → L2.St → Hp → Prop, I 0 σ H1 ∧ (∀ i σ' H', I i σ' H' → Tk H1 H') ∧ (∀ i a σ' H' x, as[i]? = some a → I i σ' H' → D K (enc a) x H' → Turn1 E g tb I i x σ' H') ∧ ∀ σ' H', I as.length σ' H' → E.nx σ' H') : tFor (iTup K tl) g tb E σ H :=
  h _ fun v H1 e1 f => by
    cases f with
    | @tup p xs _ h1 h2 =>
      obtain ⟨I, i0, it, ib, ie⟩ := k H1 e1
      have len := dta_len h2
      refine ⟨p, rfl, ⟨xs, h1⟩, for_run (Keep := fun H' => Tk H1 H') (Rl := fun a b => b = a) (Item := fun a => D K (enc a)) ⟨fun i H' t hi => ⟨xs, xs[i]'(by omega), t.sqT h1, by simp [len, hi]⟩, fun H' t => ⟨xs, t.sqT h1, by omega⟩, fun i a H' x H'' ha t y => ?_⟩ I i0 it (fun i a σ' H' x H'' ha hI e it' => ?_) ie⟩
      · obtain ⟨rfl, y⟩ := y
        exact ⟨rfl, dta_at (DtA.tk t _ _ h2) ha (y xs (t.sqT h1))⟩
      · subst e
        exact ib i a σ' _ x ha hI it'
/-- for x in xs: of a list that stays -/
theorem s_forL {as : List α} {enc : α → PyData} (h : Ev1 d tl σ H (Ls K d (as.map enc)))
    (k : ∀ p H1, Ext d H H1 → LsX K (as.map enc) p H1 → d ≠ some p → ∃ I : Nat → L2.St → Hp → Prop, I 0 σ H1 ∧ (∀ i σ' H', I i σ' H' → LsX K (as.map enc) p H') ∧ (∀ i a σ' H' x, as[i]? = some a → I i σ' H' → D K (enc a) x H' → Turn1 E g tb I i x σ' H') ∧ ∀ σ' H', I as.length σ' H' → E.nx σ' H') : tFor (iList K tl) g tb E σ H :=
  h _ fun v H1 e1 f => by
    obtain ⟨p, rfl, np, fx⟩ := Ls.x f
    obtain ⟨I, i0, it, ib, ie⟩ := k p H1 e1 fx np
    obtain ⟨xs0, h0, _⟩ := fx
    refine ⟨p, rfl, ⟨xs0, .inl (.inl h0)⟩, for_run (Keep := fun H' => LsX K (as.map enc) p H') (Rl := fun a b => b = a) (Item := fun a => D K (enc a)) ⟨fun i H' t hi => ?_, fun H' t => ?_, fun i a H' x H'' ha t y => ?_⟩ I i0 it (fun i a σ' H' x H'' ha hI e it' => ?_) ie⟩
    · obtain ⟨xs, h1, h2⟩ := t
      have len := dta_len h2
      exact ⟨xs, xs[i]'(by omega), .inl (.inl h1), by simp [len, hi]⟩
    · obtain ⟨xs, h1, h2⟩ := t
      have len := dta_len h2
      exact ⟨xs, .inl (.inl h1), by omega⟩
    · obtain ⟨xs, h1, h2⟩ := t
      obtain ⟨rfl, y⟩ := y
      exact ⟨rfl, dta_at h2 ha (y xs (.inl (.inl h1)))⟩
    · subst e
      exact ib i a σ' _ x ha hI it'
/-- for i in range(n) -/
theorem s_forR {tr : TA} {n : Int} (h : EvA d tr σ H [D K (.int n)]) (hn : n ≤ 40000) (h0 : -40000 ≤ n)
    (k : ∀ H1, Ext d H H1 → ∃ I : Nat → L2.St → Hp → Prop, I 0 σ H1 ∧ (∀ i σ' H', i < n.toNat → I i σ' H' → Turn1 E g tb I i (.int (i : Int)) σ' H') ∧ ∀ σ' H', I n.toNat σ' H' → E.nx σ' H') : tFor (iRng1 tr) g tb E σ H :=
  h H (Wk.refl H) _ fun vs H1 e1 f => by
    obtain ⟨v, rfl, f1⟩ := all1 f
    cases f1
    obtain ⟨I, i0, ib, ie⟩ := k H1 e1
    refine ⟨n, rfl, by omega, by omega, for_run (as := List.range n.toNat) (Keep := fun _ => True) (Rl := fun a b => b = a) (Item := fun (a : Nat) v _ => v = .int (a : Int)) ⟨fun i H' _ hi => by rw [List.length_range] at hi; exact hi, fun H' _ => by rw [List.length_range]; exact Nat.le_refl _, fun i a H' x H'' ha _ y => ?_⟩ I i0 (fun _ _ _ _ => trivial) (fun i a σ' H' x H'' ha hI e it' => ?_) (fun σ' H' hI => ie σ' H' (by rw [List.length_range] at hI; exact hI))⟩
    · obtain ⟨rfl, rfl⟩ := y
      have ea : a = i := by
        rw [List.getElem?_range (by have := (List.getElem?_eq_some_iff.mp ha).1; simpa using this)] at ha
        exact (Option.some.inj ha).symm
      subst ea
      refine ⟨rfl, ?_⟩
      show V.int ((0 : Int) + (a : Int)) = _
      rw [Int.zero_add]
    · subst e it'
      have hi : i < n.toNat := by have := (List.getElem?_eq_some_iff.mp ha).1; simpa using this
      have ea : a = i := by
        rw [List.getElem?_range hi] at ha
        exact (Option.some.inj ha).symm
      subst ea
      exact ib a σ' _ hi hI
/-- for k, x in d.items(): the dict at p stays locked while the loop runs -/
theorem s_forI {m : List (Int × PyData)} {p : Addr} {j a1 a2 : Nat} (hj : σ[j]? = some (some (.ref p))) (hx : DdX K m p H)
    (k : ∀ kvs od, H p = some (.dK kvs) → DtK K H m kvs → ∃ I : Nat → L2.St → Hp → Prop, I 0 σ (upd H p (.frz od (.dK kvs))) ∧ (∀ i σ' H', I i σ' H' → H' p = some (.frz od (.dK kvs)) ∧ DtK K H' m kvs) ∧
      (∀ i key x σ' H' H'' v, m[i]? = some (key, x) → I i σ' H' → Ext none H' H'' → D K x v H'' → tb { E with nx := I (i + 1), ct := I (i + 1), bk := fun σ2 H2 => H2 p = some (.frz od (.dK kvs)) ∧ E.nx σ2 (upd H2 p (.dK kvs)), rt := fun v H2 => H2 p = some (.frz od (.dK kvs)) ∧ E.rt v (upd H2 p (.dK kvs)) } ((σ'.set a1 (some (.int key))).set a2 (some v)) H'') ∧
      ∀ σ' H', I m.length σ' H' → E.nx σ' (upd H' p (.dK kvs))) : tLock (tFor (iItems (tVar j)) (gTup K 2 (gCons (gName a1) (gCons (gName a2) gNil))) tb) E σ H := by
  obtain ⟨kvs, h1, h2⟩ := hx
  refine ⟨p, .dK kvs, h1, trivial, fun od => ⟨.ref p, hj, p, od, kvs, rfl, upd_same, ?_⟩⟩
  obtain ⟨I, i0, ik, ib, ie⟩ := k kvs od h1 h2
  refine for_run (as := m) (Keep := fun H' => H' p = some (.frz od (.dK kvs)) ∧ DtK K H' m kvs) (Rl := Ext none) (Item := fun a => D K (.tuple [.int a.1, a.2])) ⟨fun i H' t hi => ⟨t.1, by rw [t.2.length]; exact hi⟩, fun H' t => ⟨t.1, by rw [t.2.length]; exact Nat.le_refl _⟩, fun i a H' x H'' ha t y => ?_⟩ I i0 ik (fun i a σ' H' x H'' ha hI e it' => ?_) fun σ' H' hI => ⟨(ik _ _ _ hI).1, ie σ' H' hI⟩
  · obtain ⟨T, kk, v, y1, rfl, hT, rfl⟩ := y
    obtain ⟨e1, e2⟩ := t.2.at (k := a.1) (x := a.2) ha y1
    subst e1
    exact ⟨Ext.new hT, pair_dt hT (.int _) e2⟩
  · refine g2_run it' fun y z hy hz => ?_
    cases hy
    exact ib i a.1 a.2 σ' H' H'' z ha hI e hz
end
/-! ### lists that grow -/
section
variable {K : PySem.W.Frag} {d : Option Addr} {σ : L2.St} {H : Hp} {te tl : TE} {E : Ends} {tx : TS}
/-- xs.append(e) -/
theorem s_app {i : Nat} {p : Addr} {ds : List PyData} {x : PyData} (hi : σ[i]? = some (some (.ref p))) (np : d ≠ some p) (hx : LsX K ds p H) (hl : ds.length < 100000) (h : Ev d te σ H (D K x))
    (k : ∀ H1 H2, Ext d H H1 → Tk H H2 → (∀ a, a ≠ p → H2 a = H1 a) → LsX K (ds ++ [x]) p H2 → E.nx σ H2) : tDrop (tBM K "list" rAppend (tVar i) (tCons te tNil)) E σ H := by
  obtain ⟨xs, h1, h2⟩ := hx
  refine ⟨.ref p, hi, .inl ⟨rfl, xs, .inl (.inl h1)⟩, h H (Wk.refl H) _ fun v H1 e1 f => ?_⟩
  have l1 : H1 p = some (.lst xs) := e1.wk.lst np h1
  have t1 : Tk H1 (upd H1 p (.lst (xs ++ [v]))) := Tk.lst l1
  exact ⟨p, xs, v, rfl, rfl, l1, by rw [← h2.length]; exact sz_lt hl, k H1 _ e1 (e1.wk.tk.trans t1) (fun a ha => upd_ne ha) ⟨xs ++ [v], upd_same, (DtA.tk (e1.wk.tk.trans t1) _ _ h2).snoc (Dt.tk t1 _ _ f)⟩⟩
/-- xs.extend(ys), ys a list -/
theorem s_ext {i : Nat} {p : Addr} {ds es : List PyData} (hi : σ[i]? = some (some (.ref p))) (np : d ≠ some p) (hx : LsX K ds p H) (hl : ds.length + es.length ≤ 100000) (h : Ev d te σ H (Ls K d es))
    (k : ∀ H1 H2, Ext d H H1 → Tk H H2 → (∀ a, a ≠ p → H2 a = H1 a) → LsX K (ds ++ es) p H2 → E.nx σ H2) : tDrop (tBM K "list" rExtend (tVar i) (tCons te tNil)) E σ H := by
  obtain ⟨xs, h1, h2⟩ := hx
  refine ⟨.ref p, hi, .inl ⟨rfl, xs, .inl (.inl h1)⟩, h H (Wk.refl H) _ fun v H1 e1 f => ?_⟩
  obtain ⟨p', zs, rfl, _, g1, g2⟩ := f
  have l1 : H1 p = some (.lst xs) := e1.wk.lst np h1
  have t1 : Tk H1 (upd H1 p (.lst (xs ++ zs))) := Tk.lst l1
  exact ⟨p, p', xs, zs, rfl, rfl, l1, g1, by rw [← h2.length, ← g2.length]; exact sz_of hl, k H1 _ e1 (e1.wk.tk.trans t1) (fun a ha => upd_ne ha) ⟨xs ++ zs, upd_same, (DtA.tk (e1.wk.tk.trans t1) _ _ h2).append (DtA.tk t1 _ _ g2)⟩⟩
/-- d[k] = x -/
theorem s_dput {i : Nat} {p : Addr} {m : List (Int × PyData)} {key : Int} {x : PyData} {tk : TE} (hi : σ[i]? = some (some (.ref p))) (hx : DdX K m p H) (hl : m.length < 100000) (hv : Ev d te σ H (D K x)) (hk : ∀ H1, Ext d H H1 → Ev d tk σ H1 (D K (.int key)))
    (k : ∀ H1 H2, Ext d H H1 → Tk H H2 → (∀ a, a ≠ p → H2 a = H1 a) → DdX K (putD m key x) p H2 → E.nx σ H2) : sDPut (tVar i) tk te E σ H := by
  obtain ⟨kvs, h1, h2⟩ := hx
  refine hv H (Wk.refl H) _ fun v H1 e1 f => ⟨.ref p, hi, hk H1 e1 H1 (Wk.refl H1) _ fun u H2 e2 fk => ?_⟩
  cases fk
  have e := e1.trans e2
  have l1 : H2 p = some (.dK kvs) := e.at h1 (dK_not kvs)
  have t1 : Tk H2 (upd H2 p (.dK (putK kvs (.inl key) v))) := Tk.dK l1
  exact ⟨p, _, rfl, .inl ⟨kvs, .inl key, l1, rfl, by rw [h2.length]; exact sz_lt hl, rfl⟩, k H2 _ e (e.wk.tk.trans t1) (fun a ha => upd_ne ha) ⟨_, upd_same, DtK.put (DtK.tk (e.wk.tk.trans t1) h2) (Dt.tk (e2.wk.tk.trans t1) _ _ f)⟩⟩
/-- x, y = a, b -/
theorem q_par {i j : Nat} {ta tb : TE} {F G : Phi} [s : Sta d F] (ha : Ev d ta σ H F) (hb : Ev d tb σ H G) (k : ∀ u v H1, Ext d H H1 → F u H1 → G v H1 → tx E ((σ.set i (some u)).set j (some v)) H1) : tSeq (tPar i j (tCons ta (tCons tb tNil))) tx E σ H :=
  ha H (Wk.refl H) _ fun u H1 e1 f => hb H1 e1.wk _ fun v H2 e2 g => ⟨u, v, rfl, k u v H2 (e1.trans e2) (s.up u H1 H2 e2.wk f) g⟩
/-- two new empty lists -/
theorem q_two {i j : Nat} (hd : DOk d H) (k : ∀ p q H1, p ≠ q → H p = none → H q = none → d ≠ some p → d ≠ some q → Ext d H H1 → LsX K [] p H1 → LsX K [] q H1 → tx E ((σ.set i (some (.ref p))).set j (some (.ref q))) H1) : tSeq (tPar i j (tCons (tLst tNil) (tCons (tLst tNil) tNil))) tx E σ H := by
  refine ⟨Nat.zero_le _, fun p hp => ⟨Nat.zero_le _, fun q hq => ?_⟩⟩
  have ne : p ≠ q := fun z => by
    rw [z, upd_same] at hq
    cases hq
  have hq' : H q = none := by
    rw [upd_ne (Ne.symm ne)] at hq
    exact hq
  have e1 : Ext d H (upd H p (.lst [])) := Ext.new hp
  exact ⟨_, _, rfl, k p q _ ne hp hq' (hd.ne hp) (hd.ne hq') (e1.trans (Ext.new hq)) ⟨[], by rw [upd_ne ne, upd_same], .nil⟩ ⟨[], upd_same, .nil⟩⟩
/-- sorted([]) -/
theorem ev_sort0 (hd : DOk d H) (h : Ev d te σ H (Ls K d [])) : Ev d (tCB (rSortedI K) (tCons te tNil)) σ H (Ls K d []) := fun H1 e Q q => h H1 e _ fun v H2 e2 f => by
  obtain ⟨p, xs, rfl, np, h1, h2⟩ := f
  cases h2
  refine ⟨p, [], rfl, .inl (.inl h1), fun ns' l hp _ hl => ?_⟩
  cases List.perm_nil.mp hp
  exact q _ _ (e2.trans (Ext.new hl)) ⟨l, [], rfl, (hd.up (e.on e2)).ne hl, upd_same, .nil⟩
/-- enumerate(t) -/
theorem es_enumT {tr : TA} {α : Type} {as : List α} {enc : α → PyData} (h : EvA d tr σ H [D K (.tuple (as.map enc))]) : EvS d (iEnT K tr) σ H as.zipIdx (fun p => D K (.tuple [.int (p.2 : Int), enc p.1])) := fun H1 e1 R q =>
  h H1 e1 _ fun vs H2 e2 f => by
    obtain ⟨v, rfl, f1⟩ := all1 f
    cases f1 with
    | @tup p xs _ h1 h2 =>
      have len := dta_len h2
      refine ⟨p, xs, rfl, h1, q _ H2 e2 ⟨fun i H' hi e => ?_, fun H' e => ?_, fun i a H' x H'' ha e y => ?_⟩⟩
      · rw [List.length_zipIdx] at hi
        exact ⟨xs, xs[i]'(by omega), e.wk.sqT h1, by simp [show i < xs.length by omega]⟩
      · rw [List.length_zipIdx]
        exact ⟨xs, e.wk.sqT h1, by omega⟩
      · obtain ⟨T, y1, rfl, hT, rfl, k1⟩ := y
        rw [List.getElem?_zipIdx] at ha
        cases ea : as[i]? with
        | none => rw [ea] at ha; cases ha
        | some b =>
          rw [ea] at ha
          cases ha
          refine ⟨Ext.new hT, ?_⟩
          show Dt K (upd H' T (.tup [.int (i : Int), y1])) (.tuple [.int ((0 + i : Nat) : Int), enc b]) (.ref T)
          rw [Nat.zero_add]
          exact pair_dt hT (.int _) (dta_at (DtA.up e.wk _ _ h2) ea (k1 xs (e.wk.sqT h1)))
end
end Kp
set_option maxHeartbeats 410000
/-! KpM: the least difference in plain words. -/
namespace Kp
open L2 PySem PySem.Spec PyProof.Rows
def look (ts : List Thing) (k : Int) : Option Thing := ts.find? fun t => decide (t.id = k)
def same (t u : Thing) : Bool := decide (t.kind = u.kind) && decide ((t.nums.length : Int) = u.nums.length)
def isNew (a : List Thing) (u : Thing) : Bool := match look a u.id with
  | none => true
  | some t => !same t u
def chg1 (id : Int) (xs ys : List Int) : List Chg := ((xs.zip ys).zipIdx.filter fun p => !decide (p.1.1 = p.1.2)).map fun p => (id, (p.2 : Int), p.1.2)
def chgs (a : List Thing) (u : Thing) : List Chg := match look a u.id with
  | none => []
  | some t => if same t u = true then chg1 u.id t.nums u.nums else []
def diff (a b : Wd) : Df where
  tick := b.tick
  nid := b.nid
  luck := b.luck
  gone := (a.things.map Thing.id).filter fun k => !(look b.things k).isSome
  came := b.things.filter (isNew a.things)
  chg := b.things.flatMap (chgs a.things)
def thsM (ts : List Thing) : List (Int × PyData) := ts.map fun t => (t.id, t.d)
theorem thsM_get (ts : List Thing) (k : Int) : getD? (thsM ts) k = (look ts k).map Thing.d := by
  unfold getD? thsM look
  induction ts with
  | nil => rfl
  | cons t ts ih =>
    rw [List.map_cons, List.find?_cons, List.find?_cons]
    cases decide (t.id = k) with
    | true => rfl
    | false => exact ih
theorem thsM_has (ts : List Thing) (k : Int) : hasD (thsM ts) k = (look ts k).isSome := by
  rw [has_get, thsM_get, Option.isSome_map]
theorem putD_new {m : List (Int × PyData)} {k : Int} {x : PyData} (h : ∀ p ∈ m, p.1 ≠ k) : putD m k x = m ++ [(k, x)] := by
  unfold putD
  have e : hasD m k = false := by
    unfold hasD
    rw [List.any_eq_false]
    intro p hp
    simp [h p hp]
  rw [e, if_neg (by decide)]
theorem putAll_nodup : ∀ (ps m : List (Int × PyData)), (ps.map Prod.fst).Nodup → (∀ p ∈ ps, ∀ q ∈ m, q.1 ≠ p.1) → putAll m ps = m ++ ps
  | [], m, _, _ => (List.append_nil m).symm
  | p :: ps, m, hn, hd => by
    (obtain ⟨h1, h2⟩ := List.nodup_cons.mp hn)
    show putAll (putD m p.1 p.2) ps = _
    rw [putD_new (hd p List.mem_cons_self), putAll_nodup ps _ h2, List.append_assoc]
    · rfl
    · intro q hq r hr
      (rcases List.mem_append.mp hr with hr | hr)
      · exact hd q (List.mem_cons_of_mem _ hq) r hr
      · rw [List.mem_singleton] at hr
        subst hr
        intro e
        exact h1 (List.mem_map.mpr ⟨q, hq, e.symm⟩)
theorem asc_nodup {ns : List Int} (h : Asc ns) : ns.Nodup := h.imp fun h => Int.ne_of_lt h
theorem ThsOk.ids {n : Int} {ts : List Thing} (h : ThsOk n ts) : Asc (ts.map Thing.id) := (List.pairwise_append.mp h.asc).1
theorem ThsOk.below {n : Int} {ts : List Thing} (h : ThsOk n ts) : ∀ t ∈ ts, t.id < n := fun t ht => (List.pairwise_append.mp h.asc).2.2 _ (List.mem_map.mpr ⟨t, ht, rfl⟩) n (by simp)
theorem thsM_all {ts : List Thing} (h : Asc (ts.map Thing.id)) : putAll [] (thsM ts) = thsM ts := by
  rw [putAll_nodup _ [] _ (fun _ _ _ hq => nomatch hq), List.nil_append]
  show ((ts.map fun t => (t.id, t.d)).map Prod.fst).Nodup
  rw [List.map_map]
  exact asc_nodup h
theorem look_some {ts : List Thing} {k : Int} {t : Thing} (h : look ts k = some t) : t ∈ ts ∧ t.id = k := ⟨List.mem_of_find?_eq_some h, of_decide_eq_true (List.find?_some (p := fun t : Thing => decide (t.id = k)) h)⟩
theorem look_none {ts : List Thing} {k : Int} (h : look ts k = none) : ∀ t ∈ ts, t.id ≠ k := fun t ht e => by
  have := List.find?_eq_none.mp h t ht
  simp [e] at this
theorem isNew_or (a : List Thing) (u : Thing) : isNew a u = (!(look a u.id).isSome || match look a u.id with | some t => !same t u | none => true) := by
  unfold isNew
  cases look a u.id <;> rfl
theorem chgs_new {a : List Thing} {u : Thing} (h : isNew a u = true) : chgs a u = [] := by
  unfold isNew at h
  unfold chgs
  cases e : look a u.id with
  | none => rfl
  | some t =>
    rw [e] at h
    have h' : same t u = false := by simpa using h
    show (if same t u = true then _ else _) = _
    rw [h', if_neg (by decide)]
theorem isOld {a : List Thing} {u : Thing} (h : isNew a u = false) : ∃ t, look a u.id = some t ∧ same t u = true ∧ chgs a u = chg1 u.id t.nums u.nums := by
  unfold isNew at h
  unfold chgs
  cases e : look a u.id with
  | none => (rw [e] at h; cases h)
  | some t =>
    rw [e] at h
    have h' : same t u = true := by simpa using h
    exact ⟨t, rfl, h', if_pos h'⟩
theorem same_iff {t u : Thing} : same t u = true ↔ t.kind = u.kind ∧ t.nums.length = u.nums.length := by
  unfold same
  (rw [Bool.and_eq_true, decide_eq_true_eq, decide_eq_true_eq])
  constructor
  · rintro ⟨a, b⟩
    exact ⟨a, by omega⟩
  · rintro ⟨a, b⟩
    exact ⟨a, by omega⟩
/-- the changes told over the second numbers alone -/
theorem chg_enum (id : Int) : ∀ (xs ys : List Int) (k : Nat), xs.length = ys.length → ((ys.zipIdx k).filter fun p => !decide (p.1 = xs.getD (p.2 - k) 0)).map (fun p => (id, (p.2 : Int), p.1)) = (((xs.zip ys).zipIdx k).filter fun p => !decide (p.1.1 = p.1.2)).map (fun p => (id, (p.2 : Int), p.1.2))
  | [], [], _, _ => rfl
  | x :: xs, y :: ys, k, h => by
    have ih := chg_enum id xs ys (k + 1) (by simpa using h)
    have e : (ys.zipIdx (k + 1)).filter (fun p => !decide (p.1 = (x :: xs).getD (p.2 - k) 0)) = (ys.zipIdx (k + 1)).filter (fun p => !decide (p.1 = xs.getD (p.2 - (k + 1)) 0)) := by
      (refine List.filter_congr fun p hp => ?_)
      have := (List.mem_zipIdx hp).1
      have e2 : p.2 - k = (p.2 - (k + 1)) + 1 := by omega
      rw [e2]
      rfl
    rw [List.zip_cons_cons, List.zipIdx_cons, List.zipIdx_cons, List.filter_cons, List.filter_cons, e]
    have e3 : (x :: xs).getD (k - k) 0 = x := by rw [Nat.sub_self]; rfl
    show List.map _ (if (!decide (y = (x :: xs).getD (k - k) 0)) = true then _ else _) = List.map _ (if (!decide (x = y)) = true then _ else _)
    rw [e3, show decide (y = x) = decide (x = y) by rw [decide_eq_decide]; exact eq_comm]
    cases decide (x = y) with
    | true => exact ih
    | false =>
      show (id, (k : Int), y) :: List.map _ _ = (id, (k : Int), y) :: List.map _ _
      rw [ih]
theorem take_flat {α β : Type} {f : α → List β} {as : List α} {i : Nat} {a : α} (h : as[i]? = some a) : (as.take (i + 1)).flatMap f = (as.take i).flatMap f ++ f a := by
  rw [List.take_add_one, h, List.flatMap_append]
  simp
theorem chg1_len (id : Int) (xs ys : List Int) : (chg1 id xs ys).length ≤ ys.length := by
  unfold chg1
  rw [List.length_map]
  refine Nat.le_trans (List.length_filter_le _ _) ?_
  rw [List.length_zipIdx, List.length_zip]
  omega
theorem chgs_len (a : List Thing) (u : Thing) (h : u.nums.length ≤ 8) : (chgs a u).length ≤ 8 := by
  unfold chgs
  cases look a u.id with
  | none => exact Nat.zero_le _
  | some t =>
    show (if same t u = true then chg1 u.id t.nums u.nums else []).length ≤ 8
    split
    · exact Nat.le_trans (chg1_len _ _ _) h
    · exact Nat.zero_le _
theorem flat_len {α β : Type} {f : α → List β} {n : Nat} : ∀ {as : List α}, (∀ a ∈ as, (f a).length ≤ n) → (as.flatMap f).length ≤ n * as.length
  | [], _ => Nat.zero_le _
  | a :: as, h => by
    have h1 := h a List.mem_cons_self
    have h2 := flat_len (as := as) fun b hb => h b (List.mem_cons_of_mem _ hb)
    rw [List.flatMap_cons, List.length_append, List.length_cons, Nat.mul_succ]
    omega
end Kp
set_option maxHeartbeats 410000
/-! Kp9: difference_in. -/
namespace Kp
open L2 PySem PySem.Spec PyProof.Rows
section
variable {K : PySem.W.Frag} {d : Option Addr} {σ : L2.St} {H H1 H2 Hs : Hp} {te ta tb : TE} {E : Ends} {tx : TS}
theorem ext_but {p : Addr} (e : Ext d Hs H1) (hp : Hs p = none) (h : ∀ a, a ≠ p → H2 a = H1 a) : Ext d Hs H2 := fun a o ha => by
  rw [h a (ne_of_none ha hp)]
  exact e a o ha
theorem ne_dl {m : List (Int × PyData)} {ds : List PyData} {p q : Addr} (h1 : DdX K m p H) (h2 : LsX K ds q H) : p ≠ q := fun z => by
  obtain ⟨kvs, h1, _⟩ := h1
  obtain ⟨xs, h2, _⟩ := h2
  rw [z, h2] at h1
  cases h1
theorem q_forI {tb' : TS} {m : List (Int × PyData)} {p : Addr} {j a1 a2 : Nat} (hj : σ[j]? = some (some (.ref p))) (hx : DdX K m p H)
    (k : ∀ kvs od, H p = some (.dK kvs) → DtK K H m kvs → ∃ I : Nat → L2.St → Hp → Prop, I 0 σ (upd H p (.frz od (.dK kvs))) ∧ (∀ i σ' H', I i σ' H' → H' p = some (.frz od (.dK kvs)) ∧ DtK K H' m kvs) ∧
      (∀ (N : L2.St → Hp → Prop) (bk : L2.St → Hp → Prop) (rt : V → Hp → Prop) (i : Nat) key x σ' H' H'' v, m[i]? = some (key, x) → I i σ' H' → Ext none H' H'' → D K x v H'' → (∀ σ' H', I (i + 1) σ' H' → N σ' H') → tb' { nx := N, ct := N, bk := bk, rt := rt } ((σ'.set a1 (some (.int key))).set a2 (some v)) H'') ∧
      ∀ σ' H', I m.length σ' H' → tx E σ' (upd H' p (.dK kvs))) : tSeq (tLock (tFor (iItems (tVar j)) (gTup K 2 (gCons (gName a1) (gCons (gName a2) gNil))) tb')) tx E σ H :=
  s_forI (E := { E with nx := tx E }) hj hx fun kvs od h1 h2 => by
    obtain ⟨I, i0, ik, ib, ie⟩ := k kvs od h1 h2
    exact ⟨I, i0, ik, fun i key x σ' H' H'' v hm hI e hd => ib _ _ _ i key x σ' H' H'' v hm hI e hd fun _ _ h => h, ie⟩
theorem DdX.but {m : List (Int × PyData)} {q p : Addr} (e : Ext d H H1) (t : Tk H H2) (h : ∀ a, a ≠ p → H2 a = H1 a) (ne : q ≠ p) (hx : DdX K m q H) : DdX K m q H2 := by
  obtain ⟨kvs, h1, h2⟩ := hx
  exact ⟨kvs, (h q ne).trans (e.at h1 (dK_not kvs)), DtK.tk t h2⟩
theorem LsX.but {ds : List PyData} {q p : Addr} (e : Ext none H H1) (t : Tk H H2) (h : ∀ a, a ≠ p → H2 a = H1 a) (ne : q ≠ p) (hx : LsX K ds q H) : LsX K ds q H2 := by
  obtain ⟨xs, h1, h2⟩ := hx
  exact ⟨xs, (h q ne).trans (e.at0 h1), DtA.tk t _ _ h2⟩
theorem q_pair1 {i j : Nat} {F : Phi} {G : Hp → Phi} (ha : Ev1 d ta σ H F) (hb : ∀ H1, Ext d H H1 → Ev1 d tb σ H1 (G H1)) (k : ∀ u v H1 H2 H3, Ext d H H1 → F u H1 → Ext d H1 H2 → G H1 v H2 → Ext d H2 H3 → tx E ((σ.set i (some u)).set j (some v)) H3) :
    tSeq (tAsg (tTup (tCons ta (tCons tb tNil))) (gTup K 2 (gCons (gName i) (gCons (gName j) gNil)))) tx E σ H :=
  ha _ fun u H1 e1 f => hb H1 e1 _ fun v H2 e2 g => ⟨show 2 ≤ sizeLine by decide, fun p hp => ⟨p, [u, v], rfl, .inl (.inl upd_same), rfl, _, _, rfl, _, _, rfl, rfl, k u v H1 H2 _ e1 f e2 g (Ext.new hp)⟩⟩
end
section
variable {P : Program} {w : World} {K : PySem.W.Frag} {mg : Str → Option Value} {base : Heap} {CK CW gE : Addr} {d : Option Addr} {σ : L2.St} {H : Hp} {te ta : TE}
theorem thsM_at {ts : List Thing} {i : Nat} {key : Int} {x : PyData} (h : (thsM ts)[i]? = some (key, x)) : ∃ u, ts[i]? = some u ∧ key = u.id ∧ x = u.d := by
  unfold thsM at h
  rw [List.getElem?_map] at h
  cases e : ts[i]? with
  | none => (rw [e] at h; cases h)
  | some u =>
    rw [e] at h
    cases h
    exact ⟨u, rfl, rfl, rfl⟩
theorem d3 {t : Thing} {v : V} {H : Hp} (h : D K t.d v H) : D K (.tuple [.int t.id, .str t.kind, .tuple (t.nums.map .int)]) v H := h
theorem ev_d3 {t : Thing} (h : Ev d te σ H (D K t.d)) : Ev d te σ H (D K (.tuple [.int t.id, .str t.kind, .tuple (t.nums.map .int)])) := h
theorem ev_ths (h : Ev d te σ H (D K (thsD ts))) : Ev d te σ H (D K (.tuple (ts.map Thing.d))) := h
theorem sc_difference_in : FnScope ["one", "other", "thing", "old", "new", "came", "changed", "key", "numbers", "gone", "at", "number"] ["one", "other"] (C8.fnScope s_difference_in) := C8.fnScope_by (by decide +kernel)
abbrev sp_difference_in (K : PySem.W.Frag) (CW : Addr) : Sp := Pu (fun p : Wd × Wd => p.1.Ok ∧ p.2.Ok) (fun p => [Wp K CW p.1, Wp K CW p.2]) (fun p => D K (diff p.1 p.2).d)
theorem c_difference_in (T : Txt K mg CK CW gE) : C8.Cal P w K mg base 2 "difference_in" (sp_difference_in K CW) [] := by
  refine cal_of T.d_difference_in sc_difference_in (fun _ => rfl) fun cdv f A outer s H vs Q E hr p hp _ hA q => ?_
  obtain ⟨v0, v1, rfl, h0, h1⟩ := all2 hA
  obtain ⟨a, b⟩ := p
  have h0 : Wp K CW a v0 H := h0
  have h1 : Wp K CW b v1 H := h1
  obtain ⟨ha, hb⟩ : a.Ok ∧ b.Ok := hp
  have fa := ha.ths.few
  have fb := hb.ths.few
  refine ⟨_, (pss_cons (ps_asg (pe_tup (pa_cons (pe_dc (own := [("thing", 2)]) rfl sc_difference_in.nd (pi_tup (SlX.pe_sl (pv 0))) (blkOk_by (own := [("thing", 2)]) (N := ["one", "other", "thing", "old", "new", "came", "changed", "key", "numbers", "gone", "at", "number"]) (sc := C8.fnScope (topS 53)) (by decide +kernel)) (fun _ _ _ _ _ => (pg_name (i := 2) sc_difference_in.nd rfl (by first | exact Or.inl rfl | exact Or.inr rfl))) (fun _ _ _ _ _ => pts_nil) (fun _ _ _ _ _ => (pe_ix (r := rIxT K) ix_tup (pv 2) pe_int (fun _ _ => rfl))) (fun _ _ _ _ _ => (pv 2))) (pa_cons (pe_dc (own := [("thing", 2)]) rfl sc_difference_in.nd (pi_tup (SlX.pe_sl (pv 1))) (blkOk_by (own := [("thing", 2)]) (N := ["one", "other", "thing", "old", "new", "came", "changed", "key", "numbers", "gone", "at", "number"]) (sc := C8.fnScope (topS 53)) (by decide +kernel)) (fun _ _ _ _ _ => (pg_name (i := 2) sc_difference_in.nd rfl (by first | exact Or.inl rfl | exact Or.inr rfl))) (fun _ _ _ _ _ => pts_nil) (fun _ _ _ _ _ => (pe_ix (r := rIxT K) ix_tup (pv 2) pe_int (fun _ _ => rfl))) (fun _ _ _ _ _ => (pv 2))) pa_nil))) (pg_tup rfl (pgs_cons (pg_name (i := 3) sc_difference_in.nd rfl (by first | exact Or.inl rfl | exact Or.inr rfl)) (pgs_cons (pg_name (i := 4) sc_difference_in.nd rfl (by first | exact Or.inl rfl | exact Or.inr rfl)) pgs_nil)))) (pss_cons (ps_par (i := 5) (j := 6) rfl sc_difference_in.nd rfl rfl (by decide) rfl rfl (pa_cons (pe_lst pa_nil) (pa_cons (pe_lst pa_nil) pa_nil)) (by rfl)) (pss_cons (ps_lock (ps_for PassesOwn.never rfl (pi_items (pv 4)) (pg_tup rfl (pgs_cons (pg_name (i := 7) sc_difference_in.nd rfl (by first | exact Or.inl rfl | exact Or.inr rfl)) (pgs_cons (pg_name (i := 2) sc_difference_in.nd rfl (by first | exact Or.inl rfl | exact Or.inr rfl)) pgs_nil))) (pss_one (ps_if (PW.pt (pw_or (pt_cmp (pc_dnotin (hu_of hr) (pv 7) (pv 3)) rfl) (pw_or1 (pt_not (pt_val (C8.pe_c (c_is_same_sort T) hr (by decide) (by rfl) (pa_cons (pe_dget (hu_of hr) (pv 3) (pv 7) (fun _ _ => rfl)) (pa_cons (pv 2) pa_nil)))))))) (pss_one (ps_expr (pe_bm PySem.F.plainAttrs_list PySem.F.slot_list_append PySem.F.type_list_append mt_append (pv 5) (pa_cons (pv 2) pa_nil)))) (pss_cons (ps_set (i := 8) sc_difference_in.nd rfl (by first | exact Or.inl rfl | exact Or.inr rfl) (pe_ix ix_tup (pe_dget (hu_of hr) (pv 3) (pv 7) (fun _ _ => rfl)) pe_int (fun _ _ => rfl))) (pss_one (ps_expr (pe_bm PySem.F.plainAttrs_list PySem.F.slot_list_extend PySem.F.type_list_extend mt_extend (pv 6) (pa_cons (pe_lc (own := [("at", 10), ("number", 11)]) (g := gTup K 2 (gCons (gName 10) (gCons (gName 11) gNil))) rfl sc_difference_in.nd (pi_enumT (by rfl) T.b_enumerate (pa_cons (pe_ix ix_tup (pv 2) pe_int (fun _ _ => rfl)) pa_nil)) (blkOk_by (own := [("at", 10), ("number", 11)]) (N := ["one", "other", "thing", "old", "new", "came", "changed", "key", "numbers", "gone", "at", "number"]) (sc := C8.fnScope (topS 53)) (by decide +kernel)) (fun _ _ _ _ _ => (pg_tup rfl (pgs_cons (pg_name (i := 10) sc_difference_in.nd rfl (by first | exact Or.inl rfl | exact Or.inr rfl)) (pgs_cons (pg_name (i := 11) sc_difference_in.nd rfl (by first | exact Or.inl rfl | exact Or.inr rfl)) pgs_nil)))) (fun _ _ _ _ _ => (pts_one (pt_cmpR (r := rNeD K) (op_neD hr.units) (pv 11) (pe_ix (r := rIxT K) ix_tup (pv 8) (pv 10) (fun _ _ => rfl)) (nomark _)))) (fun _ _ _ _ _ => (pe_tup (pa_cons (pv 7) (pa_cons (pv 10) (pa_cons (pv 11) pa_nil)))))) pa_nil))))))))) (pss_cons (ps_set (i := 9) sc_difference_in.nd rfl (by first | exact Or.inl rfl | exact Or.inr rfl) (pe_callTy call_tuple_of (by rfl) T.b_tuple bt_tuple (pa_cons (pe_lock (pe_lc (own := [("key", 7)]) rfl sc_difference_in.nd (pi_keys (pv 3)) (blkOk_by (own := [("key", 7)]) (N := ["one", "other", "thing", "old", "new", "came", "changed", "key", "numbers", "gone", "at", "number"]) (sc := C8.fnScope (topS 53)) (by decide +kernel)) (fun _ _ _ _ _ => (pg_name (i := 7) sc_difference_in.nd rfl (by first | exact Or.inl rfl | exact Or.inr rfl))) (fun _ _ _ _ _ => (pts_one (pt_cmp (pc_dnotin (hu_of hr) (pv 7) (pv 4)) rfl))) (fun _ _ _ _ _ => (pv 7)))) pa_nil))) (pss_one (ps_ret (pe_tup (pa_cons (SlX.pe_sl (pv 1)) (pa_cons (SlX.pe_sl (pv 1)) (pa_cons (SlX.pe_sl (pv 1)) (pa_cons (pv 9) (pa_cons (pe_callTy call_tuple_of (by rfl) T.b_tuple bt_tuple (pa_cons (pv 5) pa_nil)) (pa_cons (pe_callTy call_tuple_of (by rfl) T.b_tuple bt_tuple (pa_cons (pv 6) pa_nil)) pa_nil))))))))))))), ?_⟩
  have one : ∀ {x : Wd} {i : Nat} {v : V} {H' : Hp} {σ' : L2.St} {vs : List Nat} {j : Nat}, x.Ok → σ'[i]? = some (some v) → Wp K CW x v H' → (∀ y, wipe ((wipe σ' vs).set j (some y)) vs = wipe σ' vs) → (∀ y, ((wipe σ' vs).set j (some y))[j]? = some (some y)) →
      Ev1 none (tDc (iTup K (SlX.tSl K (tVar i) "own_things")) (gName j) tYes (tOp (rIxT K) (tVar j) (tC (.int 0))) (tVar j) vs) σ' H' (fun v H1 => ∃ p, v = .ref p ∧ H' p = none ∧ DdX K (thsM x.things) p H1) := by
    intro x i v H' σ' vs j hx hi hw' hw hj
    have e : thsM x.things = putAll [] (x.things.map fun t => (t.id, t.d)) := (thsM_all hx.ths.ids).symm
    rw [e]
    have hf := hx.ths.few
    exact ev_dc1y (Item := fun t : Thing => D K t.d) (fun t : Thing => t.id) (fun t : Thing => t.d) (by omega) (es_tup (ev_ths (ev_wThs T (ev_vW hi hw')))) (fun t _ y H1 e it => at0 (ev_vD (hj y) (d3 it))) (fun t _ y H1 e it => ev_vD (hj y) it) hw
  refine q_pair1 (one ha rfl h0 (fun _ => rfl) (fun _ => rfl)) (fun H1 e1 => one hb rfl (up e1 h1) (fun _ => rfl) (fun _ => rfl)) fun u v H1 H2 H3 e1 f1 e2 f2 e3 => ?_
  obtain ⟨po, rfl, no, f1⟩ := f1
  obtain ⟨pn, rfl, nn, f2⟩ := f2
  have nn0 : H pn = none := e1.free nn
  have ne : po ≠ pn := fun z => by
    obtain ⟨kvs, z1, _⟩ := f1
    rw [z, nn] at z1
    cases z1
  replace f1 := DdX.up (e2.trans e3) f1
  replace f2 := DdX.up e3 f2
  have eH := (e1.trans e2).trans e3
  clear e1 e2 e3
  refine q_two (K := K) (d := none) (DOk.no _) fun p5 p6 H4 n56 n5 n6 _ _ e4 l5 l6 => ?_
  have n5 : H p5 = none := eH.free n5
  have n6 : H p6 = none := eH.free n6
  replace f1 := DdX.up e4 f1
  replace f2 := DdX.up e4 f2
  replace eH := eH.trans e4
  clear e4
  refine q_forI (m := thsM b.things) (p := pn) rfl f2 fun kvs od hk hx => ?_
  have npo : po ≠ pn := ne
  have n5n : p5 ≠ pn := (ne_dl f2 l5).symm
  have n6n : p6 ≠ pn := (ne_dl f2 l6).symm
  have tl : Tk H4 (upd H4 pn (.frz od (.dK kvs))) := (Wk.lock (d := none) hk).tk
  refine ⟨fun i σ' H' => (∃ x2 x7 x8 x9 x10 x11, σ' = [some v0, some v1, x2, some (.ref po), some (.ref pn), some (.ref p5), some (.ref p6), x7, x8, x9, x10, x11]) ∧ Ext none H H' ∧ H' pn = some (.frz od (.dK kvs)) ∧ DtK K H' (thsM b.things) kvs ∧ DdX K (thsM a.things) po H' ∧ LsX K (((b.things.take i).filter (isNew a.things)).map Thing.d) p5 H' ∧ LsX K (((b.things.take i).flatMap (chgs a.things)).map chD) p6 H',
    ⟨⟨_, _, _, _, _, _, rfl⟩, eH.mut nn0, upd_same, DtK.tk tl hx, DdX.tk tl (upd_ne npo) f1, LsX.tk tl (upd_ne n5n) l5, LsX.tk tl (upd_ne n6n) l6⟩, fun i σ' H' h => ⟨h.2.2.1, h.2.2.2.1⟩, ?_, ?_⟩
  · rintro N bk rt i key x σ' H' H'' v hm ⟨⟨x2, x7, x8, x9, x10, x11, rfl⟩, g1, g2, g3, g4, g5, g6⟩ e hv hN
    obtain ⟨u, hu, rfl, rfl⟩ := thsM_at hm
    have um : u ∈ b.things := List.mem_of_getElem? hu
    have uok : u.Ok := hb.ths.ok u um
    replace g1 := g1.trans e
    replace g2 := e.at0 g2
    replace g3 := DtK.tk e.wk.tk g3
    replace g4 := DdX.up e g4
    replace g5 := LsX.up e (fun z => nomatch z) g5
    replace g6 := LsX.up e (fun z => nomatch z) g6
    clear e
    have len5 : ((b.things.take i).filter (isNew a.things)).length ≤ 12 := Nat.le_trans (List.length_filter_le _ _) (by rw [List.length_take]; omega)
    have len6 : ((b.things.take i).flatMap (chgs a.things)).length ≤ 96 := Nat.le_trans (flat_len (n := 8) fun u hu => chgs_len _ _ (hb.ths.ok u (List.mem_of_mem_take hu)).n8) (by rw [List.length_take]; omega)
    refine s_if (P := (· = isNew a.things u)) (d := none) ?_ (fun hP H1 e1 => ?_) (fun hP H1 e1 => ?_)
    · cases el : look a.things u.id with
      | none =>
        have e : isNew a.things u = (true || true) := by unfold isNew; rw [el]; rfl
        rw [e]
        exact et_or ((et_B (et_dnotin (ev_vM rfl g4.dd) (ev_vD rfl (.int _)))).is (by rw [thsM_has, el]; rfl)) (fun z => nomatch z)
      | some t =>
        have e : isNew a.things u = (false || !same t u) := by unfold isNew; rw [el]; rfl
        rw [e]
        have tok : t.Ok := ha.ths.ok t (look_some el).1
        exact et_or ((et_B (et_dnotin (ev_vM rfl g4.dd) (ev_vD rfl (.int _)))).is (by rw [thsM_has, el]; rfl)) fun _ => et_not (et_B (ev_callP (t, u) ⟨tok, uok⟩ (ea_cons (ev_dget (ev_vM rfl g4.dd) (ev_vD rfl (.int _)) (by rw [thsM_get, el]; rfl)) (ea_cons (ev_vD rfl hv) ea_nil))))
    · replace hP : isNew a.things u = true := (show true = isNew a.things u from hP).symm
      replace hv := up e1 hv
      refine s_app (d := none) (ds := ((b.things.take i).filter (isNew a.things)).map Thing.d) rfl (fun z => nomatch z) (LsX.up e1 (fun z => nomatch z) g5) (by rw [List.length_map]; omega) (ev_vD rfl hv) fun Ha Hb ea ta same5 l5' => hN _ _ ?_
      have ee := e1.trans ea
      have tt : Tk H'' Hb := e1.wk.tk.trans ta
      refine ⟨⟨_, _, _, _, _, _, rfl⟩, ext_but (g1.trans ee) n5 same5, (same5 pn n5n.symm).trans (ee.at0 g2), DtK.tk tt g3, DdX.but ee tt same5 (ne_dl g4 g5) g4, ?_, ?_⟩
      · rw [take_filter hu, if_pos hP, List.map_append]
        exact l5'
      · rw [take_flat hu, chgs_new hP, List.append_nil]
        exact LsX.but ee tt same5 n56.symm g6
    · replace hP : isNew a.things u = false := (show false = isNew a.things u from hP).symm
      obtain ⟨t, el, hs, ec⟩ := isOld hP
      have hl : t.nums.length = u.nums.length := (same_iff.mp hs).2
      have u8 := uok.n8
      refine q_set (d := none) (F := D K (.tuple (t.nums.map .int))) (at2 (ev_d3 (t := t) (ev_dget (ev_vM rfl (up e1 g4.dd)) (ev_vD rfl (.int _)) (by rw [thsM_get, el]; rfl)))) fun w H2 e2 hw => ?_
      replace hv := up (e1.trans e2) hv
      have e12 := e1.trans e2
      have es : (chg1 u.id t.nums u.nums).map chD = (u.nums.zipIdx.filter fun p => !decide (p.1 = t.nums.getD p.2 0)).map fun p => chD (u.id, (p.2 : Int), p.1) := by
        have z := chg_enum u.id t.nums u.nums 0 hl
        unfold chg1
        rw [← z, List.map_map]
        rfl
      refine s_ext (d := none) (ds := ((b.things.take i).flatMap (chgs a.things)).map chD) (es := (chg1 u.id t.nums u.nums).map chD) rfl (fun z => nomatch z) (LsX.up e12 (fun z => nomatch z) g6) (by rw [List.length_map, List.length_map]; have := chg1_len u.id t.nums u.nums; omega) ?_ fun Ha Hb ea ta same6 l6' => hN _ _ ?_
      · rw [es]
        refine ev_lc2 (p := fun p : Int × Nat => .int (p.2 : Int)) (q := fun p : Int × Nat => .int p.1) (fun p : Int × Nat => !decide (p.1 = t.nums.getD p.2 0)) (fun p : Int × Nat => chD (u.id, (p.2 : Int), p.1)) (DOk.no _) (by rw [List.length_zipIdx]; omega) (es_enumT (ea_cons (at2 (ev_vD rfl (d3 hv))) ea_nil)) (fun pp hp x y H3 e3 hx hy => ?_) (fun pp hp x y H3 e3 hx hy _ => ?_)
        · have lt : pp.2 < t.nums.length := by
            have := List.snd_lt_of_mem_zipIdx hp
            omega
          exact et_test (ev_neI (ev_vD rfl hy) (ev_ixT (ev_vD rfl (upw e3 hw)) (ev_vD rfl hx) (atI_nat' (by rw [List.getElem?_map, List.getD_eq_getElem?_getD, List.getElem?_eq_getElem lt]; rfl))))
        · exact ev_tup (ei_cons (ev_vD rfl (.int u.id)) (ei_cons (ev_vD rfl hx) (ei_cons (ev_vD rfl hy) ei_nil))) (sml rfl)
      have ee := e12.trans ea
      have tt : Tk H'' Hb := e12.wk.tk.trans ta
      refine ⟨⟨_, _, _, _, _, _, rfl⟩, ext_but (g1.trans ee) n6 same6, (same6 pn n6n.symm).trans (ee.at0 g2), DtK.tk tt g3, DdX.but ee tt same6 (ne_dl g4 g6) g4, ?_, ?_⟩
      · rw [take_filter hu, hP, if_neg (by decide), List.append_nil]
        exact LsX.but ee tt same6 n56 g5
      · rw [take_flat hu, ec, List.map_append]
        exact l6'
  · rintro σ' H' ⟨⟨x2, x7, x8, x9, x10, x11, rfl⟩, g1, g2, g3, g4, g5, g6⟩
    have lm : (thsM b.things).length = b.things.length := List.length_map _
    rw [lm, List.take_length] at g5 g6
    have tu : Tk H' (upd H' pn (.dK kvs)) := (Wk.unlock (d := none) g2).tk
    have k1 : Ext none H (upd H' pn (.dK kvs)) := g1.mut nn0
    have k3 : DdX K (thsM b.things) pn (upd H' pn (.dK kvs)) := ⟨kvs, upd_same, DtK.tk tu g3⟩
    have k4 := DdX.tk tu (upd_ne npo) g4
    have k5 := LsX.tk tu (upd_ne n5n) g5
    have k6 := LsX.tk tu (upd_ne n6n) g6
    generalize upd H' pn (.dK kvs) = Hf at k1 k3 k4 k5 k6
    have eg : ((thsM a.things).filter fun p => !hasD (thsM b.things) p.1).map (fun p => PyData.int p.1) = (diff a b).gone.map PyData.int := by
      unfold diff thsM
      rw [List.filter_map, List.filter_map, List.map_map, List.map_map]
      refine congrArg (List.map _) (List.filter_congr fun t _ => ?_)
      show (!hasD (thsM b.things) t.id) = !(look b.things t.id).isSome
      rw [thsM_has]
    refine q1_set (d := none) (F := D K (.tuple ((diff a b).gone.map PyData.int))) ?_ fun v9 H5 e5 h9 => ?_
    · rw [← eg]
      refine ev1_tupL (ev1_keys (fun k => !hasD (thsM b.things) k) (fun k => .int k) (DOk.no _) (by rw [show (thsM a.things).length = a.things.length from List.length_map _]; omega) k4 rfl (fun pp _ H1 e => ?_) (fun pp _ H1 e _ => ev_vD rfl (.int _)))
      exact et_B (et_dnotin (ev_vM rfl (upw e k3.dd)) (ev_vD rfl (.int _)))
    have h1' := up (k1.trans e5) h1
    replace k5 := LsX.up e5 (fun z => nomatch z) k5
    replace k6 := LsX.up e5 (fun z => nomatch z) k6
    exact s_ret (d := none) (ev_tup (ei_cons (ev_wTick T (ev_vW rfl h1')) (ei_cons (ev_wNid T (ev_vW rfl h1')) (ei_cons (ev_wLuck T (ev_vW rfl h1')) (ei_cons (ev_vD rfl h9) (ei_cons (ev_tupL (ev_vL rfl (k5.ls (fun z => nomatch z)))) (ei_cons (ev_tupL (ev_vL rfl (k6.ls (fun z => nomatch z)))) ei_nil)))))) (sml rfl)) fun v H6 e6 g => q v H6 ((k1.trans e5).trans e6) g
end
end Kp
set_option maxHeartbeats 410000
/-! KpL: what a difference that leads from one world to another does to the things. -/
namespace Kp
open L2 PySem PySem.Spec PyProof.Rows
structure Leads (a b : Wd) (x : Df) : Prop where
  tick : x.tick = b.tick
  nid : x.nid = b.nid
  luck : x.luck = b.luck
  gone : ∀ k, k ∈ x.gone ↔ (k ∈ a.things.map Thing.id ∧ k ∉ b.things.map Thing.id)
  came : ∀ u ∈ x.came, u ∈ b.things
  chg : ∀ c ∈ x.chg, ∃ t u, look a.things c.1 = some t ∧ look b.things c.1 = some u ∧ same t u = true ∧ u ∉ x.came ∧ ∃ j : Nat, c.2.1 = (j : Int) ∧ u.nums[j]? = some c.2.2
  rest : ∀ u ∈ b.things, u ∉ x.came → ∃ t, look a.things u.id = some t ∧ same t u = true ∧ ∀ (j : Nat) (n : Int), u.nums[j]? = some n → t.nums[j]? = some n ∨ (u.id, (j : Int), n) ∈ x.chg
  parts : PartsOk x.gone x.came x.chg
def putT (ws : List Thing) (v : Thing) : List Thing := if (ws.any fun w => decide (w.id = v.id)) = true then ws.map (fun w => if w.id = v.id then v else w) else ws ++ [v]
theorem putT_d (ws : List Thing) (v : Thing) : putD (thsM ws) v.id v.d = thsM (putT ws v) := by
  unfold putD putT
  have e : hasD (thsM ws) v.id = ws.any fun w => decide (w.id = v.id) := by
    unfold hasD thsM
    rw [List.any_map]
    rfl
  rw [e]
  cases ws.any fun w => decide (w.id = v.id) with
  | false =>
    rw [if_neg (by decide), if_neg (by decide)]
    unfold thsM
    rw [List.map_append]
    rfl
  | true =>
    rw [if_pos rfl, if_pos rfl]
    unfold thsM
    (rw [List.map_map, List.map_map])
    refine List.map_congr_left fun w _ => ?_
    show (if w.id = v.id then (w.id, v.d) else (w.id, w.d)) = ((if w.id = v.id then v else w).id, (if w.id = v.id then v else w).d)
    by_cases h : w.id = v.id
    · rw [if_pos h, if_pos h, h]
    · rw [if_neg h, if_neg h]
theorem putT_mem {ws : List Thing} {v w : Thing} : w ∈ putT ws v ↔ w = v ∨ (w ∈ ws ∧ w.id ≠ v.id) := by
  unfold putT
  cases h : ws.any fun w => decide (w.id = v.id) with
  | false =>
    rw [if_neg (by decide), List.mem_append, List.mem_singleton]
    have no : ∀ w ∈ ws, w.id ≠ v.id := fun w hw => by
      have := List.any_eq_false.mp h w hw
      simpa using this
    constructor
    · rintro (h | h)
      · exact .inr ⟨h, no w h⟩
      · exact .inl h
    · rintro (h | ⟨h, _⟩)
      · exact .inr h
      · exact .inl h
  | true =>
    rw [if_pos rfl, List.mem_map]
    obtain ⟨w0, h1, h2⟩ := List.any_eq_true.mp h
    have h2 : w0.id = v.id := of_decide_eq_true h2
    constructor
    · rintro ⟨w', h3, rfl⟩
      by_cases e : w'.id = v.id
      · rw [if_pos e]
        exact .inl rfl
      · rw [if_neg e]
        exact .inr ⟨h3, e⟩
    · rintro (rfl | ⟨h3, e⟩)
      · exact ⟨w0, h1, if_pos h2⟩
      · exact ⟨w, h3, if_neg e⟩
theorem putT_ids {ws : List Thing} {v : Thing} (h : ∃ w ∈ ws, w.id = v.id) : (putT ws v).map Thing.id = ws.map Thing.id := by
  unfold putT
  have e : (ws.any fun w => decide (w.id = v.id)) = true := by
    obtain ⟨w, h1, h2⟩ := h
    exact List.any_eq_true.mpr ⟨w, h1, decide_eq_true h2⟩
  rw [if_pos e, List.map_map]
  refine List.map_congr_left fun w _ => ?_
  show (if w.id = v.id then v else w).id = w.id
  by_cases h : w.id = v.id
  · rw [if_pos h, h]
  · rw [if_neg h]
theorem putT_nd {ws : List Thing} {v : Thing} (h : (ws.map Thing.id).Nodup) : ((putT ws v).map Thing.id).Nodup := by
  by_cases e : ∃ w ∈ ws, w.id = v.id
  · rw [putT_ids e]
    exact h
  · unfold putT
    have e' : ¬ (ws.any fun w => decide (w.id = v.id)) = true := fun z => by
      obtain ⟨w, h1, h2⟩ := List.any_eq_true.mp z
      exact e ⟨w, h1, of_decide_eq_true h2⟩
    rw [if_neg e', List.map_append]
    refine List.nodup_append.mpr ⟨h, by simp, ?_⟩
    intro k hk k' hk' z
    obtain ⟨w, h1, rfl⟩ := List.mem_map.mp hk
    have : k' = v.id := by simpa using hk'
    exact e ⟨w, h1, z.trans this⟩
theorem uniq {ws : List Thing} (h : (ws.map Thing.id).Nodup) : ∀ {v w : Thing}, v ∈ ws → w ∈ ws → v.id = w.id → v = w := by
  induction ws with
  | nil => intro v w hv; cases hv
  | cons x ws ih =>
    intro v w hv hw e
    (obtain ⟨h1, h2⟩ := List.nodup_cons.mp h)
    rcases List.mem_cons.mp hv with ev | hv'
    · rcases List.mem_cons.mp hw with ew | hw'
      · exact ev.trans ew.symm
      · exact absurd (List.mem_map.mpr ⟨w, hw', e.symm.trans (congrArg Thing.id ev)⟩) h1
    · rcases List.mem_cons.mp hw with ew | hw'
      · exact absurd (List.mem_map.mpr ⟨v, hv', e.trans (congrArg Thing.id ew)⟩) h1
      · exact ih h2 hv' hw' e
theorem look_of {ws : List Thing} (h : (ws.map Thing.id).Nodup) {v : Thing} (hv : v ∈ ws) : look ws v.id = some v := by
  cases e : look ws v.id with
  | none => exact absurd rfl (look_none e v hv)
  | some w =>
    obtain ⟨h1, h2⟩ := look_some e
    rw [uniq h h1 hv h2]
theorem look_mem {ws : List Thing} {k : Int} (h : k ∈ ws.map Thing.id) : ∃ t, look ws k = some t := by
  cases e : look ws k with
  | some t => exact ⟨t, rfl⟩
  | none =>
    obtain ⟨t, h1, h2⟩ := List.mem_map.mp h
    exact absurd h2 (look_none e t h1)
def setN (w : Thing) (j : Nat) (n : Int) : Thing := ⟨w.id, w.kind, w.nums.take j ++ n :: w.nums.drop (j + 1)⟩
theorem setN_eq {w : Thing} {j : Nat} {n : Int} (h : j < w.nums.length) : (setN w j n).nums = w.nums.set j n := by
  rw [List.set_eq_take_append_cons_drop, if_pos h]
  rfl
structure J1 (a b : Wd) (x : Df) (i : Nat) (ws : List Thing) : Prop where
  nd : (ws.map Thing.id).Nodup
  ids : ∀ k, k ∈ ws.map Thing.id ↔ (k ∈ a.things.map Thing.id ∧ k ∈ b.things.map Thing.id)
  val : ∀ w ∈ ws, ∀ t u, look a.things w.id = some t → look b.things w.id = some u → same t u = true → w.kind = t.kind ∧ w.nums.length = t.nums.length ∧ ∀ (j : Nat) n, w.nums[j]? = some n → u.nums[j]? = some n ∨ (t.nums[j]? = some n ∧ ∀ c ∈ x.chg.take i, ¬(c.1 = w.id ∧ c.2.1 = (j : Int)))
theorem J1.zero {a b : Wd} {x : Df} (ha : a.Ok) (L : Leads a b x) : J1 a b x 0 (a.things.filter fun t => !x.gone.any fun m => m == t.id) := by
  have nd := asc_nodup ha.ths.ids
  refine ⟨?_, fun k => ?_, fun w hw t u ht hu hs => ?_⟩
  · exact nd.sublist (List.Sublist.map _ List.filter_sublist)
  · constructor
    · intro h
      obtain ⟨t, h1, rfl⟩ := List.mem_map.mp h
      obtain ⟨h1, h2⟩ := List.mem_filter.mp h1
      refine ⟨List.mem_map.mpr ⟨t, h1, rfl⟩, Classical.byContradiction fun no => ?_⟩
      have g : t.id ∈ x.gone := (L.gone t.id).mpr ⟨List.mem_map.mpr ⟨t, h1, rfl⟩, no⟩
      have : (x.gone.any fun m => m == t.id) = true := List.any_eq_true.mpr ⟨t.id, g, by simp⟩
      rw [this] at h2
      cases h2
    · rintro ⟨h1, h2⟩
      obtain ⟨t, h3, rfl⟩ := List.mem_map.mp h1
      refine List.mem_map.mpr ⟨t, List.mem_filter.mpr ⟨h3, ?_⟩, rfl⟩
      cases e : x.gone.any fun m => m == t.id with
      | false => rfl
      | true =>
        obtain ⟨m, g1, g2⟩ := List.any_eq_true.mp e
        have g2 : m = t.id := by simpa using g2
        rw [g2] at g1
        exact absurd h2 ((L.gone t.id).mp g1).2
  · have hw1 := (List.mem_filter.mp hw).1
    have e := look_of nd hw1
    rw [e] at ht
    cases ht
    exact ⟨rfl, rfl, fun j n h => .inr ⟨h, fun c hc => by simp at hc⟩⟩
/-- one change: the thing that it hits, and after it -/
theorem J1.step {a b : Wd} {x : Df} (L : Leads a b x) {i : Nat} {ws : List Thing} {c : Chg} (hc : x.chg[i]? = some c) (J : J1 a b x i ws) :
    ∃ (w : Thing) (j : Nat), look ws c.1 = some w ∧ w.id = c.1 ∧ c.2.1 = (j : Int) ∧ j < w.nums.length ∧ J1 a b x (i + 1) (putT ws (setN w j c.2.2)) := by
  obtain ⟨t, u, ht, hu, hs, hn, j, hj, hv⟩ := L.chg c (List.mem_of_getElem? hc)
  have hk : c.1 ∈ ws.map Thing.id := (J.ids c.1).mpr ⟨by obtain ⟨h1, h2⟩ := look_some ht; exact List.mem_map.mpr ⟨t, h1, h2⟩, by obtain ⟨h1, h2⟩ := look_some hu; exact List.mem_map.mpr ⟨u, h1, h2⟩⟩
  obtain ⟨w, hw⟩ := look_mem hk
  obtain ⟨wm, wi⟩ := look_some hw
  have v := J.val w wm t u (by rw [wi]; exact ht) (by rw [wi]; exact hu) hs
  have lt : j < w.nums.length := by
    have := (List.getElem?_eq_some_iff.mp hv).1
    have := (same_iff.mp hs).2
    have := v.2.1
    omega
  have sid : (setN w j c.2.2).id = c.1 := wi
  refine ⟨w, j, hw, wi, hj, lt, putT_nd J.nd, fun k => ?_, fun w' hw' t' u' ht' hu' hs' => ?_⟩
  · rw [putT_ids ⟨w, wm, sid.symm ▸ wi⟩]
    exact J.ids k
  · have tk : x.chg.take (i + 1) = x.chg.take i ++ [c] := by rw [List.take_add_one, hc]; rfl
    rcases putT_mem.mp hw' with rfl | ⟨h1, h2⟩
    · rw [sid, ht] at ht'
      rw [sid, hu] at hu'
      cases ht'
      cases hu'
      have en := setN_eq (n := c.2.2) lt
      refine ⟨v.1, by rw [en, List.length_set]; exact v.2.1, fun j' n h => ?_⟩
      rw [en, List.getElem?_set] at h
      by_cases e : j = j'
      · subst e
        rw [if_pos rfl, if_pos lt] at h
        cases h
        exact .inl hv
      · rw [if_neg e] at h
        rcases v.2.2 j' n h with h | ⟨h3, h4⟩
        · exact .inl h
        · refine .inr ⟨h3, fun c' hc' z => ?_⟩
          rw [tk] at hc'
          rcases List.mem_append.mp hc' with hc' | hc'
          · exact h4 c' hc' (by rw [wi]; rw [sid] at z; exact z)
          · rw [List.mem_singleton] at hc'
            subst hc'
            have := hj.symm.trans z.2
            exact e (by omega)
    · obtain ⟨v1, v2, v3⟩ := J.val w' h1 t' u' ht' hu' hs'
      refine ⟨v1, v2, fun j' n h => ?_⟩
      rcases v3 j' n h with h | ⟨h3, h4⟩
      · exact .inl h
      · refine .inr ⟨h3, fun c' hc' z => ?_⟩
        rw [tk] at hc'
        rcases List.mem_append.mp hc' with hc' | hc'
        · exact h4 c' hc' z
        · rw [List.mem_singleton] at hc'
          subst hc'
          exact h2 (z.1.symm.trans sid.symm)
structure J2 (b : Wd) (came : List Thing) (i : Nat) (ws : List Thing) : Prop where
  nd : (ws.map Thing.id).Nodup
  mem : ∀ w ∈ ws, ∃ u ∈ b.things, u.id = w.id ∧ (w = u ∨ ∃ v ∈ came.drop i, v.id = w.id)
  cov : ∀ u ∈ b.things, (∃ w ∈ ws, w.id = u.id) ∨ ∃ v ∈ came.drop i, v.id = u.id
theorem list_ext {xs ys : List Int} (hl : xs.length = ys.length) (h : ∀ (j : Nat) n, xs[j]? = some n → ys[j]? = some n) : xs = ys := by
  (refine List.ext_getElem? fun j => ?_)
  by_cases lt : j < xs.length
  · have e : xs[j]? = some xs[j] := List.getElem?_eq_getElem lt
    rw [h j _ e, e]
  · rw [List.getElem?_eq_none (by omega), List.getElem?_eq_none (by omega)]
theorem J1.last {a b : Wd} {x : Df} (hb : b.Ok) (L : Leads a b x) {ws : List Thing} (J : J1 a b x x.chg.length ws) : J2 b x.came 0 ws := by
  have nb := asc_nodup hb.ths.ids
  refine ⟨J.nd, fun w hw => ?_, fun u hu => ?_⟩
  · have hk := (J.ids w.id).mp (List.mem_map.mpr ⟨w, hw, rfl⟩)
    obtain ⟨u, hu⟩ := look_mem hk.2
    obtain ⟨um, ui⟩ := look_some hu
    refine ⟨u, um, ui, ?_⟩
    by_cases hc : u ∈ x.came
    · exact .inr ⟨u, hc, ui⟩
    · obtain ⟨t, ht, hs, hr⟩ := L.rest u um hc
      rw [ui] at ht
      obtain ⟨v1, v2, v3⟩ := J.val w hw t u ht hu hs
      obtain ⟨s1, s2⟩ := same_iff.mp hs
      refine .inl ?_
      have en : w.nums = u.nums := by
        refine list_ext (by omega) fun j n h => ?_
        rcases v3 j n h with h | ⟨h3, h4⟩
        · exact h
        · have lt : j < u.nums.length := by
            have := (List.getElem?_eq_some_iff.mp h3).1
            omega
          have e : u.nums[j]? = some u.nums[j] := List.getElem?_eq_getElem lt
          rcases hr j _ e with r | r
          · rw [e, ← r, h3]
          · rw [List.take_length] at h4
            exact absurd ⟨ui, rfl⟩ (h4 _ r)
      cases w
      cases u
      simp only at en ui v1 s1
      subst en ui
      rw [v1, s1]
  · by_cases hc : u ∈ x.came
    · exact .inr ⟨u, hc, rfl⟩
    · obtain ⟨t, ht, _, _⟩ := L.rest u hu hc
      obtain ⟨h1, h2⟩ := look_some ht
      have := (J.ids u.id).mpr ⟨List.mem_map.mpr ⟨t, h1, h2⟩, List.mem_map.mpr ⟨u, hu, rfl⟩⟩
      obtain ⟨w, h3, h4⟩ := List.mem_map.mp this
      exact .inl ⟨w, h3, h4⟩
theorem J2.step {b : Wd} {came ws : List Thing} {i : Nat} {v : Thing} (hv : came[i]? = some v) (hm : v ∈ b.things) (J : J2 b came i ws) : J2 b came (i + 1) (putT ws v) := by
  have ed : came.drop i = v :: came.drop (i + 1) := by
    obtain ⟨lt, e⟩ := List.getElem?_eq_some_iff.mp hv
    rw [List.drop_eq_getElem_cons lt, e]
  refine ⟨putT_nd J.nd, fun w hw => ?_, fun u hu => ?_⟩
  · rcases putT_mem.mp hw with rfl | ⟨h1, h2⟩
    · exact ⟨w, hm, rfl, .inl rfl⟩
    · obtain ⟨u, h3, h4, h5⟩ := J.mem w h1
      refine ⟨u, h3, h4, ?_⟩
      rcases h5 with h5 | ⟨v', h5, h6⟩
      · exact .inl h5
      · rw [ed] at h5
        rcases List.mem_cons.mp h5 with rfl | h5
        · exact absurd h6.symm h2
        · exact .inr ⟨v', h5, h6⟩
  · by_cases e : u.id = v.id
    · exact .inl ⟨v, putT_mem.mpr (.inl rfl), e.symm⟩
    · rcases J.cov u hu with ⟨w, h1, h2⟩ | ⟨v', h1, h2⟩
      · exact .inl ⟨w, putT_mem.mpr (.inr ⟨h1, fun z => e (h2.symm.trans z)⟩), h2⟩
      · rw [ed] at h1
        rcases List.mem_cons.mp h1 with rfl | h1
        · exact absurd h2.symm e
        · exact .inr ⟨v', h1, h2⟩
theorem J2.last {b : Wd} {came ws : List Thing} (hb : b.Ok) (J : J2 b came came.length ws) : (∀ w ∈ ws, w ∈ b.things) ∧ ∀ u ∈ b.things, u ∈ ws := by
  have e : came.drop came.length = [] := List.drop_length
  have m : ∀ w ∈ ws, w ∈ b.things := fun w hw => by
    obtain ⟨u, h3, h4, h5⟩ := J.mem w hw
    rcases h5 with rfl | ⟨v', h5, _⟩
    · exact h3
    · rw [e] at h5
      cases h5
  refine ⟨m, fun u hu => ?_⟩
  rcases J.cov u hu with ⟨w, h1, h2⟩ | ⟨v', h1, _⟩
  · rw [← uniq (asc_nodup hb.ths.ids) (m w h1) hu h2]
    exact h1
  · rw [e] at h1
    cases h1
theorem asc_ext : ∀ {xs ys : List Int}, Asc xs → Asc ys → (∀ k, k ∈ xs ↔ k ∈ ys) → xs = ys
  | [], [], _, _, _ => rfl
  | [], y :: ys, _, _, h => absurd ((h y).mpr List.mem_cons_self) (by simp)
  | x :: xs, [], _, _, h => absurd ((h x).mp List.mem_cons_self) (by simp)
  | x :: xs, y :: ys, h1, h2, h => by
    obtain ⟨a1, a2⟩ := List.pairwise_cons.mp h1
    obtain ⟨b1, b2⟩ := List.pairwise_cons.mp h2
    have e : x = y := by
      rcases List.mem_cons.mp ((h x).mp List.mem_cons_self) with e | e
      · exact e
      · rcases List.mem_cons.mp ((h y).mpr List.mem_cons_self) with e' | e'
        · exact e'.symm
        · have := b1 x e
          have := a1 y e'
          omega
    subst e
    have ih : xs = ys := asc_ext a2 b2 fun k => by
      constructor
      · intro hk
        rcases List.mem_cons.mp ((h k).mp (List.mem_cons_of_mem _ hk)) with e | e
        · have := a1 k hk
          omega
        · exact e
      · intro hk
        rcases List.mem_cons.mp ((h k).mpr (List.mem_cons_of_mem _ hk)) with e | e
        · have := b1 k hk
          omega
        · exact e
    rw [ih]
theorem le_asc : ∀ {xs : List Int}, xs.Pairwise (· ≤ ·) → xs.Nodup → Asc xs
  | [], _, _ => .nil
  | x :: xs, h, n => by
    obtain ⟨a1, a2⟩ := List.pairwise_cons.mp h
    obtain ⟨b1, b2⟩ := List.nodup_cons.mp n
    refine List.pairwise_cons.mpr ⟨fun y hy => ?_, le_asc a2 b2⟩
    have := a1 y hy
    have : x ≠ y := fun e => b1 (e ▸ hy)
    omega
/-- the sorted keys of what stands at the end -/
theorem J2.ids {b : Wd} {came ws : List Thing} (hb : b.Ok) (J : J2 b came came.length ws) {ys : List Int} (hp : ys.Perm (ws.map Thing.id)) (hs : ys.Pairwise (· ≤ ·)) : ys = b.things.map Thing.id := by
  obtain ⟨h1, h2⟩ := J.last hb
  refine asc_ext (le_asc hs (hp.nodup_iff.mpr J.nd)) hb.ths.ids fun k => ?_
  rw [hp.mem_iff]
  constructor
  · intro h
    obtain ⟨w, h3, rfl⟩ := List.mem_map.mp h
    exact List.mem_map.mpr ⟨w, h1 w h3, rfl⟩
  · intro h
    obtain ⟨w, h3, rfl⟩ := List.mem_map.mp h
    exact List.mem_map.mpr ⟨w, h2 w h3, rfl⟩
theorem nodup_le : ∀ {xs ys : List Int}, xs.Nodup → (∀ x ∈ xs, x ∈ ys) → xs.length ≤ ys.length
  | [], _, _, _ => (Nat.zero_le _)
  | x :: xs, ys, hn, hs => by
    (obtain ⟨h1, h2⟩ := List.nodup_cons.mp hn)
    have hx := hs x List.mem_cons_self
    have ih := nodup_le (ys := ys.erase x) h2 fun y hy => (List.mem_erase_of_ne fun e : y = x => h1 (by rw [← e]; exact hy)).mpr (hs y (List.mem_cons_of_mem _ hy))
    rw [List.length_erase_of_mem hx] at ih
    have := List.length_pos_of_mem hx
    rw [List.length_cons]
    omega
theorem J1.len {a b : Wd} {x : Df} {i : Nat} {ws : List Thing} (J : J1 a b x i ws) : ws.length ≤ a.things.length := by
  have := nodup_le J.nd (ys := a.things.map Thing.id) fun k hk => ((J.ids k).mp hk).1
  rw [List.length_map, List.length_map] at this
  exact this
theorem J2.len {b : Wd} {came ws : List Thing} {i : Nat} (J : J2 b came i ws) : ws.length ≤ b.things.length := by
  have := nodup_le J.nd (ys := b.things.map Thing.id) fun k hk => by
    obtain ⟨w, h1, rfl⟩ := List.mem_map.mp hk
    obtain ⟨u, h2, h3, _⟩ := J.mem w h1
    exact List.mem_map.mpr ⟨u, h2, h3⟩
  rw [List.length_map, List.length_map] at this
  exact this
end Kp
set_option maxHeartbeats 410000
/-! Kp10: unfit_ids, applied_in. -/
namespace Kp
open L2 PySem PySem.Spec PyProof.Rows
section
variable {K : PySem.W.Frag} {d : Option Addr} {σ : L2.St} {H : Hp} {te ta tb : TE} {x : Df} {E : Ends} {tx : TS}
theorem dfa (h : Ev d te σ H (D K x.d)) : Ev d te σ H (D K (.tuple [.int x.tick, .int x.nid, .int x.luck, .tuple (x.gone.map .int), thsD x.came, .tuple (x.chg.map chD)])) := h
theorem df0 (h : Ev d te σ H (D K x.d)) : Ev d (tOp (rIxT K) te (tC (.int 0))) σ H (D K (.int x.tick)) := ev_ixT (dfa h) ev_int rfl
theorem df1 (h : Ev d te σ H (D K x.d)) : Ev d (tOp (rIxT K) te (tC (.int 1))) σ H (D K (.int x.nid)) := ev_ixT (dfa h) ev_int rfl
theorem df2 (h : Ev d te σ H (D K x.d)) : Ev d (tOp (rIxT K) te (tC (.int 2))) σ H (D K (.int x.luck)) := ev_ixT (dfa h) ev_int rfl
theorem df3 (h : Ev d te σ H (D K x.d)) : Ev d (tOp (rIxT K) te (tC (.int 3))) σ H (D K (.tuple (x.gone.map .int))) := ev_ixT (dfa h) ev_int rfl
theorem df4 (h : Ev d te σ H (D K x.d)) : Ev d (tOp (rIxT K) te (tC (.int 4))) σ H (D K (.tuple (x.came.map Thing.d))) := ev_ixT (dfa h) ev_int rfl
theorem df5 (h : Ev d te σ H (D K x.d)) : Ev d (tOp (rIxT K) te (tC (.int 5))) σ H (D K (.tuple (x.chg.map chD))) := ev_ixT (dfa h) ev_int rfl
theorem q_forT {α : Type} {g : TG} {tb' : TS} {tl : TE} {as : List α} {enc : α → PyData} (h : Ev1 d tl σ H (D K (.tuple (as.map enc))))
    (k : ∀ H1, Ext d H H1 → ∃ I : Nat → L2.St → Hp → Prop, I 0 σ H1 ∧ (∀ i σ' H', I i σ' H' → Tk H1 H') ∧ (∀ (N : L2.St → Hp → Prop) bk rt i a σ' H' x, as[i]? = some a → I i σ' H' → D K (enc a) x H' → (∀ σ' H', I (i + 1) σ' H' → N σ' H') → g x σ' H' fun σ2 H2 => tb' { nx := N, ct := N, bk := bk, rt := rt } σ2 H2) ∧ ∀ σ' H', I as.length σ' H' → tx E σ' H') : tSeq (tFor (iTup K tl) g tb') tx E σ H :=
  s_forT (E := { E with nx := tx E }) h fun H1 e1 => by
    obtain ⟨I, i0, ik, ib, ie⟩ := k H1 e1
    exact ⟨I, i0, ik, fun i a σ' H' x ha hI hd => ib _ _ _ i a σ' H' x ha hI hd fun _ _ h => h, ie⟩
/-- sorted(d) -/
theorem ev_sortD {m : List (Int × PyData)} {zs : List Int} (hd : DOk d H) (h : Ev d te σ H (Dd K m)) (h64 : m.length < 64) (hz : ∀ ys : List Int, ys.Perm (m.map Prod.fst) → ys.Pairwise (· ≤ ·) → ys = zs) :
    Ev d (tCB (fun xs H Q => ∃ (a : Addr) (kvs : List (Key × V)) (ks : List Int), xs = [V.ref a] ∧ Rd H a (.dK kvs) ∧ kvs.map (·.1) = ks.map Sum.inl ∧ ks.length < 64 ∧ ∀ (ys : List Int) (p : Addr), ys.Perm ks → ys.Pairwise (· ≤ ·) → H p = none → Q (.ref p) (upd H p (.lst (ys.map V.int)))) (tCons te tNil)) σ H (Ls K d (zs.map .int)) := fun H1 e Q q =>
  h H1 e _ fun v H2 e2 f => by
    obtain ⟨p, kvs, rfl, h1, h2⟩ := f
    have ek : kvs.map (·.1) = (m.map Prod.fst).map Sum.inl := by
      clear h1 hz h64 h
      induction h2 with
      | nil => rfl
      | cons _ _ ih => rw [List.map_cons, List.map_cons, List.map_cons, ih]
    refine ⟨p, kvs, m.map Prod.fst, rfl, h1, ek, by rw [List.length_map]; exact h64, fun ys l hp hs hl => ?_⟩
    rw [hz ys hp hs]
    exact q _ _ (e2.trans (Ext.new hl)) ⟨l, _, rfl, (hd.up (e.on e2)).ne hl, upd_same, DtA.of_ints zs⟩
theorem et1_len {m : List (Int × PyData)} {p : Addr} {i : Nat} {n : Int} (hi : σ[i]? = some (some (.ref p))) (h : DdX K m p H) (hn : (m.length : Int) ≤ n) : EvT1 d (tTest (tOp (rI0 fun i j => .bl (decide (j < i))) (tCB (fun xs H Q => ∃ a kvs, xs = [V.ref a] ∧ H a = some (.dK kvs) ∧ Q (.int kvs.length) H) (tCons (tVar i) tNil)) (tC (.int n)))) σ H (· = false) := fun Q q => by
  refine ev1_lenD (d := d) (K := K) (te := tC .non) hi h rfl (fun x H1 => tC (.int n) σ H1 fun y H2 => rI0 (fun i j => .bl (decide (j < i))) x y H2 fun x H' => ∃ k, x = .bl k ∧ Q k H') fun v H2 e f => ?_
  cases f
  exact ⟨_, _, rfl, rfl, false, congrArg V.bl (decide_eq_false (by omega)), q false H2 e rfl⟩
theorem EvT1.is {t : TT} {a b : Bool} (h : EvT1 d t σ H (· = a)) (e : a = b) : EvT1 d t σ H (· = b) := by rw [← e]; exact h
theorem Ev.isL {ds es : List PyData} (h : Ev d te σ H (Ls K d ds)) (e : ds = es) : Ev d te σ H (Ls K d es) := by rw [← e]; exact h
theorem filter_nil {α : Type} {f : α → Bool} {as : List α} (h : ∀ a ∈ as, f a = false) : as.filter f = [] := List.filter_eq_nil_iff.mpr fun a ha z => by rw [h a ha] at z; cases z
theorem chd3 {c : Chg} {v : V} {H : Hp} (h : D K (chD c) v H) : D K (.tuple [.int c.1, .int c.2.1, .int c.2.2]) v H := h
end
section
variable {P : Program} {w : World} {K : PySem.W.Frag} {mg : Str → Option Value} {base : Heap} {CK CW gE : Addr}
def szM (ts : List Thing) : List (Int × PyData) := ts.map fun t => (t.id, .int (t.nums.length : Int))
theorem szM_get (ts : List Thing) (k : Int) : getD? (szM ts) k = (look ts k).map fun t => .int (t.nums.length : Int) := by
  unfold getD? szM look
  induction ts with
  | nil => rfl
  | cons t ts ih =>
    rw [List.map_cons, List.find?_cons, List.find?_cons]
    cases decide (t.id = k) with
    | true => rfl
    | false => exact ih
structure Fits (a : Wd) (x : Df) : Prop where
  l1 : x.gone.length ≤ 1000
  l3 : x.chg.length ≤ 1000
  gone : ∀ k ∈ x.gone, (look a.things k).isSome = true
  chg : ∀ c ∈ x.chg, ∃ t, look a.things c.1 = some t ∧ c.2.1 < (t.nums.length : Int)
theorem Leads.fits {a b : Wd} {x : Df} (L : Leads a b x) : Fits a x := by
  refine ⟨L.parts.l1, L.parts.l3, fun k hk => ?_, fun c hc => ?_⟩
  · obtain ⟨t, e⟩ := look_mem ((L.gone k).mp hk).1
    rw [e]
    rfl
  · obtain ⟨t, u, h1, _, h3, _, j, h5, h6⟩ := L.chg c hc
    refine ⟨t, h1, ?_⟩
    have := (List.getElem?_eq_some_iff.mp h6).1
    have := (same_iff.mp h3).2
    omega
theorem sc_unfit_ids : FnScope ["world", "told", "sizes", "found", "thing", "one", "at", "number"] ["world", "told"] (C8.fnScope s_unfit_ids) := C8.fnScope_by (by decide +kernel)
abbrev sp_unfit_ids (K : PySem.W.Frag) (CW : Addr) : Sp := Pu (fun p : Wd × Df => p.1.Ok ∧ Fits p.1 p.2) (fun p => [Wp K CW p.1, D K p.2.d]) (fun _ => Ls K none [])
theorem c_unfit_ids (T : Txt K mg CK CW gE) : C8.Cal P w K mg base 1 "unfit_ids" (sp_unfit_ids K CW) [] := by
  refine cal_of T.d_unfit_ids sc_unfit_ids (fun _ => rfl) fun cdv f A outer s H vs Q E hr p hp _ hA q => ?_
  obtain ⟨v0, v1, rfl, h0, h1⟩ := all2 hA
  obtain ⟨a, x⟩ := p
  obtain ⟨ha, hf⟩ : a.Ok ∧ Fits a x := hp
  have h0 : Wp K CW a v0 H := h0
  have h1 : D K x.d v1 H := h1
  have fa := ha.ths.few
  have l1 := hf.l1
  have l3 := hf.l3
  refine ⟨_, (pss_cons (ps_set (i := 2) sc_unfit_ids.nd rfl (by first | exact Or.inl rfl | exact Or.inr rfl) (pe_dc (own := [("thing", 4)]) rfl sc_unfit_ids.nd (pi_tup (SlX.pe_sl (pv 0))) (blkOk_by (own := [("thing", 4)]) (N := ["world", "told", "sizes", "found", "thing", "one", "at", "number"]) (sc := C8.fnScope (topS 54)) (by decide +kernel)) (fun _ _ _ _ _ => (pg_name (i := 4) sc_unfit_ids.nd rfl (by first | exact Or.inl rfl | exact Or.inr rfl))) (fun _ _ _ _ _ => pts_nil) (fun _ _ _ _ _ => (pe_ix (r := rIxT K) ix_tup (pv 4) pe_int (fun _ _ => rfl))) (fun _ _ _ _ _ => (pe_callB (r := lenR K) call_len_seq (by rfl) T.b_len bt_len (pa_cons (pe_ix (r := rIxT K) ix_tup (pv 4) pe_int (fun _ _ => rfl)) pa_nil))))) (pss_cons (ps_setLc (i := 3) (own := [("one", 5)]) rfl sc_unfit_ids.nd rfl rfl (sw_true rfl rfl rfl (by decide +kernel)) (pi_tup (pe_ix ix_tup (pv 1) pe_int (fun _ _ => rfl))) (blkOk_by (own := [("one", 5)]) (N := ["world", "told", "sizes", "found", "thing", "one", "at", "number"]) (sc := C8.fnScope (topS 54)) (by decide +kernel)) (fun _ _ _ _ _ => (pg_name (i := 5) sc_unfit_ids.nd rfl (by first | exact Or.inl rfl | exact Or.inr rfl))) (fun _ _ _ _ _ => (pts_one (pt_cmp (pc_dnotin (hu_of hr) (pv 5) (pv 2)) rfl))) (fun _ _ _ _ _ => (pv 5))) (pss_one (ps_ret (pe_callB cr_sortedI (by rfl) T.b_sorted bt_sorted (pa_cons (pe_lst (StX.pa_star (pv 3) (StX.pa_star (pe_lc (own := [("one", 5), ("at", 6), ("number", 7)]) (g := gTup K 3 (gCons (gName 5) (gCons (gName 6) (gCons (gName 7) gNil)))) rfl sc_unfit_ids.nd (pi_tup (pe_ix ix_tup (pv 1) pe_int (fun _ _ => rfl))) (blkOk_by (own := [("one", 5), ("at", 6), ("number", 7)]) (N := ["world", "told", "sizes", "found", "thing", "one", "at", "number"]) (sc := C8.fnScope (topS 54)) (by decide +kernel)) (fun _ _ _ _ _ => (pg_tup rfl (pgs_cons (pg_name (i := 5) sc_unfit_ids.nd rfl (by first | exact Or.inl rfl | exact Or.inr rfl)) (pgs_cons (pg_name (i := 6) sc_unfit_ids.nd rfl (by first | exact Or.inl rfl | exact Or.inr rfl)) (pgs_cons (pg_name (i := 7) sc_unfit_ids.nd rfl (by first | exact Or.inl rfl | exact Or.inr rfl)) pgs_nil))))) (fun _ _ _ _ _ => (pts_one (pt_cmpR op_ge (pv 6) (pe_dget2 (hu_of hr) (pv 2) (pv 5) pe_int ⟨by rfl, by rfl, by rfl, by rfl⟩) (nomark _)))) (fun _ _ _ _ _ => (pv 5))) pa_nil))) pa_nil)))))), ?_⟩
  have e0 : szM a.things = putAll [] (a.things.map fun t => (t.id, .int (t.nums.length : Int))) := by
    refine (putAll_nodup _ [] ?_ (fun _ _ _ hq => nomatch hq)).symm
    rw [List.map_map]
    exact asc_nodup ha.ths.ids
  refine q1_set (d := none) (F := Dd K (szM a.things)) (fun Q q => ev_dc1y (K := K) (d := none) (Item := fun t : Thing => D K t.d) (fun t : Thing => t.id) (fun t : Thing => .int (t.nums.length : Int)) (by omega) (es_tup (ev_ths (ev_wThs T (ev_vW rfl h0)))) (fun t _ y H1 e it => at0 (ev_vD rfl (d3 it))) (fun t _ y H1 e it => ev_lenT (at2 (ev_vD rfl (d3 it))) (by rw [List.length_map])) (fun _ => rfl) Q fun v H2 e f => q v H2 e ?_) fun v2 H1 e1 h2 => ?_
  · obtain ⟨p, rfl, _, f⟩ := f
    rw [← e0] at f
    exact f.dd
  replace h1 := up e1 h1
  refine q_set (d := none) (F := Ls K none []) ((ev_lc1 (fun k : Int => !hasD (szM a.things) k) (fun k : Int => .int k) (DOk.no _) (by omega) (es_tup (df3 (ev_vD rfl h1))) (fun k _ y H2 e it => et_B (et_dnotin (ev_vM rfl (upw e h2)) (ev_vD rfl it))) (fun k _ y H2 e it _ => ev_vD rfl it)).isL ?_) fun v3 H2 e2 h3 => ?_
  · rw [filter_nil fun k hk => ?_]
    · rfl
    · rw [has_get, szM_get, Option.isSome_map, hf.gone k hk]
      rfl
  replace h1 := up e2 h1
  replace h2 := up e2 h2
  refine s_ret (d := none) (ev_sort0 (DOk.no _) (ev_lst (ei_starL (xs := []) (ev_vL rfl h3) (ei_starL (xs := []) ?_ ei_nil)) (sml rfl) (DOk.no _))) fun v H3 e3 g => q v H3 ((e1.trans e2).trans e3) g
  refine (ev_lc3 (p := fun c : Chg => .int c.1) (q := fun c : Chg => .int c.2.1) (s := fun c : Chg => .int c.2.2) (fun c : Chg => match look a.things c.1 with | some t => decide ((t.nums.length : Int) ≤ c.2.1) | none => true) (fun c : Chg => .int c.1) (DOk.no _) (by omega) (es_tup (df5 (ev_vD rfl h1))) (fun c hc x y z H3 e hx hy hz => ?_) (fun c hc x y z H3 e hx hy hz _ => ev_vD rfl hx)).isL ?_
  · obtain ⟨t, e1, e2⟩ := hf.chg c hc
    refine et_test ((ev_ge (j := (t.nums.length : Int)) (ev_vD rfl hy) ((ev_dget2 (ev_vM rfl (upw e h2)) (ev_vD rfl hx) ev_int).is ?_)).is ?_)
    · rw [szM_get, e1]
      rfl
    · rw [e1]
  · rw [filter_nil fun c hc => ?_]
    · rfl
    · obtain ⟨t, e1, e2⟩ := hf.chg c hc
      rw [e1]
      (exact decide_eq_false (by omega))
theorem sc_applied_in : FnScope ["world", "told", "thing", "things", "one", "at", "number", "here"] ["world", "told"] (C8.fnScope s_applied_in) := C8.fnScope_by (by decide +kernel)
abbrev sp_applied_in (K : PySem.W.Frag) (CW : Addr) : Sp := Pu (fun p : (Wd × Wd) × Df => p.1.1.Ok ∧ p.1.2.Ok ∧ Leads p.1.1 p.1.2 p.2) (fun p => [Wp K CW p.1.1, D K p.2.d]) (fun p => Wp K CW p.1.2)
theorem c_applied_in (T : Txt K mg CK CW gE) : C8.Cal P w K mg base 11 "applied_in" (sp_applied_in K CW) [] := by
  refine cal_of T.d_applied_in sc_applied_in (fun _ => rfl) fun cdv f A outer s H vs Q E hr p hp _ hA q => ?_
  obtain ⟨v0, v1, rfl, h0, h1⟩ := all2 hA
  obtain ⟨⟨a, b⟩, x⟩ := p
  obtain ⟨ha, hb, L⟩ : a.Ok ∧ b.Ok ∧ Leads a b x := hp
  have h0 : Wp K CW a v0 H := h0
  have h1 : D K x.d v1 H := h1
  have fa := ha.ths.few
  have fb := hb.ths.few
  have l1 := L.parts.l1
  have l2 := L.parts.l2
  have l3 := L.parts.l3
  refine ⟨_, (pss_cons (ps_set (i := 3) sc_applied_in.nd rfl (by first | exact Or.inl rfl | exact Or.inr rfl) (pe_dc (own := [("thing", 2)]) rfl sc_applied_in.nd (pi_tup (SlX.pe_sl (pv 0))) (blkOk_by (own := [("thing", 2)]) (N := ["world", "told", "thing", "things", "one", "at", "number", "here"]) (sc := C8.fnScope (topS 55)) (by decide +kernel)) (fun _ _ _ _ _ => (pg_name (i := 2) sc_applied_in.nd rfl (by first | exact Or.inl rfl | exact Or.inr rfl))) (fun _ _ _ _ _ => (pts_one (pt_cmpR (r := rIn K true) op_notIn_seq (pe_ix (r := rIxT K) ix_tup (pv 2) pe_int (fun _ _ => rfl)) (pe_ix (r := rIxT K) ix_tup (pv 1) pe_int (fun _ _ => rfl)) rfl))) (fun _ _ _ _ _ => (pe_ix (r := rIxT K) ix_tup (pv 2) pe_int (fun _ _ => rfl))) (fun _ _ _ _ _ => (pv 2)))) (pss_cons (ps_for PassesOwn.never rfl (pi_tup (pe_ix ix_tup (pv 1) pe_int (fun _ _ => rfl))) (pg_tup rfl (pgs_cons (pg_name (i := 4) sc_applied_in.nd rfl (by first | exact Or.inl rfl | exact Or.inr rfl)) (pgs_cons (pg_name (i := 5) sc_applied_in.nd rfl (by first | exact Or.inl rfl | exact Or.inr rfl)) (pgs_cons (pg_name (i := 6) sc_applied_in.nd rfl (by first | exact Or.inl rfl | exact Or.inr rfl)) pgs_nil)))) (pss_cons (ps_set (i := 7) sc_applied_in.nd rfl (by first | exact Or.inl rfl | exact Or.inr rfl) (pe_dget (hu_of hr) (pv 3) (pv 4) (fun _ _ => rfl))) (pss_one (ps_dput (hu_of hr) (pv 3) (pv 4) (pe_tup (pa_cons (pv 4) (pa_cons (pe_ix ix_tup (pv 7) pe_int (fun _ _ => rfl)) (pa_cons (pe_tup (StX.pa_star (pe_slice sl_tupA (pe_ix ix_tup (pv 7) pe_int (fun _ _ => rfl)) po_none (po_some (pv 5))) (pa_cons (pv 6) (StX.pa_star (pe_slice sl_tupA (pe_ix ix_tup (pv 7) pe_int (fun _ _ => rfl)) (po_some (pe_op op_add (pv 5) pe_int)) po_none) pa_nil)))) pa_nil)))) rfl)))) (pss_cons (ps_for PassesOwn.never rfl (pi_tup (pe_ix ix_tup (pv 1) pe_int (fun _ _ => rfl))) (pg_name (i := 2) sc_applied_in.nd rfl (by first | exact Or.inl rfl | exact Or.inr rfl)) (pss_one (ps_dput (hu_of hr) (pv 3) (pe_ix ix_tup (pv 2) pe_int (fun _ _ => rfl)) (pv 2) rfl))) (pss_cons (ps_if (PW.pt (pw_or (pt_cmpR op_gt (pe_callB call_lenD (by rfl) T.b_len bt_len (pa_cons (pv 3) pa_nil)) (C8.pe_gc (by rfl) T.c_MAX_THINGS_parts) (nomark _)) (pw_or1 (pt_val (pe_callB (cr_any rfl) (by rfl) T.b_any bt_any (pa_cons (pe_lock (pe_lc (own := [("one", 4)]) rfl sc_applied_in.nd (pi_keys (pv 3)) (blkOk_by (own := [("one", 4)]) (N := ["world", "told", "thing", "things", "one", "at", "number", "here"]) (sc := C8.fnScope (topS 55)) (by decide +kernel)) (fun _ _ _ _ _ => (pg_name (i := 4) sc_applied_in.nd rfl (by first | exact Or.inl rfl | exact Or.inr rfl))) (fun _ _ _ _ _ => pts_nil) (fun _ _ _ _ _ => (pe_cmpR op_ge (pv 4) (pe_ix (r := rIxT K) ix_tup (pv 1) pe_int (fun _ _ => rfl)) (nomark _))))) pa_nil)))))) (pss_one (ps_ret pe_non)) pss_nil) (pss_one (ps_ret (C8.pe_c (c_made_world T) hr (by decide) (by rfl) (pa_cons (pe_ix ix_tup (pv 1) pe_int (fun _ _ => rfl)) (pa_cons (pe_ix ix_tup (pv 1) pe_int (fun _ _ => rfl)) (pa_cons (pe_ix ix_tup (pv 1) pe_int (fun _ _ => rfl)) (pa_cons (pe_callTy call_tuple_of (by rfl) T.b_tuple bt_tuple (pa_cons (pe_lc (own := [("one", 4)]) rfl sc_applied_in.nd (pi_list (pe_callB (call_sortedDI rfl) (by rfl) T.b_sorted bt_sorted (pa_cons (pv 3) pa_nil))) (blkOk_by (own := [("one", 4)]) (N := ["world", "told", "thing", "things", "one", "at", "number", "here"]) (sc := C8.fnScope (topS 55)) (by decide +kernel)) (fun _ _ _ _ _ => (pg_name (i := 4) sc_applied_in.nd rfl (by first | exact Or.inl rfl | exact Or.inr rfl))) (fun _ _ _ _ _ => pts_nil) (fun _ _ _ _ _ => (pe_dget (hu_of hr) (pv 3) (pv 4) (fun _ _ => rfl)))) pa_nil)) pa_nil))))))))))), ?_⟩
  let ws0 := a.things.filter fun t => !x.gone.any fun m => m == t.id
  have J0 : J1 a b x 0 ws0 := J1.zero ha L
  have e0 : thsM ws0 = putAll [] ((a.things.filter fun t => !x.gone.any fun m => m == t.id).map fun t => (t.id, t.d)) := by
    refine (putAll_nodup _ [] ?_ (fun _ _ _ hq => nomatch hq)).symm
    rw [List.map_map]
    exact J0.nd
  refine q1_set (d := none) (F := fun v H' => ∃ p, v = .ref p ∧ H p = none ∧ DdX K (thsM ws0) p H') (fun Q q => ev_dc1 (K := K) (d := none) (Item := fun t : Thing => D K t.d) (fun t : Thing => !x.gone.any fun m => m == t.id) (fun t : Thing => t.id) (fun t : Thing => t.d) (by omega) (es_tup (ev_ths (ev_wThs T (ev_vW rfl h0)))) (fun t _ y H1 e it => et_test (ev_inT (neg := true) (at0 (ev_vD rfl (d3 it))) (df3 (ev_vD rfl (upw e h1))))) (fun t _ y H1 e it _ => at0 (ev_vD rfl (d3 it))) (fun t _ y H1 e it _ => ev_vD rfl it) (fun _ => rfl) Q fun v H2 e f => q v H2 e ?_) fun v3 H1 e1 h3 => ?_
  · rw [e0]
    exact f
  obtain ⟨p3, rfl, n3, h3⟩ := h3
  refine q_forT (d := none) (enc := chD) (df5 (ev_vD rfl (up e1 h1))).one fun H2 e2 => ?_
  refine ⟨fun i σ' H' => ∃ ws, (∃ x2 x4 x5 x6 x7, σ' = [some v0, some v1, x2, some (.ref p3), x4, x5, x6, x7]) ∧ Ext none H H' ∧ Tk H2 H' ∧ J1 a b x i ws ∧ DdX K (thsM ws) p3 H',
    ⟨ws0, ⟨_, _, _, _, _, rfl⟩, e1.trans e2, fun _ _ h => h, J0, DdX.up e2 h3⟩, fun i σ' H' ⟨ws, h⟩ => h.2.2.1, ?_, ?_⟩
  · rintro N bk rt i c σ' H' y hc ⟨ws, ⟨x2, x4, x5, x6, x7, rfl⟩, g1, g2, J, g4⟩ hy hN
    obtain ⟨wt, j, hl, hi, hj, lt, J'⟩ := J.step L hc
    refine g3_run (chd3 hy) fun y1 y2 y3 z1 z2 z3 => ?_
    refine q_set (d := none) (F := D K wt.d) (ev_dget (ev_vM rfl g4.dd) (ev_vD rfl z1) (by rw [thsM_get, hl]; rfl)) fun v7 H3 e3 h7 => ?_
    replace z1 := up e3 z1
    replace z2 := up e3 z2
    replace z3 := up e3 z3
    have l8 : ws.length ≤ 12 := Nat.le_trans J.len fa
    refine s_dput (d := none) (m := thsM ws) (key := c.1) (x := (setN wt j c.2.2).d) rfl (DdX.up e3 g4) (by unfold thsM; rw [List.length_map]; omega) ?_ (fun H4 e4 => ev_vD rfl (up e4 z1)) fun Ha Hb ea ta sameP d3' => hN _ _ ⟨_, ⟨_, _, _, _, _, rfl⟩, ext_but ((g1.trans e3).trans ea) n3 sameP, (g2.trans e3.wk.tk).trans ta, J', ?_⟩
    · have e1 : cutG (wt.nums.map PyData.int) none (some c.2.1) = (wt.nums.take j).map PyData.int := by rw [hj, cut_to, List.map_take]
      have e2 : cutG (wt.nums.map PyData.int) (some (c.2.1 + 1)) none = (wt.nums.drop (j + 1)).map PyData.int := by rw [hj, show (j : Int) + 1 = ((j + 1 : Nat) : Int) from rfl, cut_from, List.map_drop]
      have w8 : wt.nums.length ≤ 100000 := by
        obtain ⟨t, u, ht, hu, hs, _⟩ := L.chg c (List.mem_of_getElem? hc)
        have v := (J.val wt (look_some hl).1 t u (by rw [hi]; exact ht) (by rw [hi]; exact hu) hs).2.1
        have := (ha.ths.ok t (look_some ht).1).n8
        omega
      refine (ev_tup (ei_cons (ev_vD rfl z1) (ei_cons (at1 (ev_d3 (ev_vD rfl h7))) (ei_cons (ev_tup (ei_starT (ev_slT (at2 (ev_d3 (ev_vD rfl h7))) eo_none (eo_some (ev_vD rfl z2)) e1) (ei_cons (ev_vD rfl z3) (ei_starT (ev_slT (at2 (ev_d3 (ev_vD rfl h7))) (eo_some (ev_add (ev_vD rfl z2) ev_int)) eo_none e2) ei_nil))) ?_) ei_nil))) (sml rfl)).is ?_
      · rw [List.length_append, List.length_cons, List.length_append, List.length_map, List.length_map, List.length_take, List.length_drop]
        show _ + (_ + 0 + 1) ≤ 100000
        omega
      · unfold Thing.d setN
        rw [List.append_nil, List.map_append, List.map_cons, hi]
    · rw [← putT_d]
      rw [show (setN wt j c.2.2).id = c.1 from hi]
      exact d3'
  · rintro σ' H' ⟨ws, ⟨x2, x4, x5, x6, x7, rfl⟩, g1, g2, J, g4⟩
    have J : J2 b x.came 0 ws := J.last hb L
    refine q_forT (d := none) (enc := Thing.d) (df4 (ev_vD rfl (up g1 h1))).one fun H3 e3 => ?_
    refine ⟨fun i σ' H' => ∃ ws, (∃ x2 x4 x5 x6 x7, σ' = [some v0, some v1, x2, some (.ref p3), x4, x5, x6, x7]) ∧ Ext none H H' ∧ Tk H3 H' ∧ J2 b x.came i ws ∧ DdX K (thsM ws) p3 H',
      ⟨ws, ⟨_, _, _, _, _, rfl⟩, g1.trans e3, fun _ _ h => h, J, DdX.up e3 g4⟩, fun i σ' H' ⟨ws, h⟩ => h.2.2.1, ?_, ?_⟩
    · rintro N bk rt i u σ' H' y hu ⟨ws, ⟨x2, x4, x5, x6, x7, rfl⟩, g1, g2, J, g4⟩ hy hN
      have J' := J.step hu (L.came u (List.mem_of_getElem? hu))
      have l8 : ws.length ≤ 12 := Nat.le_trans J.len fb
      refine s_dput (d := none) (m := thsM ws) (key := u.id) (x := u.d) rfl g4 (by unfold thsM; rw [List.length_map]; omega) (ev_vD rfl hy) (fun H4 e4 => at0 (ev_vD rfl (d3 (up e4 hy)))) fun Ha Hb ea ta sameP d3' => hN _ _ ⟨_, ⟨_, _, _, _, _, rfl⟩, ext_but (g1.trans ea) n3 sameP, g2.trans ta, J', ?_⟩
      rw [← putT_d]
      exact d3'
    · rintro σ' H' ⟨ws, ⟨x2, x4, x5, x6, x7, rfl⟩, g1, g2, J, g4⟩
      have hw := J.last hb
      have l8 : ws.length ≤ 12 := Nat.le_trans J.len fb
      have lm : (thsM ws).length = ws.length := List.length_map _
      have h1' := up g1 h1
      have eids : ((thsM ws).map fun p : Int × PyData => p.1) = ws.map Thing.id := by
        unfold thsM
        rw [List.map_map]
        rfl
      refine q1_if0 (d := none) (et1_orF (et1_len rfl g4 (by rw [lm]; omega)) fun H4 e4 => (et1_B (ev1_any (as := thsM ws) (p := fun p => decide (x.nid ≤ p.1)) ?_)).is ?_) fun H4 e4 => ?_
      · have z := ev1_keys (K := K) (d := none) (σ := [some v0, some v1, x2, some (.ref p3), x4, x5, x6, x7]) (i := 3) (j := 4) (vs := [4]) (fun _ => true) (fun k => .bool (decide (x.nid ≤ k))) (DOk.no _) (by omega) (DdX.up e4 g4) rfl (fun pp _ H1 e => et_yes) (fun pp _ H1 e _ => ev_ge (ev_vD (i := 4) rfl (.int _)) (df1 (ev_vD (i := 1) rfl (upw e (up e4 h1')))))
        rw [show (thsM ws).filter (fun _ => true) = thsM ws from filter_true _] at z
        exact z
      · rw [List.any_eq_false]
        intro pp hp
        obtain ⟨t, h3, rfl⟩ := List.mem_map.mp hp
        have h5 := hb.ths.below t (hw.1 t h3)
        rw [← L.nid] at h5
        show ¬ decide (x.nid ≤ t.id) = true
        (rw [decide_eq_false (by omega)])
        decide
      have h1'' := up e4 h1'
      have g4' := DdX.up e4 g4
      have bl : b.things.length ≤ 40000 := by omega
      have er : (⟨x.tick, x.nid, x.luck, b.things⟩ : Wd) = b := by
        rw [L.tick, L.nid, L.luck]
      refine s_ret (d := none) (F := Wp K CW b) ?_ fun v H5 e5 g => q v H5 ((g1.trans e4).trans e5) g
      have z := ev_callP (d := none) (σ := [some v0, some v1, x2, some (.ref p3), x4, x5, x6, x7]) (H := H4) (res := Wp K CW) (pre := fun x : Wd => x.things.length ≤ 40000) (args := fun x : Wd => [D K (.int x.tick), D K (.int x.nid), D K (.int x.luck), D K (thsD x.things)]) (⟨x.tick, x.nid, x.luck, b.things⟩ : Wd) bl
        (ea_cons (df0 (ev_vD (i := 1) rfl h1'')) (ea_cons (df1 (ev_vD (i := 1) rfl h1'')) (ea_cons (df2 (ev_vD (i := 1) rfl h1'')) (ea_cons (F := D K (thsD b.things)) (ev_tupL (ev_lc1y (j := 4) (vs := [4]) (as := b.things) (Item := fun t : Thing => D K (.int t.id)) Thing.d (DOk.no _) bl (es_lst (enc := fun t : Thing => PyData.int t.id) ((ev_sortD (zs := b.things.map Thing.id) (DOk.no _) (ev_vM (i := 3) rfl g4'.dd) (by omega) ?_).isL (by rw [List.map_map]; rfl))) fun t ht y H1 e it => ev_dget (ev_vM (i := 3) rfl (upw e g4'.dd)) (ev_vD (i := 4) rfl it) ?_)) ea_nil))))
      · rw [er] at z
        exact z
      · intro ys hp hs
        exact J.ids hb (by rw [← eids]; exact hp) hs
      · rw [thsM_get, look_of J.nd (hw.2 t ht)]
        rfl
end
end Kp
set_option maxHeartbeats 410000
/-! KpS: set(xs) of a list, of a tuple: opened once, the loop apart. -/
namespace Kp
open L2 PySem PySem.Spec PyProof.Rows
/-- an empty set as it is laid -/
abbrev set0 (w : World) : Obj := { cls := .type "set", dict := none, data := .set #[] 0 (.fresh 0 0 (!w.params.followText "set-order")) }
abbrev it0 (T : String) (l : Addr) : Obj := { cls := .type (T ++ "_iterator"), data := .fields #[.ref l, .int 0 0] }
section
variable {P : Program} {A : Around} {w : World} {E : Value → Shared → Prop} {s : Shared}
set_option maxHeartbeats 3210000 in
theorem set_openL {l : Addr} {items : Array Value} {Good : Heap → Prop} {Q : Value → Shared → Prop} (hl : s.heap.IsList l items)
    (loop : ∀ R : Result → Shared → Prop, (∀ h' tk, Good h' → (∀ b o, s.heap.get? b = some o → h'.get? b = some o) → R (.ok (.ret .none)) { s with heap := h', toks := tk }) →
      codeAny (model P w) A.in1.in1 (.builtin "set.update.loop" ⟨[.ref s.heap.objs.size, .ref (s.heap.push (set0 w)).objs.size], []⟩) R { s with heap := (s.heap.push (set0 w)).push { cls := .type "list_iterator", data := .fields #[.ref l, .int 0 0] } })
    (h : ∀ h' tk, Good h' → (∀ b o, s.heap.get? b = some o → h'.get? b = some o) → Q (.ref s.heap.objs.size) { s with heap := h', toks := tk }) : wpAny (model P w) A (call (.type "set") [.ref l]) Q E s := by
  (obtain ⟨c, tl, hmro⟩ := F.called_set.mro)
  (have hmade := F.called_set.made)
  have hsub := F.called_set.sub
  (refine wpAny_call (codeAny_of_tree ?_))
  (show wpAny _ _ (callAny (.type "set") _) _ _ _)
  (refine wpAny_pure ⟨Code.quiet_builtin _ (by decide +kernel), codeAny_builtin F.entry_type_call ?_⟩)
  (rw [Around.under_plain (weight_type_call_type "set" [.ref l] []) rfl])
  (have h1 := F.called_set.notType)
  (have h2 := F.called_set.canCreate)
  (have hct := F.typeCall_set_1 (.ref l))
  repeat (any_goals (first | wp_step | assumption))
  refine codeAny_mono (code_set_led1 (.ref l) (E := E) (Q₁ := fun obj s₁ => obj = .ref s.heap.objs.size ∧ s₁ = { s with heap := s.heap.push (set0 w) }) ⟨rfl, rfl⟩) fun r s₁ hr => ?_
  rcases r with e | fl
  · exact hr
  cases fl with
  | ret obj =>
    obtain ⟨rfl, rfl⟩ := hr
    have hT : Shared.TypeIs { s with heap := s.heap.push (set0 w) } (.ref s.heap.objs.size) "set" := ⟨_, Heap.get?_push_size _ rfl, rfl⟩
    (have hli := F.called_set.init.lookup)
    (have hbi := F.called_set.init.bind (.ref s.heap.objs.size))
    repeat (any_goals (first | wp_step | assumption))
    refine codeAny_mono (codeAny_call_builtin (R := wants (fun r s₂ => r = .none ∧ ∃ h' tk, s₂ = { s with heap := h', toks := tk } ∧ Good h' ∧ ∀ b o, s.heap.get? b = some o → h'.get? b = some o) E) F.called_set.init.plain F.entry_set_init (check_set_init_1 hT ?_)) fun r₂ s₂ hr₂ => ?_
    · obtain ⟨⟨ocls, odict, odata, oslots⟩, hol, hcl, nl, hdl⟩ := hl
      simp only at hcl hdl
      subst hcl hdl
      have old := Heap.get?_push_of_some (set0 w) hol
      have sl1 := F.sub_list_set
      have sl2 := F.sub_list_frozenset
      have ne : (Value.type "list" == Value.type "dict") = false := by decide
      have isL : (s.heap.push (set0 w)).IsList l items := ⟨_, old, rfl, nl, rfl⟩
      have top := Heap.get?_push_size s.heap (o := set0 w) rfl
      (unfold Builtin.«set.__init__» noKeywords Builtin.Frozenset.updateFrom)
      generalize hPI : pyIter = PI
      wp_walk
      subst hPI
      refine wpAny_pyIter_list isL (wpAny_bind (wpAny_runValue (loop _ fun h' tk g k => ?_)))
      refine wpAny_pure ?_
      (show wpAny _ _ (ret Value.none) _ _ _)
      exact wpAny_pure ⟨rfl, h', tk, rfl, g, k⟩
    · rcases r₂ with e | fl₂
      · exact hr₂
      cases fl₂ with
      | ret r =>
        obtain ⟨rfl, h', tk, rfl, g, k⟩ := hr₂
        repeat (any_goals (first | wp_step | assumption))
        exact h _ _ g k
      | _ => exact hr₂.elim
  | _ => exact hr.elim
set_option maxHeartbeats 3210000 in
theorem set_openT {l : Addr} {items : Array Value} {Good : Heap → Prop} {Q : Value → Shared → Prop} (hl : s.heap.IsTuple l items)
    (loop : ∀ R : Result → Shared → Prop, (∀ h' tk, Good h' → (∀ b o, s.heap.get? b = some o → h'.get? b = some o) → R (.ok (.ret .none)) { s with heap := h', toks := tk }) →
      codeAny (model P w) A.in1.in1 (.builtin "set.update.loop" ⟨[.ref s.heap.objs.size, .ref (s.heap.push (set0 w)).objs.size], []⟩) R { s with heap := (s.heap.push (set0 w)).push { cls := .type "tuple_iterator", data := .fields #[.ref l, .int 0 0] } })
    (h : ∀ h' tk, Good h' → (∀ b o, s.heap.get? b = some o → h'.get? b = some o) → Q (.ref s.heap.objs.size) { s with heap := h', toks := tk }) : wpAny (model P w) A (call (.type "set") [.ref l]) Q E s := by
  (obtain ⟨c, tl, hmro⟩ := F.called_set.mro)
  (have hmade := F.called_set.made)
  have hsub := F.called_set.sub
  (refine wpAny_call (codeAny_of_tree ?_))
  (show wpAny _ _ (callAny (.type "set") _) _ _ _)
  (refine wpAny_pure ⟨Code.quiet_builtin _ (by decide +kernel), codeAny_builtin F.entry_type_call ?_⟩)
  (rw [Around.under_plain (weight_type_call_type "set" [.ref l] []) rfl])
  (have h1 := F.called_set.notType)
  (have h2 := F.called_set.canCreate)
  (have hct := F.typeCall_set_1 (.ref l))
  repeat (any_goals (first | wp_step | assumption))
  refine codeAny_mono (code_set_led1 (.ref l) (E := E) (Q₁ := fun obj s₁ => obj = .ref s.heap.objs.size ∧ s₁ = { s with heap := s.heap.push (set0 w) }) ⟨rfl, rfl⟩) fun r s₁ hr => ?_
  rcases r with e | fl
  · exact hr
  cases fl with
  | ret obj =>
    obtain ⟨rfl, rfl⟩ := hr
    have hT : Shared.TypeIs { s with heap := s.heap.push (set0 w) } (.ref s.heap.objs.size) "set" := ⟨_, Heap.get?_push_size _ rfl, rfl⟩
    (have hli := F.called_set.init.lookup)
    (have hbi := F.called_set.init.bind (.ref s.heap.objs.size))
    repeat (any_goals (first | wp_step | assumption))
    refine codeAny_mono (codeAny_call_builtin (R := wants (fun r s₂ => r = .none ∧ ∃ h' tk, s₂ = { s with heap := h', toks := tk } ∧ Good h' ∧ ∀ b o, s.heap.get? b = some o → h'.get? b = some o) E) F.called_set.init.plain F.entry_set_init (check_set_init_1 hT ?_)) fun r₂ s₂ hr₂ => ?_
    · obtain ⟨⟨ocls, odict, odata, oslots⟩, hol, hcl, nl, hdl⟩ := hl
      simp only at hcl hdl
      subst hcl hdl
      have old := Heap.get?_push_of_some (set0 w) hol
      have sl1 := F.sub_tuple_set
      have sl2 := F.sub_tuple_frozenset
      have ne : (Value.type "tuple" == Value.type "dict") = false := by decide
      have isL : (s.heap.push (set0 w)).IsTuple l items := ⟨_, old, rfl, nl, rfl⟩
      have top := Heap.get?_push_size s.heap (o := set0 w) rfl
      (unfold Builtin.«set.__init__» noKeywords Builtin.Frozenset.updateFrom)
      generalize hPI : pyIter = PI
      wp_walk
      subst hPI
      refine wpAny_pyIter_tuple isL (wpAny_bind (wpAny_runValue (loop _ fun h' tk g k => ?_)))
      refine wpAny_pure ?_
      (show wpAny _ _ (ret Value.none) _ _ _)
      exact wpAny_pure ⟨rfl, h', tk, rfl, g, k⟩
    · rcases r₂ with e | fl₂
      · exact hr₂
      cases fl₂ with
      | ret r =>
        obtain ⟨rfl, h', tk, rfl, g, k⟩ := hr₂
        repeat (any_goals (first | wp_step | assumption))
        exact h _ _ g k
      | _ => exact hr₂.elim
  | _ => exact hr.elim
end
end Kp
set_option maxHeartbeats 410000
/-! KpS2: set(xs) of ints. -/
namespace Kp
open L2 PySem PySem.Spec PyProof.Rows
section
variable {X : Cx}
/-- set(xs) of a list of ints -/
def rSetI (K : PySem.W.Frag) (w : World) : List V → Hp → VK → Prop := fun xs H Q => ∃ (l : Addr) (ns : List Int), xs = [V.ref l] ∧ SqL K H l (ns.map V.int) ∧ ns.length ≤ 4000 ∧ ∀ p c, H p = none → (∀ D : List Int, (∀ n ∈ ns, n ∈ D) → c ≤ D.length) → Q (.ref p) (upd H p (SetO w p (fun j => decide (j ∈ ns)) c))
theorem nodup_leI : ∀ {xs ys : List Int}, xs.Nodup → (∀ x ∈ xs, x ∈ ys) → xs.length ≤ ys.length
  | [], _, _, _ => (Nat.zero_le _)
  | x :: xs, ys, hn, hs => by
    (obtain ⟨h1, h2⟩ := List.nodup_cons.mp hn)
    have hx := hs x List.mem_cons_self
    have ih := nodup_leI (ys := ys.erase x) h2 fun y hy => (List.mem_erase_of_ne fun e : y = x => h1 (by rw [← e]; exact hy)).mpr (hs y (List.mem_cons_of_mem _ hy))
    rw [List.length_erase_of_mem hx] at ih
    have := List.length_pos_of_mem hx
    rw [List.length_cons]
    omega
theorem setR_few {w : World} {h : Heap} {a : Addr} {S : Int → Bool} {n : Nat} (R : SetR w h a S n) {D : List Int} (hD : ∀ k, S k = true → k ∈ D) : n ≤ D.length := by
  (obtain ⟨o, es, ep, t, ho, hex, hd, g, nd, hm, hb, hf, hn, hr, hl⟩ := R)
  have z := nodup_leI nd (ys := D) fun k hk => hD k ((hm k).mpr hk)
  rw [List.length_map, Array.length_toList, hn] at z
  exact z
theorem call_setI (hc : X.calm = true) : CallR X (.type "set") (rSetI X.K X.w) := by
  (intro pins s σ H xs us Q I r h)
  obtain ⟨l, ns, rfl, sq, hn, q⟩ := h
  obtain ⟨u, rfl, ru⟩ := r.one
  cases (show u = Value.ref l from ru)
  obtain ⟨its, rv, pl, _⟩ := I.list sq
  have hi : IntsAre its ns := intsAre_of rv
  have len : its.toArray.size = ns.length := by rw [List.size_toArray, ← rv.length, List.length_map]
  have isL : s.heap.IsList l its.toArray := pl.isList
  have lt : l < s.heap.objs.size := let ⟨_, z, _⟩ := isL; Heap.lt_size z
  have sz : (s.heap.push (set0 X.w)).objs.size = s.heap.objs.size + 1 := Heap.size_push ..
  have hh : X.A.in1.in1.in1.handled = none := I.ok.hd hc
  refine set_openL (Good := fun h' => ∃ c, SetR X.w h' s.heap.objs.size (fun j => decide (j ∈ ns)) c) isL (fun R k => ?_) fun h' tk ⟨c, g⟩ kept => ?_
  · have ne : l ≠ (s.heap.push (set0 X.w)).objs.size := by rw [sz]; exact Nat.ne_of_lt (Nat.lt_succ_of_lt lt)
    refine set_update_ints ((Walks.list hh _ l ne its.toArray).toS) s.heap.objs.size ?_ ns len (by show ns.length + 1 < scanBound; unfold scanBound; omega) (fun i v hv => ?_) its.toArray.size 0 _ (by omega) (Nat.zero_le _) ⟨⟨_, Heap.get?_push_size _ rfl, rfl, rfl⟩, (isL.push _).push _⟩ ⟨0, Nat.le_refl 0, setR_new_at (Heap.get?_push_of_some _ (Heap.get?_push_size _ rfl))⟩ fun s' c hm hc' hS => ?_
    · rw [sz]
      simp only [List.mem_cons, List.not_mem_nil, or_false, not_or]
      exact ⟨Nat.ne_of_lt (Nat.lt_succ_self _), Nat.ne_of_gt lt⟩
    · have lt' : i < ns.length := by rw [← len]; exact (Array.getElem?_eq_some_iff.mp hv).1
      obtain ⟨t, e⟩ := PyProof.Rows.IntsAre.int_at hi i v (by rw [← Array.getElem?_toList] at hv; exact hv)
      refine ⟨ns[i], t, List.getElem?_eq_getElem lt', ?_⟩
      rw [e, List.getD_eq_getElem?_getD, List.getElem?_eq_getElem lt']
      rfl
    · have es : s' = { s with heap := s'.heap, toks := s'.toks } := by
        (obtain ⟨h', g2, d', tk', os'⟩ := s')
        (have eg : g2 = s.gens := hm.gens)
        (have ed : d' = s.drawn := hm.drawn)
        have eo : os' = s.os := hm.os
        subst eg ed eo
        rfl
      rw [es]
      refine k _ _ ⟨c, hS⟩ fun b o z => hm.heap b o ?_ (Heap.get?_push_of_some _ (Heap.get?_push_of_some _ z))
      have lb : b < s.heap.objs.size := Heap.lt_size z
      rw [sz]
      simp only [List.mem_cons, List.not_mem_nil, or_false, not_or]
      exact ⟨Nat.ne_of_lt lb, Nat.ne_of_lt (Nat.lt_succ_of_lt lb)⟩
  · have hp : H s.heap.objs.size = none := I.hok.fresh (Nat.le_refl _)
    exact ⟨.ref s.heap.objs.size, _, I.laid (t' := tk) kept (Nat.le_refl _) (setO_new g), rfl, q _ c hp fun D hD => setR_few g fun k hk => hD k (of_decide_eq_true hk)⟩
end
end Kp
set_option maxHeartbeats 410000
/-! Kp11: is_difference, difference, applied, size. -/
namespace Kp
open L2 PySem PySem.Spec PyProof.Rows
def insU (x : Int) : List Int → List Int
  | [] => [x]
  | y :: ys => if x < y then x :: y :: ys else if x = y then y :: ys else y :: insU x ys
theorem insU_mem (x k : Int) : ∀ ys : List Int, k ∈ insU x ys ↔ k = x ∨ k ∈ ys
  | [] => by simp [insU]
  | y :: ys => by
    unfold insU
    split
    · rw [List.mem_cons]
    · split
      · rename_i h
        subst h
        simp
      · rw [List.mem_cons, insU_mem x k ys, List.mem_cons]
        constructor
        · rintro (h | h | h)
          · exact .inr (.inl h)
          · exact .inl h
          · exact .inr (.inr h)
        · rintro (h | h | h)
          · exact .inr (.inl h)
          · exact .inl h
          · exact .inr (.inr h)
theorem insU_asc (x : Int) : ∀ {ys : List Int}, Asc ys → Asc (insU x ys)
  | [], _ => List.pairwise_singleton _ _
  | y :: ys, h => by
    (obtain ⟨h1, h2⟩ := List.pairwise_cons.mp h)
    unfold insU
    split
    · rename_i lt
      refine List.pairwise_cons.mpr ⟨fun z hz => ?_, h⟩
      (rcases List.mem_cons.mp hz with rfl | hz)
      · exact lt
      · exact Int.lt_trans lt (h1 z hz)
    · split
      · exact h
      · refine List.pairwise_cons.mpr ⟨fun z hz => ?_, insU_asc x h2⟩
        rcases (insU_mem x z ys).mp hz with rfl | hz
        · omega
        · exact h1 z hz
def sortU (ns : List Int) : List Int := ns.foldr insU []
theorem sortU_mem (k : Int) : ∀ ns : List Int, k ∈ sortU ns ↔ k ∈ ns
  | [] => Iff.rfl
  | n :: ns => by
    show k ∈ insU n (sortU ns) ↔ _
    rw [insU_mem, sortU_mem k ns, List.mem_cons]
theorem insU_len (x : Int) : ∀ ys : List Int, (insU x ys).length ≤ ys.length + 1
  | [] => Nat.le_refl _
  | y :: ys => by
    unfold insU
    split
    · exact Nat.le_refl _
    · split
      · exact Nat.le_succ _
      · exact Nat.succ_le_succ (insU_len x ys)
theorem sortU_len : ∀ ns : List Int, (sortU ns).length ≤ ns.length
  | [] => Nat.le_refl _
  | n :: ns => Nat.le_trans (insU_len n _) (Nat.succ_le_succ (sortU_len ns))
theorem sortU_asc : ∀ ns : List Int, Asc (sortU ns)
  | [] => .nil
  | n :: ns => insU_asc n (sortU_asc ns)
structure DfOk (x : Df) : Prop where
  tick : TickOk x.tick
  nid : TickOk x.nid
  luck : LuckOk x.luck
  parts : PartsOk x.gone x.came x.chg
  few : ∃ D : List Int, D.length < 64 ∧ ∀ c ∈ x.chg, c.1 ∈ D
  nd : (x.gone ++ (x.came.map Thing.id ++ sortU (x.chg.map (·.1)))).Nodup
theorem Leads.ok {a b : Wd} {x : Df} (hb : b.Ok) (L : Leads a b x) : DfOk x := by
  have few := hb.ths.few
  have inb : ∀ c ∈ x.chg, c.1 ∈ b.things.map Thing.id := fun c hc => by
    obtain ⟨t, u, _, h2, _⟩ := L.chg c hc
    obtain ⟨h3, h4⟩ := look_some h2
    exact List.mem_map.mpr ⟨u, h3, h4⟩
  refine ⟨by rw [L.tick]; exact hb.tick, by rw [L.nid]; exact hb.nid, by rw [L.luck]; exact hb.luck, L.parts, ⟨b.things.map Thing.id, by rw [List.length_map]; omega, inb⟩, ?_⟩
  refine List.nodup_append.mpr ⟨asc_nodup L.parts.gasc, List.nodup_append.mpr ⟨asc_nodup L.parts.casc, asc_nodup (sortU_asc _), ?_⟩, ?_⟩
  · intro k hk k' hk' e
    subst e
    obtain ⟨v, h1, h2⟩ := List.mem_map.mp hk
    obtain ⟨c, h3, h4⟩ := List.mem_map.mp ((sortU_mem k _).mp hk')
    obtain ⟨t, u, _, h5, _, h6, _⟩ := L.chg c h3
    obtain ⟨h7, h8⟩ := look_some h5
    have e : u = v := uniq (asc_nodup hb.ths.ids) h7 (L.came v h1) (h8.trans (h4.trans h2.symm))
    exact h6 (e ▸ h1)
  · intro k hk k' hk' e
    subst e
    have no := ((L.gone k).mp hk).2
    rcases List.mem_append.mp hk' with h | h
    · obtain ⟨v, h1, h2⟩ := List.mem_map.mp h
      exact no (List.mem_map.mpr ⟨v, L.came v h1, h2⟩)
    · obtain ⟨c, h3, h4⟩ := List.mem_map.mp ((sortU_mem k _).mp h)
      exact no (h4 ▸ inb c h3)
section
variable {K : PySem.W.Frag} {d : Option Addr} {σ : L2.St} {H : Hp} {te ta tb : TE} {w : World}
theorem ev_sortSet {ns D : List Int} (hd : DOk d H) (h : Ev d te σ H (Ls K d (ns.map .int))) (hl : ns.length ≤ 4000) (h64 : D.length < 64) (hD : ∀ n ∈ ns, n ∈ D) : Ev d (tCB (rSortedSet w) (tCons (tCB (rSetI K w) (tCons te tNil)) tNil)) σ H (Ls K d ((sortU ns).map .int)) := fun H1 e Q q =>
  h H1 e _ fun v H2 e2 f => by
    obtain ⟨p, xs, rfl, np, h1, h2⟩ := f
    rw [DtA.ints h2] at h1
    refine ⟨p, ns, rfl, .inl (.inl h1), hl, fun l c hln hc => ⟨l, _, c, rfl, upd_same, Nat.lt_of_le_of_lt (hc D hD) h64, fun ys r hy hm _ hr => ?_⟩⟩
    have ey : ys = sortU ns := asc_ext hy (sortU_asc ns) fun k => by
      rw [hm k, sortU_mem]
      exact decide_eq_true_iff
    rw [ey]
    have e3 : Ext d H1 (upd H2 l (SetO w l (fun j => decide (j ∈ ns)) c)) := e2.trans (Ext.new hln)
    exact q _ _ (e3.trans (Ext.new hr)) ⟨r, _, rfl, (hd.up (e.trans e3.wk)).ne hr, upd_same, DtA.of_ints _⟩
theorem ev_lenSet {ns : List Int} (h : Ev d te σ H (Ls K d (ns.map .int))) (hl : ns.length ≤ 4000) (hn : ns.Nodup) : Ev d (RZ.tLenSetI K te) σ H (D K (.int (ns.length : Int))) := fun H1 e Q q =>
  h H1 e _ fun v H2 e2 f => by
    obtain ⟨p, xs, rfl, np, h1, h2⟩ := f
    rw [DtA.ints h2] at h1
    exact ⟨p, ns, rfl, .inl (.inl h1), hn, hl, q _ H2 e2 (.int _)⟩
end
section
variable {K : PySem.W.Frag} {d : Option Addr} {σ : L2.St} {H : Hp} {te : TE} {tx : TS} {E : Ends}
theorem et_isN {x : Wd} {CW : Addr} (h : Ev d te σ H (Wp K CW x)) : EvT d (tTest (tOp (fun x y H Q => y = V.non ∧ Q (.bl (decide (x = .non))) H) te (tC .non))) σ H (· = false) := fun H1 e Q q =>
  h H1 e _ fun v H2 e2 ⟨a, dx, vs, th, e0, _⟩ => by
    subst e0
    exact ⟨rfl, false, rfl, q false H2 e2 rfl⟩
theorem q_asg3 {i j l : Nat} {p q r : PyData} (h : Ev d te σ H (D K (.tuple [p, q, r]))) (k : ∀ y z u H1, Ext d H H1 → D K p y H1 → D K q z H1 → D K r u H1 → tx E (((σ.set i (some y)).set j (some z)).set l (some u)) H1) : tSeq (tAsg te (gTup K 3 (gCons (gName i) (gCons (gName j) (gCons (gName l) gNil))))) tx E σ H :=
  h H (Wk.refl H) _ fun v H1 e1 f => g3_run f fun y z u h1 h2 h3 => k y z u H1 e1 h1 h2 h3
end
def sizeD (x : Df) : Int := 3 + x.gone.length + x.chg.length + (x.came.map fun t => 1 + (t.nums.length : Int)).sum
section
variable {P : Program} {w : World} {K : PySem.W.Frag} {mg : Str → Option Value} {base : Heap} {CK CW gE : Addr}
theorem sc_is_difference : FnScope ["value", "gone", "came", "changed", "ids", "one"] ["value"] (C8.fnScope s_is_difference) := C8.fnScope_by (by decide +kernel)
abbrev sp_is_difference (K : PySem.W.Frag) : Sp := Pu DfOk (fun x => [D K x.d]) (fun _ => D K (.bool true))
theorem c_is_difference (T : Txt K mg CK CW gE) : C8.Cal P w K mg base 6 "is_difference" (sp_is_difference K) [] := by
  refine cal_of T.d_is_difference sc_is_difference (fun _ => rfl) fun cdv f A outer s H vs Q E hr x hx _ hA q => ?_
  obtain ⟨v0, rfl, h0⟩ := all1 hA
  refine ⟨_, (pss_cons (ps_if (pt_not (pt_val (C8.pe_c (c_is_tuple_within T) hr (by decide) (by rfl) (pa_cons (pv 0) (pa_cons (C8.pe_gc (by rfl) T.c_PARTS) (pa_cons (C8.pe_gc (by rfl) T.c_PARTS) pa_nil)))))) (pss_one (ps_ret pe_bl)) pss_nil) (pss_cons (ps_if (PW.pt (pw_or (pt_not (pt_val (C8.pe_c (c_is_tick T) hr (by decide) (by rfl) (pa_cons (pe_ix ix_tup (pv 0) pe_int (fun _ _ => rfl)) pa_nil)))) (pw_or (pt_not (pt_val (C8.pe_c (c_is_tick T) hr (by decide) (by rfl) (pa_cons (pe_ix ix_tup (pv 0) pe_int (fun _ _ => rfl)) pa_nil)))) (pw_or1 (pt_not (pt_val (C8.pe_c (c_is_luck T) hr (by decide) (by rfl) (pa_cons (pe_ix ix_tup (pv 0) pe_int (fun _ _ => rfl)) pa_nil)))))))) (pss_one (ps_ret pe_bl)) pss_nil) (pss_cons (ps_asg (pe_slice sl_tupA (pv 0) (po_some (C8.pe_gc (by rfl) T.c_HEAD)) po_none) (pg_tup rfl (pgs_cons (pg_name (i := 1) sc_is_difference.nd rfl (by first | exact Or.inl rfl | exact Or.inr rfl)) (pgs_cons (pg_name (i := 2) sc_is_difference.nd rfl (by first | exact Or.inl rfl | exact Or.inr rfl)) (pgs_cons (pg_name (i := 3) sc_is_difference.nd rfl (by first | exact Or.inl rfl | exact Or.inr rfl)) pgs_nil))))) (pss_cons (ps_if (pt_not (pt_val (C8.pe_c (c_are_parts T) hr (by decide) (by rfl) (pa_cons (pv 1) (pa_cons (pv 2) (pa_cons (pv 3) pa_nil)))))) (pss_one (ps_ret pe_bl)) pss_nil) (pss_cons (ps_set (i := 4) sc_is_difference.nd rfl (by first | exact Or.inl rfl | exact Or.inr rfl) (pe_lst (StX.pa_star (pv 1) (StX.pa_star (pe_lc (own := [("one", 5)]) rfl sc_is_difference.nd (pi_tup (pv 2)) (blkOk_by (own := [("one", 5)]) (N := ["value", "gone", "came", "changed", "ids", "one"]) (sc := C8.fnScope (topS 51)) (by decide +kernel)) (fun _ _ _ _ _ => (pg_name (i := 5) sc_is_difference.nd rfl (by first | exact Or.inl rfl | exact Or.inr rfl))) (fun _ _ _ _ _ => pts_nil) (fun _ _ _ _ _ => (pe_ix (r := rIxT K) ix_tup (pv 5) pe_int (fun _ _ => rfl)))) (StX.pa_star (pe_callB (cr_sortedSet rfl) (by rfl) T.b_sorted bt_sorted (pa_cons (pe_callTy (call_setI rfl) (by rfl) T.b_set bt_set (pa_cons (pe_lc (own := [("one", 5)]) rfl sc_is_difference.nd (pi_tup (pv 3)) (blkOk_by (own := [("one", 5)]) (N := ["value", "gone", "came", "changed", "ids", "one"]) (sc := C8.fnScope (topS 51)) (by decide +kernel)) (fun _ _ _ _ _ => (pg_name (i := 5) sc_is_difference.nd rfl (by first | exact Or.inl rfl | exact Or.inr rfl))) (fun _ _ _ _ _ => pts_nil) (fun _ _ _ _ _ => (pe_ix (r := rIxT K) ix_tup (pv 5) pe_int (fun _ _ => rfl)))) pa_nil)) pa_nil)) pa_nil))))) (pss_one (ps_ret (pe_cmpR (op_eqD hr.units) (RZ.pe_lenSetI (by rfl) T.b_len (by rfl) T.b_set (pv 4)) (pe_callB call_len_seq (by rfl) T.b_len bt_len (pa_cons (pv 4) pa_nil)) (nomark _))))))))), ?_⟩
  have l1 := hx.parts.l1
  have l2 := hx.parts.l2
  have l3 := hx.parts.l3
  refine q_if0 (d := none) (et_notF (et_B (ev_callP (([.int x.tick, .int x.nid, .int x.luck, .tuple (x.gone.map .int), thsD x.came, .tuple (x.chg.map chD)] : List PyData), (6 : Int), (6 : Int)) ⟨by show (6 : Int) ≤ 6; decide, by show (6 : Int) ≤ 6; decide⟩ (ea_cons (dfa (ev_vD rfl h0)) (ea_cons ev_int (ea_cons ev_int ea_nil)))))) fun H1 e1 => ?_
  replace h0 := up e1 h0
  refine q_if0 (d := none) (et_orF (et_notF (et_B (ev_callP x.tick hx.tick (ea_cons (df0 (ev_vD rfl h0)) ea_nil)))) (et_orF (et_notF (et_B (ev_callP x.nid hx.nid (ea_cons (df1 (ev_vD rfl h0)) ea_nil)))) (et_notF (et_B (ev_callP x.luck hx.luck (ea_cons (df2 (ev_vD rfl h0)) ea_nil)))))) fun H2 e2 => ?_
  replace h0 := up e2 h0
  refine q_asg3 (d := none) (ev_slT (es := [.tuple (x.gone.map .int), thsD x.came, .tuple (x.chg.map chD)]) (dfa (ev_vD rfl h0)) (eo_int (i := 3)) eo_none (cut_from _ 3)) fun y1 y2 y3 H3 e3 z1 z2 z3 => ?_
  have h2 : D K (.tuple (x.came.map Thing.d)) y2 H3 := z2
  refine q_if0 (d := none) (et_notF (et_B (ev_callP ((x.gone, x.came, x.chg) : DfA) hx.parts (ea_cons (ev_vD rfl z1) (ea_cons (ev_vD rfl z2) (ea_cons (ev_vD rfl z3) ea_nil)))))) fun H4 e4 => ?_
  replace z1 := up e4 z1
  replace h2 := up e4 h2
  replace z3 := up e4 z3
  obtain ⟨D0, d64, hD⟩ := hx.few
  let ids := x.gone ++ (x.came.map Thing.id ++ sortU (x.chg.map (·.1)))
  have hids : ids.length ≤ 4000 := by
    show (x.gone ++ (x.came.map Thing.id ++ sortU (x.chg.map (·.1)))).length ≤ 4000
    have z := sortU_len (x.chg.map (·.1))
    rw [List.length_map] at z
    rw [List.length_append, List.length_append, List.length_map]
    omega
  refine q_set (d := none) (F := Ls K none (ids.map .int)) ?_ fun v4 H5 e5 h4 => ?_
  · have e : ids.map PyData.int = x.gone.map PyData.int ++ (x.came.map (fun t : Thing => PyData.int t.id) ++ ((sortU (x.chg.map (·.1))).map PyData.int ++ [])) := by
      show (x.gone ++ (x.came.map Thing.id ++ sortU (x.chg.map (·.1)))).map PyData.int = _
      rw [List.map_append, List.map_append, List.map_map, List.append_nil]
      rfl
    rw [e]
    refine ev_lst (ei_starT (ev_vD rfl z1) (ei_starL (ev_lc1y (fun t : Thing => .int t.id) (DOk.no _) (by omega) (es_tup (ev_vD rfl h2)) fun t _ y H1 e it => at0 (ev_vD rfl (d3 it))) (ei_starL (ev_sortSet (D := D0) (DOk.no _) ((ev_lc1y (fun c : Chg => .int c.1) (DOk.no _) (by omega) (es_tup (ev_vD rfl z3)) fun c _ y H1 e it => at0 (ev_vD rfl (chd3 it))).isL (by rw [List.map_map]; rfl)) (by rw [List.length_map]; omega) d64 fun n hn => ?_) ei_nil))) ?_ (DOk.no _)
    · obtain ⟨c, hc, rfl⟩ := List.mem_map.mp hn
      exact hD c hc
    · rw [← e, List.length_map]
      omega
  refine s_ret (d := none) ((ev_eqI (ev_lenSet (ev_vL rfl h4) hids hx.nd) (ev_lenL (n := (ids.length : Int)) (ev_vL rfl h4) (by rw [List.length_map]))).is ?_) fun v H6 e6 g => q v H6 (((((e1.trans e2).trans e3).trans e4).trans e5).trans e6) g
  rw [decide_eq_true rfl]
theorem sc_require_difference : FnScope ["value"] ["value"] (C8.fnScope s_require_difference) := C8.fnScope_by (by decide +kernel)
abbrev sp_require_difference (K : PySem.W.Frag) : Sp := Pu DfOk (fun x => [D K x.d]) (fun _ => D K .none)
theorem c_require_difference (T : Txt K mg CK CW gE) : C8.Cal P w K mg base 7 "require_difference" (sp_require_difference K) [] := by
  refine cal_of T.d_require_difference sc_require_difference (fun _ => rfl) fun cdv f A outer s H vs Q E hr x hx _ hA q => ?_
  obtain ⟨v0, rfl, h0⟩ := all1 hA
  refine ⟨_, (pss_one (ps_if (pt_not (pt_val (C8.pe_c (c_is_difference T) hr (by decide) (by rfl) (pa_cons (pv 0) pa_nil)))) (pss_one ps_never) pss_nil)), ?_⟩
  exact s_if (d := none) (et_notF (et_B (ev_callP x hx (ea_cons (ev_vD rfl h0) ea_nil)))) (fun z => nomatch z) fun _ H1 e1 => q .non H1 e1 .non
theorem sc_difference : FnScope ["one", "other"] ["one", "other"] (C8.fnScope s_difference) := C8.fnScope_by (by decide +kernel)
theorem c_difference (T : Txt K mg CK CW gE) : C8.Cal P w K mg base 3 "difference" (sp_difference_in K CW) [] := by
  refine cal_of T.d_difference sc_difference (fun _ => rfl) fun cdv f A outer s H vs Q E hr p hp _ hA q => ?_
  obtain ⟨v0, v1, rfl, h0, h1⟩ := all2 hA
  refine ⟨_, (pss_cons (ps_expr (C8.pe_c (c_require_any_world T) hr (by decide) (by rfl) (pa_cons (pv 0) pa_nil))) (pss_cons (ps_expr (C8.pe_c (c_require_any_world T) hr (by decide) (by rfl) (pa_cons (pv 1) pa_nil))) (pss_one (ps_ret (C8.pe_c (c_difference_in T) hr (by decide) (by rfl) (pa_cons (pv 0) (pa_cons (pv 1) pa_nil))))))), ?_⟩
  refine q_drop (d := none) (ev_callP p.1 trivial (ea_cons (ev_vW rfl h0) ea_nil)) fun _ H1 e1 _ => ?_
  replace h0 := up e1 h0
  replace h1 := up e1 h1
  refine q_drop (d := none) (ev_callP p.2 trivial (ea_cons (ev_vW rfl h1) ea_nil)) fun _ H2 e2 _ => ?_
  replace h0 := up e2 h0
  replace h1 := up e2 h1
  exact s_ret (d := none) (ev_callP p hp (ea_cons (ev_vW rfl h0) (ea_cons (ev_vW rfl h1) ea_nil))) fun v H3 e3 g => q v H3 ((e1.trans e2).trans e3) g
theorem sc_applied : FnScope ["world", "told", "wrong", "found"] ["world", "told"] (C8.fnScope s_applied) := C8.fnScope_by (by decide +kernel)
theorem c_applied (T : Txt K mg CK CW gE) : C8.Cal P w K mg base 12 "applied" (sp_applied_in K CW) [] := by
  refine cal_of T.d_applied sc_applied (fun _ => rfl) fun cdv f A outer s H vs Q E hr p hp _ hA q => ?_
  obtain ⟨v0, v1, rfl, h0, h1⟩ := all2 hA
  obtain ⟨ha, hb, L⟩ := hp
  refine ⟨_, (pss_cons (ps_expr (C8.pe_c (c_require_any_world T) hr (by decide) (by rfl) (pa_cons (pv 0) pa_nil))) (pss_cons (ps_expr (C8.pe_c (c_require_difference T) hr (by decide) (by rfl) (pa_cons (pv 1) pa_nil))) (pss_cons (ps_set (i := 2) sc_applied.nd rfl (by first | exact Or.inl rfl | exact Or.inr rfl) (C8.pe_c (c_unfit_ids T) hr (by decide) (by rfl) (pa_cons (pv 0) (pa_cons (pv 1) pa_nil)))) (pss_cons (ps_if (pt_cmpR (op_neD hr.units) (pv 2) (pe_lst pa_nil) (nomark _)) (pss_one ps_never) pss_nil) (pss_cons (ps_set (i := 3) sc_applied.nd rfl (by first | exact Or.inl rfl | exact Or.inr rfl) (C8.pe_c (c_applied_in T) hr (by decide) (by rfl) (pa_cons (pv 0) (pa_cons (pv 1) pa_nil)))) (pss_cons (ps_if (pt_cmpR op_isN (pv 3) pe_non (nomark _)) (pss_one ps_never) pss_nil) (pss_one (ps_ret (pv 3))))))))), ?_⟩
  refine q_drop (d := none) (ev_callP p.1.1 trivial (ea_cons (ev_vW rfl h0) ea_nil)) fun _ H1 e1 _ => ?_
  replace h0 := up e1 h0
  replace h1 := up e1 h1
  refine q_drop (d := none) (ev_callP p.2 (L.ok hb) (ea_cons (ev_vD rfl h1) ea_nil)) fun _ H2 e2 _ => ?_
  replace h0 := up e2 h0
  replace h1 := up e2 h1
  refine q_set (d := none) (F := Ls K none []) (ev_callP (p.1.1, p.2) ⟨ha, L.fits⟩ (ea_cons (ev_vW rfl h0) (ea_cons (ev_vD rfl h1) ea_nil))) fun v2 H3 e3 h2 => ?_
  replace h0 := up e3 h0
  replace h1 := up e3 h1
  refine q_if0 (d := none) (et_testF (ev_neL (ev_vL rfl h2) (ev_lst ei_nil (sml rfl) (DOk.no _)) rfl rfl) rfl) fun H4 e4 => ?_
  replace h0 := up e4 h0
  replace h1 := up e4 h1
  refine q_set (d := none) (F := Wp K CW p.1.2) (ev_callP p ⟨ha, hb, L⟩ (ea_cons (ev_vW rfl h0) (ea_cons (ev_vD rfl h1) ea_nil))) fun v3 H5 e5 h3 => ?_
  refine q_if0 (d := none) (et_isN (ev_vW rfl h3)) fun H6 e6 => ?_
  exact s_ret (d := none) (ev_vW rfl (up e6 h3)) fun v H7 e7 g => q v H7 ((((((e1.trans e2).trans e3).trans e4).trans e5).trans e6).trans e7) g
theorem sc_size : FnScope ["told", "thing"] ["told"] (C8.fnScope s_size) := C8.fnScope_by (by decide +kernel)
abbrev sp_size (K : PySem.W.Frag) : Sp := Pu DfOk (fun x => [D K x.d]) (fun x => D K (.int (sizeD x)))
theorem c_size (T : Txt K mg CK CW gE) : C8.Cal P w K mg base 8 "size" (sp_size K) [] := by
  refine cal_of T.d_size sc_size (fun _ => rfl) fun cdv f A outer s H vs Q E hr x hx _ hA q => ?_
  obtain ⟨v0, rfl, h0⟩ := all1 hA
  have l2 := hx.parts.l2
  refine ⟨_, (pss_cons (ps_expr (C8.pe_c (c_require_difference T) hr (by decide) (by rfl) (pa_cons (pv 0) pa_nil))) (pss_one (ps_ret (pe_op op_add (pe_op op_add (pe_op op_add (C8.pe_gc (by rfl) T.c_HEAD) (pe_callB call_len_seq (by rfl) T.b_len bt_len (pa_cons (pe_ix ix_tup (pv 0) pe_int (fun _ _ => rfl)) pa_nil))) (pe_callB call_len_seq (by rfl) T.b_len bt_len (pa_cons (pe_ix ix_tup (pv 0) pe_int (fun _ _ => rfl)) pa_nil))) (pe_callB (cr_sum rfl) (by rfl) T.b_sum bt_sum (pa_cons (pe_lc (own := [("thing", 1)]) rfl sc_size.nd (pi_tup (pe_ix ix_tup (pv 0) pe_int (fun _ _ => rfl))) (blkOk_by (own := [("thing", 1)]) (N := ["told", "thing"]) (sc := C8.fnScope (topS 60)) (by decide +kernel)) (fun _ _ _ _ _ => (pg_name (i := 1) sc_size.nd rfl (by first | exact Or.inl rfl | exact Or.inr rfl))) (fun _ _ _ _ _ => pts_nil) (fun _ _ _ _ _ => (pe_op op_add pe_int (pe_callB (r := lenR K) call_len_seq (by rfl) T.b_len bt_len (pa_cons (pe_ix (r := rIxT K) ix_tup (pv 1) pe_int (fun _ _ => rfl)) pa_nil))))) pa_nil)))))), ?_⟩
  refine q_drop (d := none) (ev_callP x hx (ea_cons (ev_vD rfl h0) ea_nil)) fun _ H1 e1 _ => ?_
  replace h0 := up e1 h0
  exact s_ret (d := none) (ev_add (ev_add (ev_add ev_int (ev_lenT (df3 (ev_vD rfl h0)) (by rw [List.length_map]))) (ev_lenT (df5 (ev_vD rfl h0)) (by rw [List.length_map]))) (ev_sum (as := x.came) (p := fun t => 1 + (t.nums.length : Int)) (ev_lc1y (fun t : Thing => .int (1 + (t.nums.length : Int))) (DOk.no _) (by omega) (es_tup (df4 (ev_vD rfl h0))) fun t _ y H1 e it => ev_add ev_int (ev_lenT (at2 (ev_vD rfl (d3 it))) (by rw [List.length_map]))))) fun v H2 e2 g => q v H2 (e1.trans e2) g
end
end Kp
set_option maxHeartbeats 410000
/-! KpQ: differences told thing by thing, in plain words. -/
namespace Kp
open L2 PySem PySem.Spec PyProof.Rows
/-- cs tells how the old thing of t's id becomes t -/
structure Tells (a : Wd) (t : Thing) (cs : List Chg) : Prop where
  old : ∃ s, look a.things t.id = some s ∧ same s t = true ∧ ∀ (j : Nat) (n : Int), t.nums[j]? = some n → s.nums[j]? = some n ∨ (t.id, (j : Int), n) ∈ cs
  told : ∀ c ∈ cs, c.1 = t.id ∧ ∃ j : Nat, c.2.1 = (j : Int) ∧ t.nums[j]? = some c.2.2
  asc : (cs.map place).Pairwise lt2
  few : cs.length ≤ t.nums.length
/-- the things of N told whole, the others by C -/
def mkD (a b : Wd) (N : Thing → Bool) (C : Thing → List Chg) : Df where
  tick := b.tick
  nid := b.nid
  luck := b.luck
  gone := (a.things.map Thing.id).filter fun k => !(look b.things k).isSome
  came := b.things.filter N
  chg := b.things.flatMap fun t => if N t = true then [] else C t
theorem mem_chg {b : Wd} {N : Thing → Bool} {C : Thing → List Chg} {c : Chg} (h : c ∈ b.things.flatMap fun t => if N t = true then [] else C t) : ∃ t ∈ b.things, N t = false ∧ c ∈ C t := by
  obtain ⟨t, ht, hc⟩ := List.mem_flatMap.mp h
  cases e : N t with
  | true =>
    rw [e, if_pos rfl] at hc
    cases hc
  | false =>
    rw [e, if_neg (by decide)] at hc
    exact ⟨t, ht, e, hc⟩
theorem asc_flat {N : Thing → Bool} {C : Thing → List Chg} : ∀ {ts : List Thing}, Asc (ts.map Thing.id) → (∀ t ∈ ts, N t = false → (∀ c ∈ C t, c.1 = t.id) ∧ ((C t).map place).Pairwise lt2) → ((ts.flatMap fun t => if N t = true then [] else C t).map place).Pairwise lt2
  | [], _, _ => .nil
  | t :: ts, h, k => by
    (obtain ⟨h1, h2⟩ := List.pairwise_cons.mp h)
    have ih := asc_flat h2 fun u hu => k u (List.mem_cons_of_mem _ hu)
    rw [List.flatMap_cons, List.map_append, List.pairwise_append]
    cases e : N t with
    | true => exact ⟨.nil, ih, fun _ z => nomatch z⟩
    | false =>
      obtain ⟨k1, k2⟩ := k t List.mem_cons_self e
      refine ⟨k2, ih, fun x hx y hy => ?_⟩
      obtain ⟨c, hc, rfl⟩ := List.mem_map.mp hx
      obtain ⟨g, hg, rfl⟩ := List.mem_map.mp hy
      obtain ⟨u, hu, hg⟩ := List.mem_flatMap.mp hg
      cases f : N u with
      | true =>
        rw [f, if_pos rfl] at hg
        cases hg
      | false =>
        rw [f, if_neg (by decide)] at hg
        have e1 : c.1 = t.id := k1 c hc
        have e2 : g.1 = u.id := (k u (List.mem_cons_of_mem _ hu) f).1 g hg
        have lt : t.id < u.id := h1 _ (List.mem_map_of_mem (f := Thing.id) hu)
        exact .inl (by show c.1 < g.1; omega)
theorem mkD_leads {a b : Wd} {N : Thing → Bool} {C : Thing → List Chg} (ha : a.Ok) (hb : b.Ok) (h : ∀ t ∈ b.things, N t = false → Tells a t (C t)) : Leads a b (mkD a b N C) := by
  have fa := ha.ths.few
  have fb := hb.ths.few
  have nd := asc_nodup hb.ths.ids
  refine { tick := rfl, nid := rfl, luck := rfl, gone := fun k => ?_, came := fun u hu => (List.mem_filter.mp hu).1, chg := fun c hc => ?_, rest := fun u hu hn => ?_, parts := ?_ }
  · show k ∈ List.filter _ _ ↔ _
    rw [List.mem_filter]
    refine and_congr_right fun _ => ?_
    constructor
    · intro z m
      obtain ⟨t, e⟩ := look_mem m
      rw [e] at z
      cases z
    · intro z
      cases e : look b.things k with
      | none => rfl
      | some t => exact absurd (List.mem_map.mpr ⟨t, (look_some e).1, (look_some e).2⟩) z
  · obtain ⟨t, ht, nt, hc⟩ := mem_chg hc
    have T := h t ht nt
    obtain ⟨s, e1, e2, _⟩ := T.old
    obtain ⟨e3, j, e4, e5⟩ := T.told c hc
    refine ⟨s, t, by rw [e3]; exact e1, by rw [e3]; exact look_of nd ht, e2, fun z => ?_, j, e4, e5⟩
    have := (List.mem_filter.mp z).2
    rw [nt] at this
    cases this
  · have nt : N u = false := by
      cases e : N u with
      | false => rfl
      | true => exact absurd (List.mem_filter.mpr ⟨hu, e⟩) hn
    obtain ⟨s, e1, e2, e3⟩ := (h u hu nt).old
    refine ⟨s, e1, e2, fun j n hj => (e3 j n hj).imp id fun z => List.mem_flatMap.mpr ⟨u, hu, ?_⟩⟩
    rw [nt, if_neg (by decide)]
    exact z
  · refine { l1 := ?_, l2 := ?_, l3 := ?_, gok := fun n hn => ?_, cok := fun t ht => hb.ths.ok t (List.mem_filter.mp ht).1, xok := fun c hc => ?_, gasc := ?_, casc := ?_, xasc := ?_ }
    · refine Nat.le_trans (List.length_filter_le _ _) ?_
      rw [List.length_map]
      omega
    · exact Nat.le_trans (List.length_filter_le _ _) (by omega)
    · refine Nat.le_trans (flat_len (n := 8) fun t ht => ?_) (by omega)
      cases e : N t with
      | true => exact Nat.zero_le _
      | false => exact Nat.le_trans (h t ht e).few (hb.ths.ok t ht).n8
    · obtain ⟨t, ht, rfl⟩ := List.mem_map.mp (List.mem_filter.mp hn).1
      exact (ha.ths.ok t ht).id
    · obtain ⟨t, ht, nt, hc⟩ := mem_chg hc
      obtain ⟨e3, j, e4, e5⟩ := (h t ht nt).told c hc
      have tok := hb.ths.ok t ht
      have lj : j < t.nums.length := (List.getElem?_eq_some_iff.mp e5).1
      have l8 := tok.n8
      exact ⟨by rw [e3]; exact tok.id, by omega, by omega, tok.nums _ (List.mem_of_getElem? e5)⟩
    · exact ha.ths.ids.sublist (List.filter_sublist ..)
    · exact hb.ths.ids.sublist ((List.filter_sublist ..).map _)
    · exact asc_flat hb.ths.ids fun t ht nt => ⟨fun c hc => ((h t ht nt).told c hc).1, (h t ht nt).asc⟩
/-! ### sizes -/
def wt (N : Thing → Bool) (C : Thing → List Chg) (t : Thing) : Int := if N t = true then 1 + (t.nums.length : Int) else ((C t).length : Int)
theorem mkD_size (a b : Wd) (N : Thing → Bool) (C : Thing → List Chg) : sizeD (mkD a b N C) = 3 + (mkD a b N C).gone.length + (b.things.map (wt N C)).sum := by
  have key : ∀ ts : List Thing, ((ts.flatMap fun t => if N t = true then [] else C t).length : Int) + ((ts.filter N).map fun t => 1 + (t.nums.length : Int)).sum = (ts.map (wt N C)).sum := by
    intro ts
    induction ts with
    | nil => rfl
    | cons t ts ih =>
      rw [List.flatMap_cons, List.length_append, List.map_cons, List.sum_cons, ← ih]
      unfold wt
      cases e : N t with
      | true =>
        simp only [List.filter_cons, e, if_true, List.map_cons, List.sum_cons, List.length_nil]
        omega
      | false =>
        simp only [List.filter_cons, e, Bool.false_eq_true, if_false]
        omega
  unfold sizeD
  have z := key b.things
  show 3 + _ + ((b.things.flatMap fun t => if N t = true then [] else C t).length : Int) + ((b.things.filter N).map fun t => 1 + (t.nums.length : Int)).sum = _
  omega
theorem sum_lt {f g : Thing → Int} : ∀ {ts : List Thing}, (∀ t ∈ ts, f t ≤ g t) → (∃ t ∈ ts, f t < g t) → (ts.map f).sum < (ts.map g).sum
  | [], _, h => by
    obtain ⟨_, z, _⟩ := h
    cases z
  | t :: ts, h, k => by
    rw [List.map_cons, List.map_cons, List.sum_cons, List.sum_cons]
    have h1 := h t List.mem_cons_self
    have rest : ∀ {us : List Thing}, (∀ t ∈ us, f t ≤ g t) → (us.map f).sum ≤ (us.map g).sum := by
      intro us
      induction us with
      | nil => exact fun _ => Int.le_refl _
      | cons u us ih =>
        intro q
        rw [List.map_cons, List.map_cons, List.sum_cons, List.sum_cons]
        have := q u List.mem_cons_self
        have := ih fun v hv => q v (List.mem_cons_of_mem _ hv)
        omega
    obtain ⟨u, hu, lt⟩ := k
    (rcases List.mem_cons.mp hu with e | hu)
    · subst e
      have := rest fun v hv => h v (List.mem_cons_of_mem _ hv)
      omega
    · have := sum_lt (fun v hv => h v (List.mem_cons_of_mem _ hv)) ⟨u, hu, lt⟩
      omega
end Kp
set_option maxHeartbeats 410000
/-! KpQ2: the least difference and the longer ones. -/
namespace Kp
open L2 PySem PySem.Spec PyProof.Rows
def pickC (t : Thing) (f : Int × Nat → Bool) : List Chg := (t.nums.zipIdx.filter f).map fun p => (t.id, (p.2 : Int), p.1)
abbrev whole (t : Thing) : List Chg := pickC t fun _ => true
theorem pick_told {t : Thing} {f : Int × Nat → Bool} : ∀ c ∈ pickC t f, c.1 = t.id ∧ ∃ j : Nat, c.2.1 = (j : Int) ∧ t.nums[j]? = some c.2.2 := fun c hc => by
  obtain ⟨p, hp, rfl⟩ := List.mem_map.mp hc
  exact ⟨rfl, p.2, rfl, List.mem_zipIdx_iff_getElem?.mp (List.mem_filter.mp hp).1⟩
theorem zip_asc : ∀ (xs : List Int) (k : Nat), ((xs.zipIdx k).Pairwise fun p q => p.2 < q.2)
  | [], _ => .nil
  | x :: xs, k => by
    rw [List.zipIdx_cons]
    refine List.pairwise_cons.mpr ⟨fun q hq => ?_, zip_asc xs (k + 1)⟩
    have := (List.mem_zipIdx hq).1
    show k < q.2
    omega
theorem pick_asc (t : Thing) (f : Int × Nat → Bool) : ((pickC t f).map place).Pairwise lt2 := by
  unfold pickC
  rw [List.map_map, List.pairwise_map]
  refine ((zip_asc t.nums 0).sublist (List.filter_sublist ..)).imp fun {p q} h => .inr ⟨rfl, ?_⟩
  show (p.2 : Int) < (q.2 : Int)
  omega
theorem pick_few (t : Thing) (f : Int × Nat → Bool) : (pickC t f).length ≤ t.nums.length := by
  unfold pickC
  rw [List.length_map]
  exact Nat.le_trans (List.length_filter_le _ _) (by rw [List.length_zipIdx]; exact Nat.le_refl _)
theorem pick_in {t : Thing} {f : Int × Nat → Bool} {j : Nat} {n : Int} (h : t.nums[j]? = some n) (hf : f (n, j) = true) : (t.id, (j : Int), n) ∈ pickC t f := List.mem_map.mpr ⟨(n, j), List.mem_filter.mpr ⟨List.mem_zipIdx_iff_getElem?.mpr h, hf⟩, rfl⟩
theorem whole_len (t : Thing) : (whole t).length = t.nums.length := by
  unfold whole pickC
  rw [List.length_map, List.filter_eq_self.mpr fun _ _ => rfl, List.length_zipIdx]
/-- changed against s -/
abbrev off_ (s : Thing) : Int × Nat → Bool := fun p => !decide (p.1 = s.nums.getD p.2 0)
theorem chg1_pick {s t : Thing} (h : s.nums.length = t.nums.length) : chg1 t.id s.nums t.nums = pickC t (off_ s) := (chg_enum t.id s.nums t.nums 0 h).symm
theorem tells_least {a : Wd} {t : Thing} (h : isNew a.things t = false) : Tells a t (chgs a.things t) := by
  obtain ⟨s, e1, e2, e3⟩ := isOld h
  have len := (same_iff.mp e2).2
  rw [e3, chg1_pick len]
  refine { old := ⟨s, e1, e2, fun j n hj => ?_⟩, told := pick_told, asc := pick_asc t _, few := pick_few t _ }
  by_cases q : n = s.nums.getD j 0
  · refine .inl ?_
    have lj : j < s.nums.length := by rw [len]; exact (List.getElem?_eq_some_iff.mp hj).1
    rw [q, List.getD_eq_getElem?_getD, List.getElem?_eq_getElem lj]
    rfl
  · exact .inr (pick_in hj (by show (!decide (n = s.nums.getD j 0)) = true; rw [decide_eq_false q]; rfl))
theorem tells_whole {a : Wd} {t : Thing} (h : isNew a.things t = false) : Tells a t (whole t) := by
  obtain ⟨s, e1, e2, _⟩ := isOld h
  exact { old := ⟨s, e1, e2, fun j n hj => .inr (pick_in hj rfl)⟩, told := pick_told, asc := pick_asc t _, few := pick_few t _ }
theorem diff_mk (a b : Wd) : diff a b = mkD a b (isNew a.things) (chgs a.things) := by
  unfold diff mkD
  congr 1
  congr 1
  funext t
  cases e : isNew a.things t with
  | true => rw [chgs_new e, if_pos rfl]
  | false => rw [if_neg (by decide)]
theorem diff_leads {a b : Wd} (ha : a.Ok) (hb : b.Ok) : Leads a b (diff a b) := by
  rw [diff_mk]
  exact mkD_leads ha hb fun t _ nt => tells_least nt
/-- k told whole as a thing -/
def long1 (a b : Wd) (k : Int) : Df := mkD a b (fun t => isNew a.things t || decide (t.id = k)) (chgs a.things)
/-- all numbers of k told -/
def long2 (a b : Wd) (k : Int) : Df := mkD a b (isNew a.things) fun t => if t.id = k then whole t else chgs a.things t
/-- all told whole -/
def long3 (a b : Wd) : Df := mkD a b (fun _ => true) fun _ => []
theorem long1_leads {a b : Wd} (ha : a.Ok) (hb : b.Ok) (k : Int) : Leads a b (long1 a b k) := mkD_leads ha hb fun t _ nt => tells_least (Bool.or_eq_false_iff.mp nt).1
theorem long2_leads {a b : Wd} (ha : a.Ok) (hb : b.Ok) (k : Int) : Leads a b (long2 a b k) := mkD_leads ha hb fun t _ nt => by
  by_cases e : t.id = k
  · rw [if_pos e]
    exact tells_whole nt
  · rw [if_neg e]
    exact tells_least nt
theorem long3_leads {a b : Wd} (ha : a.Ok) (hb : b.Ok) : Leads a b (long3 a b) := mkD_leads ha hb fun _ _ z => nomatch z
theorem sizes_lt {a b : Wd} {N N' : Thing → Bool} {C C' : Thing → List Chg} (h : ∀ t ∈ b.things, wt N C t ≤ wt N' C' t) (k : ∃ t ∈ b.things, wt N C t < wt N' C' t) : sizeD (mkD a b N C) < sizeD (mkD a b N' C') := by
  rw [mkD_size, mkD_size]
  have := sum_lt h k
  show 3 + ((mkD a b N C).gone.length : Int) + _ < 3 + ((mkD a b N C).gone.length : Int) + _
  omega
theorem long1_size {a b : Wd} {k : Int} (h : ∃ t ∈ b.things, t.id = k ∧ isNew a.things t = false) : sizeD (diff a b) < sizeD (long1 a b k) := by
  rw [diff_mk]
  refine sizes_lt (fun t _ => ?_) ?_
  · unfold wt
    cases e : isNew a.things t with
    | true => simp [e]
    | false =>
      have := (tells_least e).few
      by_cases q : t.id = k
      · simp [q]
        omega
      · simp [q, e]
  · obtain ⟨t, ht, q, e⟩ := h
    refine ⟨t, ht, ?_⟩
    have := (tells_least e).few
    unfold wt
    rw [e]
    simp [q]
    omega
theorem flat_congr {α β : Type} {f g : α → List β} : ∀ {l : List α}, (∀ x ∈ l, f x = g x) → l.flatMap f = l.flatMap g
  | [], _ => rfl
  | x :: l, h => by
    rw [List.flatMap_cons, List.flatMap_cons, h x List.mem_cons_self, flat_congr fun y hy => h y (List.mem_cons_of_mem _ hy)]
theorem sizes_le_ne {a b : Wd} {N N' : Thing → Bool} {C C' : Thing → List Chg} (h : ∀ t ∈ b.things, wt N C t < wt N' C' t ∨ (N t = N' t ∧ (N t = false → C t = C' t))) (ne : mkD a b N C ≠ mkD a b N' C') : sizeD (mkD a b N C) < sizeD (mkD a b N' C') := by
  have same_wt : ∀ t, (N t = N' t ∧ (N t = false → C t = C' t)) → wt N C t = wt N' C' t := fun t ⟨e1, e2⟩ => by
    unfold wt
    rw [← e1]
    cases q : N t with
    | true => rfl
    | false => rw [e2 q]
  by_cases k : ∃ t ∈ b.things, wt N C t < wt N' C' t
  · refine sizes_lt (fun t ht => ?_) k
    rcases h t ht with z | z
    · exact Int.le_of_lt z
    · exact Int.le_of_eq (same_wt t z)
  · refine absurd ?_ ne
    have all : ∀ t ∈ b.things, N t = N' t ∧ (N t = false → C t = C' t) := fun t ht => (h t ht).resolve_left fun z => k ⟨t, ht, z⟩
    unfold mkD
    rw [List.filter_congr fun t ht => (all t ht).1]
    congr 1
    refine flat_congr fun t ht => ?_
    obtain ⟨e1, e2⟩ := all t ht
    rw [← e1]
    cases q : N t with
    | true => rfl
    | false => rw [e2 q]
theorem long2_size {a b : Wd} {k : Int} (ne : diff a b ≠ long2 a b k) : sizeD (diff a b) < sizeD (long2 a b k) := by
  rw [diff_mk] at ne ⊢
  refine sizes_le_ne (fun t ht => ?_) ne
  cases e : isNew a.things t with
  | true => exact .inr ⟨rfl, fun z => nomatch z⟩
  | false =>
    by_cases q : t.id = k
    · obtain ⟨s, e1, e2, e3⟩ := isOld e
      have c3 : chgs a.things t = pickC t (off_ s) := e3.trans (chg1_pick (same_iff.mp e2).2)
      by_cases w : (pickC t (off_ s)).length = t.nums.length
      · refine .inr ⟨rfl, fun _ => ?_⟩
        rw [if_pos q, c3]
        unfold pickC at w
        rw [List.length_map] at w
        have z : t.nums.zipIdx.filter (off_ s) = t.nums.zipIdx := (List.filter_sublist ..).eq_of_length (by rw [w, List.length_zipIdx])
        show pickC t (off_ s) = pickC t fun _ => true
        unfold pickC
        rw [z, List.filter_eq_self.mpr fun _ _ => rfl]
      · refine .inl ?_
        have f := pick_few t (off_ s)
        unfold wt
        rw [e, if_neg (by decide), if_neg (by decide)]
        show _ < (((if t.id = k then whole t else chgs a.things t).length : Nat) : Int)
        rw [if_pos q, whole_len, c3]
        omega
    · exact .inr ⟨rfl, fun _ => (if_neg q).symm⟩
theorem long3_size {a b : Wd} (ne : diff a b ≠ long3 a b) : sizeD (diff a b) < sizeD (long3 a b) := by
  rw [diff_mk] at ne ⊢
  refine sizes_le_ne (fun t ht => ?_) ne
  cases e : isNew a.things t with
  | true => exact .inr ⟨rfl, fun z => nomatch z⟩
  | false =>
    refine .inl ?_
    have f := (tells_least e).few
    unfold wt
    rw [e, if_neg (by decide), if_pos rfl]
    omega
end Kp
set_option maxHeartbeats 410000
/-! KpR: the text of a difference. -/
namespace Kp
open L2 PySem PySem.Spec PyProof.Rows
/-- may be shown, in few signs -/
structure Shw (n : Nat) (y : PyData) : Prop where
  shows : y.showable = true
  noD : y.hasDict = false
  short : y.leavesShort 62 = true
  bulk : y.bulk ≤ n
theorem shw_int {n : Nat} {i : Int} (h : i.natAbs < 10 ^ 60) : Shw n (.int i) where
  shows := by
    unfold PyData.showable
    rw [decide_eq_true_eq]
    by_cases z : i.natAbs = 0
    · rw [z]
      decide
    · rw [Nat.log2_lt z]
      exact Nat.lt_of_lt_of_le h (by decide +kernel)
  noD := rfl
  short := by
    have e := int_text_length_le10 (k := 60) (by decide) h
    unfold PyData.leavesShort
    rw [decide_eq_true_eq]
    show (Str.ofString (toString i)).length ≤ 62
    rw [PySem.ofString_length]
    omega
  bulk := Nat.zero_le _
theorem shw_str {n : Nat} {x : Str} (h : PyData.strOk x = true) (hn : x.length ≤ n) : Shw n (.str x) where
  shows := rfl
  noD := rfl
  short := by
    unfold PyData.leavesShort
    unfold PyData.strOk at h
    rw [List.all_eq_true]
    intro c hc
    have z := Array.all_eq_true_iff_forall_mem.mp h c (by simpa using hc)
    have z : c < 0x110000 := by simpa using z
    rw [decide_eq_true_eq]
    omega
  bulk := hn
theorem shw_all {n : Nat} : ∀ {ds : List PyData}, (∀ y ∈ ds, Shw n y) → PyData.showableAll ds = true ∧ PyData.hasDictAll ds = false ∧ PyData.leavesShortAll 62 ds = true ∧ PyData.bulkAll ds ≤ ds.length * (n + 1)
  | [], _ => ⟨rfl, rfl, rfl, Nat.zero_le _⟩
  | y :: ds, h => by
    obtain ⟨h1, h2, h3, h4⟩ := shw_all fun z hz => h z (List.mem_cons_of_mem _ hz)
    obtain ⟨g1, g2, g3, g4⟩ := h y List.mem_cons_self
    refine ⟨?_, ?_, ?_, ?_⟩
    · rw [PyData.showableAll, g1, h1]
      rfl
    · rw [PyData.hasDictAll, g2, h2]
      rfl
    · rw [PyData.leavesShortAll, g3, h3]
      rfl
    · rw [PyData.bulkAll, List.length_cons, Nat.add_mul]
      omega
theorem shw_tup {n m k : Nat} {ds : List PyData} (h : ∀ y ∈ ds, Shw n y) (hl : ds.length ≤ m) (hk : m * (n + 1) ≤ k) : Shw k (.tuple ds) := by
  obtain ⟨h1, h2, h3, h4⟩ := shw_all h
  refine ⟨by rw [PyData.showable]; exact h1, by rw [PyData.hasDict]; exact h2, by rw [PyData.leavesShort]; exact h3, ?_⟩
  rw [PyData.bulk]
  exact Nat.le_trans h4 (Nat.le_trans (Nat.mul_le_mul_right _ hl) hk)
theorem shw_up {n m : Nat} {y : PyData} (h : Shw n y) (e : n ≤ m) : Shw m y := ⟨h.shows, h.noD, h.short, Nat.le_trans h.bulk e⟩
theorem shw_ints {n k : Nat} {ns : List Int} (h : ∀ i ∈ ns, i.natAbs < 10 ^ 60) (hl : ns.length ≤ n) (hk : n * 1 ≤ k) : Shw k (.tuple (ns.map .int)) := shw_tup (n := 0) (m := n) (fun y hy => by
  obtain ⟨i, hi, rfl⟩ := List.mem_map.mp hy
  exact shw_int (h i hi)) (by rw [List.length_map]; exact hl) hk
theorem tick_abs {i : Int} (h : TickOk i) : i.natAbs < 10 ^ 60 := by
  obtain ⟨h1, h2⟩ := h
  have e : ((i.natAbs : Nat) : Int) = i := Int.natAbs_of_nonneg h1
  have h3 : ((i.natAbs : Nat) : Int) < ((10 ^ 60 : Nat) : Int) := by rw [e]; exact h2
  exact Int.ofNat_lt.mp h3
theorem num_abs {i : Int} (h : NumOk i) : i.natAbs < 10 ^ 60 := by
  obtain ⟨h1, h2⟩ := h
  have z : i.natAbs < 1000000001 := by omega
  exact Nat.lt_of_lt_of_le z (by decide +kernel)
theorem luck_abs {i : Int} (h : LuckOk i) : i.natAbs < 10 ^ 60 := by
  obtain ⟨h1, h2⟩ := h
  have z : i.natAbs < 1000000001 := by omega
  exact Nat.lt_of_lt_of_le z (by decide +kernel)
theorem shw_thing {t : Thing} (h : t.Ok) : Shw 27 t.d := shw_tup (n := 8) (m := 3) (fun y hy => by
  simp only [List.mem_cons, List.not_mem_nil, or_false] at hy
  rcases hy with rfl | rfl | rfl
  · exact shw_int (tick_abs h.id)
  · exact shw_str h.kind.str h.kind.l8
  · exact shw_ints (fun i hi => num_abs (h.nums i hi)) h.n8 (by decide)) (Nat.le_refl 3) (by decide)
theorem shw_chg {c : Chg} (h : ChgOk c) : Shw 3 (chD c) := shw_tup (n := 0) (m := 3) (fun y hy => by
  obtain ⟨h1, h2, h3, h4⟩ := h
  simp only [List.mem_cons, List.not_mem_nil, or_false] at hy
  rcases hy with rfl | rfl | rfl
  · exact shw_int (tick_abs h1)
  · exact shw_int (num_abs ⟨by omega, by omega⟩)
  · exact shw_int (num_abs h4)) (Nat.le_refl 3) (by decide)
theorem shw_df {x : Df} (h : DfOk x) : Shw 168006 x.d := shw_tup (n := 28000) (m := 6) (fun y hy => by
  simp only [List.mem_cons, List.not_mem_nil, or_false] at hy
  rcases hy with rfl | rfl | rfl | rfl | rfl | rfl
  · exact shw_int (tick_abs h.tick)
  · exact shw_int (tick_abs h.nid)
  · exact shw_int (luck_abs h.luck)
  · exact shw_up (shw_ints (fun i hi => tick_abs (h.parts.gok i hi)) h.parts.l1 (Nat.le_refl _)) (by decide)
  · refine shw_tup (n := 27) (m := 1000) (fun y hy => ?_) (by rw [List.length_map]; exact h.parts.l2) (by decide)
    obtain ⟨t, ht, rfl⟩ := List.mem_map.mp hy
    exact shw_thing (h.parts.cok t ht)
  · refine shw_tup (n := 3) (m := 1000) (fun y hy => ?_) (by rw [List.length_map]; exact h.parts.l3) (by decide)
    obtain ⟨c, hc, rfl⟩ := List.mem_map.mp hy
    exact shw_chg (h.parts.xok c hc)) (Nat.le_refl 6) (by decide)
theorem shown_df {x : Df} (h : DfOk x) : x.d.shown.length ≤ sizeLine := by
  have s := shw_df h
  have z := PyData.shown_le_bulk 62 (by decide) x.d s.short
  have b := s.bulk
  rw [sizeLine_eq]
  omega
section
variable {K : PySem.W.Frag} {d : Option Addr} {σ : L2.St} {H : Hp} {te ta tb : TE}
theorem ev_reprDf {x : Df} (hx : DfOk x) (h : Ev d te σ H (D K x.d)) : Ev d (tCB (rRepr K) (tCons te tNil)) σ H (D K (.str x.d.shown)) := fun H1 e Q q =>
  h H1 e _ fun v H2 e2 f => by
    have f' := f
    unfold Df.d at f'
    cases f' with
    | @tup a xs _ g1 g2 => exact ⟨a, x.d, rfl, f, (shw_df hx).shows, (shw_df hx).noD, Nat.le_trans hx.parts.flat.2 (by decide), shown_df hx, q _ H2 e2 (.str _)⟩
theorem ev_neText {x y : Str} (ha : Ev d ta σ H (D K (.str x))) (hb : Ev d tb σ H (D K (.str y))) : Ev d (tOp rNe ta tb) σ H (D K (.bool (!decide (x = y)))) :=
  ev_op ha hb fun _ _ H1 _ a b => by
    cases a
    cases b
    refine rv_now (v := .bl (!decide (V.str x = V.str y))) (fun Q q => ⟨rfl, q⟩) ?_
    have e : decide (V.str x = V.str y) = decide (x = y) := by
      rw [Bool.eq_iff_iff]
      simp
    rw [e]
    exact .bl _
end
/-- nothing is told of a world and itself -/
theorem diff_self {b : Wd} (hb : b.Ok) : (diff b b).gone = [] ∧ (diff b b).came = [] ∧ (diff b b).chg = [] := by
  have look1 : ∀ t ∈ b.things, look b.things t.id = some t := fun t ht => look_of (asc_nodup hb.ths.ids) ht
  have old : ∀ t ∈ b.things, isNew b.things t = false := fun t ht => by
    unfold isNew
    rw [look1 t ht]
    show (!same t t) = false
    rw [same_iff.mpr ⟨rfl, rfl⟩]
    rfl
  refine ⟨?_, ?_, ?_⟩
  · show (b.things.map Thing.id).filter _ = []
    rw [List.filter_eq_nil_iff]
    intro k hk
    obtain ⟨t, ht, rfl⟩ := List.mem_map.mp hk
    rw [look1 t ht]
    simp
  · show b.things.filter (isNew b.things) = []
    rw [List.filter_eq_nil_iff]
    intro t ht
    rw [old t ht]
    decide
  · show b.things.flatMap (chgs b.things) = []
    rw [List.flatMap_eq_nil_iff]
    intro t ht
    unfold chgs
    rw [look1 t ht]
    show (if same t t = true then chg1 t.id t.nums t.nums else []) = []
    rw [if_pos (same_iff.mpr ⟨rfl, rfl⟩)]
    unfold chg1
    rw [List.map_eq_nil_iff, List.filter_eq_nil_iff]
    intro p hp
    obtain ⟨⟨m, n⟩, j⟩ := p
    have z := List.mem_zipIdx_iff_getElem?.mp hp
    rw [List.getElem?_zip_eq_some] at z
    obtain ⟨z1, z2⟩ := z
    have e : m = n := Option.some.inj (z1.symm.trans z2)
    simp [e]
theorem diff_selfD {b : Wd} (hb : b.Ok) : (diff b b).d = .tuple [.int b.tick, .int b.nid, .int b.luck, .tuple [], .tuple [], .tuple []] := by
  obtain ⟨h1, h2, h3⟩ := diff_self hb
  unfold Df.d thsD
  rw [h1, h2, h3]
  rfl
end Kp
set_option maxHeartbeats 410000
/-! KpH: the law is called where nothing is guarded. -/
namespace Kp
open L2 PySem PySem.Spec PyProof.Rows
/-- what is asked of the law's call -/
abbrev LawPost (s₁ : Shared) : Result → Shared → Prop := fun r s' => r = .ok (.ret (.bool true)) ∧ OldK s₁.heap s'.heap ∧ s'.os = s₁.os ∧ AllBare s'.gens
section
variable {P : Program} {w : World} {K : PySem.W.Frag} {mg mb : Str → Option Value} {k : Nat} {fa a : Addr} {fd : FuncData} {x : Str} {sp : Sp} {s₁ : Shared} {vs : List Value} {ns : List Int}
/-- over an abstract heap that knows the script at most -/
theorem law_over (inK : K.In s₁.heap) (hns : s₁.heap.Ns mainGlobals mg) (hb : s₁.heap.Ns builtinsNs mb) (hbb : ∀ x : Str, x ≠ "__name__" → mb x = bootBuiltins x) (lim : s₁.heap.NoLimit) (gens : s₁.gens = #[])
    (ha : s₁.heap.get? a = some { cls := .type "list", data := .seq vs.toArray }) (room : Room k callerA) (F : ∀ base : Heap, K.In base → base.Ns mainGlobals mg → FnG P w K mg base k fa fd [x] sp) (binds : ∀ (s : Shared) (u : Value), BindsTo s fd ⟨[u], []⟩ [(x, u)])
    (H : Hp) (only : Only H) (sq : SqL K H a (ns.map V.int)) (ok : HOk P w H s₁.heap) (at_ : ∀ b, H b ≠ none → b = a) (noK : H a ≠ none → K.lookup a = none) (want : sp [.ref a] H (fun v _ => v = .bl true) fun _ _ _ => False) : codeAny (model P w) callerA (.call (.ref fa) ⟨[.ref a], []⟩) (LawPost s₁) s₁ := by
  have clear : ∀ {b : Addr} {o : Obj}, s₁.heap.get? b = some o → (b = a → False) → H b = none := fun {b o} _ no => Classical.byContradiction fun z => no (at_ b z)
  have hid : ∀ {b : Addr} {o : Obj}, s₁.heap.get? b = some o → H b = none → (hidT s₁.heap H).get? b = some o := fun z n => hidT_get z n
  have nsH : ∀ {b : Addr} {m : Str → Option Value}, s₁.heap.Ns b m → (hidT s₁.heap H).Ns b m := fun {b m} ⟨o, es, ep, z, d, r⟩ => ⟨o, es, ep, hid z (clear z fun e => by
    subst e
    rw [ha] at z
    cases z
    exact absurd (show Data.seq vs.toArray _ = Data.dict es ep from d) (fun q => by cases q)), d, r⟩
  have kin : K.In (hidT s₁.heap H) := fun b o z => hid (inK b o z) (Classical.byContradiction fun q => by
    have e := at_ b q
    subst e
    rw [noK q] at z
    cases z)
  have md : Mod K mg (hidT s₁.heap H) := ⟨kin, nsH hns, ⟨mb, nsH hb, hbb⟩, by
    obtain ⟨mc, h1, h2⟩ := lim
    exact ⟨mc, nsH h1, h2⟩⟩
  have env : Env0 P w K mg (hidT s₁.heap H) callerA [] s₁ H := ⟨rfl, md, fun b o z => of_hidT z, Nat.le_of_eq (hidT_size _ _), trivial, fun b z => (List.not_mem_nil z).elim, ok, .of_eq gens⟩
  refine codeAny_mono ((F _ kin (nsH hns)).run callerA [] s₁ H ⟨[.ref a], []⟩ [.ref a] [.ref a] _ _ rfl room env (binds s₁ (.ref a)) (.cons rfl .nil) want) fun r s' h => ?_
  match r, h with
  | .error e, h => exact (show False from h).elim
  | .ok .next, h => exact h.elim
  | .ok .brk, h => exact h.elim
  | .ok .cont, h => exact h.elim
  | .ok (.ret u), ⟨v, H', os, bare, un, ok', rv, q⟩ =>
    have ev : v = .bl true := q
    subst ev
    cases (show u = Value.bool true from rv)
    refine ⟨rfl, OldK.of_keep fun b o z => ?_, os, bare⟩
    cases e : H b with
    | none => exact un.keep b o z e (fun m => (List.not_mem_nil m).elim) (by simp)
    | some y =>
      rcases only b with n | ⟨ob, xs, n⟩
      · rw [e] at n
        cases n
      · obtain ⟨e1, _⟩ := ok b _ n
        obtain ⟨e2, _⟩ := ok' b _ (un.frzs b ob _ n)
        rw [z] at e1
        cases e1
        exact e2
theorem law_g (inK : K.In s₁.heap) (hns : s₁.heap.Ns mainGlobals mg) (hb : s₁.heap.Ns builtinsNs mb) (hbb : ∀ x : Str, x ≠ "__name__" → mb x = bootBuiltins x) (lim : s₁.heap.NoLimit) (gens : s₁.gens = #[])
    (ha : s₁.heap.get? a = some { cls := .type "list", data := .seq vs.toArray }) (hi : IntsAre vs ns) (hl : ns.length ≤ sizeLine) (room : Room k callerA) (F : ∀ base : Heap, K.In base → base.Ns mainGlobals mg → FnG P w K mg base k fa fd [x] sp) (binds : ∀ (s : Shared) (u : Value), BindsTo s fd ⟨[u], []⟩ [(x, u)])
    (want : ∀ H : Hp, Only H → SqL K H a (ns.map V.int) → sp [.ref a] H (fun v _ => v = .bl true) fun _ _ _ => False) : codeAny (model P w) callerA (.call (.ref fa) ⟨[.ref a], []⟩) (LawPost s₁) s₁ := by
  have rv : Vals (ns.map V.int) vs := vals_ints hi
  have len : vs.length = ns.length := hi.length
  cases known : K.lookup a with
  | some o =>
    have z := inK a o known
    rw [ha] at z
    cases z
    have only : Only (fun _ => none) := fun _ => .inl rfl
    have sq : SqL K (fun _ => none) a (ns.map V.int) := .inr ⟨_, vs.toArray, _, known, rfl, rfl, rfl, by rw [List.size_toArray, len]; exact hl, by simpa using rv⟩
    exact law_over (ns := ns) inK hns hb hbb lim gens ha room F binds (fun _ => none) only sq (fun b u z => by cases (show (none : Option HO) = some u from z)) (fun b z => absurd rfl z) (fun z => absurd rfl z) (want _ only sq)
  | none =>
    let S : Obj := { cls := .type "list", data := .seq vs.toArray }
    let H : Hp := fun b => if b = a then some (.frz S (.lst (ns.map V.int))) else none
    have Ha : H a = some (.frz S (.lst (ns.map V.int))) := if_pos rfl
    have Hn : ∀ {b : Addr}, b ≠ a → H b = none := fun n => if_neg n
    have only : Only H := fun b => by
      by_cases e : b = a
      · exact .inr ⟨S, ns.map V.int, by rw [e]; exact Ha⟩
      · exact .inl (Hn e)
    have sq : SqL K H a (ns.map V.int) := .inl (.inr ⟨S, Ha⟩)
    refine law_over (ns := ns) inK hns hb hbb lim gens ha room F binds H only sq (fun b u z => ?_) (fun b z => Classical.byContradiction fun n => z (Hn n)) (fun _ => known) (want H only sq)
    by_cases e : b = a
    · rw [e] at z
      rw [Ha] at z
      cases z
      rw [e]
      (exact ⟨ha, by rw [List.length_map]; exact hl, vs, _, rv, ha⟩)
    · rw [Hn e] at z
      cases z
end
/-- the goal that the head leaves -/
theorem walk_g {l : PySem.W.OpenLaw} {n k : Nat} {q : Program} {loose : List Str} {XP : (Str → Option Value) → Heap → Prop} {YP : World → Heap → Prop} {d : DefRec} {K : Params → PySem.W.Frag} {sp : World → Sp} {x : Str}
    (hn : l.most = some n) (hn2 : n ≤ sizeLine)
    (hdf : d.params.defaults = []) (hr : Room k callerA) (hY : ∀ (w : World) (h : Heap),
      YP w h → (K w.params).In h)
    (F : ∀ (w : World) (mg : Str → Option Value) (fa : Addr) (h : Heap), (K w.params).In h → h.Ns mainGlobals mg → mg d.name = some (.ref fa) → ∃ fd : FuncData, (∀ (s : Shared) (u : Value), BindsTo s fd ⟨[u], []⟩ [(x, u)]) ∧ ∀ base : Heap, (K w.params).In base → base.Ns mainGlobals mg → FnG l.prog w (K w.params) mg base k fa fd [x] (sp w))
    (want : ∀ (w : World) (H : Hp) (a : Addr) (ns : List Int), ns.length ≤ n → Only H → SqL (K w.params) H a (ns.map V.int) → sp w [.ref a] H (fun v _ => v = .bl true) fun _ _ _ => False) : PySem.W.WalkO q loose XP YP l.row.toRowW d [] (fun f vs => PySem.call f vs) := by
  (refine Att.attach_call hn hdf fun w s₀ s₁ mg mb fa o pm cd doc a vs ns G Y ho hd hcd hmg hobj hints hlen hg => ?_)
  have inK := hY w _ Y
  obtain ⟨fd, binds, hF⟩ := F w mg fa _ inK G.T.g hmg
  exact law_g inK G.T.g G.T.b G.T.builtins G.T.nolimit hg hobj hints (Nat.le_trans hlen hn2) hr hF binds fun H hO hS => want w H a ns hlen hO hS
end Kp
set_option maxHeartbeats 410000
/-! KpT1: tables of sets, masks up to 511. -/
namespace Kp
open L2 PySem PySem.Spec PyProof.Rows
/-! ### the round of the slots -/
def orbit (m : Nat) : Nat → Nat → List Nat
  | 0, _ => []
  | n + 1, x => x :: orbit m n ((x * 5 + 1) % (m + 1))
theorem lcgI_next (m : Nat) : ∀ (k x : Nat), lcgI m x (k + 1) = lcgI m ((x * 5 + 1) % (m + 1)) k
  | 0, _ => rfl
  | k + 1, x => by
    have ih := lcgI_next m k x
    unfold lcgI
    rw [ih]
theorem orbit_mem (m : Nat) : ∀ (n x j : Nat), j ∈ orbit m n x → ∃ k, k < n ∧ lcgI m x k = j
  | 0, _, _, h => nomatch h
  | n + 1, x, j, h => by
    (rcases List.mem_cons.mp h with e | h)
    · exact ⟨0, Nat.succ_pos _, e.symm⟩
    · obtain ⟨k, hk, e⟩ := orbit_mem m n _ j h
      exact ⟨k + 1, Nat.succ_lt_succ hk, (lcgI_next m k x).trans e⟩
theorem lcgI_zero (m : Nat) : ∀ k, lcgI m 0 k = lcgN m k
  | 0 => rfl
  | k + 1 => by
    unfold lcgI lcgN
    rw [lcgI_zero m k]
def covers (m : Nat) : Bool := decide (lcgN m (m + 1) = 0) && (List.range (m + 1)).all fun j => (orbit m (m + 1) 0).contains j
/-- a mask whose round meets all slots -/
structure Full (m : Nat) : Prop where
  odd : m % 2 = 1
  small : m ≤ 511
  all : ∀ i j, i ≤ m → j ≤ m → ∃ k, k ≤ m ∧ lcgI m i k = j
theorem full_of {m : Nat} (ho : m % 2 = 1) (hs : m ≤ 511) (hc : covers m = true) : Full m := by
  unfold covers at hc
  rw [Bool.and_eq_true, decide_eq_true_eq, List.all_eq_true] at hc
  obtain ⟨back, cov⟩ := hc
  have hit : ∀ j, j ≤ m → ∃ b, b ≤ m ∧ lcgN m b = j := fun j hj => by
    have c := cov j (List.mem_range.mpr (Nat.lt_succ_of_le hj))
    obtain ⟨b, hb, e⟩ := orbit_mem m (m + 1) 0 j (by simpa using c)
    exact ⟨b, Nat.le_of_lt_succ hb, (lcgI_zero m b).symm.trans e⟩
  have again : ∀ k, lcgN m (m + 1 + k) = lcgN m k := by
    intro k
    induction k with
    | zero => exact back
    | succ k ih =>
      show (lcgN m (m + 1 + k) * 5 + 1) % (m + 1) = _
      rw [ih]
      rfl
  refine ⟨ho, hs, fun i j hi hj => ?_⟩
  obtain ⟨a, la, ea⟩ := hit i hi
  obtain ⟨b, lb, eb⟩ := hit j hj
  subst ea eb
  by_cases c : a ≤ b
  · (refine ⟨b - a, by omega, ?_⟩)
    rw [lcgN_add, Nat.add_sub_of_le c]
  · refine ⟨m + 1 + b - a, by omega, ?_⟩
    rw [lcgN_add, Nat.add_sub_of_le (by omega), again]
theorem full7 : Full 7 := full_of (by decide) (by decide) (by decide +kernel)
theorem full31 : Full 31 := full_of (by decide) (by decide) (by decide +kernel)
theorem full127 : Full 127 := full_of (by decide) (by decide) (by decide +kernel)
theorem full511 : Full 511 := full_of (by decide) (by decide) (by decide +kernel)
section
variable {m : Nat}
/-- some run begins at j -/
theorem Full.run (F : Full m) (h : Int) {j : Nat} (hj : j ≤ m) : ∃ n, n ≤ m + 12 ∧ runI m (SetTable.bits h) n = j := by
  obtain ⟨k, lk, e⟩ := F.all _ j (runI_le m (SetTable.bits h) 12) hj
  refine ⟨12 + k, by omega, ?_⟩
  rw [← e]
  exact runI_tail (bits_lt h) k
/-- the steps of the way to j -/
theorem Full.meets (F : Full m) (h : Int) {j : Nat} (hj : j ≤ m) : ∃ k, k < 10 * SetTable.turns m ∧ way m h k = j := by
  obtain ⟨n, ln, en⟩ := F.run h hj
  obtain ⟨k, lk, ek⟩ := run_nth m (SetTable.bits h) n
  have up : 10 * n < 10 * SetTable.turns m := by
    unfold SetTable.turns
    omega
  refine ⟨k, Nat.lt_of_le_of_lt lk up, ?_⟩
  unfold way
  rw [ek]
  exact en
theorem way_in (h : Int) (k : Nat) : way m h k ≤ m := by
  have lt := Nat.mod_lt (SetTable.bits h) (show 0 < m + 1 from Nat.succ_pos m)
  have b := runEnd_bd (Nat.le_of_lt_succ lt)
  have z := nth_in (m := m) k (runAt m (SetTable.bits h % (m + 1)) (SetTable.bits h)) (by unfold runAt; dsimp only; omega)
  unfold way
  omega
/-- the first place of the way that has p -/
theorem way_first (p : Nat → Prop) (h : Int) {k : Nat} (hk : p (way m h k)) : ∃ K, K ≤ k ∧ p (way m h K) ∧ ∀ c, c < K → ¬ p (way m h c) := st_least (p := fun c => p (way m h c)) k hk
end
/-! ### tables -/
/-- each slot is found again from its hash -/
structure Tab (t : SetTable) (hs : List Int) : Prop where
  ris : Ris t.place.toList
  dm : t.dummies = #[]
  len : t.place.toList.length = hs.length
  full : Full t.mask
  le : ∀ x ∈ t.place.toList, x ≤ t.mask
  path : ∀ (i : Nat) (h : Int) (j : Nat), hs[i]? = some h → t.place.toList[i]? = some j → ∃ k, way t.mask h k = j ∧ ∀ c, c < k → way t.mask h c ∈ t.place.toList
section
variable {t : SetTable} {hs : List Int}
theorem Tab.gap (T : Tab t hs) (few : hs.length ≤ t.mask) (h : Int) : ∃ K, K < 10 * SetTable.turns t.mask ∧ way t.mask h K ∉ t.place.toList ∧ ∀ c, c < K → way t.mask h c ∈ t.place.toList := by
  obtain ⟨j, lj, nj⟩ := st_missing t.place.toList (t.mask + 1) (by rw [T.len]; omega)
  obtain ⟨k, lk, ek⟩ := T.full.meets h (Nat.le_of_lt_succ lj)
  rw [← ek] at nj
  obtain ⟨K, a, b, c⟩ := way_first (fun x => x ∉ t.place.toList) h nj
  exact ⟨K, Nat.lt_of_le_of_lt a lk, b, fun x hx => Classical.not_not.mp (c x hx)⟩
theorem Tab.ahead (T : Tab t hs) {h : Int} {K i j : Nat} (free : way t.mask h K ∉ t.place.toList) (hi : hs[i]? = some h) (hj : t.place.toList[i]? = some j) : ∃ k, k < K ∧ way t.mask h k = j := by
  obtain ⟨k, e, b⟩ := T.path i h j hi hj
  refine ⟨k, Nat.lt_of_not_le fun le => ?_, e⟩
  by_cases q : K = k
  · subst q
    rw [e] at free
    exact free (List.mem_of_getElem? hj)
  · exact free (b K (by omega))
theorem Tab.put (T : Tab t hs) {h : Int} {K : Nat} (free : way t.mask h K ∉ t.place.toList) (full : ∀ c, c < K → way t.mask h c ∈ t.place.toList) :
    ∃ t1 p, t.put (way t.mask h K) = (t1, p) ∧ p ≤ hs.length ∧ Tab t1 (hs.take p ++ h :: hs.drop p) ∧ t1.mask = t.mask ∧ t1.led = t.led ∧ t1.plain = t.plain ∧ t1.fill = hs.length + 1 := by
  have at_ : way t.mask h K ≤ t.mask := way_in h K
  generalize ej : way t.mask h K = j at free at_ ⊢
  have rows := put_place t j
  have dm := put_dm T.dm j
  have cut := (below_cut T.ris j).1
  have ph : SetTable.below t.place j ≤ hs.length := by
    rw [← T.len, Array.length_toList]
    exact cut
  have pl : SetTable.below t.place j ≤ t.place.toList.length := by rw [Array.length_toList]; exact cut
  have new : t.place[SetTable.below t.place j]? ≠ some j := fun z => free (List.mem_of_getElem? (by rw [Array.getElem?_toList]; exact z))
  have up : ∀ x, x ∈ t.place.toList → x ∈ (t.put j).1.place.toList := fun x hx => by
    rw [rows]
    exact mem_ins.mpr (.inr hx)
  have len : (t.put j).1.place.toList.length = hs.length + 1 := by rw [rows, len_ins _ pl, T.len]
  refine ⟨(t.put j).1, SetTable.below t.place j, rfl, ph, { ris := ris_insert T.ris new, dm := dm, len := len.trans (len_ins hs ph h).symm, full := T.full, le := fun x hx => ?_, path := fun i g y h1 h2 => ?_ }, rfl, rfl, rfl, ?_⟩
  · rw [rows] at hx
    rcases mem_ins.mp hx with z | z
    · exact z.symm ▸ at_
    · exact T.le x z
  · have h1 : (hs.take (SetTable.below t.place j) ++ h :: hs.drop (SetTable.below t.place j))[i]? = some g := h1
    rw [tins_get hs ph] at h1
    rw [rows, tins_get _ pl] at h2
    rcases Nat.lt_trichotomy i (SetTable.below t.place j) with q | q | q
    · rw [if_pos q] at h1 h2
      obtain ⟨k, e, b⟩ := T.path i g y h1 h2
      exact ⟨k, e, fun c hc => up _ (b c hc)⟩
    · rw [if_neg (by omega), if_pos q] at h1 h2
      cases h1
      cases h2
      exact ⟨K, ej, fun c hc => up _ (full c hc)⟩
    · rw [if_neg (by omega), if_neg (by omega)] at h1 h2
      obtain ⟨k, e, b⟩ := T.path (i - 1) g y h1 h2
      exact ⟨k, e, fun c hc => up _ (b c hc)⟩
  · show (t.put j).1.place.size + (t.put j).1.dummies.size = _
    rw [dm, ← len, Array.length_toList]
    rfl
end
/-! ### laid anew -/
section
variable {m : Nat}
theorem free_at (F : Full m) (owner : Array (Option Nat)) (h : Int) {j : Nat} (hj : j ≤ m) (hf : oAt owner j = none) :
    ∃ K, SetTable.layClean.free m owner (SetTable.turns m) (SetTable.bits h % (m + 1)) (SetTable.bits h) = some (way m h K) ∧ oAt owner (way m h K) = none ∧ ∀ c, c < K → oAt owner (way m h c) ≠ none := by
  obtain ⟨n, ln, en⟩ := F.run h hj
  have there : way m h (off m (SetTable.bits h % (m + 1)) (SetTable.bits h) n) = j := by
    unfold way
    rw [nth_off, itL_run]
    exact en
  rw [← there] at hf
  obtain ⟨K, a, b, c⟩ := way_first (fun x => oAt owner x = none) h hf
  have short : n < SetTable.turns m := by
    unfold SetTable.turns
    omega
  refine ⟨K, free_spec m owner _ n _ _ K short a (fun x hx => ?_) ?_, b, c⟩
  · have z := c x hx
    unfold way at z
    exact Option.isNone_eq_false_iff.mpr (Option.isSome_iff_ne_none.mpr z)
  · unfold way at b
    rw [b]
    rfl
theorem own_step (F : Full m) {done : List Int} {owner : Array (Option Nat)} (W : Own m done owner) (few : done.length ≤ m) (h : Int) :
    ∃ j, SetTable.layClean.free m owner (SetTable.turns m) (SetTable.bits h % (m + 1)) (SetTable.bits h) = some j ∧
      Own m (done ++ [h]) (owner.setIfInBounds j (some done.length)) := by
  obtain ⟨ps, lp, cov⟩ := W.ps
  obtain ⟨j, lj, nj⟩ := st_missing ps (m + 1) (by rw [lp]; omega)
  have free : oAt owner j = none := Classical.not_not.mp fun z => nj (cov j (Nat.le_of_lt_succ lj) z)
  obtain ⟨K, a, b, c⟩ := free_at F owner h (Nat.le_of_lt_succ lj) free
  have inb : way m h K < owner.size := by
    have := way_in (m := m) h K
    rw [W.sz]
    omega
  have self := oAt_set_self (some done.length) inb
  have other : ∀ x, x ≠ way m h K → oAt (owner.setIfInBounds (way m h K) (some done.length)) x = oAt owner x := fun x hx => oAt_set_ne _ hx
  have more : ∀ x, oAt owner x ≠ none → oAt (owner.setIfInBounds (way m h K) (some done.length)) x ≠ none := fun x hx => by
    rw [other x fun z => hx (z ▸ b)]
    exact hx
  refine ⟨_, a, { sz := by rw [Array.size_setIfInBounds, W.sz], at_ := fun x k lx e => ?_, all := fun k lk => ?_, ps := ⟨way m h K :: ps, by rw [List.length_cons, List.length_append, lp]; rfl, fun x lx e => ?_⟩ }⟩
  · by_cases q : x = way m h K
    · rw [q, self] at e
      cases e
      exact ⟨h, K, by rw [List.getElem?_append_right (Nat.le_refl _), Nat.sub_self]; rfl, q.symm, fun y hy => more _ (c y hy)⟩
    · rw [other x q] at e
      obtain ⟨g, G, e1, e2, e3⟩ := W.at_ x k lx e
      exact ⟨g, G, by rw [List.getElem?_append_left (List.getElem?_eq_some_iff.mp e1).1]; exact e1, e2, fun y hy => more _ (e3 y hy)⟩
  · rw [List.length_append] at lk
    rcases Nat.lt_or_ge k done.length with q | q
    · obtain ⟨x, lx, e⟩ := W.all k q
      exact ⟨x, lx, by rw [other x fun z => by rw [z, b] at e; cases e]; exact e⟩
    · have ek : k = done.length := Nat.le_antisymm (Nat.le_of_lt_succ lk) q
      subst ek
      exact ⟨_, way_in h K, self⟩
  · by_cases q : x = way m h K
    · rw [q]
      exact List.mem_cons_self
    · rw [other x q] at e
      exact List.mem_cons_of_mem _ (cov x lx e)
theorem own_all (F : Full m) : ∀ (rest done : List Int) (owner : Array (Option Nat)), Own m done owner → done.length + rest.length ≤ m →
    ∃ new, rest.foldl (stepF m) (some (owner, done.length)) = some (new, done.length + rest.length) ∧ Own m (done ++ rest) new
  | [], done, owner, W, _ => ⟨owner, rfl, by rw [List.append_nil]; exact W⟩
  | h :: rest, done, owner, W, le => by
    have le : done.length + (rest.length + 1) ≤ m := le
    obtain ⟨j, e, W1⟩ := own_step F W (by omega) h
    have l1 : (done ++ [h]).length = done.length + 1 := List.length_append
    obtain ⟨new, f, W2⟩ := own_all F rest (done ++ [h]) _ W1 (by omega)
    refine ⟨new, ?_, by rw [List.append_assoc] at W2; exact W2⟩
    rw [l1] at f
    rw [List.foldl_cons, stepF_some e, f, List.length_cons]
    congr 2
    omega
theorem clean_all (F : Full m) {hs : Array Int} (few : hs.size ≤ m) : ∃ owner, SetTable.layClean m hs = some owner ∧ Own m hs.toList owner := by
  obtain ⟨new, f, W⟩ := own_all F hs.toList [] _ (Own.init m) (by rw [Array.length_toList]; show 0 + hs.size ≤ m; omega)
  refine ⟨new, ?_, W⟩
  rw [layClean_eq, show (some (Array.replicate (m + 1) none, 0) : Option (Array (Option Nat) × Nat)) = some (Array.replicate (m + 1) none, ([] : List Int).length) from rfl, f]
  rfl
end
end Kp
set_option maxHeartbeats 410000
/-! KpT2: sets of tuples of ints: laid anew, searched. -/
namespace Kp
open L2 PySem PySem.Spec PyProof.Rows
theorem relaid_tab (t : SetTable) {hs : Array Int} {n M : Nat} (size : SetTable.sizeAbove n - 1 = M) (F : Full M) (few : hs.size ≤ M) :
    ∃ t1 order, t.relaid hs n = some (t1, order) ∧ order.toList.Perm (List.range hs.size) ∧ Tab t1 (order.toList.map fun i => hs.getD i 0) ∧ t1.mask = M ∧ t1.led = t.led ∧ t1.plain = t.plain := by
  obtain ⟨owner, e, W⟩ := clean_all F few
  have asc := ris_live (fun j => owner.getD j none) (List.range (M + 1)) (by
    unfold Ris
    first | (exact List.pairwise_lt_range) | (exact List.pairwise_lt_range _))
  have asc1 : Ris ((liveOf M owner).map Prod.fst) := asc.1
  have inr : ∀ x, x ∈ (liveOf M owner).map Prod.fst → x < M + 1 := fun x hx => List.mem_range.mp (asc.2 x hx)
  have here : ∀ k, k < hs.size → k ∈ (liveOf M owner).map Prod.snd := fun k lk => by
    obtain ⟨j, a, b⟩ := W.all k (by rw [Array.length_toList]; exact lk)
    exact List.mem_map_of_mem (f := Prod.snd) ((mem_live W.sz).mpr ⟨a, b⟩)
  have many : (liveOf M owner).length = hs.size := by
    obtain ⟨ps, lp, cov⟩ := W.ps
    have lp : ps.length = hs.size := lp
    refine Nat.le_antisymm ?_ ?_
    · have z := nat_nodup_len _ ps (asc1.imp fun h => Nat.ne_of_lt h) fun x hx => by
        obtain ⟨⟨y, k⟩, hy, rfl⟩ := List.mem_map.mp hx
        obtain ⟨a, b⟩ := (mem_live W.sz).mp hy
        exact cov y a fun q => by rw [b] at q; cases q
      rw [List.length_map, lp] at z
      exact z
    · have z := nat_nodup_len (List.range hs.size) _ List.nodup_range fun k hk => here k (List.mem_range.mp hk)
      rw [List.length_map, List.length_range] at z
      exact z
  refine ⟨tabOf t M owner, ((liveOf M owner).map Prod.snd).toArray, ?_, ?_, { ris := asc1, dm := rfl, len := ?_, full := F, le := fun x hx => Nat.le_of_lt_succ (inr x hx), path := fun i h j h1 h2 => ?_ }, rfl, rfl, rfl⟩
  · rw [relaid_eq, size, e]
    rfl
  · exact perm_range _ _ ((List.length_map _).trans many) here
  · show ((liveOf M owner).map Prod.fst).length = (((liveOf M owner).map Prod.snd).map fun i => hs.getD i 0).length
    simp only [List.length_map]
  · replace h1 : (((liveOf M owner).map Prod.snd).map fun i => hs.getD i 0)[i]? = some h := h1
    replace h2 : ((liveOf M owner).map Prod.fst)[i]? = some j := h2
    obtain ⟨⟨y, k⟩, q, rfl⟩ : ∃ q, (liveOf M owner)[i]? = some q ∧ q.1 = j := by
      rw [List.getElem?_map] at h2
      exact Option.map_eq_some_iff.mp h2
    rw [List.getElem?_map, List.getElem?_map, q] at h1
    have h1 : hs.getD k 0 = h := Option.some.inj h1
    obtain ⟨a, b⟩ := (mem_live W.sz).mp (List.mem_of_getElem? q)
    obtain ⟨g, K, e1, e2, e3⟩ := W.at_ y k a b
    have eg : g = h := by
      rw [← h1, Array.getD_eq_getD_getElem?, ← Array.getElem?_toList, e1]
      rfl
    subst eg
    refine ⟨K, e2, fun c hc => ?_⟩
    cases z : oAt owner (way M g c) with
    | none => exact absurd z (e3 c hc)
    | some x => exact List.mem_map_of_mem (f := Prod.fst) ((mem_live W.sz).mpr ⟨way_in g c, z⟩)
theorem size20 : SetTable.sizeAbove (SetTable.grown 5) = 32 := by decide +kernel
theorem size76 : SetTable.sizeAbove (SetTable.grown 19) = 128 := by decide +kernel
theorem size308 : SetTable.sizeAbove (SetTable.grown 77) = 512 := by decide +kernel
abbrev Row := Addr × List Int
/-- the set at a holds the tuples of L in this order -/
structure SetU (P : Program) (w : World) (h : Heap) (a : Addr) (L : List Row) (es : Array (Int × Value)) (ep : Nat) (t : SetTable) : Prop where
  obj : ∃ o, h.get? a = some o ∧ o.ExactSet ∧ o.data = .set es ep t
  (rows : es.toList = rowsOf P w L)
  tab : Tab t (L.map fun r => thash P w r.2)
  once : (L.map Prod.snd).Nodup
  tups : ∀ r ∈ L, IsT P w h r.2 r.1
  plain : t.plain = true
  (led : w.params.followText "set-order" = true ∨ t.led = true)
  (room : L.length * 5 < t.mask * 3)
  few : L.length ≤ 300
  which : t.mask = 7 ∨ t.mask = 31 ∨ t.mask = 127 ∨ t.mask = 511
section
variable {P : Program} {w : World} {A : Around} {E : Value → Shared → Prop} {s : Shared} {a : Addr} {L : List Row} {es : Array (Int × Value)} {ep : Nat} {t : SetTable}
theorem SetU.count (R : SetU P w s.heap a L es ep t) : es.size = L.length := by
  rw [← Array.length_toList, R.rows]
  exact List.length_map _
theorem SetU.placed (R : SetU P w s.heap a L es ep t) : t.place.size = L.length := by
  rw [← Array.length_toList, R.tab.len, List.length_map]
theorem SetU.fits (R : SetU P w s.heap a L es ep t) : t.fits es.size = true := by
  have h1 := R.placed
  have h2 := R.count
  have h3 := R.room
  (unfold SetTable.fits SetTable.fill)
  rw [R.tab.dm, h1, h2]
  have h4 : L.length ≤ t.mask := by omega
  simp [h4]
theorem SetU.row (R : SetU P w s.heap a L es ep t) {i : Nat} {r : Row} (h : L[i]? = some r) : es[i]? = some (thash P w r.2, .ref r.1) := by
  have e := congrArg (fun l => l[i]?) R.rows
  rw [Array.getElem?_toList] at e
  rw [e]
  show (L.map _)[i]? = _
  rw [List.getElem?_map, h]
  rfl
theorem SetU.stays (R : SetU P w s.heap a L es ep t) : ¬ t.gaveWay = true := by
  unfold SetTable.gaveWay
  rw [R.tab.full.odd]
  decide
theorem SetU.mv {h h' : Heap} (R : SetU P w h a L es ep t) (k : ∀ o, h.get? a = some o → h'.get? a = some o) (kt : ∀ r ∈ L, IsT P w h' r.2 r.1) : SetU P w h' a L es ep t := by
  obtain ⟨o, q, x⟩ := R.obj
  exact { R with obj := ⟨o, k o q, x⟩, tups := kt }
theorem nth_dummy (m : Nat) : ∀ (n : Nat) (p : SetTable.Probe), p.dummy = none → (nth m p n).dummy = none
  | 0, _, h => h
  | n + 1, p, h => nth_dummy m n (adv m p) (by
    unfold adv
    split
    · exact h
    · exact h)
/-- the way's state after c steps -/
abbrev stp (t : SetTable) (g : Int) (c : Nat) : SetTable.Probe := nth t.mask (runAt t.mask (SetTable.bits g % (t.mask + 1)) (SetTable.bits g)) c
theorem stp_add (t : SetTable) (g : Int) (c q : Nat) : nth t.mask (stp t g c) q = stp t g (c + q) := (nth_add t.mask c _ q).symm
/-- one look along the way from c: a slot of the same hash, or the gap at K -/
theorem look_on (R : SetU P w s.heap a L es ep t) {g : Int} {K c : Nat} (short : K < 10 * SetTable.turns t.mask) (free : way t.mask g K ∉ t.place.toList) (full : ∀ c, c < K → way t.mask g c ∈ t.place.toList) (le : c ≤ K) :
    (∃ (q i : Nat) (r : Row), c ≤ q ∧ q < K ∧ L[i]? = some r ∧ t.place.toList[i]? = some (way t.mask g q) ∧ (∀ (c' i' : Nat) (r' : Row), c ≤ c' → c' < q → t.place.toList[i']? = some (way t.mask g c') → L[i']? = some r' → thash P w r'.2 ≠ g) ∧
      t.probe (fun i => (es[i]?.map (·.1)).getD 0) g (stp t g c) = some (.candidate (way t.mask g q) i (stp t g (q + 1)))) ∨
    ((∀ (c' i' : Nat) (r' : Row), c ≤ c' → c' < K → t.place.toList[i']? = some (way t.mask g c') → L[i']? = some r' → thash P w r'.2 ≠ g) ∧ t.probe (fun i => (es[i]?.map (·.1)).getD 0) g (stp t g c) = some (.empty (way t.mask g K) none)) := by
  have wj : ∀ q, (nth t.mask (stp t g c) q).j = way t.mask g (c + q) := fun q => by rw [stp_add]
  have hash : ∀ (i : Nat) (r : Row), L[i]? = some r → (es[i]?.map (·.1)).getD 0 = thash P w r.2 := fun i r h => by
    rw [R.row h]
    rfl
  have eK : c + (K - c) = K := Nat.add_sub_of_le le
  have z := go_spec t R.tab.ris R.tab.dm (fun i => (es[i]?.map (·.1)).getD 0) g (10 * SetTable.turns t.mask) (K - c) (stp t g c) (nth_dummy _ _ _ rfl) (by omega) (fun q lq => by rw [wj]; exact full _ (by omega)) (by rw [wj, eK]; exact free)
  rcases z with ⟨q, i, lq, hi, hh, no, pr⟩ | ⟨no, pr⟩
  · rw [wj] at hi
    have li : i < L.length := by
      rw [← R.placed, ← Array.length_toList]
      exact (List.getElem?_eq_some_iff.mp hi).1
    refine .inl ⟨c + q, i, L[i], Nat.le_add_right _ _, by omega, List.getElem?_eq_getElem li, hi, fun c' i' r' l1 l2 e1 e2 => ?_, ?_⟩
    · have y := no (c' - c) i' (by omega) (by rw [wj, Nat.add_sub_of_le l1]; exact e1)
      exact fun z => y ((hash i' r' e2).trans z)
    · have e : c + q + 1 = c + (q + 1) := rfl
      rw [e, ← stp_add, ← wj]
      exact pr
  · refine .inr ⟨fun c' i' r' l1 l2 e1 e2 => ?_, ?_⟩
    · have y := no (c' - c) i' (by omega) (by rw [wj, Nat.add_sub_of_le l1]; exact e1)
      exact fun z => y ((hash i' r' e2).trans z)
    · rw [← eK, ← wj]
      exact pr
end
end Kp
set_option maxHeartbeats 410000
/-! KpT3: sets of tuples of ints: a search, one put in. -/
namespace Kp
open L2 PySem PySem.Spec PyProof.Rows
section
variable {P : Program} {w : World} {A : Around} {E : Value → Shared → Prop} {s : Shared} {a : Addr} {L : List Row} {es : Array (Int × Value)} {ep : Nat} {t : SetTable} {x : Addr} {k : List Int}
theorem search_on (R : SetU P w s.heap a L es ep t) (hx : IsT P w s.heap k x) (hu : A.units < cLine) {K : Nat} (short : K < 10 * SetTable.turns t.mask) (free : way t.mask (thash P w k) K ∉ t.place.toList) (full : ∀ c, c < K → way t.mask (thash P w k) c ∈ t.place.toList)
    {Q : SetFound → Shared → Prop} (hin : k ∈ L.map Prod.snd → Q (.there none) s) (hout : k ∉ L.map Prod.snd → Q (.free (way t.mask (thash P w k) K) false) s) :
    ∀ (f c : Nat), c ≤ K → K - c < f → ∀ st : Option SetTable.Probe, st.getD (t.probeStart (thash P w k)) = stp t (thash P w k) c →
      (∀ (i : Nat) (r : Row), L[i]? = some r → r.2 = k → ∃ c', c ≤ c' ∧ c' < K ∧ t.place.toList[i]? = some (way t.mask (thash P w k) c')) → wpAny (model P w) A (setSearchFrom a (.ref x) (thash P w k) true f st) Q E s := by
  intro f
  induction f with
  | zero => exact fun c _ h => absurd h (Nat.not_lt_zero _)
  | succ f ih =>
    intro c le lf st est ahead
    obtain ⟨o, ho, _, hd⟩ := R.obj
    rw [setSearchFrom_succ]
    (refine wpAny_bind (wpAny_setState_of ho hd R.fits ?_))
    dsimp only
    refine wp_if_neg R.stays ?_
    rw [est]
    rcases look_on R short free full le with ⟨q, i, r, l1, l2, hr, hq, no, pr⟩ | ⟨no, pr⟩
    · rw [pr]
      dsimp only
      have mr := List.mem_of_getElem? hr
      have on : wpAny (model P w) A (searchRest a (.ref x) (thash P w k) true f es t (way t.mask (thash P w k) q) i (stp t (thash P w k) (q + 1))) Q E s := by
        unfold searchRest
        rw [R.row hr]
        dsimp only
        refine wpAny_bind (wpAny_holding (wpAny_eqBool_tuple hu (R.tups r mr) hx (wpAny_bind (wpAny_setState_of ho hd R.fits ?_))))
        dsimp only
        by_cases e : r.2 = k
        · exact wp_if_pos (by simp [e]) (wpAny_pure (hin (List.mem_map.mpr ⟨r, mr, e⟩)))
        · refine wp_if_neg (by simp [e]) ?_
          have live := slot_live R.tab.ris hq
          rw [sameMem]
          simp only [if_true, live, R.row hr]
          (refine wpAny_bind (wpAny_isSame_ref_self (wpAny_bind (wpAny_pure ?_))))
          simp only [if_true]
          refine wp_if_neg (by simp [e]) (ih (q + 1) (by omega) (by omega) _ rfl fun j y hy ey => ?_)
          obtain ⟨c', a1, a2, a3⟩ := ahead j y hy ey
          refine ⟨c', Nat.lt_of_not_le fun z => ?_, a2, a3⟩
          rcases Nat.lt_or_eq_of_le z with z | z
          · exact no c' j y a1 z a3 hy (by rw [ey])
          · rw [z] at a3
            have e2 := (slot_live R.tab.ris a3).symm.trans live
            injection e2 with e2
            rw [e2, hr] at hy
            cases hy
            exact e ey
      by_cases hl : t.led = true
      · exact wp_if_neg (by simp [hl]) on
      · refine wp_if_pos (by simp [hl]) (wpAny_bind (seen_tup hx (fun y hy => ?_) (wp_if_neg (by decide) on)))
        obtain ⟨v, hv, rfl⟩ := List.mem_map.mp hy
        have hv : v ∈ es.toList := by
          have z : v ∈ es ∧ v.1 = thash P w k := by simpa using hv
          simpa using z.1
        rw [R.rows] at hv
        obtain ⟨y, my, rfl⟩ := List.mem_map.mp hv
        exact ⟨y.2, y.1, rfl, R.tups y my⟩
    · rw [pr]
      dsimp only
      refine wpAny_pure (hout fun m => ?_)
      obtain ⟨y, my, ey⟩ := List.mem_map.mp m
      obtain ⟨j, hj⟩ := List.mem_iff_getElem?.mp my
      obtain ⟨c', a1, a2, a3⟩ := ahead j y hj ey
      exact no c' j y a1 a2 a3 hj (by rw [ey])
theorem search_new (R : SetU P w s.heap a L es ep t) (hx : IsT P w s.heap k x) (hu : A.units < cLine) {Q : SetFound → Shared → Prop} (hin : k ∈ L.map Prod.snd → Q (.there none) s)
    (hout : ∀ K, k ∉ L.map Prod.snd → way t.mask (thash P w k) K ∉ t.place.toList → (∀ c, c < K → way t.mask (thash P w k) c ∈ t.place.toList) → Q (.free (way t.mask (thash P w k) K) false) s) :
    wpAny (model P w) A (setSearch a (.ref x) (thash P w k) true)
      Q E s := by
  have room := R.room
  have small := R.tab.full.small
  obtain ⟨K, short, free, full⟩ := R.tab.gap (by rw [List.length_map]; omega) (thash P w k)
  have lt : K < 100000 := by
    unfold SetTable.turns at short
    omega
  unfold setSearch
  refine search_on R hx hu short free full hin (fun n => hout K n free full) 100000 0 (Nat.zero_le _) (by omega) none rfl fun i r hr er => ?_
  have li : i < t.place.toList.length := by
    rw [R.tab.len, List.length_map]
    exact (List.getElem?_eq_some_iff.mp hr).1
  obtain ⟨c, lc, ec⟩ := R.tab.ahead (h := thash P w k) free (i := i) (by rw [List.getElem?_map, hr, ← er]; rfl) (List.getElem?_eq_getElem li)
  exact ⟨c, Nat.zero_le _, lc, by rw [ec]; exact List.getElem?_eq_getElem li⟩
/-- laid anew in a larger table -/
theorem relay_new {o : Obj} (ho : s.heap.get? a = some o) (hex : o.ExactSet) (hd : o.data = .set es ep t) (rows : es.toList = rowsOf P w L) (placed : t.place.size = es.size) (dm : t.dummies = #[]) (fits : es.size ≤ t.mask) (once : (L.map Prod.snd).Nodup) (tups : ∀ r ∈ L, IsT P w s.heap r.2 r.1) (pl : t.plain = true)
    (ld : w.params.followText "set-order" = true ∨ t.led = true) (few : L.length ≤ 300) {n M : Nat} (size : SetTable.sizeAbove n = M + 1) (F : Full M) (which : M = 7 ∨ M = 31 ∨ M = 127 ∨ M = 511) (room : L.length * 5 < M * 3) {Q : Unit → Shared → Prop}
    (hQ : ∀ h' L' es' ep' t', Heap.SameBut a s.heap h' → SetU P w h' a L' es' ep' t' → L'.Perm L → Q () { s with heap := h' }) : wpAny (model P w) A (setRelay a n) Q E s := by
  have count : es.size = L.length := by
    rw [← Array.length_toList, rows]
    exact List.length_map _
  have f1 : t.fits es.size = true := by
    (unfold SetTable.fits SetTable.fill)
    rw [dm, placed]
    simp [fits]
  have small := F.small
  obtain ⟨t1, ord, e, perm, T, em, el, epl⟩ := relaid_tab t (hs := es.map (·.1)) (n := n) (by rw [size]; rfl) F (by rw [Array.size_map]; omega)
  rw [Array.size_map, count] at perm
  obtain ⟨L1, r1, r2, r3⟩ := order_rows L es ord rows perm
  rw [← r3] at T
  have c1 : (ord.filterMap (es[·]?)).size = es.size := by
    rw [← Array.length_toList, r1, count, ← r2.length_eq]
    exact List.length_map _
  rw [setRelay_eq]
  refine wpAny_bind (wpAny_setState_of ho hd f1 ?_)
  dsimp only
  refine wp_if_neg (by rw [size, sizeLine_eq]; omega) ?_
  rw [e]
  dsimp only
  refine wpAny_bind (wp_if_neg (by rw [c1]; simp) (wpAny_pure ?_))
  dsimp only
  have same : Heap.SameBut a s.heap (s.heap.update a (Obj.putSet (ord.filterMap (es[·]?)) t1)) := Heap.SameBut.update ..
  refine wpAny_storeSet_of ho hd (hQ _ L1 _ (ep + 1) t1 same { obj := ⟨_, store_at ho hd, ⟨hex.1, hex.2.1, hex.2.2⟩, rfl⟩, rows := r1, tab := T, once := (r2.map Prod.snd).nodup_iff.mpr once, tups := fun r hr => isT_same (tups r (r2.mem_iff.mp hr)) ho hd same, plain := epl.trans pl, led := by rw [el]; exact ld, room := by rw [r2.length_eq, em]; exact room, few := by rw [r2.length_eq]; exact few, which := by rw [em]; exact which } r2) (by rw [c1, sizeLine_eq]; omega)
theorem mask_of {m : Nat} (h : m = 7 ∨ m = 31 ∨ m = 127 ∨ m = 511) : Full m := by
  rcases h with rfl | rfl | rfl | rfl
  · exact full7
  · exact full31
  · exact full127
  · exact full511
/-- one put in -/
theorem add_new (R : SetU P w s.heap a L es ep t) (hx : IsT P w s.heap k x) (hu : A.units < cLine) (few : L.length + 1 ≤ 300) {Q : Bool → Shared → Prop}
    (hQ : ∀ b h' L' es' ep' t', Heap.SameBut a s.heap h' → SetU P w h' a L' es' ep' t' → (k ∈ L.map Prod.snd → L' = L) → (k ∉ L.map Prod.snd → L'.Perm ((x, k) :: L)) → Q b { s with heap := h' }) :
    wpAny (model P w) A (setAddHashed a (.ref x) (thash P w k))
      Q E s := by
  obtain ⟨o, ho, hex, hd⟩ := R.obj
  have count := R.count
  have room := R.room
  unfold setAddHashed
  refine wpAny_holding ?_
  rw [setAddHashedIn_succ a (.ref x) (thash P w k) 99999]
  (refine wpAny_bind (wpAny_setState_of ho hd R.fits ?_))
  dsimp only
  refine wp_if_neg (by simp [byScan, Value.scannable]) (wpAny_bind (search_new R hx hu (fun m => ?_) fun K out free full => ?_))
  · exact wpAny_pure (hQ false s.heap L es ep t (Heap.SameBut.refl a s.heap) R (fun _ => rfl) fun z => absurd m z)
  dsimp only
  (refine wpAny_bind (wpAny_setState_of ho hd R.fits ?_))
  dsimp only
  obtain ⟨t1, p, put, lp, T, em, el, epl, ef⟩ := R.tab.put free full
  rw [put]
  dsimp only
  have pl1 : t1.plain = true := epl.trans R.plain
  have perm := put_perm L p (x, k)
  have len : (L.take p ++ (x, k) :: L.drop p).length = L.length + 1 := perm.length_eq
  have rows : (SetTable.insertAt es p (thash P w k, Value.ref x)).toList = rowsOf P w (L.take p ++ (x, k) :: L.drop p) := by rw [rows_put, SetTable.toList_insertAt, R.rows]
  have count1 : (SetTable.insertAt es p (thash P w k, Value.ref x)).size = L.length + 1 := by
    rw [← Array.length_toList, rows, ← len]
    exact List.length_map _
  have tab : Tab t1 ((L.take p ++ (x, k) :: L.drop p).map fun r => thash P w r.2) := by
    (rw [List.map_append, List.map_cons, List.map_take, List.map_drop])
    exact T
  have once : ((L.take p ++ (x, k) :: L.drop p).map Prod.snd).Nodup := (perm.map Prod.snd).nodup_iff.mpr (List.nodup_cons.mpr ⟨out, R.once⟩)
  generalize SetTable.insertAt es p (thash P w k, Value.ref x) = es1 at rows count1 ⊢
  generalize L.take p ++ (x, k) :: L.drop p = L1 at perm len rows tab once
  refine wp_if_pos pl1 (wpAny_bind (hashBy_tup hx ?_))
  simp only [if_true]
  refine wpAny_bind (wpAny_storeSet_of ho hd ?_ (by rw [count1, sizeLine_eq]; omega))
  have same : Heap.SameBut a s.heap (s.heap.update a (Obj.putSet es1 t1)) := Heap.SameBut.update ..
  (have ho1 := store_at (es' := es1) (t' := t1) ho hd)
  generalize s.heap.update a (Obj.putSet es1 t1) = h1 at same ho1 ⊢
  have tups : ∀ r ∈ L1, IsT P w h1 r.2 r.1 := fun r hr => by
    rcases List.mem_cons.mp (perm.mem_iff.mp hr) with z | z
    · rw [z]
      exact isT_same hx ho hd same
    · exact isT_same (R.tups r z) ho hd same
  have ld : w.params.followText "set-order" = true ∨ t1.led = true := by
    rw [el]
    exact R.led
  have fill1 : t1.fill = L.length + 1 := by rw [ef, List.length_map]
  have full_iff : t1.tooFull = decide ((L.length + 1) * 5 ≥ t.mask * 3) := by
    unfold SetTable.tooFull
    rw [fill1, em]
  have wh := R.which
  by_cases hf : (L.length + 1) * 5 ≥ t.mask * 3
  · have hf1 : (!false && t1.tooFull) = true := by rw [full_iff, decide_eq_true hf]; rfl
    have go : ∀ M, SetTable.sizeAbove (SetTable.grown (L.length + 1)) = M + 1 → (M = 7 ∨ M = 31 ∨ M = 127 ∨ M = 511) → (L.length + 1) * 5 < M * 3 →
        wpAny (model P w) A (setRelay a (SetTable.grown (L.length + 1))) (fun _ s' => wpAny (model P w) A (pure true) Q E s') E { s with heap := h1 } := fun M e1 e2 e3 => by
      have placed : t1.place.size = es1.size := by rw [← Array.length_toList, tab.len, List.length_map, len, count1]
      refine relay_new (s := { s with heap := h1 }) ho1 ⟨hex.1, hex.2.1, hex.2.2⟩ rfl rows placed tab.dm (by rw [count1, em]; omega) once tups pl1 ld (by rw [len]; exact few) e1 (mask_of e2) e2 (by rw [len]; exact e3) fun h2 L2 es2 ep2 t2 same2 R2 perm2 => ?_
      exact wpAny_pure (hQ true h2 L2 es2 ep2 t2 (same.trans same2) R2 (fun z => absurd z out) fun _ => perm2.trans perm)
    refine wp_if_pos hf1 (wpAny_bind ?_)
    rw [count]
    rcases wh with e | e | e | e
    · have n : L.length + 1 = 5 := by omega
      exact go 31 (by rw [n]; exact size20) (.inr (.inl rfl)) (by omega)
    · have n : L.length + 1 = 19 := by omega
      exact go 127 (by rw [n]; exact size76) (.inr (.inr (.inl rfl))) (by omega)
    · have n : L.length + 1 = 77 := by omega
      exact go 511 (by rw [n]; exact size308) (.inr (.inr (.inr rfl))) (by omega)
    · omega
  · have hf1 : ¬ (!false && t1.tooFull) = true := by rw [full_iff, decide_eq_false hf]; decide
    refine wp_if_neg hf1 (wpAny_pure (hQ true h1 L1 es1 (ep + 1) t1 same { obj := ⟨_, ho1, ⟨hex.1, hex.2.1, hex.2.2⟩, rfl⟩, rows := rows, tab := tab, once := once, tups := tups, plain := pl1, led := ld, room := by rw [len, em]; omega, few := by rw [len]; exact few, which := by rw [em]; exact wh } (fun z => absurd z out) fun _ => perm))
end
end Kp
set_option maxHeartbeats 410000
/-! KpT4: set(t), t a tuple of tuples of ints. -/
namespace Kp
open L2 PySem PySem.Spec PyProof.Rows
section
variable {P : Program} {A : Around} {w : World} {E : Value → Shared → Prop} {s : Shared}
theorem upd_tups {I : Addr} {fp wr : List Addr} {G : Array GenState → Array GenState → Prop} {n : Nat} {Pv : Nat → Value → Prop} {St : Nat → Shared → Prop} {R : Result → Shared → Prop} (W : WalksS P w A.in1 I fp wr G n Pv St) (S : Addr) (nS : S ∉ fp) (ks : List Row) (len : n = ks.length) (few : ks.length ≤ 300)
    (val : ∀ i v, Pv i v → ∃ r, ks[i]? = some r ∧ v = .ref r.1) (h0 : Heap) (tups : ∀ r ∈ ks, IsT P w h0 r.2 r.1) (newS : h0.get? S = none) (newW : ∀ b ∈ wr, h0.get? b = none) (hu : A.in1.units < cLine)
    (fin : ∀ s' L es ep t, Moved (S :: wr) G s s' → SetU P w s'.heap S L es ep t → Got ks n L → (∀ b o, h0.get? b = some o → s'.heap.get? b = some o) → R (.ok (.ret .none)) s') :
    ∀ (m i : Nat) (s1 : Shared), n - i = m → i ≤ n → St i s1 → Moved (S :: wr) G s s1 → (∀ b o, h0.get? b = some o → s1.heap.get? b = some o) → (∃ L es ep t, SetU P w s1.heap S L es ep t ∧ Got ks i L) →
      codeAny (model P w) A (.builtin "set.update.loop" ⟨[.ref S, .ref I], []⟩) R s1 := by
  have nW : S ∉ wr := fun z => nS (W.sub _ z)
  have sub : ∀ b, b ∈ wr → b ∈ S :: wr := fun b hb => List.mem_cons_of_mem _ hb
  have on : ∀ {s1 s2 : Shared}, Moved wr G s1 s2 → (∀ b o, h0.get? b = some o → s1.heap.get? b = some o) → ∀ b o, h0.get? b = some o → s2.heap.get? b = some o := fun m k b o q => m.heap b o (fun z => by rw [newW b z] at q; cases q) (k b o q)
  intro m
  induction m with
  | zero =>
    intro i s1 em le st mv keep ⟨L, es, ep, t, U, g⟩
    have ei : i = n := by omega
    subst ei
    (refine codeAny_builtin F.entry_set_update_loop ?_)
    (rw [Around.under_plainId F.plain_set_update_loop _])
    show wpAny _ A.in1 (pyNext (.ref I) >>= _) _ _ s1
    refine wpAny_bind (W.done s1 _ _ st fun s2 mv2 => ?_)
    have keep2 := on mv2 keep
    exact wpAny_pure (fin s2 L es ep t (Moved.trans W.gtrans mv (mv2.mono sub)) (U.mv (fun o q => mv2.heap S o nW q) fun r hr => isT_keep (tups r (List.mem_of_mem_take (g.sub r hr))) keep2) g keep2)
  | succ m ih =>
    intro i s1 em le st mv keep ⟨L, es, ep, t, U, g⟩
    have lt : i < n := by omega
    (refine codeAny_builtin F.entry_set_update_loop ?_)
    (rw [Around.under_plainId F.plain_set_update_loop _])
    show wpAny _ A.in1 (pyNext (.ref I) >>= _) _ _ s1
    refine wpAny_bind (W.item i s1 _ _ lt st fun v s2 pv st2 mv2 => ?_)
    obtain ⟨r, hr, rfl⟩ := val i v pv
    have keep2 := on mv2 keep
    have hx : IsT P w s2.heap r.2 r.1 := isT_keep (tups r (List.mem_of_getElem? hr)) keep2
    have U2 := U.mv (fun o q => mv2.heap S o nW q) fun y hy => isT_keep (tups y (List.mem_of_mem_take (g.sub y hy))) keep2
    have gl := g.len
    show wpAny _ A.in1 (holding [Value.ref r.1] (setAdd S (.ref r.1)) >>= _) _ _ s2
    (refine wpAny_bind (wpAny_holding ?_))
    unfold setAdd
    refine wpAny_holding (wpAny_bind (wpAny_pyHash_tuple hu hx ?_))
    refine add_new (s := { s2 with toks := s2.toks + (r.2.length + 1) }) U2 hx hu (by omega) fun b h' L1 es1 ep1 t1 same U3 c1 c2 => ?_
    have g1 : Got ks (i + 1) L1 := by
      by_cases c : r.2 ∈ L.map Prod.snd
      · rw [c1 c]
        exact g.same hr c
      · exact g.more hr (c2 c)
    have keep3 : ∀ b o, h0.get? b = some o → h'.get? b = some o := fun b o q => (same.2 b fun z => by rw [z, newS] at q; cases q).trans (keep2 b o q)
    refine wpAny_pure ⟨plainId_quiet F.plain_set_update_loop _, ih (i + 1) _ (by omega) lt (W.frame _ s2 _ _ st2 (Nat.le_add_right _ _) fun b hb o q => ?_) (Moved.trans W.gtrans mv ((mv2.mono sub).then_heap (Nat.le_add_right _ _) fun b o nb q => ?_)) keep3 ⟨L1, es1, ep1, t1, U3, g1⟩⟩
    · exact (same.2 b fun z => nS (z ▸ hb)).trans q
    · exact (same.2 b fun z => nb (by rw [z]; exact List.mem_cons_self)).trans q
theorem setU_new {h : Heap} {a : Addr} (ho : h.get? a = some (set0 w)) : SetU P w h a [] #[] 0 (.fresh 0 0 (!w.params.followText "set-order")) where
  obj := ⟨_, ho, ⟨rfl, rfl, rfl⟩, rfl⟩
  rows := rfl
  tab := { ris := List.Pairwise.nil, dm := rfl, len := rfl, full := full7, le := fun _ z => (nomatch z), path := fun _ _ _ z _ => (nomatch z) }
  once := List.nodup_nil
  tups := fun _ z => nomatch z
  plain := rfl
  led := by
    cases w.params.followText "set-order" with
    | true => exact .inl rfl
    | false => exact .inr rfl
  room := by
    show 0 * 5 < 7 * 3
    decide
  few := Nat.zero_le _
  which := .inl rfl
/-- set(t) -/
theorem call_set_tupT {l : Addr} {items : Array Value} (ks : List Row) {Q : Value → Shared → Prop} (hh : A.handled = none) (hl : s.heap.IsTuple l items) (its : items.toList = ks.map fun r => Value.ref r.1) (tups : ∀ r ∈ ks, IsT P w s.heap r.2 r.1) (few : ks.length ≤ 300) (hu : A.units + 3 < cLine)
    (fin : ∀ (h' : Heap) (tk : Nat) L es ep t, SetU P w h' s.heap.objs.size L es ep t → Got ks ks.length L → (∀ b o, s.heap.get? b = some o → h'.get? b = some o) → Q (.ref s.heap.objs.size) { s with heap := h', toks := tk }) : wpAny (model P w) A (call (.type "set") [.ref l]) Q E s := by
  have len : items.size = ks.length := by rw [← Array.length_toList, its, List.length_map]
  have lt : l < s.heap.objs.size := let ⟨_, z, _⟩ := hl; Heap.lt_size z
  have sz : (s.heap.push (set0 w)).objs.size = s.heap.objs.size + 1 := Heap.size_push ..
  have none_at : ∀ b, @LE.le Nat _ s.heap.objs.size b → s.heap.get? b = none := fun b hb => by
    cases q : s.heap.get? b with
    | none => rfl
    | some o => exact absurd (Heap.lt_size q) (Nat.not_lt.mpr hb)
  refine set_openT (Good := fun h' => ∃ L es ep t, SetU P w h' s.heap.objs.size L es ep t ∧ Got ks ks.length L) hl (fun R k => ?_) fun h' tk ⟨L, es, ep, t, U, g⟩ kept => fin h' tk L es ep t U g kept
  have ne : l ≠ (s.heap.push (set0 w)).objs.size := by rw [sz]; exact Nat.ne_of_lt (Nat.lt_succ_of_lt lt)
  have hh3 : A.in1.in1.in1.handled = none := hh
  refine upd_tups ((Walks.tuple hh3 _ l ne items).toS) s.heap.objs.size ?_ ks len few (fun i v hv => ?_) s.heap tups (none_at _ (Nat.le_refl _)) (fun b hb => ?_) hu (fun s' L ev ep t mv U g keep => ?_) (items.size - 0) 0 _ rfl (Nat.zero_le _) ⟨⟨_, Heap.get?_push_size _ rfl, rfl, rfl⟩, (hl.push _).push _⟩ (Moved.refl fun _ => rfl) (fun b o q => Heap.get?_push_of_some _ (Heap.get?_push_of_some _ q)) ⟨[], _, _, _, setU_new (Heap.get?_push_of_some _ (Heap.get?_push_size _ rfl)), Got.zero ks⟩
  · rw [sz]
    simp only [List.mem_cons, List.not_mem_nil, or_false, not_or]
    exact ⟨Nat.ne_of_lt (Nat.lt_succ_self _), Nat.ne_of_gt lt⟩
  · have q : (items.toList)[i]? = some v := by rw [Array.getElem?_toList]; exact hv
    rw [its, List.getElem?_map] at q
    obtain ⟨r, e1, e2⟩ := Option.map_eq_some_iff.mp q
    exact ⟨r, e1, e2.symm⟩
  · rw [List.mem_singleton.mp hb, sz]
    exact none_at _ (Nat.le_succ _)
  · have es : s' = { s with heap := s'.heap, toks := s'.toks } := by
      (obtain ⟨h', g2, d', tk', os'⟩ := s')
      have eg : g2 = s.gens := mv.gens
      have ed : d' = s.drawn := mv.drawn
      have eo : os' = s.os := mv.os
      subst eg ed eo
      rfl
    rw [len] at g
    rw [es]
    exact k _ _ ⟨L, ev, ep, t, U, g⟩ keep
end
end Kp
set_option maxHeartbeats 410000
/-! KpT5: sorted(t) of a tuple, of a set of tuples. -/
namespace Kp
open L2 PySem PySem.Spec PyProof.Rows
open PySem.W (EachIs AllAlike Sortable dataLe)
theorem no_new {h h' : Heap} (k : ∀ b o, h.get? b = some o → h'.get? b = some o) : h.get? h'.objs.size = none := by
  cases q : h.get? h'.objs.size with
  | none => rfl
  | some o => exact absurd (Heap.lt_size (k _ o q)) (Nat.lt_irrefl _)
theorem perm_lift {α β : Type} {f : α → β} {vs ws : List β} (p : vs.Perm ws) : ∀ L : List α, ws = L.map f → ∃ L0 : List α, vs = L0.map f ∧ L0.Perm L := by
  induction p with
  | nil => exact fun L e => ⟨L, e, List.Perm.refl L⟩
  | cons x p ih =>
    intro L e
    cases L with
    | nil => cases e
    | cons a L =>
      rw [List.map_cons] at e
      injection e with e1 e2
      obtain ⟨L0, q1, q2⟩ := ih L e2
      exact ⟨a :: L0, by rw [List.map_cons, e1, q1], q2.cons a⟩
  | swap x y l =>
    intro L e
    match L, e with
    | a :: b :: L, e =>
      (rw [List.map_cons, List.map_cons] at e)
      injection e with e1 e2
      injection e2 with e2 e3
      exact ⟨b :: a :: L, by rw [List.map_cons, List.map_cons, e1, e2, e3], List.Perm.swap a b L⟩
  | trans p1 p2 ih1 ih2 =>
    intro L e
    obtain ⟨L1, a1, a2⟩ := ih2 L e
    obtain ⟨L2, b1, b2⟩ := ih1 L1 a1
    exact ⟨L2, b1, b2.trans a2⟩
theorem reads_ints {h : Heap} : ∀ {us : List Value} {ns : List Int}, IntsAre us ns → ReadsAll h us (ns.map .int) []
  | _, _, .nil => .nil
  | _, _, .cons n t r => .cons (.int n t) (reads_ints r)
theorem reads_tup {P : Program} {w : World} {h : Heap} {k : List Int} {b : Addr} (x : IsT P w h k b) : Reads h (.ref b) (.tuple (k.map .int)) [] := by
  (obtain ⟨o, items, n, ho, hc, hd, hi⟩ := x)
  exact .tuple ho hc hd (reads_ints (ints_of_items hi))
theorem each_refs : ∀ (L : List Row), EachIs (fun v (r : Row) => v = .ref r.1) (L.map fun r => Value.ref r.1) L
  | [] => .nil
  | _ :: L => .cons rfl (each_refs L)
theorem each_of {α β : Type} {R R2 : α → β → Prop} {as : List α} {bs : List β} (e : EachIs R as bs) (k : ∀ a b, b ∈ bs → R a b → R2 a b) : EachIs R2 as bs := by
  induction e with
  | nil => exact .nil
  | cons h t ih => exact .cons (k _ _ List.mem_cons_self h) (ih fun a b hb => k a b (List.mem_cons_of_mem _ hb))
section
variable {P : Program} {w : World} {A : Around} {E : Value → Shared → Prop} {s : Shared} {β : Type} {vs : List Value} {bs : List β} {enc : β → PyData} {R : Value → β → Prop}
/-- the new list, sorted -/
theorem sort_new {γ : Type} {k : Value → Sem γ} {Q : γ → Shared → Prop} (e : EachIs R vs bs) (er : EachIs (fun v b => Reads s.heap v (enc b) []) vs bs) (hal : AllAlike (bs.map enc)) (hk : Sortable (bs.map enc)) (hL : bs.length ≤ 100000) (hu : ∀ b, b ∈ bs → A.units + 1 + (enc b).depth < cLine)
    (fin : ∀ (h' : Heap) (out : List Value) (c : Nat), h'.get? s.heap.objs.size = some (seqObj "list" out.toArray c) → EachIs R out (bs.mergeSort (dataLe false enc)) → (∀ b o, s.heap.get? b = some o → h'.get? b = some o) → wpAny (model P w) A (k (.ref s.heap.objs.size)) Q E { s with heap := h' }) :
    wpAny (model P w) A (newList vs >>= fun l => holding [l] (call (.builtin "list.sort") [l]) >>= fun _ => k l) Q E s := by
  have lv : vs.length = bs.length := e.length
  (refine wpAny_bind (wpAny_newList ?_ (by rw [sizeLine_eq]; omega)))
  have hoL : (s.heap.push (seqObj "list" vs.toArray 0)).get? s.heap.objs.size = some (seqObj "list" vs.toArray 0) := Heap.get?_push_size _ rfl
  refine wpAny_bind (wpAny_holding (PySem.W.list_sort_data (s := { s with heap := s.heap.push (seqObj "list" vs.toArray 0) }) hoL e (er.mono fun v b r => ⟨[], PyProof.Rows.Reads.keeps (fun c o q => Heap.get?_push_of_some _ q) r, fun z => nomatch z⟩) hal hk (by rw [sizeLine_eq]; omega) hu fun out lo eo => ?_))
  obtain ⟨c, hc⟩ := sortedHeap_at (vs := vs) (out := out.toArray) hoL
  refine fin _ out c hc eo fun b o q => ?_
  have lt := Heap.lt_size q
  show (sortedHeap (s.heap.push (seqObj "list" vs.toArray 0)) s.heap.objs.size vs out.toArray).get? b = some o
  rw [sortedHeap_old (Nat.ne_of_lt lt) (by rw [size_push']; exact Nat.lt_succ_of_lt lt)]
  (exact Heap.get?_push_of_some _ q)
/-- sorted(t) -/
theorem sorted_tupA {l : Addr} {Q : Value → Shared → Prop} (hl : s.heap.IsTuple l vs.toArray) (e : EachIs R vs bs) (er : EachIs (fun v b => Reads s.heap v (enc b) []) vs bs) (hal : AllAlike (bs.map enc)) (hk : Sortable (bs.map enc)) (hL : bs.length ≤ 100000) (hu : ∀ b, b ∈ bs → A.units + 2 + (enc b).depth < cLine)
    (fin : ∀ (h' : Heap) (p : Addr) (out : List Value) (c : Nat), s.heap.get? p = none → h'.get? p = some (seqObj "list" out.toArray c) → EachIs R out (bs.mergeSort (dataLe false enc)) → (∀ b o, s.heap.get? b = some o → h'.get? b = some o) → Q (.ref p) { s with heap := h' }) :
    wpAny (model P w) A (call (.builtin "sorted") [.ref l]) Q E s := by
  (obtain ⟨o, ho, hc, n, hd⟩ := hl)
  have lv : vs.length = bs.length := e.length
  (refine Calls.call_function_entry kind_sorted plain_sorted entry_sorted (args_sorted1 _) ?_)
  unfold Builtin.«sorted»
  (refine wpAny_bind (m := checkCount "sorted" 1 1 _) (wpAny_pure ?_))
  refine wpAny_bind (wpAny_collect_seq l (.inr rfl) ho hc hd (fun h1 k1 => ?_) (by rw [List.size_toArray, sizeLine_eq]; omega))
  show wpAny _ _ (newList vs >>= _) _ _ _
  refine sort_new (s := { s with heap := h1 }) e (er.mono fun v b r => PyProof.Rows.Reads.keeps (fun c o q => k1 c o q) r) hal hk hL (fun b hb => by have := hu b hb; show A.units + 1 + 1 + _ < _; omega) fun h' out c q1 q2 q3 => wpAny_pure ⟨_, rfl, fin h' _ out c ?_ q1 q2 fun b o q => q3 b o (k1 b o q)⟩
  exact no_new k1
/-- sorted(a set of tuples) -/
theorem sorted_setU {a : Addr} {L : List Row} {es : Array (Int × Value)} {ep : Nat} {t : SetTable} {Q : Value → Shared → Prop} (U : SetU P w s.heap a L es ep t) (hh : A.handled = none) (hne : ∀ r ∈ L, r.2 ≠ []) (hu : A.units + 3 < cLine)
    (fin : ∀ s' p (out : List Value) (c : Nat) (L1 : List Row), (∀ b o, s.heap.get? b = some o → s'.heap.get? b = some o) → s'.gens = s.gens → s'.os = s.os → s.heap.get? p = none → s'.heap.get? p = some (seqObj "list" out.toArray c) → L1.Perm L → EachIs (fun v (r : Row) => v = .ref r.1) out (L1.mergeSort (dataLe false fun r => .tuple (r.2.map .int))) → Q (.ref p) s') :
    wpAny (model P w) A (call (.builtin "sorted") [.ref a])
      Q E s := by
  obtain ⟨o, ho, hex, hd⟩ := U.obj
  have count := U.count
  have few := U.few
  (refine Calls.call_function_entry kind_sorted plain_sorted entry_sorted (args_sorted1 _) ?_)
  unfold Builtin.«sorted»
  (refine wpAny_bind (m := checkCount "sorted" 1 1 _) (wpAny_pure ?_))
  refine wpAny_bind (collect_set (A := A.in1) hh ⟨o, ho, hex.1, hd⟩ U.fits (by unfold scanBound; omega) U.tab.ris U.led fun s1 vs k1 hz g1 o1 perm => ?_)
  show wpAny _ _ (newList vs >>= _) _ _ _
  have evs : es.toList.map (·.2) = L.map fun r => Value.ref r.1 := by
    rw [U.rows]
    unfold rowsOf
    rw [List.map_map]
    rfl
  obtain ⟨L0, rfl, p0⟩ := perm_lift (f := fun r : Row => Value.ref r.1) perm L evs
  have hal : AllAlike (L0.map fun r => .tuple (r.2.map .int)) := PySem.W.AllAlike.of fun b b' => by
    rw [PySem.W.alike]
    exact PySem.W.alike_ints b.2 b'.2
  have hk : Sortable (L0.map fun r => .tuple (r.2.map .int)) := .inl fun d hd => by
    obtain ⟨r, hr, rfl⟩ := List.mem_map.mp hd
    cases q : r.2 with
    | nil => exact absurd q (hne r (p0.mem_iff.mp hr))
    | cons n ns => exact ⟨_, _, rfl⟩
  refine sort_new (enc := fun r : Row => .tuple (r.2.map .int)) (each_refs L0) (each_of (each_refs L0) fun v r hr e => by
    rw [e]
    exact reads_tup (isT_keep (U.tups r (p0.mem_iff.mp hr)) k1)) hal hk (by rw [p0.length_eq]; omega) (fun r _ => ?_) fun h' out c q1 q2 q3 => wpAny_pure ⟨_, rfl, fin _ _ out c L0 (fun b o q => q3 b o (k1 b o q)) g1 o1 (no_new k1) q1 p0 q2⟩
  rw [PyData.depth, PySem.W.depth_ints]
  show A.units + 1 + 1 + _ < _
  omega
end
end Kp
set_option maxHeartbeats 410000
/-! KpT6: sorted(t), sorted(set(t)): the rules. -/
namespace Kp
open L2 PySem PySem.Spec PyProof.Rows
open PySem.W (EachIs AllAlike Sortable dataLe dataLt)
theorem pw_all {α : Type} {R : α → α → Prop} : ∀ {l : List α}, l.Pairwise R → ∀ a ∈ l, ∀ b ∈ l, a = b ∨ R a b ∨ R b a
  | [], _, _, h, _, _ => nomatch h
  | x :: l, h, a, ha, b, hb => by
    (obtain ⟨h1, h2⟩ := List.pairwise_cons.mp h)
    rcases List.mem_cons.mp ha with ea | ha
    · rcases List.mem_cons.mp hb with eb | hb
      · exact .inl (ea.trans eb.symm)
      · exact .inr (.inl (ea ▸ h1 b hb))
    · rcases List.mem_cons.mp hb with eb | hb
      · exact .inr (.inr (eb ▸ h1 a ha))
      · exact pw_all h2 a ha b hb
/-- x stands before y, and not the other way -/
def Less (x y : PyData) : Prop := dataLt x y = true ∧ dataLt y x = false
theorem sort_is {β : Type} {enc : β → PyData} {bs tg : List β} (p : tg.Perm bs) (st : tg.Pairwise fun x y => Less (enc x) (enc y)) : bs.mergeSort (dataLe false enc) = tg := by
  have tot := PySem.W.sortLe_total (PyProof.Rows.listOrd PyProof.Rows.itemOrd) false fun b : β => PySem.W.keyToks (enc b)
  have q : (bs.mergeSort (dataLe false enc)).Perm tg := (List.mergeSort_perm bs _).trans p.symm
  refine List.Perm.eq_of_pairwise (le := fun a b => dataLe false enc a b = true) (fun a b ha hb h1 h2 => ?_) (List.pairwise_mergeSort tot.trans (fun a b => by rw [Bool.or_eq_true]; exact tot.total a b) bs) (st.imp fun {x y} h => ?_) q
  · have h1 : (!dataLt (enc b) (enc a)) = true := h1
    have h2 : (!dataLt (enc a) (enc b)) = true := h2
    rcases pw_all st a (q.mem_iff.mp ha) b hb with e | z | z
    · exact e
    · rw [z.1] at h2
      cases h2
    · rw [z.1] at h1
      cases h1
  · show (!dataLt (enc y) (enc x)) = true
    rw [h.2]
    rfl
section
variable {X : Cx} {σ : L2.St} {H : Hp} {pins : List (Addr × Obj)} {s : Shared}
mutual
theorem Dt.reads (I : Inv X pins σ H s) : ∀ (x : PyData) (v : V) (u : Value), Dt X.K H x v → RelV v u → Reads s.heap u x []
  | _, _, _, .non, r => by
    cases r
    exact .none
  | _, _, _, .bl b, r => by
    cases r
    exact .bool b
  | _, _, _, .int i, r => by
    obtain ⟨t, rfl⟩ := r
    exact .int i t
  | _, _, _, .str x, r => by
    obtain ⟨t, rfl⟩ := r
    exact .str x t
  | .tuple ds, _, _, .tup (xs := xs) h1 h2, r => by
    cases r
    obtain ⟨its, rv, ⟨o, ho, hc, n, hd⟩, _⟩ := I.tuple h1
    exact .tuple ho hc hd (DtA.reads I ds xs its h2 rv)
theorem DtA.reads (I : Inv X pins σ H s) : ∀ (ds : List PyData) (vs : List V) (us : List Value), DtA X.K H ds vs → Vals vs us → ReadsAll s.heap us ds []
  | _, _, _, .nil, .nil => .nil
  | x :: ds, v :: vs, u :: us, .cons h1 h2, .cons r1 r2 => .cons (Dt.reads I x v u h1 r1) (DtA.reads I ds vs us h2 r2)
end
theorem each_zip {K : PySem.W.Frag} {H : Hp} : ∀ {xs : List V} {us : List Value} {ds : List PyData}, Vals xs us → DtA K H ds xs → EachIs (fun u (b : V × PyData) => RelV b.1 u ∧ Dt K H b.2 b.1) us (xs.zip ds)
  | _, _, _, .nil, .nil => .nil
  | _ :: _, _ :: _, _ :: _, .cons r t, .cons h g => .cons ⟨r, h⟩ (each_zip t g)
theorem each_back {K : PySem.W.Frag} {H : Hp} : ∀ {us : List Value} {bs : List (V × PyData)}, EachIs (fun u (b : V × PyData) => RelV b.1 u ∧ Dt K H b.2 b.1) us bs → Vals (bs.map Prod.fst) us ∧ DtA K H (bs.map Prod.snd) (bs.map Prod.fst)
  | _, _, .nil => ⟨.nil, .nil⟩
  | _, _, .cons h t => ⟨.cons h.1 (each_back t).1, .cons h.2 (each_back t).2⟩
theorem zip_snd {α β : Type} : ∀ {xs : List α} {ds : List β}, xs.length = ds.length → (xs.zip ds).map Prod.snd = ds
  | [], [], _ => rfl
  | _ :: _, _ :: _, e => congrArg _ (zip_snd (by simpa using e))
/-- what sorts to tg -/
structure SortsTo (ds tg : List PyData) : Prop where
  alike : AllAlike ds
  able : Sortable ds
  few : ds.length ≤ 100000
  flat : ∀ y ∈ ds, y.depth ≤ 60
  perm : tg.Perm ds
  less : tg.Pairwise Less
def rSortA (K : PySem.W.Frag) : List V → Hp → VK → Prop := fun vs H Q => ∃ (a : Addr) (xs : List V) (ds tg : List PyData), vs = [V.ref a] ∧ SqT K H a xs ∧ DtA K H ds xs ∧ SortsTo ds tg ∧ ∀ p ys, H p = none → DtA K H tg ys → Q (.ref p) (upd H p (.lst ys))
theorem cr_sortA (hu : X.A.units + 64 < cLine) : CallR X (.builtin "sorted") (rSortA X.K) := by
  (intro pins s σ H vs us Q I r h)
  obtain ⟨a, xs, ds, tg, rfl, sq, dt, S, q⟩ := h
  obtain ⟨u, rfl, ru⟩ := r.one
  (cases (show u = Value.ref a from ru))
  obtain ⟨its, rv, pt, _⟩ := I.tuple sq
  have e := each_zip rv dt
  have lx : xs.length = ds.length := dt.length.symm
  have es : (xs.zip ds).map Prod.snd = ds := zip_snd lx
  have lz : (xs.zip ds).length = ds.length := by rw [List.length_zip]; omega
  have few := S.few
  refine sorted_tupA (bs := xs.zip ds) (enc := Prod.snd) pt e (each_of e fun u b _ z => Dt.reads I b.2 b.1 u z.2 z.1) (by rw [es]; exact S.alike) (by rw [es]; exact S.able) (by omega) (fun b hb => ?_) fun h' p out c hp q1 q2 keep => ?_
  · have m : b.2 ∈ ds := es ▸ List.mem_map_of_mem (f := Prod.snd) hb
    have := S.flat _ m
    omega
  · have et : ((xs.zip ds).mergeSort (dataLe false Prod.snd)).map Prod.snd = tg := by
      rw [List.map_mergeSort (r := dataLe false Prod.snd) (s := dataLe false id) fun a _ b _ => rfl, es]
      exact sort_is (enc := id) S.perm S.less
    obtain ⟨b1, b2⟩ := each_back q2
    rw [et] at b2
    have hn : H p = none := I.hok.gone hp
    have lt : tg.length = ds.length := S.perm.length_eq
    exact ⟨.ref p, _, I.laidN (o := .lst (((xs.zip ds).mergeSort (dataLe false Prod.snd)).map Prod.fst)) (t' := s.toks) keep hp hn ⟨by rw [← b2.length, lt]; exact sz_of few, out, c, b1, q1⟩, rfl, q p _ hn b2⟩
/-- sorted(set(t)), t a tuple of tuples of ints -/
def tSortSet (K : PySem.W.Frag) (t : TA) : TE := fun σ H Q => t σ H fun vs H1 => ∃ (a : Addr) (ks : List Row) (tg : List (List Int)), vs = [V.ref a] ∧ SqT K H1 a (ks.map fun r => V.ref r.1) ∧ (∀ r ∈ ks, SqT K H1 r.1 (r.2.map V.int)) ∧ ks.length ≤ 300 ∧ (∀ r ∈ ks, r.2 ≠ []) ∧
  (∀ k, k ∈ tg ↔ k ∈ ks.map Prod.snd) ∧ tg.Pairwise (· < ·) ∧ ∀ p (L : List Row), H1 p = none → (∀ r ∈ L, r ∈ ks) → L.map Prod.snd = tg → Q (.ref p) (upd H1 p (.lst (L.map fun r => V.ref r.1)))
theorem vals_rows : ∀ {ks : List Row} {us : List Value}, Vals (ks.map fun r => V.ref r.1) us → us = ks.map fun r => Value.ref r.1
  | [], _, .nil => rfl
  | r :: ks, _, .cons h t => by
    cases h
    rw [vals_rows t]
    rfl
theorem vals_each : ∀ {us : List Value} {L : List Row}, EachIs (fun v (r : Row) => v = .ref r.1) us L → Vals (L.map fun r => V.ref r.1) us
  | _, _, .nil => .nil
  | _, _, .cons e t => .cons e (vals_each t)
theorem less_ints (x y : List Int) : Less (.tuple (x.map .int)) (.tuple (y.map .int)) ↔ x < y := by
  have f : ∀ x y : List Int, dataLt (.tuple (x.map .int)) (.tuple (y.map .int)) = decide (x < y) := fun x y => by
    rw [PySem.W.dataLt_tuple]
    exact PySem.W.dataLt_ints x y
  unfold Less
  rw [f, f]
  constructor
  · intro h
    exact of_decide_eq_true h.1
  · intro h
    exact ⟨decide_eq_true h, decide_eq_false (List.lt_asymm h)⟩
theorem pe_sortSet {K : PySem.W.Frag} {a : Expr} {t : TA} {p p2 q pos : Pos} (hK : X.K = K) (hg : Gl X "sorted") (hm : X.mg "sorted" = none) (hg2 : Gl X "set") (hm2 : X.mg "set" = none) (hb1 : bootBuiltins "sorted" = some (.builtin "sorted")) (hb2 : bootBuiltins "set" = some (.type "set")) (hu : X.A.units + 64 < cLine) (ha : PA X [a] t) (hc : X.calm = true := by rfl)
    (he : starEach [a] X.env = (false, eval a X.env) :: starEach [] X.env := by rfl) (hpl : (backTo q (starEach [] X.env)).any (·.1) = false := by rfl) : PE X (.Call (.Name "sorted" p) [.Call (.Name "set" p2) [a] [] q] [] pos) (tSortSet K t) := by
  subst hK
  (refine ⟨fun pins s σ H Q I h => ?_⟩)
  refine Call_ (ld_blt I hg hm hb1 ?_)
  (refine PyProof.Rows.callWith_builtin1 (PyProof.Rows.args_cons ?_ rfl) rfl rfl)
  refine Call_ (ld_blt I hg2 hm2 hb2 ?_)
  refine PyProof.Rows.callWith_type1 (thn (ha.run q pins s σ H _ I h) fun us s1 ⟨vs, H1, I1, r1, q1⟩ => ?_) he hpl
  obtain ⟨a, ks, tg, rfl, sq, tups, few, ne, mem, asc, q1⟩ := q1
  obtain ⟨u, rfl, ru⟩ := r1.one
  (cases (show u = Value.ref a from ru))
  obtain ⟨its, rv, pt, _⟩ := I1.tuple sq
  refine call_set_tupT (P := X.prog) (w := X.w) (A := X.A) ks (I1.ok.hd hc) pt (by simpa using vals_rows rv) (fun r hr => I1.isT (tups r hr)) few (by omega) fun h' tk L es ep tb U g kept => PyProof.Rows.args_nil ?_
  have sub : ∀ r ∈ L, r ∈ ks := fun r hr => List.mem_of_mem_take (g.sub r hr)
  refine sorted_setU U (I1.ok.hd hc) (fun r hr => ne r (sub r hr)) (by omega) fun s' pn out c L1 k2 g2 o2 hp q2 perm eo => ?_
  have full : ∀ b o, s1.heap.get? b = some o → s'.heap.get? b = some o := fun b o z => k2 b o (kept b o z)
  have hp1 : s1.heap.get? pn = none := by
    cases z : s1.heap.get? pn with
    | none => rfl
    | some o =>
      have y := kept _ _ z
      rw [show h'.get? pn = none from hp] at y
      cases y
  have hn : H1 pn = none := I1.hok.gone hp1
  have memL : ∀ k, k ∈ L1.map Prod.snd ↔ k ∈ ks.map Prod.snd := fun k => by
    rw [(perm.map Prod.snd).mem_iff]
    constructor
    · intro z
      obtain ⟨r, hr, rfl⟩ := List.mem_map.mp z
      exact List.mem_map_of_mem (f := Prod.snd) (sub r hr)
    · intro z
      obtain ⟨r, hr, rfl⟩ := List.mem_map.mp z
      exact g.all r (by rw [List.take_length]; exact hr)
  have once : (L1.map Prod.snd).Nodup := (perm.map Prod.snd).nodup_iff.mpr U.once
  have ndt : tg.Nodup := by
    refine List.Pairwise.imp (fun {x y} h e => ?_) asc
    subst e
    exact List.lt_irrefl _ h
  have ptg : tg.Perm (L1.map Prod.snd) := (List.perm_ext_iff_of_nodup ndt once).mpr fun k => (mem k).trans (memL k).symm
  have et : (L1.mergeSort (dataLe false fun r : Row => .tuple (r.2.map .int))).map Prod.snd = tg := by
    rw [List.map_mergeSort (r := dataLe false fun r : Row => .tuple (r.2.map .int)) (s := dataLe false fun k : List Int => .tuple (k.map .int)) fun a _ b _ => rfl]
    exact sort_is ptg (asc.imp fun {x y} h => (less_ints x y).mpr h)
  have sub1 : ∀ r ∈ L1.mergeSort (dataLe false fun r : Row => .tuple (r.2.map .int)), r ∈ ks := fun r hr => sub r (perm.mem_iff.mp ((List.mergeSort_perm _ _).mem_iff.mp hr))
  have ll : (L1.mergeSort (dataLe false fun r : Row => .tuple (r.2.map .int))).length = L.length := (List.mergeSort_perm _ _).length_eq.trans perm.length_eq
  have fewL := U.few
  generalize L1.mergeSort (dataLe false fun r : Row => .tuple (r.2.map .int)) = Lr at eo et sub1 ll
  have hv : Vals (Lr.map fun r => V.ref r.1) out := by
    exact vals_each eo
  have J : Inv X pins σ (upd H1 pn (.lst (Lr.map fun r => V.ref r.1))) { s1 with heap := s'.heap, gens := s'.gens, drawn := s'.drawn, toks := s'.toks } :=
    I1.call (ch := []) (Un.laidN full hp1 hn) (I1.hok.laidN full hn (o := .lst (Lr.map fun r => V.ref r.1)) ⟨by rw [List.length_map, ll, sizeLine_eq]; omega, out, c, hv, q2⟩) (by rw [show s'.gens = s1.gens from g2]; exact I1.bare) fun _ z => nomatch z
  have e : s' = { s1 with heap := s'.heap, gens := s'.gens, drawn := s'.drawn, toks := s'.toks } := by
    obtain ⟨h3, g3, d3, t3, o3⟩ := s'
    have eo : o3 = s1.os := o2
    subst eo
    rfl
  rw [e]
  exact ⟨.ref pn, _, J, rfl, q1 pn Lr hn sub1 et⟩
end
end Kp
set_option maxHeartbeats 410000
/-! KpZ: list(zip(t, u)) of two tuples of one length. -/
namespace Kp
open L2 PySem PySem.Spec PyProof.Rows
theorem ne_cls {h : Heap} {a b : Addr} {o o' : Obj} (ha : h.get? a = some o) (hb : h.get? b = some o') (ne : o.cls ≠ o'.cls) : a ≠ b := fun z => by
  rw [z, hb] at ha
  cases ha
  exact ne rfl
/-- a zip over two tuples, one pair of it still out -/
structure ZSt (h : Heap) (z TI TO i1 i2 t1 t2 : Addr) (xs ys : Array Value) (k : Nat) : Prop where
  held : ∃ T f oT, IsZipHeld h z TI TO T f ∧ h.get? T = some oT
  ti : IsTupOf2 h TI (.ref i1) (.ref i2)
  a : h.IsTupleIter i1 t1 k
  b : h.IsTupleIter i2 t2 k
  ta : h.IsTuple t1 xs
  tb : h.IsTuple t2 ys
section
variable {prog : Program} {w : World} {A : Around} {E : Value → Shared → Prop} {s : Shared} {z TI TO i1 i2 t1 t2 : Addr} {xs ys : Array Value} {k : Nat}
theorem ZSt.apart (Z : ZSt s.heap z TI TO i1 i2 t1 t2 xs ys k) : z ≠ i1 ∧ z ≠ i2 ∧ z ≠ t1 ∧ z ≠ t2 ∧ i1 ≠ t1 ∧ i1 ≠ t2 ∧ i2 ≠ t1 ∧ i2 ≠ t2 ∧ TI ≠ z ∧ TI ≠ i1 ∧ TI ≠ i2 := by
  obtain ⟨⟨T, f, oT, hz, _⟩, hTI, ⟨o1, a1, a2, _⟩, ⟨o2, b1, b2, _⟩, ⟨p1, c1, c2, _⟩, ⟨p2, d1, d2, _⟩⟩ := Z
  have str : ∀ {m n : String}, m ≠ n → Value.type m ≠ Value.type n := fun h q => by
    injection q with q
    exact h q
  have ci1 : o1.cls = .type "tuple_iterator" := a2
  have ci2 : o2.cls = .type "tuple_iterator" := b2
  refine ⟨ne_cls hz a1 ?_, ne_cls hz b1 ?_, ne_cls hz c1 ?_, ne_cls hz d1 ?_, ne_cls a1 c1 ?_, ne_cls a1 d1 ?_, ne_cls b1 c1 ?_, ne_cls b1 d1 ?_, ne_cls hTI hz ?_, ne_cls hTI a1 ?_, ne_cls hTI b1 ?_⟩
  · rw [ci1]
    exact str (by decide)
  · rw [ci2]
    exact str (by decide)
  · rw [c2]
    exact str (by decide)
  · rw [d2]
    exact str (by decide)
  · rw [ci1, c2]
    exact str (by decide)
  · rw [ci1, d2]
    exact str (by decide)
  · rw [ci2, c2]
    exact str (by decide)
  · rw [ci2, d2]
    exact str (by decide)
  · exact str (by decide)
  · rw [ci1]
    exact str (by decide)
  · rw [ci2]
    exact str (by decide)
/-- the next pair: a new tuple -/
theorem zst_item {x y : Value} {Q : Value → Shared → Prop} (i12 : i1 ≠ i2) (Z : ZSt s.heap z TI TO i1 i2 t1 t2 xs ys k) (hx : xs[k]? = some x) (hy : ys[k]? = some y)
    (hQ : ∀ h', ZSt h' z TI TO i1 i2 t1 t2 xs ys (k + 1) → IsPair h' s.heap.objs.size x y → h'.objs.size = s.heap.objs.size + 1 → (∀ c o, c ≠ z → c ≠ i1 → c ≠ i2 → s.heap.get? c = some o → h'.get? c = some o) → Q (.ref s.heap.objs.size) { s with heap := h' }) :
    wpAny (model prog w) A (Builtin.«zip.__next__» ⟨[.ref z], []⟩) (fun fin s' => ∃ v, fin = .done (.ret v) ∧ Q v s')
      E s := by
  obtain ⟨zi1, zi2, zt1, zt2, i1t1, i1t2, i2t1, i2t2, TIz, TIi1, TIi2⟩ := Z.apart
  obtain ⟨⟨T, f, oT, hz, hT⟩, hTI, ia, ib, ta, tb⟩ := Z
  show wpAny _ _ (field (.ref z) 2 >>= _) _ _ s
  (refine wpAny_bind (wpAny_field hz rfl (x := .bool false) rfl ?_))
  show wpAny _ _ (field (.ref z) 3 >>= _) _ _ s
  refine wpAny_bind (wpAny_field hz rfl (x := .ref TI) rfl (wpAny_bind (wpAny_seqItems hTI rfl ?_)))
  show wpAny _ _ (Builtin.SmallTypes.ownedTupleIsFree (.ref z) >>= _) _ _ s
  refine wpAny_bind (wpAny_tupleHeld_zip hz hT fun m1 z1 c1 => ?_)
  (simp only [Bool.false_eq_true, if_false])
  rw [← Array.forIn_toList]
  refine wpAny_bind ?_
  (simp only [List.forIn_cons, List.forIn_nil])
  (refine wpAny_bind (wpAny_bind (wpAny_holding ?_)))
  show wpAny _ _ (Builtin.SmallTypes.nextOf (.ref i1) >>= _) _ _ { s with heap := m1 }
  refine wpAny_bind (wpAny_nextOf_tuple_item (s := { s with heap := m1 }) (ia.extBut c1.extBut zi1.symm) (ta.extBut c1.extBut zt1.symm) hx fun m2 ia2 c2 => wpAny_pure (wpAny_pure ?_))
  (refine wpAny_bind (wpAny_bind (wpAny_holding ?_)))
  show wpAny _ _ (Builtin.SmallTypes.nextOf (.ref i2) >>= _) _ _ { s with heap := m2 }
  refine wpAny_bind (wpAny_nextOf_tuple_item (s := { s with heap := m2 }) ((ib.extBut c1.extBut zi2.symm).extBut c2.extBut i12.symm) ((tb.extBut c1.extBut zt2.symm).extBut c2.extBut i1t2.symm) hy fun m3 ib3 c3 => wpAny_pure (wpAny_pure (wpAny_pure ?_)))
  show wpAny _ _ (newTuple [x, y] >>= _) _ _ { s with heap := m3 }
  refine wpAny_bind (wpAny_newTuple (wpAny_pure ⟨_, rfl, ?_⟩))
  have kept : ∀ c o, c ≠ z → c ≠ i1 → c ≠ i2 → s.heap.get? c = some o → m3.get? c = some o := fun c o n1 n2 n3 q => c3.extBut _ _ n3 (c2.extBut _ _ n2 (c1.extBut _ _ n1 q))
  have size : m3.objs.size = s.heap.objs.size := by rw [c3.1, c2.1, c1.1]
  have z3 : IsZipHeld m3 z TI TO T true := c3.extBut _ _ zi2 (c2.extBut _ _ zi1 z1)
  have ia3 : m3.IsTupleIter i1 t1 (k + 1) := ia2.extBut c3.extBut i12
  have up : ∀ {c o}, m3.get? c = some o → (m3.push { cls := .type "tuple", data := .seq #[x, y] }).get? c = some o := fun q => Heap.get?_push_of_some _ q
  have alive : ∃ o, m3.get? T = some o := by
    by_cases e1 : T = z
    · exact ⟨_, by rw [e1]; exact z3⟩
    · by_cases e2 : T = i1
      · obtain ⟨o, q, _⟩ := ia3
        exact ⟨o, by rw [e2]; exact q⟩
      · by_cases e3 : T = i2
        · obtain ⟨o, q, _⟩ := ib3
          exact ⟨o, by rw [e3]; exact q⟩
        · exact ⟨oT, kept T oT e1 e2 e3 hT⟩
  obtain ⟨o3, al⟩ := alive
  have fin := hQ (m3.push { cls := .type "tuple", data := .seq #[x, y] }) ⟨⟨T, true, o3, up z3, up al⟩, up (kept _ _ TIz TIi1 TIi2 hTI), ia3.at fun _ q => up q, ib3.at fun _ q => up q, ?_, ?_⟩ ?_ (by rw [Heap.size_push, size]) fun c o n1 n2 n3 q => up (kept c o n1 n2 n3 q)
  · rw [← size] at fin
    exact fin
  · obtain ⟨o, q1, q2⟩ := ta
    exact ⟨o, up (kept _ _ zt1.symm i1t1.symm i2t1.symm q1), q2⟩
  · obtain ⟨o, q1, q2⟩ := tb
    exact ⟨o, up (kept _ _ zt2.symm i1t2.symm i2t2.symm q1), q2⟩
  · rw [← size]
    (exact Heap.get?_push_size _ rfl)
theorem zst_end {Q : Fin → Shared → Prop} (hh : A.handled = none) (Z : ZSt s.heap z TI TO i1 i2 t1 t2 xs ys k) (hx : xs[k]? = none)
    (hE : ∀ h' e, (∀ c o, c ≠ z → c ≠ i1 → c ≠ i2 → s.heap.get? c = some o → h'.get? c = some o) → (∃ o, h'.get? e = some o ∧ o.cls = .type "StopIteration") → E (.ref e) { s with heap := h' }) : wpAny (model prog w) A (Builtin.«zip.__next__» ⟨[.ref z], []⟩) Q E s := by
  obtain ⟨zi1, zi2, zt1, zt2, i1t1, i1t2, i2t1, i2t2, TIz, TIi1, TIi2⟩ := Z.apart
  obtain ⟨⟨T, f, oT, hz, hT⟩, hTI, ia, ib, ta, tb⟩ := Z
  show wpAny _ _ (field (.ref z) 2 >>= _) _ _ s
  (refine wpAny_bind (wpAny_field hz rfl (x := .bool false) rfl ?_))
  show wpAny _ _ (field (.ref z) 3 >>= _) _ _ s
  refine wpAny_bind (wpAny_field hz rfl (x := .ref TI) rfl (wpAny_bind (wpAny_seqItems hTI rfl ?_)))
  show wpAny _ _ (Builtin.SmallTypes.ownedTupleIsFree (.ref z) >>= _) _ _ s
  refine wpAny_bind (wpAny_tupleHeld_zip hz hT fun m1 z1 c1 => ?_)
  (simp only [Bool.false_eq_true, if_false])
  rw [← Array.forIn_toList]
  refine wpAny_bind ?_
  (simp only [List.forIn_cons, List.forIn_nil])
  (refine wpAny_bind (wpAny_bind (wpAny_holding ?_)))
  show wpAny _ _ (Builtin.SmallTypes.nextOf (.ref i1) >>= _) _ _ { s with heap := m1 }
  refine wpAny_bind (wpAny_nextOf_tuple_end (s := { s with heap := m1 }) hh (ia.extBut c1.extBut zi1.symm) (ta.extBut c1.extBut zt1.symm) hx fun m2 e c2 he => ?_)
  exact hE m2 e (fun c o n1 n2 _ q => c2 _ _ n2 (c1.extBut _ _ n1 q)) he
theorem next_item {x y : Value} {Q : Option Value → Shared → Prop} (i12 : i1 ≠ i2) (Z : ZSt s.heap z TI TO i1 i2 t1 t2 xs ys k) (hx : xs[k]? = some x) (hy : ys[k]? = some y)
    (hQ : ∀ h', ZSt h' z TI TO i1 i2 t1 t2 xs ys (k + 1) → IsPair h' s.heap.objs.size x y → h'.objs.size = s.heap.objs.size + 1 → (∀ c o, c ≠ z → c ≠ i1 → c ≠ i2 → s.heap.get? c = some o → h'.get? c = some o) → Q (some (.ref s.heap.objs.size)) { s with heap := h' }) : wpAny (model prog w) A (pyNext (.ref z)) Q E s := by
  have ty : s.TypeIs (.ref z) "zip" := by
    obtain ⟨⟨T, f, oT, hz, _⟩, _⟩ := Z
    exact ⟨_, hz, rfl⟩
  unfold pyNext
  exact wpAny_bind (wpAny_attempt (wpAny_callSpecial?_slot (name := Str.ofString "__next__") ty F.slot_zip_next (wpAny_call_entry F.slot_zip_next ty F.entry_zip_next (zst_item i12 Z hx hy fun h' q1 q2 q3 q4 => wpAny_pure (hQ h' q1 q2 q3 q4)) (F.args_zip_next_1 _))))
theorem next_end {Q : Option Value → Shared → Prop} (hh : A.handled = none) (Z : ZSt s.heap z TI TO i1 i2 t1 t2 xs ys k) (hx : xs[k]? = none)
    (hQ : ∀ h', (∀ c o, c ≠ z → c ≠ i1 → c ≠ i2 → s.heap.get? c = some o → h'.get? c = some o) → Q none { s with heap := h' }) :
    wpAny (model prog w) A (pyNext (.ref z))
      Q E s := by
  have ty : s.TypeIs (.ref z) "zip" := by
    obtain ⟨⟨T, f, oT, hz, _⟩, _⟩ := Z
    exact ⟨_, hz, rfl⟩
  have hh' : A.in1.handled = none := hh
  unfold pyNext
  refine wpAny_bind (wpAny_attempt (wpAny_callSpecial?_slot (name := Str.ofString "__next__") ty F.slot_zip_next (wpAny_call_entry F.slot_zip_next ty F.entry_zip_next (zst_end (A := A.in1) hh' Z hx fun h' e kept he => ?_) (F.args_zip_next_1 _))))
  obtain ⟨o, ho, hc⟩ := he
  exact wpAny_bind (wpAny_isInstance (T := "StopIteration") (b := true) ⟨o, ho, hc⟩ isSubtype_stop (wpAny_pure (hQ _ kept)))
end
end Kp
set_option maxHeartbeats 410000
/-! KpZ2: list(zip(t, u)): collected. -/
namespace Kp
open L2 PySem PySem.Spec PyProof.Rows
theorem nolen_zip : typeLookup (.type "zip") "__len__" = pure none := by
  (rw [typeLookup_type, builtinLookup_eq_fast])
  kernel_rfl
theorem nohint_zip : typeLookup (.type "zip") "__length_hint__" = pure none := by
  (rw [typeLookup_type, builtinLookup_eq_fast])
  kernel_rfl
abbrev listAt (acc : Array Value) (c : Nat) : Obj := { cls := .type "list", dict := none, data := .seq acc c, slots := #[] }
/-- the pairs that have come lie at Ts -/
structure ZGot (h : Heap) (N : Nat) (xs ys : Array Value) (k : Nat) (Ts : List Addr) : Prop where
  len : Ts.length = k
  new : ∀ T ∈ Ts, N ≤ T
  nd : Ts.Nodup
  old : ∀ T ∈ Ts, T < h.objs.size
  pair : ∀ (j : Nat) (T : Addr) (x y : Value), Ts[j]? = some T → xs[j]? = some x → ys[j]? = some y → IsPair h T x y
section
variable {prog : Program} {w : World} {A : Around} {E : Value → Shared → Prop} {s : Shared} {z TI TO i1 i2 t1 t2 S : Addr} {xs ys : Array Value} {k N : Nat} {R : Result → Shared → Prop} {res : Value}
theorem zip_loop (hh : A.handled = none) (i12 : i1 ≠ i2) (sz : xs.size = ys.size) (fit : xs.size ≤ 1000000) (lS : S < N) (lz : z < N) (l1 : i1 < N) (l2 : i2 < N) (Sz : S ≠ z) (S1 : S ≠ i1) (S2 : S ≠ i2) (St : S ≠ t1) (Su : S ≠ t2) (STI : S ≠ TI) :
    ∀ (m k : Nat) (s : Shared) (acc : Array Value) (c : Nat) (Ts : List Addr), xs.size - k = m → k ≤ xs.size → N ≤ s.heap.objs.size → ZSt s.heap z TI TO i1 i2 t1 t2 xs ys k → s.heap.get? S = some (listAt acc c) → acc.toList = Ts.map Value.ref → ZGot s.heap N xs ys k Ts →
      (∀ (h' : Heap) (acc' : Array Value) (c' : Nat) (Ts' : List Addr), h'.get? S = some (listAt acc' c') → acc'.toList = Ts'.map Value.ref → ZGot h' N xs ys xs.size Ts' → (∀ b o, b ≠ S → b ≠ z → b ≠ i1 → b ≠ i2 → s.heap.get? b = some o → h'.get? b = some o) → R (.ok (.ret res)) { s with heap := h' }) →
      codeAny (model prog w) A (.builtin "list.extend.loop" ⟨[.ref S, .ref z, res], []⟩) R s := by
  intro m
  induction m with
  | zero =>
    intro k s acc c Ts em le hN Z hS eacc G fin
    have ek : k = xs.size := by omega
    subst ek
    (refine codeAny_builtin F.entry_extend_loop ?_)
    (rw [Around.under_plainId F.plain_extend_loop _])
    show wpAny _ A.in1 (pyNext (.ref z) >>= _) _ _ s
    refine wpAny_bind (next_end hh Z (Array.getElem?_eq_none (Nat.le_refl _)) fun h' kept => wpAny_pure ?_)
    refine fin h' acc c Ts (kept _ _ Sz S1 S2 hS) eacc ⟨G.len, G.new, G.nd, fun T hT => ?_, fun j T x y q1 q2 q3 => ?_⟩ fun b o _ n2 n3 n4 q => kept b o n2 n3 n4 q
    · obtain ⟨j, hj⟩ := List.mem_iff_getElem?.mp hT
      have lj : j < xs.size := by rw [← G.len]; exact (List.getElem?_eq_some_iff.mp hj).1
      have p := G.pair j T xs[j] ys[j] hj (Array.getElem?_eq_getElem lj) (Array.getElem?_eq_getElem (sz ▸ lj))
      have nT := G.new T hT
      exact Heap.lt_size (kept T _ (Nat.ne_of_gt (Nat.lt_of_lt_of_le lz nT)) (Nat.ne_of_gt (Nat.lt_of_lt_of_le l1 nT)) (Nat.ne_of_gt (Nat.lt_of_lt_of_le l2 nT)) p)
    · have nT := G.new T (List.mem_of_getElem? q1)
      exact kept T _ (Nat.ne_of_gt (Nat.lt_of_lt_of_le lz nT)) (Nat.ne_of_gt (Nat.lt_of_lt_of_le l1 nT)) (Nat.ne_of_gt (Nat.lt_of_lt_of_le l2 nT)) (G.pair j T x y q1 q2 q3)
  | succ m ih =>
    intro k s acc c Ts em le hN Z hS eacc G fin
    have lt : k < xs.size := by omega
    have hx : xs[k]? = some xs[k] := Array.getElem?_eq_getElem lt
    have hy : ys[k]? = some ys[k] := Array.getElem?_eq_getElem (sz ▸ lt)
    have accn : acc.size = k := by rw [← Array.length_toList, eacc, List.length_map, G.len]
    (refine codeAny_builtin F.entry_extend_loop ?_)
    (rw [Around.under_plainId F.plain_extend_loop _])
    show wpAny _ A.in1 (pyNext (.ref z) >>= _) _ _ s
    refine wpAny_bind (next_item i12 Z hx hy fun h' Z' pr grown kept => ?_)
    have hS' : h'.get? S = some (listAt acc c) := kept _ _ Sz S1 S2 hS
    show wpAny _ A.in1 (updateSeq S (·.push (.ref s.heap.objs.size)) >>= _) _ _ { s with heap := h' }
    have keep2 : ∀ b o, b ≠ S → h'.get? b = some o → (h'.update S (Obj.mapSeq (·.push (Value.ref s.heap.objs.size)))).get? b = some o := fun b o n q => (Heap.get?_update_other _ _ (Ne.symm n)).trans q
    have NS : s.heap.objs.size ≠ S := Nat.ne_of_gt (Nat.lt_of_lt_of_le lS hN)
    have pr2 := keep2 _ _ NS pr
    have fit2 : acc.size ≤ sizeLine := by
      rw [sizeLine_eq]
      omega
    have fit3 : (acc.push (.ref s.heap.objs.size)).size ≤ sizeLine + 1 := by
      rw [Array.size_push, sizeLine_eq]
      omega
    refine wpAny_bind (wpAny_updateSeq hS' rfl (wpAny_pure ⟨plainId_quiet F.plain_extend_loop _, ih (k + 1) _ (acc.push (.ref s.heap.objs.size)) _ (Ts ++ [s.heap.objs.size]) (by omega) lt ?_ ?_ (Heap.get?_update_self _ hS' rfl) ?_ ?_ fun h'' acc' c' Ts' q1 q2 q3 q4 => ?_⟩) fit2 fit3)
    · show N ≤ (h'.update S _).objs.size
      rw [Heap.size_update, grown]
      omega
    · obtain ⟨⟨T, f, oT, y1, y2⟩, y3, ⟨o1, y4, y5⟩, ⟨o2, y6, y7⟩, ⟨o3, y8, y9⟩, ⟨o4, y10, y11⟩⟩ := Z'
      have al : ∃ o, (h'.update S (Obj.mapSeq (·.push (Value.ref s.heap.objs.size)))).get? T = some o := by
        by_cases e : T = S
        · rw [e]
          exact ⟨_, Heap.get?_update_self _ hS' rfl⟩
        · exact ⟨oT, keep2 T oT e y2⟩
      obtain ⟨o, al⟩ := al
      exact ⟨⟨T, f, o, keep2 _ _ Sz.symm y1, al⟩, keep2 _ _ STI.symm y3, ⟨o1, keep2 _ _ S1.symm y4, y5⟩, ⟨o2, keep2 _ _ S2.symm y6, y7⟩, ⟨o3, keep2 _ _ St.symm y8, y9⟩, ⟨o4, keep2 _ _ Su.symm y10, y11⟩⟩
    · rw [Array.toList_push, eacc, List.map_append]
      rfl
    · refine ⟨by rw [List.length_append, G.len]; rfl, fun T hT => ?_, ?_, fun T hT => ?_, fun j T x y q1 q2 q3 => ?_⟩
      · rcases List.mem_append.mp hT with hT | hT
        · exact G.new T hT
        · rw [List.mem_singleton] at hT
          rw [hT]
          exact hN
      · refine List.nodup_append.mpr ⟨G.nd, by simp, fun T hT T' hT' e => ?_⟩
        rw [List.mem_singleton] at hT'
        have := G.old T hT
        rw [e, hT'] at this
        exact Nat.lt_irrefl _ this
      · show T < (h'.update S _).objs.size
        rw [Heap.size_update, grown]
        rcases List.mem_append.mp hT with hT | hT
        · exact Nat.lt_succ_of_lt (G.old T hT)
        · rw [List.mem_singleton] at hT
          rw [hT]
          exact Nat.lt_succ_self _
      · by_cases lj : j < Ts.length
        · rw [List.getElem?_append_left lj] at q1
          have hT := List.mem_of_getElem? q1
          have nT := G.new T hT
          exact keep2 T _ (Nat.ne_of_gt (Nat.lt_of_lt_of_le lS nT)) (kept T _ (Nat.ne_of_gt (Nat.lt_of_lt_of_le lz nT)) (Nat.ne_of_gt (Nat.lt_of_lt_of_le l1 nT)) (Nat.ne_of_gt (Nat.lt_of_lt_of_le l2 nT)) (G.pair j T x y q1 q2 q3))
        · have ej : j = k := by
            have := (List.getElem?_eq_some_iff.mp q1).1
            rw [List.length_append, G.len] at this
            rw [G.len] at lj
            have : j < k + 1 := this
            omega
          subst ej
          rw [List.getElem?_append_right (by rw [G.len]; exact Nat.le_refl _), G.len, Nat.sub_self] at q1
          cases q1
          rw [hx] at q2
          rw [hy] at q3
          cases q2
          cases q3
          exact pr2
    · exact fin h'' acc' c' Ts' q1 q2 q3 fun b o n1 n2 n3 n4 q => q4 b o n1 n2 n3 n4 (keep2 b o n1 (kept b o n2 n3 n4 q))
end
end Kp
set_option maxHeartbeats 410000
/-! KpZ3: list(zip(t, u)): the rule. -/
namespace Kp
open L2 PySem PySem.Spec PyProof.Rows
section
variable {prog : Program} {w : World} {A : Around} {E : Value → Shared → Prop} {s : Shared} {z TI TO i1 i2 t1 t2 S : Addr} {xs ys : Array Value} {k N : Nat} {R : Result → Shared → Prop} {res : Value}
/-- a zip just made -/
structure ZNew (h : Heap) (z TI TO i1 i2 t1 t2 : Addr) (xs ys : Array Value) : Prop where
  zip : IsZip h z TI TO .none
  ti : IsTupOf2 h TI (.ref i1) (.ref i2)
  to : IsTupOf2 h TO .none .none
  a : h.IsTupleIter i1 t1 0
  b : h.IsTupleIter i2 t2 0
  ta : h.IsTuple t1 xs
  tb : h.IsTuple t2 ys
theorem ZNew.mono {h h' : Heap} (Z : ZNew h z TI TO i1 i2 t1 t2 xs ys) (k : ∀ c, c = z ∨ c = TI ∨ c = TO ∨ c = i1 ∨ c = i2 ∨ c = t1 ∨ c = t2 → ∀ o, h.get? c = some o → h'.get? c = some o) : ZNew h' z TI TO i1 i2 t1 t2 xs ys :=
  ⟨k _ (.inl rfl) _ Z.zip, k _ (.inr (.inl rfl)) _ Z.ti, k _ (.inr (.inr (.inl rfl))) _ Z.to, Z.a.at fun o q => k _ (.inr (.inr (.inr (.inl rfl)))) o q, Z.b.at fun o q => k _ (.inr (.inr (.inr (.inr (.inl rfl))))) o q, let ⟨o, q, r⟩ := Z.ta; ⟨o, k _ (.inr (.inr (.inr (.inr (.inr (.inl rfl)))))) o q, r⟩, let ⟨o, q, r⟩ := Z.tb; ⟨o, k _ (.inr (.inr (.inr (.inr (.inr (.inr rfl)))))) o q, r⟩⟩
/-- all cells of the zip lie apart, the list elsewhere -/
structure ZApart (z TI TO i1 i2 t1 t2 S N : Nat) : Prop where
  i12 : i1 ≠ i2
  TITO : TI ≠ TO
  TOz : TO ≠ z
  TOi1 : TO ≠ i1
  TOi2 : TO ≠ i2
  TOt1 : TO ≠ t1
  TOt2 : TO ≠ t2
  lz : z < N
  l1 : i1 < N
  l2 : i2 < N
  lTO : TO < N
  lS : S < N
  Sz : S ≠ z
  STI : S ≠ TI
  STO : S ≠ TO
  S1 : S ≠ i1
  S2 : S ≠ i2
  St1 : S ≠ t1
  St2 : S ≠ t2
theorem zip_first (hh : A.handled = none) (D : ZApart z TI TO i1 i2 t1 t2 S N) (sz : xs.size = ys.size) (pos : 0 < xs.size) (fit : xs.size ≤ 1000000) {c : Nat} (hN : N ≤ s.heap.objs.size) (Z : ZNew s.heap z TI TO i1 i2 t1 t2 xs ys) (hS : s.heap.get? S = some (listAt #[] c))
    (fin : ∀ (h' : Heap) (tk : Nat) (acc' : Array Value) (c' : Nat) (Ts' : List Addr), h'.get? S = some (listAt acc' c') → acc'.toList = Ts'.map Value.ref → ZGot h' N xs ys xs.size Ts' → (∀ b o, b ≠ S → b ≠ z → b ≠ TO → b ≠ i1 → b ≠ i2 → s.heap.get? b = some o → h'.get? b = some o) → R (.ok (.ret res)) { s with heap := h', toks := tk }) :
    codeAny (model prog w) A (.builtin "list.extend.loop" ⟨[.ref S, .ref z, res], []⟩) R s := by
  have str : ∀ {m n : String}, m ≠ n → Value.type m ≠ Value.type n := fun h q => by
    injection q with q
    exact h q
  obtain ⟨o1, a1, a2, a3⟩ := id Z.a
  obtain ⟨o2, b1, b2, b3⟩ := id Z.b
  obtain ⟨p1, c1, c2, c3⟩ := id Z.ta
  obtain ⟨p2, d1, d2, d3⟩ := id Z.tb
  have ci1 : o1.cls = .type "tuple_iterator" := a2
  have ci2 : o2.cls = .type "tuple_iterator" := b2
  have z1 : z ≠ i1 := ne_cls Z.zip a1 (by rw [ci1]; exact str (by decide))
  have z2 : z ≠ i2 := ne_cls Z.zip b1 (by rw [ci2]; exact str (by decide))
  have zt1 : z ≠ t1 := ne_cls Z.zip c1 (by rw [c2]; exact str (by decide))
  have zt2 : z ≠ t2 := ne_cls Z.zip d1 (by rw [d2]; exact str (by decide))
  have i1t1 : i1 ≠ t1 := ne_cls a1 c1 (by rw [ci1, c2]; exact str (by decide))
  have i1t2 : i1 ≠ t2 := ne_cls a1 d1 (by rw [ci1, d2]; exact str (by decide))
  have i2t1 : i2 ≠ t1 := ne_cls b1 c1 (by rw [ci2, c2]; exact str (by decide))
  have i2t2 : i2 ≠ t2 := ne_cls b1 d1 (by rw [ci2, d2]; exact str (by decide))
  have TIz : TI ≠ z := ne_cls Z.ti Z.zip (str (by decide))
  have TI1 : TI ≠ i1 := ne_cls Z.ti a1 (by rw [ci1]; exact str (by decide))
  have TI2 : TI ≠ i2 := ne_cls Z.ti b1 (by rw [ci2]; exact str (by decide))
  have two : ∀ {a c d : Addr}, a ≠ c → a ≠ d → a ∉ [c, d] := fun h1 h2 m => by
    rcases List.mem_cons.mp m with q | q
    · exact h1 q
    · exact h2 (List.mem_singleton.mp q)
  have sep : ZipSep2 z TI TO i1 i2 [i1, t1] [i2, t2] := { TIz := TIz, TOz := D.TOz, TITO := D.TITO, TIi1 := TI1, mem1 := List.mem_cons_self, zf1 := two z1 zt1, Tf1 := two D.TOi1 D.TOt1, TIi2 := TI2, mem2 := List.mem_cons_self, zf2 := two z2 zt2, Tf2 := two D.TOi2 D.TOt2, sep1_2 := two D.i12 i1t2, sep2_1 := two (Ne.symm D.i12) i2t1 }
  have hh3 : A.in1.in1.handled = none := hh
  (refine codeAny_builtin F.entry_extend_loop ?_)
  (rw [Around.under_plainId F.plain_extend_loop _])
  show wpAny _ A.in1 (pyNext (.ref z) >>= _) _ _ s
  refine wpAny_bind (wpAny_pyNext_zipD2_item sep (Draws.tuple hh3 i1 t1 i1t1.symm xs) (Draws.tuple hh3 i2 t2 i2t2.symm ys) Z.zip Z.ti Z.to ⟨Z.a, Z.ta⟩ ⟨Z.b, Z.tb⟩ pos (sz ▸ pos) fun x y h' tk hx hy hz' hTO' st1 st2 pr grown kept => ?_)
  have hx : xs[0]? = some x := hx
  have hy : ys[0]? = some y := hy
  have hS' : h'.get? S = some (listAt #[] c) := kept _ _ D.Sz D.STO D.S1 D.S2 hS
  have NS : s.heap.objs.size ≠ S := Nat.ne_of_gt (Nat.lt_of_lt_of_le D.lS hN)
  show wpAny _ A.in1 (updateSeq S (·.push (.ref s.heap.objs.size)) >>= _) _ _ { s with heap := h', toks := tk }
  have keep2 : ∀ b o, b ≠ S → h'.get? b = some o → (h'.update S (Obj.mapSeq (·.push (Value.ref s.heap.objs.size)))).get? b = some o := fun b o n q => (Heap.get?_update_other _ _ (Ne.symm n)).trans q
  refine wpAny_bind (wpAny_updateSeq hS' rfl (wpAny_pure ⟨plainId_quiet F.plain_extend_loop _, zip_loop (TO := TO) hh D.i12 sz fit D.lS D.lz D.l1 D.l2 D.Sz D.S1 D.S2 D.St1 D.St2 D.STI (xs.size - 1) 1 _ (#[].push (.ref s.heap.objs.size)) _ [s.heap.objs.size] rfl pos ?_ ?_ (Heap.get?_update_self _ hS' rfl) rfl ?_ fun h'' acc' c' Ts' q1 q2 q3 q4 => ?_⟩) (by show 0 ≤ _; exact Nat.zero_le _) (by rw [sizeLine_eq]; show 1 ≤ _; omega))
  · show N ≤ (h'.update S _).objs.size
    rw [Heap.size_update, grown]
    omega
  · have tn : h'.get? s.heap.objs.size = some _ := pr
    obtain ⟨⟨e1, y4, y5⟩, ⟨e3, y8, y9⟩⟩ := st1
    obtain ⟨⟨e2, y6, y7⟩, ⟨e4, y10, y11⟩⟩ := st2
    have kTI : h'.get? TI = some _ := kept _ _ TIz D.TITO TI1 TI2 Z.ti
    exact ⟨⟨s.heap.objs.size, false, _, keep2 _ _ (Ne.symm D.Sz) hz', keep2 _ _ NS tn⟩, keep2 _ _ (Ne.symm D.STI) kTI, ⟨e1, keep2 _ _ (Ne.symm D.S1) y4, y5⟩, ⟨e2, keep2 _ _ (Ne.symm D.S2) y6, y7⟩, ⟨e3, keep2 _ _ (Ne.symm D.St1) y8, y9⟩, ⟨e4, keep2 _ _ (Ne.symm D.St2) y10, y11⟩⟩
  · refine ⟨rfl, fun T hT => ?_, by simp, fun T hT => ?_, fun j T x' y' q1 q2 q3 => ?_⟩
    · rw [List.mem_singleton] at hT
      rw [hT]
      exact hN
    · rw [List.mem_singleton] at hT
      show T < (h'.update S _).objs.size
      rw [Heap.size_update, grown, hT]
      exact Nat.lt_succ_self _
    · have ej : j = 0 := by
        have := (List.getElem?_eq_some_iff.mp q1).1
        have : j < 1 := this
        omega
      subst ej
      cases q1
      rw [hx] at q2
      rw [hy] at q3
      cases q2
      cases q3
      exact keep2 _ _ NS pr
  · exact fin h'' tk acc' c' Ts' q1 q2 q3 fun b o n1 n2 n3 n4 n5 q => q4 b o n1 n2 n4 n5 (keep2 b o n1 (kept b o n2 n3 n4 n5 q))
/-- list(z) -/
theorem list_init (hh : A.handled = none) (D : ZApart z TI TO i1 i2 t1 t2 S N) (sz : xs.size = ys.size) (pos : 0 < xs.size) (fit : xs.size ≤ 1000000) (hN : N ≤ s.heap.objs.size) (Z : ZNew s.heap z TI TO i1 i2 t1 t2 xs ys) (hS : s.heap.get? S = some (listAt #[] 0))
    (fin : ∀ (h' : Heap) (tk : Nat) (acc' : Array Value) (c' : Nat) (Ts' : List Addr), h'.get? S = some (listAt acc' c') → acc'.toList = Ts'.map Value.ref → ZGot h' N xs ys xs.size Ts' → (∀ b o, b ≠ S → b ≠ z → b ≠ TO → b ≠ i1 → b ≠ i2 → s.heap.get? b = some o → h'.get? b = some o) → R (.ok (.ret .none)) { s with heap := h', toks := tk }) :
    wpAny (model prog w) A.in1 (Builtin.«list.__init__» ⟨[.ref S, .ref z], []⟩) (fun fin s' => match fin with | .done f => R (.ok f) s' | .again c' => c'.quiet = true ∧ codeAny (model prog w) A c' R s') (fun e s' => R (.error e) s') s := by
  have upd1 : ∀ {h : Heap} {acc : Array Value} {c : Nat} (f : Array Value → Array Value), h.get? S = some (listAt acc c) → (h.update S (Obj.mapSeq f)).get? S = some (Obj.mapSeq f (listAt acc c)) := fun f q => Heap.get?_update_self _ q rfl
  have oth : ∀ {h : Heap} (f : Obj → Obj) (b : Addr) (o : Obj), b ≠ S → h.get? b = some o → (h.update S f).get? b = some o := fun f b o n q => (Heap.get?_update_other _ _ (Ne.symm n)).trans q
  have nS : ∀ c, c = z ∨ c = TI ∨ c = TO ∨ c = i1 ∨ c = i2 ∨ c = t1 ∨ c = t2 → c ≠ S := fun c h => by
    rcases h with rfl | rfl | rfl | rfl | rfl | rfl | rfl
    · exact Ne.symm D.Sz
    · exact Ne.symm D.STI
    · exact Ne.symm D.STO
    · exact Ne.symm D.S1
    · exact Ne.symm D.S2
    · exact Ne.symm D.St1
    · exact Ne.symm D.St2
  show wpAny _ A.in1 (do let old ← Builtin.List.listItems (.ref S); Builtin.List.listUpdate (.ref S) (fun _ => #[]); letGo old.toList.reverse; Builtin.List.listExtendWith (.ref S) (.ref z) .none) _ _ s
  refine wpAny_bind ?_
  unfold Builtin.List.listItems
  (refine wpAny_bind (wpAny_seqItems hS rfl (wpAny_pure ?_)))
  show wpAny _ A.in1 (updateSeq S (fun _ => #[]) >>= fun _ => letGo (#[] : Array Value).toList.reverse >>= fun _ => Builtin.List.listExtendWith (.ref S) (.ref z) .none) _ _ s
  (refine wpAny_bind (wpAny_updateSeq hS rfl ?_))
  have q2 := upd1 (fun _ => (#[] : Array Value)) hS
  have Z2 : ZNew (s.heap.update S (Obj.mapSeq fun _ => (#[] : Array Value))) z TI TO i1 i2 t1 t2 xs ys := Z.mono fun c hc o q => oth _ c o (nS c hc) q
  have n2 : N ≤ (s.heap.update S (Obj.mapSeq fun _ => (#[] : Array Value))).objs.size := by rw [Heap.size_update]; exact hN
  have k2 : ∀ b o, b ≠ S → s.heap.get? b = some o → (s.heap.update S (Obj.mapSeq fun _ => (#[] : Array Value))).get? b = some o := fun b o n q => oth _ b o n q
  generalize s.heap.update S (Obj.mapSeq fun _ => (#[] : Array Value)) = h2 at q2 Z2 n2 k2
  (refine wpAny_bind (wpAny_letGo ?_))
  have ty : Shared.TypeIs { s with heap := h2 } (.ref z) "zip" := ⟨_, Z2.zip, rfl⟩
  (unfold Builtin.List.listExtendWith)
  refine wpAny_bind (wpAny_typeOf ty ?_)
  have e1 : Builtin.List.listSameRef (.ref S) (.ref z) = false := by simp [Builtin.List.listSameRef, show S ≠ z from D.Sz]
  have e2 : (Value.type "zip" == Value.type "list") = false := by decide
  have e3 : (Value.type "zip" == Value.type "tuple") = false := by decide
  simp only [e1, e2, e3, Bool.or_false, Bool.false_eq_true, if_false]
  have it : wpAny (model prog w) A.in1 (pyIter (.ref z)) (fun v s' => v = .ref z ∧ s' = { s with heap := h2 }) (fun e s' => R (.error e) s') { s with heap := h2 } := wpAny_pyIter_zip Z2.zip ⟨rfl, rfl⟩
  refine wpAny_bind (wpAny_mono it (fun v s' hv => ?_) fun _ _ q => q)
  obtain ⟨rfl, rfl⟩ := hv
  (refine wpAny_bind (wpAny_holding ?_))
  (unfold Builtin.List.listLengthHint)
  refine wpAny_bind (wpAny_specialOf ty nolen_zip ?_)
  show wpAny _ A.in1 (specialOf (Value.ref z) (Str.ofString "__length_hint__") >>= _) _ _ _
  refine wpAny_bind (wpAny_specialOf ty nohint_zip (wpAny_pure ?_))
  show wpAny _ A.in1 (rule "list.extend.makes-room" >>= fun _ => Builtin.List.listTouch (.ref S) >>= fun _ => again (.builtin "list.extend.loop" ⟨[.ref S, .ref z, .none], []⟩)) _ _ _
  (refine wpAny_bind (wpAny_rule (wpAny_bind ?_)))
  (show wpAny _ A.in1 (updateSeq S (·.push .none) >>= fun _ => updateSeq S (·.pop)) _ _ _)
  refine wpAny_bind (wpAny_updateSeq q2 rfl ?_)
  have q3 := Heap.get?_update_self (Obj.mapSeq (·.push Value.none)) q2 rfl
  refine wpAny_updateSeq (hz := by seq_fits) q3 rfl ?_
  have q4 := Heap.get?_update_self (Obj.mapSeq (·.pop)) q3 rfl
  have k4 : ∀ b o, b ≠ S → h2.get? b = some o → ((h2.update S (Obj.mapSeq (·.push Value.none))).update S (Obj.mapSeq (·.pop))).get? b = some o := fun b o n q => oth _ b o n (oth _ b o n q)
  refine wpAny_pure ⟨plainId_quiet F.plain_extend_loop _, zip_first hh D sz pos fit ?_ (Z2.mono fun c hc o q => k4 c o (nS c hc) q) q4 fun h' tk acc' c' Ts' r1 r2 r3 r4 => ?_⟩
  · show N ≤ ((h2.update S _).update S _).objs.size
    rw [Heap.size_update, Heap.size_update]
    exact n2
  · exact fin h' tk acc' c' Ts' r1 r2 r3 fun b o m1 m2 m3 m4 m5 q => r4 b o m1 m2 m3 m4 m5 (k4 b o m1 (k2 b o m1 q))
end
end Kp
set_option maxHeartbeats 410000
/-! KpZ4: list(zip(t, u)): both calls. -/
namespace Kp
open L2 PySem PySem.Spec PyProof.Rows
section
variable {prog : Program} {w : World} {A : Around} {E : Value → Shared → Prop} {s : Shared} {t1 t2 : Addr} {xs ys : Array Value} {Q : Value → Shared → Prop}
theorem call_list_zip {z TI TO i1 i2 : Addr} (hh : A.handled = none) (sz : xs.size = ys.size) (pos : 0 < xs.size) (fit : xs.size ≤ 1000000) (Z : ZNew s.heap z TI TO i1 i2 t1 t2 xs ys)
    (i12 : i1 ≠ i2) (TITO : TI ≠ TO) (TOz : TO ≠ z) (TOi1 : TO ≠ i1) (TOi2 : TO ≠ i2) (TOt1 : TO ≠ t1) (TOt2 : TO ≠ t2)
    (fin : ∀ (h' : Heap) (tk : Nat) (acc' : Array Value) (c' : Nat) (Ts' : List Addr), h'.get? s.heap.objs.size = some (listAt acc' c') → acc'.toList = Ts'.map Value.ref → ZGot h' (s.heap.objs.size + 1) xs ys xs.size Ts' → (∀ b o, b ≠ z → b ≠ TO → b ≠ i1 → b ≠ i2 → s.heap.get? b = some o → h'.get? b = some o) → Q (.ref s.heap.objs.size) { s with heap := h', toks := tk }) :
    wpAny (model prog w) A (call (.type "list") [.ref z]) Q E s := by
  have hh2 : A.in1.handled = none := hh
  refine callType_codes (Q₁ := fun obj s₁ => obj = .ref s.heap.objs.size ∧ s₁ = { s with heap := s.heap.push { cls := .type "list", data := .seq #[] } })
    F.called_list (F.typeCall_list_1 _) F.entry_list_init
    (code_list_new _ ⟨rfl, rfl⟩)
    fun obj s₁ h₁ => ?_
  obtain ⟨rfl, rfl⟩ := h₁
  (have hS : (s.heap.push { cls := .type "list", data := .seq #[] }).get? s.heap.objs.size = some { cls := .type "list", data := .seq #[] } := Heap.get?_push_size _ rfl)
  have old : ∀ {c : Nat} {o : Obj}, s.heap.get? c = some o → @LT.lt Nat _ c s.heap.objs.size := fun q => Heap.lt_size q
  have up : ∀ (c : Addr) (o : Obj), s.heap.get? c = some o → (s.heap.push { cls := .type "list", data := .seq #[] }).get? c = some o := fun c o q => Heap.get?_push_of_some _ q
  have l1 : @LT.lt Nat _ i1 s.heap.objs.size := by
    obtain ⟨o, q, _⟩ := Z.a
    exact old q
  have l2 : @LT.lt Nat _ i2 s.heap.objs.size := by
    obtain ⟨o, q, _⟩ := Z.b
    exact old q
  have l3 : @LT.lt Nat _ t1 s.heap.objs.size := by
    obtain ⟨o, q, _⟩ := Z.ta
    exact old q
  have l4 : @LT.lt Nat _ t2 s.heap.objs.size := by
    obtain ⟨o, q, _⟩ := Z.tb
    exact old q
  have l5 : @LT.lt Nat _ TO s.heap.objs.size := old Z.to
  have l6 : @LT.lt Nat _ TI s.heap.objs.size := old Z.ti
  have l7 : @LT.lt Nat _ z s.heap.objs.size := old Z.zip
  have D : ZApart z TI TO i1 i2 t1 t2 s.heap.objs.size (s.heap.objs.size + 1) := { i12 := i12, TITO := TITO, TOz := TOz, TOi1 := TOi1, TOi2 := TOi2, TOt1 := TOt1, TOt2 := TOt2, lz := by omega, l1 := by omega, l2 := by omega, lTO := by omega, lS := by omega, Sz := by omega, STI := by omega, STO := by omega, S1 := by omega, S2 := by omega, St1 := by omega, St2 := by omega }
  refine ⟨⟨_, hS, rfl⟩, F.args_list_init_2 _ _, list_init (A := A.in1) hh2 D sz pos fit ?_ (Z.mono fun c _ o q => up c o q) hS fun h' tk acc' c' Ts' q1 q2 q3 q4 => ?_⟩
  · show _ ≤ (s.heap.push _).objs.size
    rw [Heap.size_push]
    exact Nat.le_refl _
  · refine ⟨rfl, fin h' tk acc' c' Ts' q1 q2 q3 fun b o n1 n2 n3 n4 q => q4 b o (fun e => ?_) n1 n2 n3 n4 (up b o q)⟩
    have := old q
    rw [e] at this
    exact Nat.lt_irrefl _ this
/-- zip(t1, t2), then list(..) of it -/
theorem call_listZip (hh : A.handled = none) (sz : xs.size = ys.size) (pos : 0 < xs.size) (fit : xs.size ≤ 1000000) (ta : s.heap.IsTuple t1 xs) (tb : s.heap.IsTuple t2 ys)
    (fin : ∀ (h' : Heap) (tk : Nat) (S : Addr) (acc' : Array Value) (c' : Nat) (Ts' : List Addr), s.heap.objs.size ≤ S → h'.get? S = some (listAt acc' c') → acc'.toList = Ts'.map Value.ref → ZGot h' (S + 1) xs ys xs.size Ts' → (∀ b o, s.heap.get? b = some o → h'.get? b = some o) → Q (.ref S) { s with heap := h', toks := tk }) :
    wpAny (model prog w) A (call (.type "zip") [.ref t1, .ref t2]) (fun v s1 => wpAny (model prog w) A (call (.type "list") [v]) Q E s1) E s := by
  have l3 : @LT.lt Nat _ t1 s.heap.objs.size := by
    obtain ⟨o, q, _⟩ := ta
    exact Heap.lt_size q
  have l4 : @LT.lt Nat _ t2 s.heap.objs.size := by
    obtain ⟨o, q, _⟩ := tb
    exact Heap.lt_size q
  refine zip_begins2 (begins_tuple t1 xs) (begins_tuple t2 ys) ta tb fun h' q1 q2 q3 q4 q5 q6 q7 => ?_
  have Z : ZNew h' (s.heap.objs.size + 4) (s.heap.objs.size + 2) (s.heap.objs.size + 3) s.heap.objs.size (s.heap.objs.size + 1) t1 t2 xs ys := { zip := q1, ti := q2, to := q3, a := ⟨_, q4, rfl, rfl⟩, b := ⟨_, q5, rfl, rfl⟩, ta := ta.at fun o q => q7 _ o q, tb := tb.at fun o q => q7 _ o q }
  generalize hN : s.heap.objs.size = N at *
  refine call_list_zip (s := { s with heap := h' }) hh sz pos fit Z (by show @Ne Nat _ _; omega) (by show @Ne Nat _ _; omega) (by show @Ne Nat _ _; omega) (by show @Ne Nat _ _; omega) (by show @Ne Nat _ _; omega) (by show @Ne Nat _ _; omega) (by show @Ne Nat _ _; omega) fun h2 tk acc' c' Ts' r1 r2 r3 r4 => ?_
  refine fin h2 tk h'.objs.size acc' c' Ts' (by rw [q6]; omega) r1 r2 r3 fun b o q => ?_
  have lb : @LT.lt Nat _ b N := by rw [← hN]; exact Heap.lt_size q
  exact r4 b o (by show @Ne Nat _ _; omega) (by show @Ne Nat _ _; omega) (by show @Ne Nat _ _; omega) (by show @Ne Nat _ _; omega) (q7 b o q)
end
end Kp
set_option maxHeartbeats 410000
/-! KpZ5: list(zip(t, u)): the rule. -/
namespace Kp
open L2 PySem PySem.Spec PyProof.Rows
section
variable {fs ex : List Addr} {H G : Hp} {h h' : Heap}
theorem un_laidG (k : ∀ b u, h.get? b = some u → h'.get? b = some u) (eqH : ∀ b, H b ≠ none → G b = H b) (eqh : ∀ b u, h.get? b = some u → G b = H b) : Un fs ex H G h h' where
  keep := fun c u q _ _ _ => k c u q
  slot := fun c u q _ _ _ => ⟨u.slots, k c u q⟩
  free := fun b u q n _ => (eqh b u q).trans n
  there := fun c u q _ => ⟨u, k c u q⟩
  tups := fun b xs q => (eqH b (by rw [q]; exact fun z => nomatch z)).trans q
  frzs := fun b u xs q => (eqH b (by rw [q]; exact fun z => nomatch z)).trans q
  tbls := fun b ps q => ⟨#[], by rw [eqH b (by rw [q]; exact fun z => nomatch z), q]; simp⟩
theorem hok_laidG {P : Program} {w : World} (x : HOk P w H h) (k : ∀ b u, h.get? b = some u → h'.get? b = some u) (eqH : ∀ b, H b ≠ none → G b = H b) (new : ∀ b u, G b = some u → H b = none → ObjOk P w G h' b u) : HOk P w G h' := fun b u e => by
  by_cases hb : H b = none
  · exact new b u e hb
  · rw [eqH b hb] at e
    exact (x b u e).stay (fun c v _ q => k c v q) (fun c q => (eqH c (by rw [q]; exact fun z => nomatch z)).trans q) fun c xs q => (eqH c (by rw [q]; exact fun z => nomatch z)).trans q
end
/-- pairs laid as tuples -/
def layT : Hp → List Addr → List (V × V) → Hp
  | H, T :: Ts, p :: ps => layT (upd H T (.tup [p.1, p.2])) Ts ps
  | H, _, _ => H
theorem layT_out : ∀ (Ts : List Addr) (ps : List (V × V)) (H : Hp) (b : Addr), b ∉ Ts → layT H Ts ps b = H b
  | [], _, _, _, _ => by unfold layT; rfl
  | _ :: _, [], _, _, _ => by unfold layT; rfl
  | T :: Ts, p :: ps, H, b, hb => by
    show layT (upd H T (.tup [p.1, p.2])) Ts ps b = _
    rw [layT_out Ts ps _ b fun m => hb (List.mem_cons_of_mem _ m), upd_ne]
    intro e
    rw [e] at hb
    exact hb List.mem_cons_self
theorem layT_at : ∀ (Ts : List Addr) (ps : List (V × V)) (H : Hp) (j : Nat) (T : Addr) (p : V × V), Ts.Nodup → Ts[j]? = some T → ps[j]? = some p → layT H Ts ps T = some (.tup [p.1, p.2])
  | [], _, _, _, _, _, _, e, _ => nomatch e
  | _ :: _, [], _, _, _, _, _, _, e => nomatch e
  | T :: Ts, p :: ps, H, 0, T', p', nd, e1, e2 => by
    cases e1
    cases e2
    show layT (upd H T (.tup [p.1, p.2])) Ts ps T = _
    rw [layT_out Ts ps _ T (List.nodup_cons.mp nd).1, upd_same]
  | T :: Ts, p :: ps, H, j + 1, T', p', nd, e1, e2 => layT_at Ts ps _ j T' p' (List.nodup_cons.mp nd).2 e1 e2
def tListZip (K : PySem.W.Frag) (t : TA) : TE := fun σ H Q => t σ H fun vs H2 => ∃ (a b : Addr) (xs ys : List V), vs = [.ref a, .ref b] ∧ SqT K H2 a xs ∧ SqT K H2 b ys ∧ xs.length = ys.length ∧ 0 < xs.length ∧ xs.length ≤ 1000000 ∧
  ∀ (S : Addr) (Ts : List Addr), Ts.length = xs.length → Ts.Nodup → S ∉ Ts → H2 S = none → (∀ T ∈ Ts, H2 T = none) → Q (.ref S) (upd (layT H2 Ts (xs.zip ys)) S (.lst (Ts.map .ref)))
theorem vals_refs : ∀ (Ts : List Addr), Vals (Ts.map V.ref) (Ts.map Value.ref)
  | [] => .nil
  | _ :: Ts => .cons rfl (vals_refs Ts)
theorem vals_get : ∀ {xs : List V} {us : List Value} {j : Nat} {x : V}, Vals xs us → xs[j]? = some x → ∃ u, us[j]? = some u ∧ RelV x u
  | _, _, _, _, .nil, e => nomatch e
  | _, _, 0, _, .cons r _, e => by
    cases e
    exact ⟨_, rfl, r⟩
  | _, _, j + 1, _, .cons _ t, e => vals_get (j := j) t e
theorem pe_listZip {X : Cx} {K : PySem.W.Frag} {a b : Expr} {t : TA} {p p2 q pos : Pos} (hK : X.K = K) (hg : Gl X "list") (hm : X.mg "list" = none) (hg2 : Gl X "zip") (hm2 : X.mg "zip" = none) (hb1 : bootBuiltins "list" = some (.type "list")) (hb2 : bootBuiltins "zip" = some (.type "zip")) (ha : PA X [a, b] t) (hc : X.calm = true := by rfl)
    (he : starEach [a, b] X.env = (false, eval a X.env) :: starEach [b] X.env := by rfl) (hpl : (backTo q (starEach [b] X.env)).any (·.1) = false := by rfl) : PE X (.Call (.Name "list" p) [.Call (.Name "zip" p2) [a, b] [] q] [] pos) (tListZip K t) := by
  subst hK
  (refine ⟨fun pins s σ H Q I h => ?_⟩)
  refine Call_ (ld_blt I hg hm hb1 ?_)
  refine PyProof.Rows.callWith_type1 (PyProof.Rows.args_cons ?_ rfl) rfl rfl
  refine Call_ (ld_blt I hg2 hm2 hb2 ?_)
  refine PyProof.Rows.callWith_type1 (thn (ha.run q pins s σ H _ I h) fun us s1 ⟨vs, H1, I1, r1, q1⟩ => ?_) he hpl
  obtain ⟨a, b, xs, ys, rfl, t1, t2, len, pos, fit, q1⟩ := q1
  cases r1 with
  | cons ra rr =>
  cases rr with
  | cons rb rr =>
  cases rr
  cases ra
  cases rb
  obtain ⟨ix, vx, px, _⟩ := I1.tuple t1
  obtain ⟨iy, vy, py, _⟩ := I1.tuple t2
  have lx : ix.toArray.size = xs.length := by rw [List.size_toArray, ← vx.length]
  have ly : iy.toArray.size = ys.length := by rw [List.size_toArray, ← vy.length]
  refine wpAny_mono (call_listZip (I1.ok.hd hc) (by rw [lx, ly, len]) (by rw [lx]; exact pos) (by rw [lx]; exact fit) px py fun h' tk S acc' c' Ts' nS qS eacc Gt kept => ?_) (fun _ _ q => PyProof.Rows.args_nil q) fun _ _ q => q
  rw [lx] at Gt
  have big : ∀ T ∈ S :: Ts', H1 T = none ∧ s1.heap.get? T = none := fun T hT => by
    have le : @LE.le Nat _ s1.heap.objs.size T := by
      rcases List.mem_cons.mp hT with e | m
      · rw [e]
        exact nS
      · exact Nat.le_trans nS (Nat.le_of_succ_le (Gt.new T m))
    refine ⟨I1.hok.fresh le, ?_⟩
    cases e : s1.heap.get? T with
    | none => rfl
    | some o => exact absurd (Heap.lt_size e) (Nat.not_lt.mpr le)
  have ST : S ∉ Ts' := fun m => Nat.lt_irrefl _ (Gt.new S m)
  have out : ∀ c, c ∉ S :: Ts' → upd (layT H1 Ts' (xs.zip ys)) S (.lst (Ts'.map .ref)) c = H1 c := fun c hc => by
    rw [upd_ne fun e => hc (List.mem_cons.mpr (.inl e)), layT_out _ _ _ _ fun m => hc (List.mem_cons_of_mem _ m)]
  have eqH : ∀ c, H1 c ≠ none → upd (layT H1 Ts' (xs.zip ys)) S (.lst (Ts'.map .ref)) c = H1 c := fun c hc => out c fun m => hc (big c m).1
  have eqh : ∀ c u, s1.heap.get? c = some u → upd (layT H1 Ts' (xs.zip ys)) S (.lst (Ts'.map .ref)) c = H1 c := fun c u hc => out c fun m => by
    rw [(big c m).2] at hc
    cases hc
  refine ⟨.ref S, _, I1.un (un_laidG kept eqH eqh) (hok_laidG I1.hok kept eqH fun c u hu hn => ?_), rfl, q1 S Ts' Gt.len Gt.nd ST (big S List.mem_cons_self).1 fun T hT => (big T (List.mem_cons_of_mem _ hT)).1⟩
  by_cases e : c = S
  · subst e
    rw [upd_same] at hu
    cases hu
    refine ⟨by rw [List.length_map, Gt.len, sizeLine_eq]; omega, Ts'.map Value.ref, c', vals_refs Ts', ?_⟩
    rw [qS, ← eacc]
  · rw [upd_ne e] at hu
    by_cases m : c ∈ Ts'
    · obtain ⟨j, hj⟩ := List.mem_iff_getElem?.mp m
      have lj : j < xs.length := by rw [← Gt.len]; exact (List.getElem?_eq_some_iff.mp hj).1
      have ex : xs[j]? = some xs[j] := List.getElem?_eq_getElem lj
      have ey : ys[j]? = some (ys[j]'(len ▸ lj)) := List.getElem?_eq_getElem (len ▸ lj)
      have ez : (xs.zip ys)[j]? = some (xs[j], ys[j]'(len ▸ lj)) := List.getElem?_zip_eq_some.mpr ⟨ex, ey⟩
      rw [layT_at Ts' _ _ j c _ Gt.nd hj ez] at hu
      cases hu
      obtain ⟨u, ux, rx⟩ := vals_get vx ex
      obtain ⟨v, uy, ry⟩ := vals_get vy ey
      refine ⟨by show 2 ≤ sizeLine; rw [sizeLine_eq]; omega, [u, v], .cons rx (.cons ry .nil), _, Gt.pair j c u v hj (by simpa using ux) (by simpa using uy), rfl, _, rfl⟩
    · rw [layT_out _ _ _ _ m, hn] at hu
      cases hu
end Kp
set_option maxHeartbeats 410000
/-! Kp12: the dice: what comes is one of many. -/
namespace Kp
open L2 PySem PySem.Spec PyProof.Rows
/-- an int of which p holds -/
def IntP (p : Int → Prop) : Phi := fun v _ => ∃ i, p i ∧ v = .int i
/-- one of ds -/
def OneOf (K : PySem.W.Frag) (ds : List PyData) : Phi := fun v H => ∃ x ∈ ds, Dt K H x v
/-- data enc b, G b -/
def Any (K : PySem.W.Frag) {β : Type} (enc : β → PyData) (G : β → Prop) : Phi := fun v H => ∃ b, G b ∧ Dt K H (enc b) v
/-- a list of them -/
def AnyL (K : PySem.W.Frag) (d : Option Addr) {β : Type} (enc : β → PyData) (G : List β → Prop) : Phi := fun v H => ∃ bs : List β, G bs ∧ Ls K d (bs.map enc) v H
/-- the script: a list that is only read -/
def Sq (K : PySem.W.Frag) (ns : List Int) : Phi := fun v H => ∃ a, v = .ref a ∧ SqL K H a (ns.map V.int)
section
variable {K : PySem.W.Frag} {d : Option Addr}
instance (p : Int → Prop) : Sta d (IntP p) := ⟨fun _ _ _ _ h => h⟩
instance (ds : List PyData) : Sta d (OneOf K ds) := ⟨fun v H H' e ⟨x, h1, h2⟩ => ⟨x, h1, Dt.up e _ _ h2⟩⟩
instance {β : Type} (enc : β → PyData) (G : β → Prop) : Sta d (Any K enc G) := ⟨fun v H H' e ⟨x, h1, h2⟩ => ⟨x, h1, Dt.up e _ _ h2⟩⟩
instance {β : Type} (enc : β → PyData) (G : List β → Prop) : Sta d (AnyL K d enc G) := ⟨fun v H H' e ⟨x, h1, h2⟩ => ⟨x, h1, (inferInstance : Sta d (Ls K d (x.map enc))).up v H H' e h2⟩⟩
instance (ns : List Int) : Sta none (Sq K ns) := ⟨fun v H H' e ⟨a, h1, h2⟩ => ⟨a, h1, by
  rcases h2 with h2 | h2
  · exact .inl (e.keep a _ (lst_plain _) (fun z => nomatch z.1) h2)
  · exact .inr h2⟩⟩
end
section
variable {K : PySem.W.Frag} {d : Option Addr} {σ : L2.St} {H H1 H2 : Hp} {te ta tb tl : TE} {F G : Phi} {E : Ends} {tx : TS} {α β : Type}
theorem EvT.imp' {t : TT} {P R : Bool → Prop} (h : EvT d t σ H P) (k : ∀ b, P b → R b) : EvT d t σ H R := fun H1 e Q q => h H1 e Q fun b H2 e2 f => q b H2 e2 (k b f)
theorem ev_to (h : Ev d te σ H F) (k : ∀ v H2, Wk d H H2 → F v H2 → G v H2) : Ev d te σ H G := h.imp k
theorem ev_intP {p : Int → Prop} {i : Int} (h : Ev d te σ H (D K (.int i))) (hp : p i) : Ev d te σ H (IntP p) := h.imp fun v H2 _ f => by
  cases f
  exact ⟨i, hp, rfl⟩
theorem IntP.toD {p : Int → Prop} {v : V} (h : IntP p v H) : ∃ i, p i ∧ D K (.int i) v H := by
  obtain ⟨i, h1, rfl⟩ := h
  exact ⟨i, h1, .int i⟩
/-- an operation on ints of which something is known -/
theorem ev_opP {p q r : Int → Prop} {C : Int → Int → Prop} {g : Int → Int → Int} (ha : Ev d ta σ H (IntP p)) (hb : Ev d tb σ H (IntP q)) (hc : ∀ i j, p i → q j → C i j ∧ r (g i j)) : Ev d (tOp (rI C fun i j => .int (g i j)) ta tb) σ H (IntP r) :=
  ev_op ha hb fun _ _ H1 _ ⟨i, h1, e1⟩ ⟨j, h2, e2⟩ => by
    subst e1 e2
    obtain ⟨c1, c2⟩ := hc i j h1 h2
    exact rv_now (fun Q q => ⟨i, j, rfl, rfl, c1, q⟩) ⟨_, c2, rfl⟩
theorem ev_opP0 {p q r : Int → Prop} {g : Int → Int → Int} (ha : Ev d ta σ H (IntP p)) (hb : Ev d tb σ H (IntP q)) (hc : ∀ i j, p i → q j → r (g i j)) : Ev d (tOp (rI0 fun i j => .int (g i j)) ta tb) σ H (IntP r) :=
  ev_op ha hb fun _ _ H1 _ ⟨i, h1, e1⟩ ⟨j, h2, e2⟩ => by
    subst e1 e2
    exact rv_now (fun Q q => ⟨i, j, rfl, rfl, q⟩) ⟨_, hc i j h1 h2, rfl⟩
theorem ev_mulD {i j : Int} (ha : Ev d ta σ H (D K (.int i))) (hb : Ev d tb σ H (D K (.int j))) (hc : CMul i j) : Ev d (tOp (rI CMul fun i j => .int (i * j)) ta tb) σ H (D K (.int (i * j))) := ev_rI ha hb hc fun _ => .int _
theorem ev_modD {i j : Int} (ha : Ev d ta σ H (D K (.int i))) (hb : Ev d tb σ H (D K (.int j))) (hc : 0 < j) : Ev d (tOp (rI (fun _ j => 0 < j) fun i j => .int (i % j)) ta tb) σ H (D K (.int (i % j))) := ev_rI ha hb hc fun _ => .int _
theorem ev_divD {i j : Int} (ha : Ev d ta σ H (D K (.int i))) (hb : Ev d tb σ H (D K (.int j))) (hc : CDiv i j) : Ev d (tOp (rI CDiv fun i j => .int (i / j)) ta tb) σ H (D K (.int (i / j))) := ev_rI ha hb hc fun _ => .int _
theorem ev_powD {i j : Int} (ha : Ev d ta σ H (D K (.int i))) (hb : Ev d tb σ H (D K (.int j))) (hc : CPow i j) : Ev d (tOp (rI CPow fun i j => .int (i ^ j.toNat)) ta tb) σ H (D K (.int (i ^ j.toNat))) := ev_rI ha hb hc fun _ => .int _
theorem op_mulX {X : Cx} : OpR X (binaryOp .Mult) (rI IntMulOk fun i j => .int (i * j)) := opI fun _ _ _ _ _ _ _ hc q => mul_int q hc
theorem ev_mulX {i j : Int} (ha : Ev d ta σ H (D K (.int i))) (hb : Ev d tb σ H (D K (.int j))) (hc : IntMulOk i j) : Ev d (tOp (rI IntMulOk fun i j => .int (i * j)) ta tb) σ H (D K (.int (i * j))) := ev_rI ha hb hc fun _ => .int _
theorem ev_int1 {i : Int} (h : Ev d te σ H (D K (.int i))) : Ev d (tCB (fun xs H Q => (∃ i, xs = [V.int i] ∧ Q (.int i) H) ∨ ∃ k, xs = [V.bl k] ∧ Q (.int (if k then 1 else 0)) H) (tCons te tNil)) σ H (D K (.int i)) := fun H1 e Q q => h H1 e _ fun v H2 e2 f => by
  cases f
  exact .inl ⟨i, rfl, q _ H2 e2 (.int _)⟩
theorem ev_intB {b : Bool} (h : Ev d te σ H (D K (.bool b))) : Ev d (tCB (fun xs H Q => (∃ i, xs = [V.int i] ∧ Q (.int i) H) ∨ ∃ k, xs = [V.bl k] ∧ Q (.int (if k then 1 else 0)) H) (tCons te tNil)) σ H (D K (.int (if b then 1 else 0))) := fun H1 e Q q => h H1 e _ fun v H2 e2 f => by
  cases f
  exact .inr ⟨b, rfl, q _ H2 e2 (.int _)⟩
theorem ev_absD {i : Int} (h : Ev d te σ H (D K (.int i))) : Ev d (tCB (fun xs H Q => ∃ i, xs = [V.int i] ∧ Q (.int (if i < 0 then -i else i)) H) (tCons te tNil)) σ H (D K (.int (if i < 0 then -i else i))) := fun H1 e Q q => h H1 e _ fun v H2 e2 f => by
  cases f
  exact ⟨i, rfl, q _ H2 e2 (.int _)⟩
theorem ev_maxD {i j : Int} (ha : Ev d ta σ H (D K (.int i))) (hb : Ev d tb σ H (D K (.int j))) : Ev d (tCB (fun xs H Q => ∃ i j, xs = [V.int i, .int j] ∧ Q (.int (if j > i then j else i)) H) (tCons ta (tCons tb tNil))) σ H (D K (.int (if j > i then j else i))) := fun H1 e Q q => ha H1 e _ fun v H2 e2 f => hb H2 (e.on e2) _ fun u H3 e3 g => by
  cases f
  cases g
  exact ⟨i, j, rfl, q _ H3 (e2.trans e3) (.int _)⟩
theorem ev_minD {i j : Int} (ha : Ev d ta σ H (D K (.int i))) (hb : Ev d tb σ H (D K (.int j))) : Ev d (tCB (fun xs H Q => ∃ i j, xs = [V.int i, .int j] ∧ Q (.int (if j < i then j else i)) H) (tCons ta (tCons tb tNil))) σ H (D K (.int (if j < i then j else i))) := fun H1 e Q q => ha H1 e _ fun v H2 e2 f => hb H2 (e.on e2) _ fun u H3 e3 g => by
  cases f
  cases g
  exact ⟨i, j, rfl, q _ H3 (e2.trans e3) (.int _)⟩
/-- the script -/
theorem ev_vSq {ns : List Int} {i : Nat} {v : V} (h : σ[i]? = some (some v)) (f : Sq K ns v H) : Ev none (tVar i) σ H (Sq K ns) := ev_v h f
theorem ev_lenSq {ns : List Int} (h : Ev d te σ H (Sq K ns)) : Ev d (tCB (fun xs H Q => ∃ p ys, xs = [V.ref p] ∧ (SqL K H p ys ∨ SqT K H p ys) ∧ Q (.int ys.length) H) (tCons te tNil)) σ H (D K (.int (ns.length : Int))) := fun H1 e Q q => h H1 e _ fun v H2 e2 f => by
  obtain ⟨a, rfl, f⟩ := f
  refine ⟨a, _, rfl, .inl f, ?_⟩
  rw [List.length_map]
  exact q _ H2 e2 (.int _)
theorem ev_ixSq {ns : List Int} {i : Nat} {n : Int} (ha : Ev d ta σ H (Sq K ns)) [Sta d (Sq K ns)] (hb : Ev d tb σ H (D K (.int (i : Int)))) (hi : ns[i]? = some n) : Ev d (tOp (rIxL K) ta tb) σ H (D K (.int n)) :=
  ev_op ha hb fun _ _ H1 _ a b => by
    cases b
    obtain ⟨p, rfl, f⟩ := a
    exact rv_now (v := .int n) (fun Q q => ⟨_, _, (i : Int), .int n, rfl, rfl, f, atI_nat' (by rw [List.getElem?_map, hi]; rfl), q⟩) (.int n)
theorem ixN_nat {n k : Nat} (h : k < n) : ixN n (k : Int) = some k := by
  unfold ixN
  rw [if_pos (by omega), if_pos (by omega), Int.toNat_natCast]
theorem DtA.set {H' : Hp} {x : PyData} {v : V} (hv : Dt K H' x v) : ∀ {ds : List PyData} {xs : List V} {n : Nat}, DtA K H' ds xs → DtA K H' (ds.set n x) (xs.set n v)
  | _, _, _, .nil => .nil
  | _, _, 0, .cons _ b => .cons hv b
  | _, _, n + 1, .cons a b => .cons a (DtA.set hv (n := n) b)
theorem r_dice {tc : TE} {x y z : Int} (ha : Ev none ta σ H (D K (.int x))) (hb : Ev none tb σ H (D K (.int y))) (hc : Ev none tc σ H (D K (.int z))) (q : ∀ p H1, Ext none H H1 → H p = none → (∃ o, IsDice o ∧ H1 p = some o) → E.rt (.ref p) H1) : tRet (tLst (tCons ta (tCons tb (tCons tc tNil)))) E σ H := by
  have it := ei_cons ha (ei_cons hb (ei_cons hc ei_nil))
  refine it H (Wk.refl H) (fun vs H1 => vs.length ≤ sizeLine ∧ ∀ p, H1 p = none → E.rt (.ref p) (upd H1 p (.lst vs))) fun vs H3 e3 f => ⟨?_, fun p hp => ?_⟩
  · rw [← f.length]
    exact sz_of (sml rfl)
  · refine q p _ (e3.trans (Ext.new hp)) (e3.free hp) ?_
    have ev := DtA.ints (ns := [x, y, z]) f
    subst ev
    exact ⟨_, ⟨_, _, _, rfl⟩, upd_same⟩
/-- xs[i] = e -/
theorem q_setL {j : Nat} {p : Addr} {ds : List PyData} {x : PyData} {n : Nat} (hj : σ[j]? = some (some (.ref p))) (np : d ≠ some p) (hx : LsX K ds p H) (hn : n < ds.length) (h : Ev d te σ H (D K x))
    (k : ∀ H1 H2, Ext d H H1 → (∀ a, a ≠ p → H2 a = H1 a) → Tk H H2 → LsX K (ds.set n x) p H2 → tx E σ H2) : tSeq (tAsg te (gSub (tVar j) (tC (.int (n : Int))) rSetL)) tx E σ H := by
  obtain ⟨xs, h1, h2⟩ := hx
  refine h H (Wk.refl H) _ fun v H1 e1 f => ⟨.ref p, hj, p, xs, (n : Int), n, rfl, rfl, e1.wk.lst np h1, ?_, ?_⟩
  · rw [← h2.length]
    exact ixN_nat hn
  · have l1 := e1.wk.lst np h1
    have t1 : Tk H1 (upd H1 p (.lst (xs.set n v))) := Tk.lst l1
    refine k H1 _ e1 (fun a ha => upd_ne ha) (e1.wk.tk.trans t1) ⟨xs.set n v, upd_same, ?_⟩
    exact DtA.set (Dt.tk t1 _ _ f) (DtA.tk (e1.wk.tk.trans t1) _ _ h2)
theorem ext_dice {p : Addr} (e : Ext none H H1) (h : ∀ a, a ≠ p → H2 a = H1 a) (h0 : ∃ o, IsDice o ∧ H p = some o) (h2 : ∃ o, IsDice o ∧ H2 p = some o) : Ext (some p) H H2 := fun a o ha => by
  by_cases z : a = p
  · subst z
    obtain ⟨o0, d0, e0⟩ := h0
    rw [e0] at ha
    cases ha
    exact .inr ⟨rfl, d0, h2⟩
  · rw [h a z]
    exact .inl (e.at0 ha)
theorem dice_lsx {p : Addr} (h : ∃ o, IsDice o ∧ H p = some o) : ∃ a b c : Int, LsX K [.int a, .int b, .int c] p H := by
  obtain ⟨o, ⟨a, b, c, rfl⟩, h⟩ := h
  exact ⟨a, b, c, _, h, .cons (.int _) (.cons (.int _) (.cons (.int _) .nil))⟩
theorem lsx_dice {p : Addr} {a b c : Int} (h : LsX K [.int a, .int b, .int c] p H) : ∃ o, IsDice o ∧ H p = some o := by
  obtain ⟨xs, h1, h2⟩ := h
  cases h2 with
  | cons a1 h2 =>
    cases a1
    cases h2 with
    | cons a2 h2 =>
      cases a2
      cases h2 with
      | cons a3 h2 =>
        cases a3
        cases h2
        exact ⟨_, ⟨a, b, c, rfl⟩, h1⟩
end
section
variable {P : Program} {w : World} {K : PySem.W.Frag} {mg : Str → Option Value} {base : Heap} {CK CW gE : Addr}
theorem sc_law_dice : FnScope ["_law_script", "_law_spot", "_law_cell", "_law_left"] ["_law_script", "_law_spot"] (C8.fnScope s_law_dice) := C8.fnScope_by (by decide +kernel)
/-- new dice -/
def sp_law_dice (K : PySem.W.Frag) : Sp := fun vs H Q _ => ∃ (ns : List Int) (i : Nat), i ≤ 100 ∧ All [Sq K ns, D K (.int (i : Int))] vs H ∧ ∀ p H', Ext none H H' → H p = none → (∃ o, IsDice o ∧ H' p = some o) → Q (.ref p) H'
theorem c_law_dice (T : Txt K mg CK CW gE) : C8.Cal P w K mg base 1 "_law_dice" (sp_law_dice K) [] := by
  obtain ⟨f, fd, F1, b⟩ := T.d_law_dice
  refine C8.cal0 F1 b .nil sc_law_dice (fun vs H Q E h => ?_) fun cdv A outer s H vs Q E hr h => ?_
  · obtain ⟨_, _, _, h, _⟩ := h
    exact all_len (Fs := []) (vs := []) h
  obtain ⟨ns, i, hi, hA, q⟩ := h
  obtain ⟨v0, v1, rfl, h0, h1⟩ := all2 hA
  refine ⟨_, (pss_cons (ps_set (i := 2) sc_law_dice.nd rfl (by first | exact Or.inl rfl | exact Or.inr rfl) (pe_ifExp (pt_cmpR op_lt (pv 1) (pe_callB call_len_seq (by rfl) T.b_len bt_len (pa_cons (pv 0) pa_nil)) (nomark _)) (pe_callTy call_int1 (by rfl) T.b_int bt_int (pa_cons (pe_ix ix_list (pv 0) (pv 1) (fun _ _ => rfl)) pa_nil)) (pe_op op_add (pe_op op_mul pe_int (pv 1)) pe_int))) (pss_cons (ps_set (i := 3) sc_law_dice.nd rfl (by first | exact Or.inl rfl | exact Or.inr rfl) (pe_op op_mod (pe_callB (call_max2 rfl) (by rfl) T.b_max bt_max (pa_cons pe_int (pa_cons (pe_op op_sub (pe_callB call_abs (by rfl) T.b_abs bt_abs (pa_cons (pv 2) pa_nil)) (pe_op op_pow pe_int pe_int)) pa_nil))) (pe_op op_mulX (pe_op op_pow pe_int pe_int) (pe_op op_pow pe_int pe_int)))) (pss_one (ps_ret (pe_lst (pa_cons (pv 3) (pa_cons (pe_op op_add (pe_op op_add (pe_op op_add (pe_op op_mul (pe_op op_mod (pe_callB call_abs (by rfl) T.b_abs bt_abs (pa_cons (pv 2) pa_nil)) pe_int) pe_int) (pe_op op_mul pe_int (pv 1))) (pe_op op_mul pe_int (pe_callTy call_int1 (by rfl) T.b_int bt_int (pa_cons (pe_cmpR op_lt (pv 2) pe_int (nomark _)) pa_nil)))) pe_int) (pa_cons pe_int pa_nil)))))))), ?_⟩
  have cell : ∃ c : Int, Ev none (tIf (tTest (tOp (rI0 fun i j => .bl (decide (i < j))) (tVar 1) (tCB (lenR K) (tCons (tVar 0) tNil)))) (tCB (fun xs H Q => (∃ i, xs = [V.int i] ∧ Q (.int i) H) ∨ ∃ k, xs = [V.bl k] ∧ Q (.int (if k then 1 else 0)) H) (tCons (tOp (rIxL K) (tVar 0) (tVar 1)) tNil)) (tOp (rI0 fun i j => .int (i + j)) (tOp (rI CMul fun i j => .int (i * j)) (tC (.int 89)) (tVar 1)) (tC (.int 53)))) (start ["_law_script", "_law_spot", "_law_cell", "_law_left"] [v0, v1]) H (D K (.int c)) := by
    by_cases lt : i < ns.length
    · refine ⟨ns[i], ev_if (b := true) ((et_test (ev_lt (ev_vD rfl h1) (ev_lenSq (ev_vSq rfl h0)))).is (decide_eq_true (by omega))) (fun _ => ev_int1 (ev_ixSq (ev_vSq rfl h0) (ev_vD rfl h1) (List.getElem?_eq_getElem lt))) (fun z => nomatch z)⟩
    · refine ⟨89 * (i : Int) + 53, ev_if (b := false) ((et_test (ev_lt (ev_vD rfl h1) (ev_lenSq (ev_vSq rfl h0)))).is (decide_eq_false (by omega))) (fun z => nomatch z) (fun _ => ev_add (ev_mulD ev_int (ev_vD rfl h1) (.inl (by decide))) ev_int)⟩
  obtain ⟨c, cell⟩ := cell
  refine q_set cell fun v2 H1 e1 h2 => ?_
  replace h1 := up e1 h1
  refine q_set (d := none) (ev_modD (ev_maxD ev_int (ev_sub (ev_absD (ev_vD (K := K) rfl h2)) (ev_powD ev_int ev_int ⟨by decide, by decide, by decide⟩))) (ev_mulX (ev_powD ev_int ev_int ⟨by decide, by decide, by decide⟩) (ev_powD ev_int ev_int ⟨by decide, by decide, by decide⟩) (by unfold IntMulOk; decide +kernel)) (by decide +kernel)) fun v3 H2 e2 h3 => ?_
  replace h1 := up e2 h1
  replace h2 := up e2 h2
  exact r_dice (ev_vD rfl h3) (ev_add (ev_add (ev_add (ev_mulD (ev_modD (ev_absD (ev_vD (K := K) rfl h2)) ev_int (by decide)) ev_int (.inr (by decide))) (ev_mulD ev_int (ev_vD rfl h1) (.inl (by decide)))) (ev_mulD ev_int (ev_intB (ev_lt (ev_vD rfl h2) ev_int)) (.inl (by decide)))) ev_int) ev_int fun p H3 e3 hp hd => q p H3 ((e1.trans e2).trans e3) ((e1.trans e2).free hp) hd
theorem sc_law_roll : FnScope ["_law_dice_here", "_law_total", "_law_found", "_law_one", "_law_two"] ["_law_dice_here", "_law_total"] (C8.fnScope s_law_roll) := C8.fnScope_by (by decide +kernel)
abbrev RollA := Addr × Int
abbrev sp_law_roll (K : PySem.W.Frag) : Sp := Pr (fun a : RollA => some a.1) (fun a => 0 < a.2 ∧ a.2 < 1073741824) (fun a => [Dc a.1, D K (.int a.2)]) (fun a => IntP fun r => 0 ≤ r ∧ r < a.2)
theorem c_law_roll (T : Txt K mg CK CW gE) : C8.Cal P w K mg base 1 "_law_roll" (sp_law_roll K) [] := by
  refine cal_of T.d_law_roll sc_law_roll (fun _ => rfl) fun cdv f A outer s H vs Q E hr a ha _ hA q => ?_
  obtain ⟨p, n⟩ := a
  obtain ⟨v0, v1, rfl, h0, h1⟩ := all2 hA
  obtain ⟨rfl, hd⟩ : v0 = .ref p ∧ ∃ o, IsDice o ∧ H p = some o := h0
  have h1 : D K (.int n) v1 H := h1
  obtain ⟨n0, n1⟩ : 0 < n ∧ n < 1073741824 := ha
  obtain ⟨a, b, c, hx⟩ := dice_lsx (K := K) hd
  refine ⟨_, (pss_cons (ps_if (pt_cmpR op_gt (pe_ix ix_list (pv 0) pe_int (fun _ _ => rfl)) pe_int (nomark _)) (pss_cons (ps_set (i := 2) sc_law_roll.nd rfl (by first | exact Or.inl rfl | exact Or.inr rfl) (pe_op op_mod (pe_callTy call_int1 (by rfl) T.b_int bt_int (pa_cons (pe_ix ix_list (pv 0) pe_int (fun _ _ => rfl)) pa_nil)) (pv 1))) (pss_cons (ps_asg (pe_op op_fdiv (pe_ix ix_list (pv 0) pe_int (fun _ _ => rfl)) (pv 1)) (pg_sub (pv 0) pe_int set_list)) (pss_one (ps_ret (pv 2))))) pss_nil) (pss_cons (ps_asg (pe_op op_add (pe_ix ix_list (pv 0) pe_int (fun _ _ => rfl)) pe_int) (pg_sub (pv 0) pe_int set_list)) (pss_cons (ps_set (i := 3) sc_law_roll.nd rfl (by first | exact Or.inl rfl | exact Or.inr rfl) (pe_op op_mod (pe_callTy call_int1 (by rfl) T.b_int bt_int (pa_cons (pe_op op_add (pe_ix ix_list (pv 0) pe_int (fun _ _ => rfl)) (pe_op op_mul pe_int (pe_ix ix_list (pv 0) pe_int (fun _ _ => rfl)))) pa_nil)) pe_int)) (pss_cons (ps_set (i := 4) sc_law_roll.nd rfl (by first | exact Or.inl rfl | exact Or.inr rfl) (pe_op op_add (pe_op op_mul (pe_op op_mod (pe_callTy call_int1 (by rfl) T.b_int bt_int (pa_cons (pe_op op_add (pe_op op_mul (pv 3) (pv 3)) (pe_op op_mul pe_int (pe_ix ix_list (pv 0) pe_int (fun _ _ => rfl)))) pa_nil)) pe_int) pe_int) (pv 3))) (pss_one (ps_ret (pe_op op_mod (pe_callTy call_int1 (by rfl) T.b_int bt_int (pa_cons (pe_op op_fdiv (pv 4) pe_int) pa_nil)) (pv 1)))))))), ?_⟩
  have no : (none : Option Addr) ≠ some p := fun z => nomatch z
  refine q_if (d := none) (P := fun _ => True) ((et_test (ev_gt (ev_ixL (ev_vL rfl (hx.ls no)) ev_int rfl) ev_int)).imp' fun _ _ => trivial) (fun _ H1 e1 => ?_) (fun _ H1 e1 => ?_)
  · replace hx := LsX.up e1 no hx
    replace h1 := up e1 h1
    refine q_set (d := none) (ev_modD (ev_int1 (ev_ixL (ev_vL rfl (hx.ls no)) ev_int rfl)) (ev_vD rfl h1) n0) fun v2 H2 e2 h2 => ?_
    replace hx := LsX.up e2 no hx
    replace h1 := up e2 h1
    refine q_setL (d := none) (n := 0) rfl no hx (show 0 < 3 by decide) (ev_divD (ev_ixL (ev_vL rfl (hx.ls no)) ev_int rfl) (ev_vD rfl h1) ⟨n0, n1⟩) fun H3 H4 e3 but t4 hx4 => ?_
    replace h2 := Dt.tk t4 _ _ h2
    refine s_ret (d := none) (ev_vD rfl h2) fun v H5 e5 g => q v H5 (ext_dice ((e1.trans e2).trans e3) ?_ hd ?_ |>.trans e5.any) ?_
    · exact but
    · exact lsx_dice hx4
    · cases g
      exact ⟨_, ⟨Int.emod_nonneg _ (by omega), Int.emod_lt_of_pos _ n0⟩, rfl⟩
  · replace hx := LsX.up e1 no hx
    replace h1 := up e1 h1
    refine q_setL (d := none) (n := 2) rfl no hx (show 2 < 3 by decide) (ev_add (ev_ixL (ev_vL rfl (hx.ls no)) ev_int rfl) ev_int) fun H3 H4 e3 but t4 hx4 => ?_
    replace h1 : D K (.int n) v1 H4 := Dt.tk t4 _ _ h1
    have hx4 : LsX K [.int a, .int b, .int (c + 1)] p H4 := hx4
    have ee : Ext (some p) H H4 := ext_dice (e1.trans e3) but hd (lsx_dice hx4)
    refine q_set (d := none) (ev_modD (j := 2305843009213693723) (ev_int1 (ev_add (ev_ixL (x := .int b) (ev_vL rfl (hx4.ls no)) ev_int rfl) (ev_mulD ev_int (ev_ixL (x := .int (c + 1)) (ev_vL rfl (hx4.ls no)) ev_int rfl) (.inl (by decide))))) ev_int (by decide)) fun v3 H5 e5 h3 => ?_
    have b1 : 0 ≤ (b + 67867979 * (c + 1)) % 2305843009213693723 := Int.emod_nonneg _ (by decide)
    have b2 : (b + 67867979 * (c + 1)) % 2305843009213693723 < 2305843009213693723 := Int.emod_lt_of_pos _ (by decide)
    generalize (b + 67867979 * (c + 1)) % 2305843009213693723 = o at h3 b1 b2
    replace hx4 := LsX.up e5 no hx4
    replace h1 := up e5 h1
    refine q_set (d := none) (ev_add (ev_mulD (ev_modD (j := 2305843009213693487) (ev_int1 (ev_add (ev_mulD (ev_vD rfl h3) (ev_vD rfl h3) (.inl ⟨by omega, by omega⟩)) (ev_mulD ev_int (ev_ixL (x := .int (c + 1)) (ev_vL rfl (hx4.ls no)) ev_int rfl) (.inl (by decide))))) ev_int (by decide)) ev_int (.inr (by decide))) (ev_vD rfl h3)) fun v4 H6 e6 h4 => ?_
    replace h1 := up e6 h1
    refine s_ret (d := none) (ev_modD (ev_int1 (ev_divD (ev_vD rfl h4) ev_int ⟨by decide, by decide⟩)) (ev_vD rfl h1) n0) fun v H7 e7 g => q v H7 (((ee.trans e5.any).trans e6.any).trans e7.any) ?_
    cases g
    exact ⟨_, ⟨Int.emod_nonneg _ (by omega), Int.emod_lt_of_pos _ n0⟩, rfl⟩
end
end Kp
set_option maxHeartbeats 410000
/-! Kp13: what the dice give: numbers, things, worlds. -/
namespace Kp
open L2 PySem PySem.Spec PyProof.Rows
section
variable {K : PySem.W.Frag} {d : Option Addr} {σ : L2.St} {H H1 H2 : Hp} {te ta tb tl : TE} {F G : Phi} {E : Ends} {tx : TS} {α β : Type} {t : TA}
theorem ev_vDc {i : Nat} {p : Addr} (h : σ[i]? = some (some (.ref p))) (hd : DOk (some p) H) : Ev (some p) (tVar i) σ H (Dc p) := ev_v h ⟨rfl, hd p rfl⟩
/-- a call whose promise is chosen when the arguments have come -/
theorem ev_callE {γ : Type} {pre : γ → Prop} {args : γ → List Phi} {res : γ → Phi} {dd : γ → Option Addr} {Fs : List Phi} (hd : DOk d H) (h : EvA d t σ H Fs) (k : ∀ vs H1, Wk d H H1 → All Fs vs H1 → ∃ a, pre a ∧ dd a = d ∧ All (args a) vs H1 ∧ ∀ v H2, res a v H2 → G v H2) : Ev d (tCall (Pr dd pre args res) [] C8.E0 t) σ H G := fun H1 e Q q =>
  h H1 e _ fun vs H2 e2 f => by
    obtain ⟨a, h1, h2, h3, h4⟩ := k vs H2 (e.on e2) f
    subst h2
    exact ⟨a, h1, hd.up (e.on e2), by rw [List.append_nil]; exact h3, fun v H3 e3 g => q v H3 (e2.trans e3) (h4 v H3 g)⟩
theorem ev_imp1 (h : Ev d te σ H F) (k : ∀ v H2, F v H2 → G v H2) : Ev d te σ H G := h.imp fun v H2 _ f => k v H2 f
theorem all_dta {Gx : PyData → Prop} : ∀ {Fs : List Phi} {vs : List V}, All Fs vs H → (∀ F ∈ Fs, ∀ v, F v H → ∃ x, Gx x ∧ Dt K H x v) → ∃ ds, ds.length = Fs.length ∧ (∀ x ∈ ds, Gx x) ∧ DtA K H ds vs
  | [], [], _, _ => ⟨[], rfl, (fun _ h => nomatch h), .nil⟩
  | F :: Fs, v :: vs, h, k => by
    obtain ⟨x, x1, x2⟩ := k F List.mem_cons_self v h.1
    obtain ⟨ds, d1, d2, d3⟩ := all_dta (Fs := Fs) (vs := vs) h.2 fun F' hF => k F' (List.mem_cons_of_mem _ hF)
    refine ⟨x :: ds, by rw [List.length_cons, List.length_cons, d1], fun y hy => ?_, .cons x2 d3⟩
    (rcases List.mem_cons.mp hy with rfl | hy)
    · exact x1
    · exact d2 y hy
  | [], _ :: _, h, _ => h.elim
  | _ :: _, [], h, _ => h.elim
theorem ev_lstN {Gx : PyData → Prop} {Fs : List Phi} (hd : DOk d H) (h : EvA d t σ H Fs) (hl : Fs.length ≤ 100000) (k : ∀ F ∈ Fs, ∀ v H, F v H → ∃ x, Gx x ∧ Dt K H x v) : Ev d (tLst t) σ H (fun v H => ∃ ds : List PyData, ds.length = Fs.length ∧ (∀ x ∈ ds, Gx x) ∧ Ls K d ds v H) := fun H1 e Q q =>
  h H1 e _ fun vs H2 e2 f => by
    obtain ⟨ds, d1, d2, d3⟩ := all_dta f fun F hF v => k F hF v H2
    exact ⟨by rw [← d3.length, d1]; exact sz_of hl, fun p hp => q _ _ (e2.trans (Ext.new hp)) ⟨ds, d1, d2, p, vs, rfl, (hd.up (e.on e2)).ne hp, upd_same, DtA.up (Ext.new (d := d) hp).wk _ _ d3⟩⟩
theorem ev_tupA {enc : β → PyData} {Gb : β → Prop} {Fs : List Phi} (h : EvA d t σ H Fs) (hl : Fs.length ≤ 100000) (k : ∀ vs H1, All Fs vs H1 → ∃ b, Gb b ∧ ∃ ds, enc b = .tuple ds ∧ DtA K H1 ds vs) : Ev d (tTup t) σ H (Any K enc Gb) := fun H1 e Q q =>
  h H1 e _ fun vs H2 e2 f => by
    obtain ⟨b, b1, ds, b2, b3⟩ := k vs H2 f
    refine ⟨by rw [all_len (Fs := []) (vs := []) f]; exact sz_of hl, fun p hp => q _ _ (e2.trans (Ext.new hp)) ⟨b, b1, ?_⟩⟩
    rw [b2]
    exact .tup (.inl (.inl upd_same)) (DtA.up (Ext.new (d := d) hp).wk _ _ b3)
/-- a comprehension whose items are one of many -/
theorem ev_lcN {wi : TI} {g : TG} {vs : List Nat} {as : List α} {Item : α → Phi} {enc : β → PyData} {Gb : β → Prop} (hd : DOk d H) (hz : as.length ≤ 40000) (hsrc : EvS d wi σ H as Item)
    (hb : ∀ a ∈ as, ∀ x H1, Wk d H H1 → Item a x H1 → ∀ Q : L2.St → Hp → Prop, (∀ σ2 H2, Ext d H1 H2 → wipe σ2 vs = wipe σ vs → Ev d te σ2 H2 (Any K enc Gb) → Q σ2 H2) → g x (wipe σ vs) H1 Q) :
    Ev d (tLc wi g tYes te vs) σ H (AnyL K d enc fun bs => bs.length = as.length ∧ ∀ b ∈ bs, Gb b) := fun H0 e0 Q q => hsrc H0 e0 _ fun J H2 e2 S => fun Dl hD => by
  let W : Nat → Nat → Hp → Prop := fun i m H' => m = as.length - i ∧ i ≤ as.length ∧ Ext d H2 H' ∧ ∃ bs : List β, bs.length = i ∧ (∀ b ∈ bs, Gb b) ∧ LsX K (bs.map enc) Dl H'
  have nd : d ≠ some Dl := ((hd.up e0).up e2.wk).ne hD
  refine ⟨W, ⟨as.length, by simp, Nat.zero_le _, Ext.new hD, [], rfl, (fun _ h => nomatch h), [], upd_same, .nil⟩, ?_⟩
  rintro i m H' ⟨rfl, hi, e', bs, hbl, hbg, hl⟩
  by_cases hlt : i < as.length
  · refine .inr ⟨S.go i H' hlt e', fun H' => W (i + 1) (as.length - (i + 1)) H', fun H'' w => ⟨_, by omega, w⟩, fun x H'' y => ?_⟩
    obtain ⟨a, ha⟩ : ∃ a, as[i]? = some a := ⟨as[i], by simp [hlt]⟩
    obtain ⟨e'', it⟩ := S.yld i a H' x H'' ha e' y
    refine hb a (List.mem_of_getElem? ha) x H'' (((e0.on e2).on e').on e'') it _ fun σ2 H3 e3 hw he => ⟨hw, et_yes (d := d) H3 (Wk.refl H3) _ fun b H4 e4 hbf => ?_⟩
    subst hbf
    rw [if_pos rfl]
    refine he H4 e4.wk _ fun v H5 e5 ⟨b, gb, fv⟩ => ?_
    have em : Ext d H' H5 := ((e''.trans e3).trans e4).trans e5
    obtain ⟨xs, l5, x5⟩ := LsX.up em nd hl
    have len : xs.length = i := by rw [← x5.length, List.length_map, hbl]
    have t5 : Tk H5 (upd H5 Dl (.lst (xs ++ [v]))) := Tk.lst l5
    refine ⟨xs, l5, sz_lt (by omega), rfl, by omega, (e'.trans em).mut hD, bs ++ [b], by rw [List.length_append, hbl]; rfl, fun c hc => ?_, xs ++ [v], upd_same, ?_⟩
    · rcases List.mem_append.mp hc with hc | hc
      · exact hbg c hc
      · rw [List.mem_singleton] at hc
        subst hc
        exact gb
    · rw [List.map_append]
      exact (DtA.tk t5 _ _ x5).snoc (Dt.tk t5 _ _ fv)
  · have e : i = as.length := by omega
    subst e
    exact .inl ⟨S.stop H' e', q _ H' (e2.trans e') ⟨bs, ⟨hbl, hbg⟩, hl.ls nd⟩⟩
/-- tuple(xs) of such a list -/
theorem ev_tupN {enc : β → PyData} {Gl : List β → Prop} (h : Ev d te σ H (AnyL K d enc Gl)) : Ev d (tCB (tupR K) (tCons te tNil)) σ H (Any K (fun bs : List β => .tuple (bs.map enc)) Gl) := fun H1 e Q q =>
  h H1 e _ fun v H2 e2 ⟨bs, g, f⟩ => by
    obtain ⟨l, xs, rfl, _, h1, h2⟩ := f
    exact ⟨l, xs, rfl, .inl ⟨.inl (.inl h1), fun p hp => q _ _ (e2.trans (Ext.new hp)) ⟨bs, g, .tup (.inl (.inl upd_same)) (DtA.up (Ext.new (d := d) hp).wk _ _ h2)⟩⟩⟩
end
section
variable {P : Program} {w : World} {K : PySem.W.Frag} {mg : Str → Option Value} {base : Heap} {CK CW gE : Addr}
theorem sc_law_pick : FnScope ["_law_dice_here", "_law_items"] ["_law_dice_here", "_law_items"] (C8.fnScope s_law_pick) := C8.fnScope_by (by decide +kernel)
abbrev sp_law_pick (K : PySem.W.Frag) : Sp := Pr (fun a : Addr × List PyData => some a.1) (fun a => 0 < a.2.length ∧ a.2.length ≤ 1000) (fun a => [Dc a.1, Ls K (some a.1) a.2]) (fun a => OneOf K a.2)
theorem c_law_pick (T : Txt K mg CK CW gE) : C8.Cal P w K mg base 2 "_law_pick" (sp_law_pick K) [] := by
  refine cal_of T.d_law_pick sc_law_pick (fun _ => rfl) fun cdv f A outer s H vs Q E hr a ha hd hA q => ?_
  obtain ⟨p, ds⟩ := a
  obtain ⟨v0, v1, rfl, h0, h1⟩ := all2 hA
  obtain ⟨rfl, _⟩ : v0 = .ref p ∧ _ := h0
  have h1 : Ls K (some p) ds v1 H := h1
  have hd : DOk (some p) H := hd
  obtain ⟨n0, n1⟩ : 0 < ds.length ∧ ds.length ≤ 1000 := ha
  refine ⟨_, (pss_one (ps_ret (pe_ix ix_list (pv 1) (C8.pe_c (c_law_roll T) hr (by decide) (by rfl) (pa_cons (pv 0) (pa_cons (pe_callB call_len_seq (by rfl) T.b_len bt_len (pa_cons (pv 1) pa_nil)) pa_nil))) (fun _ _ => rfl)))), ?_⟩
  refine s_ret (ev_op (F := Ls K (some p) ds) (ev_vL rfl h1) (ev_callD (p, (ds.length : Int)) ⟨by show 0 < (ds.length : Int); omega, by show (ds.length : Int) < 1073741824; omega⟩ rfl hd (ea_cons (ev_vDc rfl hd) (ea_cons (ev_lenL (ev_vL rfl h1) rfl) ea_nil))) fun x y H1 e a b => ?_) q
  obtain ⟨l, xs, rfl, _, l1, l2⟩ := a
  obtain ⟨i, ⟨i0, i1⟩, rfl⟩ := b
  have i1 : i < (ds.length : Int) := i1
  have lt : i.toNat < ds.length := by omega
  obtain ⟨v, g1, g2⟩ := l2.get (i := i.toNat) (x := ds[i.toNat]) (List.getElem?_eq_getElem lt)
  refine rv_now (v := v) (fun Q q => ⟨_, _, i, v, rfl, rfl, .inl (.inl l1), ?_, q⟩) ⟨_, List.getElem_mem lt, g2⟩
  have ei : i = ((i.toNat : Nat) : Int) := by omega
  rw [ei]
  exact atI_nat' g1
theorem sc_law_near : FnScope ["_law_dice_here", "_law_most"] ["_law_dice_here", "_law_most"] (C8.fnScope s_law_near) := C8.fnScope_by (by decide +kernel)
abbrev sp_law_near (K : PySem.W.Frag) : Sp := Pr (fun a : RollA => some a.1) (fun a => 0 ≤ a.2 ∧ a.2 ≤ 1000) (fun a => [Dc a.1, D K (.int a.2)]) (fun a => IntP fun r => -a.2 ≤ r ∧ r ≤ a.2)
theorem c_law_near (T : Txt K mg CK CW gE) : C8.Cal P w K mg base 2 "_law_near" (sp_law_near K) [] := by
  refine cal_of T.d_law_near sc_law_near (fun _ => rfl) fun cdv f A outer s H vs Q E hr a ha hd hA q => ?_
  obtain ⟨p, n⟩ := a
  obtain ⟨v0, v1, rfl, h0, h1⟩ := all2 hA
  obtain ⟨rfl, _⟩ : v0 = .ref p ∧ _ := h0
  have h1 : D K (.int n) v1 H := h1
  have hd : DOk (some p) H := hd
  obtain ⟨n0, n1⟩ : 0 ≤ n ∧ n ≤ 1000 := ha
  refine ⟨_, (pss_one (ps_ret (pe_op op_sub (C8.pe_c (c_law_roll T) hr (by decide) (by rfl) (pa_cons (pv 0) (pa_cons (pe_op op_add (pe_op op_mul pe_int (pv 1)) pe_int) pa_nil))) (pv 1)))), ?_⟩
  refine s_ret (ev_opP0 (ev_callD (p, 2 * n + 1) ⟨by show 0 < 2 * n + 1; omega, by show 2 * n + 1 < 1073741824; omega⟩ rfl hd (ea_cons (ev_vDc rfl hd) (ea_cons (ev_add (ev_mulD ev_int (ev_vD rfl h1) (.inl (by decide))) ev_int) ea_nil))) (ev_intP (p := fun j => j = n) (ev_vD rfl h1) rfl) fun i j hi hj => ?_) q
  obtain ⟨i0, i1⟩ : 0 ≤ i ∧ i < 2 * n + 1 := hi
  subst hj
  exact ⟨by omega, by omega⟩
theorem sc_law_kp_numbers : FnScope ["_law_dice_here", "_law_many", "_law_turn"] ["_law_dice_here", "_law_many"] (C8.fnScope s_law_kp_numbers) := C8.fnScope_by (by decide +kernel)
abbrev NumsG (n : Int) : List Int → Prop := fun ns => (ns.length : Int) = n ∧ ∀ m ∈ ns, NumOk m
abbrev sp_law_kp_numbers (K : PySem.W.Frag) : Sp := Pr (fun a : RollA => some a.1) (fun a => 0 ≤ a.2 ∧ a.2 ≤ 1000) (fun a => [Dc a.1, D K (.int a.2)]) (fun a => Any K (fun ns : List Int => .tuple (ns.map .int)) (NumsG a.2))
theorem c_law_kp_numbers (T : Txt K mg CK CW gE) : C8.Cal P w K mg base 3 "_law_kp_numbers" (sp_law_kp_numbers K) [] := by
  refine cal_of T.d_law_kp_numbers sc_law_kp_numbers (fun _ => rfl) fun cdv f A outer s H vs Q E hr a ha hd hA q => ?_
  obtain ⟨p, n⟩ := a
  obtain ⟨v0, v1, rfl, h0, h1⟩ := all2 hA
  obtain ⟨rfl, _⟩ : v0 = .ref p ∧ _ := h0
  have h1 : D K (.int n) v1 H := h1
  have hd : DOk (some p) H := hd
  obtain ⟨n0, n1⟩ : 0 ≤ n ∧ n ≤ 1000 := ha
  refine ⟨_, (pss_one (ps_ret (pe_callTy call_tuple_of (by rfl) T.b_tuple bt_tuple (pa_cons (pe_lc (own := [("_law_turn", 2)]) rfl sc_law_kp_numbers.nd (pi_range1 (by rfl) T.b_range (pa_cons (pv 1) pa_nil)) (blkOk_by (own := [("_law_turn", 2)]) (N := ["_law_dice_here", "_law_many", "_law_turn"]) (sc := C8.fnScope (topS 66)) (by decide +kernel)) (fun _ _ _ _ _ => (pg_name (i := 2) sc_law_kp_numbers.nd rfl (by first | exact Or.inl rfl | exact Or.inr rfl))) (fun _ _ _ _ _ => pts_nil) (fun _ _ _ _ _ => (C8.pe_c (c_law_pick T) hr (by decide) (by rfl) (pa_cons (pv 0) (pa_cons (pe_lst (pa_cons (C8.pe_c (c_law_near T) hr (by decide) (by rfl) (pa_cons (pv 0) (pa_cons pe_int pa_nil))) (pa_cons (C8.pe_c (c_law_near T) hr (by decide) (by rfl) (pa_cons (pv 0) (pa_cons pe_int pa_nil))) (pa_cons (pe_op op_pow pe_int pe_int) (pa_cons (pe_un un_neg (pe_op op_pow pe_int pe_int)) pa_nil))))) pa_nil))))) pa_nil)))), ?_⟩
  refine s_ret (ev_tupN (ev_imp1 (F := AnyL K (some p) PyData.int fun bs => bs.length = (List.range n.toNat).length ∧ ∀ b ∈ bs, NumOk b) (ev_lcN hd (by rw [List.length_range]; omega) (es_rng (ea_cons (ev_vD rfl h1) ea_nil) (by omega) (by omega)) fun a _ x H1 e it Q k => k _ H1 (Ext.refl H1) rfl ?_) fun v H2 ⟨bs, ⟨b1, b2⟩, f⟩ => ⟨bs, ⟨by rw [b1, List.length_range]; omega, b2⟩, f⟩)) q
  have hd1 := hd.up e
  have nr : ∀ {σ' : L2.St}, σ'[0]? = some (some (.ref p)) → Ev (some p) (tCall (sp_law_near K) [] C8.E0 (tCons (tVar 0) (tCons (tC (.int 5)) tNil))) σ' H1 (IntP NumOk) := fun h => ev_imp1 (ev_callD (p, 5) ⟨show (0 : Int) ≤ 5 by decide, show (5 : Int) ≤ 1000 by decide⟩ rfl hd1 (ea_cons (ev_vDc h hd1) (ea_cons ev_int ea_nil))) fun v H2 ⟨i, h, e⟩ => ⟨i, by
    obtain ⟨h1, h2⟩ : -5 ≤ i ∧ i ≤ 5 := h
    exact ⟨by omega, by omega⟩, e⟩
  have it2 := ev_lstN (K := K) (Gx := fun x => ∃ i, NumOk i ∧ x = .int i) (Fs := [IntP NumOk, IntP NumOk, IntP NumOk, IntP NumOk]) (σ := [some (.ref p), some v1, some x]) hd1 (ea_cons (nr rfl) (ea_cons (nr rfl) (ea_cons (ev_intP (ev_powD (i := 10) (j := 9) (K := K) ev_int ev_int ⟨by decide, by decide, by decide⟩) ⟨by decide, by decide⟩) (ea_cons (ev_intP (ev_neg (ev_powD (i := 10) (j := 9) (K := K) ev_int ev_int ⟨by decide, by decide, by decide⟩)) ⟨by decide, by decide⟩) ea_nil)))) (sml rfl) fun F hF v H2 f => by
    have e : F = IntP NumOk := by simpa using hF
    subst e
    obtain ⟨i, h, rfl⟩ := f
    exact ⟨.int i, ⟨i, h, rfl⟩, .int i⟩
  refine ev_callE hd1 (ea_cons (ev_vDc rfl hd1) (@ea_cons _ _ _ _ _ _ _ it2 ?_ ea_nil)) fun vs H2 e2 f => ?_
  · exact ⟨fun v H H' e ⟨ds, d1, d2, d3⟩ => ⟨ds, d1, d2, (inferInstance : Sta (some p) (Ls K (some p) ds)).up v H H' e d3⟩⟩
  · obtain ⟨u1, u2, rfl, f1, ds, d1, d2, d3⟩ := all2 f
    refine ⟨(p, ds), ⟨by show 0 < ds.length; rw [d1]; decide, by show ds.length ≤ 1000; rw [d1]; decide⟩, rfl, ⟨f1, d3, trivial⟩, fun v H3 ⟨x, x1, x2⟩ => ?_⟩
    obtain ⟨i, i1, rfl⟩ := d2 x x1
    exact ⟨i, i1, x2⟩
end
end Kp
set_option maxHeartbeats 410000
/-! Kp14: things and worlds that the dice give. -/
namespace Kp
open L2 PySem PySem.Spec PyProof.Rows
def wdD (x : Wd) : PyData := .tuple [.int x.tick, .int x.nid, .int x.luck, thsD x.things]
/-- a world whose next id is at most n -/
structure Wd.Sm (n : Int) (x : Wd) : Prop where
  ok : x.Ok
  le : x.nid ≤ n
section
variable {K : PySem.W.Frag} {d : Option Addr} {σ : L2.St} {H H1 H2 Hs : Hp} {te ta tb tl : TE} {F G : Phi} {E : Ends} {tx : TS} {α β : Type} {t : TA}
theorem ext_butD {p : Addr} (e : Ext d Hs H1) (hp : Hs p = none) (h : ∀ a, a ≠ p → H2 a = H1 a) : Ext d Hs H2 := fun a o ha => by
  rw [h a (ne_of_none ha hp)]
  exact e a o ha
/-- x, y = [], e -/
theorem q_parL {i j : Nat} (hd : DOk d H) (hb : ∀ H1, Ext d H H1 → Ev d tb σ H1 G) (k : ∀ p v H1, H p = none → d ≠ some p → Ext d H H1 → LsX K [] p H1 → G v H1 → tx E ((σ.set i (some (.ref p))).set j (some v)) H1) : tSeq (tPar i j (tCons (tLst tNil) (tCons tb tNil))) tx E σ H := by
  refine ⟨Nat.zero_le _, fun p hp => ?_⟩
  have e1 : Ext d H (upd H p (.lst [])) := Ext.new hp
  refine hb _ e1 _ (Wk.refl _) _ fun v H2 e2 g => ⟨_, _, rfl, k p v H2 hp (hd.ne hp) (e1.trans e2) ?_ g⟩
  exact LsX.up e2 (hd.ne hp) ⟨[], upd_same, .nil⟩
/-- for i in range(n), n one of many -/
theorem q_forRN {tr : TA} {Pn : Int → Prop} {g : TG} {tb' : TS} (h : EvA d tr σ H [IntP Pn]) (hn : ∀ n, Pn n → -40000 ≤ n ∧ n ≤ 40000)
    (k : ∀ n H1, Pn n → Ext d H H1 → ∃ I : Nat → L2.St → Hp → Prop, I 0 σ H1 ∧ (∀ (N : L2.St → Hp → Prop) bk rt i σ' H', i < n.toNat → I i σ' H' → (∀ σ' H', I (i + 1) σ' H' → N σ' H') → g (.int (i : Int)) σ' H' fun σ2 H2 => tb' { nx := N, ct := N, bk := bk, rt := rt } σ2 H2) ∧ ∀ σ' H', I n.toNat σ' H' → tx E σ' H') : tSeq (tFor (iRng1 tr) g tb') tx E σ H :=
  h H (Wk.refl H) _ fun vs H1 e1 f => by
    obtain ⟨v, rfl, n, pn, rfl⟩ := all1 f
    obtain ⟨b1, b2⟩ := hn n pn
    obtain ⟨I, i0, ib, ie⟩ := k n H1 pn e1
    refine ⟨n, rfl, by omega, by omega, for_run (E := { E with nx := tx E }) (as := List.range n.toNat) (Keep := fun _ => True) (Rl := fun a b => b = a) (Item := fun (a : Nat) v _ => v = .int (a : Int)) ⟨fun i H' _ hi => by rw [List.length_range] at hi; exact hi, fun H' _ => by rw [List.length_range]; exact Nat.le_refl _, fun i a H' x H'' ha _ y => ?_⟩ I i0 (fun _ _ _ _ => trivial) (fun i a σ' H' x H'' ha hI e it' => ?_) (fun σ' H' hI => ie σ' H' (by rw [List.length_range] at hI; exact hI))⟩
    · obtain ⟨rfl, rfl⟩ := y
      have ea : a = i := by
        rw [List.getElem?_range (by have := (List.getElem?_eq_some_iff.mp ha).1; simpa using this)] at ha
        exact (Option.some.inj ha).symm
      subst ea
      refine ⟨rfl, ?_⟩
      show V.int ((0 : Int) + (a : Int)) = _
      rw [Int.zero_add]
    · subst e it'
      have hi : i < n.toNat := by have := (List.getElem?_eq_some_iff.mp ha).1; simpa using this
      have ea : a = i := by
        rw [List.getElem?_range hi] at ha
        exact (Option.some.inj ha).symm
      subst ea
      exact ib _ _ _ a σ' _ hi hI fun _ _ h => h
/-- xs.append(e), e one of many -/
theorem q_appN {i : Nat} {p : Addr} {ds : List PyData} {enc : β → PyData} {Gb : β → Prop} (hi : σ[i]? = some (some (.ref p))) (np : d ≠ some p) (hx : LsX K ds p H) (hl : ds.length < 100000) (h : Ev d te σ H (Any K enc Gb))
    (k : ∀ b H1 H2, Gb b → Ext d H H1 → Tk H H2 → (∀ a, a ≠ p → H2 a = H1 a) → LsX K (ds ++ [enc b]) p H2 → tx E σ H2) : tSeq (tDrop (tBM K "list" rAppend (tVar i) (tCons te tNil))) tx E σ H := by
  have hx0 := hx
  obtain ⟨xs, h1, h2⟩ := hx
  refine ⟨.ref p, hi, .inl ⟨rfl, xs, .inl (.inl h1)⟩, h H (Wk.refl H) _ fun v H1 e1 ⟨b, gb, f⟩ => ?_⟩
  have l1 : H1 p = some (.lst xs) := e1.wk.lst np h1
  have t1 : Tk H1 (upd H1 p (.lst (xs ++ [v]))) := Tk.lst l1
  exact ⟨p, xs, v, rfl, rfl, l1, by rw [← h2.length]; exact sz_lt hl, k b H1 _ gb e1 (e1.wk.tk.trans t1) (fun a ha => upd_ne ha) ⟨xs ++ [v], upd_same, (DtA.tk (e1.wk.tk.trans t1) _ _ h2).snoc (Dt.tk t1 _ _ f)⟩⟩
theorem s_extN {i : Nat} {p : Addr} {ds : List PyData} {enc : β → PyData} {Gl : List β → Prop} (hi : σ[i]? = some (some (.ref p))) (np : d ≠ some p) (hx : LsX K ds p H) (hl : ds.length ≤ 1000) (hg : ∀ bs, Gl bs → bs.length ≤ 1000) (h : Ev d te σ H (AnyL K d enc Gl))
    (k : ∀ bs H1 H2, Gl bs → Ext d H H1 → Tk H H2 → (∀ a, a ≠ p → H2 a = H1 a) → LsX K (ds ++ bs.map enc) p H2 → E.nx σ H2) : tDrop (tBM K "list" rExtend (tVar i) (tCons te tNil)) E σ H := by
  obtain ⟨xs, h1, h2⟩ := hx
  refine ⟨.ref p, hi, .inl ⟨rfl, xs, .inl (.inl h1)⟩, h H (Wk.refl H) _ fun v H1 e1 ⟨bs, gb, f⟩ => ?_⟩
  obtain ⟨p', zs, rfl, _, g1, g2⟩ := f
  have l1 : H1 p = some (.lst xs) := e1.wk.lst np h1
  have t1 : Tk H1 (upd H1 p (.lst (xs ++ zs))) := Tk.lst l1
  have b1 := hg bs gb
  exact ⟨p, p', xs, zs, rfl, rfl, l1, g1, sz_of (by rw [← h2.length, ← g2.length, List.length_map]; omega), k bs H1 _ gb e1 (e1.wk.tk.trans t1) (fun a ha => upd_ne ha) ⟨xs ++ zs, upd_same, (DtA.tk (e1.wk.tk.trans t1) _ _ h2).append (DtA.tk t1 _ _ g2)⟩⟩
theorem ev_lstD {ds : List PyData} (h : EvI K d t σ H ds) (hl : ds.length ≤ 100000) (hd : DOk d H) : Ev d (tLst t) σ H (Ls K d ds) := ev_lst h hl hd
end
theorem kind1 : KindOk "hero" := ⟨by decide +kernel, by decide +kernel, by decide +kernel⟩
theorem kind2 : KindOk "coin" := ⟨by decide +kernel, by decide +kernel, by decide +kernel⟩
theorem kind3 : KindOk "a" := ⟨by decide +kernel, by decide +kernel, by decide +kernel⟩
theorem kind4 : KindOk "abcdefgh" := ⟨by decide +kernel, by decide +kernel, by decide +kernel⟩
section
variable {P : Program} {w : World} {K : PySem.W.Frag} {mg : Str → Option Value} {base : Heap} {CK CW gE : Addr}
/-- pick(dice, [..]) of ints -/
theorem ev_pick {p : Addr} {σ : L2.St} {H : Hp} {t : TA} {is : List Int} {Q : Int → Prop} (hd : DOk (some p) H) (h0 : σ[0]? = some (some (.ref p))) (h : EvI K (some p) t σ H (is.map .int)) (hl : 0 < is.length) (hl' : is.length ≤ 1000) (hq : ∀ i ∈ is, Q i) : Ev (some p) (tCall (sp_law_pick K) [] C8.E0 (tCons (tVar 0) (tCons (tLst t) tNil))) σ H (IntP Q) :=
  ev_imp1 (ev_callD (p, is.map .int) ⟨by show 0 < (is.map PyData.int).length; rw [List.length_map]; exact hl, by show (is.map PyData.int).length ≤ 1000; rw [List.length_map]; exact hl'⟩ rfl hd (ea_cons (ev_vDc h0 hd) (ea_cons (ev_lst h (by rw [List.length_map]; omega) hd) ea_nil))) fun v H2 ⟨x, x1, x2⟩ => by
    obtain ⟨i, i1, rfl⟩ := List.mem_map.mp x1
    cases x2
    exact ⟨i, hq i i1, rfl⟩
theorem sc_law_kp_thing : FnScope ["_law_dice_here", "_law_number", "_law_kind"] ["_law_dice_here", "_law_number"] (C8.fnScope s_law_kp_thing) := C8.fnScope_by (by decide +kernel)
abbrev ThG (id : Int) : Thing → Prop := fun t => t.Ok ∧ t.id = id
abbrev sp_law_kp_thing (K : PySem.W.Frag) : Sp := Pr (fun a : RollA => some a.1) (fun a => TickOk a.2) (fun a => [Dc a.1, D K (.int a.2)]) (fun a => Any K Thing.d (ThG a.2))
theorem c_law_kp_thing (T : Txt K mg CK CW gE) : C8.Cal P w K mg base 4 "_law_kp_thing" (sp_law_kp_thing K) [] := by
  refine cal_of T.d_law_kp_thing sc_law_kp_thing (fun _ => rfl) fun cdv f A outer s H vs Q E hr a ha hd hA q => ?_
  obtain ⟨p, n⟩ := a
  obtain ⟨v0, v1, rfl, h0, h1⟩ := all2 hA
  obtain ⟨rfl, _⟩ : v0 = .ref p ∧ _ := h0
  have h1 : D K (.int n) v1 H := h1
  have hd : DOk (some p) H := hd
  have ha : TickOk n := ha
  refine ⟨_, (pss_cons (ps_set (i := 2) sc_law_kp_thing.nd rfl (by first | exact Or.inl rfl | exact Or.inr rfl) (C8.pe_c (c_law_pick T) hr (by decide) (by rfl) (pa_cons (pv 0) (pa_cons (pe_lst (pa_cons pe_str (pa_cons pe_str (pa_cons pe_str (pa_cons pe_str (pa_cons pe_str pa_nil)))))) pa_nil)))) (pss_one (ps_ret (pe_tup (pa_cons (pv 1) (pa_cons (pv 2) (pa_cons (C8.pe_c (c_law_kp_numbers T) hr (by decide) (by rfl) (pa_cons (pv 0) (pa_cons (C8.pe_c (c_law_pick T) hr (by decide) (by rfl) (pa_cons (pv 0) (pa_cons (pe_lst (pa_cons pe_int (pa_cons pe_int (pa_cons pe_int (pa_cons pe_int (pa_cons pe_int pa_nil)))))) pa_nil))) pa_nil))) pa_nil))))))), ?_⟩
  refine q_set (d := some p) (F := Any K PyData.str KindOk) (ev_imp1 (ev_callD (p, [.str "hero", .str "hero", .str "coin", .str "a", .str "abcdefgh"]) ⟨show 0 < 5 by decide, show 5 ≤ 1000 by decide⟩ rfl hd (ea_cons (ev_vDc rfl hd) (ea_cons (ev_lst (ei_cons ev_str (ei_cons ev_str (ei_cons ev_str (ei_cons ev_str (ei_cons ev_str ei_nil))))) (sml rfl) hd) ea_nil))) fun v H2 ⟨x, x1, x2⟩ => ?_) fun v2 H1 e1 h2 => ?_
  · have x1 : x = .str "hero" ∨ x = .str "hero" ∨ x = .str "coin" ∨ x = .str "a" ∨ x = .str "abcdefgh" := by simpa using x1
    rcases x1 with rfl | rfl | rfl | rfl | rfl
    · exact ⟨_, kind1, x2⟩
    · exact ⟨_, kind1, x2⟩
    · exact ⟨_, kind2, x2⟩
    · exact ⟨_, kind3, x2⟩
    · exact ⟨_, kind4, x2⟩
  replace h1 := up e1 h1
  have hd1 := hd.up e1.wk
  refine s_ret (d := some p) (ev_tupA (Fs := [D K (.int n), Any K PyData.str KindOk, Any K (fun ns : List Int => .tuple (ns.map .int)) (fun ns => (1 ≤ ns.length ∧ ns.length ≤ 8) ∧ ∀ m ∈ ns, NumOk m)]) (ea_cons (ev_vD rfl h1) (ea_cons (ev_v rfl h2) (ea_cons (ev_callE (Fs := [Dc p, IntP fun i => 1 ≤ i ∧ i ≤ 8]) hd1 (ea_cons (ev_vDc rfl hd1) (ea_cons (ev_pick (is := [1, 2, 2, 3, 8]) hd1 rfl (ei_cons ev_int (ei_cons ev_int (ei_cons ev_int (ei_cons ev_int (ei_cons ev_int ei_nil))))) (by decide) (by decide) (by decide)) ea_nil)) fun vs H2 e2 f => ?_) ea_nil))) (sml rfl) fun vs H2 f => ?_) fun v H2 e2 g => q v H2 (e1.trans e2) g
  · obtain ⟨u1, u2, rfl, f1, i, ⟨i1, i8⟩, rfl⟩ := all2 f
    refine ⟨(p, i), ⟨show 0 ≤ i by omega, show i ≤ 1000 by omega⟩, rfl, ⟨f1, .int i, trivial⟩, fun v H3 ⟨ns, ⟨g1, g2⟩, g3⟩ => ⟨ns, ⟨?_, g2⟩, g3⟩⟩
    have g1 : (ns.length : Int) = i := g1
    omega
  · obtain ⟨u1, u2, u3, rfl, f1, ⟨k, k1, k2⟩, ns, ⟨n1, n2⟩, n3⟩ := all3 f
    exact ⟨⟨n, k, ns⟩, ⟨⟨ha, k1, n1.1, n1.2, n2⟩, rfl⟩, _, rfl, .cons f1 (.cons k2 (.cons n3 .nil))⟩
theorem asc_end {xs : List Int} {m : Int} : Asc (xs ++ [m]) ↔ Asc xs ∧ ∀ x ∈ xs, x < m := by
  unfold Asc
  rw [List.pairwise_append]
  constructor
  · rintro ⟨a, _, b⟩
    exact ⟨a, fun x hx => b x hx m (by simp)⟩
  · rintro ⟨a, b⟩
    refine ⟨a, List.pairwise_singleton _ _, fun x hx y hy => ?_⟩
    rw [List.mem_singleton] at hy
    subst hy
    exact b x hx
theorem asc_next {xs : List Int} {m n k : Int} (h : Asc (xs ++ [m])) (h1 : m ≤ n) (h2 : n < k) : Asc ((xs ++ [n]) ++ [k]) := by
  obtain ⟨a, b⟩ := asc_end.mp h
  refine asc_end.mpr ⟨asc_end.mpr ⟨a, fun x hx => ?_⟩, fun x hx => ?_⟩
  · have := b x hx
    omega
  · (rcases List.mem_append.mp hx with hx | hx)
    · have := b x hx
      omega
    · rw [List.mem_singleton] at hx
      omega
theorem asc_up {xs : List Int} {m n : Int} (h : Asc (xs ++ [m])) (h1 : m ≤ n) : Asc (xs ++ [n]) := by
  obtain ⟨a, b⟩ := asc_end.mp h
  exact asc_end.mpr ⟨a, fun x hx => by have := b x hx; omega⟩
theorem tick_small {n : Int} (h0 : 0 ≤ n) (h1 : n ≤ 1000000) : TickOk n := ⟨h0, Int.lt_of_le_of_lt h1 (by decide)⟩
theorem sc_law_kp_world : FnScope ["_law_dice_here", "_law_tick", "_law_most", "_law_things", "_law_number", "_law_turn"] ["_law_dice_here", "_law_tick", "_law_most"] (C8.fnScope s_law_kp_world) := C8.fnScope_by (by decide +kernel)
abbrev WorldA := Addr × Int × Int
abbrev sp_law_kp_world (K : PySem.W.Frag) : Sp := Pr (fun a : WorldA => some a.1) (fun a => TickOk a.2.1 ∧ 0 ≤ a.2.2 ∧ a.2.2 ≤ 12) (fun a => [Dc a.1, D K (.int a.2.1), D K (.int a.2.2)]) (fun a => Any K wdD (Wd.Sm 100))
theorem c_law_kp_world (T : Txt K mg CK CW gE) : C8.Cal P w K mg base 5 "_law_kp_world" (sp_law_kp_world K) [] := by
  refine cal_of T.d_law_kp_world sc_law_kp_world (fun _ => rfl) fun cdv f A outer s H vs Q E hr a ha hd hA q => ?_
  obtain ⟨p, tick, most⟩ := a
  obtain ⟨v0, v1, v2, rfl, h0, h1, h2⟩ := all3 hA
  obtain ⟨rfl, _⟩ : v0 = .ref p ∧ _ := h0
  have h1 : D K (.int tick) v1 H := h1
  have h2 : D K (.int most) v2 H := h2
  have hd : DOk (some p) H := hd
  obtain ⟨ht, m0, m12⟩ : TickOk tick ∧ 0 ≤ most ∧ most ≤ 12 := ha
  refine ⟨_, (pss_cons (ps_par (i := 3) (j := 4) rfl sc_law_kp_world.nd rfl rfl (by decide) rfl rfl (pa_cons (pe_lst pa_nil) (pa_cons pe_int pa_nil)) (by rfl)) (pss_cons (ps_for PassesOwn.never rfl (pi_range1 (by rfl) T.b_range (pa_cons (C8.pe_c (c_law_roll T) hr (by decide) (by rfl) (pa_cons (pv 0) (pa_cons (pe_op op_add (pv 2) pe_int) pa_nil))) pa_nil)) (pg_name (i := 5) sc_law_kp_world.nd rfl (by first | exact Or.inl rfl | exact Or.inr rfl)) (pss_cons (ps_set (i := 4) sc_law_kp_world.nd rfl (by first | exact Or.inl rfl | exact Or.inr rfl) (pe_op op_add (pv 4) (C8.pe_c (c_law_pick T) hr (by decide) (by rfl) (pa_cons (pv 0) (pa_cons (pe_lst (pa_cons pe_int (pa_cons pe_int (pa_cons pe_int (pa_cons pe_int pa_nil))))) pa_nil))))) (pss_cons (ps_expr (pe_bm PySem.F.plainAttrs_list PySem.F.slot_list_append PySem.F.type_list_append mt_append (pv 3) (pa_cons (C8.pe_c (c_law_kp_thing T) hr (by decide) (by rfl) (pa_cons (pv 0) (pa_cons (pv 4) pa_nil))) pa_nil))) (pss_one (ps_set (i := 4) sc_law_kp_world.nd rfl (by first | exact Or.inl rfl | exact Or.inr rfl) (pe_op op_add (pv 4) pe_int)))))) (pss_one (ps_ret (pe_tup (pa_cons (pv 1) (pa_cons (pe_op op_add (pv 4) (C8.pe_c (c_law_pick T) hr (by decide) (by rfl) (pa_cons (pv 0) (pa_cons (pe_lst (pa_cons pe_int (pa_cons pe_int (pa_cons pe_int pa_nil)))) pa_nil)))) (pa_cons (C8.pe_c (c_law_roll T) hr (by decide) (by rfl) (pa_cons (pv 0) (pa_cons pe_int pa_nil))) (pa_cons (pe_callTy call_tuple_of (by rfl) T.b_tuple bt_tuple (pa_cons (pv 3) pa_nil)) pa_nil))))))))), ?_⟩
  refine q_parL (K := K) (d := some p) (G := D K (.int 0)) hd (fun H1 e1 => ev_int) fun p3 v4 H1 n3 np e1 l3 h4 => ?_
  cases h4
  have hd1 := hd.up e1.wk
  refine q_forRN (d := some p) (Pn := fun n => 0 ≤ n ∧ n ≤ 12) (ea_cons (ev_imp1 (ev_callD (p, most + 1) ⟨show 0 < most + 1 by omega, show most + 1 < 1073741824 by omega⟩ rfl hd1 (ea_cons (ev_vDc rfl hd1) (ea_cons (ev_add (ev_vD rfl (up e1 h2)) ev_int) ea_nil))) fun v H2 ⟨i, hi, e⟩ => ⟨i, by
    obtain ⟨i0, i1⟩ : 0 ≤ i ∧ i < most + 1 := hi
    exact ⟨i0, by omega⟩, e⟩) ea_nil) (fun n h => ⟨by omega, by omega⟩) fun n H2 hn e2 => ?_
  obtain ⟨n0, n12⟩ := hn
  refine ⟨fun i σ' H' => ∃ (ts : List Thing) (m : Int) (x5 : Option V), σ' = [some (.ref p), some v1, some v2, some (.ref p3), some (.int m), x5] ∧ Ext (some p) H H' ∧ LsX K (ts.map Thing.d) p3 H' ∧ ts.length = i ∧ (∀ t ∈ ts, t.Ok) ∧ Asc (ts.map Thing.id ++ [m]) ∧ 0 ≤ m ∧ m ≤ 6 * (i : Int),
    ⟨[], 0, none, rfl, e1.trans e2, LsX.up e2 np l3, rfl, (fun _ h => nomatch h), List.pairwise_singleton _ _, by decide, by decide⟩, ?_, ?_⟩
  · rintro N bk rt i σ' H' hi ⟨ts, m, x5, rfl, g1, g2, g3, g4, g5, g6, g7⟩ hN
    have hd' := hd.up g1.wk
    have i12 : (i : Int) < 12 := by omega
    refine q_set (d := some p) (F := IntP fun k => m ≤ k ∧ k ≤ m + 5) (ev_opP0 (ev_intP (K := K) (p := fun j => j = m) (ev_vD rfl (.int m)) rfl) (ev_pick (is := [0, 0, 1, 5]) (Q := fun j => 0 ≤ j ∧ j ≤ 5) hd' rfl (ei_cons ev_int (ei_cons ev_int (ei_cons ev_int (ei_cons ev_int ei_nil)))) (by decide) (by decide) (by decide)) fun a b ha hb => by subst ha; exact ⟨by omega, by omega⟩) fun v4 H3 e3 h4 => ?_
    obtain ⟨k, ⟨k0, k5⟩, rfl⟩ := h4
    have hd3 := hd'.up e3.wk
    refine q_appN (d := some p) (ds := ts.map Thing.d) rfl np (LsX.up e3 np g2) (by rw [List.length_map]; omega) (ev_callD (p, k) (tick_small (by show 0 ≤ k; omega) (by show k ≤ 1000000; omega)) rfl hd3 (ea_cons (ev_vDc rfl hd3) (ea_cons (ev_vD rfl (.int k)) ea_nil))) fun t Ha Hb tg ea ta but l3' => ?_
    obtain ⟨tok, tid⟩ : t.Ok ∧ t.id = k := tg
    refine s_set (d := some p) (ev_add (ev_vD (K := K) rfl (.int k)) ev_int) fun v5 H5 e5 h5 => hN _ _ ?_
    cases h5
    refine ⟨ts ++ [t], k + 1, _, rfl, (ext_butD ((g1.trans e3).trans ea) n3 but).trans e5, ?_, ?_, ?_, ?_, by omega, ?_⟩
    · rw [List.map_append]
      exact LsX.up e5 np l3'
    · rw [List.length_append, g3]
      rfl
    · intro u hu
      (rcases List.mem_append.mp hu with hu | hu)
      · exact g4 u hu
      · rw [List.mem_singleton] at hu
        subst hu
        exact tok
    · rw [List.map_append]
      show Asc ((ts.map Thing.id ++ [t.id]) ++ [k + 1])
      rw [tid]
      exact asc_next g5 k0 (by omega)
    · have : ((i + 1 : Nat) : Int) = (i : Int) + 1 := rfl
      omega
  · rintro σ' H' ⟨ts, m, x5, rfl, g1, g2, g3, g4, g5, g6, g7⟩
    have hd' := hd.up g1.wk
    have l12 : ts.length ≤ 12 := by omega
    refine s_ret (d := some p) (ev_tupA (Fs := [D K (.int tick), IntP fun k => m ≤ k ∧ k ≤ 100, IntP fun k => 0 ≤ k ∧ k < 999999937, D K (thsD ts)]) (ea_cons (ev_vD rfl (up g1 h1)) (ea_cons (ev_opP0 (ev_intP (K := K) (p := fun j => j = m) (ev_vD rfl (.int m)) rfl) (ev_pick (is := [0, 1, 9]) (Q := fun j => 0 ≤ j ∧ j ≤ 9) hd' rfl (ei_cons ev_int (ei_cons ev_int (ei_cons ev_int ei_nil))) (by decide) (by decide) (by decide)) fun a b ha hb => by subst ha; exact ⟨by omega, by omega⟩) (ea_cons (ev_callD (p, 999999937) ⟨show (0 : Int) < 999999937 by decide, show (999999937 : Int) < 1073741824 by decide⟩ rfl hd' (ea_cons (ev_vDc rfl hd') (ea_cons ev_int ea_nil))) (ea_cons (ev_tupL (ev_vL rfl (g2.ls np))) ea_nil)))) (sml rfl) fun vs H2 f => ?_) fun v H3 e3 g => q v H3 (g1.trans e3) g
    obtain ⟨u1, u2, u3, u4, rfl, f1, ⟨k, ⟨k0, k1⟩, rfl⟩, ⟨r, ⟨r0, r1⟩, rfl⟩, f4⟩ := all4 f
    exact ⟨⟨tick, k, r, ts⟩, ⟨⟨ht, tick_small (by show 0 ≤ k; omega) (by show k ≤ 1000000; omega), ⟨r0, r1⟩, l12, g4, asc_up g5 k0⟩, k1⟩, _, rfl, .cons f1 (.cons (.int _) (.cons (.int _) (.cons f4 .nil)))⟩
end
end Kp
set_option maxHeartbeats 410000
/-! Kp15: near things, near worlds. -/
namespace Kp
open L2 PySem PySem.Spec PyProof.Rows
section
variable {K : PySem.W.Frag} {d : Option Addr} {σ : L2.St} {H H1 H2 Hs : Hp} {te ta tb ti : TE} {F G : Phi} {E : Ends} {tx : TS} {α β : Type} {t : TA} {tt : TT}
/-- x, y = e, list(t) -/
theorem q_parC {i j : Nat} {ds : List PyData} (hd : DOk d H) (ha : Ev d ta σ H F) [s : Sta d F] (hb : ∀ H1, Ext d H H1 → Ev d tb σ H1 (D K (.tuple ds))) (k : ∀ u p H1, H p = none → d ≠ some p → Ext d H H1 → F u H1 → LsX K ds p H1 → tx E ((σ.set i (some u)).set j (some (.ref p))) H1) : tSeq (tPar i j (tCons ta (tCons (tCB (lisR K) (tCons tb tNil)) tNil))) tx E σ H :=
  ha H (Wk.refl H) _ fun u H1 e1 f => hb H1 e1 H1 (Wk.refl H1) _ fun v H2 e2 g => by
    cases g with
    | @tup q xs _ h1 h2 =>
      refine ⟨q, xs, rfl, .inr h1, fun l hl => ⟨_, _, rfl, ?_⟩⟩
      have e12 := e1.trans e2
      exact k u l _ (e12.free hl) ((hd.up e12.wk).ne hl) (e12.trans (Ext.new hl)) (s.up u H1 _ (e2.trans (Ext.new hl)).wk f) ⟨xs, upd_same, DtA.up (Ext.new (d := d) hl).wk _ _ h2⟩
/-- xs[i] = n, both one of many -/
theorem s_setLN {j : Nat} {p : Addr} {ds : List PyData} {Px : Int → Prop} (hj : σ[j]? = some (some (.ref p))) (np : d ≠ some p) (hx : LsX K ds p H) (h : Ev d te σ H (IntP Px)) (hi : ∀ H1, Ext d H H1 → Ev d ti σ H1 (IntP fun r => 0 ≤ r ∧ r < (ds.length : Int)))
    (k : ∀ x n H1 H2, Px x → n < ds.length → Ext d H H1 → (∀ a, a ≠ p → H2 a = H1 a) → Tk H H2 → LsX K (ds.set n (.int x)) p H2 → E.nx σ H2) : tAsg te (gSub (tVar j) ti rSetL) E σ H := by
  have hx0 := hx
  obtain ⟨xs, h1, h2⟩ := hx
  refine h H (Wk.refl H) _ fun v H1 e1 ⟨x, px, ev⟩ => ⟨.ref p, hj, hi H1 e1 H1 (Wk.refl H1) _ fun u H2 e2 ⟨r, ⟨r0, r1⟩, er⟩ => ?_⟩
  subst ev er
  have e12 := e1.trans e2
  have l1 := e12.wk.lst np h1
  have er : r = ((r.toNat : Nat) : Int) := by omega
  refine ⟨p, xs, r, r.toNat, rfl, rfl, l1, ?_, ?_⟩
  · rw [← h2.length]
    generalize ds.length = n at r1
    rw [er]
    exact ixN_nat (by omega)
  · have t1 : Tk H2 (upd H2 p (.lst (xs.set r.toNat (.int x)))) := Tk.lst l1
    exact k x r.toNat H2 _ px (by omega) e12 (fun a ha => upd_ne ha) (e12.wk.tk.trans t1) ⟨_, upd_same, DtA.set (.int x) (DtA.tk (e12.wk.tk.trans t1) _ _ h2)⟩
theorem ev_ifN {P : Bool → Prop} (h : EvT d tt σ H P) (h1 : Ev d ta σ H F) (h2 : Ev d tb σ H F) : Ev d (tIf tt ta tb) σ H F := fun H1 e Q q => h H1 e _ fun c H2 e2 f => by
  cases c with
  | true => exact h1 H2 (e.on e2) Q fun v H3 e3 k => q v H3 (e2.trans e3) k
  | false => exact h2 H2 (e.on e2) Q fun v H3 e3 k => q v H3 (e2.trans e3) k
/-- n == k, n one of many -/
theorem et_eqP {Pn : Int → Prop} {i : Int} (ha : Ev d ta σ H (IntP Pn)) (hb : Ev d tb σ H (D K (.int i))) : EvT d (tTest (tOp (rEqD K) ta tb)) σ H (fun _ => True) := fun H1 e Q q =>
  ha H1 e _ fun v H2 e2 ⟨j, _, ej⟩ => hb H2 (e.on e2) _ fun u H3 e3 g => by
    subst ej
    cases g
    exact ⟨.int j, .int i, .int j, .int i, shaped_int j, shaped_int i, _, rfl, q _ H3 (e2.trans e3) trivial⟩
theorem Ls.any {enc : β → PyData} {bs : List β} {Gl : List β → Prop} {v : V} (h : Ls K d (bs.map enc) v H) (g : Gl bs) : AnyL K d enc Gl v H := ⟨bs, g, h⟩
end
section
variable {P : Program} {w : World} {K : PySem.W.Frag} {mg : Str → Option Value} {base : Heap} {CK CW gE : Addr}
theorem ev_roll {p : Addr} {σ : L2.St} {H : Hp} {te : TE} {n : Int} (hd : DOk (some p) H) (h0 : σ[0]? = some (some (.ref p))) (h : Ev (some p) te σ H (D K (.int n))) (n0 : 0 < n) (n1 : n < 1073741824) : Ev (some p) (tCall (sp_law_roll K) [] C8.E0 (tCons (tVar 0) (tCons te tNil))) σ H (IntP fun r => 0 ≤ r ∧ r < n) :=
  ev_callD (p, n) ⟨n0, n1⟩ rfl hd (ea_cons (ev_vDc h0 hd) (ea_cons h ea_nil))
theorem sc_law_kp_near_thing : FnScope ["_law_dice_here", "_law_thing", "_law_way", "_law_numbers"] ["_law_dice_here", "_law_thing"] (C8.fnScope s_law_kp_near_thing) := C8.fnScope_by (by decide +kernel)
abbrev NearG (id : Int) : List Thing → Prop := fun ts => ts = [] ∨ ∃ t, ts = [t] ∧ t.Ok ∧ t.id = id
abbrev sp_law_kp_near_thing (K : PySem.W.Frag) : Sp := Pr (fun a : Addr × Thing => some a.1) (fun a => a.2.Ok) (fun a => [Dc a.1, D K a.2.d]) (fun a => AnyL K (some a.1) Thing.d (NearG a.2.id))
theorem c_law_kp_near_thing (T : Txt K mg CK CW gE) : C8.Cal P w K mg base 5 "_law_kp_near_thing" (sp_law_kp_near_thing K) [] := by
  refine cal_of T.d_law_kp_near_thing sc_law_kp_near_thing (fun _ => rfl) fun cdv f A outer s H vs Q E hr a ha hd hA q => ?_
  obtain ⟨p, t⟩ := a
  obtain ⟨v0, v1, rfl, h0, h1⟩ := all2 hA
  obtain ⟨rfl, _⟩ : v0 = .ref p ∧ _ := h0
  have h1 : D K t.d v1 H := h1
  have hd : DOk (some p) H := hd
  have ha : t.Ok := ha
  have n1 := ha.n1
  have n8 := ha.n8
  refine ⟨_, (pss_cons (ps_par (i := 2) (j := 3) rfl sc_law_kp_near_thing.nd rfl rfl (by decide) rfl rfl (pa_cons (C8.pe_c (c_law_roll T) hr (by decide) (by rfl) (pa_cons (pv 0) (pa_cons pe_int pa_nil))) (pa_cons (pe_callTy call_list_of (by rfl) T.b_list bt_list (pa_cons (pe_ix ix_tup (pv 1) pe_int (fun _ _ => rfl)) pa_nil)) pa_nil)) (by rfl)) (pss_cons (ps_if (pt_cmpR (op_eqD hr.units) (pv 2) pe_int (nomark _)) (pss_one (ps_ret (pe_lst pa_nil))) pss_nil) (pss_cons (ps_if (pt_cmpR (op_eqD hr.units) (pv 2) pe_int (nomark _)) (pss_one (ps_ret (pe_lst (pa_cons (C8.pe_c (c_law_kp_thing T) hr (by decide) (by rfl) (pa_cons (pv 0) (pa_cons (pe_ix ix_tup (pv 1) pe_int (fun _ _ => rfl)) pa_nil))) pa_nil)))) pss_nil) (pss_cons (ps_if (pt_cmpR op_lt (pv 2) pe_int (nomark _)) (pss_one (ps_asg (C8.pe_c (c_law_near T) hr (by decide) (by rfl) (pa_cons (pv 0) (pa_cons pe_int pa_nil))) (pg_sub (pv 3) (C8.pe_c (c_law_roll T) hr (by decide) (by rfl) (pa_cons (pv 0) (pa_cons (pe_callB call_len_seq (by rfl) T.b_len bt_len (pa_cons (pv 3) pa_nil)) pa_nil))) set_list))) pss_nil) (pss_one (ps_ret (pe_lst (pa_cons (pe_tup (pa_cons (pe_ix ix_tup (pv 1) pe_int (fun _ _ => rfl)) (pa_cons (pe_ix ix_tup (pv 1) pe_int (fun _ _ => rfl)) (pa_cons (pe_callTy call_tuple_of (by rfl) T.b_tuple bt_tuple (pa_cons (pv 3) pa_nil)) pa_nil)))) pa_nil)))))))), ?_⟩
  refine q_parC (d := some p) (ds := t.nums.map .int) hd (ev_callD (p, 6) ⟨show (0 : Int) < 6 by decide, show (6 : Int) < 1073741824 by decide⟩ rfl hd (ea_cons (ev_vDc rfl hd) (ea_cons ev_int ea_nil))) (fun H1 e1 => at2 (ev_d3 (ev_vD rfl (up e1 h1)))) fun u p3 H1 n3 np e1 hw l3 => ?_
  obtain ⟨way, ⟨w0, w6⟩, rfl⟩ := hw
  replace h1 := up e1 h1
  have hd1 := hd.up e1.wk
  refine q_if (d := some p) (et_test (ev_eqI (ev_vD (K := K) rfl (.int way)) ev_int)) (fun _ H2 e2 => ?_) (fun _ H2 e2 => ?_)
  · exact s_ret (d := some p) (ev_lst ei_nil (sml rfl) (hd1.up e2.wk)) fun v H3 e3 g => q v H3 ((e1.trans e2).trans e3) (Ls.any (bs := []) g (.inl rfl))
  replace h1 := up e2 h1
  replace l3 := LsX.up e2 np l3
  have hd2 := hd1.up e2.wk
  refine q_if (d := some p) (et_test (ev_eqI (ev_vD (K := K) rfl (.int way)) ev_int)) (fun _ H3 e3 => ?_) (fun _ H3 e3 => ?_)
  · have hd3 := hd2.up e3.wk
    refine s_ret (d := some p) (ev_lstN (K := K) (Gx := fun x => ∃ u : Thing, (u.Ok ∧ u.id = t.id) ∧ x = u.d) (Fs := [Any K Thing.d (ThG t.id)]) hd3 (ea_cons (ev_callD (p, t.id) ha.id rfl hd3 (ea_cons (ev_vDc rfl hd3) (ea_cons (at0 (ev_d3 (ev_vD rfl (up e3 h1)))) ea_nil))) ea_nil) (sml rfl) fun F hF v H4 f => ?_) fun v H4 e4 ⟨ds, d1, d2, d3⟩ => q v H4 (((e1.trans e2).trans e3).trans e4) ?_
    · have e : F = Any K Thing.d (ThG t.id) := by simpa using hF
      subst e
      obtain ⟨u, u1, u2⟩ := f
      exact ⟨_, ⟨u, u1, rfl⟩, u2⟩
    · obtain ⟨x, rfl⟩ : ∃ x, ds = [x] := List.length_eq_one_iff.mp d1
      obtain ⟨u, u1, rfl⟩ := d2 x List.mem_cons_self
      exact Ls.any (bs := [u]) d3 (.inr ⟨u, rfl, u1⟩)
  replace h1 := up e3 h1
  replace l3 := LsX.up e3 np l3
  have hd3 := hd2.up e3.wk
  have e123 := (e1.trans e2).trans e3
  have fin : ∀ (ns : List Int) (H' : Hp), Ext (some p) H H' → D K t.d v1 H' → LsX K (ns.map .int) p3 H' → ns.length = t.nums.length → (∀ n ∈ ns, NumOk n) → Ext (some p) H H' →
      tRet (tLst (tCons (tTup (tCons (tOp (rIxT K) (tVar 1) (tC (.int 0))) (tCons (tOp (rIxT K) (tVar 1) (tC (.int 1))) (tCons (tCB (tupR K) (tCons (tVar 3) tNil)) tNil)))) tNil)) { nx := fun _ H' => Q .non H', rt := Q } [some (.ref p), some v1, some (.int way), some (.ref p3)] H' := by
    intro ns H' e h1 l3 hl hn _
    refine s_ret (d := some p) (ev_lst (ei_cons (ev_tup (ei_cons (at0 (ev_d3 (ev_vD rfl h1))) (ei_cons (at1 (ev_d3 (ev_vD rfl h1))) (ei_cons (ev_tupL (ev_vL rfl (l3.ls np))) ei_nil))) (sml rfl)) ei_nil) (sml rfl) (hd.up e.wk)) fun v H4 e4 g => q v H4 (e.trans e4) (Ls.any (bs := [(⟨t.id, t.kind, ns⟩ : Thing)]) g (.inr ⟨_, rfl, ⟨ha.id, ha.kind, by show 1 ≤ ns.length; omega, by show ns.length ≤ 8; omega, hn⟩, rfl⟩))
  refine q_if (d := some p) (et_test (ev_lt (ev_vD (K := K) rfl (.int way)) ev_int)) (fun _ H4 e4 => ?_) (fun _ H4 e4 => ?_)
  · have hd4 := hd3.up e4.wk
    refine s_setLN (d := some p) (Px := fun r => -6 ≤ r ∧ r ≤ 6) rfl np (LsX.up e4 np l3) (ev_callD (p, 6) ⟨show (0 : Int) ≤ 6 by decide, show (6 : Int) ≤ 1000 by decide⟩ rfl hd4 (ea_cons (ev_vDc rfl hd4) (ea_cons ev_int ea_nil))) (fun H5 e5 => ev_callD (p, ((t.nums.map PyData.int).length : Int)) ⟨by show 0 < ((t.nums.map PyData.int).length : Int); rw [List.length_map]; omega, by show ((t.nums.map PyData.int).length : Int) < 1073741824; rw [List.length_map]; omega⟩ rfl (hd4.up e5.wk) (ea_cons (ev_vDc rfl (hd4.up e5.wk)) (ea_cons (ev_lenL (ev_vL rfl ((LsX.up (e4.trans e5) np l3).ls np)) rfl) ea_nil))) fun x n Ha Hb px hn ea but ta l3' => ?_
    have ee := (e123.trans e4).trans ea
    have eb : Ext (some p) H Hb := ext_butD ee n3 but
    refine fin (t.nums.set n x) Hb eb (Dt.tk ta _ _ (up e4 h1)) ?_ (List.length_set) (fun m hm => ?_) eb
    · rw [List.map_set]
      exact l3'
    · rcases List.mem_or_eq_of_mem_set hm with hm | rfl
      · exact ha.nums m hm
      · exact ⟨by omega, by omega⟩
  · exact fin t.nums H4 (e123.trans e4) (up e4 h1) (LsX.up e4 np l3) rfl ha.nums (e123.trans e4)
theorem sc_law_kp_near : FnScope ["_law_dice_here", "_law_world", "_law_tick", "_law_things", "_law_ahead", "_law_thing", "_law_turn"] ["_law_dice_here", "_law_world", "_law_tick"] (C8.fnScope s_law_kp_near) := C8.fnScope_by (by decide +kernel)
structure NearA where
  p : Addr
  x : Wd
  tick : Int
  n : Int
theorem wdd {x : Wd} {d : Option Addr} {σ : L2.St} {te : TE} {H : Hp} (h : Ev d te σ H (D K (wdD x))) : Ev d te σ H (D K (.tuple [.int x.tick, .int x.nid, .int x.luck, .tuple (x.things.map Thing.d)])) := h
theorem wd0 {x : Wd} {d : Option Addr} {σ : L2.St} {te : TE} {H : Hp} (h : Ev d te σ H (D K (wdD x))) : Ev d (tOp (rIxT K) te (tC (.int 0))) σ H (D K (.int x.tick)) := ev_ixT (wdd h) ev_int rfl
theorem wd1 {x : Wd} {d : Option Addr} {σ : L2.St} {te : TE} {H : Hp} (h : Ev d te σ H (D K (wdD x))) : Ev d (tOp (rIxT K) te (tC (.int 1))) σ H (D K (.int x.nid)) := ev_ixT (wdd h) ev_int rfl
theorem wd2 {x : Wd} {d : Option Addr} {σ : L2.St} {te : TE} {H : Hp} (h : Ev d te σ H (D K (wdD x))) : Ev d (tOp (rIxT K) te (tC (.int 2))) σ H (D K (.int x.luck)) := ev_ixT (wdd h) ev_int rfl
theorem wd3 {x : Wd} {d : Option Addr} {σ : L2.St} {te : TE} {H : Hp} (h : Ev d te σ H (D K (wdD x))) : Ev d (tOp (rIxT K) te (tC (.int 3))) σ H (D K (.tuple (x.things.map Thing.d))) := ev_ixT (wdd h) ev_int rfl
abbrev sp_law_kp_near (K : PySem.W.Frag) : Sp := Pr (fun a : NearA => some a.p) (fun a => a.x.Sm a.n ∧ a.n ≤ 1000 ∧ TickOk a.tick) (fun a => [Dc a.p, D K (wdD a.x), D K (.int a.tick)]) (fun a => Any K wdD (Wd.Sm (a.n + 6)))
theorem c_law_kp_near (T : Txt K mg CK CW gE) : C8.Cal P w K mg base 6 "_law_kp_near" (sp_law_kp_near K) [] := by
  refine cal_of T.d_law_kp_near sc_law_kp_near (fun _ => rfl) fun cdv f A outer s H vs Q E hr a ha hd hA q => ?_
  obtain ⟨p, x, tick, n⟩ := a
  obtain ⟨v0, v1, v2, rfl, h0, h1, h2⟩ := all3 hA
  obtain ⟨rfl, _⟩ : v0 = .ref p ∧ _ := h0
  have h1 : D K (wdD x) v1 H := h1
  have h2 : D K (.int tick) v2 H := h2
  have hd : DOk (some p) H := hd
  obtain ⟨⟨hx, hxn⟩, hn, ht⟩ : x.Sm n ∧ n ≤ 1000 ∧ TickOk tick := ha
  have few := hx.ths.few
  have nid0 := hx.nid.1
  refine ⟨_, (pss_cons (ps_par (i := 3) (j := 4) rfl sc_law_kp_near.nd rfl rfl (by decide) rfl rfl (pa_cons (pe_lst pa_nil) (pa_cons (pe_ix ix_tup (pv 1) pe_int (fun _ _ => rfl)) pa_nil)) (by rfl)) (pss_cons (ps_for PassesOwn.never rfl (pi_tup (pe_ix ix_tup (pv 1) pe_int (fun _ _ => rfl))) (pg_name (i := 5) sc_law_kp_near.nd rfl (by first | exact Or.inl rfl | exact Or.inr rfl)) (pss_one (ps_expr (pe_bm PySem.F.plainAttrs_list PySem.F.slot_list_extend PySem.F.type_list_extend mt_extend (pv 3) (pa_cons (pe_ifExp (pt_cmpR (op_eqD hr.units) (C8.pe_c (c_law_roll T) hr (by decide) (by rfl) (pa_cons (pv 0) (pa_cons pe_int pa_nil))) pe_int (nomark _)) (C8.pe_c (c_law_kp_near_thing T) hr (by decide) (by rfl) (pa_cons (pv 0) (pa_cons (pv 5) pa_nil))) (pe_lst (pa_cons (pv 5) pa_nil))) pa_nil))))) (pss_cons (ps_for PassesOwn.never rfl (pi_range1 (by rfl) T.b_range (pa_cons (C8.pe_c (c_law_pick T) hr (by decide) (by rfl) (pa_cons (pv 0) (pa_cons (pe_lst (pa_cons pe_int (pa_cons pe_int (pa_cons pe_int (pa_cons pe_int pa_nil))))) pa_nil))) pa_nil)) (pg_name (i := 6) sc_law_kp_near.nd rfl (by first | exact Or.inl rfl | exact Or.inr rfl)) (pss_one (ps_if (pt_cmpR op_lt (pe_callB call_len_seq (by rfl) T.b_len bt_len (pa_cons (pv 3) pa_nil)) pe_int (nomark _)) (pss_cons (ps_expr (pe_bm PySem.F.plainAttrs_list PySem.F.slot_list_append PySem.F.type_list_append mt_append (pv 3) (pa_cons (C8.pe_c (c_law_kp_thing T) hr (by decide) (by rfl) (pa_cons (pv 0) (pa_cons (pv 4) pa_nil))) pa_nil))) (pss_one (ps_set (i := 4) sc_law_kp_near.nd rfl (by first | exact Or.inl rfl | exact Or.inr rfl) (pe_op op_add (pe_op op_add (pv 4) pe_int) (C8.pe_c (c_law_roll T) hr (by decide) (by rfl) (pa_cons (pv 0) (pa_cons pe_int pa_nil))))))) pss_nil))) (pss_one (ps_ret (pe_tup (pa_cons (pv 2) (pa_cons (pv 4) (pa_cons (C8.pe_c (c_law_pick T) hr (by decide) (by rfl) (pa_cons (pv 0) (pa_cons (pe_lst (pa_cons (pe_ix ix_tup (pv 1) pe_int (fun _ _ => rfl)) (pa_cons (C8.pe_c (c_law_roll T) hr (by decide) (by rfl) (pa_cons (pv 0) (pa_cons pe_int pa_nil))) pa_nil))) pa_nil))) (pa_cons (pe_callTy call_tuple_of (by rfl) T.b_tuple bt_tuple (pa_cons (pv 3) pa_nil)) pa_nil)))))))))), ?_⟩
  refine q_parL (K := K) (d := some p) (G := D K (.int x.nid)) hd (fun H1 e1 => wd1 (ev_vD rfl (up e1 h1))) fun p3 v4 H1 n3 np e1 l3 h4 => ?_
  cases h4
  refine q_forT (d := some p) (enc := Thing.d) (wd3 (ev_vD rfl (up e1 h1))).one fun H2 e2 => ?_
  refine ⟨fun i σ' H' => ∃ (ts : List Thing) (x5 : Option V), σ' = [some (.ref p), some v1, some v2, some (.ref p3), some (.int x.nid), x5, none] ∧ Ext (some p) H H' ∧ Tk H2 H' ∧ LsX K (ts.map Thing.d) p3 H' ∧ (∀ t ∈ ts, t.Ok) ∧ (ts.map Thing.id).Sublist ((x.things.take i).map Thing.id),
    ⟨[], none, rfl, e1.trans e2, fun _ _ h => h, LsX.up e2 np l3, (fun _ h => nomatch h), List.nil_sublist _⟩, fun i σ' H' ⟨ts, x5, h⟩ => h.2.2.1, ?_, ?_⟩
  · rintro N bk rt i t σ' H' y hti ⟨ts, x5, rfl, g1, g2, g3, g4, g5⟩ hy hN
    have hd' := hd.up g1.wk
    have tok : t.Ok := hx.ths.ok t (List.mem_of_getElem? hti)
    have lts : ts.length ≤ 12 := by
      have z := g5.length_le
      rw [List.length_map, List.length_map, List.length_take] at z
      omega
    refine s_extN (d := some p) (enc := Thing.d) (Gl := NearG t.id) (ds := ts.map Thing.d) rfl np g3 (by rw [List.length_map]; omega) (fun bs hb => by rcases hb with rfl | ⟨u, rfl, _⟩; exact Nat.zero_le _; exact (by decide : 1 ≤ 1000)) (ev_ifN (et_eqP (ev_callD (p, 2) ⟨show (0 : Int) < 2 by decide, show (2 : Int) < 1073741824 by decide⟩ rfl hd' (ea_cons (ev_vDc rfl hd') (ea_cons ev_int ea_nil))) ev_int) (ev_callD (p, t) tok rfl hd' (ea_cons (ev_vDc rfl hd') (ea_cons (ev_vD rfl hy) ea_nil))) (ev_imp1 (ev_lst (ei_cons (ev_vD rfl hy) ei_nil) (sml rfl) hd') fun v H3 f => Ls.any (bs := [t]) f (.inr ⟨t, rfl, tok, rfl⟩))) fun bs Ha Hb gb ea ta but l3' => hN _ _ ⟨ts ++ bs, _, rfl, ext_butD (g1.trans ea) n3 but, g2.trans ta, ?_, ?_, ?_⟩
    · rw [List.map_append]
      exact l3'
    · intro u hu
      (rcases List.mem_append.mp hu with hu | hu)
      · exact g4 u hu
      · rcases gb with rfl | ⟨u', rfl, u1, u2⟩
        · cases hu
        · rw [List.mem_singleton] at hu
          subst hu
          exact u1
    · have tk : x.things.take (i + 1) = x.things.take i ++ [t] := by rw [List.take_add_one, hti]; rfl
      rw [tk, List.map_append, List.map_append]
      refine g5.append ?_
      rcases gb with rfl | ⟨u', rfl, u1, u2⟩
      · exact List.nil_sublist _
      · show [u'.id].Sublist [t.id]
        rw [u2]
        exact List.Sublist.refl _
  · rintro σ' H' ⟨ts, x5, rfl, g1, g2, g3, g4, g5⟩
    rw [List.take_length] at g5
    have hd' := hd.up g1.wk
    have lts : ts.length ≤ 12 := by
      have z := g5.length_le
      rw [List.length_map, List.length_map] at z
      omega
    have asc : Asc (ts.map Thing.id ++ [x.nid]) := hx.ths.asc.sublist (g5.append (List.Sublist.refl _))
    refine q_forRN (d := some p) (Pn := fun n => 0 ≤ n ∧ n ≤ 2) (ea_cons (ev_pick (is := [0, 0, 1, 2]) hd' rfl (ei_cons ev_int (ei_cons ev_int (ei_cons ev_int (ei_cons ev_int ei_nil)))) (by decide) (by decide) (by decide)) ea_nil) (fun n h => ⟨by omega, by omega⟩) fun m H3 hm e3 => ?_
    obtain ⟨m0, m2⟩ := hm
    refine ⟨fun i σ' H' => ∃ (ts : List Thing) (k : Int) (x5 x6 : Option V), σ' = [some (.ref p), some v1, some v2, some (.ref p3), some (.int k), x5, x6] ∧ Ext (some p) H H' ∧ LsX K (ts.map Thing.d) p3 H' ∧ ts.length ≤ 12 ∧ (∀ t ∈ ts, t.Ok) ∧ Asc (ts.map Thing.id ++ [k]) ∧ x.nid ≤ k ∧ k ≤ x.nid + 3 * (i : Int),
      ⟨ts, x.nid, _, _, rfl, g1.trans e3, LsX.up e3 np g3, lts, g4, asc, Int.le_refl _, by omega⟩, ?_, ?_⟩
    · rintro N bk rt i σ' H' hi ⟨ts, k, x5, x6, rfl, g1, g3, g4, g5, g6, g7, g8⟩ hN
      have hd' := hd.up g1.wk
      have i2 : (i : Int) < 2 := by omega
      refine s_if (d := some p) (et_test (ev_lt (ev_lenL (ev_vL rfl (g3.ls np)) rfl) ev_int)) (fun hP H4 e4 => ?_) (fun hP H4 e4 => ?_)
      · have lt : ts.length < 12 := by
          have hP : true = decide (((ts.map Thing.d).length : Int) < 12) := hP
          have := of_decide_eq_true hP.symm
          rw [List.length_map] at this
          omega
        have hd4 := hd'.up e4.wk
        refine q_appN (d := some p) (ds := ts.map Thing.d) rfl np (LsX.up e4 np g3) (by rw [List.length_map]; omega) (ev_callD (p, k) (tick_small (by show 0 ≤ k; omega) (by show k ≤ 1000000; omega)) rfl hd4 (ea_cons (ev_vDc rfl hd4) (ea_cons (ev_vD rfl (.int k)) ea_nil))) fun t Ha Hb tg ea ta but l3' => ?_
        obtain ⟨tok, tid⟩ : t.Ok ∧ t.id = k := tg
        have eb : Ext (some p) H Hb := ext_butD ((g1.trans e4).trans ea) n3 but
        have hdb := hd.up eb.wk
        refine s_set (d := some p) (F := IntP fun r => k + 1 ≤ r ∧ r ≤ k + 3) (ev_opP0 (ev_intP (K := K) (p := fun j => j = k + 1) (ev_add (ev_vD rfl (.int k)) ev_int) rfl) (ev_callD (p, 2) ⟨show (0 : Int) < 2 by decide, show (2 : Int) < 1073741824 by decide⟩ rfl hdb (ea_cons (ev_vDc rfl hdb) (ea_cons ev_int ea_nil))) fun a b ha hb => by
          subst ha
          obtain ⟨b0, b1⟩ : 0 ≤ b ∧ b < 2 := hb
          exact ⟨by omega, by omega⟩) fun v5 H5 e5 h5 => ?_
        obtain ⟨r, ⟨r0, r1⟩, rfl⟩ := h5
        refine hN _ _ ⟨ts ++ [t], r, _, _, rfl, eb.trans e5, ?_, ?_, ?_, ?_, by omega, ?_⟩
        · rw [List.map_append]
          exact LsX.up e5 np l3'
        · rw [List.length_append]
          show ts.length + 1 ≤ 12
          omega
        · intro u hu
          (rcases List.mem_append.mp hu with hu | hu)
          · exact g5 u hu
          · rw [List.mem_singleton] at hu
            subst hu
            exact tok
        · rw [List.map_append]
          show Asc ((ts.map Thing.id ++ [t.id]) ++ [r])
          rw [tid]
          exact asc_next g6 (Int.le_refl k) (by omega)
        · have : ((i + 1 : Nat) : Int) = (i : Int) + 1 := rfl
          omega
      · refine hN _ _ ⟨ts, k, _, _, rfl, g1.trans e4, LsX.up e4 np g3, g4, g5, g6, g7, ?_⟩
        have : ((i + 1 : Nat) : Int) = (i : Int) + 1 := rfl
        omega
    · rintro σ' H' ⟨ts, k, x5, x6, rfl, g1, g3, g4, g5, g6, g7, g8⟩
      have hd' := hd.up g1.wk
      have lk := hx.luck
      have it2 := ev_lstN (K := K) (Gx := fun y => ∃ i, LuckOk i ∧ y = .int i) (Fs := [IntP LuckOk, IntP LuckOk]) (σ := [some (.ref p), some v1, some v2, some (.ref p3), some (.int k), x5, x6]) hd' (ea_cons (ev_intP (wd2 (ev_vD (i := 1) rfl (up g1 h1))) lk) (ea_cons (F := IntP LuckOk) (ev_roll (K := K) hd' rfl ev_int (by decide) (by decide)) ea_nil)) (sml rfl) fun F hF v H2 f => by
        have e : F = IntP LuckOk := by simpa using hF
        subst e
        obtain ⟨i, h, rfl⟩ := f
        exact ⟨.int i, ⟨i, h, rfl⟩, .int i⟩
      have stable : Sta (some p) (fun v H => ∃ ds : List PyData, ds.length = [IntP LuckOk, IntP LuckOk].length ∧ (∀ y ∈ ds, ∃ i, LuckOk i ∧ y = .int i) ∧ Ls K (some p) ds v H) := ⟨fun v H H' e ⟨ds, d1, d2, d3⟩ => ⟨ds, d1, d2, (inferInstance : Sta (some p) (Ls K (some p) ds)).up v H H' e d3⟩⟩
      refine s_ret (d := some p) (ev_tupA (Fs := [D K (.int tick), D K (.int k), IntP LuckOk, D K (thsD ts)]) (ea_cons (ev_vD rfl (up g1 h2)) (ea_cons (ev_vD rfl (.int k)) (ea_cons (ev_callE hd' (ea_cons (ev_vDc rfl hd') (@ea_cons _ _ _ _ _ _ _ it2 stable ea_nil)) fun vs H2 e2 f => ?_) (ea_cons (ev_tupL (ev_vL rfl (g3.ls np))) ea_nil)))) (sml rfl) fun vs H2 f => ?_) fun v H3 e3 g => q v H3 (g1.trans e3) g
      · obtain ⟨u1, u2, rfl, f1, ds, d1, d2, d3⟩ := all2 f
        refine ⟨(p, ds), ⟨by show 0 < ds.length; rw [d1]; decide, by show ds.length ≤ 1000; rw [d1]; decide⟩, rfl, ⟨f1, d3, trivial⟩, fun v H3 ⟨y, y1, y2⟩ => ?_⟩
        obtain ⟨i, i1, rfl⟩ := d2 y y1
        cases y2
        exact ⟨i, i1, rfl⟩
      · obtain ⟨u1, u2, u3, u4, rfl, f1, f2, ⟨r, r0, rfl⟩, f4⟩ := all4 f
        have mm : ((m.toNat : Nat) : Int) = m := by omega
        refine ⟨⟨tick, k, r, ts⟩, ⟨⟨ht, tick_small (by show 0 ≤ k; omega) (by show k ≤ 1000000; omega), r0, g4, g5, g6⟩, ?_⟩, _, rfl, .cons f1 (.cons f2 (.cons (.int _) (.cons f4 .nil)))⟩
        show k ≤ n + 6
        omega
end
end Kp
set_option maxHeartbeats 410000
/-! Kp16: _law_kp_real, _law_kp_by_ids, _law_kp_size. -/
namespace Kp
open L2 PySem PySem.Spec PyProof.Rows
section
variable {K : PySem.W.Frag} {d : Option Addr} {σ : L2.St} {H : Hp} {te : TE} {t : TA}
theorem pairs_of {K : PySem.W.Frag} {H : Hp} : ∀ {m : List (Int × PyData)} {xs : List V}, DtA K H (m.map fun p => .tuple [.int p.1, p.2]) xs → ∃ (ps : List Addr) (kvs : List (Key × V)), xs = ps.map V.ref ∧ Paired (fun p kv => SqT K H p [kV kv.1, kv.2]) ps kvs ∧ DtK K H m kvs
  | [], _, .nil => ⟨[], [], rfl, .nil, .nil⟩
  | p :: m, _, .cons h t => by
    obtain ⟨ps, kvs, e1, e2, e3⟩ := pairs_of t
    cases h with
    | @tup a ys _ h1 h2 =>
      cases h2 with
      | cons a1 h2 =>
        cases a1
        cases h2 with
        | cons a2 h2 =>
          cases h2
          exact ⟨a :: ps, (.inl p.1, _) :: kvs, by rw [e1]; rfl, .cons h1 e2, .cons a2 e3⟩
theorem merge_all {K : PySem.W.Frag} {H : Hp} : ∀ {ps : List (Int × PyData)} {rs : List (Key × V)} {m : List (Int × PyData)} {kvs : List (Key × V)}, DtK K H ps rs → DtK K H m kvs → DtK K H (putAll m ps) (mergeK kvs rs)
  | _, _, _, _, .nil, h => h
  | (k, x) :: ps, (_, v) :: rs, m, kvs, .cons a b, h => by
    show DtK K H (putAll (putD m k x) ps) (mergeK (putK kvs (.inl k) v) rs)
    exact merge_all b (DtK.put h a)
abbrev dictR (K : PySem.W.Frag) : List V → Hp → VK → Prop := fun xs H Q => ∃ (a : Addr) (ps : List Addr) (kvs : List (Key × V)), xs = [V.ref a] ∧ SqL K H a (ps.map V.ref) ∧ Paired (fun p kv => SqT K H p [kV kv.1, kv.2]) ps kvs ∧ ∀ p, H p = none → Q (.ref p) (upd H p (.dK (mergeK [] kvs)))
theorem ev_dictP {m : List (Int × PyData)} (h : Ev d te σ H (Ls K d (m.map fun p => .tuple [.int p.1, p.2]))) : Ev1 d (tCB (dictR K) (tCons te tNil)) σ H (fun v H1 => ∃ p, v = .ref p ∧ H p = none ∧ DdX K (putAll [] m) p H1) := fun Q q =>
  h H (Wk.refl H) _ fun v H2 e2 f => by
    obtain ⟨l, xs, rfl, _, h1, h2⟩ := f
    obtain ⟨ps, kvs, rfl, h3, h4⟩ := pairs_of h2
    exact ⟨l, ps, kvs, rfl, .inl (.inl h1), h3, fun p hp => q _ _ (e2.trans (Ext.new hp)) ⟨p, rfl, e2.free hp, _, upd_same, DtK.tk (Ext.new (d := d) hp).wk.tk (merge_all h4 .nil)⟩⟩
end
section
variable {P : Program} {w : World} {K : PySem.W.Frag} {mg : Str → Option Value} {base : Heap} {CK CW gE : Addr}
theorem sc_law_kp_real : FnScope ["_law_world"] ["_law_world"] (C8.fnScope s_law_kp_real) := C8.fnScope_by (by decide +kernel)
abbrev sp_law_kp_real (K : PySem.W.Frag) (CW : Addr) : Sp := Pu (fun x : Wd => x.Ok) (fun x => [D K (wdD x)]) (Wp K CW)
theorem c_law_kp_real (T : Txt K mg CK CW gE) : C8.Cal P w K mg base 10 "_law_kp_real" (sp_law_kp_real K CW) [] := by
  refine cal_of T.d_law_kp_real sc_law_kp_real (fun _ => rfl) fun cdv f A outer s H vs Q E hr x hx _ hA q => ?_
  obtain ⟨v0, rfl, h0⟩ := all1 hA
  have few := hx.ths.few
  refine ⟨_, (pss_one (ps_ret (C8.pe_mk (c_World T) hr (by decide) (by rfl) (pa_cons (pe_ix ix_tup (pv 0) pe_int (fun _ _ => rfl)) (pa_cons (pe_ix ix_tup (pv 0) pe_int (fun _ _ => rfl)) (pa_cons (pe_ix ix_tup (pv 0) pe_int (fun _ _ => rfl)) (pa_cons (pe_ix ix_tup (pv 0) pe_int (fun _ _ => rfl)) pa_nil))))))), ?_⟩
  exact s_ret (ev_World T (x := x) (b := false) ⟨fun _ => hx, by omega⟩ (ea_cons (wd0 (ev_vD rfl h0)) (ea_cons (wd1 (ev_vD rfl h0)) (ea_cons (wd2 (ev_vD rfl h0)) (ea_cons (F := D K (thsD x.things)) (wd3 (ev_vD rfl h0)) ea_nil))))) q
theorem sc_law_kp_by_ids : FnScope ["_law_world", "_law_thing"] ["_law_world"] (C8.fnScope s_law_kp_by_ids) := C8.fnScope_by (by decide +kernel)
/-- a new dict of the things by their ids -/
def sp_law_kp_by_ids (K : PySem.W.Frag) : Sp := fun vs H Q _ => ∃ x : Wd, x.Ok ∧ All [D K (wdD x)] vs H ∧ ∀ p H', Ext none H H' → H p = none → DdX K (thsM x.things) p H' → Q (.ref p) H'
theorem c_law_kp_by_ids (T : Txt K mg CK CW gE) : C8.Cal P w K mg base 1 "_law_kp_by_ids" (sp_law_kp_by_ids K) [] := by
  obtain ⟨f, fd, F1, b⟩ := T.d_law_kp_by_ids
  refine C8.cal0 F1 b .nil sc_law_kp_by_ids (fun vs H Q E h => ?_) fun cdv A outer s H vs Q E hr h => ?_
  · obtain ⟨_, _, h, _⟩ := h
    exact all_len (Fs := []) (vs := []) h
  obtain ⟨x, hx, hA, q⟩ := h
  obtain ⟨v0, rfl, h0⟩ := all1 hA
  have few := hx.ths.few
  refine ⟨_, (pss_one (ps_ret (pe_callTy (call_dictP rfl) (by rfl) T.b_dict bt_dict (pa_cons (pe_lc (own := [("_law_thing", 1)]) rfl sc_law_kp_by_ids.nd (pi_tup (pe_ix ix_tup (pv 0) pe_int (fun _ _ => rfl))) (blkOk_by (own := [("_law_thing", 1)]) (N := ["_law_world", "_law_thing"]) (sc := C8.fnScope (topS 72)) (by decide +kernel)) (fun _ _ _ _ _ => (pg_name (i := 1) sc_law_kp_by_ids.nd rfl (by first | exact Or.inl rfl | exact Or.inr rfl))) (fun _ _ _ _ _ => pts_nil) (fun _ _ _ _ _ => (pe_tup (pa_cons (pe_ix (r := rIxT K) ix_tup (pv 1) pe_int (fun _ _ => rfl)) (pa_cons (pv 1) pa_nil))))) pa_nil)))), ?_⟩
  refine ev_dictP (K := K) (d := none) (m := thsM x.things) ((ev_lc1y (fun t : Thing => .tuple [.int t.id, t.d]) (DOk.no _) (by omega) (es_tup (wd3 (ev_vD rfl h0))) fun t _ y H1 e it => ev_tup (ei_cons (at0 (ev_vD rfl (d3 it))) (ei_cons (ev_vD rfl it) ei_nil)) (sml rfl)).isL ?_) _ fun v H1 e1 ⟨p, ev, hp, f⟩ => ?_
  · unfold thsM
    rw [List.map_map]
    rfl
  · subst ev
    rw [thsM_all hx.ths.ids] at f
    exact q p H1 e1 hp f
/-- _law_kp_by_ids(w) -/
theorem ev1_byIds {d : Option Addr} {σ : L2.St} {H : Hp} {te : TE} {x : Wd} (hx : x.Ok) (h : Ev d te σ H (D K (wdD x))) : Ev1 d (tCall (sp_law_kp_by_ids K) [] C8.E0 (tCons te tNil)) σ H (fun v H1 => ∃ p, v = .ref p ∧ H p = none ∧ DdX K (thsM x.things) p H1) := fun Q q =>
  h H (Wk.refl H) _ fun v H2 e2 f => ⟨x, hx, ⟨f, trivial⟩, fun p H3 e3 hp g => q _ H3 (e2.trans e3.any) ⟨p, rfl, e2.free hp, g⟩⟩
theorem sc_law_kp_size : FnScope ["_law_told", "_law_thing"] ["_law_told"] (C8.fnScope s_law_kp_size) := C8.fnScope_by (by decide +kernel)
abbrev sp_law_kp_size (K : PySem.W.Frag) : Sp := Pu (fun x : Df => x.came.length ≤ 1000) (fun x => [D K x.d]) (fun x => D K (.int (sizeD x)))
theorem c_law_kp_size (T : Txt K mg CK CW gE) : C8.Cal P w K mg base 1 "_law_kp_size" (sp_law_kp_size K) [] := by
  refine cal_of T.d_law_kp_size sc_law_kp_size (fun _ => rfl) fun cdv f A outer s H vs Q E hr x l2 _ hA q => ?_
  obtain ⟨v0, rfl, h0⟩ := all1 hA
  have l2 : x.came.length ≤ 1000 := l2
  refine ⟨_, (pss_one (ps_ret (pe_op op_add (pe_op op_add (pe_op op_add pe_int (pe_callB call_len_seq (by rfl) T.b_len bt_len (pa_cons (pe_ix ix_tup (pv 0) pe_int (fun _ _ => rfl)) pa_nil))) (pe_callB call_len_seq (by rfl) T.b_len bt_len (pa_cons (pe_ix ix_tup (pv 0) pe_int (fun _ _ => rfl)) pa_nil))) (pe_callB (cr_sum rfl) (by rfl) T.b_sum bt_sum (pa_cons (pe_lc (own := [("_law_thing", 1)]) rfl sc_law_kp_size.nd (pi_tup (pe_ix ix_tup (pv 0) pe_int (fun _ _ => rfl))) (blkOk_by (own := [("_law_thing", 1)]) (N := ["_law_told", "_law_thing"]) (sc := C8.fnScope (topS 74)) (by decide +kernel)) (fun _ _ _ _ _ => (pg_name (i := 1) sc_law_kp_size.nd rfl (by first | exact Or.inl rfl | exact Or.inr rfl))) (fun _ _ _ _ _ => pts_nil) (fun _ _ _ _ _ => (pe_op op_add pe_int (pe_callB (r := lenR K) call_len_seq (by rfl) T.b_len bt_len (pa_cons (pe_ix (r := rIxT K) ix_tup (pv 1) pe_int (fun _ _ => rfl)) pa_nil))))) pa_nil))))), ?_⟩
  exact s_ret (d := none) (ev_add (ev_add (ev_add ev_int (ev_lenT (df3 (ev_vD rfl h0)) (by rw [List.length_map]))) (ev_lenT (df5 (ev_vD rfl h0)) (by rw [List.length_map]))) (ev_sum (as := x.came) (p := fun t => 1 + (t.nums.length : Int)) (ev_lc1y (fun t : Thing => .int (1 + (t.nums.length : Int))) (DOk.no _) (by omega) (es_tup (df4 (ev_vD rfl h0))) fun t _ y H1 e it => ev_add ev_int (ev_lenT (at2 (ev_vD rfl (d3 it))) (by rw [List.length_map]))))) q
end
end Kp
set_option maxHeartbeats 410000
/-! KpZ6: list(zip(t, u)): what it gives. -/
namespace Kp
open L2 PySem PySem.Spec PyProof.Rows
section
variable {K : PySem.W.Frag} {d : Option Addr} {σ : L2.St} {H : Hp} {t : TA}
theorem dta_pairs {H : Hp} : ∀ {as bs : List PyData} {xs ys : List V} {Ts : List Addr}, DtA K H as xs → DtA K H bs ys → as.length = bs.length → Ts.length = as.length → (∀ (j : Nat) (T : Addr) (p : V × V), Ts[j]? = some T → (xs.zip ys)[j]? = some p → H T = some (.tup [p.1, p.2])) → DtA K H ((as.zip bs).map fun p => .tuple [p.1, p.2]) (Ts.map V.ref)
  | [], [], _, _, [], .nil, .nil, _, _, _ => .nil
  | a :: as, b :: bs, x :: xs, y :: ys, T :: Ts, .cons h1 r1, .cons h2 r2, e1, e2, k => .cons (.tup (.inl (.inl (k 0 T (x, y) rfl rfl))) (.cons h1 (.cons h2 .nil))) (dta_pairs r1 r2 (by simpa using e1) (by simpa using e2) fun j T p q1 q2 => k (j + 1) T p q1 q2)
  | a :: as, b :: bs, _, _, [], _, _, _, e2, _ => nomatch e2
theorem ev_listZip {as bs : List PyData} (hd : DOk d H) (h : EvA d t σ H [D K (.tuple as), D K (.tuple bs)]) (len : as.length = bs.length) (pos : 0 < as.length) (fit : as.length ≤ 1000000) : Ev d (tListZip K t) σ H (Ls K d ((as.zip bs).map fun p => .tuple [p.1, p.2])) := fun H1 e Q q =>
  h H1 e _ fun vs H2 e2 f => by
    obtain ⟨u, v, rfl, f1, f2⟩ := all2 f
    cases f1 with
    | @tup a xs _ a1 a2 =>
    cases f2 with
    | @tup b ys _ b1 b2 =>
    have lx := a2.length
    have ly := b2.length
    refine ⟨a, b, xs, ys, rfl, a1, b1, by omega, by omega, by omega, fun S Ts lT nd nS hS hT => ?_⟩
    have ext : Ext d H2 (upd (layT H2 Ts (xs.zip ys)) S (.lst (Ts.map .ref))) := fun c o hc => .inl (by
      rw [upd_ne (ne_of_none hc hS), layT_out _ _ _ _ fun m => by rw [hT c m] at hc; cases hc]
      exact hc)
    refine q _ _ (e2.trans ext) ⟨S, _, rfl, (hd.up (e.on e2)).ne hS, upd_same, ?_⟩
    refine dta_pairs (DtA.up ext.wk _ _ a2) (DtA.up ext.wk _ _ b2) len (by omega) fun j T p q1 q2 => ?_
    have ne : T ≠ S := fun z => by
      rw [← z] at nS
      exact nS (List.mem_of_getElem? q1)
    rw [upd_ne ne]
    exact layT_at Ts _ _ j T p nd q1 q2
end
end Kp
set_option maxHeartbeats 410000
/-! Kp17: _law_kp_difference. -/
namespace Kp
open L2 PySem PySem.Spec PyProof.Rows
section
variable {K : PySem.W.Frag} {d : Option Addr} {σ : L2.St} {H : Hp} {te ta tb tg : TE} {E : Ends} {tx : TS} {F : Phi}
theorem q_gone {i j l : Nat} (hd : DOk d H) (ha : Ev1 d tg σ H F) [s : Sta d F] (k : ∀ u p q H1, p ≠ q → H p = none → H q = none → d ≠ some p → d ≠ some q → Ext d H H1 → F u H1 → LsX K [] p H1 → LsX K [] q H1 → tx E (((σ.set i (some u)).set j (some (.ref p))).set l (some (.ref q))) H1) :
    tSeq (tPar3 i j l (tCons tg (tCons (tLst tNil) (tCons (tLst tNil) tNil)))) tx E σ H :=
  ha _ fun u H1 e1 f => by
    refine ⟨Nat.zero_le _, fun p hp => ⟨Nat.zero_le _, fun q hq => ?_⟩⟩
    have x1 : Ext d H1 (upd H1 p (.lst [])) := Ext.new hp
    have x2 : Ext d (upd H1 p (.lst [])) (upd (upd H1 p (.lst [])) q (.lst [])) := Ext.new hq
    have ne : p ≠ q := fun z => by
      rw [z, upd_same] at hq
      cases hq
    have hd1 := hd.up e1.wk
    have np := hd1.ne hp
    have nq := (hd1.up x1.wk).ne hq
    exact ⟨_, _, _, rfl, k u p q _ ne (e1.free hp) ((e1.trans x1).free hq) np nq ((e1.trans x1).trans x2) (s.up _ _ _ (x1.trans x2).wk f) (LsX.up x2 np ⟨[], upd_same, .nil⟩) ⟨[], upd_same, .nil⟩⟩
end
theorem zip_ints (xs ys : List Int) : ((xs.map PyData.int).zip (ys.map PyData.int)).map (fun p => PyData.tuple [p.1, p.2]) = (xs.zip ys).map fun p => PyData.tuple [.int p.1, .int p.2] := by
  rw [List.zip_map, List.map_map]
  rfl
section
variable {P : Program} {w : World} {K : PySem.W.Frag} {mg : Str → Option Value} {base : Heap} {CK CW gE : Addr}
theorem sc_law_kp_difference : FnScope ["_law_one", "_law_other", "_law_first", "_law_second", "_law_number", "_law_gone", "_law_came", "_law_changed", "_law_thing", "_law_pairs", "_law_at", "_law_pair"] ["_law_one", "_law_other"] (C8.fnScope s_law_kp_difference) := C8.fnScope_by (by decide +kernel)
abbrev sp_law_kp_difference (K : PySem.W.Frag) : Sp := Pu (fun p : Wd × Wd => p.1.Ok ∧ p.2.Ok) (fun p => [D K (wdD p.1), D K (wdD p.2)]) (fun p => D K (diff p.1 p.2).d)
theorem c_law_kp_difference (T : Txt K mg CK CW gE) : C8.Cal P w K mg base 2 "_law_kp_difference" (sp_law_kp_difference K) [] := by
  refine cal_of T.d_law_kp_difference sc_law_kp_difference (fun _ => rfl) fun cdv f A outer s H vs Q E hr p hp _ hA q => ?_
  obtain ⟨v0, v1, rfl, h0, h1⟩ := all2 hA
  obtain ⟨a, b⟩ := p
  have h0 : D K (wdD a) v0 H := h0
  have h1 : D K (wdD b) v1 H := h1
  obtain ⟨ha, hb⟩ : a.Ok ∧ b.Ok := hp
  have fa := ha.ths.few
  have fb := hb.ths.few
  refine ⟨_, (pss_cons (ps_asg (pe_tup (pa_cons (C8.pe_c (c_law_kp_by_ids T) hr (by decide) (by rfl) (pa_cons (pv 0) pa_nil)) (pa_cons (C8.pe_c (c_law_kp_by_ids T) hr (by decide) (by rfl) (pa_cons (pv 1) pa_nil)) pa_nil))) (pg_tup rfl (pgs_cons (pg_name (i := 2) sc_law_kp_difference.nd rfl (by first | exact Or.inl rfl | exact Or.inr rfl)) (pgs_cons (pg_name (i := 3) sc_law_kp_difference.nd rfl (by first | exact Or.inl rfl | exact Or.inr rfl)) pgs_nil)))) (pss_cons (ps_par3 (i := 5) (j := 6) (l := 7) rfl sc_law_kp_difference.nd rfl rfl rfl (by decide) (by decide) (by decide) rfl rfl rfl (pa_cons (pe_callTy call_tuple_of (by rfl) T.b_tuple bt_tuple (pa_cons (pe_lock (pe_lc (own := [("_law_number", 4)]) rfl sc_law_kp_difference.nd (pi_keys (pv 2)) (blkOk_by (own := [("_law_number", 4)]) (N := ["_law_one", "_law_other", "_law_first", "_law_second", "_law_number", "_law_gone", "_law_came", "_law_changed", "_law_thing", "_law_pairs", "_law_at", "_law_pair"]) (sc := C8.fnScope (topS 73)) (by decide +kernel)) (fun _ _ _ _ _ => (pg_name (i := 4) sc_law_kp_difference.nd rfl (by first | exact Or.inl rfl | exact Or.inr rfl))) (fun _ _ _ _ _ => (pts_one (pt_cmp (pc_dnotin (hu_of hr) (pv 4) (pv 3)) rfl))) (fun _ _ _ _ _ => (pv 4)))) pa_nil)) (pa_cons (pe_lst pa_nil) (pa_cons (pe_lst pa_nil) pa_nil))) (by rfl)) (pss_cons (ps_lock (ps_for PassesOwn.never rfl (pi_items (pv 3)) (pg_tup rfl (pgs_cons (pg_name (i := 4) sc_law_kp_difference.nd rfl (by first | exact Or.inl rfl | exact Or.inr rfl)) (pgs_cons (pg_name (i := 8) sc_law_kp_difference.nd rfl (by first | exact Or.inl rfl | exact Or.inr rfl)) pgs_nil))) (pss_one (ps_if (PW.pt (pw_or (pt_cmp (pc_dnotin (hu_of hr) (pv 4) (pv 2)) rfl) (pw_or (pt_cmpR (op_neD hr.units) (pe_ix ix_tup (pe_dget (hu_of hr) (pv 2) (pv 4) (fun _ _ => rfl)) pe_int (fun _ _ => rfl)) (pe_ix ix_tup (pv 8) pe_int (fun _ _ => rfl)) (nomark _)) (pw_or1 (pt_cmpR (op_neD hr.units) (pe_callB call_len_seq (by rfl) T.b_len bt_len (pa_cons (pe_ix ix_tup (pe_dget (hu_of hr) (pv 2) (pv 4) (fun _ _ => rfl)) pe_int (fun _ _ => rfl)) pa_nil)) (pe_callB call_len_seq (by rfl) T.b_len bt_len (pa_cons (pe_ix ix_tup (pv 8) pe_int (fun _ _ => rfl)) pa_nil)) (nomark _)))))) (pss_one (ps_expr (pe_bm PySem.F.plainAttrs_list PySem.F.slot_list_append PySem.F.type_list_append mt_append (pv 6) (pa_cons (pv 8) pa_nil)))) (pss_cons (ps_set (i := 9) sc_law_kp_difference.nd rfl (by first | exact Or.inl rfl | exact Or.inr rfl) (pe_listZip (K := K) rfl (by rfl) T.b_list (by rfl) T.b_zip bt_list bt_zip (pa_cons (pe_ix (r := rIxT K) ix_tup (pe_dget (hu_of hr) (pv 2) (pv 4) (fun _ _ => rfl)) pe_int (fun _ _ => rfl)) (pa_cons (pe_ix (r := rIxT K) ix_tup (pv 8) pe_int (fun _ _ => rfl)) pa_nil)))) (pss_one (ps_expr (pe_bm PySem.F.plainAttrs_list PySem.F.slot_list_extend PySem.F.type_list_extend mt_extend (pv 7) (pa_cons (pe_lc (own := [("_law_at", 10), ("_law_pair", 11)]) (g := gTup K 2 (gCons (gName 10) (gCons (gName 11) gNil))) rfl sc_law_kp_difference.nd (pi_enum (by rfl) T.b_enumerate (pa_cons (pv 9) pa_nil)) (blkOk_by (own := [("_law_at", 10), ("_law_pair", 11)]) (N := ["_law_one", "_law_other", "_law_first", "_law_second", "_law_number", "_law_gone", "_law_came", "_law_changed", "_law_thing", "_law_pairs", "_law_at", "_law_pair"]) (sc := C8.fnScope (topS 73)) (by decide +kernel)) (fun _ _ _ _ _ => (pg_tup rfl (pgs_cons (pg_name (i := 10) sc_law_kp_difference.nd rfl (by first | exact Or.inl rfl | exact Or.inr rfl)) (pgs_cons (pg_name (i := 11) sc_law_kp_difference.nd rfl (by first | exact Or.inl rfl | exact Or.inr rfl)) pgs_nil)))) (fun _ _ _ _ _ => (pts_one (pt_cmpR (r := rNeD K) (op_neD hr.units) (pe_ix (r := rIxT K) ix_tup (pv 11) pe_int (fun _ _ => rfl)) (pe_ix (r := rIxT K) ix_tup (pv 11) pe_int (fun _ _ => rfl)) (nomark _)))) (fun _ _ _ _ _ => (pe_tup (pa_cons (pv 4) (pa_cons (pv 10) (pa_cons (pe_ix (r := rIxT K) ix_tup (pv 11) pe_int (fun _ _ => rfl)) pa_nil)))))) pa_nil))))))))) (pss_one (ps_ret (pe_tup (pa_cons (pe_ix ix_tup (pv 1) pe_int (fun _ _ => rfl)) (pa_cons (pe_ix ix_tup (pv 1) pe_int (fun _ _ => rfl)) (pa_cons (pe_ix ix_tup (pv 1) pe_int (fun _ _ => rfl)) (pa_cons (pv 5) (pa_cons (pe_callTy call_tuple_of (by rfl) T.b_tuple bt_tuple (pa_cons (pv 6) pa_nil)) (pa_cons (pe_callTy call_tuple_of (by rfl) T.b_tuple bt_tuple (pa_cons (pv 7) pa_nil)) pa_nil)))))))))))), ?_⟩
  refine q_pair1 (d := none) (ev1_byIds ha (ev_vD rfl h0)) (fun H1 e1 => ev1_byIds hb (ev_vD rfl (up e1 h1))) fun u v H1 H2 H3 e1 f1 e2 f2 e3 => ?_
  obtain ⟨po, rfl, no, f1⟩ := f1
  obtain ⟨pn, rfl, nn, f2⟩ := f2
  have nn0 : H pn = none := e1.free nn
  have ne : po ≠ pn := fun z => by
    obtain ⟨kvs, z1, _⟩ := f1
    rw [z, nn] at z1
    cases z1
  replace f1 := DdX.up (e2.trans e3) f1
  replace f2 := DdX.up e3 f2
  have eH := (e1.trans e2).trans e3
  clear e1 e2 e3
  have eg : ((thsM a.things).filter fun p => !hasD (thsM b.things) p.1).map (fun p => PyData.int p.1) = (diff a b).gone.map PyData.int := by
    unfold diff thsM
    rw [List.filter_map, List.filter_map, List.map_map, List.map_map]
    refine congrArg (List.map _) (List.filter_congr fun t _ => ?_)
    show (!hasD (thsM b.things) t.id) = !(look b.things t.id).isSome
    rw [thsM_has]
  refine q_gone (K := K) (d := none) (F := D K (.tuple ((diff a b).gone.map PyData.int))) (DOk.no _) ?_ fun v5 p5 p6 H4 n56 n5 n6 _ _ e4 h5 l5 l6 => ?_
  · rw [← eg]
    refine ev1_tupL (ev1_keys (fun k => !hasD (thsM b.things) k) (fun k => .int k) (DOk.no _) (by rw [show (thsM a.things).length = a.things.length from List.length_map _]; omega) f1 rfl (fun pp _ H1 e => ?_) (fun pp _ H1 e _ => ev_vD rfl (.int _)))
    exact et_B (et_dnotin (ev_vM rfl (upw e f2.dd)) (ev_vD rfl (.int _)))
  have n5 : H p5 = none := eH.free n5
  have n6 : H p6 = none := eH.free n6
  replace f1 := DdX.up e4 f1
  replace f2 := DdX.up e4 f2
  replace eH := eH.trans e4
  clear e4
  have e4 : Ext none H4 H4 := Ext.refl _
  refine q_forI (m := thsM b.things) (p := pn) rfl f2 fun kvs od hk hx => ?_
  have npo : po ≠ pn := ne
  have n5n : p5 ≠ pn := (ne_dl f2 l5).symm
  have n6n : p6 ≠ pn := (ne_dl f2 l6).symm
  have tl : Tk H4 (upd H4 pn (.frz od (.dK kvs))) := (Wk.lock (d := none) hk).tk
  refine ⟨fun i σ' H' => (∃ x4 x8 x9 x10 x11, σ' = [some v0, some v1, some (.ref po), some (.ref pn), x4, some v5, some (.ref p5), some (.ref p6), x8, x9, x10, x11]) ∧ Ext none H H' ∧ H' pn = some (.frz od (.dK kvs)) ∧ DtK K H' (thsM b.things) kvs ∧ DdX K (thsM a.things) po H' ∧ LsX K (((b.things.take i).filter (isNew a.things)).map Thing.d) p5 H' ∧ LsX K (((b.things.take i).flatMap (chgs a.things)).map chD) p6 H' ∧ D K (.tuple ((diff a b).gone.map PyData.int)) v5 H',
    ⟨⟨_, _, _, _, _, rfl⟩, eH.mut nn0, upd_same, DtK.tk tl hx, DdX.tk tl (upd_ne npo) f1, LsX.tk tl (upd_ne n5n) l5, LsX.tk tl (upd_ne n6n) l6, Dt.tk tl _ _ h5⟩, fun i σ' H' h => ⟨h.2.2.1, h.2.2.2.1⟩, ?_, ?_⟩
  · rintro N bk rt i key x σ' H' H'' v hm ⟨⟨x4, x8, x9, x10, x11, rfl⟩, g1, g2, g3, g4, g5, g6, g7⟩ e hv hN
    obtain ⟨u, hu, rfl, rfl⟩ := thsM_at hm
    have um : u ∈ b.things := List.mem_of_getElem? hu
    have uok : u.Ok := hb.ths.ok u um
    replace g1 := g1.trans e
    replace g2 := e.at0 g2
    replace g3 := DtK.tk e.wk.tk g3
    replace g4 := DdX.up e g4
    replace g5 := LsX.up e (fun z => nomatch z) g5
    replace g6 := LsX.up e (fun z => nomatch z) g6
    replace g7 := up e g7
    clear e
    have len5 : ((b.things.take i).filter (isNew a.things)).length ≤ 12 := Nat.le_trans (List.length_filter_le _ _) (by rw [List.length_take]; omega)
    have len6 : ((b.things.take i).flatMap (chgs a.things)).length ≤ 96 := Nat.le_trans (flat_len (n := 8) fun u hu => chgs_len _ _ (hb.ths.ok u (List.mem_of_mem_take hu)).n8) (by rw [List.length_take]; omega)
    refine s_if (P := (· = isNew a.things u)) (d := none) ?_ (fun hP H1 e1 => ?_) (fun hP H1 e1 => ?_)
    · cases el : look a.things u.id with
      | none =>
        have e : isNew a.things u = (true || true) := by unfold isNew; rw [el]; rfl
        rw [e]
        exact et_or ((et_B (et_dnotin (ev_vM rfl g4.dd) (ev_vD rfl (.int _)))).is (by rw [thsM_has, el]; rfl)) (fun z => nomatch z)
      | some t =>
        have tok : t.Ok := ha.ths.ok t (look_some el).1
        have e : isNew a.things u = (false || (!decide (t.kind = u.kind) || !decide ((t.nums.length : Int) = u.nums.length))) := by
          unfold isNew
          rw [el]
          show (!same t u) = _
          unfold same
          rw [Bool.not_and, Bool.false_or]
        rw [e]
        exact et_or ((et_B (et_dnotin (ev_vM rfl g4.dd) (ev_vD rfl (.int _)))).is (by rw [thsM_has, el]; rfl)) fun _ => et_or (et_test (ev_neS (at1 (ev_d3 (t := t) (ev_dget (m := thsM a.things) (k := u.id) (ev_vM rfl g4.dd) (ev_vD rfl (.int _)) (by rw [thsM_get, el]; rfl)))) (at1 (ev_vD rfl (d3 hv))) tok.kind.str uok.kind.str)) fun _ => et_test (ev_neI (ev_lenT (at2 (ev_d3 (t := t) (ev_dget (m := thsM a.things) (k := u.id) (ev_vM rfl g4.dd) (ev_vD rfl (.int _)) (by rw [thsM_get, el]; rfl)))) (by rw [List.length_map])) (ev_lenT (at2 (ev_vD rfl (d3 hv))) (by rw [List.length_map])))
    · replace hP : isNew a.things u = true := (show true = isNew a.things u from hP).symm
      replace hv := up e1 hv
      refine s_app (d := none) (ds := ((b.things.take i).filter (isNew a.things)).map Thing.d) rfl (fun z => nomatch z) (LsX.up e1 (fun z => nomatch z) g5) (by rw [List.length_map]; omega) (ev_vD rfl hv) fun Ha Hb ea ta same5 l5' => hN _ _ ?_
      have ee := e1.trans ea
      have tt : Tk H'' Hb := e1.wk.tk.trans ta
      refine ⟨⟨_, _, _, _, _, rfl⟩, ext_but (g1.trans ee) n5 same5, (same5 pn n5n.symm).trans (ee.at0 g2), DtK.tk tt g3, DdX.but ee tt same5 (ne_dl g4 g5) g4, ?_, ?_, Dt.tk tt _ _ g7⟩
      · rw [take_filter hu, if_pos hP, List.map_append]
        exact l5'
      · rw [take_flat hu, chgs_new hP, List.append_nil]
        exact LsX.but ee tt same5 n56.symm g6
    · replace hP : isNew a.things u = false := (show false = isNew a.things u from hP).symm
      obtain ⟨t, el, hs, ec⟩ := isOld hP
      have hl : t.nums.length = u.nums.length := (same_iff.mp hs).2
      have u8 := uok.n8
      have u1 := uok.n1
      refine q_set (d := none) (F := Ls K none (((t.nums.map PyData.int).zip (u.nums.map PyData.int)).map fun p => .tuple [p.1, p.2])) (ev_listZip (DOk.no _) (ea_cons (at2 (ev_d3 (t := t) (ev_dget (ev_vM rfl (up e1 g4.dd)) (ev_vD rfl (.int _)) (by rw [thsM_get, el]; rfl)))) (ea_cons (at2 (ev_vD rfl (d3 (up e1 hv)))) ea_nil)) (by rw [List.length_map, List.length_map, hl]) (by rw [List.length_map]; omega) (by rw [List.length_map]; omega)) fun w H2 e2 hw => ?_
      rw [zip_ints] at hw
      replace hv := up (e1.trans e2) hv
      have e12 := e1.trans e2
      refine s_ext (d := none) (ds := ((b.things.take i).flatMap (chgs a.things)).map chD) (es := (chg1 u.id t.nums u.nums).map chD) rfl (fun z => nomatch z) (LsX.up e12 (fun z => nomatch z) g6) (by rw [List.length_map, List.length_map]; have := chg1_len u.id t.nums u.nums; omega) ?_ fun Ha Hb ea ta same6 l6' => hN _ _ ?_
      · unfold chg1
        rw [List.map_map]
        refine ev_lc2 (p := fun p : (Int × Int) × Nat => .int (p.2 : Int)) (q := fun p : (Int × Int) × Nat => .tuple [.int p.1.1, .int p.1.2]) (fun p : (Int × Int) × Nat => !decide (p.1.1 = p.1.2)) (fun p : (Int × Int) × Nat => chD (u.id, (p.2 : Int), p.1.2)) (DOk.no _) (by rw [List.length_zipIdx, List.length_zip]; omega) (es_enumL (ea_cons (ev_vL rfl hw) ea_nil)) (fun pp hp x y H3 e3 hx hy => ?_) (fun pp hp x y H3 e3 hx hy _ => ?_)
        · exact et_test (ev_neI (ev_ixT (ev_vD rfl hy) ev_int rfl) (ev_ixT (ev_vD rfl hy) ev_int rfl))
        · exact ev_tup (ei_cons (ev_vD rfl (.int u.id)) (ei_cons (ev_vD rfl hx) (ei_cons (ev_ixT (ev_vD rfl hy) ev_int rfl) ei_nil))) (sml rfl)
      have ee := e12.trans ea
      have tt : Tk H'' Hb := e12.wk.tk.trans ta
      refine ⟨⟨_, _, _, _, _, rfl⟩, ext_but (g1.trans ee) n6 same6, (same6 pn n6n.symm).trans (ee.at0 g2), DtK.tk tt g3, DdX.but ee tt same6 (ne_dl g4 g6) g4, ?_, ?_, Dt.tk tt _ _ g7⟩
      · rw [take_filter hu, hP, if_neg (by decide), List.append_nil]
        exact LsX.but ee tt same6 n56 g5
      · rw [take_flat hu, ec, List.map_append]
        exact l6'
  · rintro σ' H' ⟨⟨x4, x8, x9, x10, x11, rfl⟩, g1, g2, g3, g4, g5, g6, g7⟩
    have lm : (thsM b.things).length = b.things.length := List.length_map _
    rw [lm, List.take_length] at g5 g6
    have tu : Tk H' (upd H' pn (.dK kvs)) := (Wk.unlock (d := none) g2).tk
    have k1 : Ext none H (upd H' pn (.dK kvs)) := g1.mut nn0
    have k5 := LsX.tk tu (upd_ne n5n) g5
    have k6 := LsX.tk tu (upd_ne n6n) g6
    have k7 := Dt.tk tu _ _ g7
    generalize upd H' pn (.dK kvs) = Hf at k1 k5 k6 k7
    have h1' := up k1 h1
    exact s_ret (d := none) (ev_tup (ei_cons (wd0 (ev_vD rfl h1')) (ei_cons (wd1 (ev_vD rfl h1')) (ei_cons (wd2 (ev_vD rfl h1')) (ei_cons (ev_vD rfl k7) (ei_cons (ev_tupL (ev_vL rfl (k5.ls (fun z => nomatch z)))) (ei_cons (ev_tupL (ev_vL rfl (k6.ls (fun z => nomatch z)))) ei_nil)))))) (sml rfl)) fun v H6 e6 g => q v H6 (k1.trans e6) g
end
end Kp
set_option maxHeartbeats 410000
/-! KpT7: sorted(t), sorted(set(t)): what they give. -/
namespace Kp
open L2 PySem PySem.Spec PyProof.Rows
open PySem.W (EachIs AllAlike Sortable dataLe dataLt)
section
variable {K : PySem.W.Frag} {d : Option Addr} {σ : L2.St} {H : Hp} {te : TE}
theorem ev_sortA {ds tg : List PyData} (hd : DOk d H) (S : SortsTo ds tg) (h : Ev d te σ H (D K (.tuple ds))) : Ev d (tCB (rSortA K) (tCons te tNil)) σ H (Ls K d tg) := fun H1 e Q q =>
  h H1 e _ fun v H2 e2 f => by
    cases f with
    | @tup a xs _ h1 h2 =>
      exact ⟨a, xs, ds, tg, rfl, h1, h2, S, fun p ys hp g => q _ _ (e2.trans (Ext.new hp)) ⟨p, ys, rfl, (hd.up (e.on e2)).ne hp, upd_same, DtA.up (Ext.new (d := d) hp).wk _ _ g⟩⟩
abbrev tI (k : List Int) : PyData := .tuple (k.map .int)
theorem dta_rows {H : Hp} : ∀ {ks : List (List Int)} {vs : List V}, DtA K H (ks.map tI) vs → ∃ rs : List Row, vs = rs.map (fun r => V.ref r.1) ∧ rs.map Prod.snd = ks ∧ ∀ r ∈ rs, SqT K H r.1 (r.2.map V.int)
  | [], _, .nil => ⟨[], rfl, rfl, fun _ z => nomatch z⟩
  | k :: ks, _, .cons h t => by
    obtain ⟨rs, e1, e2, e3⟩ := dta_rows t
    cases h with
    | @tup a xs _ h1 h2 =>
      rw [DtA.ints h2] at h1
      refine ⟨(a, k) :: rs, by rw [e1]; rfl, by rw [List.map_cons, e2], fun r hr => ?_⟩
      (rcases List.mem_cons.mp hr with z | z)
      · rw [z]
        exact h1
      · exact e3 r z
theorem rows_dta {H : Hp} : ∀ {rs : List Row}, (∀ r ∈ rs, SqT K H r.1 (r.2.map V.int)) → DtA K H ((rs.map Prod.snd).map tI) (rs.map fun r => V.ref r.1)
  | [], _ => .nil
  | r :: rs, h => .cons (.tup (h r List.mem_cons_self) (int_dta r.2)) (rows_dta fun x hx => h x (List.mem_cons_of_mem _ hx))
where int_dta : ∀ (ns : List Int), DtA K H (ns.map .int) (ns.map V.int)
  | [] => .nil
  | n :: ns => .cons (.int n) (int_dta ns)
theorem ev_sortSetT {ks tg : List (List Int)} (hd : DOk d H) (few : ks.length ≤ 300) (ne : ∀ k ∈ ks, k ≠ []) (mem : ∀ k, k ∈ tg ↔ k ∈ ks) (asc : tg.Pairwise (· < ·)) (h : Ev d te σ H (D K (.tuple (ks.map tI)))) : Ev d (tSortSet K (tCons te tNil)) σ H (Ls K d (tg.map tI)) := fun H1 e Q q =>
  h H1 e _ fun v H2 e2 f => by
    cases f with
    | @tup a xs _ h1 h2 =>
      obtain ⟨rs, rfl, rfl, e3⟩ := dta_rows h2
      refine ⟨a, rs, tg, rfl, h1, e3, by rw [List.length_map] at few; exact few, fun r hr => ne r.2 (List.mem_map_of_mem (f := Prod.snd) hr), mem, asc, fun p L hp sub et => q _ _ (e2.trans (Ext.new hp)) ⟨p, _, rfl, (hd.up (e.on e2)).ne hp, upd_same, ?_⟩⟩
      rw [← et]
      exact DtA.up (Ext.new (d := d) hp).wk _ _ (rows_dta fun r hr => e3 r (sub r hr))
end
end Kp
set_option maxHeartbeats 410000
/-! KpQ3: the targets of the two sorts. -/
namespace Kp
open L2 PySem PySem.Spec PyProof.Rows
open PySem.W (EachIs AllAlike Sortable dataLe dataLt)
theorem thing_alike (t u : Thing) : PySem.W.alike t.d u.d = true := by
  unfold Thing.d
  simp [PySem.W.alike, PySem.W.alikeAll, PySem.W.alike_ints]
theorem thing_less {t u : Thing} (h : t.id < u.id) : Less t.d u.d := by
  have f : ∀ t u : Thing, t.id ≠ u.id → dataLt t.d u.d = decide (t.id < u.id) := fun t u ne => by
    unfold Thing.d
    rw [PySem.W.dataLt_tuple, PySem.W.dataLt_cons (by simp [PySem.W.alike]), if_neg (by rw [PyData.eqv]; simp [ne]), PySem.W.dataLt_int]
  exact ⟨by rw [f t u (by omega)]; exact decide_eq_true h, by rw [f u t (by omega)]; exact decide_eq_false (by omega)⟩
theorem thing_depth (t : Thing) : t.d.depth ≤ 60 := by
  unfold Thing.d
  simp [PyData.depth, PyData.depthAll, PySem.W.depth_ints]
theorem one_more {N : Thing → Bool} {u : Thing} : ∀ {ts : List Thing}, (ts.map Thing.id).Nodup → u ∈ ts → N u = false → (ts.filter fun t => N t || decide (t.id = u.id)).Perm (ts.filter N ++ [u])
  | [], _, h, _ => nomatch h
  | t :: ts, nd, h, nu => by
    (obtain ⟨n1, n2⟩ := List.nodup_cons.mp nd)
    by_cases e : t = u
    · subst e
      have rest : ts.filter (fun s => N s || decide (s.id = t.id)) = ts.filter N := List.filter_congr fun s hs => by
        have ne : s.id ≠ t.id := fun z => n1 (z ▸ List.mem_map_of_mem (f := Thing.id) hs)
        simp [ne]
      simp only [List.filter_cons, nu, Bool.false_or, decide_true, if_true, Bool.false_eq_true, if_false]
      rw [rest]
      exact (List.perm_append_singleton t _).symm
    · have hu : u ∈ ts := (List.mem_cons.mp h).resolve_left fun z => e z.symm
      have ne : t.id ≠ u.id := fun z => n1 (z ▸ List.mem_map_of_mem (f := Thing.id) hu)
      have ih := one_more n2 hu nu
      simp only [List.filter_cons, ne, decide_false, Bool.or_false]
      cases N t with
      | true => exact ih.cons t
      | false => exact ih
theorem sorts_things {a b : Wd} {u : Thing} (hb : b.Ok) (hu : u ∈ b.things) (nu : isNew a.things u = false) : SortsTo ((b.things.filter (isNew a.things) ++ [u]).map Thing.d) ((long1 a b u.id).came.map Thing.d) where
  alike := PySem.W.AllAlike.of thing_alike
  able := PySem.W.Sortable.tuples fun t => ⟨_, _, rfl⟩
  few := by
    have := hb.ths.few
    have := List.length_filter_le (isNew a.things) b.things
    rw [List.length_map, List.length_append]
    show _ + 1 ≤ _
    omega
  flat := fun y hy => by
    obtain ⟨t, _, rfl⟩ := List.mem_map.mp hy
    exact thing_depth t
  perm := (one_more (asc_nodup hb.ths.ids) hu nu).map Thing.d
  less := by
    rw [List.pairwise_map]
    have z := List.Pairwise.sublist ((List.filter_sublist (p := fun t => isNew a.things t || decide (t.id = u.id)) (l := b.things)).map Thing.id) hb.ths.ids
    rw [List.pairwise_map] at z
    exact z.imp fun {t s} h => thing_less h
def rowC (c : Chg) : List Int := [c.1, c.2.1, c.2.2]
theorem rowC_inj {c g : Chg} (h : rowC c = rowC g) : c = g := by
  obtain ⟨a, b, n⟩ := c
  obtain ⟨a', b', n'⟩ := g
  unfold rowC at h
  simp only [List.cons.injEq, and_true] at h
  obtain ⟨rfl, rfl, rfl⟩ := h
  rfl
theorem mem_mk {a b : Wd} {N : Thing → Bool} {C : Thing → List Chg} {c : Chg} : c ∈ (mkD a b N C).chg ↔ ∃ t ∈ b.things, N t = false ∧ c ∈ C t := by
  refine ⟨mem_chg, fun ⟨t, ht, nt, hc⟩ => List.mem_flatMap.mpr ⟨t, ht, ?_⟩⟩
  rw [nt, if_neg (by decide)]
  exact hc
theorem least_in_whole {a : Wd} {t : Thing} (h : isNew a.things t = false) : ∀ c ∈ chgs a.things t, c ∈ whole t := fun c hc => by
  obtain ⟨e, j, e2, e3⟩ := (tells_least h).told c hc
  obtain ⟨i, p, n⟩ := c
  cases e
  cases e2
  exact pick_in e3 rfl
theorem long2_mem {a b : Wd} {u : Thing} (hb : b.Ok) (hu : u ∈ b.things) (nu : isNew a.things u = false) (c : Chg) : c ∈ (long2 a b u.id).chg ↔ c ∈ (diff a b).chg ++ whole u := by
  have one : ∀ t ∈ b.things, t.id = u.id → t = u := fun t ht e => uniq (asc_nodup hb.ths.ids) ht hu e
  rw [diff_mk, List.mem_append]
  show c ∈ (mkD a b _ _).chg ↔ _
  rw [mem_mk, mem_mk]
  constructor
  · rintro ⟨t, ht, nt, hc⟩
    by_cases e : t.id = u.id
    · rw [if_pos e] at hc
      rw [one t ht e] at hc
      exact .inr hc
    · rw [if_neg e] at hc
      exact .inl ⟨t, ht, nt, hc⟩
  · rintro (⟨t, ht, nt, hc⟩ | hc)
    · refine ⟨t, ht, nt, ?_⟩
      by_cases e : t.id = u.id
      · rw [if_pos e]
        exact least_in_whole nt c hc
      · rw [if_neg e]
        exact hc
    · exact ⟨u, hu, nu, by rw [if_pos rfl]; exact hc⟩
theorem row_lt {c g : Chg} (h : lt2 (place c) (place g)) : rowC c < rowC g := by
  unfold rowC
  rw [List.cons_lt_cons_iff]
  rcases h with h | ⟨h1, h2⟩
  · exact .inl h
  · refine .inr ⟨h1, ?_⟩
    rw [List.cons_lt_cons_iff]
    exact .inl h2
theorem rows_asc {a b : Wd} (ha : a.Ok) (hb : b.Ok) (k : Int) : (((long2 a b k).chg).map rowC).Pairwise (· < ·) := by
  have z := (long2_leads ha hb k).parts.xasc
  rw [List.pairwise_map] at z ⊢
  exact z.imp fun {c g} h => row_lt h
theorem rows_mem {a b : Wd} {u : Thing} (hb : b.Ok) (hu : u ∈ b.things) (nu : isNew a.things u = false) (r : List Int) : r ∈ ((long2 a b u.id).chg).map rowC ↔ r ∈ ((diff a b).chg ++ whole u).map rowC := by
  constructor
  · intro z
    obtain ⟨c, hc, rfl⟩ := List.mem_map.mp z
    exact List.mem_map_of_mem (f := rowC) ((long2_mem hb hu nu c).mp hc)
  · intro z
    obtain ⟨c, hc, rfl⟩ := List.mem_map.mp z
    exact List.mem_map_of_mem (f := rowC) ((long2_mem hb hu nu c).mpr hc)
theorem rows_few {a b : Wd} {u : Thing} (hb : b.Ok) (hu : u ∈ b.things) : (((diff a b).chg ++ whole u).map rowC).length ≤ 300 := by
  have f := hb.ths.few
  have n := (hb.ths.ok u hu).n8
  have z : (diff a b).chg.length ≤ 8 * b.things.length := flat_len fun t ht => chgs_len _ _ (hb.ths.ok t ht).n8
  rw [List.length_map, List.length_append, whole_len]
  omega
end Kp
set_option maxHeartbeats 410000
/-! Kp18a: the longer differences, read. -/
namespace Kp
open L2 PySem PySem.Spec PyProof.Rows
theorem long3_d (a b : Wd) : (long3 a b).d = .tuple ([.int (diff a b).tick, .int (diff a b).nid, .int (diff a b).luck, .tuple ((diff a b).gone.map .int)] ++ [thsD b.things, .tuple []]) := by
  have e1 : b.things.filter (fun _ => true) = b.things := List.filter_eq_self.mpr fun _ _ => rfl
  have e2 : ∀ ts : List Thing, (ts.flatMap fun t => if (fun _ : Thing => true) t = true then ([] : List Chg) else (fun _ : Thing => []) t) = [] := fun ts => by
    induction ts with
    | nil => rfl
    | cons t ts ih => rw [List.flatMap_cons, ih]; rfl
  unfold long3 mkD Df.d
  dsimp only
  rw [e1, e2 b.things]
  rfl
theorem long1_d (a b : Wd) (k : Int) : (long1 a b k).d = .tuple ([.int (diff a b).tick, .int (diff a b).nid, .int (diff a b).luck, .tuple ((diff a b).gone.map .int)] ++ [.tuple ((long1 a b k).came.map Thing.d), .tuple ((long1 a b k).chg.map chD)]) := rfl
theorem long2_d (a b : Wd) (k : Int) : (long2 a b k).d = .tuple ([.int (diff a b).tick, .int (diff a b).nid, .int (diff a b).luck, .tuple ((diff a b).gone.map .int), thsD (diff a b).came] ++ [.tuple ((long2 a b k).chg.map chD)]) := rfl
section
variable {K : PySem.W.Frag} {d : Option Addr} {σ : L2.St} {H : Hp} {te ta tb tc : TE} {a b : Wd} {u : Thing}
theorem ev_cut4 {x : Df} (h : Ev d te σ H (D K x.d)) : Ev d (tSl (rSlA K) te tNoPart (tPart (tC (.int 4)))) σ H (D K (.tuple [.int x.tick, .int x.nid, .int x.luck, .tuple (x.gone.map .int)])) := ev_slT (dfa h) eo_none eo_int (cut_to _ 4)
theorem ev_cut5 {x : Df} (h : Ev d te σ H (D K x.d)) : Ev d (tSl (rSlA K) te tNoPart (tPart (tC (.int 5)))) σ H (D K (.tuple [.int x.tick, .int x.nid, .int x.luck, .tuple (x.gone.map .int), thsD x.came])) := ev_slT (dfa h) eo_none eo_int (cut_to _ 5)
theorem ev_long3 (h2 : Ev d ta σ H (D K (wdD b))) (h3 : Ev d te σ H (D K (diff a b).d)) : Ev d (tOp (rCatA K) (tSl (rSlA K) te tNoPart (tPart (tC (.int 4)))) (tTup (tCons (tOp (rIxT K) ta (tC (.int 3))) (tCons (tTup tNil) tNil)))) σ H (D K (long3 a b).d) := by
  have h4 : Ev d (tOp (rIxT K) ta (tC (.int 3))) σ H (D K (thsD b.things)) := wd3 h2
  have h5 : Ev d (tTup tNil) σ H (D K (.tuple [])) := ev_tup ei_nil (sml rfl)
  rw [long3_d]
  exact ev_catT (ev_cut4 h3) (ev_tup (ei_cons h4 (ei_cons h5 ei_nil)) (sml rfl)) (sml rfl)
theorem ev_long1 (hd : DOk d H) (hb : b.Ok) (hu : u ∈ b.things) (nu : isNew a.things u = false) (h3 : Ev d te σ H (D K (diff a b).d)) (hk : Ev d tb σ H (D K u.d)) (hc : Ev d tc σ H (D K (.tuple ((long1 a b u.id).chg.map chD)))) :
    Ev d (tOp (rCatA K) (tSl (rSlA K) te tNoPart (tPart (tC (.int 4)))) (tTup (tCons (tCB (tupR K) (tCons (tCB (rSortA K) (tCons (tOp (rCatA K) (tOp (rIxT K) te (tC (.int 4))) (tTup (tCons tb tNil))) tNil)) tNil)) (tCons tc tNil)))) σ H (D K (long1 a b u.id).d) := by
  have h4 : Ev d (tOp (rCatA K) (tOp (rIxT K) te (tC (.int 4))) (tTup (tCons tb tNil))) σ H (D K (.tuple ((b.things.filter (isNew a.things) ++ [u]).map Thing.d))) := by
    have z1 := List.length_filter_le (isNew a.things) b.things
    have z2 := hb.ths.few
    rw [List.map_append]
    exact ev_catT (df4 h3) (ev_tup (ei_cons hk ei_nil) (sml rfl)) (by rw [List.length_map]; show _ + 1 ≤ _; omega)
  have h5 := ev_tupL (ev_sortA hd (sorts_things hb hu nu) h4)
  rw [long1_d]
  exact ev_catT (ev_cut4 h3) (ev_tup (ei_cons h5 (ei_cons hc ei_nil)) (sml rfl)) (sml rfl)
theorem ev_long2 (hd : DOk d H) (ha : a.Ok) (hb : b.Ok) (hu : u ∈ b.things) (nu : isNew a.things u = false) (few : (diff a b).chg.length ≤ 1000) (h3 : Ev d te σ H (D K (diff a b).d)) (hw : Ev d tb σ H (D K (.tuple ((whole u).map chD)))) :
    Ev d (tOp (rCatA K) (tSl (rSlA K) te tNoPart (tPart (tC (.int 5)))) (tTup (tCons (tCB (tupR K) (tCons (tSortSet K (tCons (tOp (rCatA K) (tOp (rIxT K) te (tC (.int 5))) tb) tNil)) tNil)) tNil))) σ H (D K (long2 a b u.id).d) := by
  have r1 : ((((diff a b).chg ++ whole u).map rowC).map tI) = (diff a b).chg.map chD ++ (whole u).map chD := by
    rw [List.map_map, List.map_append]
    rfl
  have r2 : (((long2 a b u.id).chg.map rowC).map tI) = (long2 a b u.id).chg.map chD := by
    rw [List.map_map]
    rfl
  have h4 : Ev d (tOp (rCatA K) (tOp (rIxT K) te (tC (.int 5))) tb) σ H (D K (.tuple ((((diff a b).chg ++ whole u).map rowC).map tI))) := by
    rw [r1]
    have n8 := (hb.ths.ok u hu).n8
    have w8 := whole_len u
    exact ev_catT (df5 h3) hw (by rw [List.length_map, List.length_map]; omega)
  have h5 := ev_tupL (ev_sortSetT hd (rows_few (a := a) hb hu) (fun r hr => by
    obtain ⟨c, _, rfl⟩ := List.mem_map.mp hr
    exact fun z => nomatch z) (rows_mem hb hu nu) (rows_asc ha hb u.id) h4)
  rw [r2] at h5
  rw [long2_d]
  exact ev_catT (ev_cut5 h3) (ev_tup (ei_cons h5 ei_nil) (sml rfl)) (sml rfl)
end
end Kp
set_option maxHeartbeats 410000
/-! Kp18: _law_longer. -/
namespace Kp
open L2 PySem PySem.Spec PyProof.Rows
section
variable {K : PySem.W.Frag} {d : Option Addr} {σ : L2.St} {H : Hp} {te ta tb tg : TE} {E : Ends} {tx : TS} {F : Phi}
theorem pi_tupK {X : Cx} {tg l : Expr} {tl : TE} (hK : X.K = K) (hl : PE X l tl) : PI X tg l (iTup K tl) := by
  subst hK
  exact pi_tup hl
/-- x, y, z = a, b, [] -/
theorem q_trip {i j l : Nat} {G : Hp → Phi} (hd : DOk d H) (ha : Ev1 d ta σ H F) (hb : ∀ H1, Ext d H H1 → Ev1 d tb σ H1 (G H1)) (k : ∀ u v p H1 H2 H3, H p = none → d ≠ some p → Ext d H H1 → F u H1 → Ext d H1 H2 → G H1 v H2 → Ext d H2 H3 → H2 p = none → LsX K [] p H3 → tx E (((σ.set i (some u)).set j (some v)).set l (some (.ref p))) H3) :
    tSeq (tAsg (tTup (tCons ta (tCons tb (tCons (tLst tNil) tNil)))) (gTup K 3 (gCons (gName i) (gCons (gName j) (gCons (gName l) gNil))))) tx E σ H :=
  ha _ fun u H1 e1 f => hb H1 e1 _ fun v H2 e2 g => by
    refine ⟨Nat.zero_le _, fun p hp => ⟨show 3 ≤ sizeLine by decide, fun q hq => ?_⟩⟩
    have x1 : Ext d H2 (upd H2 p (.lst [])) := Ext.new hp
    have x2 : Ext d (upd H2 p (.lst [])) (upd (upd H2 p (.lst [])) q (.tup [u, v, .ref p])) := Ext.new hq
    have hd2 := (hd.up e1.wk).up e2.wk
    have np := hd2.ne hp
    exact ⟨q, [u, v, .ref p], rfl, .inl (.inl upd_same), rfl, _, _, rfl, _, _, rfl, _, _, rfl, rfl, k u v p H1 H2 _ ((e1.trans e2).free hp) np e1 f e2 g (x1.trans x2) hp (LsX.up x2 np ⟨[], upd_same, .nil⟩)⟩
theorem q_app {i : Nat} {p : Addr} {ds : List PyData} {x : PyData} (hi : σ[i]? = some (some (.ref p))) (np : d ≠ some p) (hx : LsX K ds p H) (hl : ds.length < 100000) (h : Ev d te σ H (D K x))
    (k : ∀ H1 H2, Ext d H H1 → Tk H H2 → (∀ a, a ≠ p → H2 a = H1 a) → LsX K (ds ++ [x]) p H2 → tx E σ H2) : tSeq (tDrop (tBM K "list" rAppend (tVar i) (tCons te tNil))) tx E σ H := s_app (E := { E with nx := tx E }) hi np hx hl h k
/-- a locked list comprehension put into a name -/
theorem q_lockSet {i : Nat} (h : Ev1 d (tLockE te) σ H F) (k : ∀ v H1, Ext d H H1 → F v H1 → tx E (σ.set i (some v)) H1) : tSeq (tLock (tAsg te (gName i))) tx E σ H := q1_set (te := tLockE te) h k
theorem q_ifT {R : L2.St → Hp → Prop} {t : TT} {tu tw : TS} {Pb : Bool → Prop} (h : EvT d t σ H Pb) (k : ∀ σ' H', R σ' H' → tx E σ' H') (h1 : Pb true → ∀ H1, Ext d H H1 → (∀ σ' H', R σ' H' → tx E σ' H') → tu { E with nx := tx E } σ H1) (h2 : Pb false → ∀ H1, Ext d H H1 → (∀ σ' H', R σ' H' → tx E σ' H') → tw { E with nx := tx E } σ H1) : tSeq (tIfS t tu tw) tx E σ H :=
  q_if h (fun z H1 e => h1 z H1 e k) fun z H1 e => h2 z H1 e k
end
/-- leads, and is longer if it isn't the least -/
def Cand (a b : Wd) (x : Df) : Prop := Leads a b x ∧ (x ≠ diff a b → sizeD (diff a b) < sizeD x)
theorem long1_chg (a b : Wd) (k : Int) : (long1 a b k).chg = (diff a b).chg.filter fun c => !decide (c.1 = k) := by
  show (b.things.flatMap fun t => if (isNew a.things t || decide (t.id = k)) = true then [] else chgs a.things t) = (b.things.flatMap (chgs a.things)).filter _
  rw [List.filter_flatMap]
  refine flat_congr fun t _ => ?_
  cases e : isNew a.things t with
  | true =>
    rw [chgs_new e]
    rfl
  | false =>
    have told := (tells_least e).told
    by_cases q : t.id = k
    · rw [if_pos (by simp [q])]
      refine (List.filter_eq_nil_iff.mpr fun c hc => ?_).symm
      rw [(told c hc).1]
      simp [q]
    · rw [if_neg (by simp [q])]
      refine (List.filter_eq_self.mpr fun c hc => ?_).symm
      rw [(told c hc).1]
      simp [q]
section
variable {P : Program} {w : World} {K : PySem.W.Frag} {mg : Str → Option Value} {base : Heap} {CK CW gE : Addr}
theorem sc_law_longer : FnScope ["_law_dice_here", "_law_one", "_law_other", "_law_due", "_law_first", "_law_second", "_law_found", "_law_number", "_law_kept", "_law_rest", "_law_whole", "_law_thing", "_law_told", "_law_at", "_law_value"] ["_law_dice_here", "_law_one", "_law_other", "_law_due"] (C8.fnScope s_law_longer) := C8.fnScope_by (by decide +kernel)
structure LongA where
  p : Addr
  a : Wd
  b : Wd
abbrev Longer (a b : Wd) (x : Df) : Prop := Leads a b x ∧ sizeD (diff a b) < sizeD x
abbrev sp_law_longer (K : PySem.W.Frag) : Sp := Pr (fun q : LongA => some q.p) (fun q => q.a.Ok ∧ q.b.Ok) (fun q => [Dc q.p, D K (wdD q.a), D K (wdD q.b), D K (diff q.a q.b).d]) (fun q => AnyL K (some q.p) Df.d fun xs => ∀ x ∈ xs, Longer q.a q.b x)
theorem c_law_longer (T : Txt K mg CK CW gE) : C8.Cal P w K mg base 3 "_law_longer" (sp_law_longer K) [] := by
  refine cal_of T.d_law_longer sc_law_longer (fun _ => rfl) fun cdv f A outer s H vs Q E hr q hq hd hA qq => ?_
  obtain ⟨p, a, b⟩ := q
  obtain ⟨v0, v1, v2, v3, rfl, h0, h1, h2, h3⟩ := all4 hA
  obtain ⟨rfl, _⟩ : v0 = .ref p ∧ _ := h0
  have h1 : D K (wdD a) v1 H := h1
  have h2 : D K (wdD b) v2 H := h2
  have h3 : D K (diff a b).d v3 H := h3
  have hd : DOk (some p) H := hd
  obtain ⟨ha, hb⟩ : a.Ok ∧ b.Ok := hq
  have fa := ha.ths.few
  have fb := hb.ths.few
  refine ⟨_, (pss_cons (ps_asg (pe_tup (pa_cons (C8.pe_c (c_law_kp_by_ids T) hr (by decide) (by rfl) (pa_cons (pv 1) pa_nil)) (pa_cons (C8.pe_c (c_law_kp_by_ids T) hr (by decide) (by rfl) (pa_cons (pv 2) pa_nil)) (pa_cons (pe_lst pa_nil) pa_nil)))) (pg_tup rfl (pgs_cons (pg_name (i := 4) sc_law_longer.nd rfl (by first | exact Or.inl rfl | exact Or.inr rfl)) (pgs_cons (pg_name (i := 5) sc_law_longer.nd rfl (by first | exact Or.inl rfl | exact Or.inr rfl)) (pgs_cons (pg_name (i := 6) sc_law_longer.nd rfl (by first | exact Or.inl rfl | exact Or.inr rfl)) pgs_nil))))) (pss_cons (ps_lock (ps_setLc (i := 8) (own := [("_law_number", 7)]) rfl sc_law_longer.nd rfl rfl (sw_true rfl rfl rfl (by decide +kernel)) (pi_keys (pv 5)) (blkOk_by (own := [("_law_number", 7)]) (N := ["_law_dice_here", "_law_one", "_law_other", "_law_due", "_law_first", "_law_second", "_law_found", "_law_number", "_law_kept", "_law_rest", "_law_whole", "_law_thing", "_law_told", "_law_at", "_law_value"]) (sc := C8.fnScope (topS 75)) (by decide +kernel)) (fun _ _ _ _ _ => (pg_name (i := 7) sc_law_longer.nd rfl (by first | exact Or.inl rfl | exact Or.inr rfl))) (fun _ _ _ _ _ => (pts_one (PW.pt (pw_and (pt_cmp (pc_din (hu_of hr) (pv 7) (pv 4)) rfl) (pw_and1 (pt_cmpR (r := rIn K true) op_notIn_seq (pv 7) (pe_lc (own := [("_law_thing", 11)]) rfl sc_law_longer.nd (pi_tupK (K := K) rfl (pe_ix (r := rIxT K) ix_tup (pv 3) pe_int (fun _ _ => rfl))) (blkOk_by (own := [("_law_thing", 11)]) (N := ["_law_dice_here", "_law_one", "_law_other", "_law_due", "_law_first", "_law_second", "_law_found", "_law_number", "_law_kept", "_law_rest", "_law_whole", "_law_thing", "_law_told", "_law_at", "_law_value"]) (sc := ({ kind := .function, names := [(".0", .local), ("_law_number", .local), ("_law_due", .cell), ("_law_first", .cell)], isGenerator := false, isCoroutine := false } : Scope)) (by decide +kernel)) (fun _ _ _ _ _ => (pg_name (i := 11) sc_law_longer.nd rfl (by first | exact Or.inl rfl | exact Or.inr rfl))) (fun _ _ _ _ _ => pts_nil) (fun _ _ _ _ _ => (pe_ix (r := rIxT K) ix_tup (pv 11) pe_int (fun _ _ => rfl)))) rfl)))))) (fun _ _ _ _ _ => (pv 7)))) (pss_cons (ps_if (pt_cmpR (op_neD hr.units) (pv 8) (pe_lst pa_nil) (nomark _)) (pss_cons (ps_set (i := 7) sc_law_longer.nd rfl (by first | exact Or.inl rfl | exact Or.inr rfl) (C8.pe_c (c_law_pick T) hr (by decide) (by rfl) (pa_cons (pv 0) (pa_cons (pv 8) pa_nil)))) (pss_cons (ps_set (i := 9) sc_law_longer.nd rfl (by first | exact Or.inl rfl | exact Or.inr rfl) (pe_callTy call_tuple_of (by rfl) T.b_tuple bt_tuple (pa_cons (pe_lc (own := [("_law_told", 12)]) rfl sc_law_longer.nd (pi_tup (pe_ix ix_tup (pv 3) pe_int (fun _ _ => rfl))) (blkOk_by (own := [("_law_told", 12)]) (N := ["_law_dice_here", "_law_one", "_law_other", "_law_due", "_law_first", "_law_second", "_law_found", "_law_number", "_law_kept", "_law_rest", "_law_whole", "_law_thing", "_law_told", "_law_at", "_law_value"]) (sc := C8.fnScope (topS 75)) (by decide +kernel)) (fun _ _ _ _ _ => (pg_name (i := 12) sc_law_longer.nd rfl (by first | exact Or.inl rfl | exact Or.inr rfl))) (fun _ _ _ _ _ => (pts_one (pt_cmpR (r := rNeD K) (op_neD hr.units) (pe_ix (r := rIxT K) ix_tup (pv 12) pe_int (fun _ _ => rfl)) (pv 7) (nomark _)))) (fun _ _ _ _ _ => (pv 12))) pa_nil))) (pss_cons (ps_expr (pe_bm PySem.F.plainAttrs_list PySem.F.slot_list_append PySem.F.type_list_append mt_append (pv 6) (pa_cons (pe_op op_catA (pe_slice sl_tupA (pv 3) po_none (po_some pe_int)) (pe_tup (pa_cons (pe_callTy call_tuple_of (by rfl) T.b_tuple bt_tuple (pa_cons (pe_callB (cr_sortA hr.units) (by rfl) T.b_sorted bt_sorted (pa_cons (pe_op op_catA (pe_ix ix_tup (pv 3) pe_int (fun _ _ => rfl)) (pe_tup (pa_cons (pe_dget (hu_of hr) (pv 5) (pv 7) (fun _ _ => rfl)) pa_nil))) pa_nil)) pa_nil)) (pa_cons (pv 9) pa_nil)))) pa_nil))) (pss_cons (ps_set (i := 10) sc_law_longer.nd rfl (by first | exact Or.inl rfl | exact Or.inr rfl) (pe_callTy call_tuple_of (by rfl) T.b_tuple bt_tuple (pa_cons (pe_lc (own := [("_law_at", 13), ("_law_value", 14)]) (g := gTup K 2 (gCons (gName 13) (gCons (gName 14) gNil))) rfl sc_law_longer.nd (pi_enumT (by rfl) T.b_enumerate (pa_cons (pe_ix ix_tup (pe_dget (hu_of hr) (pv 5) (pv 7) (fun _ _ => rfl)) pe_int (fun _ _ => rfl)) pa_nil)) (blkOk_by (own := [("_law_at", 13), ("_law_value", 14)]) (N := ["_law_dice_here", "_law_one", "_law_other", "_law_due", "_law_first", "_law_second", "_law_found", "_law_number", "_law_kept", "_law_rest", "_law_whole", "_law_thing", "_law_told", "_law_at", "_law_value"]) (sc := C8.fnScope (topS 75)) (by decide +kernel)) (fun _ _ _ _ _ => (pg_tup rfl (pgs_cons (pg_name (i := 13) sc_law_longer.nd rfl (by first | exact Or.inl rfl | exact Or.inr rfl)) (pgs_cons (pg_name (i := 14) sc_law_longer.nd rfl (by first | exact Or.inl rfl | exact Or.inr rfl)) pgs_nil)))) (fun _ _ _ _ _ => pts_nil) (fun _ _ _ _ _ => (pe_tup (pa_cons (pv 7) (pa_cons (pv 13) (pa_cons (pv 14) pa_nil)))))) pa_nil))) (pss_one (ps_expr (pe_bm PySem.F.plainAttrs_list PySem.F.slot_list_append PySem.F.type_list_append mt_append (pv 6) (pa_cons (pe_op op_catA (pe_slice sl_tupA (pv 3) po_none (po_some pe_int)) (pe_tup (pa_cons (pe_callTy call_tuple_of (by rfl) T.b_tuple bt_tuple (pa_cons (pe_sortSet (K := K) rfl (by rfl) T.b_sorted (by rfl) T.b_set bt_sorted bt_set hr.units (pa_cons (pe_op (r := rCatA K) op_catA (pe_ix (r := rIxT K) ix_tup (pv 3) pe_int (fun _ _ => rfl)) (pv 10)) pa_nil)) pa_nil)) pa_nil))) pa_nil)))))))) pss_nil) (pss_cons (ps_expr (pe_bm PySem.F.plainAttrs_list PySem.F.slot_list_append PySem.F.type_list_append mt_append (pv 6) (pa_cons (pe_op op_catA (pe_slice sl_tupA (pv 3) po_none (po_some pe_int)) (pe_tup (pa_cons (pe_ix ix_tup (pv 2) pe_int (fun _ _ => rfl)) (pa_cons (pe_tup pa_nil) pa_nil)))) pa_nil))) (pss_one (ps_ret (pe_lc (own := [("_law_told", 12)]) rfl sc_law_longer.nd (pi_list (pv 6)) (blkOk_by (own := [("_law_told", 12)]) (N := ["_law_dice_here", "_law_one", "_law_other", "_law_due", "_law_first", "_law_second", "_law_found", "_law_number", "_law_kept", "_law_rest", "_law_whole", "_law_thing", "_law_told", "_law_at", "_law_value"]) (sc := C8.fnScope (topS 75)) (by decide +kernel)) (fun _ _ _ _ _ => (pg_name (i := 12) sc_law_longer.nd rfl (by first | exact Or.inl rfl | exact Or.inr rfl))) (fun _ _ _ _ _ => (pts_one (pt_cmpR (r := rNeD K) (op_neD hr.units) (pv 12) (pv 3) (nomark _)))) (fun _ _ _ _ _ => (pv 12))))))))), ?_⟩
  refine q_trip (d := some p) hd (ev1_byIds ha (ev_vD rfl h1)) (fun H1 e1 => ev1_byIds hb (ev_vD rfl (up e1 h2))) fun u v pl H1 H2 H3 nl npl e1 f1 e2 f2 e3 nl2 l0 => ?_
  obtain ⟨pa, rfl, na, f1⟩ := f1
  obtain ⟨pb, rfl, nb, f2⟩ := f2
  replace f1 := DdX.up (e2.trans e3) f1
  replace f2 := DdX.up e3 f2
  have eH := (e1.trans e2).trans e3
  clear e1 e2 e3
  have h3' : D K (diff a b).d v3 H3 := up eH h3
  let kp : Int → Bool := fun k => hasD (thsM a.things) k && !(((diff a b).came.map Thing.id).any fun m => m == k)
  refine q_lockSet (d := some p) (F := Ls K (some p) (((thsM b.things).filter fun x => kp x.1).map fun x => PyData.int x.1)) ?_ fun v8 H4 e4 h8 => ?_
  · refine ev1_keys kp (fun k => .int k) (hd.up eH.wk) (by rw [show (thsM b.things).length = b.things.length from List.length_map _]; omega) f2 rfl (fun pp _ H1 e => ?_) (fun pp _ H1 e _ => ev_vD rfl (.int _))
    refine et_and (et_B (et_din (ev_vM rfl (upw e f1.dd)) (ev_vD rfl (.int _)))) fun _ => ?_
    refine et_test (ev_inL (neg := true) (ev_vD rfl (.int _)) ?_)
    rw [List.map_map]
    exact ev_lc1y (fun t : Thing => .int t.id) ((hd.up eH.wk).up e) (Nat.le_trans (List.length_filter_le _ _) (by omega)) (es_tup (df4 (ev_vD rfl (upw e h3')))) fun t _ y H1 e it => at0 (ev_vD rfl (d3 it))
  have kids : (((thsM b.things).filter fun x => kp x.1).map fun x => PyData.int x.1) = ((b.things.filter fun t => kp t.id).map Thing.id).map PyData.int := by
    unfold thsM
    rw [List.filter_map, List.map_map, List.map_map]
    rfl
  rw [kids] at h8
  have keep : ∀ u ∈ b.things, kp u.id = true → isNew a.things u = false := fun u hu hk => by
    cases e : isNew a.things u with
    | false => rfl
    | true =>
      have hk2 : (!(((diff a b).came.map Thing.id).any fun m => m == u.id)) = true := (Bool.and_eq_true_iff.mp hk).2
      have m : u.id ∈ (diff a b).came.map Thing.id := List.mem_map_of_mem (f := Thing.id) (List.mem_filter.mpr ⟨hu, e⟩)
      have z : (((diff a b).came.map Thing.id).any fun m => m == u.id) = true := List.any_eq_true.mpr ⟨_, m, beq_self_eq_true _⟩
      rw [z] at hk2
      cases hk2
  generalize hks : (b.things.filter fun t => kp t.id) = us at h8
  have inus : ∀ u ∈ us, u ∈ b.things ∧ isNew a.things u = false := fun u hu => by
    rw [← hks] at hu
    obtain ⟨h1, h2⟩ := List.mem_filter.mp hu
    exact ⟨h1, keep u h1 h2⟩
  have fp : (diff a b).chg.length ≤ 1000 := (diff_leads ha hb).parts.l3
  have f4 : (diff a b).came.length ≤ 1000 := (diff_leads ha hb).parts.l2
  have fu : us.length ≤ 1000 := by
    rw [← hks]
    exact Nat.le_trans (List.length_filter_le _ _) (by omega)
  have fl : ∀ x : Df, Leads a b x → SeqAt.shaped x.d = true := fun x L => (L.parts.flat.up (by decide)).shaped
  have e0 : Ext (some p) H H4 := eH.trans e4
  have l0' : LsX K [] pl H4 := LsX.up e4 npl l0
  have f2' : DdX K (thsM b.things) pb H4 := DdX.up e4 f2
  have ne2 : pb ≠ pl := fun z => by
    obtain ⟨_, z1, _⟩ := f2'
    obtain ⟨_, z2, _⟩ := l0'
    rw [z, z2] at z1
    cases z1
  refine q_ifT (d := some p) (R := fun σ' H' => ∃ w7 w9 w10, σ' = [some (.ref p), some v1, some v2, some v3, some (.ref pa), some (.ref pb), some (.ref pl), w7, some v8, w9, w10, none, none, none, none] ∧ Ext (some p) H H' ∧ ∃ xs : List Df, (∀ x ∈ xs, Cand a b x) ∧ xs.length ≤ 2 ∧ LsX K (xs.map Df.d) pl H') (et_test (ev_neL (ev_vL rfl h8) (ev_lst ei_nil (sml rfl) (hd.up e0.wk)) ?_ rfl)) (fun σ' H' ⟨w7, w9, w10, es, e', xs, hx, hl, lx⟩ => ?_) (fun ht H5 e5 tail => ?_) (fun ht H5 e5 tail => ?_)
  · refine ((flat_lst (n := 0) fun x hx => ?_).up (by decide)).shaped
    obtain ⟨n, _, rfl⟩ := List.mem_map.mp hx
    exact flat_int _
  · subst es
    refine q_app (d := some p) (x := (long3 a b).d) rfl npl lx (by rw [List.length_map]; omega) ?_ fun H6 H7 e6 t7 k7 l7 => ?_
    · exact ev_long3 (ev_vD rfl (up e' h2)) (ev_vD rfl (up e' h3))
    have e7 : Ext (some p) H H7 := ext_butD (e'.trans e6) nl k7
    have l7 : LsX K ((xs ++ [long3 a b]).map Df.d) pl H7 := by
      rw [List.map_append]
      exact l7
    have cands : ∀ x ∈ xs ++ [long3 a b], Cand a b x := fun x hx' => by
      rcases List.mem_append.mp hx' with z | z
      · exact hx x z
      · rw [List.mem_singleton] at z
        subst z
        exact ⟨long3_leads ha hb, fun ne => long3_size fun z => ne z.symm⟩
    refine s_ret (d := some p) (ev_lc1 (fun x : Df => !PyData.eqv x.d (diff a b).d) Df.d (hd.up e7.wk) (by rw [List.length_append]; show _ + 1 ≤ _; omega) (es_lst (ev_vL rfl (l7.ls npl))) (fun x hx' y H8 e8 it => et_test (ev_neD (ev_vD rfl it) (ev_vD rfl (upw (e7.wk.trans e8) h3)) (fl x (cands x hx').1) (fl _ (diff_leads ha hb)))) (fun x _ y H8 e8 it _ => ev_vD rfl it)) fun v H9 e9 g => ?_
    refine qq v H9 (e7.trans e9) ⟨_, fun x hx' => ?_, g⟩
    obtain ⟨z1, z2⟩ := List.mem_filter.mp hx'
    obtain ⟨c1, c2⟩ := cands x z1
    refine ⟨c1, c2 fun z => ?_⟩
    rw [z, (diff_leads ha hb).parts.flat.refl] at z2
    cases z2
  · show tSeq _ _ _ [some (.ref p), some v1, some v2, some v3, some (.ref pa), some (.ref pb), some (.ref pl), none, some v8, none, none, none, none, none, none] _
    have e05 := e0.trans e5
    have hd5 : DOk (some p) H5 := hd.up e05.wk
    have h85 := up e5 h8
    refine q_set (d := some p) (F := OneOf K ((us.map Thing.id).map .int)) (ev_callD (p, (us.map Thing.id).map PyData.int) ⟨?_, by show ((us.map Thing.id).map PyData.int).length ≤ 1000; rw [List.length_map, List.length_map]; exact fu⟩ rfl hd5 (ea_cons (ev_vDc rfl hd5) (ea_cons (F := Ls K (some p) ((us.map Thing.id).map PyData.int)) (ev_vL rfl h85) ea_nil))) fun v7 H6 e6 ho => ?_
    · show 0 < ((us.map Thing.id).map PyData.int).length
      cases us with
      | nil => exact absurd ht (by decide)
      | cons u us => exact Nat.succ_pos _
    obtain ⟨x7, hx7, hv7⟩ := ho
    rw [List.map_map] at hx7
    obtain ⟨u, hu, rfl⟩ := List.mem_map.mp hx7
    have h7 : D K (.int u.id) v7 H6 := hv7
    obtain ⟨ub, nu⟩ := inus u hu
    have look1 : getD? (thsM b.things) u.id = some u.d := by
      rw [thsM_get, look_of (asc_nodup hb.ths.ids) ub]
      rfl
    have e06 := e05.trans e6
    have hd6 : DOk (some p) H6 := hd.up e06.wk
    have h36 := up e06 h3
    refine q_set (d := some p) (F := D K (.tuple ((long1 a b u.id).chg.map chD))) ?_ fun v9 H7 e7 h9 => ?_
    · rw [long1_chg]
      exact ev_tupL (ev_lc1 (fun c : Chg => !decide (c.1 = u.id)) chD hd6 (by omega) (es_tup (df5 (ev_vD rfl h36))) (fun c _ y H1 e it => et_test (ev_neI (at0 (ev_vD rfl (chd3 it))) (ev_vD rfl (upw e h7)))) (fun c _ y H1 e it _ => ev_vD rfl it))
    have e07 := e06.trans e7
    have hd7 : DOk (some p) H7 := hd.up e07.wk
    have h37 := up e07 h3
    have e47 := (e5.trans e6).trans e7
    have f27 := DdX.up e47 f2'
    have h77 := up e7 h7
    refine q_app (d := some p) (x := (long1 a b u.id).d) rfl npl (LsX.up e47 npl l0') (by decide) ?_ fun H8 H9 e8 t9 k9 l9 => ?_
    · exact ev_long1 hd7 hb ub nu (ev_vD rfl h37) (ev_dget (ev_vM rfl f27.dd) (ev_vD rfl h77) look1) (ev_vD rfl h9)
    have e09 : Ext (some p) H H9 := ext_butD (e07.trans e8) nl k9
    have hd9 : DOk (some p) H9 := hd.up e09.wk
    have f29 : DdX K (thsM b.things) pb H9 := by
      obtain ⟨kvs, g1, g2⟩ := f27
      exact ⟨kvs, (k9 pb ne2).trans (e8.at g1 (dK_not _)), DtK.tk t9 g2⟩
    have h79 : D K (.int u.id) v7 H9 := Dt.tk t9 _ _ h77
    have n8 := (hb.ths.ok u ub).n8
    refine q_set (d := some p) (F := D K (.tuple ((whole u).map chD))) ?_ fun v10 H10 e10 h10 => ?_
    · have e : (whole u).map chD = u.nums.zipIdx.map fun q => chD (u.id, (q.2 : Int), q.1) := by
        unfold whole pickC
        rw [filter_true, List.map_map]
        rfl
      rw [e]
      exact ev_tupL (ev_lc2y (fun q : Int × Nat => chD (u.id, (q.2 : Int), q.1)) hd9 (by rw [List.length_zipIdx]; omega) (es_enumT (ea_cons (F := D K (.tuple (u.nums.map .int))) (at2 (ev_dget (ev_vM rfl f29.dd) (ev_vD rfl h79) look1)) ea_nil)) fun q _ x y H1 e ix iy => ev_tup (ei_cons (ev_vD rfl (upw e h79)) (ei_cons (ev_vD rfl ix) (ei_cons (ev_vD rfl iy) ei_nil))) (sml rfl))
    have e010 := e09.trans e10
    have hd10 : DOk (some p) H10 := hd.up e010.wk
    have h310 := up e010 h3
    refine s_app (d := some p) (x := (long2 a b u.id).d) rfl npl (LsX.up e10 npl l9) (show 1 < 100000 by decide) ?_ fun H11 H12 e11 t12 k12 l12 => tail _ H12 ⟨_, _, _, rfl, ext_butD (e010.trans e11) nl k12, [long1 a b u.id, long2 a b u.id], fun x hx => ?_, Nat.le_refl 2, l12⟩
    · exact ev_long2 hd10 ha hb ub nu fp (ev_vD rfl h310) (ev_vD rfl h10)
    · have old : sizeD (diff a b) < sizeD (long1 a b u.id) := long1_size ⟨u, ub, rfl, nu⟩
      (simp only [List.mem_cons, List.not_mem_nil, or_false] at hx)
      rcases hx with rfl | rfl
      · exact ⟨long1_leads ha hb _, fun _ => old⟩
      · exact ⟨long2_leads ha hb _, fun ne => long2_size fun z => ne z.symm⟩
  · exact tail _ H5 ⟨_, _, _, rfl, e0.trans e5, [], fun _ z => (List.not_mem_nil z).elim, by decide, LsX.up e5 npl l0'⟩
end
end Kp
set_option maxHeartbeats 410000
/-! Kp19: _law_pair_right. -/
namespace Kp
open L2 PySem PySem.Spec PyProof.Rows
section
variable {K : PySem.W.Frag} {d : Option Addr} {σ : L2.St} {H : Hp} {te ta tb tl : TE} {E : Ends} {tx : TS} {β : Type}
/-- for x in xs, xs one of many lists, where a turn leaves all but x -/
theorem q_forN {enc : β → PyData} {Gl : List β → Prop} {j : Nat} {tb' : TS} (h : Ev d tl σ H (AnyL K d enc Gl)) (hj : σ.set j none = σ)
    (ib : ∀ bs, Gl bs → ∀ a ∈ bs, ∀ x H1, Ext d H H1 → D K (enc a) x H1 → ∀ (N : L2.St → Hp → Prop) bk rt, (∀ H2, Ext d H1 H2 → N (σ.set j (some x)) H2) → tb' { nx := N, ct := N, bk := bk, rt := rt } (σ.set j (some x)) H1)
    (ie : ∀ y H1, Ext d H H1 → tx E (σ.set j y) H1) : tSeq (tFor (iList K tl) (gName j) tb') tx E σ H :=
  h H (Wk.refl H) _ fun v H1 e1 ⟨bs, gb, f⟩ => by
    obtain ⟨p, rfl, np, fx⟩ := Ls.x f
    obtain ⟨xs0, h0, _⟩ := id fx
    refine ⟨p, rfl, ⟨xs0, .inl (.inl h0)⟩, for_run (E := { E with nx := tx E }) (as := bs) (Keep := fun H' => LsX K (bs.map enc) p H') (Rl := fun a b => b = a) (Item := fun a => D K (enc a)) ⟨fun i H' t hi => ?_, fun H' t => ?_, fun i a H' x H'' ha t y => ?_⟩ (fun _ σ' H' => (∃ y, σ' = σ.set j y) ∧ Ext d H1 H') ⟨⟨none, hj.symm⟩, Ext.refl H1⟩ (fun i σ' H' ⟨_, e⟩ => LsX.up e np fx) (fun i a σ' H' x H'' ha ⟨⟨y, es⟩, e⟩ eq it' => ?_) fun σ' H' ⟨⟨y, es⟩, e⟩ => ?_⟩
    · obtain ⟨xs, h1, h2⟩ := t
      have len := dta_len h2
      exact ⟨xs, xs[i]'(by omega), .inl (.inl h1), by simp [len, hi]⟩
    · obtain ⟨xs, h1, h2⟩ := t
      have len := dta_len h2
      exact ⟨xs, .inl (.inl h1), by omega⟩
    · obtain ⟨xs, h1, h2⟩ := t
      obtain ⟨rfl, y⟩ := y
      exact ⟨rfl, dta_at h2 ha (y xs (.inl (.inl h1)))⟩
    · subst eq
      subst es
      show tb' _ ((σ.set j y).set j (some x)) _
      rw [List.set_set]
      exact ib bs gb a (List.mem_of_getElem? ha) x _ (e1.trans e) it' _ _ _ fun H2 e2 => ⟨⟨some x, rfl⟩, e.trans e2⟩
    · subst es
      exact ie y H' (e1.trans e)
end
section
variable {P : Program} {w : World} {K : PySem.W.Frag} {mg : Str → Option Value} {base : Heap} {CK CW gE : Addr}
theorem sc_law_pair_right : FnScope ["_law_dice_here", "_law_one", "_law_other", "_law_first", "_law_second", "_law_due", "_law_told", "_law_longer_here"] ["_law_dice_here", "_law_one", "_law_other"] (C8.fnScope s_law_pair_right) := C8.fnScope_by (by decide +kernel)
abbrev sp_law_pair_right (K : PySem.W.Frag) : Sp := Pr (fun q : LongA => some q.p) (fun q => q.a.Ok ∧ q.b.Ok) (fun q => [Dc q.p, D K (wdD q.a), D K (wdD q.b)]) (fun _ => D K (.bool true))
theorem c_law_pair_right (T : Txt K mg CK CW gE) : CalG P w K mg base 13 "_law_pair_right" (sp_law_pair_right K) := by
  refine cal_g T.d_law_pair_right sc_law_pair_right (fun _ => rfl) fun cdv f A outer s H vs Q E hg hr q hq hd hA qq => ?_
  obtain ⟨p, a, b⟩ := q
  obtain ⟨v0, v1, v2, rfl, h0, h1, h2⟩ := all3 hA
  obtain ⟨rfl, _⟩ : v0 = .ref p ∧ _ := h0
  have h1 : D K (wdD a) v1 H := h1
  have h2 : D K (wdD b) v2 H := h2
  have hd : DOk (some p) H := hd
  obtain ⟨ha, hb⟩ : a.Ok ∧ b.Ok := hq
  have L := diff_leads ha hb
  have ok := L.ok hb
  refine ⟨_, (pss_cons (ps_par (i := 3) (j := 4) rfl sc_law_pair_right.nd rfl rfl (by decide) rfl rfl (pa_cons (C8.pe_c (c_law_kp_real T) hr (by decide) (by rfl) (pa_cons (pv 1) pa_nil)) (pa_cons (C8.pe_c (c_law_kp_real T) hr (by decide) (by rfl) (pa_cons (pv 2) pa_nil)) pa_nil)) (by rfl)) (pss_cons (ps_par (i := 5) (j := 6) rfl sc_law_pair_right.nd rfl rfl (by decide) rfl rfl (pa_cons (C8.pe_c (c_law_kp_difference T) hr (by decide) (by rfl) (pa_cons (pv 1) (pa_cons (pv 2) pa_nil))) (pa_cons (C8.pe_c (c_difference T) hr (by decide) (by rfl) (pa_cons (pv 3) (pa_cons (pv 4) pa_nil))) pa_nil)) (by rfl)) (pss_cons (ps_if (PW.pt (pw_or (pt_cmpR op_ne (pe_callB (cr_repr hg hr.units) (by rfl) T.b_repr bt_repr (pa_cons (pv 6) pa_nil)) (pe_callB (cr_repr hg hr.units) (by rfl) T.b_repr bt_repr (pa_cons (pv 5) pa_nil)) (nomark _)) (pw_or (pt_not (pt_val (C8.pe_c (c_is_difference T) hr (by decide) (by rfl) (pa_cons (pv 6) pa_nil)))) (pw_or (pt_cmpR (op_neD hr.units) (C8.pe_c (c_size T) hr (by decide) (by rfl) (pa_cons (pv 6) pa_nil)) (C8.pe_c (c_law_kp_size T) hr (by decide) (by rfl) (pa_cons (pv 5) pa_nil)) (nomark _)) (pw_or1 (pt_cmpR (op_neW T rfl hr (by decide)) (C8.pe_c (c_applied T) hr (by decide) (by rfl) (pa_cons (pv 3) (pa_cons (pv 6) pa_nil))) (pv 4) (nomark _))))))) (pss_one (ps_ret pe_bl)) pss_nil) (pss_cons (ps_for PassesOwn.never rfl (pi_list (C8.pe_c (c_law_longer T) hr (by decide) (by rfl) (pa_cons (pv 0) (pa_cons (pv 1) (pa_cons (pv 2) (pa_cons (pv 5) pa_nil)))))) (pg_name (i := 7) sc_law_pair_right.nd rfl (by first | exact Or.inl rfl | exact Or.inr rfl)) (pss_one (ps_if (PW.pt (pw_or (pt_not (pt_val (C8.pe_c (c_is_difference T) hr (by decide) (by rfl) (pa_cons (pv 7) pa_nil)))) (pw_or (pt_cmpR (op_neW T rfl hr (by decide)) (C8.pe_c (c_applied T) hr (by decide) (by rfl) (pa_cons (pv 3) (pa_cons (pv 7) pa_nil))) (pv 4) (nomark _)) (pw_or1 (pt_cmpR op_le (C8.pe_c (c_size T) hr (by decide) (by rfl) (pa_cons (pv 7) pa_nil)) (C8.pe_c (c_size T) hr (by decide) (by rfl) (pa_cons (pv 5) pa_nil)) (nomark _)))))) (pss_one (ps_ret pe_bl)) pss_nil))) (pss_one (ps_ret (pe_cmpR (op_eqD hr.units) (C8.pe_c (c_difference T) hr (by decide) (by rfl) (pa_cons (pv 4) (pa_cons (pv 4) pa_nil))) (pe_tup (pa_cons (pe_ix ix_tup (pv 2) pe_int (fun _ _ => rfl)) (pa_cons (pe_ix ix_tup (pv 2) pe_int (fun _ _ => rfl)) (pa_cons (pe_ix ix_tup (pv 2) pe_int (fun _ _ => rfl)) (pa_cons (pe_tup pa_nil) (pa_cons (pe_tup pa_nil) (pa_cons (pe_tup pa_nil) pa_nil))))))) (nomark _)))))))), ?_⟩
  refine q_par (d := some p) (F := Wp K CW a) (G := Wp K CW b) (ev_callP a ha (ea_cons (ev_vD rfl h1) ea_nil)) (ev_callP b hb (ea_cons (ev_vD rfl h2) ea_nil)) fun v4 v5 H1 e1 h4 h5 => ?_
  have hd1 : DOk (some p) H1 := hd.up e1.wk
  replace h1 := up e1 h1
  replace h2 := up e1 h2
  refine q_par (d := some p) (F := D K (diff a b).d) (G := D K (diff a b).d) (ev_callP (a, b) ⟨ha, hb⟩ (ea_cons (ev_vD rfl h1) (ea_cons (ev_vD rfl h2) ea_nil))) (ev_callP (a, b) ⟨ha, hb⟩ (ea_cons (ev_vW rfl h4) (ea_cons (ev_vW rfl h5) ea_nil))) fun v6 v7 H2 e2 h6 h7 => ?_
  have hd2 : DOk (some p) H2 := hd1.up e2.wk
  replace h1 := up e2 h1
  replace h2 := up e2 h2
  replace h4 := up e2 h4
  replace h5 := up e2 h5
  have few : (diff a b).came.length ≤ 1000 := L.parts.l2
  refine q_if0 (d := some p) (et_orF (et_testF (ev_neText (ev_reprDf ok (ev_vD rfl h7)) (ev_reprDf ok (ev_vD rfl h6))) (by rw [decide_eq_true rfl]; rfl)) (et_orF (et_notF (et_B (ev_callP (diff a b) ok (ea_cons (ev_vD rfl h7) ea_nil)))) (et_orF (et_testF (ev_neI (ev_callP (diff a b) ok (ea_cons (ev_vD rfl h7) ea_nil)) (ev_callP (diff a b) few (ea_cons (ev_vD rfl h6) ea_nil))) (by rw [decide_eq_true rfl]; rfl)) (et_testF (ev_neW hb.ths.ok (ev_callP ((a, b), diff a b) ⟨ha, hb, L⟩ (ea_cons (ev_vW rfl h4) (ea_cons (ev_vD rfl h7) ea_nil))) (ev_vW rfl h5)) rfl)))) fun H3 e3 => ?_
  have hd3 : DOk (some p) H3 := hd2.up e3.wk
  replace h1 := up e3 h1
  replace h2 := up e3 h2
  replace h4 := up e3 h4
  replace h5 := up e3 h5
  replace h6 := up e3 h6
  refine q_forN (d := some p) (enc := Df.d) (Gl := fun xs => ∀ x ∈ xs, Longer a b x) (ev_callD (⟨p, a, b⟩ : LongA) ⟨ha, hb⟩ rfl hd3 (ea_cons (ev_vDc rfl hd3) (ea_cons (ev_vD rfl h1) (ea_cons (ev_vD rfl h2) (ea_cons (ev_vD rfl h6) ea_nil))))) rfl (fun xs gx x hx y H4 e4 it N bk rt k => ?_) fun y H4 e4 => ?_
  · obtain ⟨Lx, sx⟩ := gx x hx
    replace h4 := up e4 h4
    replace h5 := up e4 h5
    replace h6 := up e4 h6
    refine s_if (d := some p) (et_orF (et_notF (et_B (ev_callP x (Lx.ok hb) (ea_cons (ev_vD rfl it) ea_nil)))) (et_orF (et_testF (ev_neW hb.ths.ok (ev_callP ((a, b), x) ⟨ha, hb, Lx⟩ (ea_cons (ev_vW rfl h4) (ea_cons (ev_vD rfl it) ea_nil))) (ev_vW rfl h5)) rfl) (et_testF (ev_le (ev_callP x (Lx.ok hb) (ea_cons (ev_vD rfl it) ea_nil)) (ev_callP (diff a b) ok (ea_cons (ev_vD rfl h6) ea_nil))) (decide_eq_false (by omega))))) (fun z => nomatch z) fun _ H5 e5 => k H5 e5
  · replace h2 := up e4 h2
    replace h5 := up e4 h5
    have Lb := diff_leads hb hb
    have fb := (Lb.parts.flat.up (m := 64) (by decide))
    refine s_ret (d := some p) ((ev_eqD (x := (diff b b).d) (y := (diff b b).d) (ev_callP (b, b) ⟨hb, hb⟩ (ea_cons (ev_vW rfl h5) (ea_cons (ev_vW rfl h5) ea_nil))) ((ev_tup (ei_cons (wd0 (ev_vD rfl h2)) (ei_cons (wd1 (ev_vD rfl h2)) (ei_cons (wd2 (ev_vD rfl h2)) (ei_cons (ev_tup ei_nil (sml rfl)) (ei_cons (ev_tup ei_nil (sml rfl)) (ei_cons (ev_tup ei_nil (sml rfl)) ei_nil)))))) (sml rfl)).is (diff_selfD hb).symm) fb.shaped fb.shaped).is (by rw [fb.refl])) fun v H5 e5 g => qq v H5 ((((e1.trans e2).trans e3).trans e4).trans e5) g
end
end Kp
set_option maxHeartbeats 410000
/-! Kp20: _law_right. -/
namespace Kp
open L2 PySem PySem.Spec PyProof.Rows
section
variable {K : PySem.W.Frag} {d : Option Addr}
theorem wds_of : ∀ {ds : List PyData}, (∀ x ∈ ds, ∃ y : Wd, y.Ok ∧ x = wdD y) → ∃ bs : List Wd, (∀ y ∈ bs, y.Ok) ∧ ds = bs.map wdD
  | [], _ => ⟨[], fun _ z => (List.not_mem_nil z).elim, rfl⟩
  | x :: ds, h => by
    obtain ⟨y, y1, rfl⟩ := h x List.mem_cons_self
    obtain ⟨bs, b1, rfl⟩ := wds_of fun z hz => h z (List.mem_cons_of_mem _ hz)
    refine ⟨y :: bs, fun z hz => ?_, rfl⟩
    (rcases List.mem_cons.mp hz with rfl | hz)
    · exact y1
    · exact b1 z hz
end
section
variable {P : Program} {w : World} {K : PySem.W.Frag} {mg : Str → Option Value} {base : Heap} {CK CW gE : Addr}
theorem sc_law_right : FnScope ["_law_dice_here", "_law_one", "_law_other", "_law_some", "_law_near_here", "_law_forth", "_law_back"] ["_law_dice_here"] (C8.fnScope s_law_right) := C8.fnScope_by (by decide +kernel)
abbrev sp_law_right (K : PySem.W.Frag) : Sp := Pr (fun p : Addr => some p) (fun _ => True) (fun p => [Dc p]) (fun _ => D K (.bool true))
theorem c_law_right (T : Txt K mg CK CW gE) : CalG P w K mg base 14 "_law_right" (sp_law_right K) := by
  refine cal_g T.d_law_right sc_law_right (fun _ => rfl) fun cdv f A outer s H vs Q E hg hr p _ hd hA qq => ?_
  obtain ⟨v0, rfl, h0⟩ := all1 hA
  obtain ⟨rfl, _⟩ : v0 = .ref p ∧ _ := h0
  have hd : DOk (some p) H := hd
  refine ⟨_, (pss_cons (ps_set (i := 1) sc_law_right.nd rfl (by first | exact Or.inl rfl | exact Or.inr rfl) (C8.pe_c (c_law_kp_world T) hr (by decide) (by rfl) (pa_cons (pv 0) (pa_cons (C8.pe_c (c_law_roll T) hr (by decide) (by rfl) (pa_cons (pv 0) (pa_cons pe_int pa_nil))) (pa_cons (C8.pe_c (c_law_pick T) hr (by decide) (by rfl) (pa_cons (pv 0) (pa_cons (pe_lst (pa_cons pe_int (pa_cons pe_int (pa_cons pe_int pa_nil)))) pa_nil))) pa_nil))))) (pss_cons (ps_set (i := 2) sc_law_right.nd rfl (by first | exact Or.inl rfl | exact Or.inr rfl) (C8.pe_c (c_law_kp_near T) hr (by decide) (by rfl) (pa_cons (pv 0) (pa_cons (pv 1) (pa_cons (C8.pe_c (c_law_roll T) hr (by decide) (by rfl) (pa_cons (pv 0) (pa_cons pe_int pa_nil))) pa_nil))))) (pss_cons (ps_set (i := 3) sc_law_right.nd rfl (by first | exact Or.inl rfl | exact Or.inr rfl) (pe_lst (pa_cons (pv 2) (pa_cons (C8.pe_c (c_law_kp_near T) hr (by decide) (by rfl) (pa_cons (pv 0) (pa_cons (pv 2) (pa_cons pe_int pa_nil)))) (pa_cons (C8.pe_c (c_law_kp_world T) hr (by decide) (by rfl) (pa_cons (pv 0) (pa_cons pe_int (pa_cons pe_int pa_nil)))) pa_nil))))) (pss_cons (ps_for PassesOwn.never rfl (pi_list (pv 3)) (pg_name (i := 4) sc_law_right.nd rfl (by first | exact Or.inl rfl | exact Or.inr rfl)) (pss_one (ps_if (PW.pt (pw_or (pt_not (pt_val (pe_g (c_law_pair_right T) hg hr (by decide) (by rfl) (pa_cons (pv 0) (pa_cons (pv 1) (pa_cons (pv 4) pa_nil)))))) (pw_or1 (pt_not (pt_val (pe_g (c_law_pair_right T) hg hr (by decide) (by rfl) (pa_cons (pv 0) (pa_cons (pv 4) (pa_cons (pv 1) pa_nil))))))))) (pss_one (ps_ret pe_bl)) pss_nil))) (pss_cons (ps_par (i := 5) (j := 6) rfl sc_law_right.nd rfl rfl (by decide) rfl rfl (pa_cons (C8.pe_c (c_difference T) hr (by decide) (by rfl) (pa_cons (C8.pe_c (c_law_kp_real T) hr (by decide) (by rfl) (pa_cons (pv 1) pa_nil)) (pa_cons (C8.pe_c (c_law_kp_real T) hr (by decide) (by rfl) (pa_cons (pv 2) pa_nil)) pa_nil))) (pa_cons (C8.pe_c (c_difference T) hr (by decide) (by rfl) (pa_cons (C8.pe_c (c_law_kp_real T) hr (by decide) (by rfl) (pa_cons (pv 2) pa_nil)) (pa_cons (C8.pe_c (c_law_kp_real T) hr (by decide) (by rfl) (pa_cons (pv 1) pa_nil)) pa_nil))) pa_nil)) (by rfl)) (pss_one (ps_ret (pe_cmpR (op_eqW T rfl hr (by decide)) (C8.pe_c (c_applied T) hr (by decide) (by rfl) (pa_cons (C8.pe_c (c_applied T) hr (by decide) (by rfl) (pa_cons (C8.pe_c (c_law_kp_real T) hr (by decide) (by rfl) (pa_cons (pv 1) pa_nil)) (pa_cons (pv 5) pa_nil))) (pa_cons (pv 6) pa_nil))) (C8.pe_c (c_law_kp_real T) hr (by decide) (by rfl) (pa_cons (pv 1) pa_nil)) (nomark _))))))))), ?_⟩
  refine q_set (d := some p) (F := Any K wdD (Wd.Sm 100)) (ev_callE (Fs := [Dc p, IntP fun r => 0 ≤ r ∧ r < 30, IntP fun r => 0 ≤ r ∧ r ≤ 12]) hd (ea_cons (ev_vDc rfl hd) (ea_cons (ev_roll hd rfl ev_int (by decide) (by decide)) (ea_cons (ev_pick (is := [2, 4, 12]) hd rfl (ei_cons ev_int (ei_cons ev_int (ei_cons ev_int ei_nil))) (by decide) (by decide) (by decide)) ea_nil))) fun vs H1 e1 hv => ?_) fun v1 H1 e1 h1 => ?_
  · obtain ⟨x0, x1, x2, rfl, g0, ⟨i, ⟨i0, i1⟩, rfl⟩, ⟨j, ⟨j0, j1⟩, rfl⟩⟩ := all3 hv
    have i1 : i < 30 := i1
    exact ⟨(p, i, j), ⟨⟨i0, Int.lt_trans i1 (by decide)⟩, j0, j1⟩, rfl, ⟨g0, .int i, .int j, trivial⟩, fun v H2 h => h⟩
  obtain ⟨a, sa, h1⟩ := h1
  have hd1 : DOk (some p) H1 := hd.up e1.wk
  refine q_set (d := some p) (F := Any K wdD (Wd.Sm 106)) (ev_callE (Fs := [Dc p, D K (wdD a), IntP fun r => 0 ≤ r ∧ r < 30]) hd1 (ea_cons (ev_vDc rfl hd1) (ea_cons (ev_vD rfl h1) (ea_cons (ev_roll hd1 rfl ev_int (by decide) (by decide)) ea_nil))) fun vs H1 e1 hv => ?_) fun v2 H2 e2 h2 => ?_
  · obtain ⟨x0, x1, x2, rfl, g0, g1, ⟨i, ⟨i0, i1⟩, rfl⟩⟩ := all3 hv
    have i1 : i < 30 := i1
    exact ⟨⟨p, a, i, 100⟩, ⟨sa, show (100 : Int) ≤ 1000 by decide, i0, Int.lt_trans i1 (by decide)⟩, rfl, ⟨g0, g1, .int i, trivial⟩, fun v H2 h => h⟩
  obtain ⟨b, sb, h2⟩ := h2
  replace h1 : D K (wdD a) v1 H2 := up e2 h1
  have hd2 : DOk (some p) H2 := hd1.up e2.wk
  have n1 : Ev (some p) (tCall (sp_law_kp_near K) [] C8.E0 (tCons (tVar 0) (tCons (tVar 2) (tCons (tC (.int 5)) tNil)))) [some (.ref p), some v1, some v2, none, none, none, none] H2 (Any K wdD (Wd.Sm 112)) := ev_callD (⟨p, b, 5, 106⟩ : NearA) ⟨sb, show (106 : Int) ≤ 1000 by decide, show TickOk 5 from ⟨by decide, by decide⟩⟩ rfl hd2 (ea_cons (ev_vDc rfl hd2) (ea_cons (ev_vD rfl h2) (ea_cons ev_int ea_nil)))
  have n2 : Ev (some p) (tCall (sp_law_kp_world K) [] C8.E0 (tCons (tVar 0) (tCons (tC (.int 7)) (tCons (tC (.int 5)) tNil)))) [some (.ref p), some v1, some v2, none, none, none, none] H2 (Any K wdD (Wd.Sm 100)) := ev_callD ((p, 7, 5) : WorldA) ⟨show TickOk 7 from ⟨by decide, by decide⟩, show (0 : Int) ≤ 5 by decide, show (5 : Int) ≤ 12 by decide⟩ rfl hd2 (ea_cons (ev_vDc rfl hd2) (ea_cons ev_int (ea_cons ev_int ea_nil)))
  refine q_set (d := some p) (F := AnyL K (some p) wdD fun bs => ∀ y ∈ bs, y.Ok) ((ev_lstN (K := K) (Gx := fun x => ∃ y : Wd, y.Ok ∧ x = wdD y) (Fs := [D K (wdD b), Any K wdD (Wd.Sm 112), Any K wdD (Wd.Sm 100)]) hd2 (ea_cons (ev_vD rfl h2) (ea_cons n1 (ea_cons n2 ea_nil))) (show 3 ≤ 100000 by decide) fun F hF v H3 hv => ?_).imp fun v H3 _ hv => ?_) fun v3 H3 e3 h3 => ?_
  · simp only [List.mem_cons, List.not_mem_nil, or_false] at hF
    rcases hF with rfl | rfl | rfl
    · exact ⟨_, ⟨b, sb.ok, rfl⟩, hv⟩
    · obtain ⟨y, sy, hv⟩ := hv
      exact ⟨_, ⟨y, sy.ok, rfl⟩, hv⟩
    · obtain ⟨y, sy, hv⟩ := hv
      exact ⟨_, ⟨y, sy.ok, rfl⟩, hv⟩
  · obtain ⟨ds, _, h, l⟩ := hv
    obtain ⟨bs, b1, rfl⟩ := wds_of h
    exact ⟨bs, b1, l⟩
  replace h1 : D K (wdD a) v1 H3 := up e3 h1
  replace h2 : D K (wdD b) v2 H3 := up e3 h2
  have hd3 : DOk (some p) H3 := hd2.up e3.wk
  have ha := sa.ok
  have hb := sb.ok
  refine q_forN (d := some p) (enc := wdD) (Gl := fun bs => ∀ y ∈ bs, y.Ok) (ev_v rfl h3) rfl (fun bs gb x hx y H4 e4 it N bk rt k => ?_) fun y H4 e4 => ?_
  · have hx := gb x hx
    have hd4 : DOk (some p) H4 := hd3.up e4.wk
    replace h1 := up e4 h1
    exact s_if (d := some p) (et_orF (et_notF (et_B (ev_callD (⟨p, a, x⟩ : LongA) ⟨ha, hx⟩ rfl hd4 (ea_cons (ev_vDc rfl hd4) (ea_cons (ev_vD rfl h1) (ea_cons (ev_vD rfl it) ea_nil)))))) (et_notF (et_B (ev_callD (⟨p, x, a⟩ : LongA) ⟨hx, ha⟩ rfl hd4 (ea_cons (ev_vDc rfl hd4) (ea_cons (ev_vD rfl it) (ea_cons (ev_vD rfl h1) ea_nil))))))) (fun z => nomatch z) fun _ H5 e5 => k H5 e5
  replace h1 := up e4 h1
  replace h2 := up e4 h2
  have L1 := diff_leads ha hb
  have L2 := diff_leads hb ha
  refine q_par (d := some p) (F := D K (diff a b).d) (G := D K (diff b a).d) (ev_callP (a, b) ⟨ha, hb⟩ (ea_cons (ev_callP a ha (ea_cons (ev_vD rfl h1) ea_nil)) (ea_cons (ev_callP b hb (ea_cons (ev_vD rfl h2) ea_nil)) ea_nil))) (ev_callP (b, a) ⟨hb, ha⟩ (ea_cons (ev_callP b hb (ea_cons (ev_vD rfl h2) ea_nil)) (ea_cons (ev_callP a ha (ea_cons (ev_vD rfl h1) ea_nil)) ea_nil))) fun v5 v6 H5 e5 h5 h6 => ?_
  replace h1 := up e5 h1
  exact s_ret (d := some p) (ev_eqW ha.ths.ok (ev_callP ((b, a), diff b a) ⟨hb, ha, L2⟩ (ea_cons (ev_callP ((a, b), diff a b) ⟨ha, hb, L1⟩ (ea_cons (ev_callP a ha (ea_cons (ev_vD rfl h1) ea_nil)) (ea_cons (ev_vD rfl h5) ea_nil))) (ea_cons (ev_vD rfl h6) ea_nil))) (ev_callP a ha (ea_cons (ev_vD rfl h1) ea_nil))) fun v H6 e6 g => qq v H6 (((((e1.trans e2).trans e3).trans e4).trans e5).trans e6) g
end
end Kp
set_option maxHeartbeats 410000
/-! Kp21: law. -/
namespace Kp
open L2 PySem PySem.Spec PyProof.Rows
def thA : Thing := ⟨0, "hero", [2, 2, 0, 0, 0]⟩
def thB : Thing := ⟨2, "coin", [5, 2, 0, 0]⟩
def thC : Thing := ⟨0, "hero", [3, 2, 1, 0, 0]⟩
def thD : Thing := ⟨3, "coin", [7, 1, 0, 0]⟩
def wA : Wd := ⟨4, 3, 9, [thA, thB]⟩
def wB : Wd := ⟨5, 4, 9, [thC, thD]⟩
def wE : Wd := ⟨0, 0, 0, []⟩
theorem nums_ok {ns : List Int} (h : (ns.all fun n => decide (-1000000000 ≤ n) && decide (n ≤ 1000000000)) = true) : ∀ n ∈ ns, NumOk n := fun n hn => by
  have z := List.all_eq_true.mp h n hn
  (rw [Bool.and_eq_true, decide_eq_true_eq, decide_eq_true_eq] at z)
  exact z
theorem thA_ok : thA.Ok := ⟨⟨by decide, by decide⟩, kind1, by decide, by decide, nums_ok (by decide +kernel)⟩
theorem thB_ok : thB.Ok := ⟨⟨by decide, by decide⟩, kind2, by decide, by decide, nums_ok (by decide +kernel)⟩
theorem thC_ok : thC.Ok := ⟨⟨by decide, by decide⟩, kind1, by decide, by decide, nums_ok (by decide +kernel)⟩
theorem thD_ok : thD.Ok := ⟨⟨by decide, by decide⟩, kind2, by decide, by decide, nums_ok (by decide +kernel)⟩
theorem wA_ok : wA.Ok := ⟨⟨by decide, by decide⟩, ⟨by decide, by decide⟩, ⟨by decide, by decide⟩, by decide, fun t ht => by
  rcases List.mem_cons.mp ht with rfl | ht
  · exact thA_ok
  · rw [List.mem_singleton.mp ht]
    exact thB_ok, by unfold Asc; decide⟩
theorem wB_ok : wB.Ok := ⟨⟨by decide, by decide⟩, ⟨by decide, by decide⟩, ⟨by decide, by decide⟩, by decide, fun t ht => by
  rcases List.mem_cons.mp ht with rfl | ht
  · exact thC_ok
  · rw [List.mem_singleton.mp ht]
    exact thD_ok, by unfold Asc; decide⟩
theorem wE_ok : wE.Ok := ⟨⟨by decide, by decide⟩, ⟨by decide, by decide⟩, ⟨by decide, by decide⟩, by decide, fun t ht => (List.not_mem_nil ht).elim, by unfold Asc; decide⟩
theorem step_gone : (diff wA wB).gone = [2] := by decide +kernel
theorem step_chg : (diff wA wB).chg = [(0, 0, 3), (0, 2, 1)] := by decide +kernel
theorem step_came : (diff wA wB).came = [thD] := by
  show [thC, thD].filter (isNew [thA, thB]) = [thD]
  rw [List.filter_cons_of_neg (by decide +kernel), List.filter_cons_of_pos (by decide +kernel), List.filter_nil]
theorem step_d : (diff wA wB).d = .tuple [.int 5, .int 4, .int 9, .tuple [.int 2], .tuple [.tuple [.int 3, .str "coin", .tuple [.int 7, .int 1, .int 0, .int 0]]], .tuple [.tuple [.int 0, .int 0, .int 3], .tuple [.int 0, .int 2, .int 1]]] := by
  unfold Df.d thsD
  rw [step_gone, step_chg, step_came]
  rfl
theorem step_size : sizeD (diff wA wB) = 11 := by
  unfold sizeD
  rw [step_gone, step_chg, step_came]
  rfl
theorem back_gone : (diff wB wA).gone = [3] := by decide +kernel
theorem ext_new {p : Addr} {H H1 H2 : Hp} (e : Ext none H H1) (hp : H1 p = none) (e2 : Ext (some p) H1 H2) : Ext none H H2 := fun a o ha => by
  have ne : a ≠ p := ne_of_none ha (e.free hp)
  rcases e2 a o (e.at0 ha) with h | ⟨z, _⟩
  · exact .inl h
  · cases z
    exact absurd rfl ne
section
variable {K : PySem.W.Frag} {σ : L2.St} {H : Hp} {ta tb : TE} {E : Ends} {tx : TS}
theorem q_dice {ns : List Int} {i j : Nat} (hi : i ≤ 100) (h : EvA none (tCons ta (tCons tb tNil)) σ H [Sq K ns, D K (.int (i : Int))]) (k : ∀ p H1 H2, Ext none H H1 → H1 p = none → Ext none H1 H2 → (∃ o, IsDice o ∧ H2 p = some o) → tx E (σ.set j (some (.ref p))) H2) : tSeq (tAsg (tCall (sp_law_dice K) [] C8.E0 (tCons ta (tCons tb tNil))) (gName j)) tx E σ H :=
  by
    unfold tSeq tAsg tCall
    exact h H (Wk.refl H) _ fun vs H1 e1 f => ⟨ns, i, hi, by rw [List.append_nil]; exact f, fun p H2 e2 hp hd => k p H1 H2 e1 hp e2 hd⟩
end
section
variable {P : Program} {w : World} {K : PySem.W.Frag} {mg : Str → Option Value} {base : Heap} {CK CW gE : Addr}
theorem sc_law : FnScope ["_law_script", "_law_spot", "_law_dice_here", "_law_one", "_law_two", "_law_step", "_law_back"] ["_law_script"] (C8.fnScope s_law) := C8.fnScope_by (by decide +kernel)
abbrev sp_law (K : PySem.W.Frag) : Sp := Pr (fun _ => none) (fun _ => True) (fun ns : List Int => [Sq K ns]) (fun _ => D K (.bool true))
theorem fn_law (T : Txt K mg CK CW gE) {fl : Addr} {fd : FuncData} (F : C8.Fun K "law" "law" s_law fl fd) : FnG P w K mg base 15 fl fd ["_law_script"] (sp_law K) := by
  refine fn_gP F sc_law (fun _ => rfl) fun cdv f A outer s H vs Q E hg hr ns _ _ hA qq => ?_
  obtain ⟨v0, rfl, h0⟩ := all1 hA
  have h0 : Sq K ns v0 H := h0
  refine ⟨_, (pss_cons (ps_for PassesOwn.never rfl (pi_range1 (by rfl) T.b_range (pa_cons (pe_callB (call_max2 rfl) (by rfl) T.b_max bt_max (pa_cons pe_int (pa_cons (pe_callB (call_min2 rfl) (by rfl) T.b_min bt_min (pa_cons pe_int (pa_cons (pe_callB call_len_seq (by rfl) T.b_len bt_len (pa_cons (pv 0) pa_nil)) pa_nil))) pa_nil))) pa_nil)) (pg_name (i := 1) sc_law.nd rfl (by first | exact Or.inl rfl | exact Or.inr rfl)) (pss_cons (ps_set (i := 2) sc_law.nd rfl (by first | exact Or.inl rfl | exact Or.inr rfl) (C8.pe_c (c_law_dice T) hr (by decide) (by rfl) (pa_cons (pv 0) (pa_cons (pv 1) pa_nil)))) (pss_one (ps_if (PW.pt (pw_or (pt_not (pt_val (pe_g (c_law_right T) hg hr (by decide) (by rfl) (pa_cons (pv 2) pa_nil)))) (pw_or1 (pt_not (pt_val (pe_g (c_law_right T) hg hr (by decide) (by rfl) (pa_cons (pv 2) pa_nil))))))) (pss_one (ps_ret pe_bl)) pss_nil)))) (pss_cons (ps_set (i := 3) sc_law.nd rfl (by first | exact Or.inl rfl | exact Or.inr rfl) (C8.pe_mk (c_World T) hr (by decide) (by rfl) (pa_cons pe_int (pa_cons pe_int (pa_cons pe_int (pa_cons (pe_tup (pa_cons (pe_tup (pa_cons pe_int (pa_cons pe_str (pa_cons (pe_tup (pa_cons pe_int (pa_cons pe_int (pa_cons pe_int (pa_cons pe_int (pa_cons pe_int pa_nil)))))) pa_nil)))) (pa_cons (pe_tup (pa_cons pe_int (pa_cons pe_str (pa_cons (pe_tup (pa_cons pe_int (pa_cons pe_int (pa_cons pe_int (pa_cons pe_int pa_nil))))) pa_nil)))) pa_nil))) pa_nil)))))) (pss_cons (ps_set (i := 4) sc_law.nd rfl (by first | exact Or.inl rfl | exact Or.inr rfl) (C8.pe_mk (c_World T) hr (by decide) (by rfl) (pa_cons pe_int (pa_cons pe_int (pa_cons pe_int (pa_cons (pe_tup (pa_cons (pe_tup (pa_cons pe_int (pa_cons pe_str (pa_cons (pe_tup (pa_cons pe_int (pa_cons pe_int (pa_cons pe_int (pa_cons pe_int (pa_cons pe_int pa_nil)))))) pa_nil)))) (pa_cons (pe_tup (pa_cons pe_int (pa_cons pe_str (pa_cons (pe_tup (pa_cons pe_int (pa_cons pe_int (pa_cons pe_int (pa_cons pe_int pa_nil))))) pa_nil)))) pa_nil))) pa_nil)))))) (pss_cons (ps_par (i := 5) (j := 6) rfl sc_law.nd rfl rfl (by decide) rfl rfl (pa_cons (C8.pe_c (c_difference T) hr (by decide) (by rfl) (pa_cons (pv 3) (pa_cons (pv 4) pa_nil))) (pa_cons (C8.pe_c (c_difference T) hr (by decide) (by rfl) (pa_cons (pv 4) (pa_cons (pv 3) pa_nil))) pa_nil)) (by rfl)) (pss_cons (ps_if (PW.pt (pw_or (pt_cmpR (op_neD hr.units) (pv 5) (pe_tup (pa_cons pe_int (pa_cons pe_int (pa_cons pe_int (pa_cons (pe_tup (pa_cons pe_int pa_nil)) (pa_cons (pe_tup (pa_cons (pe_tup (pa_cons pe_int (pa_cons pe_str (pa_cons (pe_tup (pa_cons pe_int (pa_cons pe_int (pa_cons pe_int (pa_cons pe_int pa_nil))))) pa_nil)))) pa_nil)) (pa_cons (pe_tup (pa_cons (pe_tup (pa_cons pe_int (pa_cons pe_int (pa_cons pe_int pa_nil)))) (pa_cons (pe_tup (pa_cons pe_int (pa_cons pe_int (pa_cons pe_int pa_nil)))) pa_nil))) pa_nil))))))) (nomark _)) (pw_or (pt_cmpR (op_neD hr.units) (C8.pe_c (c_size T) hr (by decide) (by rfl) (pa_cons (pv 5) pa_nil)) pe_int (nomark _)) (pw_or1 (pt_cmpR (op_neW T rfl hr (by decide)) (C8.pe_c (c_applied T) hr (by decide) (by rfl) (pa_cons (pv 3) (pa_cons (pv 5) pa_nil))) (pv 4) (nomark _)))))) (pss_one (ps_ret pe_bl)) pss_nil) (pss_one (ps_ret (pe_and (pe_cmpR (op_eqD hr.units) (pe_ix ix_tup (pv 6) pe_int (fun _ _ => rfl)) (pe_tup (pa_cons pe_int pa_nil)) (nomark _)) (pe_and (pe_cmpR (op_eqW T rfl hr (by decide)) (C8.pe_c (c_applied T) hr (by decide) (by rfl) (pa_cons (pv 4) (pa_cons (pv 6) pa_nil))) (pv 3) (nomark _)) (pe_one (pe_cmpR (op_eqD hr.units) (C8.pe_c (c_size T) hr (by decide) (by rfl) (pa_cons (C8.pe_c (c_difference T) hr (by decide) (by rfl) (pa_cons (C8.pe_mk (c_World T) hr (by decide) (by rfl) (pa_cons pe_int (pa_cons pe_int (pa_cons pe_int (pa_cons (pe_tup pa_nil) pa_nil))))) (pa_cons (C8.pe_mk (c_World T) hr (by decide) (by rfl) (pa_cons pe_int (pa_cons pe_int (pa_cons pe_int (pa_cons (pe_tup pa_nil) pa_nil))))) pa_nil))) pa_nil)) pe_int (nomark _)))))))))))), ?_⟩
  refine q_forRN (d := none) (Pn := fun n => 0 ≤ n ∧ n ≤ 3) (ea_cons (ev_intP (ev_maxD ev_int (ev_minD ev_int (ev_lenSq (ev_vSq rfl h0)))) ?_) ea_nil) (fun n hn => ⟨by omega, by omega⟩) fun n H1 hn e1 => ?_
  · split <;> split <;> omega
  refine ⟨fun _ σ' H' => (∃ y z, σ' = [some v0, y, z, none, none, none, none]) ∧ Ext none H1 H', ⟨⟨none, none, rfl⟩, Ext.refl H1⟩, fun N bk rt i σ' H' hi ⟨⟨y, z, es⟩, e⟩ k => ?_, fun σ' H2 ⟨⟨y, z, es⟩, e2⟩ => ?_⟩
  · subst es
    have hi3 : i ≤ 100 := by omega
    refine q_dice hi3 (ea_cons (ev_vSq (ns := ns) rfl (up (e1.trans e) h0)) (ea_cons (ev_vD (K := K) rfl (.int _)) ea_nil)) fun p H3 H4 e3 hp e4 hd => ?_
    have hd : DOk (some p) H4 := fun q z => by
      cases z
      exact hd
    refine s_if (d := some p) (et_orF (et_notF (et_B (ev_callD p trivial rfl hd (ea_cons (ev_vDc rfl hd) ea_nil)))) (et_notF (et_B (ev_callD p trivial rfl hd (ea_cons (ev_vDc rfl hd) ea_nil))))) (fun z => nomatch z) fun _ H5 e5 => k _ H5 ⟨⟨_, _, rfl⟩, ext_new (e.trans e3) hp (e4.any.trans e5)⟩
  subst es
  refine q_set (d := none) (F := Wp K CW wA) (ev_World T (x := wA) (b := false) ⟨fun _ => wA_ok, by decide⟩ (ea_cons ev_int (ea_cons ev_int (ea_cons ev_int (ea_cons (F := D K (thsD wA.things)) (ev_tup (ei_cons (ev_tup (ei_cons ev_int (ei_cons ev_str (ei_cons (ev_tup (ei_cons ev_int (ei_cons ev_int (ei_cons ev_int (ei_cons ev_int (ei_cons ev_int ei_nil))))) (sml rfl)) ei_nil))) (sml rfl)) (ei_cons (ev_tup (ei_cons ev_int (ei_cons ev_str (ei_cons (ev_tup (ei_cons ev_int (ei_cons ev_int (ei_cons ev_int (ei_cons ev_int ei_nil)))) (sml rfl)) ei_nil))) (sml rfl)) ei_nil)) (sml rfl)) ea_nil))))) fun v3 H3 e3 h3 => ?_
  refine q_set (d := none) (F := Wp K CW wB) (ev_World T (x := wB) (b := false) ⟨fun _ => wB_ok, by decide⟩ (ea_cons ev_int (ea_cons ev_int (ea_cons ev_int (ea_cons (F := D K (thsD wB.things)) (ev_tup (ei_cons (ev_tup (ei_cons ev_int (ei_cons ev_str (ei_cons (ev_tup (ei_cons ev_int (ei_cons ev_int (ei_cons ev_int (ei_cons ev_int (ei_cons ev_int ei_nil))))) (sml rfl)) ei_nil))) (sml rfl)) (ei_cons (ev_tup (ei_cons ev_int (ei_cons ev_str (ei_cons (ev_tup (ei_cons ev_int (ei_cons ev_int (ei_cons ev_int (ei_cons ev_int ei_nil)))) (sml rfl)) ei_nil))) (sml rfl)) ei_nil)) (sml rfl)) ea_nil))))) fun v4 H4 e4 h4 => ?_
  replace h3 := up e4 h3
  have LA := diff_leads wA_ok wB_ok
  have LB := diff_leads wB_ok wA_ok
  refine q_par (d := none) (F := D K (diff wA wB).d) (G := D K (diff wB wA).d) (ev_callP (wA, wB) ⟨wA_ok, wB_ok⟩ (ea_cons (ev_vW rfl h3) (ea_cons (ev_vW rfl h4) ea_nil))) (ev_callP (wB, wA) ⟨wB_ok, wA_ok⟩ (ea_cons (ev_vW rfl h4) (ea_cons (ev_vW rfl h3) ea_nil))) fun v5 v6 H5 e5 h5 h6 => ?_
  replace h3 := up e5 h3
  replace h4 := up e5 h4
  have fa := (LA.parts.flat.up (m := 64) (by decide))
  refine q_if0 (d := none) (et_orF (et_testF (ev_neD (x := (diff wA wB).d) (y := (diff wA wB).d) (ev_vD rfl h5) ((ev_tup (ei_cons ev_int (ei_cons ev_int (ei_cons ev_int (ei_cons (ev_tup (ei_cons ev_int ei_nil) (sml rfl)) (ei_cons (ev_tup (ei_cons (ev_tup (ei_cons ev_int (ei_cons ev_str (ei_cons (ev_tup (ei_cons ev_int (ei_cons ev_int (ei_cons ev_int (ei_cons ev_int ei_nil)))) (sml rfl)) ei_nil))) (sml rfl)) ei_nil) (sml rfl)) (ei_cons (ev_tup (ei_cons (ev_tup (ei_cons ev_int (ei_cons ev_int (ei_cons ev_int ei_nil))) (sml rfl)) (ei_cons (ev_tup (ei_cons ev_int (ei_cons ev_int (ei_cons ev_int ei_nil))) (sml rfl)) ei_nil)) (sml rfl)) ei_nil)))))) (sml rfl)).is step_d.symm) fa.shaped fa.shaped) (by rw [fa.refl]; rfl)) (et_orF (et_testF (ev_neI (ev_callP (diff wA wB) (LA.ok wB_ok) (ea_cons (ev_vD rfl h5) ea_nil)) ev_int) (by rw [step_size]; rfl)) (et_testF (ev_neW wB_ok.ths.ok (ev_callP ((wA, wB), diff wA wB) ⟨wA_ok, wB_ok, LA⟩ (ea_cons (ev_vW rfl h3) (ea_cons (ev_vD rfl h5) ea_nil))) (ev_vW rfl h4)) rfl))) fun H6 e6 => ?_
  replace h3 := up e6 h3
  replace h4 := up e6 h4
  replace h6 := up e6 h6
  have LE := diff_leads wE_ok wE_ok
  have fb : Flat 64 (.tuple [.int 3]) := (flatI [3] (n := 0)).up (by decide)
  refine s_ret (d := none) (ev_andT ((ev_eqD (x := .tuple [.int 3]) (y := .tuple [.int 3]) ((df3 (ev_vD rfl h6)).is (by rw [back_gone]; rfl)) (ev_tup (ei_cons ev_int ei_nil) (sml rfl)) fb.shaped fb.shaped).is (by rw [fb.refl])) (ev_andT (ev_eqW wA_ok.ths.ok (ev_callP ((wB, wA), diff wB wA) ⟨wB_ok, wA_ok, LB⟩ (ea_cons (ev_vW rfl h4) (ea_cons (ev_vD rfl h6) ea_nil))) (ev_vW rfl h3)) ((ev_eqI (i := sizeD (diff wE wE)) (ev_callP (diff wE wE) (LE.ok wE_ok) (ea_cons (ev_callP (wE, wE) ⟨wE_ok, wE_ok⟩ (ea_cons (ev_World T (x := wE) (b := false) ⟨fun _ => wE_ok, by decide⟩ (ea_cons ev_int (ea_cons ev_int (ea_cons ev_int (ea_cons (F := D K (thsD wE.things)) (ev_tup ei_nil (sml rfl)) ea_nil))))) (ea_cons (ev_World T (x := wE) (b := false) ⟨fun _ => wE_ok, by decide⟩ (ea_cons ev_int (ea_cons ev_int (ea_cons ev_int (ea_cons (F := D K (thsD wE.things)) (ev_tup ei_nil (sml rfl)) ea_nil))))) ea_nil))) ea_nil)) ev_int).is (congrArg PyData.bool (decide_eq_true (by decide +kernel)))))) fun v H7 e7 g => qq v H7 ((((((e1.trans e2).trans e3).trans e4).trans e5).trans e6).trans e7) g
end
end Kp
set_option maxHeartbeats 4010000
/-! KpX: what the top leaves. -/
namespace Kp
open L2 PySem PySem.Spec PyProof.Rows
def DfnK (K : PySem.W.Frag) (x : Str) (st : Stmt) (ps : List Str) : Prop := ∃ f fd, C8.Fun K x x st f fd ∧ PySem.W.nsIn K mainGlobals x = some (some (.ref f)) ∧ PySem.W.keepIn K (.ref f) = true ∧ ∀ us : List Value, us.length = ps.length → bindArgs fd ⟨us, []⟩ = pure (ps.zip us)
section
variable {K : PySem.W.Frag} {h : Heap} {mg : Str → Option Value} {x qual : Str} {st : Stmt} {ps : List Str} {f : Addr} {oc : Value} {od an : Option Addr} {osl : Array (Option Value)} {kV doc pm cdv ct : Value}
theorem fnK_mk (l : K.lookup f = some ⟨oc, od, .func (PySem.W.fnOf x qual (C8.fnArgs st) (C8.fnBody st) (C8.fnScope st) .none kV doc pm an cdv ct), osl⟩) (c : PySem.W.codeIn K cdv qual = true)
    (b : ∀ (kV doc pm : Value) (an : Option Addr) (cdv ct : Value) (us : List Value), us.length = ps.length → bindArgs (PySem.W.fnOf x qual (C8.fnArgs st) (C8.fnBody st) (C8.fnScope st) .none kV doc pm an cdv ct) ⟨us, []⟩ = pure (ps.zip us)) : ∃ fd, C8.Fun K x qual st f fd ∧ ∀ us : List Value, us.length = ps.length → bindArgs fd ⟨us, []⟩ = pure (ps.zip us) := by
  have F : C8.Fun K x qual st f (PySem.W.fnOf x qual (C8.fnArgs st) (C8.fnBody st) (C8.fnScope st) .none kV doc pm an cdv ct) := ⟨⟨oc, od, .none, kV, doc, pm, an, cdv, ct, osl, rfl, l, c⟩⟩
  exact ⟨_, F, b kV doc pm an cdv ct⟩
theorem dfnK_mk (a : PySem.W.nsIn K mainGlobals x = some (some (.ref f))) (k : PySem.W.keepIn K (.ref f) = true) (F : ∃ fd, C8.Fun K x x st f fd ∧ ∀ us : List Value, us.length = ps.length → bindArgs fd ⟨us, []⟩ = pure (ps.zip us)) : DfnK K x st ps := by
  obtain ⟨fd, F, b⟩ := F
  exact ⟨f, fd, F, a, k, b⟩
theorem dfn_of (X : K.In h) (G : h.Ns mainGlobals mg) (D : DfnK K x st ps) : Dfn K mg x st ps := by
  obtain ⟨f, fd, F, a, k, b⟩ := D
  exact ⟨f, fd, ⟨F, PySem.W.mg_of X G a, k⟩, .all b⟩
theorem con_of {v : V} (X : K.In h) (G : h.Ns mainGlobals mg) (D : ∃ u, PySem.W.nsIn K mainGlobals x = some (some u) ∧ RelV v u) : ∃ u, mg x = some u ∧ RelV v u := by
  obtain ⟨u, a, r⟩ := D
  exact ⟨u, PySem.W.mg_of X G a, r⟩
theorem con_int {i : Int} {t : Nat} (a : PySem.W.nsIn K mainGlobals x = some (some (.int i t))) : ∃ u, PySem.W.nsIn K mainGlobals x = some (some u) ∧ RelV (.int i) u := ⟨_, a, _, rfl⟩
theorem con_str {i : Str} {t : Nat} (a : PySem.W.nsIn K mainGlobals x = some (some (.str i t))) : ∃ u, PySem.W.nsIn K mainGlobals x = some (some u) ∧ RelV (.str i) u := ⟨_, a, _, rfl⟩
theorem slot_of {C p : Addr} {n : Nat} (h1 : PySem.W.findIn K (.ref C) x = some (some (.ref p))) (h2 : PySem.W.specialIn K (.ref p) "__get__" = some (some (.builtin "member_descriptor.__get__"))) (h3 : PySem.W.takesIn K (.ref p) = some true) (h4 : PySem.W.typeIn K (.ref p) = some (.type "member_descriptor")) (h5 : PySem.W.slotIn K p C = some n) (lt : n < 1000) : ∃ p, SlX.Slot1 K C x p n := ⟨p, h1, h2, h3, h4, h5, lt⟩
end
section
variable (P : Params)
theorem hc_GREATEST : ∃ u, PySem.W.nsIn (hd.heap_39 P) mainGlobals "GREATEST" = some (some u) ∧ RelV (.int (10 ^ 60)) u := by
  refine' con_int ?a
  (case a => k_is)
theorem hc_MODULUS : ∃ u, PySem.W.nsIn (hd.heap_39 P) mainGlobals "MODULUS" = some (some u) ∧ RelV (.int 999999937) u := by
  refine' con_int ?a
  (case a => k_is)
theorem hc_MOST : ∃ u, PySem.W.nsIn (hd.heap_39 P) mainGlobals "MOST" = some (some u) ∧ RelV (.int 1000000000) u := by
  refine' con_int ?a
  (case a => k_is)
theorem hc_MOST_NAME_pieces : ∃ u, PySem.W.nsIn (hd.heap_39 P) mainGlobals "MOST_NAME_pieces" = some (some u) ∧ RelV (.int 8) u := by
  refine' con_int ?a
  (case a => k_is)
theorem hc_SIGNS : ∃ u, PySem.W.nsIn (hd.heap_39 P) mainGlobals "SIGNS" = some (some u) ∧ RelV (.str "abcdefghijklmnopqrstuvwxyz") u := by
  refine' con_str ?a
  (case a => k_is)
theorem hc_MAX_THINGS_forms : ∃ u, PySem.W.nsIn (hd.heap_39 P) mainGlobals "MAX_THINGS_forms" = some (some u) ∧ RelV (.int 12) u := by
  refine' con_int ?a
  (case a => k_is)
theorem hc_MOST_NUMBERS : ∃ u, PySem.W.nsIn (hd.heap_39 P) mainGlobals "MOST_NUMBERS" = some (some u) ∧ RelV (.int 8) u := by
  refine' con_int ?a
  (case a => k_is)
theorem hc_MOST_NAME_worlds : ∃ u, PySem.W.nsIn (hd.heap_39 P) mainGlobals "MOST_NAME_worlds" = some (some u) ∧ RelV (.int 8) u := by
  refine' con_int ?a
  (case a => k_is)
theorem hc_THING_PARTS : ∃ u, PySem.W.nsIn (hd.heap_39 P) mainGlobals "THING_PARTS" = some (some u) ∧ RelV (.int 3) u := by
  refine' con_int ?a
  (case a => k_is)
theorem hc_LETTERS : ∃ u, PySem.W.nsIn (hd.heap_39 P) mainGlobals "LETTERS" = some (some u) ∧ RelV (.str "abcdefghijklmnopqrstuvwxyz") u := by
  refine' con_str ?a
  (case a => k_is)
theorem hc_PARTS : ∃ u, PySem.W.nsIn (hd.heap_39 P) mainGlobals "PARTS" = some (some u) ∧ RelV (.int 6) u := by
  refine' con_int ?a
  (case a => k_is)
theorem hc_HEAD : ∃ u, PySem.W.nsIn (hd.heap_39 P) mainGlobals "HEAD" = some (some u) ∧ RelV (.int 3) u := by
  refine' con_int ?a
  (case a => k_is)
theorem hc_MAX_THINGS_parts : ∃ u, PySem.W.nsIn (hd.heap_39 P) mainGlobals "MAX_THINGS_parts" = some (some u) ∧ RelV (.int 12) u := by
  refine' con_int ?a
  (case a => k_is)
theorem hc_MAX_FIELDS : ∃ u, PySem.W.nsIn (hd.heap_39 P) mainGlobals "MAX_FIELDS" = some (some u) ∧ RelV (.int 8) u := by
  refine' con_int ?a
  (case a => k_is)
theorem hc_FIT : ∃ u, PySem.W.nsIn (hd.heap_39 P) mainGlobals "FIT" = some (some u) ∧ RelV (.str "fit") u := by
  refine' con_str ?a
  (case a => k_is)
theorem hb_len : PySem.W.nsIn (hd.heap_39 P) mainGlobals "len" = some none := by k_is
theorem hb_isinstance : PySem.W.nsIn (hd.heap_39 P) mainGlobals "isinstance" = some none := by k_is
theorem hb_all : PySem.W.nsIn (hd.heap_39 P) mainGlobals "all" = some none := by k_is
theorem hb_any : PySem.W.nsIn (hd.heap_39 P) mainGlobals "any" = some none := by k_is
theorem hb_sum : PySem.W.nsIn (hd.heap_39 P) mainGlobals "sum" = some none := by k_is
theorem hb_abs : PySem.W.nsIn (hd.heap_39 P) mainGlobals "abs" = some none := by k_is
theorem hb_max : PySem.W.nsIn (hd.heap_39 P) mainGlobals "max" = some none := by k_is
theorem hb_min : PySem.W.nsIn (hd.heap_39 P) mainGlobals "min" = some none := by k_is
theorem hb_sorted : PySem.W.nsIn (hd.heap_39 P) mainGlobals "sorted" = some none := by k_is
theorem hb_repr : PySem.W.nsIn (hd.heap_39 P) mainGlobals "repr" = some none := by k_is
theorem hb_int : PySem.W.nsIn (hd.heap_39 P) mainGlobals "int" = some none := by k_is
theorem hb_bool : PySem.W.nsIn (hd.heap_39 P) mainGlobals "bool" = some none := by k_is
theorem hb_str : PySem.W.nsIn (hd.heap_39 P) mainGlobals "str" = some none := by k_is
theorem hb_tuple : PySem.W.nsIn (hd.heap_39 P) mainGlobals "tuple" = some none := by k_is
theorem hb_list : PySem.W.nsIn (hd.heap_39 P) mainGlobals "list" = some none := by k_is
theorem hb_dict : PySem.W.nsIn (hd.heap_39 P) mainGlobals "dict" = some none := by k_is
theorem hb_set : PySem.W.nsIn (hd.heap_39 P) mainGlobals "set" = some none := by k_is
theorem hb_range : PySem.W.nsIn (hd.heap_39 P) mainGlobals "range" = some none := by k_is
theorem hb_zip : PySem.W.nsIn (hd.heap_39 P) mainGlobals "zip" = some none := by k_is
theorem hb_enumerate : PySem.W.nsIn (hd.heap_39 P) mainGlobals "enumerate" = some none := by k_is
theorem hd_is_whole : DfnK (hd.heap_39 P) "is_whole" s_is_whole ["value"] := by
  refine' dfnK_mk ?a ?k (fnK_mk ?l ?c fun _ _ _ _ _ _ us hl => match us, hl with | [_], _ => rfl)
  (case a => k_is)
  (case k => k_is)
  (case l => k_is)
  (case c => k_is)
theorem hd_is_short : DfnK (hd.heap_39 P) "is_short" s_is_short ["value"] := by
  refine' dfnK_mk ?a ?k (fnK_mk ?l ?c fun _ _ _ _ _ _ us hl => match us, hl with | [_], _ => rfl)
  (case a => k_is)
  (case k => k_is)
  (case l => k_is)
  (case c => k_is)
theorem hd_is_from : DfnK (hd.heap_39 P) "is_from" s_is_from ["value", "least", "most"] := by
  refine' dfnK_mk ?a ?k (fnK_mk ?l ?c fun _ _ _ _ _ _ us hl => match us, hl with | [_, _, _], _ => rfl)
  (case a => k_is)
  (case k => k_is)
  (case l => k_is)
  (case c => k_is)
theorem hd_is_tick : DfnK (hd.heap_39 P) "is_tick" s_is_tick ["value"] := by
  refine' dfnK_mk ?a ?k (fnK_mk ?l ?c fun _ _ _ _ _ _ us hl => match us, hl with | [_], _ => rfl)
  (case a => k_is)
  (case k => k_is)
  (case l => k_is)
  (case c => k_is)
theorem hd_is_luck_in : DfnK (hd.heap_39 P) "is_luck_in" s_is_luck_in ["value"] := by
  refine' dfnK_mk ?a ?k (fnK_mk ?l ?c fun _ _ _ _ _ _ us hl => match us, hl with | [_], _ => rfl)
  (case a => k_is)
  (case k => k_is)
  (case l => k_is)
  (case c => k_is)
theorem hd_is_luck : DfnK (hd.heap_39 P) "is_luck" s_is_luck ["value"] := by
  refine' dfnK_mk ?a ?k (fnK_mk ?l ?c fun _ _ _ _ _ _ us hl => match us, hl with | [_], _ => rfl)
  (case a => k_is)
  (case k => k_is)
  (case l => k_is)
  (case c => k_is)
theorem hd_is_number : DfnK (hd.heap_39 P) "is_number" s_is_number ["value"] := by
  refine' dfnK_mk ?a ?k (fnK_mk ?l ?c fun _ _ _ _ _ _ us hl => match us, hl with | [_], _ => rfl)
  (case a => k_is)
  (case k => k_is)
  (case l => k_is)
  (case c => k_is)
theorem hd_is_name : DfnK (hd.heap_39 P) "is_name" s_is_name ["value"] := by
  refine' dfnK_mk ?a ?k (fnK_mk ?l ?c fun _ _ _ _ _ _ us hl => match us, hl with | [_], _ => rfl)
  (case a => k_is)
  (case k => k_is)
  (case l => k_is)
  (case c => k_is)
theorem hd_is_tuple_within : DfnK (hd.heap_39 P) "is_tuple_within" s_is_tuple_within ["value", "least", "most"] := by
  refine' dfnK_mk ?a ?k (fnK_mk ?l ?c fun _ _ _ _ _ _ us hl => match us, hl with | [_, _, _], _ => rfl)
  (case a => k_is)
  (case k => k_is)
  (case l => k_is)
  (case c => k_is)
theorem hd_is_name_in : DfnK (hd.heap_39 P) "is_name_in" s_is_name_in ["value"] := by
  refine' dfnK_mk ?a ?k (fnK_mk ?l ?c fun _ _ _ _ _ _ us hl => match us, hl with | [_], _ => rfl)
  (case a => k_is)
  (case k => k_is)
  (case l => k_is)
  (case c => k_is)
theorem hd_are_numbers_in : DfnK (hd.heap_39 P) "are_numbers_in" s_are_numbers_in ["value"] := by
  refine' dfnK_mk ?a ?k (fnK_mk ?l ?c fun _ _ _ _ _ _ us hl => match us, hl with | [_], _ => rfl)
  (case a => k_is)
  (case k => k_is)
  (case l => k_is)
  (case c => k_is)
theorem hd_is_thing_in : DfnK (hd.heap_39 P) "is_thing_in" s_is_thing_in ["value"] := by
  refine' dfnK_mk ?a ?k (fnK_mk ?l ?c fun _ _ _ _ _ _ us hl => match us, hl with | [_], _ => rfl)
  (case a => k_is)
  (case k => k_is)
  (case l => k_is)
  (case c => k_is)
theorem hd_are_things_in : DfnK (hd.heap_39 P) "are_things_in" s_are_things_in ["next_id", "value"] := by
  refine' dfnK_mk ?a ?k (fnK_mk ?l ?c fun _ _ _ _ _ _ us hl => match us, hl with | [_, _], _ => rfl)
  (case a => k_is)
  (case k => k_is)
  (case l => k_is)
  (case c => k_is)
theorem hd_parts_told : DfnK (hd.heap_39 P) "parts_told" s_parts_told ["tick", "next_id", "luck", "things"] := by
  refine' dfnK_mk ?a ?k (fnK_mk ?l ?c fun _ _ _ _ _ _ us hl => match us, hl with | [_, _, _, _], _ => rfl)
  (case a => k_is)
  (case k => k_is)
  (case l => k_is)
  (case c => k_is)
theorem hd_made_world : DfnK (hd.heap_39 P) "made_world" s_made_world ["tick", "next_id", "luck", "things"] := by
  refine' dfnK_mk ?a ?k (fnK_mk ?l ?c fun _ _ _ _ _ _ us hl => match us, hl with | [_, _, _, _], _ => rfl)
  (case a => k_is)
  (case k => k_is)
  (case l => k_is)
  (case c => k_is)
theorem hd_do_ascend : DfnK (hd.heap_39 P) "do_ascend" s_do_ascend ["items"] := by
  refine' dfnK_mk ?a ?k (fnK_mk ?l ?c fun _ _ _ _ _ _ us hl => match us, hl with | [_], _ => rfl)
  (case a => k_is)
  (case k => k_is)
  (case l => k_is)
  (case c => k_is)
theorem hd_is_thing : DfnK (hd.heap_39 P) "is_thing" s_is_thing ["value"] := by
  refine' dfnK_mk ?a ?k (fnK_mk ?l ?c fun _ _ _ _ _ _ us hl => match us, hl with | [_], _ => rfl)
  (case a => k_is)
  (case k => k_is)
  (case l => k_is)
  (case c => k_is)
theorem hd_is_change : DfnK (hd.heap_39 P) "is_change" s_is_change ["value"] := by
  refine' dfnK_mk ?a ?k (fnK_mk ?l ?c fun _ _ _ _ _ _ us hl => match us, hl with | [_], _ => rfl)
  (case a => k_is)
  (case k => k_is)
  (case l => k_is)
  (case c => k_is)
theorem hd_are_parts : DfnK (hd.heap_39 P) "are_parts" s_are_parts ["gone", "came", "changed"] := by
  refine' dfnK_mk ?a ?k (fnK_mk ?l ?c fun _ _ _ _ _ _ us hl => match us, hl with | [_, _, _], _ => rfl)
  (case a => k_is)
  (case k => k_is)
  (case l => k_is)
  (case c => k_is)
theorem hd_is_difference : DfnK (hd.heap_39 P) "is_difference" s_is_difference ["value"] := by
  refine' dfnK_mk ?a ?k (fnK_mk ?l ?c fun _ _ _ _ _ _ us hl => match us, hl with | [_], _ => rfl)
  (case a => k_is)
  (case k => k_is)
  (case l => k_is)
  (case c => k_is)
theorem hd_is_same_sort : DfnK (hd.heap_39 P) "is_same_sort" s_is_same_sort ["one", "other"] := by
  refine' dfnK_mk ?a ?k (fnK_mk ?l ?c fun _ _ _ _ _ _ us hl => match us, hl with | [_, _], _ => rfl)
  (case a => k_is)
  (case k => k_is)
  (case l => k_is)
  (case c => k_is)
theorem hd_difference_in : DfnK (hd.heap_39 P) "difference_in" s_difference_in ["one", "other"] := by
  refine' dfnK_mk ?a ?k (fnK_mk ?l ?c fun _ _ _ _ _ _ us hl => match us, hl with | [_, _], _ => rfl)
  (case a => k_is)
  (case k => k_is)
  (case l => k_is)
  (case c => k_is)
theorem hd_unfit_ids : DfnK (hd.heap_39 P) "unfit_ids" s_unfit_ids ["world", "told"] := by
  refine' dfnK_mk ?a ?k (fnK_mk ?l ?c fun _ _ _ _ _ _ us hl => match us, hl with | [_, _], _ => rfl)
  (case a => k_is)
  (case k => k_is)
  (case l => k_is)
  (case c => k_is)
theorem hd_applied_in : DfnK (hd.heap_39 P) "applied_in" s_applied_in ["world", "told"] := by
  refine' dfnK_mk ?a ?k (fnK_mk ?l ?c fun _ _ _ _ _ _ us hl => match us, hl with | [_, _], _ => rfl)
  (case a => k_is)
  (case k => k_is)
  (case l => k_is)
  (case c => k_is)
theorem hd_require_any_world : DfnK (hd.heap_39 P) "require_any_world" s_require_any_world ["value"] := by
  refine' dfnK_mk ?a ?k (fnK_mk ?l ?c fun _ _ _ _ _ _ us hl => match us, hl with | [_], _ => rfl)
  (case a => k_is)
  (case k => k_is)
  (case l => k_is)
  (case c => k_is)
theorem hd_require_difference : DfnK (hd.heap_39 P) "require_difference" s_require_difference ["value"] := by
  refine' dfnK_mk ?a ?k (fnK_mk ?l ?c fun _ _ _ _ _ _ us hl => match us, hl with | [_], _ => rfl)
  (case a => k_is)
  (case k => k_is)
  (case l => k_is)
  (case c => k_is)
theorem hd_difference : DfnK (hd.heap_39 P) "difference" s_difference ["one", "other"] := by
  refine' dfnK_mk ?a ?k (fnK_mk ?l ?c fun _ _ _ _ _ _ us hl => match us, hl with | [_, _], _ => rfl)
  (case a => k_is)
  (case k => k_is)
  (case l => k_is)
  (case c => k_is)
theorem hd_applied : DfnK (hd.heap_39 P) "applied" s_applied ["world", "told"] := by
  refine' dfnK_mk ?a ?k (fnK_mk ?l ?c fun _ _ _ _ _ _ us hl => match us, hl with | [_, _], _ => rfl)
  (case a => k_is)
  (case k => k_is)
  (case l => k_is)
  (case c => k_is)
theorem hd_size : DfnK (hd.heap_39 P) "size" s_size ["told"] := by
  refine' dfnK_mk ?a ?k (fnK_mk ?l ?c fun _ _ _ _ _ _ us hl => match us, hl with | [_], _ => rfl)
  (case a => k_is)
  (case k => k_is)
  (case l => k_is)
  (case c => k_is)
theorem hd_law_dice : DfnK (hd.heap_39 P) "_law_dice" s_law_dice ["_law_script", "_law_spot"] := by
  refine' dfnK_mk ?a ?k (fnK_mk ?l ?c fun _ _ _ _ _ _ us hl => match us, hl with | [_, _], _ => rfl)
  (case a => k_is)
  (case k => k_is)
  (case l => k_is)
  (case c => k_is)
theorem hd_law_roll : DfnK (hd.heap_39 P) "_law_roll" s_law_roll ["_law_dice_here", "_law_total"] := by
  refine' dfnK_mk ?a ?k (fnK_mk ?l ?c fun _ _ _ _ _ _ us hl => match us, hl with | [_, _], _ => rfl)
  (case a => k_is)
  (case k => k_is)
  (case l => k_is)
  (case c => k_is)
theorem hd_law_pick : DfnK (hd.heap_39 P) "_law_pick" s_law_pick ["_law_dice_here", "_law_items"] := by
  refine' dfnK_mk ?a ?k (fnK_mk ?l ?c fun _ _ _ _ _ _ us hl => match us, hl with | [_, _], _ => rfl)
  (case a => k_is)
  (case k => k_is)
  (case l => k_is)
  (case c => k_is)
theorem hd_law_near : DfnK (hd.heap_39 P) "_law_near" s_law_near ["_law_dice_here", "_law_most"] := by
  refine' dfnK_mk ?a ?k (fnK_mk ?l ?c fun _ _ _ _ _ _ us hl => match us, hl with | [_, _], _ => rfl)
  (case a => k_is)
  (case k => k_is)
  (case l => k_is)
  (case c => k_is)
theorem hd_law_kp_numbers : DfnK (hd.heap_39 P) "_law_kp_numbers" s_law_kp_numbers ["_law_dice_here", "_law_many"] := by
  refine' dfnK_mk ?a ?k (fnK_mk ?l ?c fun _ _ _ _ _ _ us hl => match us, hl with | [_, _], _ => rfl)
  (case a => k_is)
  (case k => k_is)
  (case l => k_is)
  (case c => k_is)
theorem hd_law_kp_thing : DfnK (hd.heap_39 P) "_law_kp_thing" s_law_kp_thing ["_law_dice_here", "_law_number"] := by
  refine' dfnK_mk ?a ?k (fnK_mk ?l ?c fun _ _ _ _ _ _ us hl => match us, hl with | [_, _], _ => rfl)
  (case a => k_is)
  (case k => k_is)
  (case l => k_is)
  (case c => k_is)
theorem hd_law_kp_world : DfnK (hd.heap_39 P) "_law_kp_world" s_law_kp_world ["_law_dice_here", "_law_tick", "_law_most"] := by
  refine' dfnK_mk ?a ?k (fnK_mk ?l ?c fun _ _ _ _ _ _ us hl => match us, hl with | [_, _, _], _ => rfl)
  (case a => k_is)
  (case k => k_is)
  (case l => k_is)
  (case c => k_is)
theorem hd_law_kp_near_thing : DfnK (hd.heap_39 P) "_law_kp_near_thing" s_law_kp_near_thing ["_law_dice_here", "_law_thing"] := by
  refine' dfnK_mk ?a ?k (fnK_mk ?l ?c fun _ _ _ _ _ _ us hl => match us, hl with | [_, _], _ => rfl)
  (case a => k_is)
  (case k => k_is)
  (case l => k_is)
  (case c => k_is)
theorem hd_law_kp_near : DfnK (hd.heap_39 P) "_law_kp_near" s_law_kp_near ["_law_dice_here", "_law_world", "_law_tick"] := by
  refine' dfnK_mk ?a ?k (fnK_mk ?l ?c fun _ _ _ _ _ _ us hl => match us, hl with | [_, _, _], _ => rfl)
  (case a => k_is)
  (case k => k_is)
  (case l => k_is)
  (case c => k_is)
theorem hd_law_kp_real : DfnK (hd.heap_39 P) "_law_kp_real" s_law_kp_real ["_law_world"] := by
  refine' dfnK_mk ?a ?k (fnK_mk ?l ?c fun _ _ _ _ _ _ us hl => match us, hl with | [_], _ => rfl)
  (case a => k_is)
  (case k => k_is)
  (case l => k_is)
  (case c => k_is)
theorem hd_law_kp_by_ids : DfnK (hd.heap_39 P) "_law_kp_by_ids" s_law_kp_by_ids ["_law_world"] := by
  refine' dfnK_mk ?a ?k (fnK_mk ?l ?c fun _ _ _ _ _ _ us hl => match us, hl with | [_], _ => rfl)
  (case a => k_is)
  (case k => k_is)
  (case l => k_is)
  (case c => k_is)
theorem hd_law_kp_difference : DfnK (hd.heap_39 P) "_law_kp_difference" s_law_kp_difference ["_law_one", "_law_other"] := by
  refine' dfnK_mk ?a ?k (fnK_mk ?l ?c fun _ _ _ _ _ _ us hl => match us, hl with | [_, _], _ => rfl)
  (case a => k_is)
  (case k => k_is)
  (case l => k_is)
  (case c => k_is)
theorem hd_law_kp_size : DfnK (hd.heap_39 P) "_law_kp_size" s_law_kp_size ["_law_told"] := by
  refine' dfnK_mk ?a ?k (fnK_mk ?l ?c fun _ _ _ _ _ _ us hl => match us, hl with | [_], _ => rfl)
  (case a => k_is)
  (case k => k_is)
  (case l => k_is)
  (case c => k_is)
theorem hd_law_longer : DfnK (hd.heap_39 P) "_law_longer" s_law_longer ["_law_dice_here", "_law_one", "_law_other", "_law_due"] := by
  refine' dfnK_mk ?a ?k (fnK_mk ?l ?c fun _ _ _ _ _ _ us hl => match us, hl with | [_, _, _, _], _ => rfl)
  (case a => k_is)
  (case k => k_is)
  (case l => k_is)
  (case c => k_is)
theorem hd_law_pair_right : DfnK (hd.heap_39 P) "_law_pair_right" s_law_pair_right ["_law_dice_here", "_law_one", "_law_other"] := by
  refine' dfnK_mk ?a ?k (fnK_mk ?l ?c fun _ _ _ _ _ _ us hl => match us, hl with | [_, _, _], _ => rfl)
  (case a => k_is)
  (case k => k_is)
  (case l => k_is)
  (case c => k_is)
theorem hd_law_right : DfnK (hd.heap_39 P) "_law_right" s_law_right ["_law_dice_here"] := by
  refine' dfnK_mk ?a ?k (fnK_mk ?l ?c fun _ _ _ _ _ _ us hl => match us, hl with | [_], _ => rfl)
  (case a => k_is)
  (case k => k_is)
  (case l => k_is)
  (case c => k_is)
theorem hd_law : DfnK (hd.heap_39 P) "law" s_law ["_law_script"] := by
  refine' dfnK_mk ?a ?k (fnK_mk ?l ?c fun _ _ _ _ _ _ us hl => match us, hl with | [_], _ => rfl)
  (case a => k_is)
  (case k => k_is)
  (case l => k_is)
  (case c => k_is)
end
/-- the two classes -/
structure ClsK (K : PySem.W.Frag) (CK CW gE : Addr) : Prop where
  n1 : PySem.W.nsIn K mainGlobals "KnownParts" = some (some (.ref CK))
  n2 : PySem.W.nsIn K mainGlobals "World" = some (some (.ref CW))
  sc_K : SlX.SCls K CK
  sc_W : SlX.SCls K CW
  si_K : SlX.SIsi K CK
  si_W : SlX.SIsi K CW
  sl_K_own_luck : ∃ p, SlX.Slot1 K CK "own_luck" p 0
  sl_K_own_next_id : ∃ p, SlX.Slot1 K CK "own_next_id" p 1
  sl_K_own_things : ∃ p, SlX.Slot1 K CK "own_things" p 2
  sl_K_own_tick : ∃ p, SlX.Slot1 K CK "own_tick" p 3
  sl_W_own_ids : ∃ p, SlX.Slot1 K CW "own_ids" p 0
  sl_W_own_luck : ∃ p, SlX.Slot1 K CW "own_luck" p 1
  sl_W_own_next_id : ∃ p, SlX.Slot1 K CW "own_next_id" p 2
  sl_W_own_things : ∃ p, SlX.Slot1 K CW "own_things" p 3
  sl_W_own_tick : ∃ p, SlX.Slot1 K CW "own_tick" p 4
  kk_KK : PySem.W.kitOne K (.ref CK) (.ref CK) = some true
  kk_WW : PySem.W.kitOne K (.ref CW) (.ref CW) = some true
  kk_iK : PySem.W.kitOne K (.type "int") (.ref CK) = some false
  mk_K : ∃ f fd, Mk K CK f ∧ C8.Fun K "__init__" "KnownParts.__init__" s_KnownParts___init__ f fd ∧ Binds K fd ["self", "tick", "next_id", "luck", "things"] []
  mk_W : ∃ f fd, Mk K CW f ∧ C8.Fun K "__init__" "World.__init__" s_World___init__ f fd ∧ Binds K fd ["self", "tick", "next_id", "luck", "things"] []
  eq_W : PySem.W.findIn K (.ref CW) "__eq__" = some (some (.ref gE)) ∧ PySem.W.isFn K (.ref gE) = true ∧ ∃ fd, C8.Fun K "__eq__" "World.__eq__" s_World___eq__ gE fd ∧ Binds K fd ["self", "other"] []
  ne_W : PySem.W.findIn K (.ref CW) "__ne__" = some (some (.builtin "object.__ne__"))
theorem mk_of {K : PySem.W.Frag} {C f : Addr} {x qual : Str} {st : Stmt} {ps : List Str} (h1 : PySem.W.makesIn K C = true) (h2 : PySem.W.findIn K (.ref C) "__init__" = some (some (.ref f))) (h3 : PySem.W.isFn K (.ref f) = true) (h4 : PySem.W.keepIn K (.ref C) = true) (F : ∃ fd, C8.Fun K x qual st f fd ∧ ∀ us : List Value, us.length = ps.length → bindArgs fd ⟨us, []⟩ = pure (ps.zip us)) : ∃ f fd, Mk K C f ∧ C8.Fun K x qual st f fd ∧ Binds K fd ps [] := by
  obtain ⟨fd, F, b⟩ := F
  exact ⟨f, fd, ⟨h1, h2, h3, h4⟩, F, .all b⟩
theorem eq_of {K : PySem.W.Frag} {C g : Addr} {x qual : Str} {st : Stmt} {ps : List Str} (h1 : PySem.W.findIn K (.ref C) "__eq__" = some (some (.ref g))) (h2 : PySem.W.isFn K (.ref g) = true) (F : ∃ fd, C8.Fun K x qual st g fd ∧ ∀ us : List Value, us.length = ps.length → bindArgs fd ⟨us, []⟩ = pure (ps.zip us)) : PySem.W.findIn K (.ref C) "__eq__" = some (some (.ref g)) ∧ PySem.W.isFn K (.ref g) = true ∧ ∃ fd, C8.Fun K x qual st g fd ∧ Binds K fd ps [] := by
  obtain ⟨fd, F, b⟩ := F
  exact ⟨h1, h2, fd, F, .all b⟩
theorem h_cls (P : Params) : ∃ CK CW gE, ClsK (hd.heap_39 P) CK CW gE := by
  refine' ⟨?_, ?_, ?_, ?n1, ?n2, ⟨?k1, ?k2, ?k3, ?k4⟩, ⟨?w1, ?w2, ?w3, ?w4⟩, ⟨?i1, ?i2, ?i3, ?i4⟩, ⟨?j1, ?j2, ?j3, ?j4⟩, slot_of ?s01 ?s02 ?s03 ?s04 ?s05 (by decide), slot_of ?s11 ?s12 ?s13 ?s14 ?s15 (by decide), slot_of ?s21 ?s22 ?s23 ?s24 ?s25 (by decide), slot_of ?s31 ?s32 ?s33 ?s34 ?s35 (by decide), slot_of ?s41 ?s42 ?s43 ?s44 ?s45 (by decide), slot_of ?s51 ?s52 ?s53 ?s54 ?s55 (by decide), slot_of ?s61 ?s62 ?s63 ?s64 ?s65 (by decide), slot_of ?s71 ?s72 ?s73 ?s74 ?s75 (by decide), slot_of ?s81 ?s82 ?s83 ?s84 ?s85 (by decide), ?q1, ?q2, ?q3, mk_of ?m1 ?m2 ?m3 ?m4 (fnK_mk ?m5 ?m6 fun _ _ _ _ _ _ us hl => match us, hl with | [_, _, _, _, _], _ => rfl), mk_of ?o1 ?o2 ?o3 ?o4 (fnK_mk ?o5 ?o6 fun _ _ _ _ _ _ us hl => match us, hl with | [_, _, _, _, _], _ => rfl), eq_of ?e1 ?e2 (fnK_mk ?e5 ?e6 fun _ _ _ _ _ _ us hl => match us, hl with | [_, _], _ => rfl), ?z1⟩
  (case n1 => k_is)
  (case n2 => k_is)
  (case k1 => k_is)
  (case k2 => k_is)
  (case k3 => k_is)
  (case k4 => k_is)
  (case w1 => k_is)
  (case w2 => k_is)
  (case w3 => k_is)
  (case w4 => k_is)
  (case i1 => k_is)
  (case i2 => k_is)
  (case i3 => k_is)
  (case i4 => k_is)
  (case j1 => k_is)
  (case j2 => k_is)
  (case j3 => k_is)
  (case j4 => k_is)
  (case s01 => k_is)
  (case s02 => k_is)
  (case s03 => k_is)
  (case s04 => k_is)
  (case s05 => k_is)
  (case s11 => k_is)
  (case s12 => k_is)
  (case s13 => k_is)
  (case s14 => k_is)
  (case s15 => k_is)
  (case s21 => k_is)
  (case s22 => k_is)
  (case s23 => k_is)
  (case s24 => k_is)
  (case s25 => k_is)
  (case s31 => k_is)
  (case s32 => k_is)
  (case s33 => k_is)
  (case s34 => k_is)
  (case s35 => k_is)
  (case s41 => k_is)
  (case s42 => k_is)
  (case s43 => k_is)
  (case s44 => k_is)
  (case s45 => k_is)
  (case s51 => k_is)
  (case s52 => k_is)
  (case s53 => k_is)
  (case s54 => k_is)
  (case s55 => k_is)
  (case s61 => k_is)
  (case s62 => k_is)
  (case s63 => k_is)
  (case s64 => k_is)
  (case s65 => k_is)
  (case s71 => k_is)
  (case s72 => k_is)
  (case s73 => k_is)
  (case s74 => k_is)
  (case s75 => k_is)
  (case s81 => k_is)
  (case s82 => k_is)
  (case s83 => k_is)
  (case s84 => k_is)
  (case s85 => k_is)
  (case q1 => rfl)
  (case q2 => rfl)
  (case q3 => rfl)
  (case m1 => k_is)
  (case m2 => k_is)
  (case m3 => k_is)
  (case m4 => k_is)
  (case m5 => k_is)
  (case m6 => k_is)
  (case o1 => k_is)
  (case o2 => k_is)
  (case o3 => k_is)
  (case o4 => k_is)
  (case o5 => k_is)
  (case o6 => k_is)
  (case e1 => k_is)
  (case e2 => k_is)
  (case e5 => k_is)
  (case e6 => k_is)
  (case z1 => k_is)
theorem h_txt (P : Params) {h : Heap} {mg : Str → Option Value} (X : PySem.W.Frag.In (hd.heap_39 P) h) (G : h.Ns mainGlobals mg) : ∃ CK CW gE, Txt (hd.heap_39 P) mg CK CW gE := by
  obtain ⟨CK, CW, gE, C⟩ := h_cls P
  exact ⟨CK, CW, gE, {
    c_GREATEST := con_of X G (hc_GREATEST P)
    c_MODULUS := con_of X G (hc_MODULUS P)
    c_MOST := con_of X G (hc_MOST P)
    c_MOST_NAME_pieces := con_of X G (hc_MOST_NAME_pieces P)
    c_SIGNS := con_of X G (hc_SIGNS P)
    c_MAX_THINGS_forms := con_of X G (hc_MAX_THINGS_forms P)
    c_MOST_NUMBERS := con_of X G (hc_MOST_NUMBERS P)
    c_MOST_NAME_worlds := con_of X G (hc_MOST_NAME_worlds P)
    c_THING_PARTS := con_of X G (hc_THING_PARTS P)
    c_LETTERS := con_of X G (hc_LETTERS P)
    c_PARTS := con_of X G (hc_PARTS P)
    c_HEAD := con_of X G (hc_HEAD P)
    c_MAX_THINGS_parts := con_of X G (hc_MAX_THINGS_parts P)
    c_MAX_FIELDS := con_of X G (hc_MAX_FIELDS P)
    c_FIT := con_of X G (hc_FIT P)
    b_len := PySem.W.mg_none_of X G (hb_len P)
    b_isinstance := PySem.W.mg_none_of X G (hb_isinstance P)
    b_all := PySem.W.mg_none_of X G (hb_all P)
    b_any := PySem.W.mg_none_of X G (hb_any P)
    b_sum := PySem.W.mg_none_of X G (hb_sum P)
    b_abs := PySem.W.mg_none_of X G (hb_abs P)
    b_max := PySem.W.mg_none_of X G (hb_max P)
    b_min := PySem.W.mg_none_of X G (hb_min P)
    b_sorted := PySem.W.mg_none_of X G (hb_sorted P)
    b_repr := PySem.W.mg_none_of X G (hb_repr P)
    b_int := PySem.W.mg_none_of X G (hb_int P)
    b_bool := PySem.W.mg_none_of X G (hb_bool P)
    b_str := PySem.W.mg_none_of X G (hb_str P)
    b_tuple := PySem.W.mg_none_of X G (hb_tuple P)
    b_list := PySem.W.mg_none_of X G (hb_list P)
    b_dict := PySem.W.mg_none_of X G (hb_dict P)
    b_set := PySem.W.mg_none_of X G (hb_set P)
    b_range := PySem.W.mg_none_of X G (hb_range P)
    b_zip := PySem.W.mg_none_of X G (hb_zip P)
    b_enumerate := PySem.W.mg_none_of X G (hb_enumerate P)
    g_KnownParts := PySem.W.mg_of X G C.n1
    g_World := PySem.W.mg_of X G C.n2
    sc_K := C.sc_K
    sc_W := C.sc_W
    si_K := C.si_K
    si_W := C.si_W
    sl_K_own_luck := C.sl_K_own_luck
    sl_K_own_next_id := C.sl_K_own_next_id
    sl_K_own_things := C.sl_K_own_things
    sl_K_own_tick := C.sl_K_own_tick
    sl_W_own_ids := C.sl_W_own_ids
    sl_W_own_luck := C.sl_W_own_luck
    sl_W_own_next_id := C.sl_W_own_next_id
    sl_W_own_things := C.sl_W_own_things
    sl_W_own_tick := C.sl_W_own_tick
    kk_KK := C.kk_KK
    kk_WW := C.kk_WW
    kk_iK := C.kk_iK
    mk_K := C.mk_K
    mk_W := C.mk_W
    eq_W := C.eq_W
    ne_W := C.ne_W
    d_is_whole := dfn_of X G (hd_is_whole P)
    d_is_short := dfn_of X G (hd_is_short P)
    d_is_from := dfn_of X G (hd_is_from P)
    d_is_tick := dfn_of X G (hd_is_tick P)
    d_is_luck_in := dfn_of X G (hd_is_luck_in P)
    d_is_luck := dfn_of X G (hd_is_luck P)
    d_is_number := dfn_of X G (hd_is_number P)
    d_is_name := dfn_of X G (hd_is_name P)
    d_is_tuple_within := dfn_of X G (hd_is_tuple_within P)
    d_is_name_in := dfn_of X G (hd_is_name_in P)
    d_are_numbers_in := dfn_of X G (hd_are_numbers_in P)
    d_is_thing_in := dfn_of X G (hd_is_thing_in P)
    d_are_things_in := dfn_of X G (hd_are_things_in P)
    d_parts_told := dfn_of X G (hd_parts_told P)
    d_made_world := dfn_of X G (hd_made_world P)
    d_do_ascend := dfn_of X G (hd_do_ascend P)
    d_is_thing := dfn_of X G (hd_is_thing P)
    d_is_change := dfn_of X G (hd_is_change P)
    d_are_parts := dfn_of X G (hd_are_parts P)
    d_is_difference := dfn_of X G (hd_is_difference P)
    d_is_same_sort := dfn_of X G (hd_is_same_sort P)
    d_difference_in := dfn_of X G (hd_difference_in P)
    d_unfit_ids := dfn_of X G (hd_unfit_ids P)
    d_applied_in := dfn_of X G (hd_applied_in P)
    d_require_any_world := dfn_of X G (hd_require_any_world P)
    d_require_difference := dfn_of X G (hd_require_difference P)
    d_difference := dfn_of X G (hd_difference P)
    d_applied := dfn_of X G (hd_applied P)
    d_size := dfn_of X G (hd_size P)
    d_law_dice := dfn_of X G (hd_law_dice P)
    d_law_roll := dfn_of X G (hd_law_roll P)
    d_law_pick := dfn_of X G (hd_law_pick P)
    d_law_near := dfn_of X G (hd_law_near P)
    d_law_kp_numbers := dfn_of X G (hd_law_kp_numbers P)
    d_law_kp_thing := dfn_of X G (hd_law_kp_thing P)
    d_law_kp_world := dfn_of X G (hd_law_kp_world P)
    d_law_kp_near_thing := dfn_of X G (hd_law_kp_near_thing P)
    d_law_kp_near := dfn_of X G (hd_law_kp_near P)
    d_law_kp_real := dfn_of X G (hd_law_kp_real P)
    d_law_kp_by_ids := dfn_of X G (hd_law_kp_by_ids P)
    d_law_kp_difference := dfn_of X G (hd_law_kp_difference P)
    d_law_kp_size := dfn_of X G (hd_law_kp_size P)
    d_law_longer := dfn_of X G (hd_law_longer P)
    d_law_pair_right := dfn_of X G (hd_law_pair_right P)
    d_law_right := dfn_of X G (hd_law_right P)
    d_law := dfn_of X G (hd_law P)
  }⟩
end Kp
open PySem.W PyProof.Rows PySem in
theorem PySem.Challenge.cw_settledplay_k30_whole_differences_of_wor_holds : PySem.Challenge.rw_settledplay_k30_whole_differences_of_wor.Holds :=
  hd (by
  refine Kp.walk_g (l := PySem.Challenge.rw_settledplay_k30_whole_differences_of_wor) (n := 63) (k := 15) (x := "_law_script") (K := hd.heap_39) (sp := fun w => Kp.sp_law (hd.heap_39 w.params)) rfl (by decide) rfl ⟨rfl, by decide, by decide⟩ (fun w h Y => PySem.W.kIn_of Y) (fun w mg fa h KX G hmg => ?_) (fun w H a ns _ _ hS => ?_)
  · obtain ⟨f, fd, F, a, k, b⟩ := Kp.hd_law w.params
    have e := hmg.symm.trans (PySem.W.mg_of KX G a)
    cases e
    refine ⟨fd, fun s u => .of_eq (b [u] rfl), fun base X2 G2 => ?_⟩
    obtain ⟨CK, CW, gE, T⟩ := Kp.h_txt w.params X2 G2
    exact Kp.fn_law T F
  · exact ⟨ns, trivial, Kp.DOk.no _, ⟨⟨a, rfl, hS⟩, trivial⟩, fun v H' _ h => by
      cases h
      rfl⟩)

