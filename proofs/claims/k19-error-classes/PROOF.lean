import PyProof.Rows.All
import Wide.All
import OpenK.AllK
import Wide.FinOn
import HandS.ForMost
import HandS.ForExc
import HandS.IsInst
import HandS.Lambda
import HandS.Head0
import HandS.Head1
import HandS.Head2
import HandS.HeadHook4
import HandS.ExcInit
import HandS.FStr
import HandS.ExcValue
import KE.KExcSuper
import KE.KSuper
import KE.KExcInit
import HandS.CallSlots
import HandS.TupAny
import HandS.TupMul
import HandS.Wide
import HandS.Deep
import HandS.Style
import KE.SortData
import KE.DataMinMax
import HandS.SortKw
import HandS.EndTab
import KE.DataMinKey
import KE.GoesEnumKw
import HandS.DictComp
import HandS.Set
import HandS.SetFor
import KE.SortKeyHeap
import HandS.Conv
import HandS.RaiseMore
import HandS.Star
import PyProof.Wp
import PyProof.Logic
import PyProof.Rows.Range3
import PyProof.ListRange
import HandS.Property
import HandS.Codes
import HandS.MakeKw
import HandS.SlotsOwn
import HandS.Zip
import KE.GoesEnum
import KE.KItemsList
import PyProof.ListNew
import HandS.Dict
import HandS.ExcIs
import KE.KDictDisplayH
import HandS.NoneIn
import HandS.More
import HandS.New0
import HandS.WordsDict
import HandS.Defaults
import HandS.Iter
import HandS.Text
import HandS.Flow
import HandS.ExcField
import KE.KExcStr
import KE.KSuperObj
import PySem.Challenge.RW_stretchhues_k19_error_classes
set_option Elab.async false
set_option linter.all false
section
set_option maxRecDepth 100000
set_option maxHeartbeats 4000000
namespace DL
open PySem PySem.Spec PyProof.Rows L2
/-- the tables of code objects that lambdas and inner defs want: table, name -/
class Tb where
  T : List (Addr × Str)
def TbsOk [tb : Tb] (F H : Hp) : Prop := LamX.Tabs tb.T H ∧ ∀ p ∈ tb.T, F p.1 = none
/-- no table of code objects -/
def NoTb (o : HO) : Prop := ∀ ps, o ≠ .tbl ps
/-- what can be owned: lists, dicts, instances -/
def Nd : Option HO → Prop
  | some (.lst _) => True
  | some (.dK _) => True
  | some (.dT _) => True
  | some (.ins _ _ _) => True
  | some (.tup _) => True
  | _ => False
theorem Nd.noTb {o : HO} (h : Nd (some o)) : NoTb o := fun ps z => by subst z; exact h
theorem TabS.mut {H : Hp} {a : Addr} {ho : HO} (n : Nd (H a)) {P : Addr} {q : Str} (t : LamX.TabS H P q) : LamX.TabS (upd H a ho) P q := by
  obtain ⟨ps, h1, h2, h3⟩ := t
  have ne : ∀ {b : Addr} {o : HO}, H b = some o → ¬ Nd (some o) → b ≠ a := fun {b o} e z w => z (by rw [← e, w]; exact n)
  refine ⟨ps, by rw [upd_ne (ne h1 fun z => z)]; exact h1, h2, fun pos cv hc => ?_⟩
  obtain ⟨c, e1, e2⟩ := h3 pos cv hc
  exact ⟨c, e1, by rw [upd_ne (ne e2 fun z => z)]; exact e2⟩
theorem Tabs.mut {T : List (Addr × Str)} {H : Hp} {a : Addr} {ho : HO} (n : Nd (H a)) (t : LamX.Tabs T H) : LamX.Tabs T (upd H a ho) := fun p hp => TabS.mut n (t p hp)
theorem Tabs.new {T : List (Addr × Str)} {H : Hp} {a : Addr} {ho : HO} (n : H a = none) (t : LamX.Tabs T H) : LamX.Tabs T (upd H a ho) := t.ext fun b o e => by rw [upd_ne (ne_of_none e n)]; exact e
variable [tb : Tb]
theorem TbsOk.mut {F H : Hp} {a : Addr} {ho : HO} (n : Nd (H a)) (t : TbsOk F H) : TbsOk F (upd H a ho) := ⟨Tabs.mut n t.1, t.2⟩
theorem TbsOk.new {F H : Hp} {a : Addr} {ho : HO} (n : H a = none) (t : TbsOk F H) : TbsOk F (upd H a ho) := ⟨Tabs.new n t.1, t.2⟩
theorem TbsOk.at {F H : Hp} (t : TbsOk F H) {p : Addr × Str} (hp : p ∈ tb.T) : ∃ ps, H p.1 = some (.tbl ps) := let ⟨ps, h, _⟩ := t.1 p hp; ⟨ps, h⟩
/-- more is frozen: none of it is a table -/
theorem TbsOk.frz {F F' H : Hp} (t : TbsOk F H) (h : ∀ a, F' a ≠ none → F a ≠ none ∨ (∀ ps, H a ≠ some (.tbl ps))) : TbsOk F' H := ⟨t.1, fun p hp => Classical.byContradiction fun z => by
  rcases h _ z with q | q
  · exact q (t.2 p hp)
  · obtain ⟨ps, e⟩ := t.at hp
    exact q ps e⟩
theorem Nd.noT {o : Option HO} (h : Nd o) : ∀ ps, o ≠ some (.tbl ps) := fun ps z => by subst z; exact h

/-! ### data -/
inductive D where
  | non | bl (b : Bool) | int (i : Int) | str (x : Str) | ty (n : String) | ref (a : Addr)
  | tup (l : List D) | ctp (l : List D) | lst (l : List D) | rol (l : List D) | dct (ks : List Key) (vs : List D) | ins (C : Addr) (ns : List Str) (vs : List D)
  | exn (C : Addr) (ns : List Str) (vs : List D)
/-- a tuple of the module's own -/
def CT (K : PySem.W.Frag) (a : Addr) (xs : List V) : Prop := ∃ (o : Obj) (its : Array Value) (n : Nat), K.lookup a = some o ∧ o.cls = .type "tuple" ∧ o.data = .seq its n ∧ its.size ≤ sizeLine ∧ Vals xs its.toList
/-- an exception object of an own class, its dict at d -/
def ExX (C : Addr) (d : Option Addr) (a : Addr) : HO := .ext fun h => ∃ (oe : Obj) (vs : Array Value), h.get? a = some oe ∧ Zc (.ref C) d oe ∧ oe.data = .fields vs
/-- an exception object of an own class made with one text: its arguments' tuple at t0 -/
def ExS (C t0 a : Addr) : HO := .ext fun h => ∃ (oe : Obj) (vs : Array Value), h.get? a = some oe ∧ Zc (.ref C) none oe ∧ oe.data = .fields vs ∧ vs[0]? = some (.ref t0)
def XdAt (F : Hp) (d : Option Addr) (fs : List (Str × V)) : Prop := match d with
  | none => fs = []
  | some dd => F dd = some (.xd fs)

mutual
def Rep (K : PySem.W.Frag) (F : Hp) : D → V → Prop
  | .non, v => v = .non
  | .bl b, v => v = .bl b
  | .int i, v => v = .int i
  | .str x, v => v = .str x
  | .ty n, v => v = .ty n
  | .ref a, v => v = .ref a
  | .tup ds, v => ∃ a vs, v = .ref a ∧ F a = some (.tup vs) ∧ Reps K F ds vs
  | .ctp ds, v => ∃ a vs, v = .ref a ∧ CT K a vs ∧ Reps K F ds vs
  | .lst ds, v => ∃ a vs, v = .ref a ∧ F a = some (.lst vs) ∧ Reps K F ds vs
  | .rol ds, v => ∃ a vs, v = .ref a ∧ SqL K F a vs ∧ Reps K F ds vs
  | .dct ks ds, v => ∃ a vs, v = .ref a ∧ F a = some (.dK (ks.zip vs)) ∧ ks.length = ds.length ∧ Reps K F ds vs
  | .ins C ns ds, v => ∃ a dx vs, v = .ref a ∧ F a = some (.ins C dx (ns.zip vs)) ∧ ns.length = ds.length ∧ Reps K F ds vs
  | .exn C ns ds, v => ∃ a, v = .ref a ∧ ((∃ d vs, F a = some (ExX C d a) ∧ XdAt F d (ns.zip vs) ∧ ns.length = ds.length ∧ Reps K F ds vs) ∨ (∃ t0 x, F a = some (ExS C t0 a) ∧ F t0 = some (.tup [.str x]) ∧ ns = [] ∧ ds = [.str x]))
def Reps (K : PySem.W.Frag) (F : Hp) : List D → List V → Prop
  | [], vs => vs = []
  | d :: ds, vs => ∃ v r, vs = v :: r ∧ Rep K F d v ∧ Reps K F ds r
end
section
variable {K : PySem.W.Frag} {F F' H H' : Hp}
theorem SqT.same {a : Addr} {xs : List V} (e : Same F F') (h : SqT K F a xs) : SqT K F' a xs := by
  rcases h with (h | ⟨o, h⟩) | h
  · exact .inl (.inl (e _ _ h))
  · exact .inl (.inr ⟨o, e _ _ h⟩)
  · exact .inr h
theorem Rd.same {a : Addr} {u : HO} (e : Same F F') (h : Rd F a u) : Rd F' a u := by
  rcases h with h | ⟨o, h⟩
  · exact .inl (e _ _ h)
  · exact .inr ⟨o, e _ _ h⟩
theorem XdAt.same {d : Option Addr} {fs : List (Str × V)} (e : Same F F') (h : XdAt F d fs) : XdAt F' d fs := by
  cases d with
  | none => exact h
  | some dd => exact e _ _ h
mutual
theorem Rep.same (e : Same F F') : ∀ (d : D) {v : V}, Rep K F d v → Rep K F' d v
  | .non, _, h => h
  | .bl _, _, h => h
  | .int _, _, h => h
  | .str _, _, h => h
  | .ty _, _, h => h
  | .ref _, _, h => h
  | .tup ds, _, h => by
    simp only [Rep] at h ⊢
    obtain ⟨a, vs, h1, h2, h3⟩ := h
    exact ⟨a, vs, h1, e _ _ h2, Reps.same e ds h3⟩
  | .ctp ds, _, h => by
    simp only [Rep] at h ⊢
    obtain ⟨a, vs, h1, h2, h3⟩ := h
    exact ⟨a, vs, h1, h2, Reps.same e ds h3⟩
  | .exn C ns ds, _, h => by
    simp only [Rep] at h ⊢
    obtain ⟨a, h1, h2 | ⟨t0, x, h2, h3, h4⟩⟩ := h
    · obtain ⟨d, vs, h2, h3, h4, h5⟩ := h2
      exact ⟨a, h1, .inl ⟨d, vs, e _ _ h2, h3.same e, h4, Reps.same e ds h5⟩⟩
    · exact ⟨a, h1, .inr ⟨t0, x, e _ _ h2, e _ _ h3, h4⟩⟩
  | .lst ds, _, h => by
    simp only [Rep] at h ⊢
    obtain ⟨a, vs, h1, h2, h3⟩ := h
    exact ⟨a, vs, h1, e _ _ h2, Reps.same e ds h3⟩
  | .rol ds, _, h => by
    simp only [Rep] at h ⊢
    obtain ⟨a, vs, h1, h2, h3⟩ := h
    exact ⟨a, vs, h1, e.seq h2, Reps.same e ds h3⟩
  | .dct ks ds, _, h => by
    simp only [Rep] at h ⊢
    obtain ⟨a, vs, h1, h2, h3, h4⟩ := h
    exact ⟨a, vs, h1, e _ _ h2, h3, Reps.same e ds h4⟩
  | .ins C ns ds, _, h => by
    simp only [Rep] at h ⊢
    obtain ⟨a, dx, vs, h1, h2, h3, h4⟩ := h
    exact ⟨a, dx, vs, h1, e _ _ h2, h3, Reps.same e ds h4⟩
theorem Reps.same (e : Same F F') : ∀ (ds : List D) {vs : List V}, Reps K F ds vs → Reps K F' ds vs
  | [], _, h => h
  | d :: ds, _, h => by
    simp only [Reps] at h ⊢
    obtain ⟨v, r, h1, h2, h3⟩ := h
    exact ⟨v, r, h1, Rep.same e d h2, Reps.same e ds h3⟩
end
theorem Reps.len : ∀ {ds : List D} {vs : List V}, Reps K F ds vs → vs.length = ds.length
  | [], _, h => by simp only [Reps] at h; rw [h]; rfl
  | d :: ds, _, h => by
    simp only [Reps] at h
    obtain ⟨v, r, rfl, _, h3⟩ := h
    simp [Reps.len h3]
theorem Reps.get : ∀ {ds : List D} {vs : List V} {i : Nat} {d : D}, Reps K F ds vs → ds[i]? = some d → ∃ v, vs[i]? = some v ∧ Rep K F d v
  | [], _, _, _, _, e => by simp at e
  | d :: ds, _, 0, _, h, e => by
    simp only [Reps] at h
    obtain ⟨v, r, rfl, h2, h3⟩ := h
    simp at e; subst e
    exact ⟨v, rfl, h2⟩
  | d :: ds, _, i + 1, _, h, e => by
    simp only [Reps] at h
    obtain ⟨v, r, rfl, h2, h3⟩ := h
    simp at e
    obtain ⟨w, h4, h5⟩ := Reps.get h3 e
    exact ⟨w, by simpa using h4, h5⟩
theorem Reps.append : ∀ {ds es : List D} {vs us : List V}, Reps K F ds vs → Reps K F es us → Reps K F (ds ++ es) (vs ++ us)
  | [], _, _, _, h, h' => by simp only [Reps] at h; subst h; exact h'
  | d :: ds, _, _, _, h, h' => by
    simp only [Reps] at h
    obtain ⟨v, r, rfl, h2, h3⟩ := h
    exact ⟨v, _, rfl, h2, Reps.append h3 h'⟩
theorem Reps.one {d : D} {v : V} (h : Rep K F d v) : Reps K F [d] [v] := ⟨v, [], rfl, h, rfl⟩
theorem Reps.take : ∀ {ds : List D} {vs : List V} (n : Nat), Reps K F ds vs → Reps K F (ds.take n) (vs.take n)
  | [], _, n, h => by simp only [Reps] at h; subst h; simp [Reps]
  | d :: ds, _, 0, h => by simp [Reps]
  | d :: ds, _, n + 1, h => by
    simp only [Reps] at h
    obtain ⟨v, r, rfl, h2, h3⟩ := h
    exact ⟨v, _, rfl, h2, Reps.take n h3⟩
theorem Reps.drop : ∀ {ds : List D} {vs : List V} (n : Nat), Reps K F ds vs → Reps K F (ds.drop n) (vs.drop n)
  | [], _, n, h => by simp only [Reps] at h; subst h; simp [Reps]
  | d :: ds, _, 0, h => h
  | d :: ds, _, n + 1, h => by
    simp only [Reps] at h
    obtain ⟨v, r, rfl, h2, h3⟩ := h
    exact Reps.drop n h3
theorem Reps.set : ∀ {ds : List D} {vs : List V} (n : Nat) {d : D} {v : V}, Rep K F d v → Reps K F ds vs → Reps K F (ds.set n d) (vs.set n v)
  | [], _, n, _, _, _, h => by simp only [Reps] at h; subst h; simp [Reps]
  | d :: ds, _, 0, _, _, q, h => by
    simp only [Reps] at h
    obtain ⟨v, r, rfl, h2, h3⟩ := h
    exact ⟨_, _, rfl, q, h3⟩
  | d :: ds, _, n + 1, _, _, q, h => by
    simp only [Reps] at h
    obtain ⟨v, r, rfl, h2, h3⟩ := h
    exact ⟨v, _, rfl, h2, Reps.set n q h3⟩
end

/-! ### owned trees -/
inductive O where
  | val (d : D) | lst (l : List D) | dK (ks : List Key) (vs : List D) | dT (ks : List (List Key)) (vs : List D)
  | lo (l : List O) | ins (C : Addr) (ns : List Str) (l : List O) | to (l : List O)
mutual
def Own (K : PySem.W.Frag) (F H : Hp) : O → V → List Addr → Prop
  | .val d, v, B => B = [] ∧ Rep K F d v
  | .lst ds, v, B => ∃ a vs, v = .ref a ∧ B = [a] ∧ H a = some (.lst vs) ∧ Reps K F ds vs
  | .dK ks ds, v, B => ∃ a vs, v = .ref a ∧ B = [a] ∧ H a = some (.dK (ks.zip vs)) ∧ ks.length = ds.length ∧ Reps K F ds vs
  | .dT ks ds, v, B => ∃ a vs, v = .ref a ∧ B = [a] ∧ H a = some (.dT (ks.zip vs)) ∧ ks.length = ds.length ∧ Reps K F ds vs
  | .lo os, v, B => ∃ a vs B', v = .ref a ∧ B = a :: B' ∧ H a = some (.lst vs) ∧ Owns K F H os vs B'
  | .to os, v, B => ∃ a vs B', v = .ref a ∧ B = a :: B' ∧ H a = some (.tup vs) ∧ Owns K F H os vs B'
  | .ins C ns os, v, B => ∃ a dx vs B', v = .ref a ∧ B = a :: B' ∧ H a = some (.ins C dx (ns.zip vs)) ∧ ns.length = os.length ∧ Owns K F H os vs B'
def Owns (K : PySem.W.Frag) (F H : Hp) : List O → List V → List Addr → Prop
  | [], vs, B => vs = [] ∧ B = []
  | o :: os, vs, B => ∃ v r B1 B2, vs = v :: r ∧ B = B1 ++ B2 ∧ Own K F H o v B1 ∧ Owns K F H os r B2
end

/-- what a piece of code may change: what it owned; what it froze: what it owned, or what is new -/
structure Step (F H : Hp) (P : Addr → Prop) (F' H' : Hp) (P' : Addr → Prop) : Prop where
  fz : Same F F'
  keep : ∀ a o, H a = some o → NoTb o → ¬ P a → H' a = some o
  tabs : TbsOk F H → TbsOk F' H'
  new : ∀ a, F' a ≠ none → F a ≠ none ∨ H a = none ∨ P a
  dom : ∀ a, H' a = none → H a = none
  own : ∀ a, P' a → P a ∨ H a = none
section
variable {F H F1 H1 F2 H2 : Hp} {P P1 P2 B : Addr → Prop}
theorem Step.refl : Step F H P F H P := ⟨Same.refl _, fun _ _ h _ _ => h, fun h => h, fun _ h => .inl h, fun _ h => h, fun _ h => .inl h⟩
theorem Step.trans (a : Step F H P F1 H1 P1) (b : Step F1 H1 P1 F2 H2 P2) : Step F H P F2 H2 P2 where
  fz := a.fz.trans b.fz
  tabs := fun h => b.tabs (a.tabs h)
  keep := fun x o h nt n => b.keep x o (a.keep x o h nt n) nt fun p => by
    rcases a.own x p with z | z
    · exact n z
    · rw [h] at z; cases z
  new := fun x h => by
    rcases b.new x h with z | z | z
    · exact a.new x z
    · exact .inr (.inl (a.dom x z))
    · rcases a.own x z with z | z
      · exact .inr (.inr z)
      · exact .inr (.inl z)
  dom := fun x h => a.dom x (b.dom x h)
  own := fun x h => by
    rcases b.own x h with z | z
    · exact a.own x z
    · exact .inr (a.dom x z)
/-- with more that is owned beside -/
theorem Step.frame (a : Step F H P F1 H1 P1) (B : Addr → Prop) : Step F H (fun x => P x ∨ B x) F1 H1 (fun x => P1 x ∨ B x) where
  fz := a.fz
  tabs := a.tabs
  keep := fun x o h nt n => a.keep x o h nt fun p => n (.inl p)
  new := fun x h => by
    rcases a.new x h with z | z | z
    · exact .inl z
    · exact .inr (.inl z)
    · exact .inr (.inr (.inl z))
  dom := a.dom
  own := fun x h => by
    rcases h with h | h
    · rcases a.own x h with z | z
      · exact .inl (.inl z)
      · exact .inr z
    · exact .inl (.inr h)
theorem Step.less (a : Step F H P F1 H1 P1) (h : ∀ x, P2 x → P1 x) : Step F H P F1 H1 P2 := ⟨a.fz, a.keep, a.tabs, a.new, a.dom, fun x p => a.own x (h x p)⟩
theorem Step.more (a : Step F H P F1 H1 P1) (h : ∀ x, P x → P2 x) : Step F H P2 F1 H1 P1 :=
  ⟨a.fz, fun x o e nt n => a.keep x o e nt fun p => n (h x p), a.tabs, fun x e => by
    rcases a.new x e with z | z | z
    · exact .inl z
    · exact .inr (.inl z)
    · exact .inr (.inr (h x z)), a.dom, fun x p => (a.own x p).imp_left (h x)⟩
end

section
variable {K : PySem.W.Frag} {F F' H H' : Hp}
mutual
theorem Own.there : ∀ (o : O) {v : V} {B : List Addr}, Own K F H o v B → ∀ b ∈ B, H b ≠ none
  | .val d, _, _, h, b, hb => by
    simp only [Own] at h
    rw [h.1] at hb; cases hb
  | .lst ds, _, _, h, b, hb => by
    simp only [Own] at h
    obtain ⟨a, vs, _, rfl, e, _⟩ := h
    simp only [List.mem_singleton] at hb; subst hb
    rw [e]; simp
  | .dK ks ds, _, _, h, b, hb => by
    simp only [Own] at h
    obtain ⟨a, vs, _, rfl, e, _⟩ := h
    simp only [List.mem_singleton] at hb; subst hb
    rw [e]; simp
  | .dT ks ds, _, _, h, b, hb => by
    simp only [Own] at h
    obtain ⟨a, vs, _, rfl, e, _⟩ := h
    simp only [List.mem_singleton] at hb; subst hb
    rw [e]; simp
  | .lo os, _, _, h, b, hb => by
    simp only [Own] at h
    obtain ⟨a, vs, B', _, rfl, e, q⟩ := h
    rcases List.mem_cons.mp hb with rfl | hb
    · rw [e]; simp
    · exact Owns.there os q b hb
  | .to os, _, _, h, b, hb => by
    simp only [Own] at h
    obtain ⟨a, vs, B', _, rfl, e, q⟩ := h
    rcases List.mem_cons.mp hb with rfl | hb
    · rw [e]; simp
    · exact Owns.there os q b hb
  | .ins C ns os, _, _, h, b, hb => by
    simp only [Own] at h
    obtain ⟨a, dx, vs, B', _, rfl, e, _, q⟩ := h
    rcases List.mem_cons.mp hb with rfl | hb
    · rw [e]; simp
    · exact Owns.there os q b hb
theorem Owns.there : ∀ (os : List O) {vs : List V} {B : List Addr}, Owns K F H os vs B → ∀ b ∈ B, H b ≠ none
  | [], _, _, h, b, hb => by
    simp only [Owns] at h
    rw [h.2] at hb; cases hb
  | o :: os, _, _, h, b, hb => by
    simp only [Owns] at h
    obtain ⟨v, r, B1, B2, _, rfl, h1, h2⟩ := h
    rcases List.mem_append.mp hb with hb | hb
    · exact Own.there o h1 b hb
    · exact Owns.there os h2 b hb
end
mutual
theorem Own.nd : ∀ (o : O) {v : V} {B : List Addr}, Own K F H o v B → ∀ b ∈ B, Nd (H b)
  | .val d, _, _, h, b, hb => by
    simp only [Own] at h
    rw [h.1] at hb; cases hb
  | .lst ds, _, _, h, b, hb => by
    simp only [Own] at h
    obtain ⟨a, vs, _, rfl, e, _⟩ := h
    simp only [List.mem_singleton] at hb; subst hb
    rw [e]; exact trivial
  | .dK ks ds, _, _, h, b, hb => by
    simp only [Own] at h
    obtain ⟨a, vs, _, rfl, e, _⟩ := h
    simp only [List.mem_singleton] at hb; subst hb
    rw [e]; exact trivial
  | .dT ks ds, _, _, h, b, hb => by
    simp only [Own] at h
    obtain ⟨a, vs, _, rfl, e, _⟩ := h
    simp only [List.mem_singleton] at hb; subst hb
    rw [e]; exact trivial
  | .lo os, _, _, h, b, hb => by
    simp only [Own] at h
    obtain ⟨a, vs, B', _, rfl, e, q⟩ := h
    rcases List.mem_cons.mp hb with rfl | hb
    · rw [e]; exact trivial
    · exact Owns.nd os q b hb
  | .to os, _, _, h, b, hb => by
    simp only [Own] at h
    obtain ⟨a, vs, B', _, rfl, e, q⟩ := h
    rcases List.mem_cons.mp hb with rfl | hb
    · rw [e]; exact trivial
    · exact Owns.nd os q b hb
  | .ins C ns os, _, _, h, b, hb => by
    simp only [Own] at h
    obtain ⟨a, dx, vs, B', _, rfl, e, _, q⟩ := h
    rcases List.mem_cons.mp hb with rfl | hb
    · rw [e]; exact trivial
    · exact Owns.nd os q b hb
theorem Owns.nd : ∀ (os : List O) {vs : List V} {B : List Addr}, Owns K F H os vs B → ∀ b ∈ B, Nd (H b)
  | [], _, _, h, b, hb => by
    simp only [Owns] at h
    rw [h.2] at hb; cases hb
  | o :: os, _, _, h, b, hb => by
    simp only [Owns] at h
    obtain ⟨v, r, B1, B2, _, rfl, h1, h2⟩ := h
    rcases List.mem_append.mp hb with hb | hb
    · exact Own.nd o h1 b hb
    · exact Owns.nd os h2 b hb
end
mutual
/-- what is owned stays where its own objects stay -/
theorem Own.stay (e : Same F F') : ∀ (o : O) {v : V} {B : List Addr}, Own K F H o v B → (∀ b ∈ B, ∀ u, H b = some u → H' b = some u) → Own K F' H' o v B
  | .val d, _, _, h, _ => by
    simp only [Own] at h ⊢
    exact ⟨h.1, Rep.same e d h.2⟩
  | .lst ds, _, _, h, k => by
    simp only [Own] at h ⊢
    obtain ⟨a, vs, rfl, rfl, h1, h2⟩ := h
    exact ⟨a, vs, rfl, rfl, k a (List.mem_singleton.mpr rfl) _ h1, Reps.same e ds h2⟩
  | .dK ks ds, _, _, h, k => by
    simp only [Own] at h ⊢
    obtain ⟨a, vs, rfl, rfl, h1, h3, h2⟩ := h
    exact ⟨a, vs, rfl, rfl, k a (List.mem_singleton.mpr rfl) _ h1, h3, Reps.same e ds h2⟩
  | .dT ks ds, _, _, h, k => by
    simp only [Own] at h ⊢
    obtain ⟨a, vs, rfl, rfl, h1, h3, h2⟩ := h
    exact ⟨a, vs, rfl, rfl, k a (List.mem_singleton.mpr rfl) _ h1, h3, Reps.same e ds h2⟩
  | .lo os, _, _, h, k => by
    simp only [Own] at h ⊢
    obtain ⟨a, vs, B', rfl, rfl, h1, h2⟩ := h
    exact ⟨a, vs, B', rfl, rfl, k a List.mem_cons_self _ h1, Owns.stay e os h2 fun b hb => k b (List.mem_cons_of_mem _ hb)⟩
  | .to os, _, _, h, k => by
    simp only [Own] at h ⊢
    obtain ⟨a, vs, B', rfl, rfl, h1, h2⟩ := h
    exact ⟨a, vs, B', rfl, rfl, k a List.mem_cons_self _ h1, Owns.stay e os h2 fun b hb => k b (List.mem_cons_of_mem _ hb)⟩
  | .ins C ns os, _, _, h, k => by
    simp only [Own] at h ⊢
    obtain ⟨a, dx, vs, B', rfl, rfl, h1, h3, h2⟩ := h
    exact ⟨a, dx, vs, B', rfl, rfl, k a List.mem_cons_self _ h1, h3, Owns.stay e os h2 fun b hb => k b (List.mem_cons_of_mem _ hb)⟩
theorem Owns.stay (e : Same F F') : ∀ (os : List O) {vs : List V} {B : List Addr}, Owns K F H os vs B → (∀ b ∈ B, ∀ u, H b = some u → H' b = some u) → Owns K F' H' os vs B
  | [], _, _, h, _ => h
  | o :: os, _, _, h, k => by
    simp only [Owns] at h ⊢
    obtain ⟨v, r, B1, B2, rfl, rfl, h1, h2⟩ := h
    exact ⟨v, r, B1, B2, rfl, rfl, Own.stay e o h1 fun b hb => k b (List.mem_append_left _ hb), Owns.stay e os h2 fun b hb => k b (List.mem_append_right _ hb)⟩
end
end

/-! ### the names' slots -/
inductive Slot where
  | un | own (o : O) | pin (o : O)
abbrev DEnv := List Slot
/-- a result: data; a new tree; the very object that slot i holds -/
inductive R where
  | val (d : D) | own (o : O) | bor (i : Nat)
abbrev Exc := Str
inductive Res (α : Type) where
  | bad | ok (a : α) (e : DEnv) | exc (c : Exc) (e : DEnv)
abbrev M (α : Type) := DEnv → Res α

def SlotOk (K : PySem.W.Frag) (F H : Hp) (s : Slot) (x : Option V) (p : Option V) (B : List Addr) : Prop :=
  match s with
  | .un => B = []
  | .own o => ∃ v, x = some v ∧ Own K F H o v B
  | .pin o => ∃ v, x = some v ∧ p = some v ∧ Own K F H o v B
def UA (A : Nat → List Addr) : Addr → Prop := fun a => ∃ i, a ∈ A i
structure WS (K : PySem.W.Frag) (pv : Nat → Option V) (env : DEnv) (σ : L2.St) (F H : Hp) (A : Nat → List Addr) : Prop where
  len : env.length = σ.length
  slot : ∀ i, SlotOk K F H (env[i]?.getD .un) (σ[i]?.getD none) (pv i) (A i)
  nd : ∀ i, (A i).Nodup
  dj : ∀ i j a, a ∈ A i → a ∈ A j → i = j
  dis : ∀ i a, a ∈ A i → F a = none
  sub : Same F H
  tbs : TbsOk F H
def SlotOk.stay {K : PySem.W.Frag} {F F' H H' : Hp} {s : Slot} {x p : Option V} {B : List Addr} (e : Same F F') (h : SlotOk K F H s x p B) (k : ∀ b ∈ B, ∀ u, H b = some u → H' b = some u) : SlotOk K F' H' s x p B := by
  cases s with
  | un => exact h
  | own o => obtain ⟨v, h1, h2⟩ := h; exact ⟨v, h1, Own.stay e o h2 k⟩
  | pin o => obtain ⟨v, h1, h0, h2⟩ := h; exact ⟨v, h1, h0, Own.stay e o h2 k⟩
def SlotOk.there {K : PySem.W.Frag} {F H : Hp} {s : Slot} {x p : Option V} {B : List Addr} (h : SlotOk K F H s x p B) : ∀ b ∈ B, H b ≠ none := by
  cases s with
  | un => intro b hb; rw [show B = [] from h] at hb; cases hb
  | own o => obtain ⟨v, h1, h2⟩ := h; exact Own.there o h2
  | pin o => obtain ⟨v, h1, h0, h2⟩ := h; exact Own.there o h2

theorem SlotOk.nd {K : PySem.W.Frag} {F H : Hp} {s : Slot} {x p : Option V} {B : List Addr} (h : SlotOk K F H s x p B) : ∀ b ∈ B, Nd (H b) := by
  cases s with
  | un => intro b hb; rw [show B = [] from h] at hb; cases hb
  | own o => obtain ⟨v, h1, h2⟩ := h; exact Own.nd o h2
  | pin o => obtain ⟨v, h1, h0, h2⟩ := h; exact Own.nd o h2

/-- a result's value -/
def RRep (K : PySem.W.Frag) (env : DEnv) (σ : L2.St) (F H : Hp) (r : R) (v : V) (B : List Addr) : Prop :=
  match r with
  | .val d => B = [] ∧ Rep K F d v
  | .own o => Own K F H o v B
  | .bor i => B = [] ∧ σ[i]? = some (some v)
structure RS (K : PySem.W.Frag) (pv : Nat → Option V) (env : DEnv) (σ : L2.St) (r : R) (v : V) (F H : Hp) (A : Nat → List Addr) (B : List Addr) : Prop where
  ws : WS K pv env σ F H A
  rr : RRep K env σ F H r v B
  nd : B.Nodup
  dj : ∀ a ∈ B, ¬ UA A a
  dis : ∀ a ∈ B, F a = none
/-- what is wished of an exception that leaves -/
def exW (mg : Str → Option Value) (W : WX) (c : Exc) (σ : L2.St) (H : Hp) : Prop := ∀ C, mg c = some (.ref C) → W (.ref C) none σ H
/-- the canonical reading of an expression whose meaning is f -/
def tD (K : PySem.W.Frag) (mg : Str → Option Value) (pv : Nat → Option V) (W : WX) (f : M R) : TE := fun σ H Q => ∃ env F A, WS K pv env σ F H A ∧
  match f env with
  | .bad => False
  | .ok r env' => ∀ v F' H' A' B, Step F H (UA A) F' H' (fun a => UA A' a ∨ a ∈ B) → RS K pv env' σ r v F' H' A' B → Q v H'
  | .exc c env' => ∀ F' H' A', Step F H (UA A) F' H' (UA A') → WS K pv env' σ F' H' A' → exW mg W c σ H'
def tDT (K : PySem.W.Frag) (mg : Str → Option Value) (pv : Nat → Option V) (W : WX) (f : M Bool) : TT := fun σ H Q => ∃ env F A, WS K pv env σ F H A ∧
  match f env with
  | .bad => False
  | .ok b env' => ∀ F' H' A', Step F H (UA A) F' H' (UA A') → WS K pv env' σ F' H' A' → Q b H'
  | .exc c env' => ∀ F' H' A', Step F H (UA A) F' H' (UA A') → WS K pv env' σ F' H' A' → exW mg W c σ H'
inductive Flow where
  | nx | brk | cont | ret (r : R)
def sD (K : PySem.W.Frag) (mg : Str → Option Value) (pv : Nat → Option V) (W : WX) (g : M Flow) : TS := fun D σ H => ∃ env F A, WS K pv env σ F H A ∧
  match g env with
  | .bad => False
  | .ok .nx env' => ∀ σ' F' H' A', Step F H (UA A) F' H' (UA A') → WS K pv env' σ' F' H' A' → D.nx σ' H'
  | .ok .brk env' => ∀ σ' F' H' A', Step F H (UA A) F' H' (UA A') → WS K pv env' σ' F' H' A' → D.bk σ' H'
  | .ok .cont env' => ∀ σ' F' H' A', Step F H (UA A) F' H' (UA A') → WS K pv env' σ' F' H' A' → D.ct σ' H'
  | .ok (.ret r) env' => ∀ v σ' F' H' A' B, Step F H (UA A) F' H' (fun a => UA A' a ∨ a ∈ B) → RS K pv env' σ' r v F' H' A' B → D.rt v H'
  | .exc c env' => ∀ σ' F' H' A', Step F H (UA A) F' H' (UA A') → WS K pv env' σ' F' H' A' → exW mg W c σ' H'

section
variable {K : PySem.W.Frag} {pv : Nat → Option V} {env env' : DEnv} {σ : L2.St} {F F' H H' : Hp} {A A' : Nat → List Addr} {B : List Addr} {r : R} {v : V}
theorem WS.stay (w : WS K pv env σ F H A) (e : Same F F') (sub : Same F' H') (k : ∀ b, UA A b → ∀ u, H b = some u → H' b = some u) (n : ∀ b, UA A b → F' b = none) (t : TbsOk F H → TbsOk F' H') : WS K pv env σ F' H' A :=
  ⟨w.len, fun i => (w.slot i).stay e fun b hb => k b ⟨i, hb⟩, w.nd, w.dj, fun i a h => n a ⟨i, h⟩, sub, t w.tbs⟩
theorem WS.there (w : WS K pv env σ F H A) {a : Addr} (h : UA A a) : H a ≠ none := by
  obtain ⟨i, hi⟩ := h
  exact (w.slot i).there a hi
theorem WS.disU (w : WS K pv env σ F H A) {a : Addr} (h : UA A a) : F a = none := by
  obtain ⟨i, hi⟩ := h
  exact w.dis i a hi
theorem RRep.there (h : RRep K env σ F H r v B) : ∀ b ∈ B, H b ≠ none := by
  cases r with
  | val d => intro b hb; rw [h.1] at hb; cases hb
  | own o => exact Own.there o h
  | bor i => intro b hb; rw [h.1] at hb; cases hb
theorem RRep.nd (h : RRep K env σ F H r v B) : ∀ b ∈ B, Nd (H b) := by
  cases r with
  | val d => intro b hb; rw [h.1] at hb; cases hb
  | own o => exact Own.nd o h
  | bor i => intro b hb; rw [h.1] at hb; cases hb
theorem WS.ndU (w : WS K pv env σ F H A) {a : Addr} (h : UA A a) : Nd (H a) := by
  obtain ⟨i, hi⟩ := h
  exact (w.slot i).nd a hi
theorem RRep.stay {env2 : DEnv} (h : RRep K env σ F H r v B) (e : Same F F') (k : ∀ b ∈ B, ∀ u, H b = some u → H' b = some u) : RRep K env2 σ F' H' r v B := by
  cases r with
  | val d => exact ⟨h.1, Rep.same e d h.2⟩
  | own o => exact Own.stay e o h k
  | bor i => exact h
/-- a result that waits while another piece of code runs -/
theorem RS.wait (a : RS K pv env σ r v F H A B) {P' : Addr → Prop} (s : Step F H (UA A) F' H' P') {env2 : DEnv} (ws : WS K pv env2 σ F' H' A') : RRep K env2 σ F' H' r v B ∧ (∀ x ∈ B, F' x = none) ∧ (∀ x ∈ B, ¬ P' x) := by
  have th := a.rr.there
  refine ⟨a.rr.stay s.fz fun b hb u e => s.keep b u e (Nd.noTb (by rw [← e]; exact a.rr.nd b hb)) (a.dj b hb), fun x hx => ?_, fun x hx p => ?_⟩
  · apply Classical.byContradiction
    intro z
    rcases s.new x z with q | q | q
    · exact q (a.dis x hx)
    · exact th x hx q
    · exact a.dj x hx q
  · rcases s.own x p with q | q
    · exact a.dj x hx q
    · exact th x hx q
end
theorem _root_.L2.PE.imp {X : Cx} {e : Expr} {t t' : TE} (h : PE X e t) (i : ∀ σ H Q, t' σ H Q → t σ H Q) : PE X e t' := ⟨fun pins s σ H Q I q => h.run pins s σ H Q I (i σ H Q q)⟩
theorem _root_.L2.PT.imp {X : Cx} {e : Expr} {t t' : TT} (h : PT X e t) (i : ∀ σ H Q, t' σ H Q → t σ H Q) : PT X e t' := ⟨fun pins s σ H Q I q => h.run pins s σ H Q I (i σ H Q q)⟩
theorem _root_.L2.PW.imp {X : Cx} {e : Expr} {t t' : TT} (h : PW X e t) (i : ∀ σ H Q, t' σ H Q → t σ H Q) : PW X e t' := ⟨fun w pins s σ H Q I q => h.run w pins s σ H Q I (i σ H Q q)⟩
theorem _root_.L2.PS.imp {X : Cx} {e : Stmt} {t t' : TS} (h : PS X e t) (i : ∀ D σ H, t' D σ H → t D σ H) : PS X e t' := ⟨fun pins s σ H D I q => h.run pins s σ H D I (i D σ H q)⟩
theorem _root_.L2.PSs.imp {X : Cx} {e : List Stmt} {t t' : TS} (h : PSs X e t) (i : ∀ D σ H, t' D σ H → t D σ H) : PSs X e t' := ⟨fun pins s σ H D I q => h.run pins s σ H D I (i D σ H q)⟩
theorem _root_.L2.PA.imp {X : Cx} {e : List Expr} {t t' : TA} (h : PA X e t) (i : ∀ σ H Q, t' σ H Q → t σ H Q) : PA X e t' := ⟨fun p pins s σ H Q I q => h.run p pins s σ H Q I (i σ H Q q)⟩

/-! ### sequencing: what the rest of the code needs -/
def Res.bind {α β : Type} (x : Res α) (k : α → M β) : Res β := match x with
  | .bad => .bad
  | .ok a e => k a e
  | .exc c e => .exc c e
section
variable {K : PySem.W.Frag} {pv : Nat → Option V} {W : WX} {mg : Str → Option Value}
/-- an expression, then something else: from the reading of the whole, the first's reading with what the rest wants behind it -/
theorem tD_bind {f : M R} {σ : L2.St} {H : Hp} {Q : VK} {env : DEnv} {F : Hp} {A : Nat → List Addr} (ws : WS K pv env σ F H A) (hb : f env ≠ .bad)
    (hx : ∀ c env', f env = .exc c env' → ∀ F' H' A', Step F H (UA A) F' H' (UA A') → WS K pv env' σ F' H' A' → exW mg W c σ H')
    (hk : ∀ r env', f env = .ok r env' → ∀ v F' H' A' B, Step F H (UA A) F' H' (fun a => UA A' a ∨ a ∈ B) → RS K pv env' σ r v F' H' A' B → Q v H') : tD K mg pv W f σ H Q := by
  refine ⟨env, F, A, ws, ?_⟩
  cases e : f env with
  | bad => exact hb e
  | ok r env' => exact hk r env' e
  | exc c env' => exact hx c env' e
end
end DL
end
section
set_option maxRecDepth 100000
set_option maxHeartbeats 2000000
namespace DLH
open PySem PySem.Spec PyProof.Rows L2 DL He
abbrev Fr : Type := PySem.W.Frag
/-! ### functions -/
structure FD where
  at_ : Fr → Addr
  name : Str
  qual : Str
  st : Stmt
  ex : Fr → Bool := fun _ => true
def fobs (K : Fr) (a : Addr) : FnV := match K.lookup a with
  | some ⟨_, _, .func fd, _⟩ => some (fd.name, fd.qualname, fd.params, fd.body, fd.scope, fd.globals, fd.closure, fd.defaults, fd.builtins)
  | _ => none
def FD.val (d : FD) : FnV := some (d.name, d.qual, defArgs d.st, .stmts (defBody d.st), defScope d.st, mainGlobals, [], .none, builtinsNs)
def FD.ok (K : Fr) (d : FD) : Bool := (PySem.W.keepIn K (.ref (d.at_ K)) && (match K.lookup (d.at_ K) with
  | some ⟨_, _, .func fd, _⟩ => PySem.W.codeIn K fd.code d.qual
  | _ => false)) && d.ex K
theorem FD.get {K : Fr} {d : FD} (e : fobs K (d.at_ K) = d.val) (c : d.ok K = true) :
    (∃ oc od osl kV doc pm an cdv ct, K.lookup (d.at_ K) = some ⟨oc, od, .func (PySem.W.fnOf d.name d.qual (defArgs d.st) (defBody d.st) (defScope d.st) .none kV doc pm an cdv ct), osl⟩ ∧ PySem.W.codeIn K cdv d.qual = true) ∧ PySem.W.keepIn K (.ref (d.at_ K)) = true ∧ d.ex K = true := by
  obtain ⟨c1, c3⟩ := ba c
  obtain ⟨kp, c2⟩ := ba c1
  refine ⟨?_, kp, c3⟩
  unfold fobs at e
  cases q : K.lookup (d.at_ K) with
  | none =>
    rw [q] at c2
    cases c2
  | some o =>
    obtain ⟨oc, od, dt, osl⟩ := o
    rw [q] at c2 e
    cases dt with
    | func fd =>
      obtain ⟨n1, n2, n3, n4, n5, n6, n7, n8, n9, n10, n11, n12, n13, n14, n15⟩ := fd
      have e2 : (some (n1, n2, n3, n4, n5, n6, n7, n8, n15) : FnV) = some (d.name, d.qual, defArgs d.st, .stmts (defBody d.st), defScope d.st, mainGlobals, [], .none, builtinsNs) := e
      simp only [Option.some.injEq, Prod.mk.injEq] at e2
      obtain ⟨h1, h2, h3, h4, h5, h6, h7, h8, h9⟩ := e2
      subst h1 h2 h3 h4 h5 h6 h7 h8 h9
      exact ⟨oc, od, osl, n9, n10, n11, n12, n13, n14, rfl, c2⟩
    | _ => cases c2
/-! ### what the end leans on -/
structure SaysH (fs : List (Fr → Bool)) (fn : List FD) (tf : List Str) (h : Heap) (K : Fr) : Prop where
  fact : ∀ f ∈ fs, f K = true
  defs : ∀ d ∈ fn, fobs K (d.at_ K) = d.val ∧ d.ok K = true
  hd : ∀ p ∈ tf, PySem.W.codeHdIn K (cT K (p, none)).1 (cT K (p, none)).2 = true
  out : ∀ p ∈ tf, K.lookup (cT K (p, none)).2 = none
  empty : ∀ p ∈ tf, h.get? (cT K (p, none)).2 = some { cls := .none, data := .fields #[] }
  apart : ∀ p ∈ tf, ∀ q ∈ tf, (cT K (p, none)).2 = (cT K (q, none)).2 → p = q
def tabsH (g : Addr → Option Obj) (tf : List Str) (K : Fr) : Bool := (tf.all fun p => PySem.W.codeHdIn K (cT K (p, none)).1 (cT K (p, none)).2 && (match g (cT K (p, none)).2 with
  | some o => emptyTab o
  | none => false)) && tf.all fun p => tf.all fun q => !((cT K (p, none)).2 == (cT K (q, none)).2) || p == q
abbrev AlH : Type := Bool × List FnV
def obsK (fs : List (Fr → Bool)) (fn : List FD) (tf : List Str) (g : Addr → Option Obj) (K : Fr) : AlH := (((fs.all fun f => f K) && fn.all fun d => d.ok K) && tabsH g tf K, fn.map fun d => fobs K (d.at_ K))
def obsH (ad : List Addr) (fs : List (Fr → Bool)) (fn : List FD) (tf : List Str) (g : Addr → Option Obj) : AlH := obsK fs fn tf g (frT g ad)
def valH (fn : List FD) : AlH := (true, fn.map FD.val)
theorem saysH_of {ad : List Addr} {fs : List (Fr → Bool)} {fn : List FD} {tf : List Str} {h : Heap} (e : obsH ad fs fn tf h.get? = valH fn) : SaysH fs fn tf h (frT h.get? ad) := by
  have e1 := congrArg (fun z : AlH => z.1) e
  have e2 : fn.map (fun d => fobs (frT h.get? ad) (d.at_ (frT h.get? ad))) = fn.map FD.val := congrArg (fun z : AlH => z.2) e
  obtain ⟨h1, h2⟩ := ba (show (((fs.all fun f => f (frT h.get? ad)) && fn.all fun d => d.ok (frT h.get? ad)) && tabsH h.get? tf (frT h.get? ad)) = true from e1)
  obtain ⟨h3, h4⟩ := ba h1
  obtain ⟨h5, h6⟩ := ba h2
  have key : ∀ p ∈ tf, PySem.W.codeHdIn (frT h.get? ad) (cT (frT h.get? ad) (p, none)).1 (cT (frT h.get? ad) (p, none)).2 = true ∧ ∃ o, h.get? (cT (frT h.get? ad) (p, none)).2 = some o ∧ emptyTab o = true := fun p hp => by
    obtain ⟨h7, h8⟩ := ba (List.all_eq_true.mp h5 p hp)
    refine ⟨h7, ?_⟩
    cases q : h.get? (cT (frT h.get? ad) (p, none)).2 with
    | none =>
      rw [q] at h8
      cases h8
    | some o =>
      rw [q] at h8
      exact ⟨o, rfl, h8⟩
  refine ⟨fun f hf => List.all_eq_true.mp h3 f hf, fun d hd => ⟨List.map_inj_left.mp e2 d hd, List.all_eq_true.mp h4 d hd⟩, fun p hp => (key p hp).1, fun p hp => ?_, fun p hp => ?_, fun p hp q hq z => ?_⟩
  · obtain ⟨_, o, q, z⟩ := key p hp
    exact frT_none q z
  · obtain ⟨_, o, q, z⟩ := key p hp
    rw [q, emptyTab_eq z]
  · have a := List.all_eq_true.mp (List.all_eq_true.mp h6 p hp) q hq
    rw [z] at a
    have a2 : (!(true : Bool) || p == q) = true := by
      have e : ((cT (frT h.get? ad) (q, none)).2 == (cT (frT h.get? ad) (q, none)).2) = true := beq_self_eq_true _
      rw [e] at a
      exact a
    exact eq_of_beq a2
def hookH (ad : List Addr) (fs : List (Fr → Bool)) (fn : List FD) (tf : List Str) : PySem.W.Hook where
  α := AlH
  obs := fun s => obsH ad fs fn tf s.heap.get?
  val := fun _ => valH fn
  says := fun _ h => ∃ K : Fr, K.In h ∧ SaysH fs fn tf h K
  of := fun _ _ e => ⟨_, frT_in, saysH_of e⟩
  keeps := fun _ _ _ ⟨K, hK, c⟩ k => ⟨K, PySem.W.Frag.In.keeps hK k, ⟨c.fact, c.defs, c.hd, c.out, fun p hp => k _ _ (c.empty p hp), c.apart⟩⟩
theorem obsH_eq {ad : List Addr} {fs : List (Fr → Bool)} {fn : List FD} {tf : List Str} {g : Addr → Option Obj} {s : Shared} (h : ∀ a, g a = s.heap.get? a) : obsH ad fs fn tf g = (hookH ad fs fn tf).obs s := by
  have e : g = s.heap.get? := funext h
  rw [e] <;> rfl
theorem SaysH.f {fs : List (Fr → Bool)} {fn : List FD} {tf : List Str} {h : Heap} {K : Fr} (c : SaysH fs fn tf h K) (i : Nat) {f : Fr → Bool} (e : fs[i]? = some f := by rfl) : f K = true := c.fact f (List.mem_of_getElem? e)
theorem SaysH.d {fs : List (Fr → Bool)} {fn : List FD} {tf : List Str} {h : Heap} {K : Fr} (c : SaysH fs fn tf h K) (i : Nat) {d : FD} (e : fn[i]? = some d := by rfl) :
    (∃ oc od osl kV doc pm an cdv ct, K.lookup (d.at_ K) = some ⟨oc, od, .func (PySem.W.fnOf d.name d.qual (defArgs d.st) (defBody d.st) (defScope d.st) .none kV doc pm an cdv ct), osl⟩ ∧ PySem.W.codeIn K cdv d.qual = true) ∧ PySem.W.keepIn K (.ref (d.at_ K)) = true ∧ d.ex K = true := FD.get (c.defs d (List.mem_of_getElem? e)).1 (c.defs d (List.mem_of_getElem? e)).2
/-! ### facts as Bools -/
def gloB (x : Str) : Fr → Bool := fun K => eqO (PySem.W.nsIn K mainGlobals x) (some (some (.ref (ga K x))))
def freeB (x : Str) : Fr → Bool := fun K => eqO (PySem.W.nsIn K mainGlobals x) (some none)
def excB (x : Str) : Fr → Bool := fun K => gloB x K && (PySem.W.excIn K (ga K x) [.type "ValueError", .type "Exception", .type "BaseException", .type "object"] "ValueError.__new__" && (PySem.W.keepIn K (.ref (ga K x)) && (decide (PySem.W.subIn K (.ref (ga K x)) (.type "BaseException") = some true) && decide (PySem.W.typeIn K (.ref (ga K x)) = some (.type "type")))))
def ecB (x : Str) : Fr → Bool := fun K => gloB x K && (eqO (PySem.W.findIn K (.ref (ga K x)) "__getattribute__") (some (some (.builtin "BaseException.__getattribute__"))) && (eqO (PySem.W.findIn K (.ref (ga K x)) "__getattr__") (some none) && (decide (PySem.W.subIn K (.ref (ga K x)) (.type "BaseException") = some true) && (PySem.W.hasDictIn K (ga K x) &&
  (eqO (PySem.W.findIn K (.ref (ga K x)) "__class__") (some (some (.builtin "object.__class__"))) && (eqO (PySem.W.specialIn K (.builtin "object.__class__") "__get__") (some (some (.builtin "getset_descriptor.__get__"))) && (decide (PySem.W.takesIn K (.builtin "object.__class__") = some true) && decide (PySem.W.mroIn K (ga K x) (.type "object") = some true))))))))
mutual
def gvB (K : Fr) : Nat → D → Value → Bool
  | 0, _, _ => false
  | n + 1, .int i, .int j _ => decide (i = j)
  | n + 1, .str x, .str y _ => decide (x = y)
  | n + 1, .non, .none => true
  | n + 1, .ctp ds, .ref a => (match K.lookup a with
    | some ⟨.type c, _, .seq its _, _⟩ => decide (c = "tuple") && (decide (its.size ≤ sizeLine) && gvsB K n ds its.toList)
    | _ => false)
  | _, _, _ => false
def gvsB (K : Fr) : Nat → List D → List Value → Bool
  | 0, _, _ => false
  | n + 1, [], [] => true
  | n + 1, d :: ds, u :: us => gvB K n d u && gvsB K n ds us
  | _, _, _ => false
end
def fdG (x : Str) (st : Stmt) : FD := ⟨fun K => ga K x, x, x, st, gloB x⟩
def mth (x m : Str) : Fr → Addr := fun K => ma K (ga K x) m
def kwOk (K : Fr) (kV : Value) (kw : Str) (d : V) : Bool := match kV with
  | .ref D => (match PySem.W.nsIn K D kw with
    | some (some u) => relB d u
    | _ => false)
  | _ => false
def fdK (x m qual kw : Str) (d : V) (st : Stmt) : FD := ⟨mth x m, m, qual, st, fun K => eqO (PySem.W.findIn K (.ref (ga K x)) m) (some (some (.ref (mth x m K)))) && (PySem.W.isFn K (.ref (mth x m K)) && (match K.lookup (mth x m K) with
  | some ⟨_, _, .func fd, _⟩ => kwOk K fd.kwdefaults kw d
  | _ => false))⟩
/-! ### the run in parts -/
section
open PySem.W HandSHeadRun
end
end DLH
end
section
set_option maxRecDepth 100000
set_option maxHeartbeats 4000000
namespace PErr
open PySem PySem.W PySem.Calls PySem.Spec PyProof.Rows

/-- what the written part says of the class at C and of its own maker at f -/
structure Cls (K : Frag) (P : Program) (C f cc cda : Addr) (vb : List Value) (fd : FuncData) : Prop where
  fo : ∃ oc od osl, K.lookup f = some ⟨oc, od, .func fd, osl⟩
  ar : ∃ a, (fd.params.posonlyargs ++ fd.params.args).head? = some a ∧ a.arg = "self"
  co : ∃ ccl cdd vs ccs file tf, K.lookup cda = some ⟨ccl, cdd, .fields vs, ccs⟩ ∧ vs[2]? = some (.str file tf) ∧ ((P.main.file : Str) == file) = true
  ce : ∃ cl cld csl, K.lookup cc = some ⟨cl, cld, .cell (some (.ref C)), csl⟩
  top : (P.main.scope.names.lookup ("super" : Str)).isSome = false
  cls : ∃ cd, clsIn K C = some cd
  mro : mroIn K C (.ref C) = some true
  sub : subIn K (.ref C) (.type "ValueError") = some true
  sup : ks_superIn K C C "__init__" = some (some (.builtin "ValueError.__init__"))
  ini : excInitIn K C vb "ValueError.__new__" = true
  opq : nsIn K cStatics "thirdparty.any" = some none
/-- the maker's scope -/
abbrev scp : Scope := { kind := .function, names := [("self", .local), ("line", .local), ("__class__", .free), ("super", .globalImplicit)], isGenerator := false, isCoroutine := false, more := [] }
section
variable {prog : Program} {w : World} {A : Around} {E : Value → Shared → Prop} {G : Heap} {L e C f cc cda t : Addr} {m mg mb : Str → Option Value} {K : Frag} {q : Str} {body : List Stmt} {s : Shared} {vb : List Value} {fd : FuncData}
theorem inst (N : News G L s.heap [(e, excObj C t none .none)]) : InstAt s.heap e (excObj C t none .none) C none := InstAt.of_exc0 N (by simp)
/-- super() -/
theorem sup {p0 p1 : Pos} {whole : Sem Value} {Q : Value → Shared → Prop} (T : Cls K prog C f cc cda vb fd) (F : Fr G L s.heap m) (KG : K.In G) (N : News G L s.heap [(e, excObj C t none .none)])
    (glo : G.Ns mainGlobals mg) (blt : G.Ns builtinsNs mb) (g0 : mg "super" = none) (b0 : mb "super" = some (.type "super")) (hs : m "self" = some (.ref e))
    (h : ∀ so h', Fr G L h' m → News G L h' ((so, ks_superObj C e C) :: [(e, excObj C t none .none)]) → so ≠ e → Q (.ref so) { s with heap := h' }) :
    _root_.PySem.wpAt (model prog w) A (.func body (ksEnv q scp L f (.ref cda) cc)) (attributeBase (.Call (.Name "super" p0) [] [] p1) "__init__" (ksEnv q scp L f (.ref cda) cc) whole) Q E s := by
  obtain ⟨oc, od, osl, t1⟩ := T.fo
  obtain ⟨a, t2, t3⟩ := T.ar
  obtain ⟨x1, x2, vs, x3, file, tf, t4, t5, t6⟩ := T.co
  obtain ⟨y1, y2, y3, t7⟩ := T.ce
  obtain ⟨cd, t8⟩ := T.cls
  have KH : K.In s.heap := KG.keeps F.keep
  have I := inst N
  obtain ⟨hh, g, d, tk, os⟩ := s
  obtain ⟨oD, d1, d2⟩ : ∃ oD, hh.get? C = some oD ∧ oD.data = .cls cd := by
    unfold clsIn at t8
    split at t8
    · rename_i z1 z2 z3 z4 ho
      cases t8
      exact ⟨_, KH _ _ ho, rfl⟩
    · cases t8
  have gH := glo.keeps F.keep
  have bH := blt.keeps F.keep
  apply ks_wpAt_super_base (env := ksEnv q scp L f (.ref cda) cc) rfl rfl (by decide) rfl (KH _ _ t1) rfl t2 rfl (KH _ _ t4) rfl t5 t6 T.top
  apply ks_loadName_global (env := ksEnv q scp L f (.ref cda) cc) rfl rfl
  apply loadGlobal_builtin (env := ksEnv q scp L f (.ref cda) cc) gH g0 bH b0
  refine ⟨rfl, ?_⟩
  apply wpAny_loadName_free (env := ksEnv q scp L f (.ref cda) cc) rfl rfl rfl ⟨_, KH _ _ t7, rfl⟩
  rw [t3]
  apply wpAny_loadName_local (env := ksEnv q scp L f (.ref cda) cc) rfl rfl F.ns hs
  apply ks_wpAny_isType_cls d1 d2
  refine ⟨rfl, ?_⟩
  apply ks_wpAny_call_super d1 d2 I.at_ I.cls (fun c z => nomatch z) (looks_mroIn KH T.mro)
  intro h' z k
  obtain ⟨F', N', l'⟩ := ks_newsPush (s := ⟨hh, g, d, tk, os⟩) F N rfl z k
  exact h _ _ F' N' (fun z => by
    have := l' (e, excObj C t none .none) (by simp)
    rw [z] at this
    exact Nat.lt_irrefl _ this)
/-- the text of the maker's message -/
theorem msg {a b : Str} {q1 q2 q3 q4 q5 : Pos} {i : Int} {tk : Tok} {Q : Value → Shared → Prop} (F : Fr G L s.heap m) (hl : m "line" = some (.int i tk)) (hi : i.natAbs.log2 < 1920)
    (hz : ((Str.empty ++ a) ++ (toString i : String)).length ≤ sizeLine ∧ (((Str.empty ++ a) ++ (toString i : String)) ++ b).length ≤ sizeLine ∧ (Str.empty ++ a).length ≤ sizeLine)
    (h : ∀ v tk', Q v { s with toks := tk' }) :
    wpAny (model prog w) A (eval (.JoinedStr [.Constant (.str a) 0 q1, .FormattedValue (.Name "line" q2) (-1) none q3, .Constant (.str b) 0 q4] q5) (ksEnv q scp L f (.ref cda) cc)) Q E s := by
  apply wpAny_JoinedStr
  show wpAny _ _ (eval (.Constant (.str a) 0 q1) _) _ _ _
  apply wpAny_Constant_str
  refine ⟨_, _, rfl, hz.2.2, ?_⟩
  show wpAny _ _ (eval (.FormattedValue (.Name "line" q2) (-1) none q3) _) _ _ _
  apply wpAny_FormattedValue_plain
  refine wpAny_Name (env := ksEnv q scp L f (.ref cda) cc) (wpAny_loadName_local (env := ksEnv q scp L f (.ref cda) cc) rfl rfl F.ns hl ?_) (by decide)
  apply wpAny_formatField_int hi
  refine ⟨_, _, rfl, hz.1, ?_⟩
  show wpAny _ _ (eval (.Constant (.str b) 0 q4) _) _ _ _
  apply wpAny_Constant_str
  refine ⟨_, _, rfl, hz.2.1, ?_⟩
  exact ⟨hz.2.1, h _ _⟩
/-- the call of super().__init__, opened: its places are those of a call of a method -/
def CallOk (o : Expr) (J : Expr) (p2 p6 : Pos) (env : Env) : Prop := ∃ pl : Sem Bool, eval (.Call (.Attribute o "__init__" p2) [J] [] p6) env = (do
  let ov ← attributeBase o "__init__" env (eval o env)
  standAt p2.atName
  let (g, first) ← holding [ov] (getMethod ov "__init__" pl)
  callWith p6 g first (backTo p6 (starEach [J] env)) [])
/-- super().__init__(f"..") -/
theorem st1 {a b : Str} {p0 p1 p2 p6 p7 q1 q2 q3 q4 q5 : Pos} {i : Int} {tk : Tok} {Q : Flow → Shared → Prop} (T : Cls K prog C f cc cda vb fd) (B : ExcBaseFacts "ValueError" "ValueError.__new__" "ValueError.__init__" vb) (F : Fr G L s.heap m) (KG : K.In G) (N : News G L s.heap [(e, excObj C t none .none)])
    (glo : G.Ns mainGlobals mg) (blt : G.Ns builtinsNs mb) (g0 : mg "super" = none) (b0 : mb "super" = some (.type "super")) (hs : m "self" = some (.ref e)) (hl : m "line" = some (.int i tk)) (hi : i.natAbs.log2 < 1920)
    (hz : ((Str.empty ++ a) ++ (toString i : String)).length ≤ sizeLine ∧ (((Str.empty ++ a) ++ (toString i : String)) ++ b).length ≤ sizeLine ∧ (Str.empty ++ a).length ≤ sizeLine)
    (hc : CallOk (.Call (.Name "super" p0) [] [] p1) (.JoinedStr [.Constant (.str a) 0 q1, .FormattedValue (.Name "line" q2) (-1) none q3, .Constant (.str b) 0 q4] q5) p2 p6 (ksEnv q scp L f (.ref cda) cc))
    (h : ∀ t' h' tk', Fr G L h' m → News G L h' [(e, excObj C t' none .none)] → Q .next { s with heap := h', toks := tk' }) :
    _root_.PySem.wpAt (model prog w) A (.func body (ksEnv q scp L f (.ref cda) cc)) (exec (.Expr (.Call (.Attribute (.Call (.Name "super" p0) [] [] p1) "__init__" p2) [.JoinedStr [.Constant (.str a) 0 q1, .FormattedValue (.Name "line" q2) (-1) none q3, .Constant (.str b) 0 q4] q5] [] p6) p7) (ksEnv q scp L f (.ref cda) cc)) Q E s := by
  refine ks_wpAt_Expr_any ?_
  obtain ⟨pl, he⟩ := hc
  refine ks_wpAt_MethodCall (pl := pl) ?_ he
  apply sup T F KG N glo blt g0 b0 hs
  intro so h1 F1 N1 ne
  have I1 : InstAt h1 e (excObj C t none .none) C none := InstAt.of_exc0 N1 (by simp)
  apply kxs_method (s := { s with heap := h1 }) kxs_ValueError F1 KG N1 (so := so) (D := C) (by simp) I1 T.opq T.sup T.sub (by decide)
  intro u h2 F2 N2 l2
  apply kxs_callWith1 (s := { s with heap := h2, toks := s.toks + 1 }) N2 (i := "ValueError.__init__") (x := e) (by simp)
  show wpAny _ _ (spliced ((false, eval (.JoinedStr _ q5) _) :: backTo p6 (starEach [] _))) _ _ _
  apply Calls.spliced_cons
  apply msg (s := { s with heap := h2, toks := s.toks + 1 }) F2 hl hi hz
  intro v tk2
  apply Calls.spliced_nil
  refine ⟨kxs_at N2 (by simp), ?_⟩
  have nu : u ≠ e := fun z => by
    have := l2 (e, excObj C t none .none) (by simp)
    rw [z] at this
    exact Nat.lt_irrefl _ this
  refine kxs_call (s := { s with heap := h2, toks := tk2 }) F2 KG N2 B T.ini (x := e) (by simp) (.tail nu (.tail ne (.head (by simp)))) (by rw [sizeLine_eq]; simp) fun t' h3 F3 N3 _ => ?_
  refine h t' h3 tk2 F3 fun p hp => N3 p ?_
  simp only [List.mem_singleton] at hp
  rw [hp]
  simp
/-- self.line = line -/
theorem st2 {p8 p9 p10 p11 : Pos} {v : Value} {Q : Flow → Shared → Prop} {nm qq : Str} {N0 : Addr} {bs bm : List Value} {sn : List Str} {sub : List Value} {ab : Bool} {col : Option Bool} {dd : Option Addr} {k0 k1 k2 k3 k5 : Option Value}
    (hC : K.lookup C = some (excClassObj nm qq C N0 bs bm true sn sub ab col dd k0 k1 k2 k3 k5 "ValueError.__new__")) (hbm : PySem.HandSPX.refsVE bm = true) (sa : findIn K (.ref C) "__setattr__" = some (some (.builtin "object.__setattr__"))) (hno : findIn K (.ref C) "line" = some none)
    (F : Fr G L s.heap m) (KG : K.In G) (N : News G L s.heap [(e, excObj C t none .none)]) (hs : m "self" = some (.ref e)) (hl : m "line" = some v)
    (h : ∀ dx h' tk', (∀ b o, b ≠ e → s.heap.get? b = some o → h'.get? b = some o) → s.heap.objs.size ≤ dx → dx ≠ e → h'.get? e = some ({ cls := .ref C, dict := some dx, data := .fields #[.ref t, .none, .none, .none, .bool false, .none] } : Obj) →
      h'.Ns1 dx (fun y => if y = ("line" : Str) then some v else none) → Q .next { s with heap := h', toks := tk' }) :
    _root_.PySem.wpAt (model prog w) A (.func body (ksEnv q scp L f (.ref cda) cc)) (exec (.Assign [.Attribute (.Name "self" p8) "line" p9] (.Name "line" p10) p11) (ksEnv q scp L f (.ref cda) cc)) Q E s := by
  have hcl : clsIn K C = some { name := nm, bases := bs, mro := .ref C :: bm, ns := N0, qualname := qq, hasDict := true, slotNames := sn, subclasses := sub, abstract := ab, collection := col, hasDel := false } := by
    unfold clsIn
    rw [hC] <;> rfl
  have KH : K.In s.heap := KG.keeps F.keep
  have at0 : s.heap.get? e = some (excObj C t none .none) := (N (e, excObj C t none .none) (by simp)).1
  refine ks_wpAt_Assign_Attr (wpAt_of_wpAny ?_)
  refine wpAny_Name (env := ksEnv q scp L f (.ref cda) cc) (wpAny_loadName_local (env := ksEnv q scp L f (.ref cda) cc) rfl rfl F.ns hl ?_) (by decide)
  refine wpAny_Name (env := ksEnv q scp L f (.ref cda) cc) (wpAny_loadName_local (env := ksEnv q scp L f (.ref cda) cc) rfl rfl F.ns hs ?_) (by decide)
  obtain ⟨hh, g, d, tk, os⟩ := s
  apply set_plain KH (ox := excObj C t none .none) (od := none) ⟨at0, rfl, rfl, trivial⟩ sa
  apply PySem.HandSPX.exc_osa KH at0 hcl (show PySem.HandSPX.refsVE (.ref C :: bm) = true from hbm) rfl hno
  intro h' tk' dx k dn dne hx hn
  exact h dx h' tk' k dn dne hx hn
/-- the whole maker, as a call of its own -/
theorem init {a b : Str} {p0 p1 p2 p6 p7 q1 q2 q3 q4 q5 p8 p9 p10 p11 : Pos} {i : Int} {tk : Tok} {R : Result → Shared → Prop} {name : Str} {params : Arguments} {dV kV doc pm ct : Value} {an : Option Addr} {base : Heap} {args : Args} {binds : List (Str × Value)}
    {nm qq : Str} {N0 : Addr} {bs bm : List Value} {sn : List Str} {sub : List Value} {ab : Bool} {col : Option Bool} {dd : Option Addr} {k0 k1 k2 k3 k5 : Option Value}
    (hfd : fd = ksFn name q params [.Expr (.Call (.Attribute (.Call (.Name "super" p0) [] [] p1) "__init__" p2) [.JoinedStr [.Constant (.str a) 0 q1, .FormattedValue (.Name "line" q2) (-1) none q3, .Constant (.str b) 0 q4] q5] [] p6) p7, .Assign [.Attribute (.Name "self" p8) "line" p9] (.Name "line" p10) p11] scp dV kV doc pm an (.ref cda) ct cc)
    (T : Cls K prog C f cc cda vb fd) (B : ExcBaseFacts "ValueError" "ValueError.__new__" "ValueError.__init__" vb) (hcd : codeIn K (.ref cda) q = true)
    (hC : K.lookup C = some (excClassObj nm qq C N0 bs bm true sn sub ab col dd k0 k1 k2 k3 k5 "ValueError.__new__")) (hbm : PySem.HandSPX.refsVE bm = true) (sa : findIn K (.ref C) "__setattr__" = some (some (.builtin "object.__setattr__"))) (hno : findIn K (.ref C) "line" = some none)
    (hroom : A.depth < recursionLimit) (KB : K.In base) (bk : ∀ b o, base.get? b = some o → s.heap.get? b = some o) (be : base.get? e = none) (glo : base.Ns mainGlobals mg) (blt : base.Ns builtinsNs mb) (g0 : mg "super" = none) (b0 : mb "super" = some (.type "super")) (nl : base.NoLimit)
    (he : s.heap.get? e = some (excObj C t none .none)) (hbind : BindsTo s fd args binds) (hb : binds = [(("self" : Str), Value.ref e), (("line" : Str), Value.int i tk)]) (hi : i.natAbs.log2 < 1920)
    (hz : ((Str.empty ++ a) ++ (toString i : String)).length ≤ sizeLine ∧ (((Str.empty ++ a) ++ (toString i : String)) ++ b).length ≤ sizeLine ∧ (Str.empty ++ a).length ≤ sizeLine)
    (hc : ∀ L, CallOk (.Call (.Name "super" p0) [] [] p1) (.JoinedStr [.Constant (.str a) 0 q1, .FormattedValue (.Name "line" q2) (-1) none q3, .Constant (.str b) 0 q4] q5) p2 p6 (ksEnv q scp L f (.ref cda) cc))
    (h : ∀ t' dx h' tk', (∀ b o, b ≠ e → s.heap.get? b = some o → h'.get? b = some o) → s.heap.objs.size ≤ dx → h'.get? e = some ({ cls := .ref C, dict := some dx, data := .fields #[.ref t', .none, .none, .none, .bool false, .none] } : Obj) →
      h'.Ns1 dx (fun y => if y = ("line" : Str) then some (.int i tk) else none) → R (.ok (.ret .none)) { s with heap := h', toks := tk' }) :
    codeAny (model prog w) A (.call (.ref f) args) R s := by
  obtain ⟨oc, od, osl, t1⟩ := T.fo
  have KH : K.In s.heap := KB.keeps bk
  subst hfd
  have bG : ∀ b o, base.get? b = some o → (hideAll s.heap [e]).get? b = some o := fun b o z => hideAll_get _ (bk b o z) (fun y => by
    rw [List.mem_singleton] at y
    rw [y, be] at z
    cases z)
  refine ks_codeAny_call_defAt (binds := binds) hroom (KH _ _ t1) rfl (nl.keeps bk) (codeRec_of KH hcd) rfl hbind (show ∀ x ∈ scp.names, x.2 ≠ .cell from by decide) (fun x hx => ?_) (fun h1 hns hk1 => ?_) rfl rfl rfl
  · rw [hb] at hx
    rcases List.mem_cons.mp hx with z | hx
    · rw [z]; rfl
    · rw [List.mem_singleton] at hx
      rw [hx]; rfl
  · have FG : Fr (hideAll s.heap [e]) s.heap.objs.size h1 (fun x => binds.reverse.lookup x) := ⟨hns, fun b o z => hk1 b o (of_hideAll _ z), Nat.le_of_eq (hideAll_size _ _)⟩
    have NG : News (hideAll s.heap [e]) s.heap.objs.size h1 [(e, excObj C t none .none)] := fun p hp => by
      rw [List.mem_singleton] at hp
      subst hp
      exact ⟨hk1 _ _ he, Nat.ne_of_lt (Heap.lt_size he), hideAll_none _ (by simp)⟩
    have KG := KB.keeps bG
    have m1 : (fun x => binds.reverse.lookup x) ("self" : Str) = some (.ref e) := by rw [hb]; rfl
    have m2 : (fun x => binds.reverse.lookup x) ("line" : Str) = some (.int i tk) := by rw [hb]; rfl
    refine ks_wpAt_execs_cons ?_
    refine st1 (s := { s with heap := h1, toks := s.toks + binds.length }) T B FG KG NG (glo.keeps bG) (blt.keeps bG) g0 b0 m1 m2 hi hz (hc _) fun t' h2 tk2 F2 N2 => ?_
    refine ks_wpAt_execs_cons ?_
    refine st2 (s := { s with heap := h2, toks := tk2 }) hC hbm sa hno F2 KG N2 m1 m2 fun dx h3 tk3 k3 d3 ne3 e3 n3 => ?_
    show _root_.PySem.wpAt _ _ _ (execs [] _) _ _ _
    rw [execs_nil]
    refine wpAt_of_wpAny (wpAny_pure ?_)
    refine h t' dx h3 tk3 (fun b o nb z => ?_) ?_ e3 n3
    · exact k3 b o nb (F2.keep b o (hideAll_get _ z (by simpa using nb)))
    · exact Nat.le_trans (Nat.le_of_lt F2.ns.lt) d3
end
end PErr
end
section
set_option maxRecDepth 100000
set_option maxHeartbeats 4000000
namespace PErr
open PySem PySem.W PySem.Calls

/-! ### an own class over ValueError called with positions and names -/
abbrev vNew : String := "ValueError.__new__"
abbrev vTl : List Value := [.type "ValueError", .type "Exception", .type "BaseException", .type "object"]
section
variable {M : Model} {A : Around} {E : Value → Shared → Prop} {h : Heap} {g : Array GenState} {d : Drawn} {t : Nat} {os : OsState}
variable {nm q : Str} {C N : Addr} {bs bm : List Value} {dct : Bool} {sn : List Str} {sub : List Value} {ab : Bool} {col : Option Bool} {dd : Option Addr} {k0 k1 k2 k3 k5 : Option Value} {rest : List Value} {kws : List (Str × Value)}
theorem chk (hT : ∀ Y : String, bm.contains (.type Y) = vTl.contains (.type Y)) {Q : Unit → Shared → Prop} (hc : h.get? C = some (excClassObj nm q C N bs bm dct sn sub ab col dd k0 k1 k2 k3 k5 vNew)) (z : Q () ⟨h, g, d, t, os⟩) :
    wpAny M A (checkBuiltinCall vNew ⟨.ref C :: rest, kws⟩) Q E ⟨h, g, d, t, os⟩ := by
  have Fv := F.excBase_ValueError
  have c1 : (Value.ref C :: bm).contains (.type "ValueError") = true := by
    rw [List.contains_cons, hT]
    rfl
  have c2 := Fv.noStar
  simp only [checkBuiltinCall, Fv.newKind, Fv.newSplit, Fv.newRow]
  repeat (first
    | refine wpAny_loadPart_at hc ?_
    | (refine wpAny_isSubtype_exc hc ?_; rw [c1])
    | refine wpAny_staticBase_exc hc ?_
    | refine wpAny_madeBy_exc hc ?_
    | simp only [bne_self_eq_false, Bool.false_eq_true, if_false]
    | wp_step)
  exact z
end
section
variable {prog : Program} {w : World} {A : Around} {E : Value → Shared → Prop} {R : Result → Shared → Prop} {h : Heap} {g : Array GenState} {d : Drawn} {t : Nat} {os : OsState}
variable {nm q : Str} {C N : Addr} {bs bm : List Value} {dct : Bool} {sn : List Str} {sub : List Value} {ab : Bool} {col : Option Bool} {dd : Option Addr} {k0 k1 k2 k3 k5 : Option Value} {rest : List Value} {kws : List (Str × Value)}
/-- the heap with the arguments' tuple and the bare exception -/
abbrev laid (h : Heap) (C : Addr) (rest : List Value) : Heap := (h.push (W.kdv_tup rest)).push (PySem.HandSPX.excO C h.objs.size)
theorem newv (hT : ∀ Y : String, bm.contains (.type Y) = vTl.contains (.type Y)) (hc : h.get? C = some (excClassObj nm q C N bs bm dct sn sub ab col dd k0 k1 k2 k3 k5 vNew)) (hr : rest.length ≤ sizeLine)
    (z : R (.ok (.ret (.ref (h.objs.size + 1)))) ⟨laid h C rest, g, d, t, os⟩) : codeAny (model prog w) A (.builtin vNew ⟨.ref C :: rest, kws⟩) R ⟨h, g, d, t, os⟩ := by
  have Fv := F.excBase_ValueError
  have e1 := Fv.ends
  have c1 : (Value.ref C :: bm).contains (.type "ValueError") = true := by
    rw [List.contains_cons, hT]
    rfl
  have c2 : (Value.ref C :: bm).contains (.type "AttributeError") = false := by
    rw [List.contains_cons, hT]
    rfl
  have c3 : (Value.ref C :: bm).contains (.type "NameError") = false := by
    rw [List.contains_cons, hT]
    rfl
  refine codeAny_builtinAt Fv.entry ?_
  unfold Builtin.«BaseException.__new__»
  refine wpAt_bind ?_
  show wpAt _ _ _ (stack >>= _) _ _ _
  refine wpAt_bind (wpAt_stack fun p0 under => wpAt_of_wpAny ?_)
  wp_walk
  refine wpAt_of_wpAny ?_
  rw [Fv.owner]
  repeat (first
    | with_reducible refine wpAny_madeHere_exc Fv.canon hc ?_
    | with_reducible refine wpAny_loadPart_at hc ?_
    | (with_reducible refine wpAny_isSubtype_exc hc ?_; first | rw [c1] | rw [c2] | rw [c3])
    | wp_step)
  show R _ _
  rw [Heap.size_push]
  exact z
theorem tcall (hT : ∀ Y : String, bm.contains (.type Y) = vTl.contains (.type Y)) {fI : Addr} {Q : Fin → Shared → Prop} (hc : h.get? C = some (excClassObj nm q C N bs bm dct sn sub ab col dd k0 k1 k2 k3 k5 vNew))
    (hi : W.Looks (model prog w) h (typeLookup (.ref C) "__init__") (some (.ref fI))) (hb : ∀ self, W.Looks (model prog w) h (bindSpecial (.ref fI) self) (.ref fI, [self])) (hr : rest.length ≤ sizeLine)
    (z : codeAny (model prog w) A (.call (.ref fI) ⟨.ref (h.objs.size + 1) :: rest, kws⟩) (fun r s' => match r with
      | .ok (.ret v) => v = .none ∧ Q (.done (.ret (.ref (h.objs.size + 1)))) s'
      | .ok _ => False
      | .error e => E e s') ⟨laid h C rest, g, d, t, os⟩) :
    wpAny (model prog w) A (Builtin.«type.__call__» ⟨.ref C :: rest, kws⟩) Q E ⟨h, g, d, t, os⟩ := by
  repeat (first
    | with_reducible refine wpAny_loadPart_at hc ?_
    | with_reducible refine wpAny_madeBy_exc hc ?_
    | wp_step)
  refine codeAny_call_builtin_code (Code.quiet_builtin _ F.excBase_ValueError.quiet) (chk hT hc ?_)
  refine newv hT hc hr ?_
  show wpAny _ _ _ _ _ _
  have k : ∀ b o, h.get? b = some o → (laid h C rest).get? b = some o := fun b o y => Heap.get?_push_of_some _ (Heap.get?_push_of_some _ y)
  have hc1 := k _ _ hc
  have at1 : (laid h C rest).get? (h.objs.size + 1) = some (PySem.HandSPX.excO C h.objs.size) := by heap_get
  have c1 : (Value.ref C :: bm).contains (.ref C) = true := by simp
  have i1 := hi.keeps k
  have b1 := (hb (.ref (h.objs.size + 1))).keeps k
  unfold isInstance
  repeat (first
    | with_reducible refine wpAny_loadPart_at at1 ?_
    | (with_reducible refine wpAny_isSubtype_exc hc1 ?_; rw [c1])
    | wp_step)
  show wpAny _ _ (typeLookup (.ref C) _) _ _ _
  refine i1.at ?_
  refine wpAny_holding (wpAny_bind (b1.at ?_))
  refine wpAny_bind (wpAny_call (codeAny_mono z fun r s' y => ?_))
  rcases r with er | (v | _ | _ | _) <;> first | exact y | exact y.elim | skip
  obtain ⟨rfl, y⟩ := y
  first
    | exact wpAny_pure (wpAny_pure y)
    | (wp_walk; exact y)
theorem mcall (hT : ∀ Y : String, bm.contains (.type Y) = vTl.contains (.type Y)) {fI : Addr} (hc : h.get? C = some (excClassObj nm q C N bs bm dct sn sub ab col dd k0 k1 k2 k3 k5 vNew))
    (hi : W.Looks (model prog w) h (typeLookup (.ref C) "__init__") (some (.ref fI))) (hb : ∀ self, W.Looks (model prog w) h (bindSpecial (.ref fI) self) (.ref fI, [self])) (hr : rest.length ≤ sizeLine)
    (z : codeAny (model prog w) (A.under (.builtin "type.__call__" ⟨.ref C :: rest, kws⟩)) (.call (.ref fI) ⟨.ref (h.objs.size + 1) :: rest, kws⟩) (W.InitBack (h.objs.size + 1) R) ⟨laid h C rest, g, d, t, os⟩) :
    codeAny (model prog w) A (.call (.ref C) ⟨rest, kws⟩) R ⟨h, g, d, t, os⟩ := by
  have f1 := tc_lookup
  have f2 := tc_bind (.ref C)
  have f3 : (⟨h, g, d, t, os⟩ : Shared).TypeIs (.ref C) "type" := ⟨_, hc, rfl⟩
  refine codeAny_of_tree ?_
  show wpAny _ _ (callAny (.ref C) _) _ _ _
  repeat (any_goals (first
    | assumption
    | with_reducible refine wpAny_loadPart_at hc ?_
    | wp_step))
  refine ⟨rfl, ?_⟩
  refine codeAny_call_builtin_at (Code.quiet_builtin _ (by decide +kernel)) entry_typeCall (wpAny_check_type_call_sub hc (tcall hT hc hi hb hr ?_))
  refine codeAny_mono z fun r s' y => ?_
  rcases r with er | (v | _ | _ | _) <;> exact y
end
end PErr
end
section
set_option maxRecDepth 100000
set_option maxHeartbeats 4000000
namespace DL
open PySem
/-! ### the shape of a maker: super().__init__(f".."), self.line = line -/
structure PePos where
  p0 : Pos
  p1 : Pos
  p2 : Pos
  p6 : Pos
  q1 : Pos
  q2 : Pos
  q3 : Pos
  q4 : Pos
  q5 : Pos
/-- the maker's call is one of a method, whatever the texts -/
def PePos.Ok (z : PePos) : Prop := ∀ (q : Str) (L f cda cc : Addr) (a b : Str), PErr.CallOk (.Call (.Name "super" z.p0) [] [] z.p1) (.JoinedStr [.Constant (.str a) 0 z.q1, .FormattedValue (.Name "line" z.q2) (-1) none z.q3, .Constant (.str b) 0 z.q4] z.q5) z.p2 z.p6 (PySem.W.ksEnv q PErr.scp L f (.ref cda) cc)
abbrev peBody (z : PePos) (a b : Str) (p7 p8 p9 p10 p11 : Pos) : List Stmt := [.Expr (.Call (.Attribute (.Call (.Name "super" z.p0) [] [] z.p1) "__init__" z.p2) [.JoinedStr [.Constant (.str a) 0 z.q1, .FormattedValue (.Name "line" z.q2) (-1) none z.q3, .Constant (.str b) 0 z.q4] z.q5] [] z.p6) p7, .Assign [.Attribute (.Name "self" p8) "line" p9] (.Name "line" p10) p11]
abbrev peArgs (g1 g2 : Pos) : Arguments := { posonlyargs := [], args := [{ arg := "self", annotation := none, pos := g1 }, { arg := "line", annotation := none, pos := g2 }], vararg := none, kwonlyargs := [], kw_defaults := [], kwarg := none, defaults := [] }
def posB (p q : Pos) : Bool := decide (p.line = q.line) && (decide (p.col = q.col) && (decide (p.endLine = q.endLine) && decide (p.endCol = q.endCol)))
theorem posB_ok {p q : Pos} (h : posB p q = true) : p = q := by
  cases p; cases q
  simp only [posB, Bool.and_eq_true, decide_eq_true_eq] at h
  obtain ⟨rfl, rfl, rfl, rfl⟩ := h
  rfl
def nmB (x : Str) (e : Expr) : Bool := match e with
  | .Name y _ => decide (y = x)
  | _ => false
theorem nmB_ok {x : Str} {e : Expr} (h : nmB x e = true) : ∃ p, e = .Name x p := by
  unfold nmB at h
  split at h
  · exact ⟨_, by rw [of_decide_eq_true h]⟩
  · cases h
def nmAt (x : Str) (q : Pos) (e : Expr) : Bool := match e with
  | .Name y p => decide (y = x) && posB p q
  | _ => false
theorem nmAt_ok {x : Str} {q : Pos} {e : Expr} (h : nmAt x q e = true) : e = .Name x q := by
  unfold nmAt at h
  split at h
  · simp only [Bool.and_eq_true, decide_eq_true_eq] at h
    rw [h.1, posB_ok h.2]
  · cases h
def cstB (q : Pos) (e : Expr) : Bool := match e with
  | .Constant (.str a) u p => decide (u = 0) && (posB p q && decide (a.length ≤ 1000))
  | _ => false
theorem cstB_ok {q : Pos} {e : Expr} (h : cstB q e = true) : ∃ a : Str, e = .Constant (.str a) 0 q ∧ a.length ≤ 1000 := by
  unfold cstB at h
  split at h
  · simp only [Bool.and_eq_true, decide_eq_true_eq] at h
    obtain ⟨h1, h2, h3⟩ := h
    exact ⟨_, by rw [h1, posB_ok h2], h3⟩
  · cases h
def fvB (z : PePos) (e : Expr) : Bool := match e with
  | .FormattedValue v c none p => nmAt "line" z.q2 v && (decide (c = -1) && posB p z.q3)
  | _ => false
theorem fvB_ok {z : PePos} {e : Expr} (h : fvB z e = true) : e = .FormattedValue (.Name "line" z.q2) (-1) none z.q3 := by
  unfold fvB at h
  split at h
  · simp only [Bool.and_eq_true, decide_eq_true_eq] at h
    obtain ⟨h1, h2, h3⟩ := h
    rw [nmAt_ok h1, h2, posB_ok h3]
  · cases h
def joB (z : PePos) (e : Expr) : Bool := match e with
  | .JoinedStr [x, y, w] p => cstB z.q1 x && (fvB z y && (cstB z.q4 w && posB p z.q5))
  | _ => false
theorem joB_ok {z : PePos} {e : Expr} (h : joB z e = true) : ∃ a b : Str, e = .JoinedStr [.Constant (.str a) 0 z.q1, .FormattedValue (.Name "line" z.q2) (-1) none z.q3, .Constant (.str b) 0 z.q4] z.q5 ∧ a.length ≤ 1000 ∧ b.length ≤ 1000 := by
  unfold joB at h
  split at h
  · simp only [Bool.and_eq_true] at h
    obtain ⟨h1, h2, h3, h4⟩ := h
    obtain ⟨a, rfl, la⟩ := cstB_ok h1
    obtain ⟨b, rfl, lb⟩ := cstB_ok h3
    exact ⟨a, b, by rw [fvB_ok h2, posB_ok h4], la, lb⟩
  · cases h
def suB (z : PePos) (e : Expr) : Bool := match e with
  | .Call f [] [] p => nmAt "super" z.p0 f && posB p z.p1
  | _ => false
theorem suB_ok {z : PePos} {e : Expr} (h : suB z e = true) : e = .Call (.Name "super" z.p0) [] [] z.p1 := by
  unfold suB at h
  split at h
  · simp only [Bool.and_eq_true] at h
    rw [nmAt_ok h.1, posB_ok h.2]
  · cases h
def caB (z : PePos) (e : Expr) : Bool := match e with
  | .Call (.Attribute o m p) [j] [] p6 => suB z o && (decide (m = "__init__") && (posB p z.p2 && (joB z j && posB p6 z.p6)))
  | _ => false
def s1B (z : PePos) (s : Stmt) : Bool := match s with
  | .Expr e _ => caB z e
  | _ => false
def s2B (s : Stmt) : Bool := match s with
  | .Assign [.Attribute o m _] v _ => nmB "self" o && (decide (m = "line") && nmB "line" v)
  | _ => false
def boB (z : PePos) (l : List Stmt) : Bool := match l with
  | [x, y] => s1B z x && s2B y
  | _ => false
theorem boB_ok {z : PePos} {l : List Stmt} (h : boB z l = true) : ∃ a b p7 p8 p9 p10 p11, l = peBody z a b p7 p8 p9 p10 p11 ∧ a.length ≤ 1000 ∧ b.length ≤ 1000 := by
  unfold boB at h
  split at h
  · rename_i x y
    obtain ⟨h1, h2⟩ := Bool.and_eq_true_iff.mp h
    unfold s1B at h1
    split at h1
    · rename_i e p7
      unfold caB at h1
      split at h1
      · simp only [Bool.and_eq_true, decide_eq_true_eq] at h1
        obtain ⟨g1, g2, g3, g4, g5⟩ := h1
        obtain ⟨a, b, rfl, la, lb⟩ := joB_ok g4
        unfold s2B at h2
        split at h2
        · simp only [Bool.and_eq_true, decide_eq_true_eq] at h2
          obtain ⟨k1, k2, k3⟩ := h2
          obtain ⟨p8, rfl⟩ := nmB_ok k1
          obtain ⟨p10, rfl⟩ := nmB_ok k3
          exact ⟨a, b, p7, p8, _, p10, _, by rw [suB_ok g1, g2, posB_ok g3, posB_ok g5, k2], la, lb⟩
        · cases h2
      · cases h1
    · cases h1
  · cases h
def arB (x : Str) (a : Arg) : Bool := match a with
  | ⟨n, none, _⟩ => decide (n = x)
  | _ => false
theorem arB_ok {x : Str} {a : Arg} (h : arB x a = true) : ∃ g, a = { arg := x, annotation := none, pos := g } := by
  unfold arB at h
  split at h
  · exact ⟨_, by rw [of_decide_eq_true h]⟩
  · cases h
def agB (a : Arguments) : Bool := match a with
  | ⟨[], [u, v], none, [], [], none, []⟩ => arB "self" u && arB "line" v
  | _ => false
theorem agB_ok {a : Arguments} (h : agB a = true) : ∃ g1 g2, a = peArgs g1 g2 := by
  unfold agB at h
  split at h
  · obtain ⟨h1, h2⟩ := Bool.and_eq_true_iff.mp h
    obtain ⟨g1, rfl⟩ := arB_ok h1
    obtain ⟨g2, rfl⟩ := arB_ok h2
    exact ⟨g1, g2, rfl⟩
  · cases h
/-- the maker as a whole: its cell and its code -/
def fdB (z : PePos) (fd : FuncData) : Option (Addr × Addr) := match fd with
  | ⟨_, _, ps, .stmts bd, sc, gl, [(cn, cc)], .none, _, _, _, _, .ref cda, _, bl⟩ => if (agB ps && (boB z bd && (decide (sc = PErr.scp) && (decide (gl = mainGlobals) && (decide (bl = builtinsNs) && decide (cn = "__class__")))))) = true then some (cc, cda) else none
  | _ => none
theorem fdB_ok {z : PePos} {fd : FuncData} {cc cda : Addr} (h : fdB z fd = some (cc, cda)) : ∃ (a b : Str) (g1 g2 p7 p8 p9 p10 p11 : Pos) (kV doc pm ct : Value) (an : Option Addr), fd = PySem.W.ksFn fd.name fd.qualname (peArgs g1 g2) (peBody z a b p7 p8 p9 p10 p11) PErr.scp .none kV doc pm an (.ref cda) ct cc ∧ a.length ≤ 1000 ∧ b.length ≤ 1000 := by
  unfold fdB at h
  split at h
  · split at h
    · rename_i hc
      simp only [Bool.and_eq_true, decide_eq_true_eq] at hc
      obtain ⟨h1, h2, rfl, rfl, rfl, rfl⟩ := hc
      obtain ⟨g1, g2, rfl⟩ := agB_ok h1
      obtain ⟨a, b, p7, p8, p9, p10, p11, rfl, la, lb⟩ := boB_ok h2
      cases h
      exact ⟨a, b, g1, g2, p7, p8, p9, p10, p11, _, _, _, _, _, rfl, la, lb⟩
    · cases h
  · cases h
end DL
namespace DLH
open PySem PySem.Spec L2 DL He
/-! ### facts about error classes -/
def gasB (l : List (Str × Addr)) : Fr → Bool := fun K => l.all fun p => ga K p.1 == p.2
def ecsB (l : List Str) : Fr → Bool := fun K => l.all fun x => ecB x K
def isyB (l : List Str) (y : Str) (t : Str → Bool) : Fr → Bool := fun K => l.all fun x => decide (PySem.W.kitOne K (.ref (ga K x)) (.ref (ga K y)) = some (t x))
def istB (l : List Str) (n : String) : Fr → Bool := fun K => l.all fun x => decide (PySem.W.kitOne K (.ref (ga K x)) (.type n) = some true)
def strB (l : List Str) : Fr → Bool := fun K => l.all fun x => eqO (PySem.W.findIn K (.ref (ga K x)) "__str__") (some (some (.builtin "BaseException.__str__"))) && decide (PySem.W.subIn K (.ref (ga K x)) (.type "BaseException") = some true)
def xfcB (x : Str) : Fr → Bool := fun K => eqO (PySem.W.findIn K (.ref (ga K x)) "__getattribute__") (some (some (.builtin "BaseException.__getattribute__"))) && (eqO (PySem.W.findIn K (.ref (ga K x)) "__getattr__") (some none) && (decide (PySem.W.subIn K (.ref (ga K x)) (.type "BaseException") = some true) && PySem.W.hasDictIn K (ga K x)))
def nolB (x f : Str) : Fr → Bool := fun K => eqO (PySem.W.findIn K (.ref (ga K x)) f) (some none)
/-- an own class over ValueError, laid as such -/
def oexB (C : Addr) : Fr → Bool := fun K => match K.lookup C with
  | some ⟨.type "type", _, .cls ⟨_, _, .ref C' :: bm, _, _, true, _, _, _, _, false⟩, sl⟩ => decide (C' = C) && (HandSPX.refsVE bm && (match sl.toList with
    | [_, _, _, _, some (.builtin n), _] => decide (n = "ValueError.__new__")
    | _ => false))
  | _ => false
def clB (K : Fr) (cc C : Addr) : Bool := match K.lookup cc with
  | some ⟨_, _, .cell (some (.ref D)), _⟩ => decide (D = C)
  | _ => false
def cfB (file : Str) (K : Fr) (cda : Addr) : Bool := match K.lookup cda with
  | some ⟨_, _, .fields vs, _⟩ => (match (vs[2]? : Option Value) with
    | some (.str f _) => file == f
    | _ => false)
  | _ => false
abbrev peV : List Value := [.type "ValueError", .type "Exception", .type "BaseException", .type "object"]
def peB (file : Str) (z : PePos) (x : Str) : Fr → Bool := fun K => gloB x K && (oexB (ga K x) K && (eqO (PySem.W.findIn K (.ref (ga K x)) "__setattr__") (some (some (.builtin "object.__setattr__"))) && (decide (PySem.W.subIn K (.ref (ga K x)) (.type "BaseException") = some true) && (decide (PySem.W.typeIn K (.ref (ga K x)) = some (.type "type")) && (PySem.W.keepIn K (.ref (ga K x)) &&
  (eqO (PySem.W.findIn K (.ref (ga K x)) "line") (some none) && (eqO (PySem.W.findIn K (.ref (ga K x)) "__init__") (some (some (.ref (mth x "__init__" K)))) && (decide (PySem.W.typeIn K (.ref (mth x "__init__" K)) = some (.type "function")) && ((PySem.W.clsIn K (ga K x)).isSome && (decide (PySem.W.mroIn K (ga K x) (.ref (ga K x)) = some true) &&
  (decide (PySem.W.subIn K (.ref (ga K x)) (.type "ValueError") = some true) && (eqO (PySem.W.ks_superIn K (ga K x) (ga K x) "__init__") (some (some (.builtin "ValueError.__init__"))) && (PySem.W.excInitIn K (ga K x) peV "ValueError.__new__" && (eqO (PySem.W.nsIn K PySem.cStatics "thirdparty.any") (some none) &&
  (match K.lookup (mth x "__init__" K) with
    | some ⟨_, _, .func fd, _⟩ => (match fdB z fd with
      | some (cc, cda) => clB K cc (ga K x) && (cfB file K cda && PySem.W.codeIn K (.ref cda) fd.qualname)
      | none => false)
    | _ => false)))))))))))))))
end DLH
end
section
namespace Gk19
open PySem PySem.Spec DL
def exNs : List Str := ["HueError", "ParseError", "FoeHasWon", "InvalidColour", "InvalidColours", "InvalidGame", "InvalidIndex", "InvalidKind", "InvalidLine", "InvalidMenu", "InvalidMove", "InvalidName", "InvalidNumber", "InvalidOrder", "InvalidPoint", "InvalidPosition", "InvalidRow", "InvalidRule", "InvalidStretch", "NameIsTaken", "NotFree", "NothingToUndo", "TooMany", "UnknownName"]
def exL : List (Str × Addr) := [("HueError", 24), ("ParseError", 46), ("FoeHasWon", 58), ("InvalidColour", 70), ("InvalidColours", 82), ("InvalidGame", 94), ("InvalidIndex", 106), ("InvalidKind", 118), ("InvalidLine", 130), ("InvalidMenu", 142), ("InvalidMove", 154), ("InvalidName", 166), ("InvalidNumber", 178), ("InvalidOrder", 190), ("InvalidPoint", 202), ("InvalidPosition", 214), ("InvalidRow", 226), ("InvalidRule", 238), ("InvalidStretch", 250), ("NameIsTaken", 262), ("NotFree", 274), ("NothingToUndo", 286), ("TooMany", 298), ("UnknownName", 310)]
def exT_FoeHasWon (z : Str) : Bool := z == "FoeHasWon"
def exT_HueError (z : Str) : Bool := true
def exT_InvalidColour (z : Str) : Bool := z == "InvalidColour"
def exT_InvalidColours (z : Str) : Bool := z == "InvalidColours"
def exT_InvalidGame (z : Str) : Bool := z == "InvalidGame"
def exT_InvalidIndex (z : Str) : Bool := z == "InvalidIndex"
def exT_InvalidKind (z : Str) : Bool := z == "InvalidKind"
def exT_InvalidLine (z : Str) : Bool := z == "InvalidLine"
def exT_InvalidMenu (z : Str) : Bool := z == "InvalidMenu"
def exT_InvalidMove (z : Str) : Bool := z == "InvalidMove"
def exT_InvalidName (z : Str) : Bool := z == "InvalidName"
def exT_InvalidNumber (z : Str) : Bool := z == "InvalidNumber"
def exT_InvalidOrder (z : Str) : Bool := z == "InvalidOrder"
def exT_InvalidPoint (z : Str) : Bool := z == "InvalidPoint"
def exT_InvalidPosition (z : Str) : Bool := z == "InvalidPosition"
def exT_InvalidRow (z : Str) : Bool := z == "InvalidRow"
def exT_InvalidRule (z : Str) : Bool := z == "InvalidRule"
def exT_InvalidStretch (z : Str) : Bool := z == "InvalidStretch"
def exT_NameIsTaken (z : Str) : Bool := z == "NameIsTaken"
def exT_NotFree (z : Str) : Bool := z == "NotFree"
def exT_NothingToUndo (z : Str) : Bool := z == "NothingToUndo"
def exT_ParseError (z : Str) : Bool := z == "ParseError"
def exT_TooMany (z : Str) : Bool := z == "TooMany"
def exT_UnknownName (z : Str) : Bool := z == "UnknownName"
def peZ : PePos := ⟨⟨7, 8, 7, 13⟩, ⟨7, 8, 7, 15⟩, ⟨7, 8, 7, 24⟩, ⟨7, 8, 7, 53⟩, ⟨7, 27, 7, 32⟩, ⟨7, 33, 7, 37⟩, ⟨7, 32, 7, 38⟩, ⟨7, 38, 7, 51⟩, ⟨7, 25, 7, 52⟩⟩
end Gk19
end
section
set_option maxRecDepth 100000
namespace Gk19
open PySem PySem.Spec PyProof.Rows L2 DL DLH
def htop (i : Nat) : Stmt := PySem.Challenge.rw_stretchhues_k19_error_classes.prog.main.body.getD i (.Pass ⟨0, 0, 0, 0⟩)
abbrev hs__law_made : Stmt := htop 26
abbrev hs__law_kinds : Stmt := htop 27
abbrev hs_law : Stmt := htop 28
def hFn0 : List DLH.FD := [DLH.fdG "_law_made" hs__law_made, DLH.fdG "_law_kinds" hs__law_kinds, DLH.fdG "law" hs_law]
def hFn : List DLH.FD := hFn0
def hFs0 : List (DLH.Fr → Bool) := [DLH.freeB "ValueError", DLH.freeB "isinstance", DLH.freeB "len", DLH.freeB "range", DLH.freeB "str", DLH.gasB exL, DLH.ecsB exNs, DLH.excB "FoeHasWon", DLH.excB "HueError", DLH.excB "InvalidColour", DLH.excB "InvalidColours", DLH.excB "InvalidGame", DLH.excB "InvalidIndex", DLH.excB "InvalidKind", DLH.excB "InvalidLine", DLH.excB "InvalidMenu", DLH.excB "InvalidMove", DLH.excB "InvalidName", DLH.excB "InvalidNumber", DLH.excB "InvalidOrder", DLH.excB "InvalidPoint", DLH.excB "InvalidPosition", DLH.excB "InvalidRow", DLH.excB "InvalidRule", DLH.excB "InvalidStretch", DLH.excB "NameIsTaken", DLH.excB "NotFree", DLH.excB "NothingToUndo", DLH.excB "TooMany", DLH.excB "UnknownName"]
def hFs1 : List (DLH.Fr → Bool) := [DLH.gloB "FoeHasWon", DLH.isyB exNs "FoeHasWon" exT_FoeHasWon, DLH.gloB "HueError", DLH.isyB exNs "HueError" exT_HueError, DLH.gloB "InvalidColour", DLH.isyB exNs "InvalidColour" exT_InvalidColour, DLH.gloB "InvalidColours", DLH.isyB exNs "InvalidColours" exT_InvalidColours, DLH.gloB "InvalidGame", DLH.isyB exNs "InvalidGame" exT_InvalidGame, DLH.gloB "InvalidIndex", DLH.isyB exNs "InvalidIndex" exT_InvalidIndex, DLH.gloB "InvalidKind", DLH.isyB exNs "InvalidKind" exT_InvalidKind, DLH.gloB "InvalidLine", DLH.isyB exNs "InvalidLine" exT_InvalidLine, DLH.gloB "InvalidMenu", DLH.isyB exNs "InvalidMenu" exT_InvalidMenu, DLH.gloB "InvalidMove", DLH.isyB exNs "InvalidMove" exT_InvalidMove, DLH.gloB "InvalidName", DLH.isyB exNs "InvalidName" exT_InvalidName, DLH.gloB "InvalidNumber", DLH.isyB exNs "InvalidNumber" exT_InvalidNumber, DLH.gloB "InvalidOrder", DLH.isyB exNs "InvalidOrder" exT_InvalidOrder, DLH.gloB "InvalidPoint", DLH.isyB exNs "InvalidPoint" exT_InvalidPoint, DLH.gloB "InvalidPosition", DLH.isyB exNs "InvalidPosition" exT_InvalidPosition]
def hFs2 : List (DLH.Fr → Bool) := [DLH.gloB "InvalidRow", DLH.isyB exNs "InvalidRow" exT_InvalidRow, DLH.gloB "InvalidRule", DLH.isyB exNs "InvalidRule" exT_InvalidRule, DLH.gloB "InvalidStretch", DLH.isyB exNs "InvalidStretch" exT_InvalidStretch, DLH.gloB "NameIsTaken", DLH.isyB exNs "NameIsTaken" exT_NameIsTaken, DLH.gloB "NotFree", DLH.isyB exNs "NotFree" exT_NotFree, DLH.gloB "NothingToUndo", DLH.isyB exNs "NothingToUndo" exT_NothingToUndo, DLH.gloB "ParseError", DLH.isyB exNs "ParseError" exT_ParseError, DLH.gloB "TooMany", DLH.isyB exNs "TooMany" exT_TooMany, DLH.gloB "UnknownName", DLH.isyB exNs "UnknownName" exT_UnknownName, DLH.istB exNs "ValueError", DLH.strB exNs, DLH.xfcB "ParseError", DLH.nolB "ParseError" "line", DLH.freeB "super", DLH.peB (PySem.Challenge.rw_stretchhues_k19_error_classes.prog.main.file : Str) peZ "ParseError"]
def hFs : List (DLH.Fr → Bool) := hFs0 ++ (hFs1 ++ (hFs2))
def hTf : List Str := []
def hLo0 : List Str := ["HueError", "ParseError", "FoeHasWon", "InvalidColour", "InvalidColours", "InvalidGame", "InvalidIndex", "InvalidKind", "InvalidLine", "InvalidMenu", "InvalidMove", "InvalidName", "InvalidNumber", "InvalidOrder", "InvalidPoint", "InvalidPosition", "InvalidRow", "InvalidRule", "InvalidStretch", "NameIsTaken", "NotFree", "NothingToUndo", "TooMany", "UnknownName", "_law_made", "_law_kinds"]
def hLo : List Str := hLo0
abbrev hRR : PySem.W.OpenRow := PySem.W.OpenLaw.row PySem.Challenge.rw_stretchhues_k19_error_classes
abbrev hQv : Program := PySem.W.view hRR.prog [28]
def hAd0 : List Addr := [3, 0, 1, 2, 4, 5, 6, 7, 8, 9, 10, 11, 12, 13, 14, 15, 16, 17, 18, 19, 20, 24, 46, 58, 70, 82, 94, 106, 118, 130, 142, 154, 166, 178, 190, 202, 214, 226, 238, 250]
def hAd1 : List Addr := [262, 274, 286, 298, 310, 319, 326, 331, 23, 45, 57, 69, 81, 93, 105, 117, 129, 141, 153, 165, 177, 189, 201, 213, 225, 237, 249, 261, 273, 285, 297, 309, 318, 325, 330, 43, 42, 31]
def hAd : List Addr := hAd0 ++ (hAd1)
abbrev hHk : PySem.W.Hook := DLH.hookH hAd hFs hFn hTf
def hOb (s : PySem.W.SharedT) : DLH.AlH := DLH.obsH hAd hFs hFn hTf (HandSHeadRun.getT s)
theorem hOb_eq (s : PySem.W.SharedT) : hOb s = hHk.obs s.abs := DLH.obsH_eq (HandSHeadRun.getT_eq s)
set_option maxHeartbeats 0 in
theorem hRun (w : World) : HandSHeadRun.RunEq hRR hQv hHk hOb 20000 hLo w := by
  intro os
  kernel_rfl
end Gk19
end
section
set_option maxRecDepth 100000
set_option maxHeartbeats 4000000
namespace DL
open PySem PySem.Spec PyProof.Rows L2
variable [tb : Tb]

/-- the data that is to be read at a value now -/
def Vw (K : PySem.W.Frag) (F H : Hp) : D → V → Prop
  | .lst ds, v => ∃ a vs, v = .ref a ∧ H a = some (.lst vs) ∧ Reps K F ds vs
  | .dct ks ds, v => ∃ a vs, v = .ref a ∧ H a = some (.dK (ks.zip vs)) ∧ ks.length = ds.length ∧ Reps K F ds vs
  | d, v => Rep K F d v
theorem Vw.of {K : PySem.W.Frag} {F H : Hp} (s : Same F H) {d : D} {v : V} (h : Rep K F d v) : Vw K F H d v := by
  cases d with
  | lst ds =>
    simp only [Rep] at h
    obtain ⟨a, vs, h1, h2, h3⟩ := h
    exact ⟨a, vs, h1, s _ _ h2, h3⟩
  | dct ks ds =>
    simp only [Rep] at h
    obtain ⟨a, vs, h1, h2, h3, h4⟩ := h
    exact ⟨a, vs, h1, s _ _ h2, h3, h4⟩
  | _ => exact h
def O.view : O → Option D
  | .val d => some d
  | .lst ds => some (.lst ds)
  | .dK ks ds => some (.dct ks ds)
  | _ => none
def Slot.o : Slot → Option O
  | .un => none
  | .own o => some o
  | .pin o => some o
def resolve (env : DEnv) : R → Option D
  | .val d => some d
  | .own o => o.view
  | .bor i => match env[i]?.bind Slot.o with
    | some o => o.view
    | none => none
theorem Own.view {K : PySem.W.Frag} {F H : Hp} (s : Same F H) {o : O} {v : V} {B : List Addr} {d : D} (h : Own K F H o v B) (e : o.view = some d) : Vw K F H d v := by
  cases o with
  | val d' =>
    cases e
    simp only [Own] at h
    exact Vw.of s h.2
  | lst ds =>
    cases e
    simp only [Own] at h
    obtain ⟨a, vs, h1, _, h2, h3⟩ := h
    exact ⟨a, vs, h1, h2, h3⟩
  | dK ks ds =>
    cases e
    simp only [Own] at h
    obtain ⟨a, vs, h1, _, h2, h3, h4⟩ := h
    exact ⟨a, vs, h1, h2, h3, h4⟩
  | dT ks ds => cases e
  | lo os => cases e
  | to os => cases e
  | ins C ns os => cases e
section
variable {K : PySem.W.Frag} {pv : Nat → Option V} {W : WX} {mg : Str → Option Value} {env env' : DEnv} {σ : L2.St} {F F' H H' : Hp} {A A' : Nat → List Addr} {B : List Addr} {r : R} {v : V}
/-- the slot of a value that is borrowed -/
theorem WS.at (w : WS K pv env σ F H A) {i : Nat} {o : O} (e : env[i]?.bind Slot.o = some o) {v : V} (hv : σ[i]? = some (some v)) : Own K F H o v (A i) := by
  have h := w.slot i
  cases es : env[i]? with
  | none => rw [es] at e; simp at e
  | some s =>
    rw [es] at e h
    rw [hv] at h
    simp only [Option.getD_some] at h
    cases s with
    | un => simp [Slot.o] at e
    | own o' =>
      simp [Slot.o] at e; subst e
      obtain ⟨v', h1, h2⟩ := h
      cases h1; exact h2
    | pin o' =>
      simp [Slot.o] at e; subst e
      obtain ⟨v', h1, _, h2⟩ := h
      cases h1; exact h2
theorem WS.has (w : WS K pv env σ F H A) {i : Nat} {o : O} (e : env[i]?.bind Slot.o = some o) : ∃ v, σ[i]? = some (some v) ∧ Own K F H o v (A i) := by
  have h := w.slot i
  cases es : env[i]? with
  | none => rw [es] at e; simp at e
  | some s =>
    have hi : i < σ.length := by rw [← w.len]; exact (List.getElem?_eq_some_iff.mp es).1
    rw [es] at e h
    simp only [Option.getD_some] at h
    cases s with
    | un => simp [Slot.o] at e
    | own o' =>
      simp [Slot.o] at e; subst e
      obtain ⟨v', h1, h2⟩ := h
      refine ⟨v', ?_, h2⟩
      rw [List.getElem?_eq_getElem hi] at h1 ⊢
      simpa using h1
    | pin o' =>
      simp [Slot.o] at e; subst e
      obtain ⟨v', h1, _, h2⟩ := h
      refine ⟨v', ?_, h2⟩
      rw [List.getElem?_eq_getElem hi] at h1 ⊢
      simpa using h1
theorem RRep.view (w : WS K pv env σ F H A) (h : RRep K env σ F H r v B) {d : D} (e : resolve env r = some d) : Vw K F H d v := by
  cases r with
  | val d' => cases e; exact Vw.of w.sub h.2
  | own o => exact Own.view w.sub h e
  | bor i =>
    simp only [resolve] at e
    split at e
    · rename_i o ho
      exact Own.view w.sub (w.at ho h.2) e
    · cases e

/-! ### operations by values -/
def RV (K : PySem.W.Frag) (F H : Hp) (r : R) (v : V) (B : List Addr) : Prop :=
  match r with
  | .val d => B = [] ∧ Rep K F d v
  | .own o => Own K F H o v B ∧ B.Nodup ∧ ∀ a ∈ B, F a = none
  | .bor _ => False
abbrev Nw (F H F' H' : Hp) (B : List Addr) : Prop := Step F H (fun _ => False) F' H' (fun a => a ∈ B)
/-- what is wanted behind an operation that makes new things alone -/
def VOk (K : PySem.W.Frag) (F H : Hp) (r : R) (Q : VK) : Prop := ∀ v F' H' B, Nw F H F' H' B → Same F' H' → RV K F' H' r v B → Q v H'
theorem VOk.flat {d : D} {Q : VK} (h : VOk K F H (.val d) Q) (s : Same F H) (e : Rep K F d v) : Q v H := h v F H [] (Step.refl.less fun _ z => nomatch z) s ⟨rfl, e⟩
theorem Nw.put {F H : Hp} {p : Addr} {o : HO} (n : H p = none) (s : Same F H) : Nw F H F (upd H p o) [p] where
  fz := Same.refl _
  keep := fun a u e _ _ => by rw [upd_ne (ne_of_none e n)]; exact e
  tabs := fun t => TbsOk.new n t
  new := fun a e => .inl e
  dom := fun a e => by
    by_cases z : a = p
    · rw [z]; exact n
    · rw [upd_ne z] at e; exact e
  own := fun a e => by
    simp only [List.mem_singleton] at e
    subst e; exact .inr n
theorem Nw.frz {F H : Hp} {p : Addr} {o : HO} (n : H p = none) (s : Same F H) : Nw F H (upd F p o) (upd H p o) [] where
  fz := fun a u e => by rw [upd_ne (ne_of_none (s _ _ e) n)]; exact e
  keep := fun a u e _ _ => by rw [upd_ne (ne_of_none e n)]; exact e
  tabs := fun t => ⟨Tabs.new n t.1, fun q hq => by
    obtain ⟨ps, e⟩ := t.at hq
    rw [upd_ne (ne_of_none e n)]
    exact t.2 q hq⟩
  new := fun a e => by
    by_cases z : a = p
    · rw [z]; exact .inr (.inl n)
    · rw [upd_ne z] at e; exact .inl e
  dom := fun a e => by
    by_cases z : a = p
    · rw [z]; exact n
    · rw [upd_ne z] at e; exact e
  own := fun a e => nomatch e
theorem same_put {F H : Hp} {p : Addr} {o : HO} (n : H p = none) (s : Same F H) : Same F (upd H p o) := fun a u e => by rw [upd_ne (ne_of_none (s _ _ e) n)]; exact s _ _ e
theorem same_frz {F H : Hp} {p : Addr} {o : HO} (s : Same F H) : Same (upd F p o) (upd H p o) := fun a u e => by
  by_cases z : a = p
  · subst z; rw [upd_same] at e ⊢; exact e
  · rw [upd_ne z] at e ⊢; exact s _ _ e
/-- a new list, owned -/
theorem VOk.lst {ds : List D} {vs : List V} {Q : VK} (h : VOk K F H (.own (.lst ds)) Q) (s : Same F H) (e : Reps K F ds vs) {p : Addr} (n : H p = none) : Q (.ref p) (upd H p (.lst vs)) := by
  refine h _ F _ [p] (Nw.put n s) (same_put n s) ⟨?_, by simp, fun a ha => ?_⟩
  · simp only [Own]
    exact ⟨p, vs, rfl, rfl, upd_same, e⟩
  · simp only [List.mem_singleton] at ha
    subst ha
    exact Same.free s n
/-- a new tuple -/
theorem VOk.tup {ds : List D} {vs : List V} {Q : VK} (h : VOk K F H (.val (.tup ds)) Q) (s : Same F H) (e : Reps K F ds vs) {p : Addr} (n : H p = none) : Q (.ref p) (upd H p (.tup vs)) := by
  refine h _ (upd F p (.tup vs)) _ [] (Nw.frz n s) (same_frz s) ⟨rfl, ?_⟩
  simp only [Rep]
  exact ⟨p, vs, rfl, upd_same, Reps.same (Nw.frz (o := .tup vs) n s).fz ds e⟩

theorem WS.nw (w : WS K pv env σ F H A) {B' : List Addr} (n : Nw F H F' H' B') (s : Same F' H') : WS K pv env σ F' H' A := by
  refine w.stay n.fz s (fun b hb u e => n.keep b u e (Nd.noTb (by rw [← e]; exact w.ndU hb)) fun z => z) (fun b hb => ?_) n.tabs
  apply Classical.byContradiction
  intro z
  rcases n.new b z with q | q | q
  · exact q (w.disU hb)
  · exact w.there hb q
  · exact q
/-- the end of an operation by values: the state behind it -/
theorem fin_op {F0 H0 : Hp} {A0 : Nat → List Addr} {P : Addr → Prop} (st : Step F0 H0 (UA A0) F H P) (hp : ∀ a, UA A a → P a) (ws : WS K pv env σ F H A) {F' H' : Hp} {B' : List Addr} (n : Nw F H F' H' B') (s : Same F' H') (rv : RV K F' H' r v B') :
    Step F0 H0 (UA A0) F' H' (fun a => UA A a ∨ a ∈ B') ∧ RS K pv env σ r v F' H' A B' := by
  have ws' := ws.nw n s
  have st1 : Step F0 H0 (UA A0) F H (UA A) := st.less hp
  have n2 := (n.frame (UA A))
  have n3 : Step F H (UA A) F' H' (fun a => UA A a ∨ a ∈ B') := (n2.more (P2 := UA A) fun x hx => hx.elim False.elim id).less fun x hx => hx.symm
  refine ⟨st1.trans n3, ws', ?_, ?_, ?_, ?_⟩
  · cases r with
    | val d => exact rv
    | own o => exact rv.1
    | bor i => exact rv.elim
  · cases r with
    | val d => rw [rv.1]; exact List.nodup_nil
    | own o => exact rv.2.1
    | bor i => exact rv.elim
  · intro a ha hu
    rcases n.own a ha with z | z
    · exact z
    · exact ws.there hu z
  · cases r with
    | val d => intro a ha; rw [rv.1] at ha; cases ha
    | own o => exact rv.2.2
    | bor i => exact rv.elim
end

/-! ### two operands -/
def fin2 (h : D → D → Option R) (r1 r2 : R) (env : DEnv) : Res R :=
  match resolve env r1, resolve env r2 with
  | some d1, some d2 => (match h d1 d2 with
    | some ro => .ok ro env
    | none => .bad)
  | _, _ => .bad
def op2 (h : D → D → Option R) (f g : M R) : M R := fun env => (f env).bind fun r1 e1 => (g e1).bind fun r2 e2 => fin2 h r1 r2 e2
def OpV (K : PySem.W.Frag) (r : R2) (h : D → D → Option R) : Prop := ∀ (F H : Hp) (d1 d2 : D) (v1 v2 : V) (ro : R) (Q : VK), Same F H → Vw K F H d1 v1 → Vw K F H d2 v2 → h d1 d2 = some ro → VOk K F H ro Q → r v1 v2 H Q
section
variable {K : PySem.W.Frag} {pv : Nat → Option V} {W : WX} {mg : Str → Option Value} {f g : M R} {h : D → D → Option R} {r : R2} {σ : L2.St} {H : Hp} {Q : VK}
theorem op2_rd (hv : OpV K r h) (q : tD K mg pv W (op2 h f g) σ H Q) : tOp r (tD K mg pv W f) (tD K mg pv W g) σ H Q := by
  obtain ⟨env, F, A, ws, q⟩ := q
  simp only [op2] at q
  refine tD_bind ws (fun e => ?_) (fun c e1 e F1 H1 A1 s1 w1 => ?_) (fun r1 e1 e v1 F1 H1 A1 B1 s1 rs1 => ?_)
  · rw [e] at q; exact q
  · rw [e] at q; exact q F1 H1 A1 s1 w1
  · rw [e] at q
    simp only [Res.bind] at q
    refine tD_bind rs1.ws (fun e => ?_) (fun c e2 e F2 H2 A2 s2 w2 => ?_) (fun r2 e2 e v2 F2 H2 A2 B2 s2 rs2 => ?_)
    · rw [e] at q; exact q
    · rw [e] at q
      exact q F2 H2 A2 (s1.trans ((s2.frame (fun a => a ∈ B1)).less fun x hx => .inl hx)) w2
    · rw [e] at q
      simp only [fin2] at q
      obtain ⟨k1, k2, k3⟩ := rs1.wait s2 rs2.ws
      cases h1 : resolve e2 r1 with
      | none => rw [h1] at q; exact q.elim
      | some d1 =>
        cases h2 : resolve e2 r2 with
        | none => rw [h1, h2] at q; exact q.elim
        | some d2 =>
          rw [h1, h2] at q
          cases h3 : h d1 d2 with
          | none => simp only [h3] at q
          | some ro =>
            simp only [h3] at q
            refine hv F2 H2 d1 d2 v1 v2 ro Q rs2.ws.sub (k1.view rs2.ws h1) (rs2.rr.view rs2.ws h2) h3 fun v F3 H3 B3 n s rv => ?_
            have st := s1.trans (s2.frame (fun a => a ∈ B1))
            obtain ⟨z1, z2⟩ := fin_op st (fun a ha => .inl (.inl ha)) rs2.ws n s rv
            exact q v F3 H3 A2 B3 z1 z2
end
section
variable {X : Cx} {pv : Nat → Option V} {W : WX} {mg : Str → Option Value} {f g : M R} {h : D → D → Option R} {a b : Expr} {pos : Pos} {r : R2}
theorem de_op {op : Operator} (ho : OpR X (binaryOp op) r) (hv : OpV X.K r h) (ha : PE X a (tD X.K X.mg pv W f)) (hb : PE X b (tD X.K X.mg pv W g)) : PE X (.BinOp a op b pos) (tD X.K X.mg pv W (op2 h f g)) :=
  (pe_op ho ha hb).imp fun _ _ _ q => op2_rd hv q
theorem de_cmp {op : CmpOp} (ho : OpR X (compareOp op) r) (hv : OpV X.K r h) (ha : PE X a (tD X.K X.mg pv W f)) (hb : PE X b (tD X.K X.mg pv W g)) (hm : behindInMarks op b = false) : PE X (.Compare a [op] [b] pos) (tD X.K X.mg pv W (op2 h f g)) :=
  (pe_cmpR ho ha hb hm).imp fun _ _ _ q => op2_rd hv q
end
end DL
end
section
set_option maxRecDepth 100000
set_option maxHeartbeats 4000000
namespace DL
open PySem PySem.Spec PyProof.Rows L2
variable [tb : Tb]

/-! ### freezing -/
mutual
def O.frz : O → Option D
  | .val d => some d
  | .lst ds => some (.lst ds)
  | .dK ks ds => some (.dct ks ds)
  | .dT _ _ => none
  | .lo os => match O.frzs os with
    | some ds => some (.lst ds)
    | none => none
  | .ins C ns os => match O.frzs os with
    | some ds => some (.ins C ns ds)
    | none => none
  | .to _ => none
def O.frzs : List O → Option (List D)
  | [] => some []
  | o :: os => match O.frz o, O.frzs os with
    | some d, some ds => some (d :: ds)
    | _, _ => none
end
/-- F with what H has at B -/
noncomputable def ext (F H : Hp) (B : Addr → Prop) : Hp := fun a => open Classical in if B a then H a else F a
section
variable {K : PySem.W.Frag} {F H : Hp} {B : Addr → Prop}
theorem ext_in {a : Addr} (h : B a) : ext F H B a = H a := by unfold ext; rw [if_pos h]
theorem ext_out {a : Addr} (h : ¬ B a) : ext F H B a = F a := by unfold ext; rw [if_neg h]
theorem ext_same (s : Same F H) : Same F (ext F H B) := fun a o e => by
  by_cases h : B a
  · rw [ext_in h]; exact s _ _ e
  · rw [ext_out h]; exact e
theorem ext_sub (s : Same F H) : Same (ext F H B) H := fun a o e => by
  by_cases h : B a
  · rw [ext_in h] at e; exact e
  · rw [ext_out h] at e; exact s _ _ e
theorem ext_tb1 {F H : Hp} {B : Addr → Prop} (h : ∀ a, B a → Nd (H a)) : ∀ a, ext F H B a ≠ none → F a ≠ none ∨ (∀ ps, H a ≠ some (.tbl ps)) := fun a ha => by
  by_cases z : B a
  · exact .inr (h a z).noT
  · rw [ext_out z] at ha
    exact .inl ha
theorem O.frzs_len : ∀ {os : List O} {ds : List D}, O.frzs os = some ds → ds.length = os.length
  | [], ds, e => by simp only [O.frzs] at e; cases e; rfl
  | o :: os, ds, e => by
    simp only [O.frzs] at e
    split at e
    · rename_i d ds' h1 h2
      cases e
      simp [O.frzs_len h2]
    · cases e
mutual
theorem Own.frz {G : Hp} (s : Same F G) : ∀ (o : O) {v : V} {C : List Addr} {d : D}, Own K F H o v C → (∀ a ∈ C, G a = H a) → o.frz = some d → Rep K G d v
  | .val d, _, _, _, h, _, e => by
    simp only [O.frz] at e; cases e
    simp only [Own] at h
    exact Rep.same s d h.2
  | .lst ds, _, _, _, h, b, e => by
    simp only [O.frz] at e; cases e
    simp only [Own] at h
    obtain ⟨a, vs, h1, rfl, h2, h3⟩ := h
    simp only [Rep]
    exact ⟨a, vs, h1, (by rw [b a (List.mem_singleton.mpr rfl)]; exact h2), Reps.same s ds h3⟩
  | .dK ks ds, _, _, _, h, b, e => by
    simp only [O.frz] at e; cases e
    simp only [Own] at h
    obtain ⟨a, vs, h1, rfl, h2, h4, h3⟩ := h
    simp only [Rep]
    exact ⟨a, vs, h1, (by rw [b a (List.mem_singleton.mpr rfl)]; exact h2), h4, Reps.same s ds h3⟩
  | .dT ks ds, _, _, _, _, _, e => by simp only [O.frz] at e; cases e
  | .to os, _, _, _, _, _, e => by simp only [O.frz] at e; cases e
  | .lo os, _, _, _, h, b, e => by
    simp only [O.frz] at e
    split at e
    · rename_i ds hd
      cases e
      simp only [Own] at h
      obtain ⟨a, vs, B', h1, rfl, h2, h3⟩ := h
      simp only [Rep]
      exact ⟨a, vs, h1, (by rw [b a List.mem_cons_self]; exact h2), Owns.frz s os h3 (fun c hc => b c (List.mem_cons_of_mem _ hc)) hd⟩
    · cases e
  | .ins C ns os, _, _, _, h, b, e => by
    simp only [O.frz] at e
    split at e
    · rename_i ds hd
      cases e
      simp only [Own] at h
      obtain ⟨a, dx, vs, B', h1, rfl, h2, h4, h3⟩ := h
      simp only [Rep]
      refine ⟨a, dx, vs, h1, by rw [b a List.mem_cons_self]; exact h2, ?_, Owns.frz s os h3 (fun c hc => b c (List.mem_cons_of_mem _ hc)) hd⟩
      rw [h4, O.frzs_len hd]
    · cases e
theorem Owns.frz {G : Hp} (s : Same F G) : ∀ (os : List O) {vs : List V} {C : List Addr} {ds : List D}, Owns K F H os vs C → (∀ a ∈ C, G a = H a) → O.frzs os = some ds → Reps K G ds vs
  | [], _, _, _, h, _, e => by
    simp only [O.frzs] at e; cases e
    simp only [Owns] at h
    exact h.1
  | o :: os, _, _, _, h, b, e => by
    simp only [O.frzs] at e
    split at e
    · rename_i d ds h1 h2
      cases e
      simp only [Owns] at h
      obtain ⟨v, r, B1, B2, rfl, rfl, q1, q2⟩ := h
      exact ⟨v, r, rfl, Own.frz s o q1 (fun a ha => b a (List.mem_append_left _ ha)) h1, Owns.frz s os q2 (fun a ha => b a (List.mem_append_right _ ha)) h2⟩
    · cases e
end
end

/-! ### several results -/
def RReps (K : PySem.W.Frag) (env : DEnv) (σ : L2.St) (F H : Hp) : List R → List V → List Addr → Prop
  | [], vs, B => vs = [] ∧ B = []
  | r :: rs, vs, B => ∃ v t B1 B2, vs = v :: t ∧ B = B1 ++ B2 ∧ RRep K env σ F H r v B1 ∧ RReps K env σ F H rs t B2
structure RSs (K : PySem.W.Frag) (pv : Nat → Option V) (env : DEnv) (σ : L2.St) (rs : List R) (vs : List V) (F H : Hp) (A : Nat → List Addr) (B : List Addr) : Prop where
  ws : WS K pv env σ F H A
  rr : RReps K env σ F H rs vs B
  nd : B.Nodup
  dj : ∀ a ∈ B, ¬ UA A a
  dis : ∀ a ∈ B, F a = none
def tDA (K : PySem.W.Frag) (mg : Str → Option Value) (pv : Nat → Option V) (W : WX) (f : M (List R)) : TA := fun σ H Q => ∃ env F A, WS K pv env σ F H A ∧
  match f env with
  | .bad => False
  | .ok rs env' => ∀ vs F' H' A' B, Step F H (UA A) F' H' (fun a => UA A' a ∨ a ∈ B) → RSs K pv env' σ rs vs F' H' A' B → Q vs H'
  | .exc c env' => ∀ F' H' A', Step F H (UA A) F' H' (UA A') → WS K pv env' σ F' H' A' → exW mg W c σ H'
def dNil : M (List R) := fun env => .ok [] env
def dCons (f : M R) (fs : M (List R)) : M (List R) := fun env => (f env).bind fun r e1 => (fs e1).bind fun rs e2 => .ok (r :: rs) e2
section
variable {K : PySem.W.Frag} {pv : Nat → Option V} {W : WX} {mg : Str → Option Value}
theorem tDA_bind {f : M (List R)} {σ : L2.St} {H : Hp} {Q : List V → Hp → Prop} {env : DEnv} {F : Hp} {A : Nat → List Addr} (ws : WS K pv env σ F H A) (hb : f env ≠ .bad)
    (hx : ∀ c env', f env = .exc c env' → ∀ F' H' A', Step F H (UA A) F' H' (UA A') → WS K pv env' σ F' H' A' → exW mg W c σ H')
    (hk : ∀ r env', f env = .ok r env' → ∀ v F' H' A' B, Step F H (UA A) F' H' (fun a => UA A' a ∨ a ∈ B) → RSs K pv env' σ r v F' H' A' B → Q v H') : tDA K mg pv W f σ H Q := by
  refine ⟨env, F, A, ws, ?_⟩
  cases e : f env with
  | bad => exact hb e
  | ok r env' => exact hk r env' e
  | exc c env' => exact hx c env' e
theorem dNil_rd {σ : L2.St} {H : Hp} {Q : List V → Hp → Prop} (q : tDA K mg pv W dNil σ H Q) : tNil σ H Q := by
  obtain ⟨env, F, A, ws, q⟩ := q
  exact q [] F H A [] (Step.refl.less fun x hx => hx.elim id fun z => nomatch z) ⟨ws, ⟨rfl, rfl⟩, List.nodup_nil, (fun a h => nomatch h), (fun a h => nomatch h)⟩
theorem dCons_rd {f : M R} {fs : M (List R)} {σ : L2.St} {H : Hp} {Q : List V → Hp → Prop} (q : tDA K mg pv W (dCons f fs) σ H Q) : tCons (tD K mg pv W f) (tDA K mg pv W fs) σ H Q := by
  obtain ⟨env, F, A, ws, q⟩ := q
  simp only [dCons] at q
  refine tD_bind ws (fun e => ?_) (fun c e1 e F1 H1 A1 s1 w1 => ?_) (fun r1 e1 e v1 F1 H1 A1 B1 s1 rs1 => ?_)
  · rw [e] at q; exact q
  · rw [e] at q; exact q F1 H1 A1 s1 w1
  · rw [e] at q
    simp only [Res.bind] at q
    refine tDA_bind rs1.ws (fun e => ?_) (fun c e2 e F2 H2 A2 s2 w2 => ?_) (fun r2 e2 e v2 F2 H2 A2 B2 s2 rs2 => ?_)
    · rw [e] at q; exact q
    · rw [e] at q
      exact q F2 H2 A2 (s1.trans ((s2.frame (fun a => a ∈ B1)).less fun x hx => .inl hx)) w2
    · rw [e] at q
      obtain ⟨k1, k2, k3⟩ := rs1.wait s2 rs2.ws
      refine q (v1 :: v2) F2 H2 A2 (B1 ++ B2) ?_ ⟨rs2.ws, ⟨v1, v2, B1, B2, rfl, rfl, k1, rs2.rr⟩, ?_, ?_, ?_⟩
      · refine (s1.trans (s2.frame (fun a => a ∈ B1))).less fun x hx => ?_
        rcases hx with hx | hx
        · exact .inl (.inl hx)
        · rcases List.mem_append.mp hx with hx | hx
          · exact .inr hx
          · exact .inl (.inr hx)
      · refine List.nodup_append.mpr ⟨rs1.nd, rs2.nd, fun a ha b hb z => ?_⟩
        subst z
        exact k3 a ha (.inr hb)
      · intro a ha hu
        rcases List.mem_append.mp ha with h | h
        · exact k3 a h (.inl hu)
        · exact rs2.dj a h hu
      · intro a ha
        rcases List.mem_append.mp ha with h | h
        · exact k2 a h
        · exact rs2.dis a h
end
section
variable {X : Cx} {pv : Nat → Option V} {W : WX} {f : M R} {fs : M (List R)} {e : Expr} {es : List Expr}
theorem da_nil : PA X [] (tDA X.K X.mg pv W dNil) := pa_nil.imp fun _ _ _ q => dNil_rd q
theorem da_cons (ha : PE X e (tD X.K X.mg pv W f)) (hr : PA X es (tDA X.K X.mg pv W fs)) (hs : starEach (e :: es) X.env = (false, eval e X.env) :: starEach es X.env := by rfl) : PA X (e :: es) (tDA X.K X.mg pv W (dCons f fs)) :=
  (pa_cons ha hr hs).imp fun _ _ _ q => dCons_rd q
end

/-! ### names, constants -/
def dVar (i : Nat) : M R := fun env => match env[i]? with
  | some (.own (.val d)) => .ok (.val d) env
  | some (.pin (.val d)) => .ok (.val d) env
  | some (.own _) => .ok (.bor i) env
  | some (.pin _) => .ok (.bor i) env
  | _ => .bad
def dC (d : D) : M R := fun env => .ok (.val d) env
section
variable {X : Cx} {pv : Nat → Option V} {W : WX}
theorem step_id {F H : Hp} {A : Nat → List Addr} : Step F H (UA A) F H (fun a => UA A a ∨ a ∈ ([] : List Addr)) := Step.refl.less fun x hx => hx.elim id fun z => nomatch z
theorem rs_val {K : PySem.W.Frag} {pv : Nat → Option V} {env : DEnv} {σ : L2.St} {F H : Hp} {A : Nat → List Addr} {d : D} {v : V} (ws : WS K pv env σ F H A) (h : Rep K F d v) : RS K pv env σ (.val d) v F H A [] :=
  ⟨ws, ⟨rfl, h⟩, List.nodup_nil, (fun a h => nomatch h), (fun a h => nomatch h)⟩
theorem rs_bor {K : PySem.W.Frag} {pv : Nat → Option V} {env : DEnv} {σ : L2.St} {F H : Hp} {A : Nat → List Addr} {i : Nat} {v : V} (ws : WS K pv env σ F H A) (h : σ[i]? = some (some v)) : RS K pv env σ (.bor i) v F H A [] :=
  ⟨ws, ⟨rfl, h⟩, List.nodup_nil, (fun a h => nomatch h), (fun a h => nomatch h)⟩
theorem de_var {i : Nat} {x : Str} {pos : Pos} (hN : X.N[i]? = some x) (hv : Vis X.env.scope x) (hd : (x == ("__debug__" : Str)) = false := by decide) (hcd : (x == ("__classdict__" : Str)) = false := by decide) : PE X (.Name x pos) (tD X.K X.mg pv W (dVar i)) := by
  refine (pe_var hN hv hd hcd).imp fun σ H Q q => ?_
  obtain ⟨env, F, A, ws, q⟩ := q
  unfold dVar at q
  cases es : env[i]? with
  | none => simp only [es] at q
  | some s =>
    simp only [es] at q
    cases s with
    | un => exact q.elim
    | own o =>
      obtain ⟨v, hv, ho⟩ := ws.has (i := i) (o := o) (by rw [es]; rfl)
      refine ⟨v, hv, ?_⟩
      cases o with
      | val d =>
        simp only [Own] at ho
        exact q v F H A [] step_id (rs_val ws ho.2)
      | lst ds => exact q v F H A [] step_id (rs_bor ws hv)
      | dK ks ds => exact q v F H A [] step_id (rs_bor ws hv)
      | dT ks ds => exact q v F H A [] step_id (rs_bor ws hv)
      | lo os => exact q v F H A [] step_id (rs_bor ws hv)
      | to os => exact q v F H A [] step_id (rs_bor ws hv)
      | ins C ns os => exact q v F H A [] step_id (rs_bor ws hv)
    | pin o =>
      obtain ⟨v, hv, ho⟩ := ws.has (i := i) (o := o) (by rw [es]; rfl)
      refine ⟨v, hv, ?_⟩
      cases o with
      | val d =>
        simp only [Own] at ho
        exact q v F H A [] step_id (rs_val ws ho.2)
      | lst ds => exact q v F H A [] step_id (rs_bor ws hv)
      | dK ks ds => exact q v F H A [] step_id (rs_bor ws hv)
      | dT ks ds => exact q v F H A [] step_id (rs_bor ws hv)
      | lo os => exact q v F H A [] step_id (rs_bor ws hv)
      | to os => exact q v F H A [] step_id (rs_bor ws hv)
      | ins C ns os => exact q v F H A [] step_id (rs_bor ws hv)
theorem de_c {e : Expr} {v : V} {d : D} (h : PE X e (tC v)) (r : ∀ F, Rep X.K F d v) : PE X e (tD X.K X.mg pv W (dC d)) := h.imp fun σ H Q q => by
  obtain ⟨env, F, A, ws, q⟩ := q
  exact q v F H A [] step_id (rs_val ws (r F))
theorem de_int {i j pos} : PE X (.Constant (.int i) j pos) (tD X.K X.mg pv W (dC (.int i))) := de_c pe_int fun _ => rfl
theorem de_bl {i j pos} : PE X (.Constant (.bool i) j pos) (tD X.K X.mg pv W (dC (.bl i))) := de_c pe_bl fun _ => rfl
theorem de_str {i j pos} : PE X (.Constant (.str i) j pos) (tD X.K X.mg pv W (dC (.str i))) := de_c pe_str fun _ => rfl
end
end DL
end
section
set_option maxRecDepth 100000
set_option maxHeartbeats 4000000
namespace DL
open PySem PySem.Spec PyProof.Rows L2
variable [tb : Tb]

/-! ### data without lists -/
mutual
def D.lfree : D → Bool
  | .tup ds => D.lfrees ds
  | .ctp ds => D.lfrees ds
  | .exn _ _ _ => false
  | .lst _ => false
  | .rol _ => false
  | .dct _ _ => false
  | .ins _ _ _ => false
  | _ => true
def D.lfrees : List D → Bool
  | [] => true
  | d :: ds => d.lfree && D.lfrees ds
end
mutual
def O.lfree : O → Bool
  | .val d => d.lfree
  | .lst ds => D.lfrees ds
  | .dK _ ds => D.lfrees ds
  | .dT _ ds => D.lfrees ds
  | .lo os => O.lfrees os
  | .to os => O.lfrees os
  | .ins _ _ os => O.lfrees os
def O.lfrees : List O → Bool
  | [] => true
  | o :: os => o.lfree && O.lfrees os
end
/-- F' keeps F's tuples -/
def Tups (F F' : Hp) : Prop := ∀ a xs, F a = some (.tup xs) → F' a = some (.tup xs)
section
variable {K : PySem.W.Frag} {F F' H : Hp}
mutual
theorem Rep.lfree (t : Tups F F') : ∀ (d : D) {v : V}, Rep K F d v → d.lfree = true → Rep K F' d v
  | .non, _, h, _ => h
  | .bl _, _, h, _ => h
  | .int _, _, h, _ => h
  | .str _, _, h, _ => h
  | .ty _, _, h, _ => h
  | .ref _, _, h, _ => h
  | .tup ds, _, h, q => by
    simp only [Rep] at h ⊢
    obtain ⟨a, vs, h1, h2, h3⟩ := h
    exact ⟨a, vs, h1, t _ _ h2, Reps.lfree t ds h3 (by simpa [D.lfree] using q)⟩
  | .ctp ds, _, h, q => by
    simp only [Rep] at h ⊢
    obtain ⟨a, vs, h1, h2, h3⟩ := h
    exact ⟨a, vs, h1, h2, Reps.lfree t ds h3 (by simpa [D.lfree] using q)⟩
  | .exn _ _ _, _, _, q => by simp [D.lfree] at q
  | .lst ds, _, _, q => by simp [D.lfree] at q
  | .rol ds, _, _, q => by simp [D.lfree] at q
  | .dct ks ds, _, _, q => by simp [D.lfree] at q
  | .ins C ns ds, _, _, q => by simp [D.lfree] at q
theorem Reps.lfree (t : Tups F F') : ∀ (ds : List D) {vs : List V}, Reps K F ds vs → D.lfrees ds = true → Reps K F' ds vs
  | [], _, h, _ => h
  | d :: ds, _, h, q => by
    simp only [Reps] at h ⊢
    obtain ⟨v, r, h1, h2, h3⟩ := h
    simp only [D.lfrees, Bool.and_eq_true] at q
    exact ⟨v, r, h1, Rep.lfree t d h2 q.1, Reps.lfree t ds h3 q.2⟩
end
mutual
theorem Own.lfree (t : Tups F F') : ∀ (o : O) {v : V} {B : List Addr}, Own K F H o v B → o.lfree = true → Own K F' H o v B
  | .val d, _, _, h, q => by
    simp only [Own] at h ⊢
    exact ⟨h.1, Rep.lfree t d h.2 (by simpa [O.lfree] using q)⟩
  | .lst ds, _, _, h, q => by
    simp only [Own] at h ⊢
    obtain ⟨a, vs, h1, h2, h3, h4⟩ := h
    exact ⟨a, vs, h1, h2, h3, Reps.lfree t ds h4 (by simpa [O.lfree] using q)⟩
  | .dK ks ds, _, _, h, q => by
    simp only [Own] at h ⊢
    obtain ⟨a, vs, h1, h2, h3, h5, h4⟩ := h
    exact ⟨a, vs, h1, h2, h3, h5, Reps.lfree t ds h4 (by simpa [O.lfree] using q)⟩
  | .dT ks ds, _, _, h, q => by
    simp only [Own] at h ⊢
    obtain ⟨a, vs, h1, h2, h3, h5, h4⟩ := h
    exact ⟨a, vs, h1, h2, h3, h5, Reps.lfree t ds h4 (by simpa [O.lfree] using q)⟩
  | .lo os, _, _, h, q => by
    simp only [Own] at h ⊢
    obtain ⟨a, vs, B', h1, h2, h3, h4⟩ := h
    exact ⟨a, vs, B', h1, h2, h3, Owns.lfree t os h4 (by simpa [O.lfree] using q)⟩
  | .to os, _, _, h, q => by
    simp only [Own] at h ⊢
    obtain ⟨a, vs, B', h1, h2, h3, h4⟩ := h
    exact ⟨a, vs, B', h1, h2, h3, Owns.lfree t os h4 (by simpa [O.lfree] using q)⟩
  | .ins C ns os, _, _, h, q => by
    simp only [Own] at h ⊢
    obtain ⟨a, dx, vs, B', h1, h2, h3, h5, h4⟩ := h
    exact ⟨a, dx, vs, B', h1, h2, h3, h5, Owns.lfree t os h4 (by simpa [O.lfree] using q)⟩
theorem Owns.lfree (t : Tups F F') : ∀ (os : List O) {vs : List V} {B : List Addr}, Owns K F H os vs B → O.lfrees os = true → Owns K F' H os vs B
  | [], _, _, h, _ => h
  | o :: os, _, _, h, q => by
    simp only [Owns] at h ⊢
    obtain ⟨v, r, B1, B2, h1, h2, h3, h4⟩ := h
    simp only [O.lfrees, Bool.and_eq_true] at q
    exact ⟨v, r, B1, B2, h1, h2, Own.lfree t o h3 q.1, Owns.lfree t os h4 q.2⟩
end
end
/-- an owned node is no tuple -/
def NoTup (o : Option HO) : Prop := ∀ xs, o ≠ some (.tup xs) ∧ ∀ ob, o ≠ some (.frz ob (.tup xs))
section
variable {K : PySem.W.Frag} {F H : Hp}
mutual
theorem Own.noTup : ∀ (o : O) {v : V} {B : List Addr}, o.frz.isSome = true → Own K F H o v B → ∀ b ∈ B, NoTup (H b)
  | .val d, _, _, _, h, b, hb => by
    simp only [Own] at h
    rw [h.1] at hb; cases hb
  | .lst ds, _, _, _, h, b, hb => by
    simp only [Own] at h
    obtain ⟨a, vs, _, rfl, e, _⟩ := h
    simp only [List.mem_singleton] at hb; subst hb
    rw [e]; intro xs; exact ⟨(fun z => by cases z), fun ob z => by cases z⟩
  | .dK ks ds, _, _, _, h, b, hb => by
    simp only [Own] at h
    obtain ⟨a, vs, _, rfl, e, _⟩ := h
    simp only [List.mem_singleton] at hb; subst hb
    rw [e]; intro xs; exact ⟨(fun z => by cases z), fun ob z => by cases z⟩
  | .dT ks ds, _, _, _, h, b, hb => by
    simp only [Own] at h
    obtain ⟨a, vs, _, rfl, e, _⟩ := h
    simp only [List.mem_singleton] at hb; subst hb
    rw [e]; intro xs; exact ⟨(fun z => by cases z), fun ob z => by cases z⟩
  | .lo os, _, _, hf, h, b, hb => by
    simp only [Own] at h
    obtain ⟨a, vs, B', _, rfl, e, q⟩ := h
    rcases List.mem_cons.mp hb with rfl | hb
    · rw [e]; intro xs; exact ⟨(fun z => by cases z), fun ob z => by cases z⟩
    · refine Owns.noTup os ?_ q b hb
      cases hs : O.frzs os with
      | some ds => rfl
      | none => simp only [O.frz, hs] at hf; cases hf
  | .ins C ns os, _, _, hf, h, b, hb => by
    simp only [Own] at h
    obtain ⟨a, dx, vs, B', _, rfl, e, _, q⟩ := h
    rcases List.mem_cons.mp hb with rfl | hb
    · rw [e]; intro xs; exact ⟨(fun z => by cases z), fun ob z => by cases z⟩
    · refine Owns.noTup os ?_ q b hb
      cases hs : O.frzs os with
      | some ds => rfl
      | none => simp only [O.frz, hs] at hf; cases hf
  | .to os, _, _, hf, _, _, _ => by simp only [O.frz] at hf; cases hf
theorem Owns.noTup : ∀ (os : List O) {vs : List V} {B : List Addr}, (O.frzs os).isSome = true → Owns K F H os vs B → ∀ b ∈ B, NoTup (H b)
  | [], _, _, _, h, b, hb => by
    simp only [Owns] at h
    rw [h.2] at hb; cases hb
  | o :: os, _, _, hf, h, b, hb => by
    simp only [Owns] at h
    obtain ⟨v, r, B1, B2, _, rfl, h1, h2⟩ := h
    have hf2 : o.frz.isSome = true ∧ (O.frzs os).isSome = true := by
      cases h3 : o.frz <;> cases h4 : O.frzs os <;> simp only [O.frzs, h3, h4] at hf <;> first | exact ⟨rfl, rfl⟩ | cases hf
    rcases List.mem_append.mp hb with hb | hb
    · exact Own.noTup o hf2.1 h1 b hb
    · exact Owns.noTup os hf2.2 h2 b hb
end
end
/-- what a slot holds can be frozen -/
def Slot.fz : Slot → Bool
  | .un => true
  | .own o => o.frz.isSome
  | .pin o => o.frz.isSome
theorem SlotOk.noTup {K : PySem.W.Frag} {F H : Hp} {s : Slot} {x p : Option V} {B : List Addr} (hf : s.fz = true) (h : SlotOk K F H s x p B) : ∀ b ∈ B, NoTup (H b) := by
  cases s with
  | un => intro b hb; rw [show B = [] from h] at hb; cases hb
  | own o => obtain ⟨v, h1, h2⟩ := h; exact Own.noTup o hf h2
  | pin o => obtain ⟨v, h1, h0, h2⟩ := h; exact Own.noTup o hf h2

/-! ### calls of defs -/
/-- what a def does: with its arguments, the value and the arguments behind it -/
inductive RF where
  | bad | ok (o : O) (os : List O) | exc (c : Exc) (os : List O)
abbrev pvOf (vs : List V) : Nat → Option V := fun i => vs[i]?
def spD (K : PySem.W.Frag) (mg : Str → Option Value) (n : Nat) (g : List O → RF) : Sp := fun vs H Q E => vs.length = n ∧ ∃ os F A, WS K (pvOf vs) (os.map Slot.pin) (vs.map some) F H A ∧
  match g os with
  | .bad => False
  | .ok o os' => ∀ v F' H' A' B, Step F H (UA A) F' H' (fun a => UA A' a ∨ a ∈ B) → RS K (pvOf vs) (os'.map Slot.pin) (vs.map some) (.own o) v F' H' A' B → Q v H'
  | .exc c os' => ∀ F' H' A', Step F H (UA A) F' H' (UA A') → WS K (pvOf vs) (os'.map Slot.pin) (vs.map some) F' H' A' → exW mg (fun c d _ H => E c d H) c [] H'
inductive Mode where
  | v | io
  deriving DecidableEq
def O.toR : O → R
  | .val d => .val d
  | o => .own o
def argO (env : DEnv) : Mode → R → Option O
  | _, .val d => some (.val d)
  | .v, .own o => o.frz.map .val
  | .v, .bor i => ((env[i]?.bind Slot.o).bind O.frz).map .val
  | .io, .own _ => none
  | .io, .bor i => env[i]?.bind Slot.o
def argOs (env : DEnv) : List Mode → List R → Option (List O)
  | [], [] => some []
  | m :: ms, r :: rs => match argO env m r, argOs env ms rs with
    | some o, some os => some (o :: os)
    | _, _ => none
  | _, _ => none
/-- the slots that are lent for reading; for writing -/
def tmps : List Mode → List R → List Nat
  | .v :: ms, .bor i :: rs => i :: tmps ms rs
  | _ :: ms, _ :: rs => tmps ms rs
  | _, _ => []
def ios : List Mode → List R → List Nat
  | .io :: ms, .bor i :: rs => i :: ios ms rs
  | _ :: ms, _ :: rs => ios ms rs
  | _, _ => []
def Slot.put : Slot → O → Slot
  | .un, _ => .un
  | .own _, o => .own o
  | .pin _, o => .pin o
def putO (env : DEnv) (i : Nat) (o : O) : DEnv := match env[i]? with
  | some s => env.set i (s.put o)
  | none => env
def back : List Mode → List R → List O → DEnv → DEnv
  | .io :: ms, .bor i :: rs, o :: os, env => back ms rs os (putO env i o)
  | _ :: ms, _ :: rs, _ :: os, env => back ms rs os env
  | _, _, _, env => env
def chk (ms : List Mode) (rs : List R) : Bool := decide (ios ms rs).Nodup && (ios ms rs).all fun i => !(tmps ms rs).contains i
/-- what is handed back holds no lists -/
def iofree : List Mode → List R → List O → Bool
  | .io :: ms, .bor _ :: rs, o :: os => o.lfree && iofree ms rs os
  | _ :: ms, _ :: rs, _ :: os => iofree ms rs os
  | _, _, _ => true
def finCall (g : List O → RF) (ms : List Mode) (rs : List R) (env : DEnv) : Res R :=
  match argOs env ms rs with
  | none => .bad
  | some os => if chk ms rs = true then (match g os with
    | .bad => .bad
    | .ok o os' => if (tmps ms rs).isEmpty = true ∨ (o.lfree = true ∧ iofree ms rs os' = true) then .ok o.toR (back ms rs os' env) else .bad
    | .exc c os' => if (tmps ms rs).isEmpty = true ∨ iofree ms rs os' = true then .exc c (back ms rs os' env) else .bad) else .bad
def dCall (g : List O → RF) (ms : List Mode) (fs : M (List R)) : M R := fun env => (fs env).bind fun rs e1 => finCall g ms rs e1
end DL
end
section
set_option maxRecDepth 100000
set_option maxHeartbeats 4000000
namespace DL
open PySem PySem.Spec PyProof.Rows L2
variable [tb : Tb]
def ioAt : List Mode → List R → Nat → Option Nat
  | .io :: _, .bor i :: _, 0 => some i
  | _ :: _, _ :: _, 0 => none
  | _ :: ms, _ :: rs, j + 1 => ioAt ms rs j
  | _, _, _ => none
theorem iofree_at : ∀ {ms : List Mode} {rs : List R} {os : List O} {j i : Nat} {o : O}, ioAt ms rs j = some i → os[j]? = some o → iofree ms rs os = true → o.lfree = true
  | [], _, _, _, _, _, h, _, _ => by simp [ioAt] at h
  | _ :: _, [], _, _, _, _, h, _, _ => by simp [ioAt] at h
  | _ :: _, _ :: _, [], _, _, _, _, h, _ => by simp at h
  | m :: ms, r :: rs, p :: os, 0, i, o, h1, h2, h3 => by
    cases m <;> cases r <;> simp [ioAt] at h1
    simp only [List.getElem?_cons_zero, Option.some.injEq] at h2
    subst h2
    simp only [iofree, Bool.and_eq_true] at h3
    exact h3.1
  | m :: ms, r :: rs, p :: os, j + 1, i, o, h1, h2, h3 => by
    have h2' : os[j]? = some o := by simpa using h2
    refine iofree_at (ms := ms) (rs := rs) (os := os) (j := j) (i := i) ?_ h2' ?_
    · cases m <;> cases r <;> simpa [ioAt] using h1
    · cases m <;> cases r <;> simp only [iofree, Bool.and_eq_true] at h3 <;> first | exact h3 | exact h3.2
theorem ioAt_mem : ∀ {ms : List Mode} {rs : List R} {j i : Nat}, ioAt ms rs j = some i → i ∈ ios ms rs
  | [], _, _, _, h => by simp [ioAt] at h
  | _ :: _, [], _, _, h => by simp [ioAt] at h
  | m :: ms, r :: rs, 0, i, h => by
    cases m <;> cases r <;> simp [ioAt] at h
    subst h
    simp [ios]
  | m :: ms, r :: rs, j + 1, i, h => by
    have h' : ioAt ms rs j = some i := by cases m <;> cases r <;> simpa [ioAt] using h
    have ih := ioAt_mem h'
    cases m <;> cases r <;> simp [ios, ih]
theorem ioAt_inj : ∀ {ms : List Mode} {rs : List R} {j j' i : Nat}, (ios ms rs).Nodup → ioAt ms rs j = some i → ioAt ms rs j' = some i → j = j'
  | [], _, _, _, _, _, h, _ => by simp [ioAt] at h
  | _ :: _, [], _, _, _, _, h, _ => by simp [ioAt] at h
  | m :: ms, r :: rs, 0, 0, i, _, _, _ => rfl
  | m :: ms, r :: rs, 0, j' + 1, i, nd, h, h' => by
    cases m <;> cases r <;> simp [ioAt] at h
    have h2 : ioAt ms rs j' = some i := by simpa [ioAt] using h'
    subst h
    simp only [ios, List.nodup_cons] at nd
    exact absurd (ioAt_mem h2) nd.1
  | m :: ms, r :: rs, j + 1, 0, i, nd, h', h => by
    cases m <;> cases r <;> simp [ioAt] at h
    have h2 : ioAt ms rs j = some i := by simpa [ioAt] using h'
    subst h
    simp only [ios, List.nodup_cons] at nd
    exact absurd (ioAt_mem h2) nd.1
  | m :: ms, r :: rs, j + 1, j' + 1, i, nd, h, h' => by
    have e1 : ioAt ms rs j = some i := by cases m <;> cases r <;> simpa [ioAt] using h
    have e2 : ioAt ms rs j' = some i := by cases m <;> cases r <;> simpa [ioAt] using h'
    have nd' : (ios ms rs).Nodup := by
      cases m <;> cases r <;> simp [ios] at nd ⊢ <;> first | exact nd | exact nd.2
    rw [ioAt_inj nd' e1 e2]
theorem ioAt_of_mem : ∀ {ms : List Mode} {rs : List R} {i : Nat}, i ∈ ios ms rs → ∃ j, ioAt ms rs j = some i
  | [], _, _, h => by simp [ios] at h
  | _ :: _, [], _, h => by rename_i m ms i; cases m <;> simp [ios] at h
  | m :: ms, r :: rs, i, h => by
    have rec' : i ∈ ios ms rs → ∃ j, ioAt (m :: ms) (r :: rs) j = some i := fun h => by
      obtain ⟨j, hj⟩ := ioAt_of_mem h
      exact ⟨j + 1, by cases m <;> cases r <;> simpa [ioAt] using hj⟩
    cases m <;> cases r <;> simp only [ios, List.mem_cons] at h <;> first | exact rec' h | skip
    rcases h with rfl | h
    · exact ⟨0, rfl⟩
    · exact rec' h
theorem putO_len {env : DEnv} {i : Nat} {o : O} : (putO env i o).length = env.length := by
  unfold putO
  split <;> simp
theorem putO_get {env : DEnv} {i j : Nat} {o : O} : (putO env i o)[j]? = if j = i then (env[j]?).map (·.put o) else env[j]? := by
  unfold putO
  split
  · rename_i s hs
    by_cases e : j = i
    · subst e
      have hl : j < env.length := (List.getElem?_eq_some_iff.mp hs).1
      rw [if_pos rfl, List.getElem?_set_self hl, hs]; rfl
    · rw [if_neg e, List.getElem?_set_ne (Ne.symm e)]
  · rename_i hs
    by_cases e : j = i
    · subst e; rw [if_pos rfl, hs]; rfl
    · rw [if_neg e]
theorem back_len : ∀ {ms : List Mode} {rs : List R} {os : List O} {env : DEnv}, (back ms rs os env).length = env.length
  | [], _, _, _ => by simp [back]
  | _ :: _, [], _, _ => by simp [back]
  | _ :: _, _ :: _, [], _ => by simp [back]
  | m :: ms, r :: rs, o :: os, env => by
    cases m <;> cases r <;> simp only [back, back_len, putO_len]
theorem back_out : ∀ {ms : List Mode} {rs : List R} {os : List O} {env : DEnv} {i : Nat}, i ∉ ios ms rs → (back ms rs os env)[i]? = env[i]?
  | [], _, _, _, _, _ => by simp [back]
  | _ :: _, [], _, _, _, _ => by simp [back]
  | _ :: _, _ :: _, [], _, _, _ => by simp [back]
  | m :: ms, r :: rs, o :: os, env, i, h => by
    cases m <;> cases r <;> simp only [back, ios, List.mem_cons, not_or] at h ⊢ <;> first | exact back_out h | skip
    rw [back_out h.2, putO_get, if_neg h.1]
theorem back_in : ∀ {ms : List Mode} {rs : List R} {os : List O} {env : DEnv} {i j : Nat} {o : O}, (ios ms rs).Nodup → ioAt ms rs j = some i → os[j]? = some o → (back ms rs os env)[i]? = (env[i]?).map (·.put o)
  | [], _, _, _, _, _, _, _, h, _ => by simp [ioAt] at h
  | _ :: _, [], _, _, _, _, _, _, h, _ => by simp [ioAt] at h
  | _ :: _, _ :: _, [], _, _, _, _, _, _, h => by simp at h
  | m :: ms, r :: rs, p :: os, env, i, 0, o, nd, h, ho => by
    cases m <;> cases r <;> simp [ioAt] at h
    subst h
    simp at ho; subst ho
    simp only [ios, List.nodup_cons] at nd
    simp only [back]
    rw [back_out nd.1, putO_get, if_pos rfl]
  | m :: ms, r :: rs, p :: os, env, i, j + 1, o, nd, h, ho => by
    have h' : ioAt ms rs j = some i := by cases m <;> cases r <;> simpa [ioAt] using h
    have ho' : os[j]? = some o := by simpa using ho
    cases m <;> cases r <;> simp only [back, ios, List.nodup_cons] at nd ⊢ <;> first | exact back_in nd h' ho' | skip
    rename_i k
    rw [back_in nd.2 h' ho', putO_get, if_neg]
    rintro rfl
    exact nd.1 (ioAt_mem h')

theorem Own.mkVal {K : PySem.W.Frag} {F H : Hp} {d : D} {v : V} (h : Rep K F d v) : Own K F H (.val d) v [] := by
  unfold Own
  exact ⟨rfl, h⟩
section
variable {K : PySem.W.Frag} {pv : Nat → Option V} {env : DEnv} {σ : L2.St} {F H G : Hp} {A : Nat → List Addr}
/-- the arguments' owned parts -/
def aAt (A : Nat → List Addr) (ms : List Mode) (rs : List R) (j : Nat) : List Addr := match ioAt ms rs j with
  | some i => A i
  | none => []
theorem aAt_succ {m : Mode} {ms : List Mode} {r : R} {rs : List R} {j : Nat} : aAt A (m :: ms) (r :: rs) (j + 1) = aAt A ms rs j := by
  unfold aAt
  cases m <;> cases r <;> rfl
theorem argO_rel (ws : WS K pv env σ F H A) (s : Same F G) {m : Mode} {r : R} {v : V} {B : List Addr} {o : O} (rr : RRep K env σ F H r v B) (e : argO env m r = some o)
    (ht : ∀ i, m = .v → r = .bor i → ∀ a ∈ A i, G a = H a) (hB : ∀ a ∈ B, G a = H a) : Own K G H o v (aAt A [m] [r] 0) := by
  cases r with
  | val d =>
    have e' : o = .val d := by cases m <;> (simp [argO] at e; exact e.symm)
    subst e'
    have hz : aAt A [m] [.val d] 0 = [] := by cases m <;> rfl
    rw [hz]
    exact Own.mkVal (Rep.same s d rr.2)
  | own o' =>
    cases m with
    | io => simp [argO] at e
    | v =>
      simp only [argO, Option.map_eq_some_iff] at e
      obtain ⟨d, h1, rfl⟩ := e
      show Own K G H (.val d) v []
      exact Own.mkVal (Own.frz s o' rr hB h1)
  | bor i =>
    cases m with
    | io =>
      simp only [argO] at e
      show Own K G H o v (A i)
      exact Own.stay s o (ws.at e rr.2) fun _ _ _ z => z
    | v =>
      simp only [argO, Option.map_eq_some_iff] at e
      obtain ⟨d, h1, rfl⟩ := e
      obtain ⟨o', h2, h3⟩ := Option.bind_eq_some_iff.mp h1
      show Own K G H (.val d) v []
      exact Own.mkVal (Own.frz s o' (ws.at h2 rr.2) (ht i rfl rfl) h3)
theorem args_rel (ws : WS K pv env σ F H A) (s : Same F G) : ∀ {ms : List Mode} {rs : List R} {vs : List V} {B : List Addr} {os : List O}, RReps K env σ F H rs vs B → argOs env ms rs = some os →
    (∀ i ∈ tmps ms rs, ∀ a ∈ A i, G a = H a) → (∀ a ∈ B, G a = H a) → os.length = vs.length ∧ ∀ (j : Nat) (o : O) (v : V), os[j]? = some o → vs[j]? = some v → Own K G H o v (aAt A ms rs j)
  | [], [], _, _, os, rr, e, _, _ => by
    simp only [argOs] at e; cases e
    obtain ⟨rfl, _⟩ := rr
    exact ⟨rfl, fun j o v h => by simp at h⟩
  | [], _ :: _, _, _, _, _, e, _, _ => by simp [argOs] at e
  | m :: ms, [], _, _, _, _, e, _, _ => by simp [argOs] at e
  | m :: ms, r :: rs, _, _, os, rr, e, ht, hB => by
    simp only [argOs] at e
    split at e
    · rename_i o os' h1 h2
      cases e
      obtain ⟨v, t, B1, B2, rfl, rfl, r1, r2⟩ := rr
      have ht2 : ∀ i ∈ tmps ms rs, ∀ a ∈ A i, G a = H a := fun i hi => ht i (by cases m <;> cases r <;> simp [tmps, hi])
      obtain ⟨l, q⟩ := args_rel ws s r2 h2 ht2 fun a ha => hB a (List.mem_append_right _ ha)
      refine ⟨by simp [l], fun j o' v' e1 e2 => ?_⟩
      cases j with
      | zero =>
        simp at e1 e2
        subst e1 e2
        have := argO_rel ws s r1 h1 (fun i e e' => ht i (by rw [e, e']; simp [tmps])) fun a ha => hB a (List.mem_append_left _ ha)
        have hz : aAt A (m :: ms) (r :: rs) 0 = aAt A [m] [r] 0 := by cases m <;> cases r <;> rfl
        rw [hz]; exact this
      | succ j =>
        rw [aAt_succ]
        exact q j o' v' (by simpa using e1) (by simpa using e2)
    · cases e
theorem rr_at : ∀ {ms : List Mode} {rs : List R} {vs : List V} {B : List Addr} {j i : Nat}, RReps K env σ F H rs vs B → ioAt ms rs j = some i → ∃ v, vs[j]? = some v ∧ σ[i]? = some (some v)
  | [], _, _, _, _, _, _, h => by simp [ioAt] at h
  | _ :: _, [], _, _, _, _, _, h => by simp [ioAt] at h
  | m :: ms, r :: rs, _, _, 0, i, rr, h => by
    cases m <;> cases r <;> simp [ioAt] at h
    subst h
    obtain ⟨v, t, B1, B2, rfl, rfl, r1, r2⟩ := rr
    exact ⟨v, rfl, r1.2⟩
  | m :: ms, r :: rs, _, _, j + 1, i, rr, h => by
    have h' : ioAt ms rs j = some i := by cases m <;> cases r <;> simpa [ioAt] using h
    obtain ⟨v, t, B1, B2, rfl, rfl, r1, r2⟩ := rr
    obtain ⟨w, q1, q2⟩ := rr_at r2 h'
    exact ⟨w, by simpa using q1, q2⟩
end
end DL
end
section
set_option maxRecDepth 100000
set_option maxHeartbeats 4000000
namespace DL
open PySem PySem.Spec PyProof.Rows L2
variable [tb : Tb]
theorem RReps.len {K : PySem.W.Frag} {env : DEnv} {σ : L2.St} {F H : Hp} : ∀ {rs : List R} {vs : List V} {B : List Addr}, RReps K env σ F H rs vs B → vs.length = rs.length
  | [], _, _, h => by rw [h.1]; rfl
  | r :: rs, _, _, h => by
    obtain ⟨v, t, B1, B2, rfl, rfl, _, q⟩ := h
    simp [RReps.len q]
theorem argOs_len {env : DEnv} : ∀ {ms : List Mode} {rs : List R} {os : List O}, argOs env ms rs = some os → ms.length = rs.length
  | [], [], _, _ => rfl
  | [], _ :: _, _, h => by simp [argOs] at h
  | _ :: _, [], _, h => by simp [argOs] at h
  | m :: ms, r :: rs, _, h => by
    simp only [argOs] at h
    split at h
    · rename_i h1 h2
      simp [argOs_len h2]
    · cases h
theorem pin_get {os : List O} {i : Nat} : (os.map Slot.pin)[i]?.getD .un = match os[i]? with
    | some o => .pin o
    | none => .un := by
  rw [List.getElem?_map]
  cases os[i]? <;> rfl
theorem some_get {vs : List V} {i : Nat} : (vs.map some)[i]?.getD none = vs[i]? := by
  rw [List.getElem?_map]
  cases vs[i]? <;> rfl
section
variable {K : PySem.W.Frag} {mg : Str → Option Value} {pv : Nat → Option V} {env : DEnv} {σ : L2.St} {F H : Hp} {A : Nat → List Addr} {B : List Addr} {rs : List R} {vs : List V} {ms : List Mode} {os : List O}
theorem rrs_nd {K : PySem.W.Frag} {env : DEnv} {σ : L2.St} {F H : Hp} : ∀ {rs : List R} {vs : List V} {B : List Addr}, RReps K env σ F H rs vs B → ∀ b ∈ B, Nd (H b)
  | [], _, _, h, b, hb => by rw [h.2] at hb; cases hb
  | r :: rs, _, _, h, b, hb => by
    obtain ⟨v, t, B1, B2, rfl, rfl, h1, h2⟩ := h
    rcases List.mem_append.mp hb with hb | hb
    · exact h1.nd b hb
    · exact rrs_nd h2 b hb
/-- lent parts -/
def Lent (A : Nat → List Addr) (ms : List Mode) (rs : List R) : Addr → Prop := fun a => ∃ i ∈ tmps ms rs, a ∈ A i
theorem chk_nd (h : chk ms rs = true) : (ios ms rs).Nodup := by
  unfold chk at h
  simp only [Bool.and_eq_true, decide_eq_true_eq] at h
  exact h.1
theorem chk_dj (h : chk ms rs = true) {i : Nat} (hi : i ∈ ios ms rs) : i ∉ tmps ms rs := by
  unfold chk at h
  simp only [Bool.and_eq_true, decide_eq_true_eq, List.all_eq_true] at h
  have := h.2 i hi
  simpa using this
theorem ext_tb (rss : RSs K pv env σ rs vs F H A B) : ∀ a, ext F H (fun a => Lent A ms rs a ∨ a ∈ B) a ≠ none → F a ≠ none ∨ (∀ ps, H a ≠ some (.tbl ps)) := fun a h => by
  by_cases z : Lent A ms rs a ∨ a ∈ B
  · refine .inr ?_
    rcases z with ⟨i, _, z⟩ | z
    · exact (rss.ws.ndU ⟨i, z⟩).noT
    · exact (rrs_nd rss.rr a z).noT
  · rw [ext_out z] at h
    exact .inl h
/-- the callee's state -/
theorem call_in (rss : RSs K pv env σ rs vs F H A B) (e : argOs env ms rs = some os) (ck : chk ms rs = true) :
    WS K (pvOf vs) (os.map Slot.pin) (vs.map some) (ext F H fun a => Lent A ms rs a ∨ a ∈ B) H (aAt A ms rs) := by
  have ws := rss.ws
  have sG : Same F (ext F H fun a => Lent A ms rs a ∨ a ∈ B) := ext_same ws.sub
  obtain ⟨l, q⟩ := args_rel ws sG rss.rr e (fun i hi a ha => ext_in (.inl ⟨i, hi, ha⟩)) (fun a ha => ext_in (.inr ha))
  have no : ∀ j, os[j]? = none → aAt A ms rs j = [] := fun j hj => by
    unfold aAt
    cases h : ioAt ms rs j with
    | none => rfl
    | some i =>
      obtain ⟨v, h1, _⟩ := rr_at rss.rr h
      have h2 := (List.getElem?_eq_some_iff.mp h1).1
      have h3 := List.getElem?_eq_none_iff.mp hj
      omega
  refine ⟨by simp [l], fun j => ?_, fun j => ?_, fun j j' a ha ha' => ?_, fun j a ha => ?_, ext_sub ws.sub, ws.tbs.frz (ext_tb rss)⟩
  · rw [pin_get, some_get]
    cases ho : os[j]? with
    | none => exact no j ho
    | some o =>
      have hj : j < vs.length := by rw [← l]; exact (List.getElem?_eq_some_iff.mp ho).1
      have hv : vs[j]? = some vs[j] := List.getElem?_eq_getElem hj
      exact ⟨vs[j], hv, hv, q j o _ ho hv⟩
  · unfold aAt
    split
    · exact ws.nd _
    · exact List.nodup_nil
  · unfold aAt at ha ha'
    split at ha
    · rename_i i hi
      split at ha'
      · rename_i i' hi'
        have e := ws.dj i i' a ha ha'
        subst e
        exact ioAt_inj (chk_nd ck) hi hi'
      · cases ha'
    · cases ha
  · unfold aAt at ha
    split at ha
    · rename_i i hi
      rw [ext_out]
      · exact ws.dis i a ha
      · rintro (⟨i', h1, h2⟩ | h)
        · have e := ws.dj i i' a ha h2
          subst e
          exact chk_dj ck (ioAt_mem hi) h1
        · exact rss.dj a h ⟨i, ha⟩
    · cases ha
/-- without what was lent -/
noncomputable def cut (F : Hp) (T : Addr → Prop) : Hp := fun a => open Classical in if T a then none else F a
theorem cut_in {T : Addr → Prop} {a : Addr} (h : T a) : cut F T a = none := by unfold cut; rw [if_pos h]
theorem cut_out {T : Addr → Prop} {a : Addr} (h : ¬ T a) : cut F T a = F a := by unfold cut; rw [if_neg h]
theorem cut_some {T : Addr → Prop} {a : Addr} {o : HO} (h : cut F T a = some o) : F a = some o ∧ ¬ T a := by
  by_cases t : T a
  · rw [cut_in t] at h; cases h
  · rw [cut_out t] at h; exact ⟨h, t⟩
noncomputable def bAt (A A' : Nat → List Addr) (ms : List Mode) (rs : List R) : Nat → List Addr := fun i => open Classical in if h : ∃ j, ioAt ms rs j = some i then A' h.choose else A i
theorem tmps_fz {env : DEnv} : ∀ {ms : List Mode} {rs : List R} {os : List O} {i : Nat}, argOs env ms rs = some os → i ∈ tmps ms rs → (env[i]?.getD .un).fz = true
  | [], _, _, _, _, h => by simp [tmps] at h
  | .v :: ms, [], _, _, _, h => by simp [tmps] at h
  | .io :: ms, [], _, _, _, h => by simp [tmps] at h
  | m :: ms, r :: rs, _, i, e, h => by
    simp only [argOs] at e
    split at e
    · rename_i o os h1 h2
      have ih := fun h => tmps_fz (i := i) h2 h
      cases m with
      | io => cases r <;> exact ih (by simpa [tmps] using h)
      | v =>
        cases r with
        | val d => exact ih (by simpa [tmps] using h)
        | own o => exact ih (by simpa [tmps] using h)
        | bor j =>
          simp only [tmps, List.mem_cons] at h
          rcases h with rfl | h
          · simp only [argO] at h1
            cases hs : env[i]? with
            | none => rfl
            | some s =>
              rw [hs] at h1
              cases s with
              | un => rfl
              | own o => 
                simp only [Option.bind, Slot.o] at h1
                show o.frz.isSome = true
                cases ho : o.frz with
                | none => rw [ho] at h1; cases h1
                | some d => rfl
              | pin o =>
                simp only [Option.bind, Slot.o] at h1
                show o.frz.isSome = true
                cases ho : o.frz with
                | none => rw [ho] at h1; cases h1
                | some d => rfl
          · exact ih h
    · cases e
/-- behind the call, in the caller's words: the arguments' part -/
theorem call_out (rss : RSs K pv env σ rs vs F H A B) (e : argOs env ms rs = some os) (ck : chk ms rs = true) {os' : List O} {F' H' : Hp} {A' : Nat → List Addr} {B' : List Addr}
    (st : Step (ext F H fun a => Lent A ms rs a ∨ a ∈ B) H (UA (aAt A ms rs)) F' H' (fun a => UA A' a ∨ a ∈ B'))
    (ws' : WS K (pvOf vs) (os'.map Slot.pin) (vs.map some) F' H' A') (lf : (tmps ms rs).isEmpty = true ∨ iofree ms rs os' = true) :
    ∃ A2, WS K pv (back ms rs os' env) σ (cut F' (Lent A ms rs)) H' A2 ∧ Step F H (fun a => UA A a ∨ a ∈ B) (cut F' (Lent A ms rs)) H' (fun a => UA A2 a ∨ a ∈ B') ∧
      Tups F' (cut F' (Lent A ms rs)) ∧ (∀ a, UA A2 a → UA A' a ∨ (UA A a ∧ ¬ UA (aAt A ms rs) a)) ∧ ((tmps ms rs).isEmpty = true → cut F' (Lent A ms rs) = F') := by
  have ws := rss.ws
  have wc := call_in rss e ck
  have nd := chk_nd ck
  -- what is lent
  have lentH : ∀ a, Lent A ms rs a → ∃ u, H a = some u ∧ F' a = some u ∧ H' a = some u := fun a ⟨i, h1, h2⟩ => by
    cases hu : H a with
    | none => exact absurd hu (ws.there ⟨i, h2⟩)
    | some u =>
      have hf : F' a = some u := st.fz _ _ (by rw [ext_in (.inl ⟨i, h1, h2⟩)]; exact hu)
      exact ⟨u, rfl, hf, ws'.sub _ _ hf⟩
  have tups : Tups F' (cut F' (Lent A ms rs)) := fun a xs h => by
    have nt : ¬ Lent A ms rs a := fun hl => by
      obtain ⟨u, h1, h2, _⟩ := lentH a hl
      obtain ⟨i, hi0, h3⟩ := hl
      have nz := (ws.slot i).noTup (tmps_fz e hi0) a h3
      rw [h1] at nz
      rw [h2] at h; cases h; exact (nz xs).1 rfl
    rw [cut_out nt]; exact h
  have cutE : (tmps ms rs).isEmpty = true → cut F' (Lent A ms rs) = F' := fun hz => by
    funext a
    refine cut_out fun ⟨i, h1, _⟩ => ?_
    rw [List.isEmpty_iff.mp hz] at h1; cases h1
  have sF : Same F (cut F' (Lent A ms rs)) := fun a o h => by
    rw [cut_out fun ⟨i, h1, h2⟩ => by rw [ws.dis i a h2] at h; cases h]
    exact st.fz _ _ (ext_same ws.sub a o h)
  have sub2 : Same (cut F' (Lent A ms rs)) H' := fun a o h => ws'.sub _ _ (cut_some h).1
  -- the arguments behind the call
  have at' : ∀ {j i : Nat}, ioAt ms rs j = some i → ∃ o v, os'[j]? = some o ∧ σ[i]? = some (some v) ∧ vs[j]? = some v ∧ Own K F' H' o v (A' j) := fun {j i} h => by
    obtain ⟨v, h1, h2⟩ := rr_at rss.rr h
    have hj : j < vs.length := (List.getElem?_eq_some_iff.mp h1).1
    have hl : os'.length = vs.length := by simpa using ws'.len
    have ho : os'[j]? = some (os'[j]'(by omega)) := List.getElem?_eq_getElem (by omega)
    have hs := ws'.slot j
    rw [pin_get, some_get, ho, h1] at hs
    obtain ⟨w, e1, _, e2⟩ := hs
    cases e1
    exact ⟨_, v, ho, h2, h1, e2⟩
  -- which argument stands in slot i
  have key : ∀ i, (∃ j, ioAt ms rs j = some i) ∨ i ∉ ios ms rs := fun i => by
    by_cases h : i ∈ ios ms rs
    · exact .inl (ioAt_of_mem h)
    · exact .inr h
  obtain ⟨A2, hA2⟩ : ∃ A2, A2 = bAt A A' ms rs := ⟨_, rfl⟩
  have A2in : ∀ {i j : Nat}, ioAt ms rs j = some i → A2 i = A' j := fun {i j} h => by
    have hx : ∃ j, ioAt ms rs j = some i := ⟨j, h⟩
    rw [hA2]
    unfold bAt
    rw [dif_pos hx, ioAt_inj nd hx.choose_spec h]
  have A2out : ∀ {i : Nat}, i ∉ ios ms rs → A2 i = A i := fun {i} h => by
    rw [hA2]
    unfold bAt
    rw [dif_neg fun ⟨j, hj⟩ => h (ioAt_mem hj)]
  have uin : ∀ {i : Nat}, i ∉ ios ms rs → ∀ a ∈ A i, ¬ UA (aAt A ms rs) a := fun {i} hi a ha ⟨j, hj⟩ => by
    unfold aAt at hj
    split at hj
    · rename_i i' hi'
      have e := ws.dj i i' a ha hj
      subst e
      exact hi (ioAt_mem hi')
    · cases hj
  have keepO : ∀ {i : Nat}, i ∉ ios ms rs → ∀ a ∈ A i, ∀ u, H a = some u → H' a = some u := fun {i} hi a ha u h => st.keep a u h (Nd.noTb (by rw [← h]; exact (ws.slot i).nd a ha)) (uin hi a ha)
  have A'from : ∀ {j : Nat} {a : Addr}, a ∈ A' j → (∃ i j', ioAt ms rs j' = some i ∧ a ∈ A i) ∨ H a = none := fun {j a} ha => by
    rcases st.own a (.inl ⟨j, ha⟩) with ⟨j', h⟩ | h
    · unfold aAt at h
      split at h
      · rename_i i hi
        exact .inl ⟨i, j', hi, h⟩
      · cases h
    · exact .inr h
  have tq : TbsOk F H → TbsOk (cut F' (Lent A ms rs)) H' := fun t => by
    have t2 := st.tabs (t.frz (ext_tb rss))
    exact ⟨t2.1, fun p hp => by
      by_cases z : Lent A ms rs p.1
      · exact cut_in z
      · rw [cut_out z]; exact t2.2 p hp⟩
  refine ⟨A2, ⟨by rw [back_len]; exact ws.len, fun i => ?_, fun i => ?_, fun i i' a ha ha' => ?_, fun i a ha => ?_, sub2, tq ws.tbs⟩, ⟨sF, fun a o h nt n => ?_, tq, fun a h => ?_, fun a h => ?_, fun a h => ?_⟩, tups, fun a ⟨i, h⟩ => ?_, cutE⟩
  · rcases key i with ⟨j, hj⟩ | hi
    · obtain ⟨o, v, h1, h2, h3, h4⟩ := at' hj
      rw [back_in nd hj h1, A2in hj]
      have own2 : Own K (cut F' (Lent A ms rs)) H' o v (A' j) := by
        rcases lf with lf | lf
        · rw [cutE lf]; exact h4
        · exact Own.lfree tups o h4 (iofree_at hj h1 lf)
      have hs := ws.slot i
      rw [h2] at hs ⊢
      cases es : env[i]? with
      | none =>
        exfalso
        have : i < env.length := by rw [ws.len]; exact (List.getElem?_eq_some_iff.mp h2).1
        rw [List.getElem?_eq_none_iff] at es
        omega
      | some s =>
        rw [es] at hs
        simp only [Option.map_some, Option.getD_some] at hs ⊢
        cases s with
        | un =>
          exfalso
          -- an argument's slot is set
          have hsome : ∃ o0, env[i]?.bind Slot.o = some o0 := by
            clear rss st ws' at' own2
            have : ∀ {ms : List Mode} {rs : List R} {os : List O} {j : Nat}, argOs env ms rs = some os → ioAt ms rs j = some i → ∃ o0, env[i]?.bind Slot.o = some o0 := by
              intro ms
              induction ms with
              | nil => intro rs os j _ h; simp [ioAt] at h
              | cons m ms ih =>
                intro rs os j h1 h2
                cases rs with
                | nil => simp [ioAt] at h2
                | cons r rs =>
                  simp only [argOs] at h1
                  split at h1
                  · rename_i o1 os1 q1 q2
                    cases j with
                    | zero =>
                      cases m <;> cases r <;> simp [ioAt] at h2
                      subst h2
                      exact ⟨o1, by simpa [argO] using q1⟩
                    | succ j =>
                      exact ih q2 (by cases m <;> cases r <;> simpa [ioAt] using h2)
                  · cases h1
            exact this e hj
          obtain ⟨o0, h0⟩ := hsome
          rw [es] at h0
          simp [Slot.o] at h0
        | own o0 =>
          obtain ⟨w, e1, _⟩ := hs
          cases e1
          exact ⟨v, rfl, own2⟩
        | pin o0 =>
          obtain ⟨w, e1, e2, _⟩ := hs
          cases e1
          exact ⟨v, rfl, e2, own2⟩
    · rw [back_out hi, A2out hi]
      exact (ws.slot i).stay sF (keepO hi)
  · rcases key i with ⟨j, hj⟩ | hi
    · rw [A2in hj]; exact ws'.nd j
    · rw [A2out hi]; exact ws.nd i
  · rcases key i with ⟨j, hj⟩ | hi
    · rw [A2in hj] at ha
      rcases key i' with ⟨j', hj'⟩ | hi'
      · rw [A2in hj'] at ha'
        have e := ws'.dj j j' a ha ha'
        subst e
        rw [hj] at hj'; cases hj'; rfl
      · rw [A2out hi'] at ha'
        exfalso
        rcases A'from ha with ⟨i2, j2, h1, h2⟩ | h
        · have e := ws.dj i' i2 a ha' h2
          subst e
          exact hi' (ioAt_mem h1)
        · exact ws.there ⟨i', ha'⟩ h
    · rw [A2out hi] at ha
      rcases key i' with ⟨j', hj'⟩ | hi'
      · rw [A2in hj'] at ha'
        exfalso
        rcases A'from ha' with ⟨i2, j2, h1, h2⟩ | h
        · have e := ws.dj i i2 a ha h2
          subst e
          exact hi (ioAt_mem h1)
        · exact ws.there ⟨i, ha⟩ h
      · rw [A2out hi'] at ha'
        exact ws.dj i i' a ha ha'
  · rcases key i with ⟨j, hj⟩ | hi
    · rw [A2in hj] at ha
      have z := ws'.dis j a ha
      by_cases t : Lent A ms rs a
      · exact cut_in t
      · rw [cut_out t]; exact z
    · rw [A2out hi] at ha
      by_cases t : Lent A ms rs a
      · exact cut_in t
      · rw [cut_out t]
        apply Classical.byContradiction
        intro z
        rcases st.new a z with h | h | h
        · rw [ext_out] at h
          · exact h (ws.dis i a ha)
          · rintro (h' | h')
            · exact t h'
            · exact rss.dj a h' ⟨i, ha⟩
        · exact ws.there ⟨i, ha⟩ h
        · exact uin hi a ha h
  · refine st.keep a o h nt fun ⟨j, hj⟩ => n ?_
    unfold aAt at hj
    split at hj
    · exact .inl ⟨_, hj⟩
    · cases hj
  · have h' : F' a ≠ none := fun z => by
      by_cases t : Lent A ms rs a
      · exact h (cut_in t)
      · rw [cut_out t] at h; exact h z
    rcases st.new a h' with z | z | ⟨j, hj⟩
    · by_cases t : Lent A ms rs a ∨ a ∈ B
      · rcases t with ⟨i, _, t⟩ | t
        · exact .inr (.inr (.inl ⟨i, t⟩))
        · exact .inr (.inr (.inr t))
      · rw [ext_out t] at z; exact .inl z
    · exact .inr (.inl z)
    · unfold aAt at hj
      split at hj
      · exact .inr (.inr (.inl ⟨_, hj⟩))
      · cases hj
  · exact st.dom a h
  · rcases h with ⟨i, h⟩ | h
    · rcases key i with ⟨j, hj⟩ | hi
      · rw [A2in hj] at h
        rcases A'from h with ⟨i2, j2, h1, h2⟩ | h
        · exact .inl (.inl ⟨i2, h2⟩)
        · exact .inr h
      · rw [A2out hi] at h
        exact .inl (.inl ⟨i, h⟩)
    · rcases st.own a (.inr h) with ⟨j, hj⟩ | z
      · unfold aAt at hj
        split at hj
        · exact .inl (.inl ⟨_, hj⟩)
        · cases hj
      · exact .inr z
  · rcases key i with ⟨j, hj⟩ | hi
    · rw [A2in hj] at h; exact .inl ⟨j, h⟩
    · rw [A2out hi] at h; exact .inr ⟨⟨i, h⟩, uin hi a h⟩
end
end DL
end
section
set_option maxRecDepth 100000
set_option maxHeartbeats 4000000
namespace DL
open PySem PySem.Spec PyProof.Rows L2
/-- a def's promise where no guard stands around (repr of containers wants it) -/
structure GFn (P : Program) (w : World) (K : PySem.W.Frag) (mg : Str → Option Value) (base : Heap) (C : CXT) (k : Nat) (f : Addr) (fd : FuncData) (ps : List Str) (sp : Sp) : Prop where
  ln : ∀ us H Q E, sp us H Q E → us.length = ps.length
  go : ∀ (A : Around) (out : List Env) (s : Shared) (H : Hp) (as : Args) (ws : List Value) (us : List V) (Q : VK) (E : XK), Room k A → A.guards = some [] → Env0 P w K mg base A out s H →
    BindsTo s fd as (ps.zip ws) → Vals us ws → sp us H Q E → codeAny (model P w) A (.call (.ref f) as) (CR C out P w H s Q E) s
theorem GFn.up {P : Program} {w : World} {K : PySem.W.Frag} {mg : Str → Option Value} {base : Heap} {C : CXT} {j k : Nat} {f : Addr} {fd : FuncData} {ps : List Str} {sp : Sp}
    (g : GFn P w K mg base C j f fd ps sp) (h : j ≤ k) : GFn P w K mg base C k f fd ps sp :=
  ⟨g.ln, fun A out s H as ws us Q E hr => g.go A out s H as ws us Q E (hr.mono h)⟩
theorem GFn.imp {P : Program} {w : World} {K : PySem.W.Frag} {mg : Str → Option Value} {base : Heap} {C : CXT} {k : Nat} {f : Addr} {fd : FuncData} {ps : List Str} {sp sp' : Sp}
    (g : GFn P w K mg base C k f fd ps sp) (h : ∀ us H Q E, sp' us H Q E → sp us H Q E) : GFn P w K mg base C k f fd ps sp' :=
  ⟨fun us H Q E q => g.ln us H Q E (h us H Q E q), fun A out s H as ws us Q E hr hg he hb hv q => g.go A out s H as ws us Q E hr hg he hb hv (h us H Q E q)⟩
section
variable {X : Cx} {C : CXT} {k : Nat} {f : Addr} {fd : FuncData} {ps : List Str} {sp : Sp} {E : L2.St → XK} {x : Str} {p pos : Pos} {e : Expr} {es : List Expr} {t : TA}
theorem run_g {pins : List (Addr × Obj)} {σ : L2.St} {H : Hp} {s : Shared} {Q : VK} {ws : List Value} {us : List V} (g : GFn X.prog X.w X.K X.mg X.base C k f fd ps sp) (hr : Room k X.A) (gd : X.A.guards = some [])
    (hb : Binds X.K fd ps []) (hx : PassesAt C X σ (E σ)) (I : Inv X pins σ H s) (r : Vals us ws) (h : sp us H Q (E σ)) :
    wpAny (model X.prog X.w) X.A (call (.ref f) ws) (EP X pins σ Q) X.xe s := by
  have hl : ws.length = ps.length := r.length.symm.trans (g.ln _ _ _ _ h)
  have bd := hb s ws I.kIn (by rw [List.append_nil]; exact hl)
  rw [List.append_nil] at bd
  refine wpAny_call (codeAny_mono (g.go X.A X.stack s H ⟨ws, []⟩ ws us Q (E σ) hr gd I.env0 bd r h) ?_)
  rintro (e | fl) s' q
  · exact hx pins H s e s' I q
  · cases fl <;> first | exact I.after q | exact False.elim q
theorem pe_g (g : GFn X.prog X.w X.K X.mg X.base C k f fd ps sp) (hr : Room k X.A) (gd : X.A.guards = some []) (hg : Gl X x) (hm : X.mg x = some (.ref f)) (hk : PySem.W.keepIn X.K (.ref f) = true) (hb : Binds X.K fd ps []) (hx : ∀ σ, PassesAt C X σ (E σ))
    (ha : PA X (e :: es) t) (hdb : (x == ("__debug__" : Str)) = false := by decide) (he : starEach (e :: es) X.env = (false, eval e X.env) :: starEach es X.env := by rfl) (hpl : (backTo pos (starEach es X.env)).any (·.1) = false := by rfl) :
    PE X (.Call (.Name x p) (e :: es) [] pos) (fun σ H Q => t σ H fun us H1 => sp us H1 Q (E σ)) := by
  constructor
  intro pins s σ H Q I h
  apply wpAny_Call_Name_kw
  refine ld_glob I hg hm (PySem.W.callWith_K (h₀ := X.base) I.ok.mod.kin hk ?_ he hpl) hdb
  refine thn (ha.run pos pins s σ H _ I h) ?_
  rintro ws s1 ⟨us, H1, I1, r, q⟩
  exact ⟨I1.kIn, run_g g hr gd hb (hx σ) I1 r q⟩
theorem pe_g0 (g : GFn X.prog X.w X.K X.mg X.base C k f fd ps sp) (hr : Room k X.A) (gd : X.A.guards = some []) (hg : Gl X x) (hm : X.mg x = some (.ref f)) (hk : PySem.W.keepIn X.K (.ref f) = true) (hb : Binds X.K fd ps []) (hx : ∀ σ, PassesAt C X σ (E σ))
    (hdb : (x == ("__debug__" : Str)) = false := by decide) : PE X (.Call (.Name x p) [] [] pos) (fun σ H Q => sp [] H Q (E σ)) := by
  constructor
  intro pins s σ H Q I h
  apply wpAny_Call_Name_kw
  exact ld_glob I hg hm (PySem.W.callWith_K0 I.kIn hk (run_g (ws := []) g hr gd hb (hx σ) I .nil h)) hdb
end
/-- the rule for a def of the text -/
theorem g_of {P : Program} {w : World} {K : PySem.W.Frag} {mg : Str → Option Value} {base : Heap} {x qual : Str} {st : Stmt} {f : Addr} {fd : FuncData} {N ps : List Str} {k : Nat} {sp : Sp} {C : CXT}
    (F : Fun K x qual st f fd) (S : FnScope N ps (defScope st)) (ln : ∀ us H Q E, sp us H Q E → us.length = ps.length)
    (body : ∀ (cdv : Value) (A : Around) (out : List Env) (s : Shared) (H : Hp) (us : List V) (Q : VK) (E : XK), fd.code = cdv → Room k (A.deeper (envOfC qual (defScope st) s.heap.objs.size f cdv)) → A.guards = some [] → sp us H Q E →
      ∃ t, PSs (cxOf C P w K mg base N qual (defScope st) f cdv A out s H E) (defBody st) t ∧ t { nx := fun _ H' => Q .non H', rt := Q } (L2.start N us) H) :
    GFn P w K mg base C (k + 1) f fd ps sp := by
  obtain ⟨oc, od, kV, doc, pm, an, cdv, ct, osl, rfl, lk, hcd⟩ := F.ex
  constructor
  · exact ln
  intro A out s H as ws us Q E hr hgd e0 hb r hsp
  have hl := ln _ _ _ _ hsp
  have inH : K.In s.heap := e0.mod.kin.keeps fun b o q => (e0.bs b o q).1
  have nolim : s.heap.NoLimit := e0.mod.nolimit.keeps fun b o q => (e0.bs b o q).1
  have kinds : ∀ y ∈ ps.zip ws, (defScope st).names.lookup y.1 = some .local ∨ ((defScope st).names.lookup y.1 = some .cell ∧ ((cellsFrom (s.heap.objs.size + 1) (defScope st).names []).lookup y.1).isSome = true) := by
    rintro ⟨n, v⟩ hy
    exact (S.par n (List.of_mem_zip hy).1).imp id fun q => ⟨q, PySem.W.cellsFrom_some _ _ _ (.inl q)⟩
  refine codeAny_call_function hr.depth (inH _ _ lk) rfl S.co S.gen rfl (PySem.W.codeRec_of inH hcd) (hb _ _ _ _ (wpAny_newFunctionEnv_cells S.kind kinds ?_))
  rintro env rfl s1 z
  refine ⟨nolim.keeps z.toInCall.keep, codeAny_func ?_⟩
  obtain ⟨t, ht, hq⟩ := body cdv A out s H us Q E rfl (hr.deeper _) hgd hsp
  have I : Inv (cxOf C P w K mg base N qual (defScope st) f cdv A out s H E) [] (L2.start N us) H s1 := inv_start S hr.hd e0 hl r z
  refine wpAny_mono (ht.run [] s1 (L2.start N us) H _ I hq) ?_ fun _ _ q => q
  intro fl s' q
  cases fl with
  | brk =>
    obtain ⟨_, _, _, q⟩ := q
    exact q.elim
  | cont =>
    obtain ⟨_, _, _, q⟩ := q
    exact q.elim
  | next =>
    obtain ⟨σ', H', J, q⟩ := q
    exact ⟨V.non, H', J.os, J.bare, J.base, J.hok, rfl, q⟩
  | ret u =>
    obtain ⟨v, σ', H', J, rv, q⟩ := q
    exact ⟨v, H', J.os, J.bare, J.base, J.hok, rv, q⟩
end DL
end
section
set_option maxRecDepth 100000
set_option maxHeartbeats 4000000
namespace DL
open PySem PySem.Spec PyProof.Rows L2
variable [tb : Tb]
theorem toR_own {o : O} {K : PySem.W.Frag} {env : DEnv} {σ : L2.St} {F H : Hp} {v : V} {B : List Addr} (h : Own K F H o v B) : RRep K env σ F H o.toR v B := by
  cases o with
  | val d => simp only [Own] at h; exact h
  | _ => exact h
section
variable {K : PySem.W.Frag} {mg : Str → Option Value} {pv : Nat → Option V} {env : DEnv} {σ : L2.St} {F H F0 H0 : Hp} {A A0 : Nat → List Addr} {B : List Addr} {rs : List R} {vs : List V} {ms : List Mode} {g : List O → RF} {Q : VK} {W : WX}
theorem finCall_rd (rss : RSs K pv env σ rs vs F H A B) (st : Step F0 H0 (UA A0) F H (fun a => UA A a ∨ a ∈ B))
    (q : match finCall g ms rs env with
      | .bad => False
      | .ok r env' => ∀ v F' H' A' B, Step F0 H0 (UA A0) F' H' (fun a => UA A' a ∨ a ∈ B) → RS K pv env' σ r v F' H' A' B → Q v H'
      | .exc c env' => ∀ F' H' A', Step F0 H0 (UA A0) F' H' (UA A') → WS K pv env' σ F' H' A' → exW mg W c σ H') :
    spD K mg ms.length g vs H Q (fun c d H' => W c d σ H') := by
  simp only [finCall] at q
  split at q
  · exact q.elim
  rename_i r env' hq
  · split at hq
    · cases hq
    · rename_i os hos
      split at hq
      · rename_i ck
        split at hq
        · cases hq
        · rename_i o os' hg
          split at hq
          · rename_i lf
            cases hq
            refine ⟨by rw [rss.rr.len, argOs_len hos], os, _, _, call_in rss hos ck, ?_⟩
            rw [hg]
            intro v F' H' A' B' s2 rs2
            have lf1 : (tmps ms rs).isEmpty = true ∨ iofree ms rs os' = true := lf.imp id fun h => h.2
            obtain ⟨A2, w2, s3, tu, ua, ce⟩ := call_out rss hos ck s2 rs2.ws lf1
            have ro : Own K (cut F' (Lent A ms rs)) H' o v B' := by
              rcases lf with lf | lf
              · rw [ce lf]; exact rs2.rr
              · exact Own.lfree tu o rs2.rr lf.1
            refine q v (cut F' (Lent A ms rs)) H' A2 B' (st.trans s3) ⟨w2, toR_own ro, rs2.nd, fun a ha hu => ?_, fun a ha => ?_⟩
            · rcases ua a hu with h | ⟨h, hn⟩
              · exact rs2.dj a ha h
              · rcases s2.own a (.inr ha) with h' | h'
                · exact hn h'
                · exact rss.ws.there h h'
            · by_cases t : Lent A ms rs a
              · exact cut_in t
              · rw [cut_out t]; exact rs2.dis a ha
          · cases hq
        · rename_i c os' hg
          split at hq <;> cases hq
      · cases hq
  · rename_i c env' hq
    split at hq
    · cases hq
    · rename_i os hos
      split at hq
      · rename_i ck
        split at hq
        · cases hq
        · rename_i o os' hg
          split at hq <;> cases hq
        · rename_i c os' hg
          split at hq
          · rename_i lf
            cases hq
            refine ⟨by rw [rss.rr.len, argOs_len hos], os, _, _, call_in rss hos ck, ?_⟩
            rw [hg]
            intro F' H' A' s2 w2'
            obtain ⟨A2, w2, s3, tu, ua, ce⟩ := call_out (B' := []) rss hos ck (s2.less fun x hx => hx.elim id fun z => nomatch z) w2' lf
            exact q (cut F' (Lent A ms rs)) H' A2 ((st.trans s3).less fun x hx => .inl hx) w2
          · cases hq
      · cases hq
end
section
variable {X : Cx} {k : Nat} {f : Addr} {fd : FuncData} {ps : List Str} {x : Str} {p pos : Pos} {e : Expr} {es : List Expr} {pv : Nat → Option V} {W : WX} {g : List O → RF} {fs : M (List R)}
theorem passAtW (tk : Takes X W) (σ : L2.St) : PassesAt (L2.CX X.prog X.w) X σ (fun c d H' => W c d σ H') := passAt tk σ
theorem dCall_rd {K : PySem.W.Frag} {mg : Str → Option Value} {ms : List Mode} {σ : L2.St} {H : Hp} {Q : VK} (q : tD K mg pv W (dCall g ms fs) σ H Q) :
    tDA K mg pv W fs σ H fun us H1 => spD K mg ms.length g us H1 Q (fun c d H' => W c d σ H') := by
  obtain ⟨env, F, A, ws, q⟩ := q
  simp only [dCall] at q
  refine tDA_bind ws (fun e => ?_) (fun c e1 e F1 H1 A1 s1 w1 => ?_) (fun r1 e1 e v1 F1 H1 A1 B1 s1 rs1 => ?_)
  · rw [e] at q; exact q
  · rw [e] at q; exact q F1 H1 A1 s1 w1
  · rw [e] at q
    simp only [Res.bind] at q
    exact finCall_rd rs1 s1 q
theorem de_call {ms : List Mode} (tk : Takes X W) (G : GFn X.prog X.w X.K X.mg X.base (L2.CX X.prog X.w) k f fd ps (spD X.K X.mg ms.length g)) (hr : Room k X.A) (gd : X.A.guards = some []) (hg : Gl X x) (hm : X.mg x = some (.ref f)) (hk : PySem.W.keepIn X.K (.ref f) = true) (hb : Binds X.K fd ps [])
    (ha : PA X (e :: es) (tDA X.K X.mg pv W fs)) (hdb : (x == ("__debug__" : Str)) = false := by decide) (he : starEach (e :: es) X.env = (false, eval e X.env) :: starEach es X.env := by rfl) (hpl : (backTo pos (starEach es X.env)).any (·.1) = false := by rfl) :
    PE X (.Call (.Name x p) (e :: es) [] pos) (tD X.K X.mg pv W (dCall g ms fs)) :=
  (pe_g G hr gd hg hm hk hb (fun σ => passAtW tk σ) ha hdb he hpl).imp fun _ _ _ q => dCall_rd q
def dCall0 (g : List O → RF) : M R := fun env => finCall g [] [] env
theorem de_call0 (tk : Takes X W) (G : GFn X.prog X.w X.K X.mg X.base (L2.CX X.prog X.w) k f fd ps (spD X.K X.mg 0 g)) (hr : Room k X.A) (gd : X.A.guards = some []) (hg : Gl X x) (hm : X.mg x = some (.ref f)) (hk : PySem.W.keepIn X.K (.ref f) = true) (hb : Binds X.K fd ps [])
    (hdb : (x == ("__debug__" : Str)) = false := by decide) : PE X (.Call (.Name x p) [] [] pos) (tD X.K X.mg pv W (dCall0 g)) :=
  (pe_g0 G hr gd hg hm hk hb (fun σ => passAtW tk σ) hdb).imp fun σ H Q q => by
    obtain ⟨env, F, A, ws, q⟩ := q
    exact finCall_rd (ms := []) (rs := []) (vs := []) (B := []) (pv := pv) ⟨ws, ⟨rfl, rfl⟩, List.nodup_nil, (fun a h => nomatch h), (fun a h => nomatch h)⟩ step_id q
end
end DL
end
section
set_option maxRecDepth 100000
set_option maxHeartbeats 4000000
namespace DL
open PySem PySem.Spec PyProof.Rows L2
variable [tb : Tb]
section
variable {K : PySem.W.Frag} {mg : Str → Option Value} {pv : Nat → Option V} {W : WX}
theorem tDT_bind {f : M Bool} {σ : L2.St} {H : Hp} {Q : Bool → Hp → Prop} {env : DEnv} {F : Hp} {A : Nat → List Addr} (ws : WS K pv env σ F H A) (hb : f env ≠ .bad)
    (hx : ∀ c env', f env = .exc c env' → ∀ F' H' A', Step F H (UA A) F' H' (UA A') → WS K pv env' σ F' H' A' → exW mg W c σ H')
    (hk : ∀ b env', f env = .ok b env' → ∀ F' H' A', Step F H (UA A) F' H' (UA A') → WS K pv env' σ F' H' A' → Q b H') : tDT K mg pv W f σ H Q := by
  refine ⟨env, F, A, ws, ?_⟩
  cases e : f env with
  | bad => exact hb e
  | ok r env' => exact hk r env' e
  | exc c env' => exact hx c env' e
end
theorem step_drop {F H F' H' : Hp} {P Q : Addr → Prop} {B : List Addr} (s : Step F H P F' H' (fun a => Q a ∨ a ∈ B)) : Step F H P F' H' Q := s.less fun _ h => .inl h

/-! ### tests -/
def fin1b (r : R) (env : DEnv) : Res Bool := match resolve env r with
  | some (.bl b) => .ok b env
  | _ => .bad
def tst (f : M R) : M Bool := fun env => (f env).bind fin1b
def tNot' (c : M Bool) : M Bool := fun env => (c env).bind fun b e => .ok (!b) e
def tOr' (c d : M Bool) : M Bool := fun env => (c env).bind fun b e => if b = true then .ok true e else d e
def dAnd (f g : M R) : M R := fun env => (f env).bind fun r e => (fin1b r e).bind fun b e' => if b = true then g e' else .ok (.val (.bl false)) e'
theorem vw_bl {K : PySem.W.Frag} {F H : Hp} {b : Bool} {v : V} (h : Vw K F H (.bl b) v) : v = .bl b := h
section
variable {K : PySem.W.Frag} {mg : Str → Option Value} {pv : Nat → Option V} {W : WX} {f g : M R} {c d : M Bool} {σ : L2.St} {H : Hp}
theorem tst_rd {Q : Bool → Hp → Prop} (q : tDT K mg pv W (tst f) σ H Q) : tTest (tD K mg pv W f) σ H Q := by
  obtain ⟨env, F, A, ws, q⟩ := q
  simp only [tst] at q
  refine tD_bind ws (fun e => ?_) (fun c e1 e F1 H1 A1 s1 w1 => ?_) (fun r1 e1 e v1 F1 H1 A1 B1 s1 rs1 => ?_)
  · rw [e] at q; exact q
  · rw [e] at q; exact q F1 H1 A1 s1 w1
  · rw [e] at q
    simp only [Res.bind, fin1b] at q
    split at q
    · exact q.elim
    · rename_i b e2 hq
      split at hq
      · rename_i b' hr
        cases hq
        refine ⟨b, vw_bl (rs1.rr.view rs1.ws hr), q F1 H1 A1 (step_drop s1) rs1.ws⟩
      · cases hq
    · rename_i hq
      split at hq <;> cases hq
theorem tNot_rd {Q : Bool → Hp → Prop} (q : tDT K mg pv W (tNot' c) σ H Q) : tNot (tDT K mg pv W c) σ H Q := by
  obtain ⟨env, F, A, ws, q⟩ := q
  simp only [tNot'] at q
  refine tDT_bind ws (fun e => ?_) (fun c e1 e F1 H1 A1 s1 w1 => ?_) (fun b e1 e F1 H1 A1 s1 w1 => ?_)
  · rw [e] at q; exact q
  · rw [e] at q; exact q F1 H1 A1 s1 w1
  · rw [e] at q; exact q F1 H1 A1 s1 w1
/-- the rest of the code behind a step -/
theorem tDT_after {F0 H0 F1 H1 : Hp} {A0 A1 : Nat → List Addr} {e : DEnv} {Q : Bool → Hp → Prop} (s : Step F0 H0 (UA A0) F1 H1 (UA A1)) (w : WS K pv e σ F1 H1 A1)
    (q : match d e with
      | .bad => False
      | .ok b env' => ∀ F' H' A', Step F0 H0 (UA A0) F' H' (UA A') → WS K pv env' σ F' H' A' → Q b H'
      | .exc c env' => ∀ F' H' A', Step F0 H0 (UA A0) F' H' (UA A') → WS K pv env' σ F' H' A' → exW mg W c σ H') : tDT K mg pv W d σ H1 Q := by
  refine ⟨e, F1, A1, w, ?_⟩
  cases h : d e with
  | bad => rw [h] at q; exact q
  | ok b e' => rw [h] at q; exact fun F' H' A' s' w' => q F' H' A' (s.trans s') w'
  | exc c e' => rw [h] at q; exact fun F' H' A' s' w' => q F' H' A' (s.trans s') w'
theorem tD_after {F0 H0 F1 H1 : Hp} {A0 A1 : Nat → List Addr} {e : DEnv} {Q : VK} (s : Step F0 H0 (UA A0) F1 H1 (UA A1)) (w : WS K pv e σ F1 H1 A1)
    (q : match f e with
      | .bad => False
      | .ok r env' => ∀ v F' H' A' B, Step F0 H0 (UA A0) F' H' (fun a => UA A' a ∨ a ∈ B) → RS K pv env' σ r v F' H' A' B → Q v H'
      | .exc c env' => ∀ F' H' A', Step F0 H0 (UA A0) F' H' (UA A') → WS K pv env' σ F' H' A' → exW mg W c σ H') : tD K mg pv W f σ H1 Q := by
  refine ⟨e, F1, A1, w, ?_⟩
  cases h : f e with
  | bad => rw [h] at q; exact q
  | ok b e' => rw [h] at q; exact fun v F' H' A' B s' w' => q v F' H' A' B (s.trans s') w'
  | exc c e' => rw [h] at q; exact fun F' H' A' s' w' => q F' H' A' (s.trans s') w'
theorem tOr_rd {Q : Bool → Hp → Prop} (q : tDT K mg pv W (tOr' c d) σ H Q) : tOr (tDT K mg pv W c) (tDT K mg pv W d) σ H Q := by
  obtain ⟨env, F, A, ws, q⟩ := q
  simp only [tOr'] at q
  refine tDT_bind ws (fun e => ?_) (fun c e1 e F1 H1 A1 s1 w1 => ?_) (fun b e1 e F1 H1 A1 s1 w1 => ?_)
  · rw [e] at q; exact q
  · rw [e] at q; exact q F1 H1 A1 s1 w1
  · rw [e] at q
    simp only [Res.bind] at q
    cases b with
    | false => exact tDT_after s1 w1 q
    | true => exact q F1 H1 A1 s1 w1
theorem dAnd_rd {Q : VK} (q : tD K mg pv W (dAnd f g) σ H Q) : tAndV (tD K mg pv W f) (tD K mg pv W g) σ H Q := by
  obtain ⟨env, F, A, ws, q⟩ := q
  simp only [dAnd] at q
  refine tD_bind ws (fun e => ?_) (fun c e1 e F1 H1 A1 s1 w1 => ?_) (fun r1 e1 e v1 F1 H1 A1 B1 s1 rs1 => ?_)
  · rw [e] at q; exact q
  · rw [e] at q; exact q F1 H1 A1 s1 w1
  · rw [e] at q
    simp only [Res.bind, fin1b] at q
    cases hr : resolve e1 r1 with
    | none => simp only [hr] at q
    | some d =>
      cases d with
      | bl b =>
        simp only [hr] at q
        refine ⟨b, vw_bl (rs1.rr.view rs1.ws hr), ?_⟩
        cases b with
        | true => exact tD_after (step_drop s1) rs1.ws q
        | false => exact q _ F1 H1 A1 [] ((step_drop s1).trans step_id) (rs_val rs1.ws rfl)
      | _ => simp only [hr] at q
end
section
variable {X : Cx} {pv : Nat → Option V} {W : WX} {f g : M R} {c d : M Bool} {a b e : Expr} {rest : List Expr} {pos : Pos} {op : CmpOp} {r : R2} {h : D → D → Option R}
theorem dt_cmp (ho : OpR X (compareOp op) r) (hv : OpV X.K r h) (ha : PE X a (tD X.K X.mg pv W f)) (hb : PE X b (tD X.K X.mg pv W g)) (hm : behindInMarks op b = false) : PT X (.Compare a [op] [b] pos) (tDT X.K X.mg pv W (tst (op2 h f g))) :=
  (pt_cmpR ho ha hb hm).imp fun _ _ _ q => by
    obtain ⟨env, F, A, ws, q⟩ := tst_rd q
    exact op2_rd hv ⟨env, F, A, ws, q⟩
theorem dt_val (hh : PE X e (tD X.K X.mg pv W f)) (he : ∀ whole, isTrue e X.env whole = (do let v ← whole; standAt e.pos; holding [v] (truthy v)) := by intro _; rfl) : PT X e (tDT X.K X.mg pv W (tst f)) :=
  (pt_val hh he).imp fun _ _ _ q => tst_rd q
theorem dt_not (ha : PT X a (tDT X.K X.mg pv W c)) : PT X (.UnaryOp .Not a pos) (tDT X.K X.mg pv W (tNot' c)) := (pt_not ha).imp fun _ _ _ q => tNot_rd q
theorem dw_or1 (ha : PT X a (tDT X.K X.mg pv W c)) : PW X (.BoolOp .Or [a] pos) (tDT X.K X.mg pv W c) := pw_or1 ha
theorem dw_or (ha : PT X a (tDT X.K X.mg pv W c)) (hb : PW X (.BoolOp .Or (b :: rest) pos) (tDT X.K X.mg pv W d)) : PW X (.BoolOp .Or (a :: b :: rest) pos) (tDT X.K X.mg pv W (tOr' c d)) := (pw_or ha hb).imp fun _ _ _ q => tOr_rd q
theorem de_one {op} (ha : PE X a (tD X.K X.mg pv W f)) : PE X (.BoolOp op [a] pos) (tD X.K X.mg pv W f) := pe_one ha
theorem de_and (ha : PE X a (tD X.K X.mg pv W f)) (hb : PE X (.BoolOp .And (b :: rest) pos) (tD X.K X.mg pv W g)) : PE X (.BoolOp .And (a :: b :: rest) pos) (tD X.K X.mg pv W (dAnd f g)) := (pe_and ha hb).imp fun _ _ _ q => dAnd_rd q
end
end DL
end
section
set_option maxRecDepth 100000
set_option maxHeartbeats 4000000
namespace DL
open PySem PySem.Spec PyProof.Rows L2
variable [tb : Tb]
/-! ### storing a slot -/
def upA (A : Nat → List Addr) (i : Nat) (B : List Addr) : Nat → List Addr := fun j => if j = i then B else A j
theorem UA_up {A : Nat → List Addr} {i : Nat} {B : List Addr} {a : Addr} (h : UA (upA A i B) a) : UA A a ∨ a ∈ B := by
  obtain ⟨j, hj⟩ := h
  unfold upA at hj
  split at hj
  · exact .inr hj
  · exact .inl ⟨j, hj⟩
section
variable {K : PySem.W.Frag} {mg : Str → Option Value} {pv : Nat → Option V} {W : WX} {env : DEnv} {σ : L2.St} {F H : Hp} {A : Nat → List Addr} {B : List Addr} {v : V}
theorem WS.put (w : WS K pv env σ F H A) {i : Nat} {s : Slot} (hi : i < env.length) (hs : SlotOk K F H s (some v) (pv i) B) (nd : B.Nodup) (dj : ∀ a ∈ B, ¬ UA A a) (dis : ∀ a ∈ B, F a = none) :
    WS K pv (env.set i s) (σ.set i (some v)) F H (upA A i B) := by
  have hi2 : i < σ.length := by rw [← w.len]; exact hi
  refine ⟨by simp [w.len], fun j => ?_, fun j => ?_, fun j j' a ha ha' => ?_, fun j a ha => ?_, w.sub, w.tbs⟩
  · by_cases e : j = i
    · subst e
      rw [List.getElem?_set_self hi, List.getElem?_set_self hi2]
      unfold upA
      rw [if_pos rfl]
      exact hs
    · rw [List.getElem?_set_ne (Ne.symm e), List.getElem?_set_ne (Ne.symm e)]
      unfold upA
      rw [if_neg e]
      exact w.slot j
  · unfold upA
    split
    · exact nd
    · exact w.nd j
  · unfold upA at ha ha'
    split at ha
    · rename_i e
      split at ha'
      · rename_i e'; rw [e, e']
      · exact absurd ⟨j', ha'⟩ (dj a ha)
    · split at ha'
      · exact absurd ⟨j, ha⟩ (dj a ha')
      · exact w.dj j j' a ha ha'
  · unfold upA at ha
    split at ha
    · exact dis a ha
    · exact w.dis j a ha
/-- only the data's word of a slot is changed: the value that stands there stays -/
theorem WS.re (w : WS K pv env σ F H A) {i : Nat} {s : Slot} {F' : Hp} (e : Same F F') (sub : Same F' H) (hs : SlotOk K F' H s (σ[i]?.getD none) (pv i) B) (nd : B.Nodup) (dj : ∀ a ∈ B, ∀ j, a ∈ A j → j = i) (dis : ∀ a ∈ B, F' a = none)
    (n : ∀ j, j ≠ i → ∀ a ∈ A j, F' a = none) (hi : i < env.length) (tt : TbsOk F H → TbsOk F' H) : WS K pv (env.set i s) σ F' H (upA A i B) := by
  refine ⟨by simp [w.len], fun j => ?_, fun j => ?_, fun j j' a ha ha' => ?_, fun j a ha => ?_, sub, tt w.tbs⟩
  · by_cases e' : j = i
    · subst e'
      rw [List.getElem?_set_self hi]
      unfold upA
      rw [if_pos rfl]
      exact hs
    · rw [List.getElem?_set_ne (Ne.symm e')]
      unfold upA
      rw [if_neg e']
      exact (w.slot j).stay e fun _ _ _ z => z
  · unfold upA
    split
    · exact nd
    · exact w.nd j
  · unfold upA at ha ha'
    split at ha
    · rename_i e1
      split at ha'
      · rename_i e2; rw [e1, e2]
      · rename_i e2; exact absurd (dj a ha j' ha') e2
    · rename_i e1
      split at ha'
      · exact absurd (dj a ha' j ha) e1
      · exact w.dj j j' a ha ha'
  · unfold upA at ha
    split at ha
    · exact dis a ha
    · rename_i e1; exact n j e1 a ha
end
/-- may a name be stored here -/
def free (env : DEnv) (i : Nat) : Bool := match env[i]? with
  | some (.pin _) => false
  | some _ => true
  | none => false
theorem free_lt {env : DEnv} {i : Nat} (h : free env i = true) : i < env.length := by
  unfold free at h
  cases e : env[i]? with
  | none => rw [e] at h; cases h
  | some s => exact (List.getElem?_eq_some_iff.mp e).1
/-- how a name is stored: what is new stays owned; is frozen; what another name holds is moved -/
inductive How where
  | keep | frz | mv
def setR (h : How) (i : Nat) (r : R) (env : DEnv) : Res Flow :=
  if free env i = true then (match h, r with
    | _, .val d => .ok .nx (env.set i (.own (.val d)))
    | .keep, .own o => .ok .nx (env.set i (.own o))
    | .mv, .own o => .ok .nx (env.set i (.own o))
    | .frz, .own o => (match o.frz with
      | some d => .ok .nx (env.set i (.own (.val d)))
      | none => .bad)
    | .frz, .bor j => (match env[j]?.bind Slot.o with
      | some o => (match o.frz with
        | some d => .ok .nx ((putO env j (.val d)).set i (.own (.val d)))
        | none => .bad)
      | none => .bad)
    | .mv, .bor j => if j = i then .bad else (match env[j]? with
      | some (.own o) => .ok .nx ((env.set j .un).set i (.own o))
      | _ => .bad)
    | .keep, .bor _ => .bad) else .bad
def sSet (h : How) (i : Nat) (f : M R) : M Flow := fun env => (f env).bind (setR h i)
def sSeq (a b : M Flow) : M Flow := fun env => (a env).bind fun fl e => match fl with
  | .nx => b e
  | fl => .ok fl e
def sNx : M Flow := fun env => .ok .nx env
def sRet (f : M R) : M Flow := fun env => (f env).bind fun r e => .ok (.ret r) e
def sIf (c : M Bool) (a b : M Flow) : M Flow := fun env => (c env).bind fun k e => if k = true then a e else b e
section
variable {K : PySem.W.Frag} {mg : Str → Option Value} {pv : Nat → Option V} {W : WX} {f : M R} {a b : M Flow} {c : M Bool} {σ : L2.St} {H : Hp} {D : Ends}
/-- what is wanted behind a piece of code that began at F0, H0, A0 -/
def SPost (K : PySem.W.Frag) (mg : Str → Option Value) (pv : Nat → Option V) (W : WX) (D : Ends) (F0 H0 : Hp) (A0 : Nat → List Addr) : Res Flow → Prop
  | .bad => False
  | .ok .nx env' => ∀ σ' F' H' A', Step F0 H0 (UA A0) F' H' (UA A') → WS K pv env' σ' F' H' A' → D.nx σ' H'
  | .ok .brk env' => ∀ σ' F' H' A', Step F0 H0 (UA A0) F' H' (UA A') → WS K pv env' σ' F' H' A' → D.bk σ' H'
  | .ok .cont env' => ∀ σ' F' H' A', Step F0 H0 (UA A0) F' H' (UA A') → WS K pv env' σ' F' H' A' → D.ct σ' H'
  | .ok (.ret r) env' => ∀ v σ' F' H' A' B, Step F0 H0 (UA A0) F' H' (fun a => UA A' a ∨ a ∈ B) → RS K pv env' σ' r v F' H' A' B → D.rt v H'
  | .exc c env' => ∀ σ' F' H' A', Step F0 H0 (UA A0) F' H' (UA A') → WS K pv env' σ' F' H' A' → exW mg W c σ' H'
theorem sD_iff {g : M Flow} : sD K mg pv W g D σ H ↔ ∃ env F A, WS K pv env σ F H A ∧ SPost K mg pv W D F H A (g env) := by
  constructor
  · rintro ⟨env, F, A, ws, q⟩
    refine ⟨env, F, A, ws, ?_⟩
    revert q
    cases g env with
    | bad => exact id
    | ok fl e => cases fl <;> exact id
    | exc c e => exact id
  · rintro ⟨env, F, A, ws, q⟩
    refine ⟨env, F, A, ws, ?_⟩
    revert q
    cases g env with
    | bad => exact id
    | ok fl e => cases fl <;> exact id
    | exc c e => exact id
theorem SPost.trans {F0 H0 F1 H1 : Hp} {A0 A1 : Nat → List Addr} (s : Step F0 H0 (UA A0) F1 H1 (UA A1)) {r : Res Flow} (q : SPost K mg pv W D F0 H0 A0 r) : SPost K mg pv W D F1 H1 A1 r := by
  cases r with
  | bad => exact q
  | ok fl e =>
    cases fl with
    | nx => exact fun σ' F' H' A' s' w => q σ' F' H' A' (s.trans s') w
    | brk => exact fun σ' F' H' A' s' w => q σ' F' H' A' (s.trans s') w
    | cont => exact fun σ' F' H' A' s' w => q σ' F' H' A' (s.trans s') w
    | ret r => exact fun v σ' F' H' A' B s' w => q v σ' F' H' A' B (s.trans s') w
  | exc c e => exact fun σ' F' H' A' s' w => q σ' F' H' A' (s.trans s') w
/-- a statement, then the rest -/
theorem sD_after {g : M Flow} {F0 H0 F1 H1 : Hp} {A0 A1 : Nat → List Addr} {e : DEnv} (s : Step F0 H0 (UA A0) F1 H1 (UA A1)) (w : WS K pv e σ F1 H1 A1) (q : SPost K mg pv W D F0 H0 A0 (g e)) : sD K mg pv W g D σ H1 :=
  sD_iff.mpr ⟨e, F1, A1, w, q.trans s⟩
/-- a new slot for a value -/
theorem set_end {F0 H0 F1 H1 : Hp} {A0 A1 : Nat → List Addr} {B : List Addr} {e : DEnv} {r : R} {v : V} {h : How} {i : Nat} (s : Step F0 H0 (UA A0) F1 H1 (fun a => UA A1 a ∨ a ∈ B)) (rs : RS K pv e σ r v F1 H1 A1 B)
    (q : SPost K mg pv W D F0 H0 A0 (setR h i r e)) : D.nx (σ.set i (some v)) H1 := by
  unfold setR at q
  split at q
  · rename_i hf
    have hi := free_lt hf
    have ws := rs.ws
    have val : ∀ {d : DL.D} {F2 : Hp} {e2 : DEnv} {A2 : Nat → List Addr}, e2.length = e.length → WS K pv e2 σ F2 H1 A2 → Rep K F2 d v → Step F0 H0 (UA A0) F2 H1 (UA A2) → SPost K mg pv W D F0 H0 A0 (.ok .nx (e2.set i (.own (.val d)))) → D.nx (σ.set i (some v)) H1 := by
      intro d F2 e2 A2 le w2 rd s2 q2
      refine q2 (σ.set i (some v)) F2 H1 (upA A2 i []) (s2.less fun a ha => ?_) (w2.put (B := []) (by rw [le]; exact hi) ⟨v, rfl, Own.mkVal rd⟩ List.nodup_nil (fun a ha => nomatch ha) (fun a ha => nomatch ha))
      exact (UA_up ha).elim id fun z => nomatch z
    split at q
    · exact val rfl ws rs.rr.2 (step_drop s) q
    · rename_i o
      refine q (σ.set i (some v)) F1 H1 (upA A1 i B) (s.less fun a ha => UA_up ha) (ws.put hi ⟨v, rfl, rs.rr⟩ rs.nd rs.dj rs.dis)
    · rename_i o
      refine q (σ.set i (some v)) F1 H1 (upA A1 i B) (s.less fun a ha => UA_up ha) (ws.put hi ⟨v, rfl, rs.rr⟩ rs.nd rs.dj rs.dis)
    · rename_i o
      split at q
      · rename_i d hd
        have sG : Same F1 (ext F1 H1 fun a => a ∈ B) := ext_same ws.sub
        refine val (F2 := ext F1 H1 fun a => a ∈ B) rfl (ws.stay sG (ext_sub ws.sub) (fun _ _ _ z => z) (fun b hb => ?_) (fun t => t.frz (ext_tb1 fun a ha => rs.rr.nd a ha))) (Own.frz sG o rs.rr (fun a ha => ext_in ha) hd) ?_ q
        · rw [ext_out fun hB => rs.dj b hB hb]; exact ws.disU hb
        · refine (s.trans (F2 := ext F1 H1 fun a => a ∈ B) (H2 := H1) (P2 := UA A1) ⟨sG, fun a u e _ _ => e, (fun t => t.frz (ext_tb1 fun a ha => rs.rr.nd a ha)), fun a ha => ?_, fun a ha => ha, fun a ha => .inl (.inl ha)⟩)
          by_cases hB : a ∈ B
          · exact .inr (.inr (.inr hB))
          · rw [ext_out hB] at ha; exact .inl ha
      · exact q.elim
    · rename_i j
      split at q
      · rename_i o ho
        split at q
        · rename_i d hd
          have hj : σ[j]? = some (some v) := rs.rr.2
          have own := ws.at ho hj
          have sG : Same F1 (ext F1 H1 fun a => a ∈ A1 j) := ext_same ws.sub
          have rd : Rep K (ext F1 H1 fun a => a ∈ A1 j) d v := Own.frz sG o own (fun a ha => ext_in ha) hd
          have hjl : j < e.length := by rw [ws.len]; exact (List.getElem?_eq_some_iff.mp hj).1
          have wj : WS K pv (putO e j (.val d)) σ (ext F1 H1 fun a => a ∈ A1 j) H1 (upA A1 j []) := by
            have es : e[j]? = some e[j] := List.getElem?_eq_getElem hjl
            unfold putO
            rw [es]
            refine ws.re sG (ext_sub ws.sub) ?_ List.nodup_nil (fun a ha => nomatch ha) (fun a ha => nomatch ha) (fun k hk a ha => ?_) hjl (fun t => t.frz (ext_tb1 fun a ha => ws.ndU ⟨j, ha⟩))
            · rw [hj]
              have so := ws.slot j
              rw [es, hj] at so
              rw [es] at ho
              simp only [Option.getD_some] at so ⊢
              cases hsl : e[j] with
              | un => rw [hsl] at ho; simp [Slot.o] at ho
              | own o' => exact ⟨v, rfl, Own.mkVal rd⟩
              | pin o' =>
                rw [hsl] at so
                obtain ⟨w, e1, e2, _⟩ := so
                cases e1
                exact ⟨v, rfl, e2, Own.mkVal rd⟩
            · rw [ext_out fun hB => hk (ws.dj k j a ha hB)]
              exact ws.dis k a ha
          refine val (by rw [putO_len]) wj rd ?_ q
          refine (step_drop s).trans ⟨sG, fun a u e _ _ => e, (fun t => t.frz (ext_tb1 fun a ha => ws.ndU ⟨j, ha⟩)), fun a ha => ?_, fun a ha => ha, fun a ha => ?_⟩
          · by_cases hB : a ∈ A1 j
            · exact .inr (.inr ⟨j, hB⟩)
            · rw [ext_out hB] at ha; exact .inl ha
          · exact (UA_up ha).elim .inl fun z => nomatch z
        · exact q.elim
      · exact q.elim
    · rename_i j
      split at q
      · exact q.elim
      · rename_i hji
        split at q
        · rename_i o ho
          have hj : σ[j]? = some (some v) := rs.rr.2
          have own := ws.at (o := o) (by rw [ho]; rfl) hj
          have hjl : j < e.length := (List.getElem?_eq_some_iff.mp ho).1
          have wj : WS K pv (e.set j .un) σ F1 H1 (upA A1 j []) :=
            ws.re (Same.refl _) ws.sub rfl List.nodup_nil (fun a ha => nomatch ha) (fun a ha => nomatch ha) (fun k _ a ha => ws.dis k a ha) hjl id
          refine q (σ.set i (some v)) F1 H1 (upA (upA A1 j []) i (A1 j)) (s.less fun a ha => ?_) (wj.put (by simpa using hi) ⟨v, rfl, own⟩ (ws.nd j) (fun a ha hu => ?_) (fun a ha => ws.dis j a ha))
          · rcases UA_up ha with h | h
            · exact .inl ((UA_up h).elim id fun z => nomatch z)
            · exact .inl ⟨j, h⟩
          · obtain ⟨k, hk⟩ := hu
            unfold upA at hk
            split at hk
            · cases hk
            · rename_i hkj
              exact hkj (ws.dj k j a hk ha)
        · exact q.elim
    · exact q.elim
  · exact q.elim
theorem sSet_rd {h : How} {i : Nat} (q : sD K mg pv W (sSet h i f) D σ H) : tAsg (tD K mg pv W f) (gName i) D σ H := by
  obtain ⟨env, F, A, ws, q⟩ := sD_iff.mp q
  simp only [sSet] at q
  refine tD_bind ws (fun e => ?_) (fun c e1 e F1 H1 A1 s1 w1 => ?_) (fun r1 e1 e v1 F1 H1 A1 B1 s1 rs1 => ?_)
  · rw [e] at q; exact q
  · rw [e] at q; exact q σ F1 H1 A1 s1 w1
  · rw [e] at q
    exact set_end s1 rs1 q
theorem sSeq_rd (q : sD K mg pv W (sSeq a b) D σ H) : tSeq (sD K mg pv W a) (sD K mg pv W b) D σ H := by
  obtain ⟨env, F, A, ws, q⟩ := sD_iff.mp q
  simp only [sSeq] at q
  refine sD_iff.mpr ⟨env, F, A, ws, ?_⟩
  cases e : a env with
  | bad => rw [e] at q; exact q
  | exc c e1 => rw [e] at q; exact q
  | ok fl e1 =>
    rw [e] at q
    cases fl with
    | nx => exact fun σ' F' H' A' s' w => sD_after s' w q
    | brk => exact q
    | cont => exact q
    | ret r => exact q
theorem sNx_rd (q : sD K mg pv W sNx D σ H) : tNext D σ H := by
  obtain ⟨env, F, A, ws, q⟩ := sD_iff.mp q
  exact q σ F H A Step.refl ws
theorem sRet_rd (q : sD K mg pv W (sRet f) D σ H) : tRet (tD K mg pv W f) D σ H := by
  obtain ⟨env, F, A, ws, q⟩ := sD_iff.mp q
  simp only [sRet] at q
  refine tD_bind ws (fun e => ?_) (fun c e1 e F1 H1 A1 s1 w1 => ?_) (fun r1 e1 e v1 F1 H1 A1 B1 s1 rs1 => ?_)
  · rw [e] at q; exact q
  · rw [e] at q; exact q σ F1 H1 A1 s1 w1
  · rw [e] at q
    exact q v1 σ F1 H1 A1 B1 s1 rs1
theorem sIf_rd (q : sD K mg pv W (sIf c a b) D σ H) : tIfS (tDT K mg pv W c) (sD K mg pv W a) (sD K mg pv W b) D σ H := by
  obtain ⟨env, F, A, ws, q⟩ := sD_iff.mp q
  simp only [sIf] at q
  refine tDT_bind ws (fun e => ?_) (fun c e1 e F1 H1 A1 s1 w1 => ?_) (fun k e1 e F1 H1 A1 s1 w1 => ?_)
  · rw [e] at q; exact q
  · rw [e] at q; exact q σ F1 H1 A1 s1 w1
  · rw [e] at q
    simp only [Res.bind] at q
    cases k with
    | true => exact sD_after s1 w1 q
    | false => exact sD_after s1 w1 q
end
section
variable {X : Cx} {pv : Nat → Option V} {W : WX} {f : M R} {a b : M Flow} {c : M Bool} {e : Expr} {st : Stmt} {rest sa sb : List Stmt} {pos : Pos}
theorem ds_set (h : How) {i : Nat} {x : Str} {pos' : Pos} (hN : X.N.Nodup) (hi : X.N[i]? = some x) (hx : Loc X.env.scope x) (he : PE X e (tD X.K X.mg pv W f)) (hs : swapsWith e (some (.Name x pos')) pos.line X.env = pure false := by rfl) (hf : X.fn x = true ∨ X.env.scope.names.lookup x = some .local := by first | exact .inl rfl | exact .inr rfl | assumption) :
    PS X (.Assign [.Name x pos'] e pos) (sD X.K X.mg pv W (sSet h i f)) := (ps_set hN hi hx he hs hf).imp fun _ _ _ q => sSet_rd q
theorem dss_cons (h1 : PS X st (sD X.K X.mg pv W a)) (h2 : PSs X rest (sD X.K X.mg pv W b)) : PSs X (st :: rest) (sD X.K X.mg pv W (sSeq a b)) := (pss_cons h1 h2).imp fun _ _ _ q => sSeq_rd q
theorem dss_one (h1 : PS X st (sD X.K X.mg pv W a)) : PSs X [st] (sD X.K X.mg pv W a) := pss_one h1
theorem dss_nil : PSs X [] (sD X.K X.mg pv W sNx) := pss_nil.imp fun _ _ _ q => sNx_rd q
theorem ds_ret (he : PE X e (tD X.K X.mg pv W f)) : PS X (.Return (some e) pos) (sD X.K X.mg pv W (sRet f)) := (ps_ret he).imp fun _ _ _ q => sRet_rd q
theorem ds_if {cond : Expr} (hc : PT X cond (tDT X.K X.mg pv W c)) (ha : PSs X sa (sD X.K X.mg pv W a)) (hb : PSs X sb (sD X.K X.mg pv W b)) : PS X (.If cond sa sb pos) (sD X.K X.mg pv W (sIf c a b)) := (ps_if hc ha hb).imp fun _ _ _ q => sIf_rd q
end

/-! ### a def of the text -/
def slotOf : O → Slot
  | .val d => .own (.val d)
  | o => .pin o
def initE (os : List O) (m : Nat) : DEnv := os.map slotOf ++ List.replicate m .un
def outs : List O → DEnv → Option (List O)
  | [], _ => some []
  | .val d :: os, _ :: env => (outs os env).map (.val d :: ·)
  | _ :: os, .pin o :: env => (outs os env).map (o :: ·)
  | _, _ => none
def takeR (env : DEnv) : R → Option O
  | .val d => some (.val d)
  | .own o => some o
  | .bor i => match env[i]? with
    | some (.own o) => some o
    | _ => none
def finFn (os : List O) : Res Flow → RF
  | .ok .nx env' => (match outs os env' with
    | some os' => .ok (.val .non) os'
    | none => .bad)
  | .ok (.ret r) env' => (match takeR env' r, outs os env' with
    | some o, some os' => .ok o os'
    | _, _ => .bad)
  | .exc c env' => (match outs os env' with
    | some os' => .exc c os'
    | none => .bad)
  | _ => .bad
def mkFn (m : Nat) (body : M Flow) : List O → RF := fun os => finFn os (body (initE os m))
end DL
end
section
set_option maxRecDepth 100000
set_option maxHeartbeats 4000000
namespace DL
open PySem PySem.Spec PyProof.Rows L2
variable [tb : Tb]
def isVal : O → Bool
  | .val _ => true
  | _ => false
theorem outs_spec : ∀ {os os' : List O} {env : DEnv}, outs os env = some os' → os'.length = os.length ∧ ∀ (j : Nat) (o : O), os[j]? = some o →
    (∃ d, o = .val d ∧ os'[j]? = some (.val d)) ∨ (isVal o = false ∧ ∃ o', env[j]? = some (.pin o') ∧ os'[j]? = some o')
  | [], os', env, h => by
    simp only [outs] at h; cases h
    exact ⟨rfl, fun j o h => by simp at h⟩
  | .val d :: os, os', env, h => by
    cases env with
    | nil => simp [outs] at h
    | cons s env =>
      simp only [outs, Option.map_eq_some_iff] at h
      obtain ⟨q, h1, rfl⟩ := h
      obtain ⟨l, k⟩ := outs_spec h1
      refine ⟨by simp [l], fun j o ho => ?_⟩
      cases j with
      | zero => simp at ho; subst ho; exact .inl ⟨d, rfl, rfl⟩
      | succ j => exact k j o (by simpa using ho)
  | o :: os, os', env, h => by
    cases env with
    | nil => cases o <;> simp [outs] at h
    | cons s env =>
      by_cases hv : isVal o = true
      · cases o with
        | val d =>
          simp only [outs, Option.map_eq_some_iff] at h
          obtain ⟨q, h1, rfl⟩ := h
          obtain ⟨l, k⟩ := outs_spec h1
          refine ⟨by simp [l], fun j o ho => ?_⟩
          cases j with
          | zero => simp at ho; subst ho; exact .inl ⟨d, rfl, rfl⟩
          | succ j => exact k j o (by simpa using ho)
        | _ => simp [isVal] at hv
      · have hv' : isVal o = false := by simpa using hv
        cases s with
        | un => cases o <;> simp [outs, isVal] at h hv
        | own p => cases o <;> simp [outs, isVal] at h hv
        | pin p =>
          have h' : (outs os env).map (p :: ·) = some os' := by
            cases o <;> simp [isVal] at hv <;> simpa [outs] using h
          obtain ⟨q, h1, rfl⟩ := Option.map_eq_some_iff.mp h'
          obtain ⟨l, k⟩ := outs_spec h1
          refine ⟨by simp [l], fun j o' ho => ?_⟩
          cases j with
          | zero => simp at ho; subst ho; exact .inr ⟨hv', p, rfl, rfl⟩
          | succ j => exact k j o' (by simpa using ho)
section
variable {K : PySem.W.Frag} {os : List O} {vs : List V} {F H : Hp} {A : Nat → List Addr}
theorem fn_in {N : List Str} (w : WS K (pvOf vs) (os.map Slot.pin) (vs.map some) F H A) (hl : vs.length ≤ N.length) : WS K (pvOf vs) (initE os (N.length - vs.length)) (L2.start N vs) F H A := by
  have l : os.length = vs.length := by simpa using w.len
  have nil : ∀ i, os.length ≤ i → A i = [] := fun i hi => by
    have h := w.slot i
    rw [pin_get, List.getElem?_eq_none_iff.mpr hi] at h
    exact h
  refine ⟨?_, fun i => ?_, w.nd, w.dj, w.dis, w.sub, w.tbs⟩
  · unfold initE L2.start
    simp [l]
  · have h := w.slot i
    rw [pin_get, some_get] at h
    unfold initE L2.start
    by_cases hi : i < os.length
    · have e1 : os[i]? = some os[i] := List.getElem?_eq_getElem hi
      have e2 : vs[i]? = some (vs[i]'(by omega)) := List.getElem?_eq_getElem (by omega)
      rw [List.getElem?_append_left (by simpa using hi), List.getElem?_append_left (by simpa [l] using hi), List.getElem?_map, List.getElem?_map, e1, e2]
      rw [e1, e2] at h
      obtain ⟨v, q1, q2, q3⟩ := h
      simp only [Option.map_some, Option.getD_some]
      cases ho : os[i] with
      | val d => rw [ho] at q3; exact ⟨v, q1, q3⟩
      | _ => rw [ho] at q3; exact ⟨v, q1, q2, q3⟩
    · have hz := nil i (by omega)
      rw [List.getElem?_append_right (by simp; omega), List.getElem?_append_right (by simp; omega)]
      rw [hz]
      have rep : ∀ (n k : Nat), (List.replicate n Slot.un)[k]?.getD .un = .un := fun n k => by
        rw [List.getElem?_replicate]
        split <;> rfl
      rw [rep]
      rfl
theorem fn_out {N : List Str} (w0 : WS K (pvOf vs) (os.map Slot.pin) (vs.map some) F H A) {env' : DEnv} {σ' : L2.St} {F' H' : Hp} {A' : Nat → List Addr} (w : WS K (pvOf vs) env' σ' F' H' A') (sm : Same F F') {os' : List O} (e : outs os env' = some os') :
    ∃ A'', WS K (pvOf vs) (os'.map Slot.pin) (vs.map some) F' H' A'' ∧ ∀ i, A'' i = [] ∨ (A'' i = A' i ∧ ∃ o', env'[i]? = some (.pin o')) := by
  obtain ⟨l, k⟩ := outs_spec e
  have l0 : os.length = vs.length := by simpa using w0.len
  obtain ⟨A'', hA⟩ : ∃ A'' : Nat → List Addr, A'' = fun i => match os[i]? with
    | some (.val _) => []
    | some _ => A' i
    | none => [] := ⟨_, rfl⟩
  have cases' : ∀ i, A'' i = [] ∨ (A'' i = A' i ∧ ∃ o', env'[i]? = some (.pin o')) := fun i => by
    rw [hA]
    cases ho : os[i]? with
    | none => exact .inl (by simp only [ho])
    | some o =>
      rcases k i o ho with ⟨d, rfl, _⟩ | ⟨h1, o', h2, _⟩
      · exact .inl (by simp only [ho])
      · refine .inr ⟨?_, o', h2⟩
        simp only [ho]
        cases o <;> first | rfl | simp [isVal] at h1
  refine ⟨A'', ⟨by simp [l, l0], fun i => ?_, fun i => ?_, fun i j a hi hj => ?_, fun i a ha => ?_, w.sub, w.tbs⟩, cases'⟩
  · rw [pin_get, some_get]
    by_cases hi : i < os.length
    · have e1 : os[i]? = some os[i] := List.getElem?_eq_getElem hi
      have e2 : vs[i]? = some (vs[i]'(by omega)) := List.getElem?_eq_getElem (by omega)
      have h0 := w0.slot i
      rw [pin_get, some_get, e1, e2] at h0
      obtain ⟨v, q1, q2, q3⟩ := h0
      rcases k i _ e1 with ⟨d, hd, h2⟩ | ⟨h1, o', h2, h3⟩
      · rw [h2, e2]
        rw [hd] at q3
        refine ⟨v, q1, by rw [← q1, ← e2], ?_⟩
        have : A'' i = [] := by rw [hA]; simp only [e1, hd]
        rw [this]
        simp only [Own] at q3
        exact Own.mkVal (Rep.same sm d q3.2)
      · rw [h3, e2]
        have hz : A'' i = A' i := by
          rw [hA]
          simp only [e1]
          cases ho : os[i] <;> first | rfl | (rw [ho] at h1; simp [isVal] at h1)
        have hs := w.slot i
        rw [h2] at hs
        obtain ⟨u, u1, u2, u3⟩ := hs
        have : u = v := by
          have : pvOf vs i = vs[i]? := rfl
          rw [this, e2] at u2 q2
          rw [u2] at q2; cases q2; rfl
        subst this
        rw [hz]
        exact ⟨u, q1, u2, u3⟩
    · rw [List.getElem?_eq_none_iff.mpr (by omega)]
      show A'' i = []
      rw [hA]
      simp only [List.getElem?_eq_none_iff.mpr (show os.length ≤ i by omega)]
  · rcases cases' i with h | ⟨h, _⟩
    · rw [h]; exact List.nodup_nil
    · rw [h]; exact w.nd i
  · rcases cases' i with h | ⟨h, _⟩
    · rw [h] at hi; cases hi
    · rcases cases' j with h' | ⟨h', _⟩
      · rw [h'] at hj; cases hj
      · rw [h] at hi; rw [h'] at hj; exact w.dj i j a hi hj
  · rcases cases' i with h | ⟨h, _⟩
    · rw [h] at ha; cases ha
    · rw [h] at ha; exact w.dis i a ha
theorem fn_end {N : List Str} {mg : Str → Option Value} {g : M Flow} {Q : VK} {E : XK} {n : Nat} (hn : n ≤ N.length) (h : spD K mg n (mkFn (N.length - n) g) vs H Q E) :
    sD K mg (pvOf vs) (fun c d _ H => E c d H) g { nx := fun _ H' => Q .non H', rt := Q } (L2.start N vs) H := by
  obtain ⟨hv, os, F, A, w0, q⟩ := h
  subst hv
  have w1 := fn_in (N := N) w0 hn
  refine sD_iff.mpr ⟨_, F, A, w1, ?_⟩
  simp only [mkFn] at q
  cases e : g (initE os (N.length - vs.length)) with
  | bad => rw [e] at q; exact q
  | exc c env' =>
    rw [e] at q
    simp only [finFn] at q
    intro σ' F' H' A' s w
    cases ho : outs os env' with
    | none => simp only [ho] at q
    | some os' =>
      simp only [ho] at q
      obtain ⟨A'', w2, hA⟩ := fn_out (N := N) w0 w s.fz ho
      refine fun C hC => q F' H' A'' (s.less fun a ⟨i, hi⟩ => ?_) w2 C hC
      rcases hA i with h | ⟨h, _⟩
      · rw [h] at hi; cases hi
      · rw [h] at hi; exact ⟨i, hi⟩
  | ok fl env' =>
    rw [e] at q
    cases fl with
    | brk => exact q.elim
    | cont => exact q.elim
    | nx =>
      simp only [finFn] at q
      intro σ' F' H' A' s w
      cases ho : outs os env' with
      | none => simp only [ho] at q
      | some os' =>
        simp only [ho] at q
        obtain ⟨A'', w2, hA⟩ := fn_out (N := N) w0 w s.fz ho
        refine q .non F' H' A'' [] (s.less fun a ha => ?_) ⟨w2, (show Own K F' H' (.val .non) .non [] from Own.mkVal rfl), List.nodup_nil, (fun a h => nomatch h), (fun a h => nomatch h)⟩
        rcases ha with ⟨i, hi⟩ | ha
        · rcases hA i with h | ⟨h, _⟩
          · rw [h] at hi; cases hi
          · rw [h] at hi; exact ⟨i, hi⟩
        · cases ha
    | ret r =>
      simp only [finFn] at q
      intro v σ' F' H' A' B s rs
      cases ht : takeR env' r with
      | none => simp only [ht] at q
      | some o =>
        cases ho : outs os env' with
        | none => simp only [ht, ho] at q
        | some os' =>
          simp only [ht, ho] at q
          obtain ⟨A'', w2, hA⟩ := fn_out (N := N) w0 rs.ws s.fz ho
          have sub : ∀ a, UA A'' a → UA A' a := fun a ⟨i, hi⟩ => by
            rcases hA i with h | ⟨h, _⟩
            · rw [h] at hi; cases hi
            · rw [h] at hi; exact ⟨i, hi⟩
          cases r with
          | val d =>
            simp only [takeR] at ht; cases ht
            refine q v F' H' A'' B (s.less fun a ha => ha.imp_left (sub a)) ⟨w2, ?_, rs.nd, fun a ha hu => rs.dj a ha (sub a hu), rs.dis⟩
            show Own K F' H' (.val d) v B
            rw [rs.rr.1]
            exact Own.mkVal rs.rr.2
          | own o' =>
            simp only [takeR] at ht; cases ht
            exact q v F' H' A'' B (s.less fun a ha => ha.imp_left (sub a)) ⟨w2, rs.rr, rs.nd, fun a ha hu => rs.dj a ha (sub a hu), rs.dis⟩
          | bor i =>
            simp only [takeR] at ht
            split at ht
            · rename_i o' hi
              cases ht
              have own : Own K F' H' o v (A' i) := rs.ws.at (by rw [hi]; rfl) rs.rr.2
              refine q v F' H' A'' (A' i) (s.less fun a ha => ?_) ⟨w2, own, rs.ws.nd i, fun a ha ⟨j, hj⟩ => ?_, fun a ha => rs.ws.dis i a ha⟩
              · rcases ha with ha | ha
                · exact .inl (sub a ha)
                · exact .inl ⟨i, ha⟩
              · rcases hA j with h | ⟨h, o2, ho2⟩
                · rw [h] at hj; cases hj
                · rw [h] at hj
                  have e := rs.ws.dj i j a ha hj
                  subst e
                  rw [hi] at ho2; cases ho2
            · cases ht
end
/-- THE RULE for a def of the text -/
theorem fn_ok {P : Program} {w : World} {K : PySem.W.Frag} {mg : Str → Option Value} {base : Heap} {x qual : Str} {st : Stmt} {f : Addr} {fd : FuncData} {N ps : List Str} {k : Nat} {body : M Flow} (F : Fun K x qual st f fd) (S : FnScope N ps (defScope st)) (hn : ps.length ≤ N.length)
    (hbody : ∀ (cdv : Value) (A : Around) (outer : List Env) (s : Shared) (H : Hp) (E : XK) (pv : Nat → Option V), fd.code = cdv → Room k (A.deeper (envOfC qual (defScope st) s.heap.objs.size f cdv)) → A.guards = some [] →
      PSs (cxOf (L2.CX P w) P w K mg base N qual (defScope st) f cdv A outer s H E) (defBody st) (sD K mg pv (fun c d _ H => E c d H) body)) :
    GFn P w K mg base (L2.CX P w) (k + 1) f fd ps (spD K mg ps.length (mkFn (N.length - ps.length) body)) :=
  g_of F S (fun vs H Q E h => h.1) fun cdv A outer s H vs Q E hc hr gd h => ⟨_, hbody cdv A outer s H E (pvOf vs) hc hr gd, fn_end hn h⟩
end DL
end
section
set_option maxRecDepth 100000
set_option maxHeartbeats 4000000
namespace DL
open PySem PySem.Spec PyProof.Rows L2
variable [tb : Tb]
/-- two rules for one operator: the first one that speaks -/
def hOr (h h' : D → D → Option R) : D → D → Option R := fun d e => match h d e with
  | some r => some r
  | none => h' d e
theorem OpV.or {r r' : R2} {h h' : D → D → Option R} {K : PySem.W.Frag} (a : OpV K r h) (b : OpV K r' h') : OpV K (fun x y H Q => r x y H Q ∨ r' x y H Q) (hOr h h') := fun F H d1 d2 v1 v2 ro Q s v w e q => by
  unfold hOr at e
  split at e
  · rename_i r1 h1
    cases e
    exact .inl (a F H d1 d2 v1 v2 ro Q s v w h1 q)
  · exact .inr (b F H d1 d2 v1 v2 ro Q s v w e q)
section
variable {K : PySem.W.Frag}
/-! ### ints -/
def hI (C : Int → Int → Bool) (g : Int → Int → D) : D → D → Option R
  | .int i, .int j => if C i j = true then some (.val (g i j)) else none
  | _, _ => none
theorem ov_int {C : Int → Int → Prop} {c : Int → Int → Bool} {g : Int → Int → D} {gv : Int → Int → V} (hc : ∀ i j, c i j = true → C i j) (hg : ∀ i j F, Rep K F (g i j) (gv i j)) : OpV K (rI C gv) (hI c g) := fun F H d1 d2 v1 v2 ro Q s a b e q => by
  cases d1 <;> cases d2 <;> simp [hI] at e
  rename_i i j
  obtain ⟨e1, rfl⟩ := e
  exact ⟨i, j, a, b, hc i j e1, q.flat s (hg i j F)⟩
theorem ov_int0 {g : Int → Int → D} {gv : Int → Int → V} (hg : ∀ i j F, Rep K F (g i j) (gv i j)) : OpV K (rI0 gv) (hI (fun _ _ => true) g) := fun F H d1 d2 v1 v2 ro Q s a b e q => by
  cases d1 <;> cases d2 <;> simp [hI] at e
  rename_i i j
  subst e
  exact ⟨i, j, a, b, q.flat s (hg i j F)⟩
def small64 (i : Int) : Bool := decide (-(2 ^ 64) < i) && decide (i < 2 ^ 64)
def cMul (i j : Int) : Bool := small64 i || small64 j
theorem cMul_ok (i j : Int) (h : cMul i j = true) : CMul i j := by
  unfold cMul small64 at h
  simp only [Bool.or_eq_true, Bool.and_eq_true, decide_eq_true_eq] at h
  exact h
/-! ### texts, lists, tuples joined -/
def hCatS : D → D → Option R
  | .str x, .str y => if x.length + y.length ≤ sizeLine then some (.val (.str (x ++ y))) else none
  | _, _ => none
theorem ov_catS : OpV K (fun x y H Q => ∃ i j, x = .str i ∧ y = .str j ∧ i.length + j.length ≤ sizeLine ∧ Q (.str (i ++ j)) H) hCatS := fun F H d1 d2 v1 v2 ro Q s a b e q => by
  cases d1 <;> cases d2 <;> simp [hCatS] at e
  rename_i i j
  obtain ⟨e1, rfl⟩ := e
  exact ⟨i, j, a, b, e1, q.flat s rfl⟩
def hCatL : D → D → Option R
  | .lst x, .lst y => if x.length + y.length ≤ sizeLine then some (.own (.lst (x ++ y))) else none
  | _, _ => none
theorem ov_catL : OpV K rCat hCatL := fun F H d1 d2 v1 v2 ro Q s a b e q => by
  cases d1 <;> cases d2 <;> simp [hCatL] at e
  rename_i x y
  obtain ⟨e1, rfl⟩ := e
  obtain ⟨l, xs, rfl, h1, r1⟩ := a
  obtain ⟨l', ys, rfl, h2, r2⟩ := b
  exact ⟨l, l', xs, ys, rfl, rfl, h1, h2, by rw [r1.len, r2.len]; exact e1, fun p n => q.lst s (r1.append r2) n⟩
def hCatT : D → D → Option R
  | .tup x, .tup y => if x.length + y.length ≤ sizeLine then some (.val (.tup (x ++ y))) else none
  | _, _ => none
theorem vw_tup {F H : Hp} {ds : List D} {v : V} (s : Same F H) (h : Vw K F H (.tup ds) v) : ∃ a vs, v = .ref a ∧ F a = some (.tup vs) ∧ SqT K H a vs ∧ Reps K F ds vs := by
  have h' : Rep K F (.tup ds) v := h
  simp only [Rep] at h'
  obtain ⟨a, vs, h1, h2, h3⟩ := h'
  exact ⟨a, vs, h1, h2, .of (s _ _ h2), h3⟩
theorem Reps.nil_iff {F : Hp} {ds : List D} {vs : List V} (h : Reps K F ds vs) : vs = [] ↔ ds = [] := by
  have l := h.len
  constructor
  · rintro rfl
    exact List.length_eq_zero_iff.mp (by simpa using l.symm)
  · rintro rfl
    exact List.length_eq_zero_iff.mp (by simpa using l)
theorem ov_catT : OpV K (rCatA K) hCatT := fun F H d1 d2 v1 v2 ro Q s a b e q => by
  cases d1 <;> cases d2 <;> simp [hCatT] at e
  rename_i x y
  obtain ⟨e1, rfl⟩ := e
  obtain ⟨l, xs, rfl, f1, h1, r1⟩ := vw_tup s a
  obtain ⟨l', ys, rfl, f2, h2, r2⟩ := vw_tup s b
  refine ⟨l, l', xs, ys, rfl, rfl, h1, h2, by rw [r1.len, r2.len]; exact e1, fun z => ?_, fun _ z => ?_, fun _ _ p n => q.tup s (r1.append r2) n⟩
  · subst z
    have z' := r1.nil_iff.mp rfl
    subst z'
    refine q.flat s ?_
    simp only [Rep, List.nil_append]
    exact ⟨l', ys, rfl, f2, r2⟩
  · subst z
    have z' := r2.nil_iff.mp rfl
    subst z'
    refine q.flat s ?_
    simp only [Rep, List.append_nil]
    exact ⟨l, xs, rfl, f1, r1⟩
/-! ### repeated -/
def rep {α : Type} (n : Nat) (xs : List α) : List α := (List.replicate n xs).flatten
theorem Reps.rep {F : Hp} {ds : List D} {vs : List V} (h : Reps K F ds vs) : ∀ n, Reps K F (rep n ds) (rep n vs)
  | 0 => rfl
  | n + 1 => by
    unfold DL.rep
    rw [List.replicate_succ, List.replicate_succ, List.flatten_cons, List.flatten_cons]
    exact h.append (Reps.rep h n)
def hRepL : D → D → Option R
  | .lst x, .int k => if -(2 ^ 63) ≤ k ∧ k < 2 ^ 63 ∧ x.length * k.toNat ≤ sizeLine then some (.own (.lst (rep k.toNat x))) else none
  | _, _ => none
theorem ov_repL : OpV K rRep hRepL := fun F H d1 d2 v1 v2 ro Q s a b e q => by
  cases d1 <;> cases d2 <;> simp [hRepL] at e
  rename_i x k
  obtain ⟨⟨e1, e2, e3⟩, rfl⟩ := e
  obtain ⟨l, xs, rfl, h1, r1⟩ := a
  refine ⟨l, k, xs, rfl, b, h1, by simpa using e1, by simpa using e2, by rw [r1.len]; exact e3, fun p n => q.lst s (r1.rep _) n⟩
def hRepT : D → D → Option R
  | .tup x, .int k => if x ≠ [] ∧ 2 ≤ k ∧ k ≤ 1000 ∧ x.length ≤ 1000 then some (.val (.tup (rep k.toNat x))) else none
  | _, _ => none
theorem ov_repT : OpV K (rRepT K) hRepT := fun F H d1 d2 v1 v2 ro Q s a b e q => by
  cases d1 <;> cases d2 <;> simp [hRepT] at e
  rename_i x k
  obtain ⟨⟨e1, e2, e3, e4⟩, rfl⟩ := e
  obtain ⟨l, xs, rfl, f1, h1, r1⟩ := vw_tup s a
  exact ⟨l, k, xs, rfl, b, h1, fun z => e1 (r1.nil_iff.mp z), e2, e3, by rw [r1.len]; exact e4, fun p n => q.tup s (r1.rep _) n⟩
/-! ### plain data -/
def keyPy : Key → PyData
  | .inl i => .int i
  | .inr x => .str x
mutual
def D.py : D → Option PyData
  | .non => some .none
  | .bl b => some (.bool b)
  | .int i => some (.int i)
  | .str x => some (.str x)
  | .tup ds => match D.pys ds with
    | some ps => some (.tuple ps)
    | none => none
  | .ctp ds => match D.pys ds with
    | some ps => some (.tuple ps)
    | none => none
  | .lst ds => match D.pys ds with
    | some ps => some (.list ps)
    | none => none
  | .dct ks ds => match D.pys ds with
    | some ps => some (.dict ((ks.map keyPy).zip ps))
    | none => none
  | _ => none
def D.pys : List D → Option (List PyData)
  | [] => some []
  | d :: ds => match D.py d, D.pys ds with
    | some p, some ps => some (p :: ps)
    | _, _ => none
end
mutual
theorem Rep.dp {F H : Hp} (s : Same F H) : ∀ (d : D) {v : V} {p : PyData}, Rep K F d v → d.py = some p → p.canLay0 = true → Dp K H v p
  | .non, _, _, h, e, _ => by simp only [D.py] at e; cases e; simp only [Rep] at h; subst h; exact .non
  | .bl b, _, _, h, e, _ => by simp only [D.py] at e; cases e; simp only [Rep] at h; subst h; exact .bl b
  | .int i, _, _, h, e, _ => by simp only [D.py] at e; cases e; simp only [Rep] at h; subst h; exact .int i
  | .str x, _, _, h, e, _ => by simp only [D.py] at e; cases e; simp only [Rep] at h; subst h; exact .str x
  | .ty _, _, _, _, e, _ => by simp [D.py] at e
  | .ref _, _, _, _, e, _ => by simp [D.py] at e
  | .rol _, _, _, _, e, _ => by simp [D.py] at e
  | .ins _ _ _, _, _, _, e, _ => by simp [D.py] at e
  | .exn _ _ _, _, _, _, e, _ => by simp [D.py] at e
  | .dct ks ds, _, _, h, e, c => by
    simp only [D.py] at e
    split at e
    · cases e; simp [PyData.canLay0] at c
    · cases e
  | .tup ds, _, _, h, e, c => by
    simp only [D.py] at e
    split at e
    · rename_i ps hp
      cases e
      simp only [Rep] at h
      obtain ⟨a, vs, rfl, h2, h3⟩ := h
      exact .tup (.of (s _ _ h2)) (Reps.dp s ds h3 hp (by simpa [PyData.canLay0] using c))
    · cases e
  | .ctp ds, _, _, h, e, c => by
    simp only [D.py] at e
    split at e
    · rename_i ps hp
      cases e
      simp only [Rep] at h
      obtain ⟨a, vs, rfl, h2, h3⟩ := h
      exact .tup (.inr h2) (Reps.dp s ds h3 hp (by simpa [PyData.canLay0] using c))
    · cases e
  | .lst ds, _, _, h, e, c => by
    simp only [D.py] at e
    split at e
    · rename_i ps hp
      cases e
      simp only [Rep] at h
      obtain ⟨a, vs, rfl, h2, h3⟩ := h
      exact .lst (.of (s _ _ h2)) (Reps.dp s ds h3 hp (by simpa [PyData.canLay0] using c))
    · cases e
theorem Reps.dp {F H : Hp} (s : Same F H) : ∀ (ds : List D) {vs : List V} {ps : List PyData}, Reps K F ds vs → D.pys ds = some ps → PyData.canLayAll0 ps = true → DpAll K H vs ps
  | [], _, _, h, e, _ => by simp only [D.pys] at e; cases e; simp only [Reps] at h; subst h; exact .nil
  | d :: ds, _, _, h, e, c => by
    simp only [D.pys] at e
    split at e
    · rename_i p ps h1 h2
      cases e
      simp only [Reps] at h
      obtain ⟨v, r, rfl, q1, q2⟩ := h
      simp only [PyData.canLayAll0, Bool.and_eq_true] at c
      exact .cons (Rep.dp s d q1 h1 c.1) (Reps.dp s ds q2 h2 c.2)
    · cases e
end
theorem vw_dp {F H : Hp} (s : Same F H) {d : D} {v : V} {p : PyData} (h : Vw K F H d v) (e : d.py = some p) (c : p.canLay0 = true) : Dp K H v p := by
  cases d with
  | lst ds =>
    simp only [D.py] at e
    split at e
    · rename_i ps hp
      cases e
      obtain ⟨a, vs, rfl, h2, h3⟩ := h
      exact .lst (.of h2) (Reps.dp s ds h3 hp (by simpa [PyData.canLay0] using c))
    · cases e
  | dct ks ds =>
    simp only [D.py] at e
    split at e
    · cases e; simp [PyData.canLay0] at c
    · cases e
  | _ => exact Rep.dp s _ h e c
def hEq (neg : Bool) : D → D → Option R := fun d e => match d.py, e.py with
  | some p, some q => if SeqAt.shaped p = true ∧ SeqAt.shaped q = true then some (.val (.bl (if neg then !PyData.eqv p q else PyData.eqv p q))) else none
  | _, _ => none
theorem ov_eq : OpV K (rEqD K) (hEq false) := fun F H d1 d2 v1 v2 ro Q s a b e q => by
  unfold hEq at e
  split at e
  · rename_i p p' h1 h2
    split at e
    · rename_i hs
      cases e
      exact ⟨p, p', vw_dp s a h1 (SeqAt.canLay_of_shaped hs.1), vw_dp s b h2 (SeqAt.canLay_of_shaped hs.2), hs.1, hs.2, q.flat s rfl⟩
    · cases e
  · cases e
theorem ov_ne : OpV K (rNeD K) (hEq true) := fun F H d1 d2 v1 v2 ro Q s a b e q => by
  unfold hEq at e
  split at e
  · rename_i p p' h1 h2
    split at e
    · rename_i hs
      cases e
      exact ⟨p, p', vw_dp s a h1 (SeqAt.canLay_of_shaped hs.1), vw_dp s b h2 (SeqAt.canLay_of_shaped hs.2), hs.1, hs.2, q.flat s rfl⟩
    · cases e
  · cases e
/-! ### is -/
/-! ### in -/
def hInL (neg : Bool) : D → D → Option R := fun d e => match d.py, e.py with
  | some p, some (.list qs) => if SeqAt.shaped p = true ∧ SeqAt.shaped (.list qs) = true then some (.val (.bl (if neg then !qs.any fun z => PyData.eqv z p else qs.any fun z => PyData.eqv z p))) else none
  | _, _ => none
theorem ov_inL : OpV K (rInD K) (hInL false) := fun F H d1 d2 v1 v2 ro Q s a b e q => by
  unfold hInL at e
  split at e
  · rename_i p qs h1 h2
    split at e
    · rename_i hs
      cases e
      exact ⟨p, qs, vw_dp s a h1 (SeqAt.canLay_of_shaped hs.1), vw_dp s b h2 (SeqAt.canLay_of_shaped hs.2), hs.1, hs.2, q.flat s rfl⟩
    · cases e
  · cases e
end
/-! ### the operators -/
def hAdd : D → D → Option R := hOr (hOr (hOr (hI (fun _ _ => true) fun i j => .int (i + j)) hCatS) hCatL) hCatT
def hMul : D → D → Option R := hOr (hOr (hI cMul fun i j => .int (i * j)) hRepL) hRepT
def hCmp (p : Int → Int → Bool) : D → D → Option R := hI (fun _ _ => true) fun i j => .bl (p i j)
section
variable {X : Cx} {pv : Nat → Option V} {W : WX} {f g : M R} {a b : Expr} {pos : Pos}
theorem de_add (ha : PE X a (tD X.K X.mg pv W f)) (hb : PE X b (tD X.K X.mg pv W g)) : PE X (.BinOp a .Add b pos) (tD X.K X.mg pv W (op2 hAdd f g)) :=
  de_op (((op_add.or op_add_str).or op_cat).or op_catA) ((((ov_int0 (g := fun i j => .int (i + j)) (gv := fun i j => .int (i + j)) fun _ _ _ => rfl).or ov_catS).or ov_catL).or ov_catT) ha hb
theorem de_mul (ha : PE X a (tD X.K X.mg pv W f)) (hb : PE X b (tD X.K X.mg pv W g)) : PE X (.BinOp a .Mult b pos) (tD X.K X.mg pv W (op2 hMul f g)) :=
  de_op ((op_mul.or op_rep).or op_repT) (((ov_int (g := fun i j => .int (i * j)) (gv := fun i j => .int (i * j)) cMul_ok fun _ _ _ => rfl).or ov_repL).or ov_repT) ha hb
/-- a comparison's rule -/
structure CmpR (X : Cx) (op : CmpOp) (h : D → D → Option R) : Prop where
  ex : ∃ r, OpR X (compareOp op) r ∧ OpV X.K r h
theorem cr_eq {k : Nat} (hr : Room k X.A) : CmpR X .Eq (hEq false) := ⟨_, op_eqD hr.units, ov_eq⟩
theorem cr_ne {k : Nat} (hr : Room k X.A) : CmpR X .NotEq (hEq true) := ⟨_, op_neD hr.units, ov_ne⟩
theorem de_cmpR {op : CmpOp} {h : D → D → Option R} (c : CmpR X op h) (ha : PE X a (tD X.K X.mg pv W f)) (hb : PE X b (tD X.K X.mg pv W g)) (hm : behindInMarks op b = false := by first | exact nomark _ | rfl) : PE X (.Compare a [op] [b] pos) (tD X.K X.mg pv W (op2 h f g)) :=
  let ⟨_, o, v⟩ := c.ex
  de_cmp o v ha hb hm
theorem dt_cmpR {op : CmpOp} {h : D → D → Option R} (c : CmpR X op h) (ha : PE X a (tD X.K X.mg pv W f)) (hb : PE X b (tD X.K X.mg pv W g)) (hm : behindInMarks op b = false := by first | exact nomark _ | rfl) : PT X (.Compare a [op] [b] pos) (tDT X.K X.mg pv W (tst (op2 h f g))) :=
  let ⟨_, o, v⟩ := c.ex
  dt_cmp o v ha hb hm
end
end DL
end
section
set_option maxRecDepth 100000
set_option maxHeartbeats 4000000
namespace DL
open PySem PySem.Spec PyProof.Rows L2
variable [tb : Tb]
section
variable {K : PySem.W.Frag}
/-! ### in: a tuple, a text -/
def rInT (K : PySem.W.Frag) (neg : Bool) : R2 := fun x y H Q => ∃ d ds, Dp K H x d ∧ Dp K H y (.tuple ds) ∧ SeqAt.shaped d = true ∧ SeqAt.shaped (.tuple ds) = true ∧ Q (.bl (if neg then !ds.any fun z => PyData.eqv z d else ds.any fun z => PyData.eqv z d)) H
theorem room_in2 {A : Around} {d : PyData} {xs : List PyData} (hd : SeqAt.shaped d = true) (hu : A.units + 65 < cLine) : A.units + 1 + min (PyData.depthAll xs) d.depth < cLine := by
  have h1 := SeqAt.depth_of_shaped hd
  have h2 : min (PyData.depthAll xs) d.depth ≤ d.depth := Nat.min_le_right _ _
  omega
theorem op_inT {X : Cx} (hu : X.A.units + 65 < cLine) : OpR X (compareOp .In) (rInT X.K false) := by
  rintro pins s σ H x y v u Q I rx ry ⟨d, ds, hd, he, sd, se, q⟩
  obtain ⟨as, r1⟩ := Dp.reads I d x v hd rx
  obtain ⟨bs, r2⟩ := Dp.reads I (.tuple ds) y u he ry
  exact SeqAt.in_tuple_reads r2 r1 (by have := SeqAt.canLay_of_shaped se; simpa [PyData.canLay0] using this) (SeqAt.canLay_of_shaped sd) (room_in2 sd hu) ⟨.bl _, H, I, rfl, q⟩
def hInT (neg : Bool) : D → D → Option R := fun d e => match d.py, e.py with
  | some p, some (.tuple qs) => if SeqAt.shaped p = true ∧ SeqAt.shaped (.tuple qs) = true then some (.val (.bl (if neg then !qs.any fun z => PyData.eqv z p else qs.any fun z => PyData.eqv z p))) else none
  | _, _ => none
theorem ov_inT (neg : Bool) : OpV K (rInT K neg) (hInT neg) := fun F H d1 d2 v1 v2 ro Q s a b e q => by
  unfold hInT at e
  split at e
  · rename_i p qs h1 h2
    split at e
    · rename_i hs
      cases e
      exact ⟨p, qs, vw_dp s a h1 (SeqAt.canLay_of_shaped hs.1), vw_dp s b h2 (SeqAt.canLay_of_shaped hs.2), hs.1, hs.2, q.flat s rfl⟩
    · cases e
  · cases e
def hInS (neg : Bool) : D → D → Option R
  | .str x, .str z => match x.cps.toList with
    | [c] => some (.val (.bl (if neg then !decide (c ∈ z.cps.toList) else decide (c ∈ z.cps.toList))))
    | _ => none
  | _, _ => none
theorem one_sign {x : Str} {c : Nat} (h : x.cps.toList = [c]) : x = ⟨#[c]⟩ := by
  obtain ⟨a⟩ := x
  have : a = #[c] := by
    apply Array.ext'
    simpa using h
  rw [this]
theorem ov_inS : OpV K (fun x y H Q => ∃ (c : Nat) (z : Str), x = .str ⟨#[c]⟩ ∧ y = .str z ∧ Q (.bl (decide (c ∈ z.cps.toList))) H) (hInS false) := fun F H d1 d2 v1 v2 ro Q s a b e q => by
  cases d1 <;> cases d2 <;> simp [hInS] at e
  rename_i x z
  split at e
  · rename_i c hc
    cases e
    have hx := one_sign hc
    subst hx
    exact ⟨c, z, a, b, q.flat s (by simp [Rep])⟩
  · cases e
def hIn (neg : Bool) : D → D → Option R := hOr (hOr (hInL neg) (hInT neg)) (hInS neg)
/-! ### items -/
theorem atI_rel {F : Hp} {ds : List D} {vs : List V} {i : Int} {d : D} (h : Reps K F ds vs) (e : atI ds i = some d) : ∃ v, atI vs i = some v ∧ Rep K F d v := by
  unfold atI at e ⊢
  rw [h.len]
  obtain ⟨j, h1, h2⟩ := Option.bind_eq_some_iff.mp e
  obtain ⟨v, h3, h4⟩ := h.get h2
  exact ⟨v, by rw [h1]; exact h3, h4⟩
def hIx : D → D → Option R
  | .lst ds, .int i => (atI ds i).map .val
  | .tup ds, .int i => (atI ds i).map .val
  | .str z, .int i => if z.length ≤ sizeLine then (atI z.cps.toList i).map fun c => .val (.str ⟨#[c]⟩) else none
  | _, _ => none
theorem ov_ix : OpV K (rIx K) hIx := fun F H d1 d2 v1 v2 ro Q s a b e q => by
  cases d1 <;> cases d2 <;> simp [hIx] at e
  · rename_i z i
    obtain ⟨hz, c, hc, rfl⟩ := e
    exact .inr (.inr ⟨z, i, c, a, b, hz, hc, q.flat s rfl⟩)
  · rename_i ds i
    obtain ⟨d, hd, rfl⟩ := e
    obtain ⟨l, xs, rfl, f1, h1, r1⟩ := vw_tup s a
    obtain ⟨v, h2, h3⟩ := atI_rel r1 hd
    exact .inr (.inl ⟨l, xs, i, v, rfl, b, h1, h2, q.flat s h3⟩)
  · rename_i ds i
    obtain ⟨d, hd, rfl⟩ := e
    obtain ⟨l, xs, rfl, h1, r1⟩ := a
    obtain ⟨v, h2, h3⟩ := atI_rel r1 hd
    exact .inl ⟨l, xs, i, v, rfl, b, .of h1, h2, q.flat s h3⟩
/-! ### slices -/
def cut' {α : Type} (xs : List α) (lo hi : Option Int) : List α := (xs.drop (HT.sIx xs.length 0 lo)).take (HT.sIx xs.length xs.length hi - HT.sIx xs.length 0 lo)
theorem Reps.cut {F : Hp} {ds : List D} {vs : List V} (h : Reps K F ds vs) (lo hi : Option Int) : Reps K F (cut' ds lo hi) (cutV vs lo hi) := by
  unfold cut' cutV
  rw [h.len]
  exact (h.drop _).take _
theorem cut_whole {α : Type} {xs : List α} {lo hi : Option Int} (h : HT.sIx xs.length 0 lo = 0 ∧ HT.sIx xs.length xs.length hi = xs.length) : cut' xs lo hi = xs := by
  unfold cut'
  rw [h.1, h.2]
  simp
def hSl : D → Option Int → Option Int → Option R
  | .lst ds, lo, hi => some (.own (.lst (cut' ds lo hi)))
  | .rol ds, lo, hi => some (.own (.lst (cut' ds lo hi)))
  | .tup ds, lo, hi => some (.val (.tup (cut' ds lo hi)))
  | .str z, lo, hi => if z.length ≤ sizeLine then some (.val (.str (cutS z lo hi))) else none
  | _, _, _ => none
abbrev rSlAll (K : PySem.W.Frag) : V → Option Int → Option Int → Hp → VK → Prop := fun x lo hi H Q => (fun x lo hi H Q => rSlL K x lo hi H Q ∨ rSlA K x lo hi H Q) x lo hi H Q ∨ rSlS x lo hi H Q
theorem sv_all {F H : Hp} {d : D} {v : V} {lo hi : Option Int} {ro : R} {Q : VK} (s : Same F H) (a : Vw K F H d v) (e : hSl d lo hi = some ro) (q : VOk K F H ro Q) : rSlAll K v lo hi H Q := by
  cases d <;> simp [hSl] at e
  · rename_i z
    obtain ⟨hz, rfl⟩ := e
    exact .inr ⟨z, a, hz, q.flat s rfl⟩
  · rename_i ds
    subst e
    obtain ⟨l, xs, rfl, f1, h1, r1⟩ := vw_tup s a
    refine .inl (.inr ⟨l, xs, rfl, h1, fun hw => ?_, fun _ p n => q.tup s (r1.cut lo hi) n⟩)
    rw [r1.len] at hw
    refine q.flat s ?_
    rw [cut_whole hw]
    simp only [Rep]
    exact ⟨l, xs, rfl, f1, r1⟩
  · rename_i ds
    subst e
    obtain ⟨l, xs, rfl, h1, r1⟩ := a
    exact .inl (.inl ⟨l, xs, rfl, .of h1, fun p n => q.lst s (r1.cut lo hi) n⟩)
  · rename_i ds
    subst e
    have a' : Rep K F (.rol ds) v := a
    simp only [Rep] at a'
    obtain ⟨l, xs, rfl, h1, r1⟩ := a'
    exact .inl (.inl ⟨l, xs, rfl, s.seq h1, fun p n => q.lst s (r1.cut lo hi) n⟩)
end
/-- a part of a slice -/
def dPart (f : M R) : M (Option Int) := fun env => (f env).bind fun r e => match resolve e r with
  | some (.int i) => .ok (some i) e
  | _ => .bad
def dNoPart : M (Option Int) := fun env => .ok none env
def dSl (f : M R) (lo hi : M (Option Int)) : M R := fun env => (f env).bind fun r e => (lo e).bind fun l e1 => (hi e1).bind fun h e2 => match resolve e2 r with
  | some d => (match hSl d l h with
    | some ro => .ok ro e2
    | none => .bad)
  | none => .bad
def tDO (K : PySem.W.Frag) (mg : Str → Option Value) (pv : Nat → Option V) (W : WX) (f : M (Option Int)) : TO := fun σ H Q => ∃ env F A, WS K pv env σ F H A ∧
  match f env with
  | .bad => False
  | .ok b env' => ∀ F' H' A', Step F H (UA A) F' H' (UA A') → WS K pv env' σ F' H' A' → Q b H'
  | .exc c env' => ∀ F' H' A', Step F H (UA A) F' H' (UA A') → WS K pv env' σ F' H' A' → exW mg W c σ H'
section
variable {X : Cx} {pv : Nat → Option V} {W : WX} {f g : M R} {lo hi : M (Option Int)} {a b : Expr} {le he : Option Expr} {pos p2 : Pos}
theorem PO.imp {e : Option Expr} {t t' : TO} (h : PO X e t) (i : ∀ σ H Q, t' σ H Q → t σ H Q) : PO X e t' := ⟨fun pins s σ H Q I q => h.run pins s σ H Q I (i σ H Q q)⟩
theorem do_none : PO X none (tDO X.K X.mg pv W dNoPart) := PO.imp po_none fun σ H Q q => by
  obtain ⟨env, F, A, ws, q⟩ := q
  exact q F H A Step.refl ws
theorem do_some (h : PE X a (tD X.K X.mg pv W f)) : PO X (some a) (tDO X.K X.mg pv W (dPart f)) := PO.imp (po_some h) fun σ H Q q => by
  obtain ⟨env, F, A, ws, q⟩ := q
  simp only [dPart] at q
  refine tD_bind ws (fun e => ?_) (fun c e1 e F1 H1 A1 s1 w1 => ?_) (fun r1 e1 e v1 F1 H1 A1 B1 s1 rs1 => ?_)
  · rw [e] at q; exact q
  · rw [e] at q; exact q F1 H1 A1 s1 w1
  · rw [e] at q
    simp only [Res.bind] at q
    cases hr : resolve e1 r1 with
    | none => simp only [hr] at q
    | some d =>
      cases d with
      | int i =>
        simp only [hr] at q
        exact ⟨i, rs1.rr.view rs1.ws hr, q F1 H1 A1 (step_drop s1) rs1.ws⟩
      | _ => simp only [hr] at q
theorem tDO_after {K : PySem.W.Frag} {mg : Str → Option Value} {σ : L2.St} {F0 H0 F1 H1 : Hp} {A0 A1 : Nat → List Addr} {e : DEnv} {Q : Option Int → Hp → Prop} (s : Step F0 H0 (UA A0) F1 H1 (UA A1)) (w : WS K pv e σ F1 H1 A1)
    (hb : lo e ≠ .bad) (hx : ∀ c e', lo e = .exc c e' → ∀ F' H' A', Step F0 H0 (UA A0) F' H' (UA A') → WS K pv e' σ F' H' A' → exW mg W c σ H')
    (hk : ∀ b e', lo e = .ok b e' → ∀ F' H' A', Step F1 H1 (UA A1) F' H' (UA A') → WS K pv e' σ F' H' A' → Q b H') : tDO K mg pv W lo σ H1 Q := by
  refine ⟨e, F1, A1, w, ?_⟩
  cases h : lo e with
  | bad => exact hb h
  | ok b e' => exact hk b e' h
  | exc c e' => exact fun F' H' A' s' w' => hx c e' h F' H' A' (s.trans s') w'
theorem de_sl (ha : PE X a (tD X.K X.mg pv W f)) (hl : PO X le (tDO X.K X.mg pv W lo)) (hh : PO X he (tDO X.K X.mg pv W hi)) : PE X (.Subscript a (.Slice le he none p2) pos) (tD X.K X.mg pv W (dSl f lo hi)) :=
  (pe_slice ((sl_list.or sl_tupA).or sl_str) ha hl hh).imp fun σ H Q q => by
    obtain ⟨env, F, A, ws, q⟩ := q
    simp only [dSl] at q
    refine tD_bind ws (fun e => ?_) (fun c e1 e F1 H1 A1 s1 w1 => ?_) (fun r1 e1 e v1 F1 H1 A1 B1 s1 rs1 => ?_)
    · rw [e] at q; exact q
    · rw [e] at q; exact q F1 H1 A1 s1 w1
    · rw [e] at q
      simp only [Res.bind] at q
      refine tDO_after (step_drop s1) rs1.ws (fun z => ?_) (fun c e2 z => ?_) fun l e2 z F2 H2 A2 s2 w2 => ?_
      · rw [z] at q; exact q
      · rw [z] at q; exact q
      rw [z] at q
      simp only at q
      refine tDO_after ((step_drop s1).trans s2) w2 (fun z => ?_) (fun c e3 z => ?_) fun h e3 z F3 H3 A3 s3 w3 => ?_
      · rw [z] at q; exact q
      · rw [z] at q; exact q
      rw [z] at q
      simp only at q
      obtain ⟨k1, k2, k3⟩ := rs1.wait (s2.trans s3) w3
      cases hd : resolve e3 r1 with
      | none => simp only [hd] at q
      | some d =>
        cases hs : hSl d l h with
        | none => simp only [hd, hs] at q
        | some ro =>
          simp only [hd, hs] at q
          refine sv_all w3.sub (k1.view w3 hd) hs fun v F4 H4 B4 n s rv => ?_
          obtain ⟨z1, z2⟩ := fin_op (s1.trans ((s2.trans s3).frame fun a => a ∈ B1)) (fun a ha => .inl ha) w3 n s rv
          exact q v F4 H4 A3 B4 z1 z2
theorem de_ix (ha : PE X a (tD X.K X.mg pv W f)) (hb : PE X b (tD X.K X.mg pv W g)) (hs : PlainIx b := by exact fun _ _ => rfl) : PE X (.Subscript a b pos) (tD X.K X.mg pv W (op2 hIx f g)) :=
  (pe_ix ix_seq ha hb hs).imp fun _ _ _ q => op2_rd ov_ix q
end

/-! ### calls by values -/
def resolves (env : DEnv) : List R → Option (List D)
  | [] => some []
  | r :: rs => match resolve env r, resolves env rs with
    | some d, some ds => some (d :: ds)
    | _, _ => none
def Vws (K : PySem.W.Frag) (F H : Hp) : List D → List V → Prop
  | [], vs => vs = []
  | d :: ds, vs => ∃ v r, vs = v :: r ∧ Vw K F H d v ∧ Vws K F H ds r
theorem RReps.views {K : PySem.W.Frag} {pv : Nat → Option V} {env : DEnv} {σ : L2.St} {F H : Hp} {A : Nat → List Addr} (w : WS K pv env σ F H A) : ∀ {rs : List R} {vs : List V} {B : List Addr} {ds : List D}, RReps K env σ F H rs vs B → resolves env rs = some ds → Vws K F H ds vs
  | [], _, _, _, h, e => by simp only [resolves] at e; cases e; exact h.1
  | r :: rs, _, _, _, h, e => by
    simp only [resolves] at e
    split at e
    · rename_i d ds h1 h2
      cases e
      obtain ⟨v, t, B1, B2, rfl, rfl, r1, r2⟩ := h
      exact ⟨v, t, rfl, r1.view w h1, RReps.views w r2 h2⟩
    · cases e
def CallV (K : PySem.W.Frag) (r : List V → Hp → VK → Prop) (h : List D → Option R) : Prop := ∀ (F H : Hp) (ds : List D) (vs : List V) (ro : R) (Q : VK), Same F H → Vws K F H ds vs → h ds = some ro → VOk K F H ro Q → r vs H Q
def finB (h : List D → Option R) (rs : List R) (env : DEnv) : Res R := match resolves env rs with
  | some ds => (match h ds with
    | some ro => .ok ro env
    | none => .bad)
  | none => .bad
def dB (h : List D → Option R) (fs : M (List R)) : M R := fun env => (fs env).bind (finB h)
theorem dB_rd {K : PySem.W.Frag} {mg : Str → Option Value} {pv : Nat → Option V} {W : WX} {h : List D → Option R} {r : List V → Hp → VK → Prop} {fs : M (List R)} {σ : L2.St} {H : Hp} {Q : VK} (hv : CallV K r h) (q : tD K mg pv W (dB h fs) σ H Q) : tCB r (tDA K mg pv W fs) σ H Q := by
  obtain ⟨env, F, A, ws, q⟩ := q
  simp only [dB] at q
  refine tDA_bind ws (fun e => ?_) (fun c e1 e F1 H1 A1 s1 w1 => ?_) (fun r1 e1 e v1 F1 H1 A1 B1 s1 rs1 => ?_)
  · rw [e] at q; exact q
  · rw [e] at q; exact q F1 H1 A1 s1 w1
  · rw [e] at q
    simp only [Res.bind, finB] at q
    cases hd : resolves e1 r1 with
    | none => simp only [hd] at q
    | some ds =>
      cases hs : h ds with
      | none => simp only [hd, hs] at q
      | some ro =>
        simp only [hd, hs] at q
        refine hv F1 H1 ds v1 ro Q rs1.ws.sub (rs1.rr.views rs1.ws hd) hs fun v F4 H4 B4 n s rv => ?_
        obtain ⟨z1, z2⟩ := fin_op s1 (fun a ha => .inl ha) rs1.ws n s rv
        exact q v F4 H4 A1 B4 z1 z2
/-- a built-in function's rule, by data -/
structure BltR (X : Cx) (id : String) (h : List D → Option R) : Prop where
  ex : ∃ r, CallR X (.builtin id) r ∧ CallV X.K r h
structure TypR (X : Cx) (T : String) (h : List D → Option R) : Prop where
  ex : ∃ r, CallR X (.type T) r ∧ CallV X.K r h
section
variable {X : Cx} {pv : Nat → Option V} {W : WX} {fs : M (List R)} {x : Str} {p pos : Pos} {e : Expr} {es : List Expr} {id T : String} {h : List D → Option R}
theorem de_blt (b : BltR X id h) (hg : Gl X x) (hm : X.mg x = none) (hv : bootBuiltins x = some (.builtin id)) (ha : PA X (e :: es) (tDA X.K X.mg pv W fs)) (hn : x ≠ "__name__" := by decide) (hdb : (x == ("__debug__" : Str)) = false := by decide)
    (he : starEach (e :: es) X.env = (false, eval e X.env) :: starEach es X.env := by rfl) (hpl : (backTo pos (starEach es X.env)).any (·.1) = false := by rfl) : PE X (.Call (.Name x p) (e :: es) [] pos) (tD X.K X.mg pv W (dB h fs)) :=
  let ⟨_, c, v⟩ := b.ex
  (pe_callB c hg hm hv ha hn hdb he hpl).imp fun _ _ _ q => dB_rd v q
theorem de_typ (b : TypR X T h) (hg : Gl X x) (hm : X.mg x = none) (hv : bootBuiltins x = some (.type T)) (ha : PA X (e :: es) (tDA X.K X.mg pv W fs)) (hn : x ≠ "__name__" := by decide) (hdb : (x == ("__debug__" : Str)) = false := by decide)
    (he : starEach (e :: es) X.env = (false, eval e X.env) :: starEach es X.env := by rfl) (hpl : (backTo pos (starEach es X.env)).any (·.1) = false := by rfl) : PE X (.Call (.Name x p) (e :: es) [] pos) (tD X.K X.mg pv W (dB h fs)) :=
  let ⟨_, c, v⟩ := b.ex
  (pe_callTy c hg hm hv ha hn hdb he hpl).imp fun _ _ _ q => dB_rd v q
end
end DL
end
section
set_option maxRecDepth 100000
set_option maxHeartbeats 4000000
namespace DL
open PySem PySem.Spec PyProof.Rows L2
variable [tb : Tb]
section
variable {K : PySem.W.Frag} {F H : Hp}
theorem Vws.one {d : D} {vs : List V} (h : Vws K F H [d] vs) : ∃ v, vs = [v] ∧ Vw K F H d v := by
  obtain ⟨v, r, rfl, h1, h2⟩ := h
  simp only [Vws] at h2
  subst h2
  exact ⟨v, rfl, h1⟩
theorem Vws.two {d e : D} {vs : List V} (h : Vws K F H [d, e] vs) : ∃ v u, vs = [v, u] ∧ Vw K F H d v ∧ Vw K F H e u := by
  obtain ⟨v, r, rfl, h1, h2⟩ := h
  obtain ⟨u, rfl, h3⟩ := Vws.one h2
  exact ⟨v, u, rfl, h1, h3⟩
/-! ### len -/
def hLen : List D → Option R
  | [.str y] => if y.length ≤ sizeLine then some (.val (.int y.length)) else none
  | [.lst ds] => some (.val (.int ds.length))
  | [.tup ds] => some (.val (.int ds.length))
  | _ => none
theorem blt_len {X : Cx} : BltR X "len" hLen := ⟨_, call_len, fun F H ds vs ro Q s a e q => by
  cases ds with
  | nil => simp [hLen] at e
  | cons d r =>
    cases r with
    | cons _ _ => cases d <;> simp [hLen] at e
    | nil =>
      obtain ⟨v, rfl, hv⟩ := Vws.one a
      cases d <;> simp [hLen] at e
      · rename_i y
        obtain ⟨h1, rfl⟩ := e
        have hv : v = .str y := hv
        subst hv
        exact ⟨_, _, rfl, ⟨h1, rfl⟩, q.flat s rfl⟩
      · rename_i ds
        subst e
        obtain ⟨l, xs, rfl, f1, h1, r1⟩ := vw_tup s hv
        exact ⟨_, _, rfl, .inr ⟨xs, h1, rfl⟩, q.flat s (by rw [r1.len]; rfl)⟩
      · rename_i ds
        subst e
        obtain ⟨l, xs, rfl, h1, r1⟩ := hv
        exact ⟨_, _, rfl, .inl ⟨xs, .of h1, rfl⟩, q.flat s (by rw [r1.len]; rfl)⟩⟩
/-! ### isinstance against a built-in type -/
/-- a built-in type as a value -/
theorem de_ty {X : Cx} {pv : Nat → Option V} {W : WX} {x : Str} {T : String} {pos : Pos} (hg : Gl X x) (hm : X.mg x = none) (hv : bootBuiltins x = some (.type T)) (hn : x ≠ "__name__" := by decide) (hd : (x == ("__debug__" : Str)) = false := by decide) :
    PE X (.Name x pos) (tD X.K X.mg pv W (dC (.ty T))) := de_c (pe_bltn hg hm hv (v := .ty T) rfl hn hd) fun _ => rfl
/-! ### lists of ints, of bools -/
def D.ints : List D → Option (List Int)
  | [] => some []
  | .int i :: ds => (D.ints ds).map (i :: ·)
  | _ :: _ => none
@[simp] theorem D.ints_map (ns : List Int) : D.ints (ns.map D.int) = some ns := by
  induction ns with
  | nil => rfl
  | cons n ns ih => simp [D.ints, ih]
theorem Reps.ints : ∀ {ns : List Int} {vs : List V}, Reps K F (ns.map D.int) vs → vs = ns.map V.int
  | [], vs, h => h
  | n :: ns, vs, h => by
    obtain ⟨v, r, rfl, h1, h2⟩ := h
    have h1 : v = .int n := h1
    rw [Reps.ints h2, h1]; rfl
theorem Reps.of_ints : ∀ (ns : List Int), Reps K F (ns.map D.int) (ns.map V.int)
  | [] => rfl
  | n :: ns => ⟨_, _, rfl, rfl, Reps.of_ints ns⟩
/-! ### types called -/
/-! ### displays -/
def frzR : R → Option D
  | .val d => some d
  | .own o => o.frz
  | .bor _ => none
def frzRs : List R → Option (List D)
  | [] => some []
  | r :: rs => match frzR r, frzRs rs with
    | some d, some ds => some (d :: ds)
    | _, _ => none
theorem frz_rel {env : DEnv} {σ : L2.St} {G : Hp} (s : Same F G) : ∀ {rs : List R} {vs : List V} {B : List Addr} {ds : List D}, RReps K env σ F H rs vs B → frzRs rs = some ds → (∀ a ∈ B, G a = H a) → Reps K G ds vs
  | [], _, _, _, h, e, _ => by simp only [frzRs] at e; cases e; exact h.1
  | r :: rs, _, _, _, h, e, b => by
    simp only [frzRs] at e
    split at e
    · rename_i d ds h1 h2
      cases e
      obtain ⟨v, t, B1, B2, rfl, rfl, r1, r2⟩ := h
      refine ⟨v, t, rfl, ?_, frz_rel s r2 h2 fun a ha => b a (List.mem_append_right _ ha)⟩
      cases r with
      | val d' => simp only [frzR] at h1; cases h1; exact Rep.same s _ r1.2
      | own o => simp only [frzR] at h1; exact Own.frz s o r1 (fun a ha => b a (List.mem_append_left _ ha)) h1
      | bor i => simp [frzR] at h1
    · cases e
def dLst (fs : M (List R)) : M R := fun env => (fs env).bind fun rs e => match frzRs rs with
  | some ds => if ds.length ≤ sizeLine then .ok (.own (.lst ds)) e else .bad
  | none => .bad
/-- everything that was made on the way is frozen -/
theorem all_frz {mg : Str → Option Value} {pv : Nat → Option V} {env : DEnv} {σ : L2.St} {F0 H0 : Hp} {A A0 : Nat → List Addr} {B : List Addr} {rs : List R} {vs : List V} {ds : List D} (st : Step F0 H0 (UA A0) F H (fun a => UA A a ∨ a ∈ B)) (rss : RSs K pv env σ rs vs F H A B) (e : frzRs rs = some ds) :
    ∃ G, Step F0 H0 (UA A0) G H (UA A) ∧ WS K pv env σ G H A ∧ Reps K G ds vs := by
  have ws := rss.ws
  have sG : Same F (ext F H fun a => a ∈ B) := ext_same ws.sub
  refine ⟨ext F H fun a => a ∈ B, ?_, ?_, frz_rel sG rss.rr e fun a ha => ext_in ha⟩
  · refine st.trans ⟨sG, fun a u e _ _ => e, (fun t => t.frz (ext_tb1 fun a ha => rrs_nd rss.rr a ha)), fun a ha => ?_, fun a ha => ha, fun a ha => .inl (.inl ha)⟩
    by_cases hB : a ∈ B
    · exact .inr (.inr (.inr hB))
    · rw [ext_out hB] at ha; exact .inl ha
  · refine ws.stay sG (ext_sub ws.sub) (fun _ _ _ z => z) (fun b hb => ?_) (fun t => t.frz (ext_tb1 fun a ha => rrs_nd rss.rr a ha))
    rw [ext_out fun hB => rss.dj b hB hb]; exact ws.disU hb
section
variable {X : Cx} {pv : Nat → Option V} {W : WX} {fs : M (List R)} {es : List Expr} {pos : Pos}
theorem de_lst (h : PA X es (tDA X.K X.mg pv W fs)) : PE X (.List es pos) (tD X.K X.mg pv W (dLst fs)) := (pe_lst h).imp fun σ H Q q => by
  obtain ⟨env, F, A, ws, q⟩ := q
  simp only [dLst] at q
  refine tDA_bind ws (fun e => ?_) (fun c e1 e F1 H1 A1 s1 w1 => ?_) (fun r1 e1 e v1 F1 H1 A1 B1 s1 rs1 => ?_)
  · rw [e] at q; exact q
  · rw [e] at q; exact q F1 H1 A1 s1 w1
  · rw [e] at q
    simp only [Res.bind] at q
    cases hd : frzRs r1 with
    | none => simp only [hd] at q
    | some ds =>
      simp only [hd] at q
      split at q
      · exact q.elim
      · rename_i r' e' hq
        split at hq
        · rename_i hz
          cases hq
          obtain ⟨G, s2, w2, rp⟩ := all_frz (mg := X.mg) s1 rs1 hd
          refine ⟨by rw [rp.len]; exact hz, fun p n => ?_⟩
          refine VOk.lst (fun v F3 H3 B3 nw sm rv => ?_) w2.sub rp n
          obtain ⟨z1, z2⟩ := fin_op s2 (fun a ha => ha) w2 nw sm rv
          exact q v F3 H3 A1 B3 z1 z2
        · cases hq
      · rename_i hq
        split at hq <;> cases hq
end
end
end DL
end
section
set_option maxRecDepth 100000
set_option maxHeartbeats 4000000
namespace DL
open PySem PySem.Spec PyProof.Rows L2
variable [tb : Tb]
/-! ### targets -/
inductive Tgt where
  | nm (i : Nat) | tp (l : List Tgt)
mutual
def asg : Tgt → D → DEnv → Option DEnv
  | .nm i, d, env => if free env i = true then some (env.set i (.own (.val d))) else none
  | .tp l, .tup ds, env => asgs l ds env
  | .tp _, _, _ => none
def asgs : List Tgt → List D → DEnv → Option DEnv
  | [], [], env => some env
  | t :: ts, d :: ds, env => match asg t d env with
    | some e => asgs ts ds e
    | none => none
  | _, _, _ => none
end
mutual
def Tgt.vars : Tgt → List Nat
  | .nm i => [i]
  | .tp l => Tgt.varss l
def Tgt.varss : List Tgt → List Nat
  | [] => []
  | t :: ts => t.vars ++ Tgt.varss ts
end
def gD (K : PySem.W.Frag) (pv : Nat → Option V) (tg : Tgt) : TG := fun v σ H Q => ∃ env F A d, WS K pv env σ F H A ∧ Rep K F d v ∧
  match asg tg d env with
  | none => False
  | some env' => ∀ σ' A', WS K pv env' σ' F H A' → (∀ a, UA A' a → UA A a) → (∀ j, j ∉ tg.vars → σ'[j]? = σ[j]?) → Q σ' H
section
variable {X : Cx} {pv : Nat → Option V} {pos : Pos}
theorem _root_.L2.PG.imp {e : Expr} {t t' : TG} (h : PG X e t) (i : ∀ v σ H Q, t' v σ H Q → t v σ H Q) : PG X e t' := ⟨fun pins s σ H v u Q I r q => h.run pins s σ H v u Q I r (i v σ H Q q)⟩
theorem _root_.L2.PGs.imp {e : List Expr} {t t' : TGs} (h : PGs X e t) (i : ∀ v σ H Q, t' v σ H Q → t v σ H Q) : PGs X e t' := ⟨fun pins s σ H v u Q I r q => h.run pins s σ H v u Q I r (i v σ H Q q)⟩
theorem dg_nm {i : Nat} {x : Str} (hN : X.N.Nodup) (hi : X.N[i]? = some x) (hx : Loc X.env.scope x) (hf : X.fn x = true ∨ X.env.scope.names.lookup x = some .local := by first | exact .inl rfl | exact .inr rfl | assumption) :
    PG X (.Name x pos) (gD X.K pv (.nm i)) := (pg_name hN hi hx hf).imp fun v σ H Q q => by
  obtain ⟨env, F, A, d, ws, rp, q⟩ := q
  simp only [asg] at q
  by_cases hfr : free env i = true
  · simp only [hfr, if_true] at q
    refine q _ (upA A i []) (ws.put (B := []) (free_lt hfr) ⟨v, rfl, Own.mkVal rp⟩ List.nodup_nil (fun a ha => nomatch ha) (fun a ha => nomatch ha)) (fun a ha => (UA_up ha).elim id fun z => nomatch z) fun j hj => ?_
    have : j ≠ i := by simpa [Tgt.vars] using hj
    exact List.getElem?_set_ne (Ne.symm this)
  · simp only [hfr] at q
    exact q.elim
end
section
variable {X : Cx} {pv : Nat → Option V} {W : WX} {f : M R} {tg : Tgt} {pos : Pos}
theorem frz_one {K : PySem.W.Frag} {env : DEnv} {σ : L2.St} {F H F0 H0 : Hp} {A A0 : Nat → List Addr} {B : List Addr} {r : R} {v : V} {d : D} (st : Step F0 H0 (UA A0) F H (fun a => UA A a ∨ a ∈ B)) (rs : RS K pv env σ r v F H A B) (e : frzR r = some d) :
    ∃ G, Step F0 H0 (UA A0) G H (UA A) ∧ WS K pv env σ G H A ∧ Rep K G d v := by
  obtain ⟨G, g1, g2, g3⟩ := all_frz (mg := fun _ => none) (rs := [r]) (vs := [v]) (ds := [d]) st ⟨rs.ws, ⟨v, [], B, [], rfl, by simp, rs.rr, rfl, rfl⟩, rs.nd, rs.dj, rs.dis⟩ (by simp [frzRs, e])
  obtain ⟨_, _, h1, h2, _⟩ := g3
  cases h1
  exact ⟨G, g1, g2, h2⟩
end

/-! ### what is walked -/
structure GoodL (K : PySem.W.Frag) (F0 : Hp) (J : It) (ds : List D) : Prop where
  item : ∀ F H i d, Same F0 F → Same F H → ds[i]? = some d → J.go i H ∧ ∀ x H', J.yld i H x H' → ∃ F', Nw F H F' H' [] ∧ Same F' H' ∧ Rep K F' d x
  stop : ∀ F H i, Same F0 F → Same F H → ds.length ≤ i → J.stop i H
def tI (K : PySem.W.Frag) (mg : Str → Option Value) (pv : Nat → Option V) (W : WX) (g : M (List D)) : TI := fun σ H R => ∃ env F A, WS K pv env σ F H A ∧
  match g env with
  | .bad => False
  | .ok ds env' => ∀ J F' H' A', Step F H (UA A) F' H' (UA A') → WS K pv env' σ F' H' A' → GoodL K F' J ds → R J H'
  | .exc c env' => ∀ F' H' A', Step F H (UA A) F' H' (UA A') → WS K pv env' σ F' H' A' → exW mg W c σ H'
theorem _root_.L2.PI.imp {X : Cx} {tg e : Expr} {t t' : TI} (h : PI X tg e t) (i : ∀ σ H R, t' σ H R → t σ H R) : PI X tg e t' := ⟨fun pins s σ H R I q => h.run pins s σ H R I (i σ H R q)⟩
/-- the value that is walked, frozen -/
def frzI (r : R) (env : DEnv) : Option (D × DEnv) := match r with
  | .val d => some (d, env)
  | .own o => o.frz.map fun d => (d, env)
  | .bor i => match env[i]?.bind Slot.o with
    | some o => o.frz.map fun d => (d, putO env i (.val d))
    | none => none
theorem frzI_rel {K : PySem.W.Frag} {pv : Nat → Option V} {env env2 : DEnv} {σ : L2.St} {F H F0 H0 : Hp} {A A0 : Nat → List Addr} {B : List Addr} {r : R} {v : V} {d : D} (st : Step F0 H0 (UA A0) F H (fun a => UA A a ∨ a ∈ B)) (rs : RS K pv env σ r v F H A B) (e : frzI r env = some (d, env2)) :
    ∃ G A2, Step F0 H0 (UA A0) G H (UA A2) ∧ WS K pv env2 σ G H A2 ∧ Rep K G d v := by
  cases r with
  | val d' =>
    simp only [frzI, Option.some.injEq, Prod.mk.injEq] at e
    obtain ⟨rfl, rfl⟩ := e
    obtain ⟨G, g⟩ := frz_one (d := d') st rs rfl
    exact ⟨G, A, g⟩
  | own o =>
    simp only [frzI, Option.map_eq_some_iff, Prod.mk.injEq] at e
    obtain ⟨d', h1, rfl, rfl⟩ := e
    obtain ⟨G, g⟩ := frz_one (d := d') st rs h1
    exact ⟨G, A, g⟩
  | bor j =>
    simp only [frzI] at e
    split at e
    · rename_i o ho
      simp only [Option.map_eq_some_iff, Prod.mk.injEq] at e
      obtain ⟨d', hd, rfl, rfl⟩ := e
      have ws := rs.ws
      have hj : σ[j]? = some (some v) := rs.rr.2
      have own := ws.at ho hj
      have sG : Same F (ext F H fun a => a ∈ A j) := ext_same ws.sub
      have rd : Rep K (ext F H fun a => a ∈ A j) d' v := Own.frz sG o own (fun a ha => ext_in ha) hd
      have hjl : j < env.length := by rw [ws.len]; exact (List.getElem?_eq_some_iff.mp hj).1
      refine ⟨ext F H fun a => a ∈ A j, upA A j [], ?_, ?_, rd⟩
      · refine (step_drop st).trans ⟨sG, fun a u e _ _ => e, (fun t => t.frz (ext_tb1 fun a ha => ws.ndU ⟨j, ha⟩)), fun a ha => ?_, fun a ha => ha, fun a ha => ?_⟩
        · by_cases hB : a ∈ A j
          · exact .inr (.inr ⟨j, hB⟩)
          · rw [ext_out hB] at ha; exact .inl ha
        · exact (UA_up ha).elim .inl fun z => nomatch z
      · have es : env[j]? = some env[j] := List.getElem?_eq_getElem hjl
        unfold putO
        rw [es]
        refine ws.re sG (ext_sub ws.sub) ?_ List.nodup_nil (fun a ha => nomatch ha) (fun a ha => nomatch ha) (fun k hk a ha => ?_) hjl (fun t => t.frz (ext_tb1 fun a ha => ws.ndU ⟨j, ha⟩))
        · rw [hj]
          have so := ws.slot j
          rw [es, hj] at so
          rw [es] at ho
          simp only [Option.getD_some] at so ⊢
          cases hsl : env[j] with
          | un => rw [hsl] at ho; simp [Slot.o] at ho
          | own o' => exact ⟨v, rfl, Own.mkVal rd⟩
          | pin o' =>
            rw [hsl] at so
            obtain ⟨w, e1, e2, _⟩ := so
            cases e1
            exact ⟨v, rfl, e2, Own.mkVal rd⟩
        · rw [ext_out fun hB => hk (ws.dj k j a ha hB)]
          exact ws.dis k a ha
    · cases e
def dSeq (f : M R) : M (List D) := fun env => (f env).bind fun r e => match frzI r e with
  | some (.lst ds, e') => .ok ds e'
  | _ => .bad
def dSeqT (f : M R) : M (List D) := fun env => (f env).bind fun r e => match frzI r e with
  | some (.tup ds, e') => .ok ds e'
  | _ => .bad
def dRng1 (f : M R) : M (List D) := fun env => (f env).bind fun r e => match resolve e r with
  | some (.int j) => if -(2 ^ 62) ≤ j ∧ j < 2 ^ 62 then .ok ((List.range j.toNat).map fun i => .int (i : Nat)) e else .bad
  | _ => .bad
section
variable {K : PySem.W.Frag}
theorem good_list {F0 : Hp} {a : Addr} {vs : List V} {ds : List D} (h : F0 a = some (.lst vs)) (r : Reps K F0 ds vs) : GoodL K F0 (Itl K a) ds where
  item := fun F H i d s1 s2 e => by
    have hH : SqL K H a vs := .of (s2 _ _ (s1 _ _ h))
    obtain ⟨v, h1, h2⟩ := (Reps.same s1 ds r).get e
    refine ⟨⟨vs, v, hH, h1⟩, ?_⟩
    rintro x H' ⟨rfl, hx⟩
    have := hx _ hH
    rw [h1] at this; cases this
    exact ⟨F, Step.refl.less (fun _ z => nomatch z), s2, h2⟩
  stop := fun F H i s1 s2 e => ⟨vs, .of (s2 _ _ (s1 _ _ h)), by rw [r.len]; exact e⟩
theorem good_tup {F0 : Hp} {a : Addr} {vs : List V} {ds : List D} (h : SqT K F0 a vs) (r : Reps K F0 ds vs) : GoodL K F0 (Itt K a) ds where
  item := fun F H i d s1 s2 e => by
    have hH : SqT K H a vs := SqT.same s2 (SqT.same s1 h)
    obtain ⟨v, h1, h2⟩ := (Reps.same s1 ds r).get e
    refine ⟨⟨vs, v, hH, h1⟩, ?_⟩
    rintro x H' ⟨rfl, hx⟩
    have := hx _ hH
    rw [h1] at this; cases this
    exact ⟨F, Step.refl.less (fun _ z => nomatch z), s2, h2⟩
  stop := fun F H i s1 s2 e => ⟨vs, SqT.same s2 (SqT.same s1 h), by rw [r.len]; exact e⟩
theorem good_rng {F0 : Hp} {lo : Int} {n : Nat} : GoodL K F0 (Itr lo n) ((List.range n).map fun (k : Nat) => .int (lo + k)) where
  item := fun F H i d s1 s2 e => by
    rw [List.getElem?_map, Option.map_eq_some_iff] at e
    obtain ⟨k, e, rfl⟩ := e
    obtain ⟨h1, h2⟩ := List.getElem?_eq_some_iff.mp e
    simp at h1 h2
    subst h2
    refine ⟨h1, ?_⟩
    rintro x H' ⟨rfl, rfl⟩
    exact ⟨F, Step.refl.less (fun _ z => nomatch z), s2, rfl⟩
  stop := fun F H i s1 s2 e => by
    have e' : n ≤ i := by simpa using e
    exact e'
end
section
variable {X : Cx} {pv : Nat → Option V} {W : WX} {f g : M R} {tg e a b : Expr} {pos p tpos : Pos}
theorem di_list (he : PE X e (tD X.K X.mg pv W f)) : PI X tg e (tI X.K X.mg pv W (dSeq f)) := (pi_list he).imp fun σ H R q => by
  obtain ⟨env, F, A, ws, q⟩ := q
  simp only [dSeq] at q
  refine tD_bind ws (fun e => ?_) (fun c e1 e F1 H1 A1 s1 w1 => ?_) (fun r1 e1 e v1 F1 H1 A1 B1 s1 rs1 => ?_)
  · rw [e] at q; exact q
  · rw [e] at q; exact q F1 H1 A1 s1 w1
  · rw [e] at q
    simp only [Res.bind] at q
    split at q
    · exact q.elim
    · rename_i ds' e' hq
      split at hq
      · rename_i ds e2 hf
        cases hq
        obtain ⟨G, A2, g1, g2, g3⟩ := frzI_rel s1 rs1 hf
        simp only [Rep] at g3
        obtain ⟨l, vs, rfl, h1, h2⟩ := g3
        exact ⟨l, rfl, ⟨vs, .of (g2.sub _ _ h1)⟩, q _ G H1 A2 g1 g2 (good_list h1 h2)⟩
      · cases hq
    · rename_i hq
      split at hq <;> cases hq
theorem di_tup (he : PE X e (tD X.K X.mg pv W f)) : PI X tg e (tI X.K X.mg pv W (dSeqT f)) := (pi_tup he).imp fun σ H R q => by
  obtain ⟨env, F, A, ws, q⟩ := q
  simp only [dSeqT] at q
  refine tD_bind ws (fun e => ?_) (fun c e1 e F1 H1 A1 s1 w1 => ?_) (fun r1 e1 e v1 F1 H1 A1 B1 s1 rs1 => ?_)
  · rw [e] at q; exact q
  · rw [e] at q; exact q F1 H1 A1 s1 w1
  · rw [e] at q
    simp only [Res.bind] at q
    split at q
    · exact q.elim
    · rename_i ds' e' hq
      split at hq
      · rename_i ds e2 hf
        cases hq
        obtain ⟨G, A2, g1, g2, g3⟩ := frzI_rel s1 rs1 hf
        simp only [Rep] at g3
        obtain ⟨l, vs, rfl, h1, h2⟩ := g3
        exact ⟨l, rfl, ⟨vs, .of (g2.sub _ _ h1)⟩, q _ G H1 A2 g1 g2 (good_tup (.of h1) h2)⟩
      · cases hq
    · rename_i hq
      split at hq <;> cases hq
theorem di_rng1 (hg : Gl X "range") (hm : X.mg "range" = none) (ha : PE X a (tD X.K X.mg pv W f)) (hs : starEach [a] X.env = [(false, eval a X.env)] := by rfl) (hs1 : starEach (a :: []) X.env = (false, eval a X.env) :: starEach [] X.env := by rfl) : PI X tg (.Call (.Name "range" p) [a] [] pos) (tI X.K X.mg pv W (dRng1 f)) := (pi_range1 hg hm (pa_cons ha pa_nil hs1) hs).imp fun σ H R q => by
  obtain ⟨env, F, A, ws, q⟩ := q
  simp only [dRng1] at q
  show tD X.K X.mg pv W f σ H fun x H1 => _
  refine tD_bind ws (fun e => ?_) (fun c e1 e F1 H1 A1 s1 w1 => ?_) (fun r1 e1 e v1 F1 H1 A1 B1 s1 rs1 => ?_)
  · rw [e] at q; exact q
  · rw [e] at q; exact q F1 H1 A1 s1 w1
  · rw [e] at q
    simp only [Res.bind] at q
    cases hr : resolve e1 r1 with
    | none => simp only [hr] at q
    | some d =>
      cases d with
      | int j =>
        simp only [hr] at q
        by_cases hj : -(2 ^ 62) ≤ j ∧ j < 2 ^ 62
        · rw [if_pos hj] at q
          have hv : v1 = .int j := rs1.rr.view rs1.ws hr
          subst hv
          refine ⟨j, rfl, hj.1, hj.2, q _ F1 H1 A1 (step_drop s1) rs1.ws ?_⟩
          have h := good_rng (K := X.K) (F0 := F1) (lo := 0) (n := j.toNat)
          simpa using h
        · rw [if_neg hj] at q
          exact q.elim
      | _ => simp only [hr] at q
end

/-! ### for, while -/
def forL (tg : Tgt) (body : M Flow) : List D → M Flow
  | [] => fun env => .ok .nx env
  | d :: ds => fun env => match asg tg d env with
    | none => .bad
    | some e1 => (body e1).bind fun fl e2 => match fl with
      | .nx => forL tg body ds e2
      | .cont => forL tg body ds e2
      | .brk => .ok .nx e2
      | .ret r => .ok (.ret r) e2
def sFor (g : M (List D)) (tg : Tgt) (body : M Flow) : M Flow := fun env => (g env).bind fun ds e => forL tg body ds e
section
variable {X : Cx} {pv : Nat → Option V} {W : WX} {g : M (List D)} {tg : Tgt} {b : M Flow} {c : M Bool} {pos : Pos}
theorem ds_for {t iter : Expr} {body : List Stmt} (hp : PassesOwn (model X.prog X.w) X.A X.env X.xe) (hc : X.calm = true) (hi : PI X t iter (tI X.K X.mg pv W g)) (hg : PG X t (gD X.K pv tg)) (hb : PSs X body (sD X.K X.mg pv W b)) (hs : ∀ x, foldedSetIterable iter X.env x = pure x := by intro _; rfl) :
    PS X (.For t iter body [] pos) (sD X.K X.mg pv W (sFor g tg b)) := (ps_for hp hc hi hg hb hs).imp fun D σ H q => by
  obtain ⟨env, F, A, ws, q⟩ := sD_iff.mp q
  simp only [sFor] at q
  refine ⟨env, F, A, ws, ?_⟩
  cases e : g env with
  | bad => rw [e] at q; exact q
  | exc c e1 => rw [e] at q; exact fun F' H' A' s w => q σ F' H' A' s w
  | ok ds e1 =>
    rw [e] at q
    simp only [Res.bind] at q
    intro J F1 H1 A1 s1 w1 gl
    refine ⟨fun i m σ2 H2 => m = ds.length - i ∧ i ≤ ds.length ∧ ∃ e2 F2 A2, WS X.K pv e2 σ2 F2 H2 A2 ∧ Step F H (UA A) F2 H2 (UA A2) ∧ Same F1 F2 ∧ SPost X.K X.mg pv W D F H A (forL tg b (ds.drop i) e2), ⟨ds.length, rfl, Nat.zero_le _, e1, F1, A1, w1, s1, Same.refl _, by simpa using q⟩, ?_⟩
    rintro i m σ2 H2 ⟨rfl, hi, e2, F2, A2, w2, s2, sm, q2⟩
    by_cases hlt : i < ds.length
    · have hd : ds[i]? = some ds[i] := List.getElem?_eq_getElem hlt
      rw [List.drop_eq_getElem_cons hlt] at q2
      simp only [forL] at q2
      obtain ⟨go, yl⟩ := gl.item F2 H2 i _ sm w2.sub hd
      refine .inr ⟨go, fun σ' H' => ds.length - (i + 1) < ds.length - i ∧ i + 1 ≤ ds.length ∧ ∃ e2 F2 A2, WS X.K pv e2 σ' F2 H' A2 ∧ Step F H (UA A) F2 H' (UA A2) ∧ Same F1 F2 ∧ SPost X.K X.mg pv W D F H A (forL tg b (ds.drop (i + 1)) e2), fun σ' H' ⟨h1, h2, h3⟩ => ⟨_, h1, rfl, h2, h3⟩, fun x H3 y => ?_⟩
      obtain ⟨F3, n3, sub3, r3⟩ := yl x H3 y
      have w3 := w2.nw n3 sub3
      have st3 : Step F H (UA A) F3 H3 (UA A2) := s2.trans ((n3.frame (UA A2)).more (P2 := UA A2) (fun x hx => hx.elim False.elim id) |>.less fun x hx => .inr hx)
      refine ⟨e2, F3, A2, ds[i], w3, r3, ?_⟩
      cases ea : asg tg ds[i] e2 with
      | none => rw [ea] at q2; exact q2
      | some e3 =>
        rw [ea] at q2
        simp only at q2
        intro σ4 A4 w4 u4 _
        refine sD_iff.mpr ⟨e3, F3, A4, w4, ?_⟩
        have st4 : Step F H (UA A) F3 H3 (UA A4) := st3.less u4
        have sm3 : Same F1 F3 := sm.trans n3.fz
        cases eb : b e3 with
        | bad => rw [eb] at q2; exact q2
        | exc c e5 => rw [eb] at q2; exact fun σ' F' H' A' s w => q2 σ' F' H' A' (st4.trans s) w
        | ok fl e5 =>
          rw [eb] at q2
          simp only [Res.bind] at q2
          cases fl with
          | nx => exact fun σ' F' H' A' s w => ⟨by omega, hlt, e5, F', A', w, st4.trans s, sm3.trans s.fz, q2⟩
          | cont => exact fun σ' F' H' A' s w => ⟨by omega, hlt, e5, F', A', w, st4.trans s, sm3.trans s.fz, q2⟩
          | brk => exact fun σ' F' H' A' s w => q2 σ' F' H' A' (st4.trans s) w
          | ret r => exact fun v σ' F' H' A' B s w => q2 v σ' F' H' A' B (st4.trans s) w
    · have : ds.drop i = [] := List.drop_eq_nil_of_le (by omega)
      rw [this] at q2
      exact .inl ⟨gl.stop F2 H2 i sm w2.sub (by omega), q2 σ2 F2 H2 A2 s2 w2⟩
end
end DL
end
section
set_option maxRecDepth 100000
set_option maxHeartbeats 4000000
namespace DL
open PySem PySem.Spec PyProof.Rows L2
variable [tb : Tb]
/-! ### a block's own names -/
def unE (env : DEnv) : List Nat → DEnv
  | [] => env
  | j :: js => (unE env js).set j .un
theorem unE_len (env : DEnv) : ∀ vs : List Nat, (unE env vs).length = env.length
  | [] => rfl
  | j :: js => by unfold unE; rw [List.length_set, unE_len env js]
theorem unE_out {env : DEnv} {i : Nat} : ∀ {vs : List Nat}, i ∉ vs → (unE env vs)[i]? = env[i]?
  | [], _ => rfl
  | v :: vs, h => by
    simp only [List.mem_cons, not_or] at h
    unfold unE
    rw [List.getElem?_set_ne (Ne.symm h.1)]
    exact unE_out h.2
theorem unE_in {env : DEnv} {i : Nat} : ∀ {vs : List Nat}, i ∈ vs → (unE env vs)[i]?.getD .un = .un
  | [], h => nomatch h
  | v :: vs, h => by
    unfold unE
    by_cases e : v = i
    · subst e
      by_cases hl : v < (unE env vs).length
      · rw [List.getElem?_set_self hl]; rfl
      · rw [List.getElem?_eq_none (by simpa using hl)]; rfl
    · rw [List.getElem?_set_ne e]
      exact unE_in ((List.mem_cons.mp h).resolve_left (Ne.symm e))
def hidA (A : Nat → List Addr) (vs : List Nat) : Nat → List Addr := fun i => if i ∈ vs then [] else A i
theorem hidA_sub {A : Nat → List Addr} {vs : List Nat} {a : Addr} (h : UA (hidA A vs) a) : UA A a := by
  obtain ⟨i, hi⟩ := h
  unfold hidA at hi
  split at hi
  · cases hi
  · exact ⟨i, hi⟩
theorem WS.hide {K : PySem.W.Frag} {pv : Nat → Option V} {env : DEnv} {σ σ' : L2.St} {F H : Hp} {A : Nat → List Addr} {vs : List Nat} (w : WS K pv env σ F H A) (l : σ'.length = σ.length) (k : ∀ i, i ∉ vs → σ'[i]? = σ[i]?) : WS K pv (unE env vs) σ' F H (hidA A vs) := by
  refine ⟨by rw [unE_len, l]; exact w.len, fun i => ?_, fun i => ?_, fun i j a hi hj => ?_, fun i a hi => ?_, w.sub, w.tbs⟩
  · unfold hidA
    by_cases h : i ∈ vs
    · rw [if_pos h, unE_in h]; rfl
    · rw [if_neg h, unE_out h, k i h]; exact w.slot i
  · unfold hidA
    split
    · exact List.nodup_nil
    · exact w.nd i
  · unfold hidA at hi hj
    split at hi
    · cases hi
    · split at hj
      · cases hj
      · exact w.dj i j a hi hj
  · unfold hidA at hi
    split at hi
    · cases hi
    · exact w.dis i a hi
theorem wipe_in {σ : L2.St} {i : Nat} : ∀ {vs : List Nat}, i ∈ vs → i < σ.length → (wipe σ vs)[i]? = some none
  | [], h, _ => nomatch h
  | v :: vs, h, hl => by
    unfold wipe
    by_cases e : v = i
    · subst e
      exact List.getElem?_set_self (by rw [wipe_length]; exact hl)
    · rw [List.getElem?_set_ne e]
      exact wipe_in ((List.mem_cons.mp h).resolve_left (Ne.symm e)) hl
theorem wipe_eq {σ σ2 : L2.St} {vs : List Nat} (l : σ2.length = σ.length) (k : ∀ i, i ∉ vs → σ2[i]? = σ[i]?) : wipe σ2 vs = wipe σ vs := by
  apply List.ext_getElem?
  intro i
  by_cases h : i ∈ vs
  · by_cases hi : i < σ.length
    · rw [wipe_in h hi, wipe_in h (by rw [l]; exact hi)]
    · rw [List.getElem?_eq_none (by rw [wipe_length]; omega), List.getElem?_eq_none (by rw [wipe_length]; omega)]
  · rw [wipe_out h, wipe_out h, k i h]

/-! ### comprehensions -/
def noX {α : Type} : Res α → Res α
  | .exc _ _ => .bad
  | r => r
def compL (tg : Tgt) (vs : List Nat) (test : M Bool) (elt : M R) : List D → List D → M (List D)
  | [], acc => fun env => .ok acc env
  | d :: ds, acc => fun env => match asg tg d env with
    | none => .bad
    | some e1 => (noX (test e1)).bind fun b e2 => if b = true then (noX (elt e2)).bind fun r e3 => (match frzR r with
        | some x => if acc.length < sizeLine then compL tg vs test elt ds (acc ++ [x]) (unE e3 vs) else .bad
        | none => .bad)
      else compL tg vs test elt ds acc (unE e2 vs)
def dComp (g : M (List D)) (tg : Tgt) (vs : List Nat) (test : M Bool) (elt : M R) : M R := fun env => (g env).bind fun ds e => (compL tg vs test elt ds [] (unE e vs)).bind fun acc e2 => .ok (.own (.lst acc)) (unE e2 vs)
def tTrue : M Bool := fun env => .ok true env
abbrev W0 : WX := fun _ _ _ _ => False
section
variable {K : PySem.W.Frag} {mg : Str → Option Value} {pv : Nat → Option V} {W : WX}
def RPost (K : PySem.W.Frag) (mg : Str → Option Value) (pv : Nat → Option V) (W : WX) (σ : L2.St) (Q : VK) (F0 H0 : Hp) (A0 : Nat → List Addr) : Res R → Prop
  | .bad => False
  | .ok r env' => ∀ v F' H' A' B, Step F0 H0 (UA A0) F' H' (fun a => UA A' a ∨ a ∈ B) → RS K pv env' σ r v F' H' A' B → Q v H'
  | .exc c env' => ∀ F' H' A', Step F0 H0 (UA A0) F' H' (UA A') → WS K pv env' σ F' H' A' → exW mg W c σ H'
theorem tD_iff {f : M R} {σ : L2.St} {H : Hp} {Q : VK} : tD K mg pv W f σ H Q ↔ ∃ env F A, WS K pv env σ F H A ∧ RPost K mg pv W σ Q F H A (f env) := by
  constructor
  · rintro ⟨env, F, A, ws, q⟩
    refine ⟨env, F, A, ws, ?_⟩
    revert q
    cases f env <;> exact id
  · rintro ⟨env, F, A, ws, q⟩
    refine ⟨env, F, A, ws, ?_⟩
    revert q
    cases f env <;> exact id
/-- the state between two turns -/
structure CSt (K : PySem.W.Frag) (pv : Nat → Option V) (σ : L2.St) (F0 H0 : Hp) (A0 : Nat → List Addr) (F1 : Hp) (Dd : Addr) (acc : List D) (e : DEnv) (H : Hp) (F : Hp) (A : Nat → List Addr) (vs : List V) : Prop where
  ws : WS K pv e σ F H A
  st : Step F0 H0 (UA A0) F H (fun a => UA A a ∨ a = Dd)
  sm : Same F1 F
  lst : H Dd = some (.lst vs)
  rp : Reps K F acc vs
  nA : ¬ UA A Dd
  nF : F Dd = none
theorem dComp_rd {g : M (List D)} {tg : Tgt} {vs : List Nat} {test : M Bool} {elt : M R} {σ : L2.St} {H : Hp} {Q : VK} (hv : ∀ j ∈ tg.vars, j ∈ vs) (q : tD K mg pv W (dComp g tg vs test elt) σ H Q) :
    tLc (tI K mg pv W g) (gD K pv tg) (tDT K mg pv W0 test) (tD K mg pv W0 elt) vs σ H Q := by
  obtain ⟨env, F, A, ws, q⟩ := tD_iff.mp q
  simp only [dComp] at q
  refine ⟨env, F, A, ws, ?_⟩
  cases e : g env with
  | bad => rw [e] at q; exact q
  | exc c e1 => rw [e] at q; exact q
  | ok ds e1 =>
    rw [e] at q
    simp only [Res.bind] at q
    intro J F1 H1 A1 s1 w1 gl Dd hD
    have wl : (wipe σ vs).length = σ.length := wipe_length σ vs
    have w1' : WS K pv (unE e1 vs) (wipe σ vs) F1 H1 (hidA A1 vs) := w1.hide wl fun i hi => wipe_out hi
    let Post : Res (List D) → Prop := fun r => RPost K mg pv W σ Q F H A (r.bind fun acc e2 => .ok (.own (.lst acc)) (unE e2 vs))
    have nDF : F1 Dd = none := Same.free w1.sub hD
    have start : CSt K pv (wipe σ vs) F H A F1 Dd [] (unE e1 vs) (upd H1 Dd (.lst [])) F1 (hidA A1 vs) [] := by
      have nw : Nw F1 H1 F1 (upd H1 Dd (.lst [])) [Dd] := Nw.put hD w1.sub
      refine ⟨w1'.nw nw (same_put hD w1.sub), ?_, Same.refl _, upd_same, rfl, fun h => ?_, nDF⟩
      · have n3 : Step F1 H1 (UA A1) F1 (upd H1 Dd (.lst [])) (fun a => a ∈ [Dd] ∨ UA A1 a) := (nw.frame (UA A1)).more (P2 := UA A1) fun x hx => hx.elim False.elim id
        exact (s1.trans n3).less fun a ha => ha.elim (fun h => .inr (hidA_sub h)) fun h => .inl (by simp [h])
      · exact w1.there (hidA_sub h) hD
    refine ⟨fun i m H2 => m = ds.length - i ∧ i ≤ ds.length ∧ ∃ acc e2 F2 A2 us, CSt K pv (wipe σ vs) F H A F1 Dd acc e2 H2 F2 A2 us ∧ Post (compL tg vs test elt (ds.drop i) acc e2), ⟨ds.length, rfl, Nat.zero_le _, [], _, _, _, _, start, q⟩, ?_⟩
    rintro i m H2 ⟨rfl, hi, acc, e2, F2, A2, us, c2, q2⟩
    by_cases hlt : i < ds.length
    · have hd : ds[i]? = some ds[i] := List.getElem?_eq_getElem hlt
      rw [List.drop_eq_getElem_cons hlt] at q2
      simp only [compL] at q2
      obtain ⟨go, yl⟩ := gl.item F2 H2 i _ c2.sm c2.ws.sub hd
      let Nx : Hp → Prop := fun H' => ds.length - (i + 1) < ds.length - i ∧ i + 1 ≤ ds.length ∧ ∃ acc e2 F2 A2 us, CSt K pv (wipe σ vs) F H A F1 Dd acc e2 H' F2 A2 us ∧ Post (compL tg vs test elt (ds.drop (i + 1)) acc e2)
      refine .inr ⟨go, Nx, fun H' ⟨h1, h2, h3⟩ => ⟨_, h1, rfl, h2, h3⟩, fun x H3 y => ?_⟩
      obtain ⟨F3, n3, sub3, r3⟩ := yl x H3 y
      have w3 := c2.ws.nw n3 sub3
      have hD3 : H3 Dd = some (.lst us) := n3.keep _ _ c2.lst (fun ps z => by cases z) fun z => z
      have nF3 : F3 Dd = none := by
        apply Classical.byContradiction
        intro z
        rcases n3.new Dd z with h | h | h
        · exact h c2.nF
        · rw [c2.lst] at h; cases h
        · exact h
      have st3 : Step F H (UA A) F3 H3 (fun a => UA A2 a ∨ a = Dd) :=
        c2.st.trans ((n3.frame (fun a => UA A2 a ∨ a = Dd)).more (P2 := fun a => UA A2 a ∨ a = Dd) (fun x hx => hx.elim False.elim id) |>.less fun x hx => .inr hx)
      refine ⟨e2, F3, A2, ds[i], w3, r3, ?_⟩
      cases ea : asg tg ds[i] e2 with
      | none => rw [ea] at q2; exact q2.elim
      | some e3 =>
        rw [ea] at q2
        simp only at q2
        intro σ4 A4 w4 u4 k4
        have l4 : σ4.length = σ.length := by
          have := w4.len
          have h2 := c2.ws.len
          have : e3.length = e2.length := by
            clear q2 w4
            have key : ∀ (t : Tgt) (d : D) (e e' : DEnv), asg t d e = some e' → e'.length = e.length := by
              intro t
              apply Tgt.rec (motive_1 := fun t => ∀ (d : D) (e e' : DEnv), asg t d e = some e' → e'.length = e.length) (motive_2 := fun ts => ∀ (ds : List D) (e e' : DEnv), asgs ts ds e = some e' → e'.length = e.length)
              · intro i d e e' h
                simp only [asg] at h
                split at h
                · cases h; simp
                · cases h
              · intro l ih d e e' h
                cases d <;> simp only [asg] at h <;> first | contradiction | exact ih _ _ _ h
              · intro ds e e' h
                cases ds with
                | nil => simp only [asgs] at h; cases h; rfl
                | cons _ _ => simp [asgs] at h
              · intro t ts ih1 ih2 ds e e' h
                cases ds with
                | nil => simp [asgs] at h
                | cons d ds =>
                  simp only [asgs] at h
                  split at h
                  · rename_i e1 h1
                    rw [ih2 _ _ _ h, ih1 _ _ _ h1]
                  · cases h
            exact key _ _ _ _ ea
          omega
        have k4' : ∀ j, j ∉ vs → σ4[j]? = σ[j]? := fun j hj => by rw [k4 j fun h => hj (hv j h), wipe_out hj]
        have hw : wipe σ4 vs = wipe σ vs := wipe_eq l4 k4'
        refine ⟨hw, ?_⟩
        have keepD : ∀ {F5 H5 : Hp} {A5 : Nat → List Addr} {P5 : Addr → Prop}, Step F3 H3 (UA A4) F5 H5 P5 → (∀ a, UA A5 a → P5 a) → H5 Dd = some (.lst us) ∧ F5 Dd = none ∧ ¬ UA A5 Dd := fun {F5 H5 A5 P5} s5 sub5 => by
          have n4 : ¬ UA A4 Dd := fun h => c2.nA (u4 _ h)
          refine ⟨s5.keep _ _ hD3 (fun ps z => by cases z) n4, ?_, fun h => ?_⟩
          · apply Classical.byContradiction
            intro z
            rcases s5.new Dd z with h | h | h
            · exact h nF3
            · rw [hD3] at h; cases h
            · exact n4 h
          · rcases s5.own Dd (sub5 _ h) with h | h
            · exact n4 h
            · rw [hD3] at h; cases h
        have stW : ∀ {F5 H5 : Hp} {A5 : Nat → List Addr}, Step F3 H3 (UA A4) F5 H5 (UA A5) → Step F H (UA A) F5 H5 (fun a => UA A5 a ∨ a = Dd) := fun {F5 H5 A5} s5 =>
          (st3.less fun a ha => ha.imp_left (u4 a)).trans (s5.frame fun a => a = Dd)
        have usl : ∀ {F5 : Hp}, Same F3 F5 → Reps K F5 acc us := fun {F5} s5 => Reps.same s5 _ (Reps.same n3.fz _ c2.rp)
        refine tDT_bind w4 (fun e => ?_) (fun c e5 e F5 H5 A5 s5 w5 => ?_) (fun b e5 e F5 H5 A5 s5 w5 => ?_)
        · rw [e] at q2; exact q2
        · rw [e] at q2; exact q2.elim
        · rw [e] at q2
          simp only [noX, Res.bind] at q2
          cases b with
          | false =>
            simp only [Bool.false_eq_true, if_false] at q2 ⊢
            obtain ⟨h1, h2, h3⟩ := keepD s5 fun _ h => h
            refine ⟨by omega, hlt, acc, unE e5 vs, F5, hidA A5 vs, us, ⟨w5.hide (by rw [l4, wl]) fun j hj => by rw [wipe_out hj, k4' j hj], (stW s5).less fun a ha => ha.imp_left hidA_sub, c2.sm.trans (n3.fz.trans s5.fz), h1, usl s5.fz, fun h => h3 (hidA_sub h), h2⟩, q2⟩
          | true =>
            simp only [if_true] at q2 ⊢
            refine tD_bind w5 (fun e => ?_) (fun c e6 e F6 H6 A6 s6 w6 => ?_) (fun r e6 e v6 F6 H6 A6 B6 s6 rs6 => ?_)
            · rw [e] at q2; exact q2
            · rw [e] at q2; exact q2.elim
            · rw [e] at q2
              simp only [noX] at q2
              cases hf : frzR r with
              | none => simp only [hf] at q2; exact q2.elim
              | some x =>
                simp only [hf] at q2
                have s56 := s5.trans s6
                obtain ⟨G, g1, g2, g3⟩ := frz_one s56 rs6 hf
                obtain ⟨h1, h2, h3⟩ := keepD g1 fun _ h => h
                by_cases hz : acc.length < sizeLine
                · rw [if_pos hz] at q2
                  have ul : us.length = acc.length := (usl (Same.refl _)).len
                  refine ⟨us, h1, by rw [ul]; exact hz, by omega, hlt, acc ++ [x], unE e6 vs, G, hidA A6 vs, us ++ [v6], ?_, q2⟩
                  have hne : ∀ a o, G a = some o → a ≠ Dd := fun a o h z => by rw [z, h2] at h; cases h
                  have sub' : Same G (upd H6 Dd (.lst (us ++ [v6]))) := fun a o h => by rw [upd_ne (hne a o h)]; exact g2.sub _ _ h
                  refine ⟨?_, ?_, c2.sm.trans (n3.fz.trans g1.fz), upd_same, (usl g1.fz).append (.one g3), fun h => h3 (hidA_sub h), h2⟩
                  · refine WS.hide (σ := σ4) (g2.stay (Same.refl _) sub' (fun b hb u hu => ?_) (fun b hb => g2.disU hb) (TbsOk.mut (by rw [h1]; exact trivial))) (by rw [l4, wl]) fun j hj => by rw [wipe_out hj, k4' j hj]
                    rw [upd_ne (fun (z : b = Dd) => h3 (by rw [← z]; exact hb))]; exact hu
                  · refine (stW g1).trans (P2 := fun a => UA (hidA A6 vs) a ∨ a = Dd) ⟨Same.refl _, fun a o h _ n => ?_, TbsOk.mut (by rw [h1]; exact trivial), fun a h => .inl h, fun a h => ?_, fun a ha => .inl (ha.imp_left hidA_sub)⟩
                    · rw [upd_ne fun z => n (.inr z)]; exact h
                    · by_cases z : a = Dd
                      · subst z; rw [upd_same] at h; cases h
                      · rw [upd_ne z] at h; exact h
                · rw [if_neg hz] at q2
                  exact q2.elim
    · have : ds.drop i = [] := List.drop_eq_nil_of_le (by omega)
      rw [this] at q2
      simp only [compL] at q2
      refine .inl ⟨gl.stop F2 H2 i c2.sm c2.ws.sub (by omega), ?_⟩
      have w5 : WS K pv (unE e2 vs) σ F2 H2 (hidA A2 vs) := c2.ws.hide (by rw [wl]) fun j hj => by rw [wipe_out hj]
      refine q2 (.ref Dd) F2 H2 (hidA A2 vs) [Dd] (c2.st.less fun a ha => ha.elim (fun h => .inl (hidA_sub h)) fun h => .inr (by simpa using h)) ⟨w5, ?_, by simp, fun a ha hu => ?_, fun a ha => ?_⟩
      · show Own K F2 H2 (.lst acc) (.ref Dd) [Dd]
        unfold Own
        exact ⟨Dd, us, rfl, rfl, c2.lst, c2.rp⟩
      · simp only [List.mem_singleton] at ha
        subst ha
        exact c2.nA (hidA_sub hu)
      · simp only [List.mem_singleton] at ha
        subst ha
        exact c2.nF
end
section
variable {X : Cx} {pv : Nat → Option V} {W : WX} {g : M (List D)} {tg : Tgt} {test : M Bool} {f : M R} {elt t iter : Expr} {ifs : List Expr} {scope : Scope} {own : List (Str × Nat)} {pos : Pos}
theorem dts_nil : PTs X [] (tDT X.K X.mg pv W tTrue) := ⟨fun pins s σ H Q I h => by
  obtain ⟨env, F, A, ws, q⟩ := h
  exact pts_nil.run pins s σ H Q I (q F H A Step.refl ws)⟩
theorem de_comp (hc : X.calm = true) (hN : X.N.Nodup) (hi : PI X t iter (tI X.K X.mg pv W g)) (ok : BlkOk X.N X.env.scope scope own) (hv : ∀ j ∈ tg.vars, j ∈ own.map (·.2))
    (hg : ∀ (s : Shared) (H : Hp) (C : Addr) (cl : List (Str × Addr)) (fp : List Addr), PG (X.blk s H scope (compEnvC scope cl C X.env) fp) t (gD X.K pv tg))
    (ht : ∀ (s : Shared) (H : Hp) (C : Addr) (cl : List (Str × Addr)) (fp : List Addr), PTs (X.blk s H scope (compEnvC scope cl C X.env) fp) ifs (tDT X.K X.mg pv W0 test))
    (he : ∀ (s : Shared) (H : Hp) (C : Addr) (cl : List (Str × Addr)) (fp : List Addr), PE (X.blk s H scope (compEnvC scope cl C X.env) fp) elt (tD X.K X.mg pv W0 f)) (hs : ∀ x, foldedSetIterable iter X.env x = pure x := by intro _; rfl) :
    PE X (.ListComp elt [⟨t, iter, ifs, 0⟩] scope pos) (tD X.K X.mg pv W (dComp g tg (own.map (·.2)) test f)) :=
  (pe_lc hc hN hi ok hg ht he hs).imp fun _ _ _ q => dComp_rd hv q
end
end DL
end
section
set_option maxRecDepth 100000
set_option maxHeartbeats 4000000
namespace DL
open PySem PySem.Spec PyProof.Rows L2
variable [tb : Tb]
/-! ### raise -/
abbrev veTail4 : List Value := [.type "ValueError", .type "Exception", .type "BaseException", .type "object"]
structure ExcCls (K : PySem.W.Frag) (mg : Str → Option Value) (x : Str) (C : Addr) : Prop where
  gC : mg x = some (.ref C)
  xC : PySem.W.excIn K C veTail4 "ValueError.__new__" = true
  kC : PySem.W.keepIn K (.ref C) = true
  bC : PySem.W.subIn K (.ref C) (.type "BaseException") = some true
  tC : PySem.W.typeIn K (.ref C) = some (.type "type")
/-! ### lists of one's own that change -/
section
variable {K : PySem.W.Frag} {pv : Nat → Option V} {env : DEnv} {σ : L2.St} {F H : Hp} {A : Nat → List Addr}
theorem WS.mut (w : WS K pv env σ F H A) {i : Nat} {o o' : O} {v : V} {a : Addr} {ho : HO} (e : env[i]?.bind Slot.o = some o) (hv : σ[i]? = some (some v)) (ha : a ∈ A i) (hn : Own K F (upd H a ho) o' v (A i)) :
    WS K pv (putO env i o') σ F (upd H a ho) A ∧ Step F H (UA A) F (upd H a ho) (UA A) := by
  have sub : Same F (upd H a ho) := fun b u hb => by
    rw [upd_ne fun z => by rw [z, w.dis i a ha] at hb; cases hb]
    exact w.sub _ _ hb
  have tm : TbsOk F H → TbsOk F (upd H a ho) := TbsOk.mut ((w.slot i).nd a ha)
  refine ⟨⟨by rw [putO_len]; exact w.len, fun j => ?_, w.nd, w.dj, w.dis, sub, tm w.tbs⟩, Same.refl _, fun b u hb _ n => ?_, tm, fun b hb => .inl hb, fun b hb => ?_, fun b hb => .inl hb⟩
  · rw [putO_get]
    by_cases hj : j = i
    · subst hj
      rw [if_pos rfl, hv]
      have hs := w.slot j
      rw [hv] at hs
      cases es : env[j]? with
      | none => rw [es] at e; simp at e
      | some s =>
        rw [es] at hs e
        simp only [Option.map_some, Option.getD_some] at hs ⊢
        cases s with
        | un => simp [Slot.o] at e
        | own _ => exact ⟨v, rfl, hn⟩
        | pin _ =>
          obtain ⟨u, e1, e2, _⟩ := hs
          cases e1
          exact ⟨v, rfl, e2, hn⟩
    · rw [if_neg hj]
      refine (w.slot j).stay (Same.refl _) fun b hb u hu => ?_
      rw [upd_ne fun z => hj (w.dj j i b hb (by rw [z]; exact ha))]
      exact hu
  · rw [upd_ne fun z => n ⟨i, by rw [z]; exact ha⟩]
    exact hb
  · by_cases z : b = a
    · subst z; rw [upd_same] at hb; cases hb
    · rw [upd_ne z] at hb; exact hb
end
section
variable {X : Cx} {pv : Nat → Option V} {W : WX} {i : Nat} {fs : M (List R)} {x : Str} {p pos : Pos} {e : Expr} {es : List Expr} {name : Str} {id : String} {h : List D → List D → Option (List D × D)} {r : V → List V → Hp → VK → Prop}
end
section
variable {X : Cx} {pv : Nat → Option V} {W : WX} {i : Nat} {fk fe : M R} {x : Str} {p pos tpos : Pos} {e k : Expr}
end
end DL
end
section
set_option maxRecDepth 100000
set_option maxHeartbeats 4000000
namespace DL
open PySem PySem.Spec PyProof.Rows L2
variable [tb : Tb]
/-! ### repr of lists, tuples, dicts -/
section
variable {prog : Program} {w : World} {h₀ : Heap}
/-- a value that can be shown -/
def Shw (prog : Program) (w : World) (h₀ : Heap) (u : Value) (p : PyData) : Prop := ∃ as bs, Reads h₀ u p as ∧ ReadAtMost h₀ p.depth bs ∧ ReprK prog w bs h₀ p.depth u p.shown
def Shws (prog : Program) (w : World) (h₀ : Heap) (us : List Value) (ps : List PyData) : Prop := ∃ as bs, ReadsAll h₀ us ps as ∧ ReadAtMost h₀ (PyData.depthAll ps) bs ∧ ReprAllK prog w bs h₀ (PyData.depthAll ps) us (PyData.shownAll ps)
theorem Shws.nil : Shws prog w h₀ [] [] := ⟨[], [], .nil, (fun _ h => nomatch h), by simp only [PyData.shownAll]; exact .nil⟩
theorem Shws.cons {u : Value} {us : List Value} {p : PyData} {ps : List PyData} (a : Shw prog w h₀ u p) (b : Shws prog w h₀ us ps) : Shws prog w h₀ (u :: us) (p :: ps) := by
  obtain ⟨as1, b1, r1, hb1, k1⟩ := a
  obtain ⟨as2, b2, r2, hb2, k2⟩ := b
  refine ⟨as1 ++ as2, b1 ++ b2, .cons r1 r2, fun b hm => ?_, ?_⟩
  · simp only [PyData.depthAll]
    rcases List.mem_append.mp hm with hm | hm
    · obtain ⟨d', as', r', hd'⟩ := hb1 b hm
      exact ⟨d', as', r', Nat.le_trans hd' (Nat.le_max_left _ _)⟩
    · obtain ⟨d', as', r', hd'⟩ := hb2 b hm
      exact ⟨d', as', r', Nat.le_trans hd' (Nat.le_max_right _ _)⟩
  · simp only [PyData.depthAll, PyData.shownAll]
    exact .cons ((k1.more fun b hb => List.mem_append_left _ hb).level_le (Nat.le_max_left _ _)) (k2.more_le (fun b hb => List.mem_append_right _ hb) (Nat.le_max_right _ _))
/-- shown, and its repr called -/
structure ShwC (prog : Program) (w : World) (h₀ : Heap) (a : Addr) (p : PyData) : Prop where
  shw : Shw prog w h₀ (.ref a) p
  by_ : ∃ T idr, ShowsBy prog w h₀ a p T idr
theorem shw_list {a : Addr} {o : Obj} {vs : Array Value} {n : Nat} {xs : List PyData} (h1 : h₀.get? a = some o) (h2 : o.cls = .type "list") (h3 : o.data = .seq vs n) (c : Shws prog w h₀ vs.toList xs) (hz : (PyData.shown (.list xs)).length ≤ sizeLine) :
    ShwC prog w h₀ a (.list xs) := by
  have hz' : (listText (PyData.shownAll xs)).length ≤ sizeLine := by simpa only [PyData.shown] using hz
  obtain ⟨as, bs, h4, hb, hk⟩ := c
  have r : Reads h₀ (.ref a) (.list xs) _ := .list h1 h2 h3 h4
  have hna : a ∉ bs := not_mem_of_deeper r (by simp only [PyData.depth]; omega) hb
  refine ⟨⟨_, a :: bs, r, ReadAtMost.cons r (by simp only [PyData.depth]; omega) hb, ?_⟩, "list", "list.__repr__", F.slot_list_repr.toG, F.slot_list_str, F.slot_list_format, fun s hk0 => ⟨o, hk0 _ _ h1, h2⟩, fun A E s Q hg hu hk0 hQ => ?_⟩
  · simp only [PyData.depth, PyData.shown]
    obtain ⟨l⟩ := vs
    cases l with
    | nil =>
      have h4' : ReadsAll h₀ [] xs _ := h4
      cases h4'
      simp only [PyData.shownAll, listText_nil]
      exact ReprK.listEmpty h1 h2 h3
    | cons x l => exact ReprK.list h1 h2 h3 hna (by simpa using hk.length_eq) (fun i y e => hk.item i y (by simpa using e))
  · simp only [PyData.depth] at hu
    simp only [PyData.shown] at hQ
    obtain ⟨l⟩ := vs
    cases l with
    | nil =>
      have h4' : ReadsAll h₀ [] xs _ := h4
      cases h4'
      simp only [PyData.shownAll, listText_nil] at hQ
      exact call_list_repr_empty ⟨o, hk0 _ _ h1, h2⟩ (hk0 _ _ h1) h3 (hQ s.heap _ _ fun _ _ e => e)
    | cons x l =>
      exact call_list_reprK h1 h2 h3 hna (by simpa using hk.length_eq) (fun i y e => hk.item i y (by simpa using e)) hg (fun b _ => Clear.nil b) hu hk0 hQ hz'
theorem shw_tup {a : Addr} {o : Obj} {vs : Array Value} {n : Nat} {xs : List PyData} (h1 : h₀.get? a = some o) (h2 : o.cls = .type "tuple") (h3 : o.data = .seq vs n) (c : Shws prog w h₀ vs.toList xs) (hz : (PyData.shown (.tuple xs)).length ≤ sizeLine) :
    ShwC prog w h₀ a (.tuple xs) := by
  have hz' : (tupleText (PyData.shownAll xs)).length ≤ sizeLine := by simpa only [PyData.shown] using hz
  obtain ⟨as, bs, h4, hb, hk⟩ := c
  have r : Reads h₀ (.ref a) (.tuple xs) _ := .tuple h1 h2 h3 h4
  have hna : a ∉ bs := not_mem_of_deeper r (by simp only [PyData.depth]; omega) hb
  refine ⟨⟨_, a :: bs, r, ReadAtMost.cons r (by simp only [PyData.depth]; omega) hb, ?_⟩, "tuple", "tuple.__repr__", F.slot_tuple_repr, F.slot_tuple_str, F.slot_tuple_format, fun s hk0 => ⟨o, hk0 _ _ h1, h2⟩, fun A E s Q hg hu hk0 hQ => ?_⟩
  · simp only [PyData.depth, PyData.shown]
    exact ReprK.tuple h1 h2 h3 hna hk
  · simp only [PyData.depth] at hu
    simp only [PyData.shown] at hQ
    exact call_tuple_reprK h1 h2 h3 hna hk hg (fun b _ => Clear.nil b) hu hk0 hQ hz'
theorem shw_dict {a : Addr} {o : Obj} {es : Array DictEntry} {n : Nat} {kvs : List (PyData × PyData)} (h1 : h₀.get? a = some o) (h2 : o.cls = .type "dict") (h3 : o.data = .dict es n) (hsys : (a == sysModules) = false)
    (c1 : Shws prog w h₀ (es.toList.map (·.key)) (kvs.map (·.1))) (c2 : Shws prog w h₀ (es.toList.map (·.val)) (kvs.map (·.2))) (hz : (PyData.shown (.dict kvs)).length ≤ sizeLine) :
    ShwC prog w h₀ a (.dict kvs) := by
  have hz' : (dictText (PyData.shownKv kvs)).length ≤ sizeLine := by simpa only [PyData.shown] using hz
  obtain ⟨as1, b1, h4, hb1, k1⟩ := c1
  obtain ⟨as2, b2, h5, hb2, k2⟩ := c2
  have r : Reads h₀ (.ref a) (.dict kvs) _ := .dict h1 h2 h3 h4 h5
  have hb : ReadAtMost h₀ (PyData.depthKv kvs) (b1 ++ b2) := (hb1.mono (PyData.depthAll_keys_le kvs)).append (hb2.mono (PyData.depthAll_vals_le kvs))
  have hna : a ∉ b1 ++ b2 := not_mem_of_deeper r (by simp only [PyData.depth]; omega) hb
  have hE := ReprEntriesK.of_two es.toList _ _ (k1.more_le (as' := b1 ++ b2) (fun b hb => List.mem_append_left _ hb) (PyData.depthAll_keys_le kvs)) (k2.more_le (fun b hb => List.mem_append_right _ hb) (PyData.depthAll_vals_le kvs))
  refine ⟨⟨_, a :: (b1 ++ b2), r, ReadAtMost.cons r (by simp only [PyData.depth]; omega) hb, ?_⟩, "dict", "dict.__repr__", F.slot_dict_repr, F.slot_dict_str, F.slot_dict_format, fun s hk0 => ⟨o, hk0 _ _ h1, h2⟩, fun A E s Q hg hu hk0 hQ => ?_⟩
  · simp only [PyData.depth, PyData.shown, PyData.shownKv_eq]
    exact ReprK.dict h1 h2 h3 hsys hna hE
  · simp only [PyData.depth] at hu
    simp only [PyData.shown, PyData.shownKv_eq] at hQ
    exact call_dict_reprK h1 h2 h3 hsys hna hE hg (fun b _ => Clear.nil b) hu hk0 hQ (by rw [← PyData.shownKv_eq]; exact hz')
end
theorem pys_len : ∀ {ds : List D} {ps : List PyData}, D.pys ds = some ps → ps.length = ds.length
  | [], _, h => by simp only [D.pys] at h; cases h; rfl
  | d :: ds, _, h => by
    simp only [D.pys] at h
    split at h
    · rename_i p ps h1 h2
      cases h
      simp [pys_len h2]
    · cases h
theorem dct_py {ks : List Key} {ds : List D} : D.py (.dct ks ds) = (D.pys ds).map fun ps => .dict ((ks.map keyPy).zip ps) := by
  simp only [D.py]
  cases D.pys ds <;> rfl
section
variable {X : Cx} {pins : List (Addr × Obj)} {σ : L2.St} {F H : Hp} {s : Shared}
theorem keys_shw (I : Inv X pins σ H s) {P : Program} {w : World} : ∀ {ks : List Key} {vs : List V} {kvs : List (Key × Value)} {es : List DictEntry}, KV (ks.zip vs) kvs → ks.length = vs.length → PySem.Pairs (mixKind P w) es kvs →
    PyData.showableAll (ks.map keyPy) = true → (∀ t ∈ PyData.shownAll (ks.map keyPy), t.length ≤ sizeLine) → Shws X.prog X.w s.heap (es.map (·.key)) (ks.map keyPy) ∧ Vals vs (es.map (·.val))
  | [], [], _, _, r, _, p, _, _ => by
    cases r
    cases p
    exact ⟨Shws.nil, .nil⟩
  | [], _ :: _, _, _, _, l, _, _, _ => by simp at l
  | _ :: _, [], _, _, _, l, _, _, _ => by simp at l
  | k :: ks, v :: vs, _, _, r, l, p, hs, hz => by
    rw [List.zip_cons_cons] at r
    cases r with
    | cons r1 r2 =>
      cases p with
      | cons p1 p2 p3 =>
        simp only [List.map_cons, PyData.showableAll, Bool.and_eq_true] at hs
        simp only [List.map_cons, PyData.shownAll, List.mem_cons] at hz
        obtain ⟨q1, q2⟩ := keys_shw I (P := P) (w := w) r2 (by simpa using l) p3 hs.2 fun t ht => hz t (.inr ht)
        refine ⟨?_, ?_⟩
        · simp only [List.map_cons]
          refine Shws.cons ?_ q1
          rw [← r1.1] at p1
          rcases keyIs_shape p1 with ⟨i, t, rfl, e⟩ | ⟨x, t, rfl, e⟩
          · rw [e]
            refine ⟨[], [], .int i t, (fun _ h => nomatch h), ?_⟩
            simp only [keyPy, PyData.shown]
            exact .of_is (ReprIs.int t (by simpa [keyPy, PyData.showable] using hs.1)) _ _ _
          · rw [e]
            refine ⟨[], [], .str x t, (fun _ h => nomatch h), ?_⟩
            simp only [keyPy, PyData.shown]
            exact .of_is (ReprIs.str x t (by simpa [keyPy, PyData.shown] using hz _ (.inl rfl))) _ _ _
        · simp only [List.map_cons]
          rw [p2]
          exact .cons r1.2 q2
theorem zip_fst {α β : Type} {as : List α} {bs : List β} (h : as.length = bs.length) : (as.zip bs).map (·.1) = as := by
  induction as generalizing bs with
  | nil => rfl
  | cons a as ih => cases bs with
    | nil => simp at h
    | cons b bs => simp at h; simp [ih h]
theorem zip_snd {α β : Type} {as : List α} {bs : List β} (h : as.length = bs.length) : (as.zip bs).map (·.2) = bs := by
  induction as generalizing bs with
  | nil => cases bs with
    | nil => rfl
    | cons b bs => simp at h
  | cons a as ih => cases bs with
    | nil => simp at h
    | cons b bs => simp at h; simp [ih h]
/-- one level: the items are shown -/
theorem shwc_lst (I : Inv X pins σ H s) {a : Addr} {vs : List V} {ps : List PyData} (h : SqL X.K H a vs) (c : ∀ us, Vals vs us → Shws X.prog X.w s.heap us ps) (hz : (PyData.shown (.list ps)).length ≤ sizeLine) : ShwC X.prog X.w s.heap a (.list ps) := by
  obtain ⟨its, rv, ⟨o, n, ho, hc, _, hd⟩, _⟩ := I.list h
  exact shw_list ho hc hd (c its rv) hz
theorem shwc_tup (I : Inv X pins σ H s) {a : Addr} {vs : List V} {ps : List PyData} (h : SqT X.K H a vs) (c : ∀ us, Vals vs us → Shws X.prog X.w s.heap us ps) (hz : (PyData.shown (.tuple ps)).length ≤ sizeLine) : ShwC X.prog X.w s.heap a (.tuple ps) := by
  obtain ⟨its, rv, ⟨o, ho, hc, n, hd⟩, _⟩ := I.tuple h
  exact shw_tup ho hc hd (c its rv) hz
theorem shwc_dct (I : Inv X pins σ H s) {a : Addr} {ks : List Key} {vs : List V} {ps : List PyData} (h : H a = some (.dK (ks.zip vs))) (l : ks.length = vs.length) (l2 : ks.length = ps.length) (hs : PyData.showableKv ((ks.map keyPy).zip ps) = true) (c : ∀ us, Vals vs us → Shws X.prog X.w s.heap us ps)
    (hz : (PyData.shown (.dict ((ks.map keyPy).zip ps))).length ≤ sizeLine) : ShwC X.prog X.w s.heap a (.dict ((ks.map keyPy).zip ps)) := by
  obtain ⟨_, hsys, kvs, r, o, es, ep, ho, hx, hd, _, hp, _⟩ := dk_of I.hok h
  have hz' : (dictText (PyData.shownKv ((ks.map keyPy).zip ps))).length ≤ sizeLine := by simpa only [PyData.shown] using hz
  have z1 := zip_fst (as := ks.map keyPy) (bs := ps) (by simpa using l2)
  have z2 := zip_snd (as := ks.map keyPy) (bs := ps) (by simpa using l2)
  obtain ⟨k1, k2⟩ := keys_shw I r l hp (by have := (PyData.showableKv_split _ hs).1; rw [z1] at this; exact this) (fun t ht => by
    rw [← z1] at ht
    obtain ⟨p, hp, hl⟩ := PyData.shownKv_key_le _ t ht
    exact Nat.le_trans hl (Nat.le_trans (dictText_mem_le hp) hz'))
  exact shw_dict ho hx.1 hd hsys (by rw [z1]; exact k1) (by rw [z2]; exact c _ k2) hz
mutual
theorem shw_of (I : Inv X pins σ H s) (sm : Same F H) : ∀ (d : D) {v : V} {u : Value} {p : PyData}, Rep X.K F d v → RelV v u → d.py = some p → p.showable = true → p.shown.length ≤ sizeLine → Shw X.prog X.w s.heap u p
  | .non, _, _, _, h, r, e, hs, hz => by
    simp only [D.py] at e; cases e
    simp only [Rep] at h; subst h
    cases r
    exact ⟨[], [], .none, (fun _ h => nomatch h), by simp only [PyData.shown]; exact .of_is ReprIs.none _ _ _⟩
  | .bl b, _, _, _, h, r, e, hs, hz => by
    simp only [D.py] at e; cases e
    simp only [Rep] at h; subst h
    cases r
    exact ⟨[], [], .bool b, (fun _ h => nomatch h), by simp only [PyData.shown]; exact .of_is (ReprIs.bool b) _ _ _⟩
  | .int i, _, _, _, h, r, e, hs, hz => by
    simp only [D.py] at e; cases e
    simp only [Rep] at h; subst h
    obtain ⟨t, rfl⟩ := r
    exact ⟨[], [], .int i t, (fun _ h => nomatch h), by simp only [PyData.shown]; exact .of_is (ReprIs.int t (by simpa [PyData.showable] using hs)) _ _ _⟩
  | .str x, _, _, _, h, r, e, hs, hz => by
    simp only [D.py] at e; cases e
    simp only [Rep] at h; subst h
    obtain ⟨t, rfl⟩ := r
    exact ⟨[], [], .str x t, (fun _ h => nomatch h), by simp only [PyData.shown]; exact .of_is (ReprIs.str x t (by simpa only [PyData.shown] using hz)) _ _ _⟩
  | .ty _, _, _, _, _, _, e, _, _ => by simp [D.py] at e
  | .ref _, _, _, _, _, _, e, _, _ => by simp [D.py] at e
  | .rol _, _, _, _, _, _, e, _, _ => by simp [D.py] at e
  | .ins _ _ _, _, _, _, _, _, e, _, _ => by simp [D.py] at e
  | .exn _ _ _, _, _, _, _, _, e, _, _ => by simp [D.py] at e
  | .tup ds, _, _, _, h, r, e, hs, hz => by
    simp only [D.py] at e
    split at e
    · rename_i ps hp
      cases e
      simp only [Rep] at h
      obtain ⟨a, vs, rfl, h1, h2⟩ := h
      cases r
      have hz' : (tupleText (PyData.shownAll ps)).length ≤ sizeLine := by simpa only [PyData.shown] using hz
      exact (shwc_tup I (.of (sm _ _ h1)) (fun us ru => shws_of I sm ds h2 ru hp (by simpa [PyData.showable] using hs) fun t ht => Nat.le_trans (tupleText_mem_le ht) hz') hz).shw
    · cases e
  | .ctp ds, _, _, _, h, r, e, hs, hz => by
    simp only [D.py] at e
    split at e
    · rename_i ps hp
      cases e
      simp only [Rep] at h
      obtain ⟨a, vs, rfl, h1, h2⟩ := h
      cases r
      have hz' : (tupleText (PyData.shownAll ps)).length ≤ sizeLine := by simpa only [PyData.shown] using hz
      exact (shwc_tup I (.inr h1) (fun us ru => shws_of I sm ds h2 ru hp (by simpa [PyData.showable] using hs) fun t ht => Nat.le_trans (tupleText_mem_le ht) hz') hz).shw
    · cases e
  | .lst ds, _, _, _, h, r, e, hs, hz => by
    simp only [D.py] at e
    split at e
    · rename_i ps hp
      cases e
      simp only [Rep] at h
      obtain ⟨a, vs, rfl, h1, h2⟩ := h
      cases r
      have hz' : (listText (PyData.shownAll ps)).length ≤ sizeLine := by simpa only [PyData.shown] using hz
      exact (shwc_lst I (.of (sm _ _ h1)) (fun us ru => shws_of I sm ds h2 ru hp (by simpa [PyData.showable] using hs) fun t ht => Nat.le_trans (listText_mem_le ht) hz') hz).shw
    · cases e
  | .dct ks ds, _, _, _, h, r, e, hs, hz => by
    rw [dct_py, Option.map_eq_some_iff] at e
    obtain ⟨ps, hp, rfl⟩ := e
    simp only [Rep] at h
    obtain ⟨a, vs, rfl, h1, l, h2⟩ := h
    cases r
    have l2 : ks.length = ps.length := by rw [l, pys_len hp]
    have hz' : (dictText (PyData.shownKv ((ks.map keyPy).zip ps))).length ≤ sizeLine := by simpa only [PyData.shown] using hz
    have z2 := zip_snd (as := ks.map keyPy) (bs := ps) (by simpa using l2)
    have hs' : PyData.showableKv ((ks.map keyPy).zip ps) = true := by simpa [PyData.showable] using hs
    refine (shwc_dct I (sm _ _ h1) (by rw [l, h2.len]) l2 hs' (fun us ru => shws_of I sm ds h2 ru hp (by have := (PyData.showableKv_split _ hs').2; rw [z2] at this; exact this) fun t ht => ?_) hz).shw
    rw [← z2] at ht
    obtain ⟨p, hp, hl⟩ := PyData.shownKv_val_le _ t ht
    exact Nat.le_trans hl (Nat.le_trans (dictText_mem_le hp) hz')
theorem shws_of (I : Inv X pins σ H s) (sm : Same F H) : ∀ (ds : List D) {vs : List V} {us : List Value} {ps : List PyData}, Reps X.K F ds vs → Vals vs us → D.pys ds = some ps → PyData.showableAll ps = true → (∀ t ∈ PyData.shownAll ps, t.length ≤ sizeLine) → Shws X.prog X.w s.heap us ps
  | [], _, _, _, h, r, e, _, _ => by
    simp only [D.pys] at e; cases e
    simp only [Reps] at h; subst h
    cases r
    exact Shws.nil
  | d :: ds, _, _, _, h, r, e, hs, hz => by
    simp only [D.pys] at e
    split at e
    · rename_i p ps h1 h2
      cases e
      obtain ⟨v, vs, rfl, q1, q2⟩ := h
      cases r with
      | cons r1 r2 =>
        simp only [PyData.showableAll, Bool.and_eq_true] at hs
        simp only [PyData.shownAll, List.mem_cons] at hz
        exact Shws.cons (shw_of I sm d q1 r1 h1 hs.1 (hz _ (.inl rfl))) (shws_of I sm ds q2 r2 h2 hs.2 fun t ht => hz t (.inr ht))
    · cases e
end
end
end DL
end
section
set_option maxRecDepth 100000
set_option maxHeartbeats 4000000
namespace DL
open PySem PySem.Spec PyProof.Rows L2
variable [tb : Tb]
/-! ### a op b op c, b an int -/
section
variable {K : PySem.W.Frag} {mg : Str → Option Value} {pv : Nat → Option V} {W : WX} {f g k : M R} {h1 h2 : D → D → Option R} {r r' : R2} {σ : L2.St} {H : Hp} {Q : VK}
end
section
variable {X : Cx} {pv : Nat → Option V} {W : WX} {f g k : M R} {h1 h2 : D → D → Option R} {a b c : Expr} {pos : Pos} {op op' : CmpOp}
/-! ### names of the module -/
theorem de_glob {x : Str} {u : Value} {v : V} {d : D} (hg : Gl X x) (hm : X.mg x = some u) (rv : RelV v u) (rd : ∀ F, Rep X.K F d v) (hd : (x == ("__debug__" : Str)) = false := by decide) : PE X (.Name x pos) (tD X.K X.mg pv W (dC d)) := de_c (pe_glob hg hm rv hd) rd
end
/-! ### a, b = x, y -/
def setRs : List (How × Nat) → List R → DEnv → Res Flow
  | [], [], env => .ok .nx env
  | (h, i) :: ts, r :: rs, env => (match r with
    | .bor _ => .bad
    | _ => (setR h i r env).bind fun _ e => setRs ts rs e)
  | _, _, _ => .bad
def sPar (ts : List (How × Nat)) (fs : M (List R)) : M Flow := fun env => (fs env).bind (setRs ts)
def setsV (σ : L2.St) : List (How × Nat) → List V → L2.St
  | [], _ => σ
  | (_, i) :: ts, v :: vs => setsV (σ.set i (some v)) ts vs
  | _ :: _, [] => σ
section
variable {K : PySem.W.Frag} {mg : Str → Option Value} {pv : Nat → Option V} {W : WX} {D : Ends}
theorem setR_nx {h : How} {i : Nat} {r : R} {env : DEnv} {fl : Flow} {e : DEnv} (q : setR h i r env = .ok fl e) : fl = .nx := by
  unfold setR at q
  split at q
  · split at q
    all_goals first
      | (cases q; rfl)
      | (split at q <;> first | (cases q; rfl) | (split at q <;> first | (cases q; rfl) | cases q) | cases q)
      | cases q
  · cases q
theorem sets_end : ∀ {ts : List (How × Nat)} {rs : List R} {vs : List V} {B : List Addr} {F0 H0 F1 H1 : Hp} {A0 A1 : Nat → List Addr} {e : DEnv} {σ : L2.St}, Step F0 H0 (UA A0) F1 H1 (fun a => UA A1 a ∨ a ∈ B) → RSs K pv e σ rs vs F1 H1 A1 B →
    SPost K mg pv W D F0 H0 A0 (setRs ts rs e) → vs.length = ts.length ∧ D.nx (setsV σ ts vs) H1
  | [], [], _, B, F0, H0, F1, H1, A0, A1, e, σ, st, rss, q => by
    obtain ⟨rfl, rfl⟩ := rss.rr
    exact ⟨rfl, q σ F1 H1 A1 (step_drop st) rss.ws⟩
  | [], _ :: _, _, _, _, _, _, _, _, _, _, _, _, _, q => q.elim
  | _ :: _, [], _, _, _, _, _, _, _, _, _, _, _, _, q => q.elim
  | (h, i) :: ts, r :: rs, _, B, F0, H0, F1, H1, A0, A1, e, σ, st, rss, q => by
    obtain ⟨v, t, B1, B2, rfl, rfl, r1, r2⟩ := rss.rr
    simp only [setRs] at q
    have nb : ∀ j, r ≠ .bor j := fun j z => by subst z; exact q
    have q1 : SPost K mg pv W D F0 H0 A0 ((setR h i r e).bind fun _ e => setRs ts rs e) := by
      cases r with
      | bor j => exact absurd rfl (nb j)
      | val d => exact q
      | own o => exact q
    clear q
    have nd := List.nodup_append.mp rss.nd
    have rs1 : RS K pv e σ r v F1 H1 A1 B1 := ⟨rss.ws, r1, nd.1, fun a ha => rss.dj a (List.mem_append_left _ ha), fun a ha => rss.dis a (List.mem_append_left _ ha)⟩
    let A0' : Nat → List Addr := fun j => if j = 0 then A1 0 ++ B1 else A1 j
    have hA0 : ∀ a, UA A0' a ↔ (UA A1 a ∨ a ∈ B1) := fun a => by
      constructor
      · rintro ⟨j, hj⟩
        by_cases z : j = 0
        · subst z
          rcases List.mem_append.mp (show a ∈ A1 0 ++ B1 from hj) with h | h
          · exact .inl ⟨0, h⟩
          · exact .inr h
        · have : A0' j = A1 j := if_neg z
          rw [this] at hj
          exact .inl ⟨j, hj⟩
      · rintro (⟨j, hj⟩ | h)
        · by_cases z : j = 0
          · subst z; exact ⟨0, List.mem_append_left _ hj⟩
          · exact ⟨j, by rw [show A0' j = A1 j from if_neg z]; exact hj⟩
        · exact ⟨0, List.mem_append_right _ h⟩
    have st0 : Step F1 H1 (UA A0') F1 H1 (fun a => UA A1 a ∨ a ∈ B1) := Step.refl.less fun a h => (hA0 a).mpr h
    -- what stands behind the first store
    let D' : Ends := { nx := fun σ' H' => ∀ v', σ' = σ.set i (some v') → H' = H1 → v' = v → t.length = ts.length ∧ D.nx (setsV σ' ts t) H1, rt := fun _ _ => True }
    cases e1 : setR h i r e with
    | bad => rw [e1] at q1; exact q1.elim
    | exc c env' =>
      exfalso
      unfold setR at e1
      split at e1
      · split at e1
        all_goals first
          | cases e1
          | (split at e1 <;> first | cases e1 | (split at e1 <;> cases e1))
      · cases e1
    | ok fl e2 =>
      rw [e1] at q1
      simp only [Res.bind] at q1
      have hfl := setR_nx e1
      subst hfl
      have key : D'.nx (σ.set i (some v)) H1 := by
        refine set_end (K := K) (mg := mg) (pv := pv) (W := W) (D := D') (h := h) st0 rs1 ?_
        rw [e1]
        intro σ' F' H' A' s' w' v' hσ hH hv
        subst hH hv
        have th : ∀ b ∈ B2, H' b ≠ none := by
          clear q1 s' w' st st0
          have : ∀ {rs : List R} {vs : List V} {B : List Addr}, RReps K e σ F1 H' rs vs B → ∀ b ∈ B, H' b ≠ none := by
            intro rs
            induction rs with
            | nil => intro vs B h b hb; rw [h.2] at hb; cases hb
            | cons r rs ih =>
              intro vs B h b hb
              obtain ⟨v, t, B1, B2, rfl, rfl, h1, h2⟩ := h
              rcases List.mem_append.mp hb with hb | hb
              · exact h1.there b hb
              · exact ih h2 b hb
          exact this r2
        have nU : ∀ b ∈ B2, ¬ UA A0' b := fun b hb hu => by
          rcases (hA0 b).mp hu with h | h
          · exact rss.dj b (List.mem_append_right _ hb) h
          · exact nd.2.2 b h b hb rfl
        have rr2 : RReps K e2 σ' F' H' rs t B2 := by
          have stay : ∀ {rs : List R} {vs : List V} {B : List Addr}, RReps K e σ F1 H' rs vs B → (∃ f, setRs ts rs e2 = f ∧ SPost K mg pv W D F0 H0 A0 f) → True := fun _ _ => trivial
          have gen : ∀ {ts : List (How × Nat)} {rs : List R} {vs : List V} {B : List Addr} {e2 : DEnv}, RReps K e σ F1 H' rs vs B → SPost K mg pv W D F0 H0 A0 (setRs ts rs e2) → ∀ e3, RReps K e3 σ' F' H' rs vs B := by
            intro ts rs
            induction rs generalizing ts with
            | nil => intro vs B e2 h _ _; exact h
            | cons r rs ih =>
              intro vs B e2 h q e3
              obtain ⟨v, t, B1, B2, rfl, rfl, h1, h2⟩ := h
              cases ts with
              | nil => exact q.elim
              | cons p ts =>
                obtain ⟨hh, ii⟩ := p
                simp only [setRs] at q
                cases r with
                | bor j => exact q.elim
                | val d =>
                  simp only at q
                  refine ⟨v, t, B1, B2, rfl, rfl, ⟨h1.1, Rep.same s'.fz d h1.2⟩, ?_⟩
                  cases e4 : setR hh ii (.val d) e2 with
                  | bad => rw [e4] at q; exact q.elim
                  | exc c e5 => exfalso; unfold setR at e4; split at e4 <;> first | (cases hh <;> cases e4) | cases e4
                  | ok fl e5 => rw [e4] at q; exact ih h2 q e3
                | own o =>
                  simp only at q
                  refine ⟨v, t, B1, B2, rfl, rfl, Own.stay s'.fz o h1 fun _ _ _ z => z, ?_⟩
                  cases e4 : setR hh ii (.own o) e2 with
                  | bad => rw [e4] at q; exact q.elim
                  | exc c e5 => exfalso; unfold setR at e4; split at e4 <;> first | (cases hh <;> first | cases e4 | (simp only at e4; split at e4 <;> cases e4)) | cases e4
                  | ok fl e5 => rw [e4] at q; exact ih h2 q e3
          exact gen r2 q1 e2
        have fullS : Step F0 H0 (UA A0) F' H' (fun a => UA A' a ∨ a ∈ B2) := by
          have s1 : Step F1 H' (fun a => UA A1 a ∨ a ∈ B1 ++ B2) F' H' (fun a => UA A' a ∨ a ∈ B2) :=
            ((s'.frame (fun a => a ∈ B2)).more (P2 := fun a => UA A1 a ∨ a ∈ B1 ++ B2) fun a ha => by
              rcases ha with h | h
              · rcases (hA0 a).mp h with h | h
                · exact .inl h
                · exact .inr (List.mem_append_left _ h)
              · exact .inr (List.mem_append_right _ h))
          exact st.trans s1
        have rss2 : RSs K pv e2 σ' rs t F' H' A' B2 := by
          refine ⟨w', rr2, nd.2.1, fun a ha hu => ?_, fun a ha => ?_⟩
          · rcases s'.own a hu with h | h
            · exact nU a ha h
            · exact th a ha h
          · apply Classical.byContradiction
            intro z
            rcases s'.new a z with h | h | h
            · exact h (rss.dis a (List.mem_append_right _ ha))
            · exact th a ha h
            · exact nU a ha h
        subst hσ
        exact sets_end fullS rss2 q1
      obtain ⟨k1, k2⟩ := key v rfl rfl rfl
      exact ⟨by simp [k1], k2⟩
theorem sPar_rd2 {h1 h2 : How} {i j : Nat} {fs : M (List R)} {σ : L2.St} {H : Hp} (q : sD K mg pv W (sPar [(h1, i), (h2, j)] fs) D σ H) : tPar i j (tDA K mg pv W fs) D σ H := by
  obtain ⟨env, F, A, ws, q⟩ := sD_iff.mp q
  simp only [sPar] at q
  refine tDA_bind ws (fun e => ?_) (fun c e1 e F1 H1 A1 s1 w1 => ?_) (fun r1 e1 e v1 F1 H1 A1 B1 s1 rs1 => ?_)
  · rw [e] at q; exact q
  · rw [e] at q; exact q σ F1 H1 A1 s1 w1
  · rw [e] at q
    obtain ⟨l, k⟩ := sets_end s1 rs1 q
    cases v1 with
    | nil => simp at l
    | cons a v1 =>
      cases v1 with
      | nil => simp at l
      | cons b v1 =>
        cases v1 with
        | nil => exact ⟨a, b, rfl, k⟩
        | cons _ _ => simp at l
end
section
variable {X : Cx} {pv : Nat → Option V} {W : WX} {fs : M (List R)}
theorem ds_par {h1 h2 : How} {i j : Nat} {x y : Str} {a b : Expr} {px py pt pos : Pos} {kt k2 pt2} (hc : X.calm = true) (hN : X.N.Nodup) (hi : X.N[i]? = some x) (hj : X.N[j]? = some y) (hij : i ≠ j)
    (hx : X.env.scope.names.lookup x = some .local) (hy : X.env.scope.names.lookup y = some .local) (ha : PA X [a, b] (tDA X.K X.mg pv W fs))
    (hw : swappedStores [.Tuple [.Name x px, .Name y py] kt pt] (.Tuple [a, b] k2 pt2) X.env = pure (some [x, y]))
    (hs : swapsWithSole [.Tuple [.Name x px, .Name y py] kt pt] (.Tuple [a, b] k2 pt2) pos.line X.env = pure false := by rfl) :
    PS X (.Assign [.Tuple [.Name x px, .Name y py] kt pt] (.Tuple [a, b] k2 pt2) pos) (sD X.K X.mg pv W (sPar [(h1, i), (h2, j)] fs)) := (ps_par hc hN hi hj hij hx hy ha hw hs).imp fun _ _ _ q => sPar_rd2 q
end
end DL
end
section
set_option maxRecDepth 100000
set_option maxHeartbeats 4000000
namespace DL
open PySem PySem.Spec PyProof.Rows L2
variable [tb : Tb]
/-! ### results that wait -/
section
variable {K : PySem.W.Frag} {pv : Nat → Option V} {env env2 : DEnv} {σ : L2.St} {F F' H H' : Hp} {A A' : Nat → List Addr} {B : List Addr} {rs : List R} {vs : List V}
theorem RReps.there : ∀ {rs : List R} {vs : List V} {B : List Addr}, RReps K env σ F H rs vs B → ∀ b ∈ B, Nd (H b)
  | [], _, _, h, b, hb => by rw [h.2] at hb; cases hb
  | r :: rs, _, _, h, b, hb => by
    obtain ⟨v, t, B1, B2, rfl, rfl, h1, h2⟩ := h
    rcases List.mem_append.mp hb with hb | hb
    · exact h1.nd b hb
    · exact RReps.there h2 b hb
theorem RReps.stay (e : Same F F') : ∀ {rs : List R} {vs : List V} {B : List Addr}, RReps K env σ F H rs vs B → (∀ b ∈ B, ∀ u, H b = some u → H' b = some u) → RReps K env2 σ F' H' rs vs B
  | [], _, _, h, _ => h
  | r :: rs, _, _, h, k => by
    obtain ⟨v, t, B1, B2, rfl, rfl, h1, h2⟩ := h
    exact ⟨v, t, B1, B2, rfl, rfl, h1.stay e fun b hb => k b (List.mem_append_left _ hb), RReps.stay e h2 fun b hb => k b (List.mem_append_right _ hb)⟩
theorem nd_some {o : Option HO} (h : Nd o) : o ≠ none := by
  cases o with
  | none => exact h.elim
  | some _ => simp
theorem RSs.wait (a : RSs K pv env σ rs vs F H A B) {P' : Addr → Prop} (s : Step F H (UA A) F' H' P') : RReps K env2 σ F' H' rs vs B ∧ (∀ x ∈ B, F' x = none) ∧ (∀ x ∈ B, ¬ P' x) := by
  have th := a.rr.there
  refine ⟨a.rr.stay s.fz fun b hb u e => s.keep b u e (Nd.noTb (by rw [← e]; exact th b hb)) (a.dj b hb), fun x hx => ?_, fun x hx p => ?_⟩
  · apply Classical.byContradiction
    intro z
    rcases s.new x z with q | q | q
    · exact q (a.dis x hx)
    · exact nd_some (th x hx) q
    · exact a.dj x hx q
  · rcases s.own x p with q | q
    · exact a.dj x hx q
    · exact nd_some (th x hx) q
end
/-! ### built-ins with keywords -/
def CallKV (K : PySem.W.Frag) (r : List V → List V → Hp → VK → Prop) (h : List D → List D → Option R) : Prop := ∀ (F H : Hp) (ds zs : List D) (vs ws : List V) (ro : R) (Q : VK), Same F H → Vws K F H ds vs → Vws K F H zs ws → h ds zs = some ro → VOk K F H ro Q → r vs ws H Q
structure BltKR (X : Cx) (id : String) (ks : List Str) (h : List D → List D → Option R) : Prop where
  ex : ∃ r, CallRK X (.builtin id) ks r ∧ CallKV X.K r h
section
variable {X : Cx} {pv : Nat → Option V} {W : WX} {fs gs : M (List R)} {f : M R} {x : Str} {p pos kpos : Pos} {e : Expr} {es : List Expr} {kws : List Keyword} {id : String} {nm : Option Str} {h : List D → List D → Option R} {ks : List Str}
end
/-! ### max(xs, default=d) of ints -/
end DL
end
section
set_option maxRecDepth 100000
set_option maxHeartbeats 4000000
namespace DL
open PySem PySem.Spec PyProof.Rows L2
variable [tb : Tb]
/-! ### {k: v, ..} -/
section
variable {K : PySem.W.Frag} {mg : Str → Option Value} {pv : Nat → Option V} {W : WX} {σ : L2.St}
end
section
variable {X : Cx} {pv : Nat → Option V} {W : WX} {pos : Pos}
end
/-! ### t[::-1], xs[::-1] -/
section
variable {prog : Program} {w : World} {A : Around} {E : Value → Shared → Prop} {s : Shared}
end
def op1 (h : D → Option R) (f : M R) : M R := fun env => (f env).bind fun r e => match resolve e r with
  | some d => (match h d with
    | some ro => .ok ro e
    | none => .bad)
  | none => .bad
def Op1V (K : PySem.W.Frag) (r : V → Hp → VK → Prop) (h : D → Option R) : Prop := ∀ (F H : Hp) (d : D) (v : V) (ro : R) (Q : VK), Same F H → Vw K F H d v → h d = some ro → VOk K F H ro Q → r v H Q
theorem op1_rd {K : PySem.W.Frag} {mg : Str → Option Value} {pv : Nat → Option V} {W : WX} {h : D → Option R} {r : V → Hp → VK → Prop} {f : M R} {σ : L2.St} {H : Hp} {Q : VK} (hv : Op1V K r h) (q : tD K mg pv W (op1 h f) σ H Q) : tD K mg pv W f σ H fun x H1 => r x H1 Q := by
  obtain ⟨env, F, A, ws, q⟩ := q
  simp only [op1] at q
  refine tD_bind ws (fun e => ?_) (fun c e1 e F1 H1 A1 s1 w1 => ?_) (fun r1 e1 e v1 F1 H1 A1 B1 s1 rs1 => ?_)
  · rw [e] at q; exact q
  · rw [e] at q; exact q F1 H1 A1 s1 w1
  · rw [e] at q
    simp only [Res.bind] at q
    cases hd : resolve e1 r1 with
    | none => simp only [hd] at q
    | some d =>
      cases hs : h d with
      | none => simp only [hd, hs] at q
      | some ro =>
        simp only [hd, hs] at q
        refine hv F1 H1 d v1 ro Q rs1.ws.sub (rs1.rr.view rs1.ws hd) hs fun v F4 H4 B4 n s rv => ?_
        obtain ⟨z1, z2⟩ := fin_op s1 (fun a ha => .inl ha) rs1.ws n s rv
        exact q v F4 H4 A1 B4 z1 z2
theorem Reps.reverse {K : PySem.W.Frag} {F : Hp} : ∀ {ds : List D} {vs : List V}, Reps K F ds vs → Reps K F ds.reverse vs.reverse
  | [], vs, h => by simp only [Reps] at h; subst h; rfl
  | d :: ds, vs, h => by
    obtain ⟨v, r, rfl, h1, h2⟩ := h
    rw [List.reverse_cons, List.reverse_cons]
    exact (Reps.reverse h2).append (.one h1)
end DL
end
section
set_option maxRecDepth 100000
set_option maxHeartbeats 4000000
namespace DL
open PySem PySem.Spec PyProof.Rows L2
variable [tb : Tb]
/-! ### sorted(xs), by data -/
section
variable {X : Cx} {pins : List (Addr × Obj)} {σ : L2.St} {F H : Hp} {s : Shared}
end
end DL
end
section
set_option maxRecDepth 100000
set_option maxHeartbeats 4000000
namespace DL
open PySem PySem.Spec PyProof.Rows L2
variable [tb : Tb]
/-! ### defs by their names -/
def BA (fd : FuncData) (ps : List Str) : Prop := ∀ us : List Value, us.length = ps.length → bindArgs fd ⟨us, []⟩ = pure (ps.zip us)
structure DefF (K : PySem.W.Frag) (mg : Str → Option Value) (x : Str) (st : Stmt) (ps : List Str) : Prop where
  ex : ∃ f fd, L2.Fun K x x st f fd ∧ BA fd ps ∧ mg x = some (.ref f)
structure GV (P : Program) (w : World) (K : PySem.W.Frag) (mg : Str → Option Value) (base : Heap) (k : Nat) (x : Str) (ps : List Str) (g : List O → RF) : Prop where
  ex : ∃ f fd, mg x = some (.ref f) ∧ PySem.W.keepIn K (.ref f) = true ∧ BA fd ps ∧ (∃ oc od osl, K.lookup f = some ⟨oc, od, .func fd, osl⟩) ∧ GFn P w K mg base (L2.CX P w) k f fd ps (spD K mg ps.length g)
theorem GV.up {P : Program} {w : World} {K : PySem.W.Frag} {mg : Str → Option Value} {base : Heap} {j k : Nat} {x : Str} {ps : List Str} {g : List O → RF} (G : GV P w K mg base j x ps g) (h : j ≤ k) : GV P w K mg base k x ps g :=
  let ⟨f, fd, h1, h2, h3, h5, h4⟩ := G.ex
  ⟨f, fd, h1, h2, h3, h5, h4.up h⟩
theorem fun_lk {K : PySem.W.Frag} {x qual : Str} {st : Stmt} {f : Addr} {fd : FuncData} (F : L2.Fun K x qual st f fd) : ∃ oc od osl, K.lookup f = some ⟨oc, od, .func fd, osl⟩ := by
  obtain ⟨oc, od, kV, doc, pm, an, cdv, ct, osl, _, lk, _⟩ := F.ex
  exact ⟨oc, od, osl, lk⟩
theorem gv_ok {P : Program} {w : World} {K : PySem.W.Frag} {mg : Str → Option Value} {base : Heap} {x : Str} {st : Stmt} {N ps : List Str} {k : Nat} {body : M Flow} (T : DefF K mg x st ps) (S : FnScope N ps (defScope st)) (hn : ps.length ≤ N.length)
    (hbody : ∀ (f : Addr) (cdv : Value) (A : Around) (outer : List Env) (s : Shared) (H : Hp) (E : XK) (pv : Nat → Option V), Room k (A.deeper (envOfC x (defScope st) s.heap.objs.size f cdv)) → A.guards = some [] →
      PSs (cxOf (L2.CX P w) P w K mg base N x (defScope st) f cdv A outer s H E) (defBody st) (sD K mg pv (fun c d _ H => E c d H) body)) :
    GV P w K mg base (k + 1) x ps (mkFn (N.length - ps.length) body) :=
  let ⟨f, fd, h1, h2, h3⟩ := T.ex
  ⟨f, fd, h3, h1.kp, h2, fun_lk h1, fn_ok h1 S hn fun cdv A outer s H E pv _ => hbody f cdv A outer s H E pv⟩
section
variable {X : Cx} {pv : Nat → Option V} {W : WX} {k n : Nat} {x : Str} {ps : List Str} {g : List O → RF} {ms : List Mode} {fs : M (List R)} {e : Expr} {es : List Expr} {p pos : Pos} {f : M R}
theorem de_callV (tk : Takes X W) (G : GV X.prog X.w X.K X.mg X.base k x ps g) (hr : Room k X.A) (gd : X.A.guards = some []) (hg : Gl X x) (ha : PA X (e :: es) (tDA X.K X.mg pv W fs))
    (hdb : (x == ("__debug__" : Str)) = false := by decide) (he : starEach (e :: es) X.env = (false, eval e X.env) :: starEach es X.env := by rfl) (hpl : (backTo pos (starEach es X.env)).any (·.1) = false := by rfl) (hl : ps.length = ms.length := by rfl) :
    PE X (.Call (.Name x p) (e :: es) [] pos) (tD X.K X.mg pv W (dCall g ms fs)) :=
  let ⟨_, _, h1, h2, h3, _, h4⟩ := G.ex
  de_call tk (by rw [← hl]; exact h4) hr gd hg h1 h2 (Binds.all h3) ha hdb he hpl
theorem de_callV0 (tk : Takes X W) (G : GV X.prog X.w X.K X.mg X.base k x [] g) (hr : Room k X.A) (gd : X.A.guards = some []) (hg : Gl X x) (hdb : (x == ("__debug__" : Str)) = false := by decide) : PE X (.Call (.Name x p) [] [] pos) (tD X.K X.mg pv W (dCall0 g)) :=
  let ⟨_, _, h1, h2, h3, _, h4⟩ := G.ex
  de_call0 tk h4 hr gd hg h1 h2 (Binds.all h3) hdb
end
/-! ### -x -/
/-! ### xs.append(e), xs.extend(e) -/
section
variable {X : Cx} {pv : Nat → Option V} {W : WX} {i : Nat} {fs : M (List R)} {x : Str} {p pos apos : Pos} {e : Expr} {es : List Expr}
end
abbrev hLt := hCmp fun i j => decide (i < j)
abbrev hLe := hCmp fun i j => decide (i ≤ j)
abbrev hGt := hCmp fun i j => decide (j < i)
abbrev hGe := hCmp fun i j => decide (j ≤ i)
end DL
end
section
set_option maxRecDepth 100000
set_option maxHeartbeats 4000000
namespace DL
open PySem PySem.Spec PyProof.Rows L2 LamX
/-! ### a lambda is made -/
section
variable {Xc : Cx} {pinz : List (Addr × Obj)} {σz : L2.St} {Hz : Hp} {sz : Shared}
end
/-! ### a lambda with one parameter, called -/
structure LamP (sc scope : Scope) (a : Str) : Prop where
  kind : scope.kind = .function
  co : scope.isCoroutine = false
  gen : scope.isGenerator = false
  own : ∀ y ∈ scope.names, y.2 ≠ .cell ∧ (y.2 = .local → y.1 = a)
  par : scope.names.lookup a = some .local
  free : ∀ y ∈ scope.names, y.2 = .free → sc.names.lookup y.1 = some .cell ∨ sc.names.lookup y.1 = some .free
theorem LamP.has {X : Cx} {scope : Scope} {a : Str} (L : LamP X.env.scope scope a) (ok : X.Ok) : ∀ y ∈ scope.names, y.2 = .free → ∃ c, X.env.cells.lookup y.1 = some c := fun y hy e => by
  rcases L.free y hy e with k | k
  · exact ok.has _ (.inl k)
  · exact ok.has _ (.inr k)
section
variable {X : Cx} {pins : List (Addr × Obj)} {σ : L2.St} {H : Hp} {s : Shared}
abbrev E00 : XK := fun _ _ _ => False
end
end DL
end
section
set_option maxRecDepth 100000
set_option maxHeartbeats 4000000
namespace DL
open PySem PySem.Spec PyProof.Rows L2 LamX
variable [tb : Tb]
/-! ### max(xs, key=lambda a: ..), ints as keys -/
section
variable {K : PySem.W.Frag} {pv : Nat → Option V} {e : DEnv} {σ : L2.St} {F H : Hp} {A : Nat → List Addr}
end
section
variable {X : Cx} {pv : Nat → Option V} {W : WX} {f fb : M R} {i k : Nat} {a x : Str} {P c : Addr} {e : Expr} {params : Arguments} {body : Expr} {scope : Scope} {lpos kpos p pos : Pos}
/-- what stands while the greatest is sought -/
def JK (X : Cx) (pv : Nat → Option V) (pins : List (Addr × Obj)) (σ : L2.St) (e : DEnv) (F0 H0 : Hp) (A0 : Nat → List Addr) (c' S I : Addr) (q : Str) (s : Shared) : Prop :=
  ∃ F H A, Inv X pins σ H s ∧ WS X.K pv e σ F H A ∧ Step F0 H0 (UA A0) F H (UA A) ∧ H c' = some (CodeO c' q) ∧ FpOk X pins H S ∧ FpOk X pins H I
theorem JK.moved {pins : List (Addr × Obj)} {σ : L2.St} {e0 : DEnv} {F0 H0 : Hp} {A0 : Nat → List Addr} {c' S I : Addr} {q : Str} {s s' : Shared} (J : JK X pv pins σ e0 F0 H0 A0 c' S I q s) (m : Moved [S, I] (fun a b => b = a) s s') : JK X pv pins σ e0 F0 H0 A0 c' S I q s' := by
  obtain ⟨F, H, A1, I1, w1, st1, hc, fS, fI⟩ := J
  have fps : ∀ b ∈ [S, I], FpOk X pins H b := fun b hb => by
    rcases List.mem_cons.mp hb with rfl | hb
    · exact fS
    · rw [List.mem_singleton.mp hb]; exact fI
  have I2 := I1.turnedL (h' := s'.heap) (t' := s'.toks) (ch := [S, I]) m.heap fps
  have e : s' = { s with heap := s'.heap, toks := s'.toks } := by
    obtain ⟨h1, g1, d1, t1, o1⟩ := s'
    have hg : g1 = s.gens := m.gens
    have hd : d1 = s.drawn := m.drawn
    have ho : o1 = s.os := m.os
    rw [hg, hd, ho]
  rw [e]
  exact ⟨F, H, A1, I2, w1, st1, hc, fS, fI⟩
end
end DL
end
section
set_option maxRecDepth 100000
set_option maxHeartbeats 4000000
namespace DL
open PySem PySem.Spec PyProof.Rows L2 LamX
variable [tb : Tb]
/-! ### defs that make lambdas -/
structure TabL (base : Heap) (mg : Str → Option Value) (x : Str) (c P : Addr) : Prop where
  tab : TabB base mg c P
  mem : (P, (x ++ (".<locals>." : Str)) ++ ("<lambda>" : Str)) ∈ tb.T
  uniq : ∀ p ∈ tb.T, p.1 = P → p.2 = (x ++ (".<locals>." : Str)) ++ ("<lambda>" : Str)
structure DefL (K : PySem.W.Frag) (mg : Str → Option Value) (base : Heap) (x : Str) (st : Stmt) (ps : List Str) : Prop where
  ex : ∃ f fd c P, L2.Fun K x x st f fd ∧ BA fd ps ∧ mg x = some (.ref f) ∧ fd.code = .ref c ∧ TabL base mg x c P
end DL
end
section
set_option maxRecDepth 100000
set_option maxHeartbeats 4000000
namespace DL
open PySem PySem.Spec PyProof.Rows L2 LamX
/-! ### the law's end, with tables -/
/-- law_call with tables: cz, the code objects and their tables -/
theorem law_gTs {P : Program} {w : World} {K : PySem.W.Frag} {mg mbq : Str → Option Value} {CXz : CXT} {k : Nat} {fq a : Addr} {cz : List (Addr × Addr)} {fdq : FuncData} {pq : List Str} {sp : Sp} {sz : Shared} {vz : List Value} {nz : List Int}
    (kInz : K.In sz.heap) (nsMz : sz.heap.Ns mainGlobals mg) (qb : sz.heap.Ns builtinsNs mbq) (nsBq : ∀ x : Str, x ≠ "__name__" → mbq x = bootBuiltins x) (limz : sz.heap.NoLimit) (gensz : sz.gens = #[])
    (tabz : ∀ p ∈ cz, sz.heap.get? p.2 = some { cls := .none, data := .fields #[] }) (tabn : ∀ p ∈ cz, K.lookup p.2 = none) (C : ∀ p ∈ cz, PySem.W.CodeHd sz.heap p.1 p.2)
    (bmz : ∃ (bm : Addr) (ob : Obj), mg "__builtins__" = some (.ref bm) ∧ bm ≠ builtinsNs ∧ sz.heap.get? bm = some ob ∧ ob.cls = .type "module" ∧ ob.dict = some builtinsNs ∧ ob.data = .plain)
    (objz : sz.heap.get? a = some { cls := .type "list", data := .seq vz.toArray }) (intsz : IntsAre vz nz) (lenz : nz.length ≤ sizeLine) (roomz : Room k callerA)
    (Fq : ∀ base : Heap, K.In base → base.Ns mainGlobals mg → (∀ p ∈ cz, TabB base mg p.1 p.2) → GFn P w K mg base CXz k fq fdq pq sp) (bindz : ∀ (s : Shared) (u : Value), BindsTo s fdq ⟨[u], []⟩ (pq.zip [u]))
    (spz : ∀ H : Hp, (∀ p ∈ cz, H p.2 = some (.tbl #[])) → SqL K H a (nz.map V.int) → sp [.ref a] H (fun v _ => v = .bl true) fun _ _ _ => False)
    (cxz : ∀ H ez s', CXz [] H sz (fun _ _ _ => False) ez s' → False) :
    codeAny (model P w) callerA (.call (.ref fq) ⟨[.ref a], []⟩) (fun r s' => r = .ok (.ret (.bool true)) ∧ OldK sz.heap s'.heap ∧ s'.os = sz.os ∧ AllBare s'.gens) sz := by
  have rvz := vals_ints intsz
  have lenq := intsz.length
  have isTz : ∀ b : Addr, b ∈ cz.map (·.2) → sz.heap.get? b = some { cls := .none, data := .fields #[] } := fun b qb => by
    obtain ⟨p, pz, ez⟩ := List.mem_map.mp qb
    rw [← ez]
    exact tabz p pz
  have aTz : a ∉ cz.map (·.2) := fun zz => by
    have qq := isTz a zz
    rw [objz] at qq
    have z' : Data.seq vz.toArray _ = Data.fields #[] := congrArg Obj.data (Option.some.inj qq)
    cases z'
  have memz : ∀ p ∈ cz, p.2 ∈ cz.map (·.2) := fun p pz => List.mem_map.mpr ⟨p, pz, rfl⟩
  -- from an abstract heap in which nothing but the script and the tables may be tracked
  have coreq : ∀ H : Hp, (∀ p ∈ cz, H p.2 = some (.tbl #[])) → (∀ b, H b = none ∨ b ∈ cz.map (·.2) ∨ ∃ o xs, H b = some (.frz o (.lst xs))) → SqL K H a (nz.map V.int) → HOk P w H sz.heap → (∀ b, H b ≠ none → b = a ∨ b ∈ cz.map (·.2)) → (H a ≠ none → K.lookup a = none) →
      codeAny (model P w) callerA (.call (.ref fq) ⟨[.ref a], []⟩) (fun r s' => r = .ok (.ret (.bool true)) ∧ OldK sz.heap s'.heap ∧ s'.os = sz.os ∧ AllBare s'.gens) sz := by
    intro H trH onlyH sqH okH inA notK
    have baseq : ∀ {b : Addr} {o : Obj}, sz.heap.get? b = some o → H b = none → (hidT sz.heap H).get? b = some o := fun ez n => hidT_get ez n
    have noDq : ∀ {b : Addr} {o : Obj}, sz.heap.get? b = some o → (∀ vz n, o.data ≠ .seq vz n) → o.data ≠ .fields #[] → H b = none := fun {b o} ez h1 h2 => by
      cases qq : H b with
      | none => rfl
      | some u =>
        rcases inA b (by rw [qq]; simp) with e' | e'
        · rw [e', objz] at ez
          cases ez
          exact (h1 _ _ rfl).elim
        · rw [isTz b e'] at ez
          cases ez
          exact (h2 rfl).elim
    have noAq : ∀ {b : Addr} {o : Obj} {es : Array DictEntry} {ep : Nat}, sz.heap.get? b = some o → o.data = .dict es ep → H b = none := fun {b o es ep} ez d => by
      refine noDq ez (fun vz n zz => ?_) fun zz => ?_
      · rw [d] at zz
        cases zz
      · rw [d] at zz
        cases zz
    have nsq : ∀ {b : Addr} {m : Str → Option Value}, sz.heap.Ns b m → (hidT sz.heap H).Ns b m := fun {b m} ⟨o, es, ep, ez, d, r⟩ => ⟨o, es, ep, baseq ez (noAq ez d), d, r⟩
    have kbq : K.In (hidT sz.heap H) := fun b o ez => baseq (kInz b o ez) (by
      cases qq : H b with
      | none => rfl
      | some u =>
        rcases inA b (by rw [qq]; simp) with e' | e'
        · rw [e'] at ez qq
          rw [notK (by rw [qq]; simp)] at ez
          cases ez
        · obtain ⟨p, pz, ep⟩ := List.mem_map.mp e'
          rw [← ep, tabn p pz] at ez
          cases ez)
    have modq : L2.Mod K mg (hidT sz.heap H) := ⟨kbq, nsq nsMz, ⟨mbq, nsq qb, nsBq⟩, let ⟨mc, h1, h2⟩ := limz; ⟨mc, nsq h1, h2⟩⟩
    have tbq : ∀ p ∈ cz, TabB (hidT sz.heap H) mg p.1 p.2 := fun p pz => by
      have hTp := tabz p pz
      refine ⟨?_, ?_, fun zz => ?_⟩
      · obtain ⟨o, us, file, tf, flags, tg, inF, text, tt, e1, r1, r2, r3, r4, r5, r6, r7, r8, hne⟩ := C p pz
        refine ⟨o, us, file, tf, flags, tg, inF, text, tt, baseq e1 (noDq e1 (fun vz n zz => ?_) fun zz => ?_), r1, r2, r3, r4, r5, r6, r7, r8, hne⟩
        · rw [r2] at zz
          cases zz
        · rw [r2] at zz
          cases zz
          simp at r3
      · obtain ⟨bm, ob, b1, b2, b3, b4, b5, b6⟩ := bmz
        have nG : bm ≠ mainGlobals := fun qq => by
          obtain ⟨o, es, ep, ez, hd, _⟩ := nsMz
          rw [qq, ez] at b3
          cases b3
          rw [hd] at b6
          cases b6
        have nP : bm ≠ p.2 := fun qq => by
          rw [qq, hTp] at b3
          cases b3
          cases b6
        refine ⟨bm, ob, b1, b2, nG, nP, baseq b3 (noDq b3 (fun vz n zz => ?_) fun zz => ?_), b4, b5, b6⟩
        · rw [b6] at zz
          cases zz
        · rw [b6] at zz
          cases zz
      · obtain ⟨o, es, ep, ez, hd, _⟩ := nsMz
        rw [zz, hTp] at ez
        cases ez
        cases hd
    have envq : Env0 P w K mg (hidT sz.heap H) callerA [] sz H := ⟨rfl, modq, fun b o ez => of_hidT ez, Nat.le_of_eq (hidT_size _ _), trivial, fun b qb => absurd (show b ∈ ([] : List Addr) from qb) (by simp), okH, .of_eq gensz⟩
    refine codeAny_mono ((Fq _ kbq (nsq nsMz) tbq).go callerA [] sz H ⟨[.ref a], []⟩ [.ref a] [.ref a] _ _ roomz rfl envq (bindz sz (.ref a)) (.cons rfl .nil) (spz H trH sqH)) fun r s' h => ?_
    cases r with
    | error ez => exact (cxz H ez s' h).elim
    | ok fl =>
      cases fl with
      | next => exact False.elim h
      | brk => exact False.elim h
      | cont => exact False.elim h
      | ret u =>
        obtain ⟨v, H', os, bare, un, hok', r', qq⟩ := h
        have q' : v = .bl true := qq
        subst q'
        obtain rfl : u = Value.bool true := r'
        have keyq : ∀ b o, b ∉ cz.map (·.2) → sz.heap.get? b = some o → s'.heap.get? b = some o := fun b o nb ez => by
          cases qq : H b with
          | none => exact un.keep b o ez qq (by intro zz; exact absurd (show b ∈ ([] : List Addr) from zz) (by simp)) (by simp)
          | some u =>
            rcases onlyH b with zz | zz | ⟨ob, xs, zz⟩
            · rw [qq] at zz; cases zz
            · exact absurd zz nb
            · have z2 := un.frzs b ob _ zz
              obtain ⟨e1, _⟩ := okH b _ zz
              obtain ⟨e2, _⟩ := hok' b _ z2
              rw [ez] at e1; cases e1
              exact e2
        have grownq : ∀ p ∈ cz, ∃ more : Array Value, s'.heap.get? p.2 = some { cls := .none, data := .fields more } := fun p pz => by
          obtain ⟨more, zz⟩ := un.tbls p.2 #[] (trH p pz)
          exact ⟨_, hok' p.2 _ zz⟩
        refine ⟨rfl, ⟨fun b o ez => ?_, fun b o ez => ?_⟩, os, bare⟩
        · by_cases qb : b ∈ cz.map (·.2)
          · obtain ⟨p, pz, ep⟩ := List.mem_map.mp qb
            obtain ⟨more, hm⟩ := grownq p pz
            rw [← ep] at ez ⊢
            rw [tabz p pz] at ez
            cases ez
            exact .inr (.inl ⟨((C p pz).tab (tabz p pz)).isCodeTable, rfl, #[], more, rfl, by rw [Array.empty_append]; exact hm⟩)
          · exact .inl (keyq b o qb ez)
        · by_cases qb : b ∈ cz.map (·.2)
          · obtain ⟨p, pz, ep⟩ := List.mem_map.mp qb
            obtain ⟨more, hm⟩ := grownq p pz
            rw [← ep]
            exact ⟨_, hm⟩
          · exact ⟨o, keyq b o qb ez⟩
  cases hk : K.lookup a with
  | some o =>
    have ez := kInz a o hk
    rw [objz] at ez
    cases ez
    refine coreq (fun b => if b ∈ cz.map (·.2) then some (.tbl #[]) else none) (fun p pz => if_pos (memz p pz)) (fun b => ?_) (.inr ⟨_, vz.toArray, _, hk, rfl, rfl, rfl, by rw [List.size_toArray, lenq]; exact lenz, by simpa using rvz⟩) (fun b u zz => ?_) (fun b zz => ?_) fun zz => absurd (show (if a ∈ cz.map (·.2) then some (HO.tbl #[]) else none) = none from if_neg aTz) zz
    · by_cases qb : b ∈ cz.map (·.2)
      · exact .inr (.inl qb)
      · exact .inl (if_neg qb)
    · by_cases qb : b ∈ cz.map (·.2)
      · have z' := (if_pos qb).symm.trans zz
        cases z'
        exact isTz b qb
      · have z' := (if_neg qb).symm.trans zz
        cases z'
    · by_cases qb : b ∈ cz.map (·.2)
      · exact .inr qb
      · exact absurd (if_neg qb) zz
  | none =>
    refine coreq (fun b => if b = a then some (.frz { cls := .type "list", data := .seq vz.toArray } (.lst (nz.map V.int))) else if b ∈ cz.map (·.2) then some (.tbl #[]) else none) (fun p pz => (if_neg (show ¬ p.2 = a from fun zz => aTz (by rw [← zz]; exact memz p pz))).trans (if_pos (memz p pz))) (fun b => ?_)
      (.inl (.inr ⟨{ cls := .type "list", data := .seq vz.toArray }, if_pos rfl⟩)) (fun b u zz => ?_) (fun b zz => ?_) fun _ => hk
    · by_cases qb : b = a
      · exact .inr (.inr ⟨_, _, if_pos qb⟩)
      · by_cases hb2 : b ∈ cz.map (·.2)
        · exact .inr (.inl hb2)
        · exact .inl ((if_neg qb).trans (if_neg hb2))
    · by_cases qb : b = a
      · have z' := (if_pos qb).symm.trans zz
        cases z'
        rw [qb]
        exact ⟨objz, by rw [List.length_map]; exact lenz, vz, _, rvz, objz⟩
      · have z1 := (if_neg qb).symm.trans zz
        by_cases hb2 : b ∈ cz.map (·.2)
        · have z' := (if_pos hb2).symm.trans z1
          cases z'
          exact isTz b hb2
        · have z' := (if_neg hb2).symm.trans z1
          cases z'
    · by_cases qb : b = a
      · exact .inl qb
      · by_cases hb2 : b ∈ cz.map (·.2)
        · exact .inr hb2
        · exact absurd ((if_neg qb).trans (if_neg hb2)) zz
def LawG (l : PySem.W.OpenLaw) (w : World) (K : PySem.W.Frag) (CX : CXT) (k n : Nat) (mg : Str → Option Value) (fa : Addr) (h : Heap) : Prop :=
  ∃ (fd : FuncData) (pq : List Str) (cz : List (Addr × Addr)) (sp : Sp), (∀ p ∈ cz, h.get? p.2 = some { cls := .none, data := .fields #[] }) ∧ (∀ p ∈ cz, K.lookup p.2 = none) ∧ (∀ p ∈ cz, PySem.W.CodeHd h p.1 p.2) ∧ (∀ (s : Shared) (u : Value), BindsTo s fd ⟨[u], []⟩ (pq.zip [u])) ∧
    (∀ (H : Hp) (a : Addr) (nz : List Int), nz.length ≤ n → (∀ z ∈ nz, Builtin.Int.intBits z ≤ 1048576) → (∀ p ∈ cz, H p.2 = some (.tbl #[])) → SqL K H a (nz.map V.int) → sp [.ref a] H (fun v _ => v = .bl true) fun _ _ _ => False) ∧
    ∀ base : Heap, K.In base → base.Ns mainGlobals mg → (∀ p ∈ cz, TabB base mg p.1 p.2) → GFn l.prog w K mg base CX k fa fd pq sp
/-- what the law's def is given: the script -/
theorem spD_law [tb : Tb] {K : PySem.W.Frag} {mg : Str → Option Value} {g : List O → RF} {H : Hp} {a : Addr} {ns : List Int} {os : List O} (ht : ∀ p ∈ tb.T, H p.1 = some (.tbl #[])) (hk : ∀ p ∈ tb.T, K.lookup p.1 = none) (hS : SqL K H a (ns.map V.int))
    (hg : g [.val (.rol (ns.map D.int))] = .ok (.val (.bl true)) os) : spD K mg 1 g [.ref a] H (fun v _ => v = .bl true) fun _ _ _ => False := by
  have ne : ∀ p ∈ tb.T, p.1 ≠ a := fun p hp z => by
    have h1 := ht p hp
    have h2 := hk p hp
    rw [z] at h1 h2
    rcases hS with (h | ⟨o, h⟩) | ⟨o, _, _, h, _⟩
    · rw [h] at h1; cases h1
    · rw [h] at h1; cases h1
    · rw [h] at h2; cases h2
  let F : Hp := fun b => if b = a then H a else none
  have Fa : F a = H a := if_pos rfl
  have sub : Same F H := fun b o e => by
    by_cases z : b = a
    · rw [z] at e ⊢; rw [Fa] at e; exact e
    · rw [show F b = none from if_neg z] at e; cases e
  have rp : Rep K F (.rol (ns.map D.int)) (.ref a) := by
    simp only [Rep]
    refine ⟨a, ns.map V.int, rfl, ?_, Reps.of_ints ns⟩
    rcases hS with (h | ⟨o, h⟩) | h
    · exact .inl (.inl (Fa.trans h))
    · exact .inl (.inr ⟨o, Fa.trans h⟩)
    · exact .inr h
  refine ⟨rfl, [.val (.rol (ns.map D.int))], F, fun _ => [], ⟨rfl, fun i => ?_, fun _ => List.nodup_nil, (fun _ _ _ h => nomatch h), (fun _ _ h => nomatch h), sub, fun p hp => TabS.nil (ht p hp), fun p hp => if_neg (ne p hp)⟩, ?_⟩
  · cases i with
    | zero => exact ⟨.ref a, rfl, rfl, Own.mkVal rp⟩
    | succ i => simp [SlotOk]
  · rw [hg]
    intro v F' H' A' B s rs
    have h : Own K F' H' (.val (.bl true)) v B := rs.rr
    simp only [Own, Rep] at h
    exact h.2
/-! ### what the top has written -/
section
variable {K : PySem.W.Frag} {h : Heap} {mg : Str → Option Value} {x : Str} {st : Stmt} {ps : List Str} {f : Addr} {oc : Value} {od an : Option Addr} {osl : Array (Option Value)} {kV doc pm cdv ct : Value}
theorem defF_mk (X : K.In h) (G : h.Ns mainGlobals mg) (a : PySem.W.nsIn K mainGlobals x = some (some (.ref f))) (l : K.lookup f = some ⟨oc, od, .func (PySem.W.fnOf x x (defArgs st) (defBody st) (defScope st) .none kV doc pm an cdv ct), osl⟩)
    (c : PySem.W.codeIn K cdv x = true) (kp : PySem.W.keepIn K (.ref f) = true) (hb : ∀ (kV doc pm : Value) (an : Option Addr) (cdv ct : Value), BA (PySem.W.fnOf x x (defArgs st) (defBody st) (defScope st) .none kV doc pm an cdv ct) ps) : DefF K mg x st ps :=
  ⟨f, _, L2.fun_mk l c kp, hb _ _ _ _ _ _, PySem.W.mg_of X G a⟩
end
/-- a law's promise from its def's -/
theorem lawG_mk {l : PySem.W.OpenLaw} {w : World} {K : PySem.W.Frag} {k n : Nat} {mg : Str → Option Value} {fa : Addr} {h : Heap} {x : Str} {st : Stmt} {g : List O → RF} (cz : List (Addr × Addr × Str)) (hmg : mg "law" = some (.ref fa)) (D0 : DefF K mg "law" st [x])
    (h1 : ∀ p ∈ cz, h.get? p.2.1 = some { cls := .none, data := .fields #[] }) (h2 : ∀ p ∈ cz, K.lookup p.2.1 = none) (h3 : ∀ p ∈ cz, PySem.W.CodeHd h p.1 p.2.1)
    (hg : ∀ ns : List Int, ns.length ≤ n → (∀ z ∈ ns, Builtin.Int.intBits z ≤ 1048576) → ∃ os, g [.val (.rol (ns.map D.int))] = .ok (.val (.bl true)) os)
    (hG : ∀ base : Heap, K.In base → base.Ns mainGlobals mg → (∀ p ∈ cz, TabB base mg p.1 p.2.1) → @GV ⟨cz.map fun p => (p.2.1, p.2.2)⟩ l.prog w K mg base k "law" [x] g) : LawG l w K (L2.CX l.prog w) k n mg fa h := by
  letI : Tb := ⟨cz.map fun p => (p.2.1, p.2.2)⟩
  obtain ⟨f, fd, hF, hB, hm⟩ := D0.ex
  have e := hmg.symm.trans hm
  cases e
  have mem : ∀ {p : Addr × Addr}, p ∈ cz.map (fun p => (p.1, p.2.1)) → ∃ q ∈ cz, (q.1, q.2.1) = p := fun h => List.mem_map.mp h
  refine ⟨fd, [x], cz.map fun p => (p.1, p.2.1), spD K mg 1 g, fun p hp => ?_, fun p hp => ?_, fun p hp => ?_, fun s u => .of_eq (hB [u] rfl), fun H a nz hl hb ht hS => ?_, fun base kb nb tB => ?_⟩
  · obtain ⟨q, hq, rfl⟩ := mem hp; exact h1 q hq
  · obtain ⟨q, hq, rfl⟩ := mem hp; exact h2 q hq
  · obtain ⟨q, hq, rfl⟩ := mem hp; exact h3 q hq
  · obtain ⟨os, hgo⟩ := hg nz hl hb
    refine spD_law (fun p hp => ?_) (fun p hp => ?_) hS hgo
    · obtain ⟨q, hq, rfl⟩ := List.mem_map.mp hp
      exact ht (q.1, q.2.1) (List.mem_map.mpr ⟨q, hq, rfl⟩)
    · obtain ⟨q, hq, rfl⟩ := List.mem_map.mp hp
      exact h2 q hq
  · obtain ⟨f', fd', m1, _, _, ⟨oc, od, osl, lk⟩, G⟩ := (hG base kb nb fun p hp => tB (p.1, p.2.1) (List.mem_map.mpr ⟨p, hp, rfl⟩)).ex
    have e := hm.symm.trans m1
    cases e
    obtain ⟨oc2, od2, osl2, lk2⟩ := fun_lk hF
    have e := lk.symm.trans lk2
    cases e
    exact G
end DL
end
section
set_option maxRecDepth 100000
set_option maxHeartbeats 4000000
namespace DL
open PySem PySem.Spec PyProof.Rows L2
section
variable [tb : Tb]
/-! ### a list or a tuple walked -/
def dSeqA (f : M R) : M (List D) := fun env => (f env).bind fun r e => match frzI r e with
  | some (.lst ds, e') => .ok ds e'
  | some (.tup ds, e') => .ok ds e'
  | _ => .bad
theorem di_any {X : Cx} {pv : Nat → Option V} {W : WX} {f : M R} {tg e : Expr} (he : PE X e (tD X.K X.mg pv W f)) : PI X tg e (tI X.K X.mg pv W (dSeqA f)) := by
  have h1 : PI X tg e (tI X.K X.mg pv W (dSeq f)) := di_list he
  have h2 : PI X tg e (tI X.K X.mg pv W (dSeqT f)) := di_tup he
  refine ⟨fun pins s σ H R I q => ?_⟩
  obtain ⟨env, F, A, ws, q⟩ := q
  by_cases hd : dSeqT f env = dSeqA f env
  · refine h2.run pins s σ H R I ⟨env, F, A, ws, ?_⟩
    rw [hd]; exact q
  · have e2 : dSeq f env = dSeqA f env := by
      unfold dSeq dSeqA dSeqT at *
      cases hf : f env with
      | bad => rfl
      | exc c e' => rfl
      | ok r e' =>
        simp only [hf, Res.bind] at hd ⊢
        split
        · rename_i h; simp only [h]
        · rename_i hn
          split
          · rename_i ds e3 h; exact absurd h (hn ds e3)
          · rename_i ds e3 h
            exfalso
            apply hd
            simp only [h]
          · rfl
    refine h1.run pins s σ H R I ⟨env, F, A, ws, ?_⟩
    rw [e2]; exact q
end
/-! ## plain law: what a piece of code gives -/
/-- it ends well, and Q is true of what it gives -/
def Sat {α : Type} (r : Res α) (Q : α → DEnv → Prop) : Prop := match r with
  | .ok a e => Q a e
  | _ => False
section
variable {α β : Type} {Q : α → DEnv → Prop} {a : α} {e env : DEnv}
theorem Sat.mono {x : Res α} {Q2 : α → DEnv → Prop} (h : Sat x Q) (i : ∀ a e, Q a e → Q2 a e) : Sat x Q2 := by
  cases x with
  | ok a e => exact i _ _ h
  | bad => exact h
  | exc c e => exact h
theorem Sat.get {x : Res α} (h : Sat x Q) : ∃ a e, x = .ok a e ∧ Q a e := by
  cases x with
  | ok a e => exact ⟨a, e, rfl, h⟩
  | bad => exact h.elim
  | exc c e => exact h.elim
end
/-- what a def gives -/
def SatF (r : RF) (Q : O → List O → Prop) : Prop := match r with
  | .ok o os => Q o os
  | _ => False
theorem SatF.mono {x : RF} {Q Q2 : O → List O → Prop} (h : SatF x Q) (i : ∀ a e, Q a e → Q2 a e) : SatF x Q2 := by
  cases x with
  | ok a e => exact i _ _ h
  | bad => exact h
  | exc c e => exact h
/-! ### loops -/
section
variable [tb : Tb]
end
end DL
end
section
set_option maxRecDepth 100000
set_option maxHeartbeats 4000000
namespace DL
open PySem PySem.Spec PyProof.Rows L2
section
variable [tb : Tb] {f g k fk fe : M R} {fs ks : M (List R)} {a b : M DL.Flow} {c d : M Bool} {env : DEnv} {i : Nat} {α β : Type}
@[simp] theorem ev_bok {a : α} {e : DEnv} {k : α → M β} : (Res.ok a e).bind k = k a e := rfl
@[simp] theorem ev_bbad {k : α → M β} : (Res.bad : Res α).bind k = .bad := rfl
@[simp] theorem ev_bexc {c : Exc} {e : DEnv} {k : α → M β} : (Res.exc c e : Res α).bind k = .exc c e := rfl
@[simp] theorem ev_set {h : How} : sSet h i f env = (f env).bind (setR h i) := rfl
@[simp] theorem ev_seq : sSeq a b env = (a env).bind fun fl e => match fl with
  | .nx => b e
  | fl => .ok fl e := rfl
@[simp] theorem ev_nx : sNx env = .ok .nx env := rfl
@[simp] theorem ev_ret : sRet f env = (f env).bind fun r e => .ok (.ret r) e := rfl
@[simp] theorem ev_if : sIf c a b env = (c env).bind fun k e => if k = true then a e else b e := rfl
@[simp] theorem ev_c {d : D} : dC d env = .ok (.val d) env := rfl
@[simp] theorem ev_nil : dNil env = .ok [] env := rfl
@[simp] theorem ev_cons : dCons f fs env = (f env).bind fun r e1 => (fs e1).bind fun rs e2 => .ok (r :: rs) e2 := rfl
@[simp] theorem ev_op2 {h : D → D → Option R} : op2 h f g env = (f env).bind fun r1 e1 => (g e1).bind fun r2 e2 => fin2 h r1 r2 e2 := rfl
@[simp] theorem ev_op1 {h : D → Option R} : op1 h f env = (f env).bind fun r e => match resolve e r with
  | some d => (match h d with
    | some ro => .ok ro e
    | none => .bad)
  | none => .bad := rfl
@[simp] theorem ev_and : dAnd f g env = (f env).bind fun r e => (fin1b r e).bind fun b e' => if b = true then g e' else .ok (.val (.bl false)) e' := rfl
@[simp] theorem ev_tst : tst f env = (f env).bind fin1b := rfl
@[simp] theorem ev_tnot : tNot' c env = (c env).bind fun b e => .ok (!b) e := rfl
@[simp] theorem ev_tor : tOr' c d env = (c env).bind fun b e => if b = true then .ok true e else d e := rfl
@[simp] theorem ev_ttrue : tTrue env = .ok true env := rfl
@[simp] theorem ev_b {h : List D → Option R} : dB h fs env = (fs env).bind (finB h) := rfl
@[simp] theorem ev_call {g : List O → RF} {ms : List Mode} : dCall g ms fs env = (fs env).bind fun rs e1 => finCall g ms rs e1 := rfl
@[simp] theorem ev_call0 {g : List O → RF} : dCall0 g env = finCall g [] [] env := rfl
@[simp] theorem ev_lst : dLst fs env = (fs env).bind fun rs e => match frzRs rs with
  | some ds => if ds.length ≤ sizeLine then .ok (.own (.lst ds)) e else .bad
  | none => .bad := rfl
@[simp] theorem ev_part : dPart f env = (f env).bind fun r e => match resolve e r with
  | some (.int i) => .ok (some i) e
  | _ => .bad := rfl
@[simp] theorem ev_nopart : dNoPart env = .ok none env := rfl
@[simp] theorem ev_sl {lo hi : M (Option Int)} : dSl f lo hi env = (f env).bind fun r e => (lo e).bind fun l e1 => (hi e1).bind fun h e2 => match resolve e2 r with
  | some d => (match hSl d l h with
    | some ro => .ok ro e2
    | none => .bad)
  | none => .bad := rfl
@[simp] theorem ev_comp {g : M (List D)} {tg : Tgt} {vs : List Nat} {test : M Bool} {elt : M R} : dComp g tg vs test elt env = (g env).bind fun ds e => (compL tg vs test elt ds [] (unE e vs)).bind fun acc e2 => .ok (.own (.lst acc)) (unE e2 vs) := rfl
@[simp] theorem ev_seqA : dSeqA f env = (f env).bind fun r e => match frzI r e with
  | some (.lst ds, e') => .ok ds e'
  | some (.tup ds, e') => .ok ds e'
  | _ => .bad := rfl
@[simp] theorem ev_seqT : dSeqT f env = (f env).bind fun r e => match frzI r e with
  | some (.tup ds, e') => .ok ds e'
  | _ => .bad := rfl
@[simp] theorem ev_rng1 : dRng1 f env = (f env).bind fun r e => match resolve e r with
  | some (.int j) => if -(2 ^ 62) ≤ j ∧ j < 2 ^ 62 then .ok ((List.range j.toNat).map fun i => .int (i : Nat)) e else .bad
  | _ => .bad := rfl
@[simp] theorem ev_for {g : M (List D)} {tg : Tgt} : sFor g tg a env = (g env).bind fun ds e => forL tg a ds e := rfl
@[simp] theorem ev_par {ts : List (How × Nat)} : sPar ts fs env = (fs env).bind (setRs ts) := rfl
end
/-! what is behind them -/
section
variable [tb : Tb] {env : DEnv} {i j : Nat} {d d' : D} {o o' : O} {l : List D} {r r1 r2 : R} {rs : List R} {ms : List Mode} {os : List O} {ts : List Tgt} {t : Tgt} {h : D → D → Option R} {hb : List D → Option R} {g : List O → RF}
@[simp] theorem ev_var : dVar i env = match env[i]? with
  | some (.own (.val d)) => .ok (.val d) env
  | some (.pin (.val d)) => .ok (.val d) env
  | some (.own _) => .ok (.bor i) env
  | some (.pin _) => .ok (.bor i) env
  | _ => .bad := rfl
@[simp] theorem ev_rv : resolve env (.val d) = some d := rfl
@[simp] theorem ev_ro : resolve env (.own o) = o.view := rfl
@[simp] theorem ev_rb : resolve env (.bor i) = match env[i]?.bind Slot.o with
  | some o => o.view
  | none => none := rfl
@[simp] theorem ev_vv : (O.val d).view = some d := rfl
@[simp] theorem ev_vl : (O.lst l).view = some (.lst l) := rfl
@[simp] theorem ev_so : (Slot.own o).o = some o := rfl
@[simp] theorem ev_sp : (Slot.pin o).o = some o := rfl
@[simp] theorem ev_su : Slot.un.o = none := rfl
@[simp] theorem ev_rs0 : resolves env [] = some [] := rfl
@[simp] theorem ev_rs1 : resolves env (r :: rs) = match resolve env r, resolves env rs with
  | some d, some ds => some (d :: ds)
  | _, _ => none := rfl
@[simp] theorem ev_finB : finB hb rs env = match resolves env rs with
  | some ds => (match hb ds with
    | some ro => .ok ro env
    | none => .bad)
  | none => .bad := rfl
@[simp] theorem ev_fin2 : fin2 h r1 r2 env = match resolve env r1, resolve env r2 with
  | some d1, some d2 => (match h d1 d2 with
    | some ro => .ok ro env
    | none => .bad)
  | _, _ => .bad := rfl
@[simp] theorem ev_fin1b : fin1b r env = match resolve env r with
  | some (.bl b) => .ok b env
  | _ => .bad := rfl
@[simp] theorem ev_frv : frzR (.val d) = some d := rfl
@[simp] theorem ev_fro : frzR (.own o) = o.frz := rfl
@[simp] theorem ev_frb : frzR (.bor i) = none := rfl
@[simp] theorem ev_ofv : (O.val d).frz = some d := rfl
@[simp] theorem ev_ofl : (O.lst l).frz = some (.lst l) := rfl
@[simp] theorem ev_ofd {ks : List Key} : (O.dK ks l).frz = some (.dct ks l) := rfl
@[simp] theorem ev_frs0 : frzRs [] = some [] := rfl
@[simp] theorem ev_frs1 : frzRs (r :: rs) = match frzR r, frzRs rs with
  | some d, some ds => some (d :: ds)
  | _, _ => none := rfl
@[simp] theorem ev_fiv : frzI (.val d) env = some (d, env) := rfl
@[simp] theorem ev_fio : frzI (.own o) env = o.frz.map fun d => (d, env) := rfl
@[simp] theorem ev_fib : frzI (.bor i) env = match env[i]?.bind Slot.o with
  | some o => o.frz.map fun d => (d, putO env i (.val d))
  | none => none := rfl
@[simp] theorem ev_ao0 : argOs env [] [] = some [] := rfl
@[simp] theorem ev_ao1 {m : Mode} : argOs env (m :: ms) (r :: rs) = match argO env m r, argOs env ms rs with
  | some o, some os => some (o :: os)
  | _, _ => none := rfl
@[simp] theorem ev_aov {m : Mode} : argO env m (.val d) = some (.val d) := by cases m <;> rfl
@[simp] theorem ev_aoo : argO env .v (.own o) = o.frz.map .val := rfl
@[simp] theorem ev_aob : argO env .v (.bor i) = ((env[i]?.bind Slot.o).bind O.frz).map .val := rfl
@[simp] theorem ev_aoi : argO env .io (.bor i) = env[i]?.bind Slot.o := rfl
@[simp] theorem ev_tov : (O.val d).toR = .val d := rfl
@[simp] theorem ev_tol : (O.lst l).toR = .own (.lst l) := rfl
@[simp] theorem ev_bk0 : back [] rs os env = env := by simp [back]
@[simp] theorem ev_bkv {m : Mode} : back (m :: ms) (.val d :: rs) (o :: os) env = back ms rs os env := by cases m <;> simp [back]
@[simp] theorem ev_bko {m : Mode} : back (m :: ms) (.own o' :: rs) (o :: os) env = back ms rs os env := by cases m <;> simp [back]
@[simp] theorem ev_bkb : back (.v :: ms) (.bor i :: rs) (o :: os) env = back ms rs os env := by simp [back]
@[simp] theorem ev_bki : back (.io :: ms) (.bor i :: rs) (o :: os) env = back ms rs os (putO env i o) := by simp [back]
@[simp] theorem ev_tm0 : tmps [] rs = [] := by simp [tmps]
@[simp] theorem ev_tmv {m : Mode} : tmps (m :: ms) (.val d :: rs) = tmps ms rs := by cases m <;> simp [tmps]
@[simp] theorem ev_tmo {m : Mode} : tmps (m :: ms) (.own o :: rs) = tmps ms rs := by cases m <;> simp [tmps]
@[simp] theorem ev_tmb : tmps (.v :: ms) (.bor i :: rs) = i :: tmps ms rs := by simp [tmps]
@[simp] theorem ev_tmi : tmps (.io :: ms) (.bor i :: rs) = tmps ms rs := by simp [tmps]
@[simp] theorem ev_io0 : ios [] rs = [] := by simp [ios]
@[simp] theorem ev_iov {m : Mode} : ios (m :: ms) (.val d :: rs) = ios ms rs := by cases m <;> simp [ios]
@[simp] theorem ev_ioo {m : Mode} : ios (m :: ms) (.own o :: rs) = ios ms rs := by cases m <;> simp [ios]
@[simp] theorem ev_iob : ios (.v :: ms) (.bor i :: rs) = ios ms rs := by simp [ios]
@[simp] theorem ev_ioi : ios (.io :: ms) (.bor i :: rs) = i :: ios ms rs := by simp [ios]
@[simp] theorem ev_chk : chk ms rs = (decide (ios ms rs).Nodup && (ios ms rs).all fun i => !(tmps ms rs).contains i) := rfl
@[simp] theorem ev_iof0 {os : List O} : iofree [] rs os = true := by cases rs <;> cases os <;> rfl
@[simp] theorem ev_iofv {o : O} {os : List O} : iofree (.v :: ms) (r :: rs) (o :: os) = iofree ms rs os := by cases r <;> rfl
@[simp] theorem ev_iofb {o : O} {os : List O} : iofree (.io :: ms) (.bor i :: rs) (o :: os) = (o.lfree && iofree ms rs os) := rfl
@[simp] theorem ev_iofd {o : O} {os : List O} : iofree (.io :: ms) (.val d :: rs) (o :: os) = iofree ms rs os := rfl
@[simp] theorem ev_iofo {o o2 : O} {os : List O} : iofree (.io :: ms) (.own o2 :: rs) (o :: os) = iofree ms rs os := rfl
@[simp] theorem ev_fcall : finCall g ms rs env = match argOs env ms rs with
  | none => .bad
  | some os => if chk ms rs = true then (match g os with
    | .bad => .bad
    | .ok o os' => if (tmps ms rs).isEmpty = true ∨ (o.lfree = true ∧ iofree ms rs os' = true) then .ok o.toR (back ms rs os' env) else .bad
    | .exc c os' => if (tmps ms rs).isEmpty = true ∨ iofree ms rs os' = true then .exc c (back ms rs os' env) else .bad) else .bad := rfl
@[simp] theorem ev_puto {s : Slot} : putO (s :: env) 0 o = s.put o :: env := rfl
@[simp] theorem ev_puts {s : Slot} : putO (s :: env) (i + 1) o = s :: putO env i o := by
  unfold putO
  simp only [List.getElem?_cons_succ]
  cases env[i]? <;> rfl
@[simp] theorem ev_puow : (Slot.own o).put o' = .own o' := rfl
@[simp] theorem ev_pupi : (Slot.pin o).put o' = .pin o' := rfl
@[simp] theorem ev_setv {hw : How} : setR hw i (.val d) env = if free env i = true then .ok .nx (env.set i (.own (.val d))) else .bad := by cases hw <;> rfl
@[simp] theorem ev_setk : setR .keep i (.own o) env = if free env i = true then .ok .nx (env.set i (.own o)) else .bad := rfl
@[simp] theorem ev_setf : setR .frz i (.own o) env = if free env i = true then (match o.frz with
  | some d => .ok .nx (env.set i (.own (.val d)))
  | none => .bad) else .bad := rfl
@[simp] theorem ev_setfb : setR .frz i (.bor j) env = if free env i = true then (match env[j]?.bind Slot.o with
  | some o => (match o.frz with
    | some d => .ok .nx ((putO env j (.val d)).set i (.own (.val d)))
    | none => .bad)
  | none => .bad) else .bad := rfl
@[simp] theorem ev_fr0 {s : Slot} : free (s :: env) 0 = match s with
  | .pin _ => false
  | _ => true := by cases s <;> rfl
@[simp] theorem ev_fr1 {s : Slot} : free (s :: env) (i + 1) = free env i := by unfold free; simp only [List.getElem?_cons_succ]
@[simp] theorem ev_srs0 : setRs [] [] env = .ok .nx env := rfl
@[simp] theorem ev_srs1 {hw : How} {tt : List (How × Nat)} : setRs ((hw, i) :: tt) (.val d :: rs) env = (setR hw i (.val d) env).bind fun _ e => setRs tt rs e := rfl
@[simp] theorem ev_srs2 {hw : How} {tt : List (How × Nat)} : setRs ((hw, i) :: tt) (.own o :: rs) env = (setR hw i (.own o) env).bind fun _ e => setRs tt rs e := rfl
@[simp] theorem ev_asn : asg (.nm i) d env = if free env i = true then some (env.set i (.own (.val d))) else none := by simp [asg]
@[simp] theorem ev_ast {tt : List Tgt} : asg (.tp tt) (.tup l) env = asgs tt l env := by simp [asg]
@[simp] theorem ev_as0 : asgs [] [] env = some env := by simp [asgs]
@[simp] theorem ev_as1 : asgs (t :: ts) (d :: l) env = match asg t d env with
  | some e => asgs ts l e
  | none => none := by first | (simp [asgs]; done) | (simp [asgs]; rfl)
@[simp] theorem ev_un0 : unE env [] = env := rfl
@[simp] theorem ev_un1 {js : List Nat} : unE env (j :: js) = (unE env js).set j .un := rfl
@[simp] theorem ev_init {m : Nat} : initE os m = os.map slotOf ++ List.replicate m .un := rfl
@[simp] theorem ev_slv : slotOf (.val d) = .own (.val d) := rfl
@[simp] theorem ev_sll : slotOf (.lst l) = .pin (.lst l) := rfl
@[simp] theorem ev_out0 : outs [] env = some [] := rfl
@[simp] theorem ev_outv {s : Slot} : outs (.val d :: os) (s :: env) = (outs os env).map (.val d :: ·) := rfl
@[simp] theorem ev_outl : outs (.lst l :: os) (.pin o :: env) = (outs os env).map (o :: ·) := rfl
@[simp] theorem ev_tkv : takeR env (.val d) = some (.val d) := rfl
@[simp] theorem ev_tko : takeR env (.own o) = some o := rfl
@[simp] theorem ev_tkb : takeR env (.bor i) = match env[i]? with
  | some (.own o) => some o
  | _ => none := rfl
@[simp] theorem ev_ff1 {e : DEnv} : finFn os (.ok .nx e) = match outs os e with
  | some os' => .ok (.val .non) os'
  | none => .bad := rfl
@[simp] theorem ev_ff2 {e : DEnv} : finFn os (.ok (.ret r) e) = match takeR e r, outs os e with
  | some o, some os' => .ok o os'
  | _, _ => .bad := rfl
@[simp] theorem ev_mk {m : Nat} {body : M DL.Flow} : mkFn m body os = finFn os (body (initE os m)) := rfl
@[simp] theorem ev_sat {α : Type} {a : α} {e : DEnv} {Q : α → DEnv → Prop} : Sat (.ok a e) Q ↔ Q a e := Iff.rfl
@[simp] theorem ev_satb {α : Type} {Q : α → DEnv → Prop} : Sat (.bad : Res α) Q ↔ False := Iff.rfl
@[simp] theorem ev_sate {α : Type} {c : Exc} {e : DEnv} {Q : α → DEnv → Prop} : Sat (.exc c e : Res α) Q ↔ False := Iff.rfl
@[simp] theorem ev_lf1 : O.lfrees [] = true := by simp [O.lfrees]
@[simp] theorem ev_lf2 : O.lfrees (o :: os) = (o.lfree && O.lfrees os) := by simp [O.lfrees]
end
/-! operators on values -/
section
variable [tb : Tb] {i j : Int} {l l2 : List D} {x y : Str}
@[simp] theorem ev_add : hAdd (.int i) (.int j) = some (.val (.int (i + j))) := rfl
@[simp] theorem ev_addl : hAdd (.lst l) (.lst l2) = if l.length + l2.length ≤ sizeLine then some (.own (.lst (l ++ l2))) else none := by
  simp only [hAdd, hOr, hI, hCatS, hCatL, hCatT]
  split <;> simp_all
@[simp] theorem ev_addt : hAdd (.tup l) (.tup l2) = if l.length + l2.length ≤ sizeLine then some (.val (.tup (l ++ l2))) else none := rfl
@[simp] theorem ev_adds : hAdd (.str x) (.str y) = if x.length + y.length ≤ sizeLine then some (.val (.str (x ++ y))) else none := by
  simp only [hAdd, hOr, hI, hCatS, hCatL, hCatT]
  by_cases h : x.length + y.length ≤ sizeLine <;> simp [h]
@[simp] theorem ev_mul : hMul (.int i) (.int j) = if cMul i j = true then some (.val (.int (i * j))) else none := by
  simp only [hMul, hOr, hI, hRepL, hRepT]
  by_cases h : cMul i j = true <;> simp [h]
@[simp] theorem ev_cmp {p : Int → Int → Bool} : hCmp p (.int i) (.int j) = some (.val (.bl (p i j))) := rfl
@[simp] theorem ev_ixl : hIx (.lst l) (.int i) = (atI l i).map .val := rfl
@[simp] theorem ev_ixt : hIx (.tup l) (.int i) = (atI l i).map .val := rfl
@[simp] theorem ev_lenl : hLen [.lst l] = some (.val (.int l.length)) := rfl
@[simp] theorem ev_lent : hLen [.tup l] = some (.val (.int l.length)) := rfl
@[simp] theorem ev_sll' {lo hi : Option Int} : hSl (.lst l) lo hi = some (.own (.lst (cut' l lo hi))) := rfl
@[simp] theorem ev_slr {lo hi : Option Int} : hSl (.rol l) lo hi = some (.own (.lst (cut' l lo hi))) := rfl
@[simp] theorem ev_slt {lo hi : Option Int} : hSl (.tup l) lo hi = some (.val (.tup (cut' l lo hi))) := rfl
@[simp] theorem ev_at0 {d : D} : atI (d :: l) 0 = some d := by simp [atI, ixN]
@[simp] theorem ev_at1 {d e : D} : atI (d :: e :: l) 1 = some e := by
  have h : (1 : Int) < l.length + 1 + 1 := by omega
  simp [atI, ixN, h]
@[simp] theorem ev_at2 {d e f : D} : atI (d :: e :: f :: l) 2 = some f := by
  have h : (2 : Int) < l.length + 1 + 1 + 1 := by omega
  simp [atI, ixN, h]
end
/-! lists against the empty list -/
section
variable [tb : Tb]
theorem pys_ints (ns : List Int) : D.pys (ns.map D.int) = some (ns.map PyData.int) := by
  induction ns with
  | nil => rfl
  | cons n ns ih => simp [D.pys, D.py, ih]
theorem lay_ints (ns : List Int) : PyData.canLayAll0 (ns.map PyData.int) = true := by
  induction ns with
  | nil => rfl
  | cons n ns ih => simp [PyData.canLayAll0, PyData.canLay0, ih]
theorem shp_ints (ns : List Int) : SeqAt.shaped (.list (ns.map PyData.int)) = true := by
  simp [SeqAt.shaped, PyData.canLay0, lay_ints, PyData.depth, PySem.W.depth_ints]
theorem heq_nil {l : List D} {ps : List PyData} (h : D.pys l = some ps) (hs : SeqAt.shaped (.list ps) = true) (n : Bool) : hEq n (.lst l) (.lst []) = some (.val (.bl (if n then !decide (l = []) else decide (l = [])))) := by
  have h0 : SeqAt.shaped (.list []) = true := by decide +kernel
  simp only [hEq, D.py, h, D.pys, hs, h0, and_self, if_true]
  have e : PyData.eqv (.list ps) (.list []) = decide (l = []) := by
    cases l with
    | nil => simp only [D.pys] at h; cases h; simp [PyData.eqv, PyData.eqvAll]
    | cons d l =>
      cases ps with
      | nil => have := pys_len h; simp at this
      | cons p ps => simp [PyData.eqv, PyData.eqvAll]
  rw [e]
@[simp] theorem ev_ints_nil {ns : List Int} {n : Bool} : hEq n (.lst (ns.map D.int)) (.lst []) = some (.val (.bl (if n then !decide (ns = []) else decide (ns = [])))) := by
  rw [heq_nil (pys_ints ns) (shp_ints ns)]
  simp
@[simp] theorem ev_nil_nil {n : Bool} : hEq n (.lst []) (.lst []) = some (.val (.bl (!n))) := by
  rw [heq_nil (ps := []) rfl (by decide +kernel)]
  cases n <;> rfl
@[simp] theorem ev_ix_ints {ns : List Int} {i : Int} : atI (ns.map D.int) i = (atI ns i).map D.int := by
  unfold atI
  simp only [List.length_map]
  cases ixN ns.length i with
  | none => rfl
  | some j => simp
end
end DL
end
section
set_option maxRecDepth 100000
set_option maxHeartbeats 1000000
namespace DL
open PySem PySem.Spec PyProof.Rows L2
/-! a shown thing is text -/
theorem strOk_app (a b : Str) : PyData.strOk (a ++ b) = (PyData.strOk a && PyData.strOk b) := by
  show (a.cps ++ b.cps).all _ = (a.cps.all _ && b.cps.all _)
  rw [Array.all_append]
theorem strOk_of (s : String) : PyData.strOk (Str.ofString s) = true := by
  rw [Str.ofString_eq_toList]
  show Array.all _ _ = true
  rw [List.all_toArray, List.all_eq_true]
  intro c hc
  obtain ⟨d, _, rfl⟩ := List.mem_map.mp hc
  have := d.valid
  simp only [decide_eq_true_eq]
  have h2 : d.toNat < 0xd800 ∨ (0xdfff < d.toNat ∧ d.toNat < 0x110000) := this
  omega
theorem strOk_join : ∀ (ts : List Str), (∀ t ∈ ts, PyData.strOk t = true) → PyData.strOk (Str.join ", " ts) = true
  | [], _ => by decide +kernel
  | [x], h => h x (by simp)
  | x :: y :: r, h => by
    have ih := strOk_join (y :: r) fun t ht => h t (List.mem_cons_of_mem _ ht)
    show PyData.strOk (x ++ ", " ++ Str.join ", " (y :: r)) = true
    rw [strOk_app, strOk_app, ih, h x (by simp)]
    decide +kernel
theorem strOk_from : ∀ (ts : List Str) (k : Nat) (acc : Str), PyData.strOk acc = true → (∀ t ∈ ts, PyData.strOk t = true) → PyData.strOk (textFrom k acc ts) = true
  | [], k, acc, h, _ => h
  | t :: ts, k, acc, h, ht => by
    show PyData.strOk (textFrom (k + 1) _ ts) = true
    refine strOk_from ts (k + 1) _ ?_ fun t h => ht t (List.mem_cons_of_mem _ h)
    rw [strOk_app, strOk_app, h, ht t (by simp)]
    by_cases c : k > 0
    · simp only [c, if_true]; decide +kernel
    · simp only [c, if_false]; decide +kernel
mutual
def leafOk : PyData → Bool
  | .str x => PyData.strOk (reprText x)
  | .list xs | .tuple xs => leafOkAll xs
  | .dict kvs => leafOkKv kvs
  | _ => true
def leafOkAll : List PyData → Bool
  | [] => true
  | x :: xs => leafOk x && leafOkAll xs
def leafOkKv : List (PyData × PyData) → Bool
  | [] => true
  | (k, v) :: r => leafOk k && leafOk v && leafOkKv r
end
mutual
theorem shown_ok : ∀ (p : PyData), leafOk p = true → PyData.strOk p.shown = true
  | .none, _ => by decide +kernel
  | .bool b, _ => by cases b <;> decide +kernel
  | .int i, _ => strOk_of _
  | .str x, h => h
  | .list xs, h => by
    show PyData.strOk (textFrom 0 "[" (PyData.shownAll xs) ++ "]") = true
    rw [strOk_app, strOk_from _ _ _ (by decide +kernel) (shownAll_ok xs (by simpa only [leafOk] using h))]
    decide +kernel
  | .tuple xs, h => by
    show PyData.strOk (("(" : Str) ++ Str.join ", " (PyData.shownAll xs) ++ (if (PyData.shownAll xs).length == 1 then ",)" else ")" : String)) = true
    rw [strOk_app, strOk_app, strOk_join _ (shownAll_ok xs (by simpa only [leafOk] using h))]
    cases (PyData.shownAll xs).length == 1 <;> decide +kernel
  | .dict kvs, h => by
    show PyData.strOk (("{" : Str) ++ Str.join ", " (PyData.shownKv kvs) ++ "}") = true
    rw [strOk_app, strOk_app, strOk_join _ (shownKv_ok kvs (by simpa only [leafOk] using h))]
    decide +kernel
theorem shownAll_ok : ∀ (ps : List PyData), leafOkAll ps = true → ∀ t ∈ PyData.shownAll ps, PyData.strOk t = true
  | [], _, t, h => nomatch h
  | p :: ps, h, t, ht => by
    simp only [leafOkAll, Bool.and_eq_true] at h
    simp only [PyData.shownAll] at ht
    rcases List.mem_cons.mp ht with rfl | ht
    · exact shown_ok p h.1
    · exact shownAll_ok ps h.2 t ht
theorem shownKv_ok : ∀ (ps : List (PyData × PyData)), leafOkKv ps = true → ∀ t ∈ PyData.shownKv ps, PyData.strOk t = true
  | [], _, t, h => nomatch h
  | (k, v) :: ps, h, t, ht => by
    simp only [leafOkKv, Bool.and_eq_true] at h
    simp only [PyData.shownKv] at ht
    rcases List.mem_cons.mp ht with rfl | ht
    · rw [strOk_app, strOk_app, shown_ok k h.1.1, shown_ok v h.1.2]
      decide +kernel
    · exact shownKv_ok ps h.2 t ht
end
end DL
end
section
set_option maxRecDepth 100000
set_option maxHeartbeats 1000000
namespace DL
open PySem PySem.Spec PyProof.Rows L2
/-! what repr shows -/
structure DispP (w n : Nat) (p : PyData) : Prop where
  sh : p.showable = true
  lv : p.leavesShort 13 = true
  wt : p.weight ≤ w
  dp : p.depth ≤ n
  lf : leafOk p = true
structure DispPs (w n : Nat) (ps : List PyData) : Prop where
  sh : PyData.showableAll ps = true
  lv : PyData.leavesShortAll 13 ps = true
  wt : PyData.weightAll ps ≤ w
  dp : PyData.depthAll ps ≤ n
  lf : leafOkAll ps = true
def Disp (w n : Nat) (d : D) : Prop := ∃ p, d.py = some p ∧ DispP w n p
theorem Disp.up {w n w2 n2 : Nat} {d : D} (h : Disp w n d) (h1 : w ≤ w2) (h2 : n ≤ n2) : Disp w2 n2 d := by
  obtain ⟨p, e, a, b, c, f, g⟩ := h
  exact ⟨p, e, a, b, by omega, by omega, g⟩
end DL
end
section
set_option maxRecDepth 100000
set_option maxHeartbeats 1000000
/-! zip(xs, ys, strict=True) over two lists of one length -/
namespace PySem
namespace ZS
open Sem (wp)
open F
abbrev Zo (h : Heap) (z TI TO : Addr) (f0 : Value) : Prop :=
  h.get? z = some { cls := .type "zip", dict := none, data := .fields #[f0, .bool false, .bool true, .ref TI, .ref TO], slots := #[] }
section
variable {prog : Program} {w : World} {A : Around} {E : Value → Shared → Prop} {s : Shared}
end
section
variable {prog : Program} {w : World} {A : Around} {E : Value → Shared → Prop} {s : Shared}
end
end ZS
end PySem
end
section
set_option maxRecDepth 100000
set_option maxHeartbeats 1000000
namespace PySem
namespace ZS
open Sem (wp)
section
variable {prog : Program} {w : World} {A : Around} {E : Value → Shared → Prop} {s : Shared}
end
end ZS
end PySem
namespace L2
open PySem PySem.Spec PyProof.Rows PySem.ZS
end L2
end
section
set_option maxRecDepth 100000
set_option maxHeartbeats 1000000
namespace L2
open PySem PySem.Spec PyProof.Rows PySem.ZS
section
variable {M : Model} {A : Around} {E : Value → Shared → Prop} {s : Shared} {env : Env}
end
end L2
namespace DL
open PySem PySem.Spec PyProof.Rows L2
variable [tb : Tb]
end DL
end
section
set_option maxRecDepth 100000
set_option maxHeartbeats 4000000
/-! dict comprehensions -/
namespace DL
open PySem PySem.Spec PyProof.Rows L2
variable [tb : Tb]
def putD (acc : List (Key × D)) (k : Key) (d : D) : List (Key × D) :=
  if (acc.any fun p => decide (p.1 = k)) = true then acc.map (fun p => if p.1 = k then (p.1, d) else p) else acc ++ [(k, d)]
def DRep (K : PySem.W.Frag) (F : Hp) : List (Key × D) → List (Key × V) → Prop
  | [], kvs => kvs = []
  | p :: r, kvs => ∃ v rest, kvs = (p.1, v) :: rest ∧ Rep K F p.2 v ∧ DRep K F r rest
section
variable {K : PySem.W.Frag} {F F' : Hp}
theorem DRep.same (s : Same F F') : ∀ (acc : List (Key × D)) (kvs : List (Key × V)), DRep K F acc kvs → DRep K F' acc kvs
  | [], _, h => h
  | p :: r, kvs, ⟨v, rest, e, h1, h2⟩ => ⟨v, rest, e, Rep.same s _ h1, DRep.same s r rest h2⟩
theorem DRep.len : ∀ {acc : List (Key × D)} {kvs : List (Key × V)}, DRep K F acc kvs → kvs.length = acc.length
  | [], _, h => by rw [show _ = [] from h]; rfl
  | p :: r, kvs, ⟨v, rest, e, h1, h2⟩ => by rw [e]; simp [DRep.len h2]
theorem DRep.split : ∀ {acc : List (Key × D)} {kvs : List (Key × V)}, DRep K F acc kvs → kvs = (acc.map (·.1)).zip (kvs.map (·.2)) ∧ Reps K F (acc.map (·.2)) (kvs.map (·.2))
  | [], _, h => by rw [show _ = [] from h]; exact ⟨rfl, rfl⟩
  | p :: r, kvs, ⟨v, rest, e, h1, h2⟩ => by
    subst e
    obtain ⟨a, b⟩ := DRep.split h2
    refine ⟨?_, ?_⟩
    · simp only [List.map_cons, List.zip_cons_cons]
      rw [← a]
    · simp only [List.map_cons, Reps]
      exact ⟨v, _, rfl, h1, b⟩
theorem DRep.any (k : Key) : ∀ {acc : List (Key × D)} {kvs : List (Key × V)}, DRep K F acc kvs → (kvs.any fun p => decide (p.1 = k)) = (acc.any fun p => decide (p.1 = k))
  | [], _, h => by rw [show _ = [] from h]; rfl
  | p :: r, kvs, ⟨v, rest, e, h1, h2⟩ => by
    subst e
    simp only [List.any_cons, DRep.any k h2]
theorem DRep.snoc {k : Key} {d : D} {v : V} (h : Rep K F d v) : ∀ {acc : List (Key × D)} {kvs : List (Key × V)}, DRep K F acc kvs → DRep K F (acc ++ [(k, d)]) (kvs ++ [(k, v)])
  | [], _, q => by rw [show _ = [] from q]; exact ⟨v, [], rfl, h, rfl⟩
  | p :: r, kvs, ⟨w, rest, e, h1, h2⟩ => by
    subst e
    exact ⟨w, _, rfl, h1, DRep.snoc h h2⟩
theorem DRep.upd {k : Key} {d : D} {v : V} (h : Rep K F d v) : ∀ {acc : List (Key × D)} {kvs : List (Key × V)}, DRep K F acc kvs → DRep K F (acc.map fun p => if p.1 = k then (p.1, d) else p) (kvs.map fun p => if p.1 = k then (p.1, v) else p)
  | [], _, q => by rw [show _ = [] from q]; rfl
  | p :: r, kvs, ⟨w, rest, e, h1, h2⟩ => by
    subst e
    simp only [List.map_cons]
    by_cases c : p.1 = k
    · rw [if_pos c, if_pos c]
      exact ⟨v, _, rfl, h, DRep.upd h h2⟩
    · rw [if_neg c, if_neg c]
      exact ⟨w, _, rfl, h1, DRep.upd h h2⟩
theorem DRep.put (k : Key) {d : D} {v : V} {acc : List (Key × D)} {kvs : List (Key × V)} (q : DRep K F acc kvs) (h : Rep K F d v) : DRep K F (putD acc k d) (putK kvs k v) := by
  unfold putD putK
  rw [q.any k]
  split
  · exact q.upd h
  · exact q.snoc h
end
section
variable {K : PySem.W.Frag} {mg : Str → Option Value} {pv : Nat → Option V} {W : WX}
/-- the state between two turns -/
structure CSd (K : PySem.W.Frag) (pv : Nat → Option V) (σ : L2.St) (F0 H0 : Hp) (A0 : Nat → List Addr) (F1 : Hp) (Dd : Addr) (acc : List (Key × D)) (e : DEnv) (H : Hp) (F : Hp) (A : Nat → List Addr) (vs : List (Key × V)) : Prop where
  ws : WS K pv e σ F H A
  st : Step F0 H0 (UA A0) F H (fun a => UA A a ∨ a = Dd)
  sm : Same F1 F
  lst : H Dd = some (.dK vs)
  rp : DRep K F acc vs
  nA : ¬ UA A Dd
  nF : F Dd = none
end
section
variable {X : Cx} {pv : Nat → Option V} {W : WX} {g : M (List D)} {tg : Tgt} {test : M Bool} {fk f : M R} {kx vx t iter : Expr} {ifs : List Expr} {scope : Scope} {own : List (Str × Nat)} {pos : Pos}
end
end DL
end
section
set_option maxRecDepth 100000
set_option maxHeartbeats 4000000
namespace L2
open PySem PySem.Spec PyProof.Rows
section
variable {X : Cx}
end
end L2
namespace DL
open PySem PySem.Spec PyProof.Rows L2
variable [tb : Tb]
section
variable {X : Cx} {pv : Nat → Option V} {W : WX} {g : M (List D)} {tg : Tgt} {test : M Bool} {fk f : M R} {kx vx t iter : Expr} {ifs : List Expr} {scope : Scope} {own : List (Str × Nat)} {pos : Pos}
end
end DL
end
section
set_option maxRecDepth 100000
set_option maxHeartbeats 1000000
namespace DL
open PySem PySem.Spec PyProof.Rows L2
variable [tb : Tb]
/-! ### in: a dict -/
def rInK (neg : Bool) : R2 := fun x y H Q => ∃ a kvs k, x = kV k ∧ y = .ref a ∧ H a = some (.dK kvs) ∧ Q (.bl (if neg then !(valV kvs k).isSome else (valV kvs k).isSome)) H
theorem op_inK {X : Cx} (hu : X.A.units + 1 < cLine) : OpR X (compareOp .In) (rInK false) := by
  rintro pins s σ H x y v u Q I rx ry ⟨a, kvs, k, rfl, rfl, h, q⟩
  obtain rfl : u = Value.ref a := ry
  exact d_in hu I (DGet.k h) rx fun s' I' => ⟨.bl _, H, I', rfl, q⟩
def keyD : D → Option Key
  | .int i => some (.inl i)
  | .str s => some (.inr s)
  | _ => none
def hasK (ks : List Key) (k : Key) : Bool := ks.any fun z => decide (z = k)
def hInK (neg : Bool) : D → D → Option R := fun d e => match keyD d, e with
  | some k, .dct ks _ => some (.val (.bl (if neg then !hasK ks k else hasK ks k)))
  | _, _ => none
theorem zip_any (k : Key) {ks : List Key} {vs : List V} (h : ks.length = vs.length) : (valV (ks.zip vs) k).isSome = hasK ks k := by
  rw [← valV_any]
  unfold hasK
  induction ks generalizing vs with
  | nil => simp
  | cons a ks ih =>
    cases vs with
    | nil => cases h
    | cons v vs =>
      simp only [List.zip_cons_cons, List.any_cons]
      rw [ih (by simpa using h)]
theorem ov_inK {K : PySem.W.Frag} (neg : Bool) : OpV K (rInK neg) (hInK neg) := fun F H d1 d2 v1 v2 ro Q s a b e q => by
  unfold hInK at e
  split at e
  · rename_i k ks ds hk
    cases e
    obtain ⟨c, vs, rfl, h1, h2, h3⟩ := b
    have hv : v1 = kV k := by
      cases d1 <;> simp [keyD] at hk <;> subst hk <;> exact a
    refine ⟨c, _, k, hv, rfl, h1, ?_⟩
    rw [zip_any k (by rw [h2, ← h3.len])]
    exact q.flat s rfl
  · cases e
def hIn2 (neg : Bool) : D → D → Option R := hOr (hIn neg) (hInK neg)
theorem cr_in2 {X : Cx} {k : Nat} (hr : Room k X.A) : CmpR X .In (hIn2 false) := ⟨_, ((op_inD (by have := hr.un; omega)).or (op_inT (by have := hr.un; omega)) |>.or op_in_sign).or (op_inK (by have := hr.un; omega)), ((ov_inL.or (ov_inT false)).or ov_inS).or (ov_inK false)⟩
@[simp] theorem ev_in2l {n : Bool} {d : D} {l : List D} : hIn2 n d (.lst l) = hIn n d (.lst l) := by
  unfold hIn2 hOr
  split
  · rename_i h; exact h.symm
  · rename_i h
    rw [h]
    unfold hInK
    split
    · rename_i h2; cases h2
    · rfl
@[simp] theorem ev_in2k {n : Bool} {i : Int} {ks : List Key} {ds : List D} : hIn2 n (.int i) (.dct ks ds) = some (.val (.bl (if n then !hasK ks (.inl i) else hasK ks (.inl i)))) := by
  have e : hIn n (.int i) (.dct ks ds) = none := by
    unfold hIn hOr hInL hInT hInS
    cases h : D.pys ds with
    | none => simp [D.py, h]
    | some p => simp [D.py, h]
  unfold hIn2 hOr
  rw [e]
  rfl
end DL
end
section
set_option maxRecDepth 100000
set_option maxHeartbeats 3200000
namespace L2
open PySem PySem.Spec PyProof.Rows
/-! ### set(xs) of a list of ints -/
abbrev fsO (w : World) : Obj := { cls := .type "set", dict := none, data := .set #[] 0 (.fresh 0 0 (!w.params.followText "set-order")) }
section
variable {P : Program} {w : World} {A : Around} {E : Value → Shared → Prop} {s : Shared}
end
end L2
end
section
set_option maxRecDepth 100000
set_option maxHeartbeats 3200000
namespace L2
open PySem PySem.Spec PyProof.Rows
section
variable {P : Program} {w : World} {A : Around} {E : Value → Shared → Prop} {s : Shared}
end
end L2
end
section
set_option maxRecDepth 100000
set_option maxHeartbeats 1000000
namespace DL
open PySem PySem.Spec PyProof.Rows L2
variable [tb : Tb]
/-! ### len(set(xs)), sorted(set(xs)): xs a list of ints -/
def dd : List Int → List Int
  | [] => []
  | x :: l => if x ∈ dd l then dd l else x :: dd l
section
variable {X : Cx} {a : Expr} {ta : TE} {p p2 q pos : Pos}
end
section
variable {X : Cx} {pv : Nat → Option V} {W : WX} {f : M R} {a : Expr} {p p2 q pos : Pos}
end
end DL
end
section
set_option maxRecDepth 100000
set_option maxHeartbeats 1000000
/-! sorting by a key whose calls keep a state of one's own -/
namespace SJ
open PySem PySem.W PySem.Calls PyProof.Rows
section
variable {prog : Program} {w : World} {A : Around} {E : Value → Shared → Prop} {s : Shared} {a kS : Addr} {b : Bool} {vs : List Value} {kz : List PyData} {e1 : Nat} {P : PySem.Fin → Shared → Prop} {J : List Value → Shared → Prop} {f : Value}
/-- what is asked of the state J (the keys so far told by its list) -/
structure Keeps (J : List Value → Shared → Prop) (kS a : Addr) (kz : List PyData) : Prop where
  keep : ∀ ks (t : Shared) (g : Heap) (tk : Nat), J ks t → (∀ c o, c ≠ kS → c ≠ a → t.heap.get? c = some o → g.get? c = some o) → J ks { t with heap := g, toks := tk }
  rd : ∀ ks t, J ks t → ks.length = kz.length → EachIs (fun v k => ∃ as, Reads t.heap v k as) ks kz
def Turns (prog : Program) (w : World) (A : Around) (f : Value) (J : List Value → Shared → Prop) (kS a : Addr) (vs : List Value) : Prop :=
  ∀ i v ks (t : Shared) oS oa, vs[i]? = some v → ks.length = i → J ks t → t.heap.get? kS = some oS → t.heap.get? a = some oa →
    wpAny (model prog w) A (call f [v]) (fun kv t' => J (ks ++ [kv]) t' ∧ t'.heap.get? kS = some oS ∧ t'.heap.get? a = some oa) (fun _ _ => False) t
theorem rest (K : Keeps J kS a kz) (T : Turns prog w A f J kS a vs) (hka : kS ≠ a) (hlen : kz.length = vs.length) (hZ : vs.length ≤ sizeLine) (hal : AllAlike kz) (hsk : Sortable kz) (hu : ∀ d, d ∈ kz → A.units + d.depth < cLine)
    (h : ∀ ks (t : Shared) (g : Heap) tk out c, J ks t → (∀ x o, x ≠ kS → x ≠ a → t.heap.get? x = some o → g.get? x = some o) → g.get? a = some (seqObj "list" (List.toArray out) c) → KeyedOut b kz vs out → P (.done (.ret .none)) { t with heap := g, toks := tk })
    (j0 : J [] s) (nk : s.heap.get? kS = some (seqObj "list" #[] 0)) (na : s.heap.get? a = some (seqObj "list" #[] e1)) :
    wpAny (model prog w) A (ksk_rest a f b vs.toArray e1 (.ref kS)) P E s := by
  unfold ksk_rest
  refine wpAny_bind (wpAny_rule ?_)
  first
    | rw [List.forIn_toArray]
    | (rw [← Array.forIn_toList]; simp only [List.toList_toArray])
  refine wpAny_bind (ksk_fold (fun i t => ∃ (ks : List Value) (e : Nat), ks.length = i ∧ J ks t ∧ t.heap.get? kS = some (seqObj "list" ks.toArray e) ∧ t.heap.get? a = some (seqObj "list" #[] e1)) vs 0 s ⟨[], 0, rfl, j0, nk, na⟩ ?st ?dn)
  case st =>
    rintro j x t hx ⟨ks, e, hl, jt, nk', na'⟩
    simp only [Nat.zero_add] at hl ⊢
    have hj : j < vs.length := (List.getElem?_eq_some_iff.mp hx).1
    have hz : ks.toArray.size ≤ vs.length := by simp; omega
    refine wpAny_bind (wpAny_attempt (wpAny_mono (T j x ks t _ _ hx hl jt nk' na') (fun kv t' he => ?_) fun _ _ z => z.elim))
    obtain ⟨jt', nk2, na2⟩ := he
    try dsimp only
    have sb := Heap.SameBut.update t'.heap kS (Obj.mapSeq (·.push kv))
    obtain ⟨c2, hc2⟩ : ∃ c2, (t'.heap.update kS (Obj.mapSeq (·.push kv))).get? kS = some (seqObj "list" (ks.toArray.push kv) c2) := ⟨_, get?_update_seq nk2 (·.push kv)⟩
    refine wpAny_bind (listUpdate_at nk2 rfl ?_ (Nat.le_trans hz hZ) (Nat.le_trans (Nat.le_of_eq (Array.size_push ..)) (Nat.succ_le_succ (Nat.le_trans hz hZ))))
    exact wpAny_pure ⟨rfl, ks ++ [kv], c2, by simp [hl], K.keep _ _ _ t'.toks jt' fun c o n1 _ q => (sb.2 c n1).trans q, by simpa using hc2, (sb.2 a hka.symm).trans na2⟩
  case dn =>
    rintro t ⟨ks, e, hl, jt, nk', na'⟩
    rw [Nat.zero_add] at hl
    have hk := K.rd ks t jt (by omega)
    try dsimp only
    refine wpAny_bind (listItems_at nk' rfl ?_)
    obtain ⟨G, g1, g2⟩ := L2.restrict t.heap fun x => decide (x ≠ kS)
    have gk : G.get? kS = none := g2 kS (decide_eq_false fun z => z rfl)
    have gs : ∀ x o, G.get? x = some o → t.heap.get? x = some o := fun x o q => by
      by_cases hx : x = kS
      · rw [hx, gk] at q; cases q
      · rw [← g1 x (decide_eq_true hx)]; exact q
    refine keyH_end (κ := dataKind t.heap kz) (h₁ := G) (fun x o _ q => gs x o q) gk nk' na' hka (SortsAt.data (by simpa using hk) hal hsk hu) (by simp; omega) hZ fun g tk c k3 n3 => ?_
    refine h ks t g tk _ c jt (fun x o n1 n2 q => k3 x o n2 (by rw [g1 x (decide_eq_true n1)]; exact q)) n3 ⟨t.heap, ks, hal, ?_, hk⟩
    simp
theorem tree {n : Nat} (ho : s.heap.get? a = some (seqObj "list" vs.toArray n)) (K : Keeps J (s.heap.objs.size + 1) a kz) (T : Turns prog w A f J (s.heap.objs.size + 1) a vs) (hlen : kz.length = vs.length) (hZ : vs.length ≤ sizeLine) (hal : AllAlike kz) (hsk : Sortable kz) (hu : ∀ d, d ∈ kz → A.units + d.depth < cLine)
    (h : ∀ ks (t : Shared) (g : Heap) tk out c, J ks t → (∀ x o, x ≠ s.heap.objs.size + 1 → x ≠ a → t.heap.get? x = some o → g.get? x = some o) → g.get? a = some (seqObj "list" (List.toArray out) c) → KeyedOut b kz vs out → P (.done (.ret .none)) { t with heap := g, toks := tk })
    (j0 : J [] s) : wpAny (model prog w) A (ksk_tree a f b) P E s := by
  have ha : a < s.heap.objs.size := Heap.lt_size ho
  obtain ⟨e1, ho1⟩ : ∃ e1, (s.heap.update a (Obj.mapSeq fun _ => (#[] : Array Value))).get? a = some (seqObj "list" #[] e1) := ⟨_, get?_update_seq ho fun _ => #[]⟩
  have sb := Heap.SameBut.update s.heap a (Obj.mapSeq fun _ => (#[] : Array Value))
  have hkS : ((s.heap.update a (Obj.mapSeq fun _ => (#[] : Array Value))).push (seqObj "tuple" vs.toArray 0)).objs.size = s.heap.objs.size + 1 := by rw [size_push', Heap.size_update]
  unfold ksk_tree
  refine wpAny_bind (listItems_at ho rfl (wpAny_bind (listUpdate_at ho rfl ?_ (by rw [List.size_toArray]; exact hZ) (Nat.zero_le _))))
  refine wpAny_bind (seqEpoch_at ho1 rfl (wpAny_bind (wpAny_newTuple ?_ (by show vs.length ≤ _; exact hZ))))
  refine wpAny_bind (wpAny_newList (wpAny_holding ?_) (Nat.zero_le _))
  show wpAny _ _ (ksk_rest a f b vs.toArray _ (.ref ((s.heap.update a (Obj.mapSeq fun _ => (#[] : Array Value))).push (seqObj "tuple" vs.toArray 0)).objs.size)) _ _ { s with heap := ((s.heap.update a (Obj.mapSeq fun _ => (#[] : Array Value))).push (seqObj "tuple" vs.toArray 0)).push (seqObj "list" #[] 0) }
  have nk : (((s.heap.update a (Obj.mapSeq fun _ => (#[] : Array Value))).push (seqObj "tuple" vs.toArray 0)).push (seqObj "list" #[] 0)).get? (s.heap.objs.size + 1) = some (seqObj "list" #[] 0) := by
    rw [← hkS]; exact Heap.get?_push_size _ rfl
  rw [hkS]
  refine rest K T (Nat.ne_of_gt (Nat.lt_succ_of_lt ha)) hlen hZ hal hsk hu h ?_ nk (Heap.get?_push_of_some _ (Heap.get?_push_of_some _ ho1))
  exact K.keep [] s _ s.toks j0 fun c o _ n2 q => Heap.get?_push_of_some _ (Heap.get?_push_of_some _ ((sb.2 c n2).trans q))
end
end SJ
end
section
set_option maxRecDepth 100000
set_option maxHeartbeats 4000000
namespace DL
open PySem PySem.Spec PyProof.Rows L2 LamX
variable [tb : Tb]
/-! ### sorted(range(n), key=lambda a: ..), data as keys -/
section
variable {X : Cx} {pv : Nat → Option V} {W : WX} {f fb : M R} {i k : Nat} {a x : Str} {P c : Addr} {e : Expr} {params : Arguments} {body : Expr} {scope : Scope} {lpos kpos p p2 q pos : Pos}
end
end DL
end
section
set_option maxRecDepth 100000
set_option maxHeartbeats 4000000
namespace DL
open PySem PySem.Spec PyProof.Rows L2 LamX
variable [tb : Tb]
section
variable {X : Cx} {pins : List (Addr × Obj)} {σ : L2.St} {H : Hp} {s : Shared}
end
section
variable {X : Cx} {pv : Nat → Option V} {W : WX} {f fb : M R} {i k : Nat} {a x : Str} {P c : Addr} {e : Expr} {params : Arguments} {body : Expr} {scope : Scope} {lpos kpos p p2 q pos : Pos}
end
end DL
end
section
set_option maxRecDepth 100000
set_option maxHeartbeats 1000000
namespace DL
open PySem PySem.Spec PyProof.Rows L2
variable [tb : Tb]
/-! ### x += e, ints -/
section
variable {X : Cx} {pv : Nat → Option V} {W : WX} {i : Nat} {f : M R}
end
/-! ### list(range(a, b)) -/
section
variable {X : Cx} {pv : Nat → Option V} {W : WX} {f g : M R} {a b : Expr} {p p2 q pos : Pos}
end
/-! ### what they compute -/
section
variable {env : DEnv} {f g fb fk fv : M R} {fs : M (List R)} {gi : M (List D)} {tg : Tgt} {vs : List Nat} {test : M Bool} {i : Nat}
end
end DL
end
section
set_option maxRecDepth 100000
set_option maxHeartbeats 1000000
namespace DL
open PySem PySem.Spec PyProof.Rows L2
variable [tb : Tb]
/-! ### repr of an int too -/
end DL
end
section
set_option maxRecDepth 100000
set_option maxHeartbeats 1000000
namespace DL
open PySem PySem.Spec PyProof.Rows L2
namespace DB
structure DispP (w n : Nat) (p : PyData) : Prop where
  sh : p.showable = true
  lv : p.leavesShort 40 = true
  wt : p.weight ≤ w
  dp : p.depth ≤ n
  lf : leafOk p = true
structure DispPs (w n : Nat) (ps : List PyData) : Prop where
  sh : PyData.showableAll ps = true
  lv : PyData.leavesShortAll 40 ps = true
  wt : PyData.weightAll ps ≤ w
  dp : PyData.depthAll ps ≤ n
  lf : leafOkAll ps = true
def Disp (w n : Nat) (d : D) : Prop := ∃ p, d.py = some p ∧ DispP w n p
theorem Disp.up {w n w2 n2 : Nat} {d : D} (h : Disp w n d) (h1 : w ≤ w2) (h2 : n ≤ n2) : Disp w2 n2 d := by
  obtain ⟨p, e, a, b, c, f, g⟩ := h
  exact ⟨p, e, a, b, by omega, by omega, g⟩
end DB
end DL
end
section
set_option maxRecDepth 100000
set_option maxHeartbeats 1000000
namespace DL
open PySem PySem.Spec PyProof.Rows L2
variable [tb : Tb]
/-! ### repr of a truth value too -/
/-! ### starred parts of a display -/
section
variable {X : Cx} {pv : Nat → Option V} {W : WX} {f : M R} {fs : M (List R)} {e : Expr} {es : List Expr} {p : Pos}
end

/-! ### a list of lists of one's own -/
section
variable {X : Cx} {pv : Nat → Option V} {W : WX} {fs : M (List R)} {es : List Expr} {pos : Pos}
end
section
variable {X : Cx} {pv : Nat → Option V} {W : WX} {i : Nat} {x y : Str} {p p2 pos apos : Pos}
end
section
variable {X : Cx} {pv : Nat → Option V} {W : WX} {i k j j2 : Nat} {x : Str} {p p2 p3 p4 pos apos : Pos}
end
end DL
end
section
set_option maxRecDepth 100000
set_option maxHeartbeats 4000000
namespace DL
open PySem PySem.Spec PyProof.Rows L2
variable [tb : Tb]
/-! ### match of a text -/
def matchL (x : Str) : List (Str × M Flow) → M Flow
  | [] => sNx
  | (c, b) :: r => fun env => if (x == c) = true then b env else matchL x r env
structure PCs (X : Cx) (pv : Nat → Option V) (W : WX) (cases : List MatchCase) (cs : List (Str × M Flow)) : Prop where
  run : ∀ (pins : List (Addr × Obj)) (s : Shared) (σ : L2.St) (H : Hp) (D : Ends) (x : Str) (t : Tok) (first : Bool), Inv X pins σ H s → sD X.K X.mg pv W (matchL x cs) D σ H →
    wpAny (model X.prog X.w) X.A (matchCases cases X.env (.str x t) first) (SP X pins D) X.xe s
section
variable {X : Cx} {pv : Nat → Option V} {W : WX} {f : M R} {b : M Flow} {cs : List (Str × M Flow)} {cases : List MatchCase} {e : Expr} {c : Str} {j : Nat} {pos p2 p3 : Pos} {body : List Stmt}
end
end DL
end
section
set_option maxRecDepth 100000
set_option maxHeartbeats 4000000
namespace DL
open PySem PySem.Spec PyProof.Rows L2 LamX
variable [tb : Tb]
/-! ### a lambda without parameters, handed to a def -/
section
variable {X : Cx} {pinz : List (Addr × Obj)} {σ0 : L2.St} {H0 HY : Hp} {t0 t1 : Shared}
end
section
variable {X : Cx} {pv : Nat → Option V} {W : WX} {fb dres : M R} {k : Nat}
end
end DL
end
section
set_option maxRecDepth 100000
set_option maxHeartbeats 4000000
namespace DL
open PySem PySem.Spec PyProof.Rows L2 LamX
variable [tb : Tb]
/-! ### which exceptions a clause catches -/
/-- hs: of which classes it is known whether 'except h' catches them -/
def ExH (K : PySem.W.Frag) (mg : Str → Option Value) (h : Str) (hs : List (Exc × Bool)) : Prop := ∃ CH, mg h = some (.ref CH) ∧ ∀ p ∈ hs, ∀ C, mg p.1 = some (.ref C) → PySem.W.exmOne K (.ref C) (.ref CH) = some p.2
def exIs (hs : List (Exc × Bool)) (c : Exc) : Option Bool := hs.lookup c
theorem ExH.at {K : PySem.W.Frag} {mg : Str → Option Value} {c : Str} {hs : List (Exc × Bool)} {b : Bool} {CH : Addr} (x : ∀ p ∈ hs, ∀ C, mg p.1 = some (.ref C) → PySem.W.exmOne K (.ref C) (.ref CH) = some p.2) (e : exIs hs c = some b) {C : Addr} (hm : mg c = some (.ref C)) :
    PySem.W.exmOne K (.ref C) (.ref CH) = some b := x _ (PySem.mem_of_lookup e) C hm
/-! ### y = 'r'; try: y = a() / except h: y = 'r'; return y -/
section
variable {X : Cx}
end
section
variable {X : Cx} {pv : Nat → Option V} {W : WX} {fb : M R} {hs : List (Exc × Bool)} {ret e : Str}
end
end DL
end
section
set_option maxRecDepth 100000
set_option maxHeartbeats 4000000
namespace DL
open PySem PySem.Spec PyProof.Rows L2
variable [tb : Tb]
/-! ### d.update(e), both with written keys -/
section
variable {X : Cx} {pv : Nat → Option V} {W : WX} {i : Nat} {fs : M (List R)} {f g : M R} {x : Str} {p pos apos : Pos} {e o : Expr} {es : List Expr}
end
/-! ### d[k], the key there -/
/-! ### xs.count(e), xs.index(e) of ints -/
section
variable {X : Cx} {pv : Nat → Option V} {W : WX} {f : M R} {fs : M (List R)} {p pos apos : Pos} {e o : Expr} {es : List Expr}
end
end DL
end
section
set_option maxRecDepth 100000
set_option maxHeartbeats 4000000
namespace DL
open PySem PySem.Spec PyProof.Rows L2
variable [tb : Tb]
/-! ### written tuples and tables of the top -/
structure GConst (K : PySem.W.Frag) (mg : Str → Option Value) (x : Str) (d : D) : Prop where
  ex : ∃ u v, mg x = some u ∧ RelV v u ∧ ∀ F, Rep K F d v
def GVal (K : PySem.W.Frag) (d : D) (u : Value) : Prop := ∃ v, RelV v u ∧ ∀ F, Rep K F d v
inductive GVals (K : PySem.W.Frag) : List D → List Value → Prop where
  | nil : GVals K [] []
  | cons {d : D} {u : Value} {ds : List D} {us : List Value} (h : GVal K d u) (r : GVals K ds us) : GVals K (d :: ds) (u :: us)
theorem GVals.ex {K : PySem.W.Frag} {ds : List D} {us : List Value} (h : GVals K ds us) : ∃ vs, Vals vs us ∧ ∀ F, Reps K F ds vs := by
  induction h with
  | nil => exact ⟨[], .nil, fun _ => rfl⟩
  | cons h r ih =>
    obtain ⟨v, h1, h2⟩ := h
    obtain ⟨vs, h3, h4⟩ := ih
    exact ⟨v :: vs, .cons h1 h3, fun F => ⟨v, vs, rfl, h2 F, h4 F⟩⟩
/-- a table with written int keys -/
structure GTab (K : PySem.W.Frag) (mg : Str → Option Value) (x : Str) (tbl : List (Int × D)) : Prop where
  ex : ∃ a es n, mg x = some (.ref a) ∧ K.lookup a = some ⟨.type "dict", none, .dict es n, #[]⟩ ∧ (∀ e ∈ es.toList, ∃ k t, e.key = .int k t ∧ e.hash = hashInt k) ∧ ∀ p ∈ tbl, ∃ u, findBy Value.isInt es p.1 = some u ∧ GVal K p.2 u
section
variable {X : Cx} {pv : Nat → Option V} {W : WX} {f : M R} {x : Str} {p pos : Pos} {e : Expr} {tbl : List (Int × D)}
end
end DL
end
section
set_option maxRecDepth 100000
set_option maxHeartbeats 4000000
namespace DL
open PySem PySem.Spec PyProof.Rows L2 LamX
variable [tb : Tb]
/-! ### the end's facts about clauses -/
/-! ### try: body / except h: suite -/
section
variable {X : Cx} {pv : Nat → Option V} {W : WX} {g su : M Flow} {h : Str} {hs : List (Exc × Bool)} {body suite : List Stmt} {b₀ : Stmt} {np pos pos' : Pos}
end
end DL
end
section
set_option maxRecDepth 100000
set_option maxHeartbeats 4000000
namespace DL
open PySem PySem.Spec PyProof.Rows L2
variable [tb : Tb]
/-! ### an expression that reads a list of one's own as if it were frozen -/
section
variable {X : Cx} {pv : Nat → Option V} {W : WX} {g : M (List D)} {tg : Tgt} {test : M Bool} {f : M R} {elt t iter : Expr} {ifs : List Expr} {scope : Scope} {own : List (Str × Nat)} {pos : Pos}
end
end DL
end
section
set_option maxRecDepth 100000
set_option maxHeartbeats 4000000
namespace DL
open PySem
theorem runs_det {M : Model} {Γ : Ctx} {p : Pos} {t : Sem Fin} {fs : List Frame} {s : Shared} {e : End} {s' : Shared} (h : Runs M Γ p t fs s e s') : ∀ {e2 : End} {s2 : Shared}, Runs M Γ p t fs s e2 s2 → e = e2 ∧ s' = s2 := by
  induction h with
  | done => intro e2 s2 h2; cases h2; exact ⟨rfl, rfl⟩
  | raise => intro e2 s2 h2; cases h2; exact ⟨rfl, rfl⟩
  | again _ _ ih => intro e2 s2 h2; cases h2 with | again _ h => exact ih h
  | rule _ ih => intro e2 s2 h2; cases h2 with | rule h => exact ih h
  | «at» _ ih => intro e2 s2 h2; cases h2 with | «at» h => exact ih h
  | load ho _ ih => intro e2 s2 h2; cases h2 with | load ho2 h => rw [ho] at ho2; cases ho2; exact ih h
  | update _ _ ih => intro e2 s2 h2; cases h2 with | update _ h => exact ih h
  | loadIfAlive _ ih => intro e2 s2 h2; cases h2 with | loadIfAlive h => exact ih h
  | point _ ih => intro e2 s2 h2; cases h2 with | point h => exact ih h
  | alloc _ ih => intro e2 s2 h2; cases h2 with | alloc h => exact ih h
  | fresh _ ih => intro e2 s2 h2; cases h2 with | fresh h => exact ih h
  | ask _ ih => intro e2 s2 h2; cases h2 with | ask h => exact ih h
  | choose _ _ ih => intro e2 s2 h2; cases h2 with | choose _ h => exact ih h
  | os _ ih => intro e2 s2 h2; cases h2 with | os h => exact ih h
  | handled _ ih => intro e2 s2 h2; cases h2 with | handled h => exact ih h
  | genState hg _ ih => intro e2 s2 h2; cases h2 with | genState hg2 h => rw [hg] at hg2; cases hg2; exact ih h
  | stack _ ih => intro e2 s2 h2; cases h2 with | stack h => exact ih h
  | thread _ ih => intro e2 s2 h2; cases h2 with | thread h => exact ih h
  | newGen _ ih => intro e2 s2 h2; cases h2 with | newGen h => exact ih h
  | call _ _ ih1 ih2 =>
    intro e2 s2 h2
    cases h2 with
    | call h3 h4 => obtain ⟨a, b⟩ := ih1 h3; cases a; subst b; exact ih2 h4
    | callSusp h3 => obtain ⟨a, b⟩ := ih1 h3; cases a
  | callSusp _ ih1 =>
    intro e2 s2 h2
    cases h2 with
    | call h3 h4 => obtain ⟨a, b⟩ := ih1 h3; cases a
    | callSusp h3 => obtain ⟨a, b⟩ := ih1 h3; cases a; exact ⟨rfl, b⟩
  | yield => intro e2 s2 h2; cases h2; exact ⟨rfl, rfl⟩
  | resumeFresh hg _ _ _ ih1 ih2 =>
    intro e2 s2 h2
    cases h2 with
    | resumeFresh hg2 h3 _ h4 => rw [hg] at hg2; cases hg2; obtain ⟨a, b⟩ := ih1 h3; subst a; subst b; exact ih2 h4
    | resumeSuspended hg2 => rw [hg] at hg2; cases hg2
    | resumeJustStarted _ hv => exact absurd rfl hv
    | resumeRunning hg2 => rw [hg] at hg2; cases hg2
    | resumeFinished hg2 => rw [hg] at hg2; cases hg2
  | resumeSuspended hg _ _ _ ih1 ih2 =>
    intro e2 s2 h2
    cases h2 with
    | resumeFresh hg2 => rw [hg] at hg2; cases hg2
    | resumeSuspended hg2 h3 _ h4 => rw [hg] at hg2; cases hg2; obtain ⟨a, b⟩ := ih1 h3; subst a; subst b; exact ih2 h4
    | resumeJustStarted hg2 => rw [hg] at hg2; cases hg2
    | resumeThrowFresh hg2 => rw [hg] at hg2; cases hg2
    | resumeRunning hg2 => rw [hg] at hg2; cases hg2
    | resumeFinished hg2 => rw [hg] at hg2; cases hg2
  | resumeJustStarted hg hv _ ih =>
    intro e2 s2 h2
    cases h2 with
    | resumeFresh hg2 => exact absurd rfl hv
    | resumeSuspended hg2 => rw [hg] at hg2; cases hg2
    | resumeJustStarted hg2 _ h => exact ih h
    | resumeRunning hg2 => rw [hg] at hg2; cases hg2
    | resumeFinished hg2 => rw [hg] at hg2; cases hg2
  | resumeThrowFresh hg _ ih =>
    intro e2 s2 h2
    cases h2 with
    | resumeSuspended hg2 => rw [hg] at hg2; cases hg2
    | resumeThrowFresh hg2 h => exact ih h
    | resumeRunning hg2 => rw [hg] at hg2; cases hg2
    | resumeFinished hg2 => rw [hg] at hg2; cases hg2
  | resumeRunning hg _ ih =>
    intro e2 s2 h2
    cases h2 with
    | resumeFresh hg2 => rw [hg] at hg2; cases hg2
    | resumeSuspended hg2 => rw [hg] at hg2; cases hg2
    | resumeJustStarted hg2 => rw [hg] at hg2; cases hg2
    | resumeThrowFresh hg2 => rw [hg] at hg2; cases hg2
    | resumeRunning hg2 h => exact ih h
    | resumeFinished hg2 => rw [hg] at hg2; cases hg2
  | resumeFinished hg _ ih =>
    intro e2 s2 h2
    cases h2 with
    | resumeFresh hg2 => rw [hg] at hg2; cases hg2
    | resumeSuspended hg2 => rw [hg] at hg2; cases hg2
    | resumeJustStarted hg2 => rw [hg] at hg2; cases hg2
    | resumeThrowFresh hg2 => rw [hg] at hg2; cases hg2
    | resumeRunning hg2 => rw [hg] at hg2; cases hg2
    | resumeFinished hg2 h => exact ih h
  | segRet _ _ ih1 ih2 =>
    intro e2 s2 h2
    cases h2 with
    | segRet h3 h4 => obtain ⟨a, b⟩ := ih1 h3; cases a; subst b; exact ih2 h4
    | segSuspOut _ h3 => obtain ⟨a, b⟩ := ih1 h3; cases a
    | segSuspGen _ h3 => obtain ⟨a, b⟩ := ih1 h3; cases a
  | segGen _ _ ih1 ih2 =>
    intro e2 s2 h2
    cases h2 with
    | segGen h3 h4 => obtain ⟨a, b⟩ := ih1 h3; cases a; subst b; exact ih2 h4
    | segSuspOut _ h3 => obtain ⟨a, b⟩ := ih1 h3; cases a
    | segSuspGen _ h3 => obtain ⟨a, b⟩ := ih1 h3; cases a
  | segSuspOut hn _ ih1 =>
    intro e2 s2 h2
    cases h2 with
    | segRet h3 h4 => obtain ⟨a, b⟩ := ih1 h3; cases a
    | segGen h3 h4 => obtain ⟨a, b⟩ := ih1 h3; cases a
    | segSuspOut _ h3 => obtain ⟨a, b⟩ := ih1 h3; cases a; exact ⟨rfl, b⟩
    | segSuspGen hn2 => rw [hn] at hn2; cases hn2
  | segSuspGen hn _ _ _ ih1 ih2 =>
    intro e2 s2 h2
    cases h2 with
    | segRet h3 h4 => obtain ⟨a, b⟩ := ih1 h3; cases a
    | segGen h3 h4 => obtain ⟨a, b⟩ := ih1 h3; cases a
    | segSuspOut hn2 => rw [hn] at hn2; cases hn2
    | segSuspGen hn2 h3 _ h4 => rw [hn] at hn2; cases hn2; obtain ⟨a, b⟩ := ih1 h3; cases a; subst b; exact ih2 h4
theorem code_det {M : Model} {Γ : Ctx} {ι : Type} (i0 : ι) {R : ι → Result → Shared → Prop} {p : Pos} {s : Shared} (h : ∀ i, wpCode M Γ (R i) p s) : wpCode M Γ (fun r s' => ∀ i, R i r s') p s := by
  obtain ⟨r, s', h1, _⟩ := h i0
  refine ⟨r, s', h1, fun i => ?_⟩
  obtain ⟨r2, s2, h2, h3⟩ := h i
  obtain ⟨a, b⟩ := runs_det h1 h2
  cases a; subst b
  exact h3
end DL
end
section
set_option maxRecDepth 100000
set_option maxHeartbeats 4000000
namespace DL
open PySem PySem.Spec PyProof.Rows L2 LamX
variable [tb : Tb]
/-! ### min(xs, key=lambda a: (.., ..)), tuples of ints as keys -/
section
variable {X : Cx} {pv : Nat → Option V} {W : WX} {f fb : M R} {i k : Nat} {a x : Str} {P c : Addr} {e : Expr} {params : Arguments} {body : Expr} {scope : Scope} {lpos kpos p pos : Pos}
/-- a view of the state -/
def JW (X : Cx) (pv : Nat → Option V) (pins : List (Addr × Obj)) (σ : L2.St) (e : DEnv) (F0 H0 : Hp) (A0 : Nat → List Addr) (c' S I : Addr) (q : Str) (s : Shared) (F H : Hp) (A : Nat → List Addr) : Prop :=
  Inv X pins σ H s ∧ WS X.K pv e σ F H A ∧ Step F0 H0 (UA A0) F H (UA A) ∧ H c' = some (CodeO c' q) ∧ FpOk X pins H S ∧ FpOk X pins H I
theorem JW.moved {pins : List (Addr × Obj)} {σ : L2.St} {e0 : DEnv} {F0 H0 F H : Hp} {A0 A1 : Nat → List Addr} {c' S I : Addr} {q : Str} {s s' : Shared} (J : JW X pv pins σ e0 F0 H0 A0 c' S I q s F H A1) (m : Moved [S, I] (fun a b => b = a) s s') : JW X pv pins σ e0 F0 H0 A0 c' S I q s' F H A1 := by
  obtain ⟨I1, w1, st1, hc, fS, fI⟩ := J
  have fps : ∀ b ∈ [S, I], FpOk X pins H b := fun b hb => by
    rcases List.mem_cons.mp hb with rfl | hb
    · exact fS
    · rw [List.mem_singleton.mp hb]; exact fI
  have I2 := I1.turnedL (h' := s'.heap) (t' := s'.toks) (ch := [S, I]) m.heap fps
  have e : s' = { s with heap := s'.heap, toks := s'.toks } := by
    obtain ⟨h1, g1, d1, t1, o1⟩ := s'
    have hg : g1 = s.gens := m.gens
    have hd : d1 = s.drawn := m.drawn
    have ho : o1 = s.os := m.os
    rw [hg, hd, ho]
  rw [e]
  exact ⟨I2, w1, st1, hc, fS, fI⟩
end
end DL
end
section
set_option maxRecDepth 100000
set_option maxHeartbeats 1000000
namespace DL
open PySem PySem.Spec PyProof.Rows L2
variable [tb : Tb]
/-! ### x *= e, x //= e, x %= e, ints -/
section
variable {X : Cx}
end
section
variable {X : Cx} {pv : Nat → Option V} {W : WX} {i : Nat} {f : M R}
end
/-! ### list(range(n)) -/
section
variable {X : Cx} {pv : Nat → Option V} {W : WX} {f : M R} {a : Expr} {p p2 q pos : Pos}
end
end DL
end
section
set_option maxRecDepth 100000
set_option maxHeartbeats 1000000
namespace DL
open PySem PySem.Spec PyProof.Rows L2
variable [tb : Tb]
/-! ### [elt for tg in it for tg1 in it1] -/
section
variable {K : PySem.W.Frag} {mg : Str → Option Value} {pv : Nat → Option V} {W : WX}
end
section
variable {X : Cx} {pv : Nat → Option V} {W : WX} {g g1 : M (List D)} {tg tg1 : Tgt} {test test1 : M Bool} {f : M R} {elt t iter t1 iter1 : Expr} {ifs ifs1 : List Expr} {scope : Scope} {own : List (Str × Nat)} {vs1 : List Nat} {pos : Pos}
end
end DL
end
section
set_option maxRecDepth 100000
set_option maxHeartbeats 1000000
namespace DL
open PySem PySem.Spec PyProof.Rows L2
variable [tb : Tb]
/-! ### repr of a text too -/
end DL
end
section
set_option maxRecDepth 100000
set_option maxHeartbeats 1000000
namespace DL
open PySem PySem.Spec PyProof.Rows L2
variable [tb : Tb]
/-! ### a fresh list: two promises about one run -/
mutual
def D.noL : D → Bool
  | .non | .bl _ | .int _ | .str _ | .ty _ | .ref _ => true
  | .tup l => D.noLs l
  | .ctp l => D.noLs l
  | _ => false
def D.noLs : List D → Bool
  | [] => true
  | d :: ds => D.noL d && D.noLs ds
end
section
variable {K : PySem.W.Frag} {F F' H : Hp}
mutual
theorem Rep.cutF (h : ∀ a o, F a = some o → (∀ vs, o ≠ .lst vs) → F' a = some o) : ∀ (d : D) {v : V}, d.noL = true → Rep K F d v → Rep K F' d v
  | .non, _, _, r => r
  | .bl _, _, _, r => r
  | .int _, _, _, r => r
  | .str _, _, _, r => r
  | .ty _, _, _, r => r
  | .ref _, _, _, r => r
  | .tup ds, _, n, r => by
    simp only [D.noL] at n
    simp only [Rep] at r ⊢
    obtain ⟨a, vs, h1, h2, h3⟩ := r
    refine ⟨a, vs, h1, ?_, Reps.cutF h ds n h3⟩
    exact h _ _ h2 fun vs z => by cases z
  | .ctp ds, _, n, r => by
    simp only [D.noL] at n
    simp only [Rep] at r ⊢
    obtain ⟨a, vs, h1, h2, h3⟩ := r
    exact ⟨a, vs, h1, h2, Reps.cutF h ds n h3⟩
  | .exn _ _ _, _, n, _ => by simp [D.noL] at n
  | .lst _, _, n, _ => by simp [D.noL] at n
  | .rol _, _, n, _ => by simp [D.noL] at n
  | .dct _ _, _, n, _ => by simp [D.noL] at n
  | .ins _ _ _, _, n, _ => by simp [D.noL] at n
theorem Reps.cutF (h : ∀ a o, F a = some o → (∀ vs, o ≠ .lst vs) → F' a = some o) : ∀ (ds : List D) {vs : List V}, D.noLs ds = true → Reps K F ds vs → Reps K F' ds vs
  | [], _, _, r => r
  | d :: ds, _, n, r => by
    simp only [D.noLs, Bool.and_eq_true] at n
    simp only [Reps] at r ⊢
    obtain ⟨v, t, h1, h2, h3⟩ := r
    exact ⟨v, t, h1, Rep.cutF h d n.1 h2, Reps.cutF h ds n.2 h3⟩
end
end
/-- no lists but one -/
def oneL (F : Hp) (R0 : Addr) : Hp := fun a => match F a with
  | some (.lst vs) => if a = R0 then some (.lst vs) else none
  | o => o
theorem oneL_sub {F : Hp} {R0 : Addr} : Same (oneL F R0) F := fun a o h => by
  unfold oneL at h
  split at h
  · rename_i vs e
    split at h
    · rw [e]; exact h
    · cases h
  · exact h
theorem oneL_keep {F : Hp} {R0 a : Addr} {o : HO} (h : F a = some o) (n : ∀ vs, o ≠ .lst vs) : oneL F R0 a = some o := by
  unfold oneL
  split
  · rename_i vs e
    rw [h] at e; cases e
    exact absurd rfl (n vs)
  · exact h
theorem oneL_at {F : Hp} {R0 : Addr} {vs : List V} (h : F R0 = some (.lst vs)) : oneL F R0 R0 = some (.lst vs) := by
  unfold oneL
  rw [h]
  simp
theorem oneL_lst {F : Hp} {R0 l : Addr} {vs : List V} (h : oneL F R0 l = some (.lst vs)) : l = R0 := by
  unfold oneL at h
  split at h
  · split at h
    · assumption
    · cases h
  · rename_i n
    exact absurd h (n vs)
/-- a list of tuples that begin with a tuple -/
def ruleLike (l : List D) : Bool := !l.isEmpty && D.noLs l && l.all fun d => match d with
  | .tup _ => true
  | _ => false
noncomputable def freshG (g : List O → RF) (os : List O) : RF := match os with
  | [.val (.lst rl), .val (.lst ro)] => if ruleLike rl = true ∧ D.noLs ro = true then (match g [.val (.lst rl), .val (.lst ro)], g [.val (.lst rl), .lst ro] with
    | .ok (.val (.lst ds)) [.val _, .val _], .ok (.val (.lst _)) [_, .lst _] => if (D.ints ds).isSome = true then .ok (.lst ds) [.val (.lst rl), .val (.lst ro)] else .bad
    | .exc c os1, _ => .exc c os1
    | _, _ => .bad) else .bad
  | _ => .bad
theorem code_all {M : Model} {A : Around} {c : Code} {s : Shared} {ι : Type} (i0 : ι) {R : ι → Result → Shared → Prop} (h : ∀ i, codeAny M A c (R i) s) : codeAny M A c (fun r s' => ∀ i, R i r s') s := fun Γ p hc hb => code_det i0 fun i => h i Γ p hc hb
theorem ints_any {K : PySem.W.Frag} {F F' : Hp} : ∀ {ds : List D} {vs : List V}, (D.ints ds).isSome = true → Reps K F ds vs → Reps K F' ds vs
  | [], _, _, r => r
  | d :: ds, _, n, r => by
    obtain ⟨v, t, h1, h2, h3⟩ := r
    cases d with
    | int i =>
      simp only [D.ints] at n
      cases hd : D.ints ds with
      | none => rw [hd] at n; simp at n
      | some ks => exact ⟨v, t, h1, h2, ints_any (by rw [hd]; rfl) h3⟩
    | _ => simp [D.ints] at n
theorem ints_no_rule {K : PySem.W.Frag} {F F' : Hp} {ds rl : List D} {vs : List V} (n : (D.ints ds).isSome = true) (h : ruleLike rl = true) (r1 : Reps K F ds vs) (r2 : Reps K F' rl vs) : False := by
  cases rl with
  | nil => simp [ruleLike] at h
  | cons d rl =>
    simp only [ruleLike, Bool.and_eq_true, List.all_cons] at h
    obtain ⟨v, t, rfl, h2, _⟩ := r2
    cases ds with
    | nil => simp only [Reps] at r1; cases r1
    | cons e ds =>
      obtain ⟨v', t', e1, h3, _⟩ := r1
      cases e1
      cases e with
      | int i =>
        have hv : v = .int i := h3
        subst hv
        cases d with
        | tup l =>
          simp only [Rep] at h2
          obtain ⟨a, _, z, _⟩ := h2
          cases z
        | _ => exact absurd h.2.1 (by simp)
      | _ => simp [D.ints] at n
section
variable {P : Program} {w : World} {K : PySem.W.Frag} {mg : Str → Option Value} {base : Heap} {f : Addr} {fd : FuncData} {ps : List Str} {k : Nat} {G : List O → RF}
def QAll (K : PySem.W.Frag) (us : List V) (os1 : List O) (r : O) (F H : Hp) (A : Nat → List Addr) : VK := fun v H' => ∃ F' A' B, Step F H (UA A) F' H' (fun a => UA A' a ∨ a ∈ B) ∧ RS K (pvOf us) (os1.map Slot.pin) (us.map some) (.own r) v F' H' A' B
/-- the list that comes back was not there -/
theorem fresh_ok (g : GFn P w K mg base (L2.CX P w) k f fd ps (spD K mg 2 G)) : GFn P w K mg base (L2.CX P w) k f fd ps (spD K mg 2 (freshG G)) := by
  have main : ∀ us H Q E, spD K mg 2 (freshG G) us H Q E → ∃ Q', spD K mg 2 G us H Q' E ∧ (∀ (A : Around) (out : List Env) (s : Shared) (as : Args) (ws : List Value), Room k A → A.guards = some [] → Env0 P w K mg base A out s H →
    BindsTo s fd as (ps.zip ws) → Vals us ws → codeAny (model P w) A (.call (.ref f) as) (CR (L2.CX P w) out P w H s Q E) s) := by
    rintro us H Q E ⟨hl, os, F, A0, w0, q⟩
    generalize hf : freshG G os = res at q
    unfold freshG at hf
    split at hf
    · rename_i rl ro
      split at hf
      · rename_i hc
        obtain ⟨hrl, hro⟩ := hc
        have hrn : D.noLs rl = true := by simp only [ruleLike, Bool.and_eq_true] at hrl; exact hrl.1.2
        split at hf
        · rename_i ds da db ds2 o2 ro2 eA eB
          split at hf
          · rename_i hi
            subst hf
            have spA : spD K mg 2 G us H (QAll K us [.val da, .val db] (.val (.lst ds)) F H A0) E := ⟨hl, _, F, A0, w0, by rw [eA]; exact fun v F' H' A' B st rs => ⟨F', A', B, st, rs⟩⟩
            refine ⟨_, spA, fun A out s as ws hr hg he hb hv => ?_⟩
            have factA := g.go A out s H as ws us _ E hr hg he hb hv spA
            -- the parts
            obtain ⟨x, y, rfl⟩ : ∃ x y, us = [x, y] := by
              match us, hl with
              | [x, y], _ => exact ⟨x, y, rfl⟩
            have s0 := w0.slot 0
            have s1 := w0.slot 1
            simp only [List.map_cons, List.map_nil, List.getElem?_cons_zero, List.getElem?_cons_succ, Option.getD_some] at s0 s1
            obtain ⟨x', hx1, hx2, ox⟩ := s0
            obtain ⟨y', hy1, hy2, oy⟩ := s1
            cases hx1; cases hy1
            simp only [Own] at ox oy
            have A00 := ox.1
            have A01 := oy.1
            have A0n : ∀ i, A0 i = [] := fun i => by
              match i with
              | 0 => exact A00
              | 1 => exact A01
              | i + 2 => exact w0.slot (i + 2)
            have rx := ox.2
            have ry := oy.2
            simp only [Rep] at rx ry
            obtain ⟨R0, vs0, rfl, f0, r0⟩ := rx
            obtain ⟨R1, vs1, rfl, f1, r1⟩ := ry
            have cut : ∀ a o, F a = some o → (∀ vs, o ≠ .lst vs) → oneL F R0 a = some o := fun a o h n => oneL_keep h n
            have g0 := oneL_at f0
            have q0 := Reps.cutF cut rl hrn r0
            have q1 := Reps.cutF cut ro hro r1
            have smF : Same (oneL F R0) H := oneL_sub.trans w0.sub
            have tbF : TbsOk (oneL F R0) H := ⟨w0.tbs.1, fun p hp => by
              cases h : oneL F R0 p.1 with
              | none => rfl
              | some o => have := oneL_sub _ _ h; rw [w0.tbs.2 p hp] at this; cases this⟩
            -- what the other promise tells: l was not there, or is the rule's list
            have factB : ∃ Q', (∀ l H', Q' (.ref l) H' → H l = none ∨ l = R0) ∧ codeAny (model P w) A (.call (.ref f) as) (CR (L2.CX P w) out P w H s Q' E) s := by
              by_cases h01 : R1 = R0
              · have wB : WS K (pvOf [.ref R0, .ref R1]) ([O.val (.lst rl), O.val (.lst ro)].map Slot.pin) ([V.ref R0, V.ref R1].map some) (oneL F R0) H (fun _ => []) := by
                  refine ⟨rfl, fun i => ?_, fun i => List.nodup_nil, (fun i j a hi => nomatch hi), (fun i a ha => nomatch ha), smF, tbF⟩
                  match i with
                  | 0 => exact ⟨_, rfl, rfl, rfl, R0, vs0, rfl, g0, q0⟩
                  | 1 => exact ⟨_, rfl, rfl, rfl, R1, vs1, rfl, by rw [h01] at f1 ⊢; exact oneL_at f1, q1⟩
                  | i + 2 => rfl
                have spB : spD K mg 2 G [.ref R0, .ref R1] H (QAll K [.ref R0, .ref R1] [.val da, .val db] (.val (.lst ds)) (oneL F R0) H (fun _ => [])) E := ⟨rfl, _, oneL F R0, _, wB, by rw [eA]; exact fun v F' H' A' B st rs => ⟨F', A', B, st, rs⟩⟩
                refine ⟨_, fun l H' hq => ?_, g.go A out s H as ws _ _ E hr hg he hb hv spB⟩
                obtain ⟨F', A', B, st, rs⟩ := hq
                have rr : Own K F' H' (.val (.lst ds)) (.ref l) B := rs.rr
                simp only [Own, Rep] at rr
                obtain ⟨_, l', vs2, e1, f2, _⟩ := rr
                cases e1
                rcases st.new l (by rw [f2]; simp) with z | z | ⟨i, hi⟩
                · cases h : oneL F R0 l with
                  | none => exact absurd h z
                  | some o =>
                    have z2 := st.fz _ _ h
                    rw [f2] at z2; cases z2
                    exact .inr (oneL_lst h)
                · exact .inl z
                · cases hi
              · let A1 : Nat → List Addr := fun i => if i = 1 then [R1] else []
                have wB : WS K (pvOf [.ref R0, .ref R1]) ([O.val (.lst rl), O.lst ro].map Slot.pin) ([V.ref R0, V.ref R1].map some) (oneL F R0) H A1 := by
                  refine ⟨rfl, fun i => ?_, fun i => ?_, fun i j a hi hj => ?_, fun i a ha => ?_, smF, tbF⟩
                  · match i with
                    | 0 => exact ⟨_, rfl, rfl, rfl, R0, vs0, rfl, g0, q0⟩
                    | 1 => exact ⟨_, rfl, rfl, R1, vs1, rfl, rfl, w0.sub _ _ f1, q1⟩
                    | i + 2 => rfl
                  · show (if i = 1 then [R1] else []).Nodup
                    split <;> simp
                  · have hi : a ∈ (if i = 1 then [R1] else []) := hi
                    have hj : a ∈ (if j = 1 then [R1] else []) := hj
                    split at hi
                    · split at hj
                      · omega
                      · cases hj
                    · cases hi
                  · have ha : a ∈ (if i = 1 then [R1] else []) := ha
                    split at ha
                    · rw [List.mem_singleton] at ha
                      subst ha
                      cases h : oneL F R0 a with
                      | none => rfl
                      | some o =>
                        have z := oneL_sub _ _ h
                        rw [f1] at z; cases z
                        exact absurd (oneL_lst h) h01
                    · cases ha
                have spB : spD K mg 2 G [.ref R0, .ref R1] H (QAll K [.ref R0, .ref R1] [o2, .lst ro2] (.val (.lst ds2)) (oneL F R0) H A1) E := ⟨rfl, _, oneL F R0, A1, wB, by rw [eB]; exact fun v F' H' A' B st rs => ⟨F', A', B, st, rs⟩⟩
                refine ⟨_, fun l H' hq => ?_, g.go A out s H as ws _ _ E hr hg he hb hv spB⟩
                obtain ⟨F', A', B, st, rs⟩ := hq
                have rr : Own K F' H' (.val (.lst ds2)) (.ref l) B := rs.rr
                simp only [Own, Rep] at rr
                obtain ⟨_, l', vs2, e1, f2, _⟩ := rr
                cases e1
                rcases st.new l (by rw [f2]; simp) with z | z | ⟨i, hi⟩
                · cases h : oneL F R0 l with
                  | none => exact absurd h z
                  | some o =>
                    have z2 := st.fz _ _ h
                    rw [f2] at z2; cases z2
                    exact .inr (oneL_lst h)
                · exact .inl z
                · have hi : l ∈ (if i = 1 then [R1] else []) := hi
                  split at hi
                  · rw [List.mem_singleton] at hi
                    subst hi
                    have hs := rs.ws.slot 1
                    simp only [List.map_cons, List.map_nil, List.getElem?_cons_zero, List.getElem?_cons_succ, Option.getD_some] at hs
                    obtain ⟨u, hu1, _, ou⟩ := hs
                    cases hu1
                    simp only [Own] at ou
                    obtain ⟨a, vs3, ea, eb, _⟩ := ou
                    cases ea
                    have := rs.ws.dis 1 l (by rw [eb]; exact List.mem_singleton.mpr rfl)
                    rw [f2] at this; cases this
                  · cases hi
            obtain ⟨QB, hQB, factB⟩ := factB
            refine codeAny_mono (code_all true (R := fun b => if b = true then CR (L2.CX P w) out P w H s (QAll K [.ref R0, .ref R1] [.val da, .val db] (.val (.lst ds)) F H A0) E else CR (L2.CX P w) out P w H s QB E) (fun b => by cases b; exact factB; exact factA)) ?_
            intro r s' hh
            have hA : CR (L2.CX P w) out P w H s (QAll K [.ref R0, .ref R1] [.val da, .val db] (.val (.lst ds)) F H A0) E r s' := hh true
            have hB : CR (L2.CX P w) out P w H s QB E r s' := hh false
            cases r with
            | error e => exact hA
            | ok fl =>
              cases fl with
              | ret u =>
                obtain ⟨v, H1, a1, a2, a3, a4, rel, F', A', B, st, rs⟩ := hA
                obtain ⟨v2, H2, _, _, _, _, rel2, qB⟩ := hB
                have rr : Own K F' H1 (.val (.lst ds)) v B := rs.rr
                simp only [Own, Rep] at rr
                obtain ⟨hB0, l, vs, rfl, fl, rl2⟩ := rr
                have hu : u = .ref l := rel
                subst hu
                have hv2 : v2 = .ref l := by
                  cases v2 with
                  | ref a => have z : Value.ref l = Value.ref a := rel2; cases z; rfl
                  | int i => obtain ⟨t, z⟩ := rel2; cases z
                  | str i => obtain ⟨t, z⟩ := rel2; cases z
                  | byt i => obtain ⟨t, z⟩ := rel2; cases z
                  | flt i => obtain ⟨t, z⟩ := rel2; cases z
                  | non => have z : Value.ref l = Value.none := rel2; cases z
                  | bl b => have z : Value.ref l = Value.bool b := rel2; cases z
                  | ty b => have z : Value.ref l = Value.type b := rel2; cases z
                subst hv2
                have hn : H l = none := by
                  rcases hQB l H2 qB with z | z
                  · exact z
                  · subst z
                    exfalso
                    have z2 := st.fz _ _ f0
                    rw [fl] at z2; cases z2
                    exact ints_no_rule hi hrl rl2 r0
                have Fl : F l = none := by
                  cases h : F l with
                  | none => rfl
                  | some o => have := w0.sub _ _ h; rw [hn] at this; cases this
                let F2 : Hp := fun a => if a = l then none else F' a
                have sm2 : Same F2 F' := fun a o h => by
                  have h : (if a = l then none else F' a) = some o := h
                  split at h
                  · cases h
                  · exact h
                have smF2 : Same F F2 := fun a o h => by
                  show (if a = l then none else F' a) = some o
                  have : a ≠ l := fun z => by subst z; rw [Fl] at h; cases h
                  rw [if_neg this]
                  exact st.fz _ _ h
                refine ⟨.ref l, H1, a1, a2, a3, a4, rfl, q (.ref l) F2 H1 (fun _ => []) [l] ?_ ?_⟩
                · refine ⟨smF2, st.keep, fun t => ⟨(st.tabs t).1, fun p hp => ?_⟩, fun a ha => st.new a (fun z => ha ?_), st.dom, fun a ha => ?_⟩
                  · cases h : F2 p.1 with
                    | none => rfl
                    | some o => have := sm2 _ _ h; rw [(st.tabs t).2 p hp] at this; cases this
                  · show (if a = l then none else F' a) = none
                    rw [z]; simp
                  · rcases ha with ⟨i, hi⟩ | ha
                    · cases hi
                    · rw [List.mem_singleton.mp ha]; exact .inr hn
                · refine ⟨⟨rfl, fun i => ?_, fun i => List.nodup_nil, (fun i j a hi => nomatch hi), (fun i a ha => nomatch ha), sm2.trans rs.ws.sub, ?_⟩, ?_, by simp, (fun a ha ⟨i, hi⟩ => nomatch hi), fun a ha => ?_⟩
                  · match i with
                    | 0 => exact ⟨_, rfl, rfl, rfl, R0, vs0, rfl, smF2 _ _ f0, Reps.same smF2 rl r0⟩
                    | 1 => exact ⟨_, rfl, rfl, rfl, R1, vs1, rfl, smF2 _ _ f1, Reps.same smF2 ro r1⟩
                    | i + 2 => rfl
                  · refine ⟨rs.ws.tbs.1, fun p hp => ?_⟩
                    cases h : F2 p.1 with
                    | none => rfl
                    | some o => have := sm2 _ _ h; rw [rs.ws.tbs.2 p hp] at this; cases this
                  · exact ⟨l, vs, rfl, rfl, rs.ws.sub _ _ fl, ints_any hi rl2⟩
                  · rw [List.mem_singleton.mp ha]
                    show (if l = l then none else F' l) = none
                    simp
              | _ => exact hA
          · subst hf; exact q.elim
        · rename_i c os1 r2 eA
          subst hf
          exact ⟨Q, ⟨hl, _, F, A0, w0, by rw [eA]; exact q⟩, fun A out s as ws hr hg he hb hv => g.go A out s H as ws us Q E hr hg he hb hv ⟨hl, _, F, A0, w0, by rw [eA]; exact q⟩⟩
        · subst hf; exact q.elim
      · subst hf; exact q.elim
    · subst hf; exact q.elim
  exact ⟨fun us H Q E h => by
    obtain ⟨Q', h1, _⟩ := main us H Q E h
    exact g.ln us H Q' E h1, fun A out s H as ws us Q E hr hg he hb hv h => by
    obtain ⟨Q', _, h2⟩ := main us H Q E h
    exact h2 A out s as ws hr hg he hb hv⟩
theorem GV.fresh {x : Str} {ps : List Str} {g : List O → RF} (G : GV P w K mg base k x ps g) (h : ps.length = 2) : GV P w K mg base k x ps (freshG g) := by
  obtain ⟨f, fd, h1, h2, h3, h5, h4⟩ := G.ex
  rw [h] at h4
  refine ⟨f, fd, h1, h2, h3, h5, ?_⟩
  rw [h]
  exact fresh_ok h4
end
end DL
end
section
set_option maxRecDepth 100000
set_option maxHeartbeats 1000000
namespace DL
open PySem PySem.Spec PyProof.Rows L2
variable [tb : Tb]
/-! ### xs.index(i) -/
section
variable {X : Cx} {pv : Nat → Option V} {W : WX} {f : M R} {fs : M (List R)} {p pos apos : Pos} {e o : Expr} {es : List Expr}
end
/-! ### list(range(a, b, -1)) -/
section
variable {X : Cx} {pv : Nat → Option V} {W : WX} {fs : M (List R)} {a : Expr} {as : List Expr} {p p2 q pos : Pos}
end
end DL
end
section
set_option maxRecDepth 100000
set_option maxHeartbeats 4000000
namespace DL
open PySem PySem.Spec PyProof.Rows L2 LamX
variable [tb : Tb]
/-! ### sorted(xs, key=lambda a: ..), xs a list, data as keys -/
section
variable {X : Cx} {pv : Nat → Option V} {W : WX} {f fb : M R} {i k : Nat} {a x : Str} {P c : Addr} {e : Expr} {params : Arguments} {body : Expr} {scope : Scope} {lpos kpos p pos : Pos}
end
end DL
end
section
set_option maxRecDepth 100000
set_option maxHeartbeats 4000000
namespace DL
open PySem PySem.Spec PyProof.Rows L2 LamX
variable [tb : Tb]
/-! ### a lambda whose parameter is a cell -/
structure LamPC (sc scope : Scope) (a : Str) : Prop where
  kind : scope.kind = .function
  co : scope.isCoroutine = false
  gen : scope.isGenerator = false
  own : ∀ y ∈ scope.names, y.2 ≠ .local ∧ (y.2 = .cell → y.1 = a)
  par : scope.names.lookup a = some .cell
  free : ∀ y ∈ scope.names, y.2 = .free → sc.names.lookup y.1 = some .cell ∨ sc.names.lookup y.1 = some .free
  cf : ∀ (n : Nat) (cl : List (Str × Addr)), cellsFrom n scope.names cl = (a, n) :: cl
  pc : ∀ h : Heap, pushCells h scope.names = h.push { cls := .type "cell", data := .cell none }
theorem LamPC.has {X : Cx} {scope : Scope} {a : Str} (L : LamPC X.env.scope scope a) (ok : X.Ok) : ∀ y ∈ scope.names, y.2 = .free → ∃ c, X.env.cells.lookup y.1 = some c := fun y hy e => by
  rcases L.free y hy e with k | k
  · exact ok.has _ (.inl k)
  · exact ok.has _ (.inr k)
abbrev lamEnvC (X : Cx) (scope : Scope) (a : Str) (L f c' : Addr) : Env := PySem.W.envX (X.env.qual ++ "<lambda>") scope L f (.ref c') ((a, L + 1) :: cloFrom X.env.cells scope.names [])
section
variable {X : Cx} {pins : List (Addr × Obj)} {σ : L2.St} {H : Hp} {s : Shared}
end
end DL
end
section
set_option maxRecDepth 100000
set_option maxHeartbeats 4000000
namespace DL
open PySem PySem.Spec PyProof.Rows L2 LamX
variable [tb : Tb]
section
variable {X : Cx} {pv : Nat → Option V} {W : WX} {f fb : M R} {i k : Nat} {a x : Str} {P c : Addr} {e : Expr} {params : Arguments} {body : Expr} {scope : Scope} {lpos kpos p pos : Pos}
end
end DL
end
section
set_option maxRecDepth 100000
set_option maxHeartbeats 4000000
/-! instances: fields, properties -/
namespace DL
open PySem PySem.Spec PyProof.Rows L2
variable [tb : Tb]
theorem zip_lookup {K : PySem.W.Frag} {F : Hp} {f : Str} {d : D} : ∀ {ns : List Str} {ds : List D} {vs : List V}, Reps K F ds vs → (ns.zip ds).lookup f = some d → ∃ v, (ns.zip vs).lookup f = some v ∧ Rep K F d v
  | [], _, _, _, e => by simp at e
  | n :: ns, [], _, _, e => by simp at e
  | n :: ns, d0 :: ds, _, h, e => by
    simp only [Reps] at h
    obtain ⟨v, r, rfl, h2, h3⟩ := h
    simp only [List.zip_cons_cons, List.lookup_cons] at e ⊢
    cases c : f == n with
    | true =>
      rw [c] at e
      simp only [Option.some.injEq] at e
      subst e
      exact ⟨v, rfl, h2⟩
    | false =>
      rw [c] at e
      exact zip_lookup h3 e
/-! ### x.f -/
section
variable {X : Cx} {pv : Nat → Option V} {W : WX} {f : M R} {e : Expr} {pos : Pos} {fld : Str} {C : Addr}
end
/-! ### x.p, a property -/
section
variable {X : Cx} {k : Nat} {C p g a dx : Addr} {fs : List (Str × V)} {f : Str} {fd : FuncData} {ps : List Str} {sp : Sp} {e : Expr} {pos : Pos} {ta : TE}
end
section
variable {X : Cx} {pv : Nat → Option V} {W : WX} {f : M R} {e : Expr} {pos : Pos} {fld : Str} {C p g : Addr} {k : Nat} {fd : FuncData} {ps : List Str} {gF : List O → RF}
end
end DL
end
section
set_option maxRecDepth 100000
set_option maxHeartbeats 4000000
/-! instances: x.f = e -/
namespace DL
open PySem PySem.Spec PyProof.Rows L2
variable [tb : Tb]
section
variable {K : PySem.W.Frag} {pv : Nat → Option V} {env : DEnv} {σ : L2.St} {F H : Hp} {A : Nat → List Addr} {B B2 : List Addr}
end
/-! ### the fields -/
section
variable {K : PySem.W.Frag} {F H : Hp}
end
section
variable {X : Cx} {pv : Nat → Option V} {W : WX} {i : Nat} {f : M R} {x fld : Str} {C : Addr} {p pos pos' : Pos} {value : Expr}
end
end DL
end
section
set_option maxRecDepth 100000
set_option maxHeartbeats 4000000
/-! instances are made -/
namespace DL
open PySem PySem.Spec PyProof.Rows L2
variable [tb : Tb]
section
variable {K : PySem.W.Frag} {pv : Nat → Option V} {env : DEnv} {σ : L2.St} {F H : Hp} {A : Nat → List Addr} {B : List Addr} {v : V} {o : O}
theorem WS.empty (w : WS K pv env σ F H A) {i : Nat} (h : env.length ≤ i) : A i = [] := by
  have hs := w.slot i
  rw [List.getElem?_eq_none h] at hs
  exact hs
theorem WS.snoc (w : WS K pv env σ F H A) (own : Own K F H o v B) (nd : B.Nodup) (dj : ∀ a ∈ B, ¬ UA A a) (dis : ∀ a ∈ B, F a = none) : WS K pv (env ++ [.own o]) (σ ++ [some v]) F H (upA A env.length B) := by
  have ui : upA A env.length B env.length = B := by unfold upA; rw [if_pos rfl]
  have un : ∀ {j}, j ≠ env.length → upA A env.length B j = A j := fun {j} h => by unfold upA; rw [if_neg h]
  refine ⟨by simp [w.len], fun j => ?_, fun j => ?_, fun j j' b h h' => ?_, fun j b h => ?_, w.sub, w.tbs⟩
  · by_cases hj : j = env.length
    · subst hj
      rw [ui, List.getElem?_append_right (Nat.le_refl _), w.len, List.getElem?_append_right (Nat.le_refl _)]
      simp only [Nat.sub_self, List.getElem?_cons_zero, Option.getD_some]
      exact ⟨v, rfl, own⟩
    · rw [un hj]
      by_cases hl : j < env.length
      · rw [List.getElem?_append_left hl, List.getElem?_append_left (by rw [← w.len]; exact hl)]
        exact w.slot j
      · rw [List.getElem?_eq_none (l := env ++ [Slot.own o]) (by simp; omega)]
        exact w.empty (by omega)
  · by_cases hj : j = env.length
    · subst hj; rw [ui]; exact nd
    · rw [un hj]; exact w.nd j
  · by_cases hj : j = env.length
    · subst hj
      rw [ui] at h
      by_cases hj' : j' = env.length
      · exact hj'.symm
      · rw [un hj'] at h'
        exact absurd ⟨j', h'⟩ (dj b h)
    · rw [un hj] at h
      by_cases hj' : j' = env.length
      · subst hj'
        rw [ui] at h'
        exact absurd ⟨j, h⟩ (dj b h')
      · rw [un hj'] at h'
        exact w.dj _ _ b h h'
  · by_cases hj : j = env.length
    · subst hj
      rw [ui] at h
      exact dis b h
    · rw [un hj] at h
      exact w.dis j b h
theorem RReps.snoc {H' : Hp} {x : Option V} {env2 : DEnv} : ∀ {rs : List R} {vs : List V} {B : List Addr}, RReps K env σ F H rs vs B → (∀ b ∈ B, ∀ u, H b = some u → H' b = some u) → RReps K env2 (σ ++ [x]) F H' rs vs B
  | [], _, _, h, _ => h
  | r :: rs, _, _, h, k => by
    obtain ⟨v, t, B1, B2, rfl, rfl, h1, h2⟩ := h
    refine ⟨v, t, B1, B2, rfl, rfl, ?_, RReps.snoc h2 fun b hb => k b (List.mem_append_right _ hb)⟩
    cases r with
    | val d => exact h1
    | own o => exact Own.stay (Same.refl _) o h1 fun b hb => k b (List.mem_append_left _ hb)
    | bor i =>
      obtain ⟨q1, q2⟩ := h1
      exact ⟨q1, by rw [List.getElem?_append_left (List.getElem?_eq_some_iff.mp q2).1]; exact q2⟩
end
/-! ### the rule below -/
section
variable {X : Cx} {k : Nat} {C f : Addr} {fd : FuncData} {ps : List Str} {sp : Sp} {E : L2.St → XK} {x : Str} {p pos : Pos} {e : Expr} {es : List Expr} {t : TA}
end
/-! ### by data -/
section
variable {K : PySem.W.Frag} {mg : Str → Option Value} {pv : Nat → Option V} {env : DEnv} {σ : L2.St} {F H F0 H0 : Hp} {A A0 : Nat → List Addr} {B : List Addr} {rs : List R} {vs : List V} {ms : List Mode} {g : List O → RF} {Q : VK} {W : WX} {C : Addr}
end
section
variable {X : Cx} {k : Nat} {C f : Addr} {fd : FuncData} {ps : List Str} {x : Str} {p pos : Pos} {e : Expr} {es : List Expr} {pv : Nat → Option V} {W : WX} {g : List O → RF} {fs : M (List R)}
end
end DL
end
section
set_option maxRecDepth 100000
set_option maxHeartbeats 4000000
/-! instances: isinstance, == by an own __eq__ -/
namespace DL
open PySem PySem.Spec PyProof.Rows L2
variable [tb : Tb]
/-- what is asked of an own class -/
structure OwnC (K : PySem.W.Frag) (C : Addr) : Prop where
  ic : C8.InsC K C
  kt : ∀ T ∈ ["NoneType", "bool", "int", "str", "tuple", "list", "dict"], PySem.W.kitOne K (.type T) (.ref C) = some false
  nf : ∀ T ∈ ["NoneType", "bool", "int", "str", "tuple", "list", "dict"], PySem.W.notFirst K C (.type T) = true
  ns : PySem.W.notFirst K C (.ref C) = true
section
variable {K : PySem.W.Frag} {F H : Hp} {C : Addr}
end
/-! ### isinstance(x, C) -/
/-! ### x == y -/
section
variable {X : Cx} {pv : Nat → Option V} {W : WX} {f1 f2 : M R} {a b : Expr} {pos : Pos} {C g : Addr} {k : Nat} {fd : FuncData} {ps : List Str} {gF : List O → RF}
end
end DL
end
section
set_option maxRecDepth 100000
set_option maxHeartbeats 4000000
/-! methods of own classes, by their names -/
namespace DL
open PySem PySem.Spec PyProof.Rows L2
variable [tb : Tb]
/-- where the classes stand -/
class Cl where
  C : Str → Addr
structure DefM (K : PySem.W.Frag) (Pr : Addr → Prop) (nm qual : Str) (st : Stmt) (ps : List Str) : Prop where
  ex : ∃ f fd, L2.Fun K nm qual st f fd ∧ BA fd ps ∧ Pr f
structure GM (P : Program) (w : World) (K : PySem.W.Frag) (mg : Str → Option Value) (base : Heap) (k : Nat) (Pr : Addr → Prop) (ps : List Str) (g : List O → RF) : Prop where
  ex : ∃ f fd, Pr f ∧ BA fd ps ∧ GFn P w K mg base (L2.CX P w) k f fd ps (spD K mg ps.length g)
theorem GM.up {P : Program} {w : World} {K : PySem.W.Frag} {mg : Str → Option Value} {base : Heap} {j k : Nat} {Pr : Addr → Prop} {ps : List Str} {g : List O → RF} (G : GM P w K mg base j Pr ps g) (h : j ≤ k) : GM P w K mg base k Pr ps g :=
  let ⟨f, fd, h1, h2, h3⟩ := G.ex
  ⟨f, fd, h1, h2, h3.up h⟩
def PMeth (K : PySem.W.Frag) (C : Addr) (m : Str) : Addr → Prop := fun f => Meth K C m f
section
variable {X : Cx} {pv : Nat → Option V} {W : WX} {k : Nat} {x fld : Str} {ps : List Str} {g : List O → RF} {ms : List Mode} {fs : M (List R)} {e : Expr} {es : List Expr} {p pos : Pos} {f f1 f2 : M R} {C : Addr} {a b : Expr}
end
section
variable {K : PySem.W.Frag} {nm qual : Str} {st : Stmt} {ps : List Str} {f : Addr} {oc : Value} {od an : Option Addr} {osl : Array (Option Value)} {kV doc pm cdv ct : Value} {Pr : Addr → Prop}
end
end DL
end
section
set_option maxRecDepth 100000
set_option maxHeartbeats 4000000
/-! a tuple once; repr(None); a walk with indexes over a tuple -/
namespace DL
open PySem PySem.Spec PyProof.Rows L2
variable [tb : Tb]
/-! ### repr(None) -/
end DL
end
section
set_option maxRecDepth 100000
set_option maxHeartbeats 4000000
/-! enumerate over a tuple -/
namespace DL
open PySem PySem.Spec PyProof.Rows L2
variable [tb : Tb]
/-! ### by data -/
end DL
end
section
set_option maxRecDepth 100000
set_option maxHeartbeats 4000000
/-! zip(xs, ys, strict=True) over two tuples of one length -/
namespace PySem
namespace ZT
open Sem (wp)
open F ZS
section
variable {prog : Program} {w : World} {A : Around} {E : Value → Shared → Prop} {s : Shared}
end
abbrev zpT1 (h : Heap) (a : Addr) : Heap := h.push { cls := .type "tuple_iterator", data := .fields #[.ref a, .int 0 0] }
abbrev zpT2 (h : Heap) (a b : Addr) : Heap := (zpT1 h a).push { cls := .type "tuple_iterator", data := .fields #[.ref b, .int 0 0] }
abbrev zpT3 (h : Heap) (a b : Addr) : Heap := (zpT2 h a b).push { cls := .type "tuple", data := .seq #[.ref h.objs.size, .ref (zpT1 h a).objs.size] }
abbrev zpT4 (h : Heap) (a b : Addr) : Heap := (zpT3 h a b).push { cls := .type "tuple", data := .seq #[.none, .none] }
section
variable {prog : Program} {w : World} {A : Around} {E : Value → Shared → Prop} {s : Shared}
end
end ZT
end PySem
namespace PySem
namespace ZT
open Sem (wp)
open ZS
section
variable {prog : Program} {w : World} {A : Around} {E : Value → Shared → Prop} {s : Shared}
end
end ZT
end PySem
namespace L2
open PySem PySem.Spec PyProof.Rows PySem.ZS PySem.ZT
end L2
namespace L2
open PySem PySem.Spec PyProof.Rows PySem.ZS PySem.ZT
end L2
namespace DL
open PySem PySem.Spec PyProof.Rows L2
variable [tb : Tb]
end DL
end
section
set_option maxRecDepth 100000
set_option maxHeartbeats 4000000
/-! xs.clear(); append on a list that nobody holds -/
namespace DL
open PySem PySem.Spec PyProof.Rows L2
variable [tb : Tb]
section
variable {X : Cx} {pv : Nat → Option V} {W : WX} {i j2 : Nat} {f : M R} {o : Expr} {x : Str} {p p4 pos apos : Pos}
end
end DL
end
section
set_option maxRecDepth 100000
set_option maxHeartbeats 4000000
/-! list(zip(a, b, strict=True)), a and b tuples of one length: the draws -/
namespace PySem
namespace ZT
open Sem (wp)
open F ZS
/-- a zip whose first tuple T is still held by someone -/
abbrev Zh (h : Heap) (z ti to T : Addr) (f : Bool) : Prop := h.get? z = some { cls := .type "zip", dict := none, data := .fields #[rawInt T, .bool f, .bool true, .ref ti, .ref to], slots := #[] }
section
variable {prog : Program} {w : World} {A : Around} {E : Value → Shared → Prop} {s : Shared}
end
end ZT
end PySem
end
section
set_option maxRecDepth 100000
set_option maxHeartbeats 4000000
/-! list(zip(a, b, strict=True)): the loop -/
namespace PySem
namespace ZT
open Sem (wp)
open F ZS
def Zst (h : Heap) (z ti to : Addr) (av : List Addr) : Prop := (Zo h z ti to .none ∧ ∃ a b, IsPair h to a b) ∨ ∃ T f ob, Zh h z ti to T f ∧ h.get? T = some ob ∧ T ∉ av
theorem Zst.keep {h g : Heap} {z ti to : Addr} {av : List Addr} (hz : z ∈ av) (st : Zst h z ti to av) (k : ∀ b o, (b = z ∨ b = to ∨ b ∉ av) → h.get? b = some o → g.get? b = some o) : Zst g z ti to av := by
  rcases st with ⟨a, x, y, b⟩ | ⟨T, f, ob, a, b, c⟩
  · exact .inl ⟨k z _ (.inl rfl) a, x, y, k to _ (.inr (.inl rfl)) b⟩
  · exact .inr ⟨T, f, ob, k z _ (.inl rfl) a, k T _ (.inr (.inr c)) b, c⟩
section
variable {prog : Program} {w : World} {A : Around} {E : Value → Shared → Prop} {s : Shared}
/-- what has been drawn: new pairs, one behind the other -/
structure Got (h : Heap) (N : Nat) (av : List Addr) (xs ys : List Value) (Ts : List Addr) : Prop where
  pr : ∀ (j : Nat) (T : Addr) (x y : Value), Ts[j]? = some T → xs[j]? = some x → ys[j]? = some y → IsPair h T x y
  nw : ∀ T ∈ Ts, N ≤ T ∧ T ∉ av
  up : Ts.Pairwise fun a b => a < b
theorem Got.keep {h g : Heap} {N : Nat} {av : List Addr} {xs ys : List Value} {Ts : List Addr} (G : Got h N av xs ys Ts) (lx : Ts.length ≤ xs.length) (k : ∀ b o, b ∉ av → h.get? b = some o → g.get? b = some o) : Got g N av xs ys Ts :=
  ⟨fun j T x y e1 e2 e3 => k T _ (G.nw T (List.mem_of_getElem? e1)).2 (G.pr j T x y e1 e2 e3), G.nw, G.up⟩
end
section
variable {prog : Program} {w : World} {A : Around} {R : Result → Shared → Prop}
end
end ZT
end PySem
end
section
set_option maxRecDepth 100000
set_option maxHeartbeats 4000000
/-! list(zip(a, b, strict=True)): the list -/
namespace PySem
namespace ZT
open Sem (wp)
open F ZS
section
variable {prog : Program} {w : World} {A : Around} {E : Value → Shared → Prop} {s : Shared}
end
end ZT
end PySem
end
section
set_option maxRecDepth 100000
set_option maxHeartbeats 4000000
/-! list(zip(a, b, strict=True)) as a value -/
namespace L2
open PySem PySem.Spec PyProof.Rows PySem.ZS PySem.ZT
end L2
end
section
set_option maxRecDepth 100000
set_option maxHeartbeats 4000000
/-! list(zip(a, b, strict=True)), by data -/
namespace DL
open PySem PySem.Spec PyProof.Rows L2
variable [tb : Tb]
section
variable {K : PySem.W.Frag} {F H F1 H1 : Hp}
end
end DL
end
section
set_option maxRecDepth 100000
set_option maxHeartbeats 4000000
/-! x == y by an own __eq__, as a test -/
namespace DL
open PySem PySem.Spec PyProof.Rows L2
variable [tb : Tb]
end DL
end
section
set_option maxRecDepth 100000
set_option maxHeartbeats 1000000
namespace DL
open PySem PySem.Spec PyProof.Rows L2
variable [tb : Tb]
/-! ### starred parts of a display: lists and tuples -/
section
variable {X : Cx} {pv : Nat → Option V} {W : WX} {f : M R} {fs : M (List R)} {e : Expr} {es : List Expr} {p : Pos}
end
end DL
end
section
set_option maxRecDepth 100000
set_option maxHeartbeats 1000000
namespace DL
open PySem PySem.Spec PyProof.Rows L2
variable [tb : Tb]
/-! ### a new thing, taken as data from here on -/
section
variable {X : Cx} {pv : Nat → Option V} {W : WX} {f : M R} {e : Expr}
end
end DL
end
section
set_option maxRecDepth 100000
set_option maxHeartbeats 1000000
namespace DL
open PySem PySem.Spec PyProof.Rows L2
variable [tb : Tb]
/-! ### the facts of own classes, for the end of a law -/
section
variable {K : PySem.W.Frag} {h : Heap} {mg : Str → Option Value} {x fld nm qual : Str} {st : Stmt} {ps : List Str} {C f p : Addr} {oc : Value} {od an : Option Addr} {osl : Array (Option Value)} {kV doc pm cdv ct : Value} {rest : List Value}
end
end DL
end
section
set_option maxRecDepth 100000
set_option maxHeartbeats 1000000
namespace DL
open PySem PySem.Spec PyProof.Rows L2
variable [tb : Tb]
/-! ### defs that call themselves: by fuel -/
end DL
end
section
set_option maxRecDepth 100000
set_option maxHeartbeats 1000000
namespace DL
open PySem PySem.Spec PyProof.Rows L2
variable [tb : Tb]
/-! ### dicts of one's own whose keys are tuples -/
section
variable {K : PySem.W.Frag} {F H : Hp}
end
section
variable {K : PySem.W.Frag} {mg : Str → Option Value} {pv : Nat → Option V} {W : WX} {σ : L2.St} {H : Hp} {Q : VK} {i : Nat} {fk fe : M R}
end
section
variable {X : Cx} {pv : Nat → Option V} {W : WX} {i : Nat} {fk fe : M R} {x : Str} {p pos tpos : Pos} {e k : Expr}
end
end DL
end
section
set_option maxRecDepth 100000
set_option maxHeartbeats 1000000
namespace DL
open PySem PySem.Spec PyProof.Rows L2
variable [tb : Tb]
/-! ### a new thing handed to a def that changes it: it is the last argument, and is forgotten behind the call -/
section
variable {K : PySem.W.Frag} {mg : Str → Option Value} {pv : Nat → Option V} {env : DEnv} {σ : L2.St} {F H F0 H0 : Hp} {A A0 : Nat → List Addr} {B : List Addr} {rs : List R} {vs : List V} {ms : List Mode} {g : List O → RF} {Q : VK} {W : WX}
theorem RReps.last {r : R} : ∀ {rs : List R} {vs : List V} {B : List Addr}, RReps K env σ F H (rs ++ [r]) vs B → ∃ us v B1 B2, vs = us ++ [v] ∧ B = B1 ++ B2 ∧ RReps K env σ F H rs us B1 ∧ RRep K env σ F H r v B2
  | [], _, _, h => by
    obtain ⟨v, t, B1, B2, rfl, rfl, h1, rfl, rfl⟩ := h
    exact ⟨[], v, [], B1, rfl, by simp, ⟨rfl, rfl⟩, h1⟩
  | p :: rs, _, _, h => by
    obtain ⟨v, t, B1, B2, rfl, rfl, h1, h2⟩ := h
    obtain ⟨us, w, C1, C2, rfl, rfl, h3, h4⟩ := RReps.last h2
    exact ⟨v :: us, w, B1 ++ C1, C2, rfl, by simp, ⟨v, us, B1, C1, rfl, rfl, h1, h3⟩, h4⟩
theorem RReps.join {r : R} {v : V} {B2 : List Addr} (h4 : RRep K env σ F H r v B2) : ∀ {rs : List R} {us : List V} {B1 : List Addr}, RReps K env σ F H rs us B1 → RReps K env σ F H (rs ++ [r]) (us ++ [v]) (B1 ++ B2)
  | [], _, _, h => by
    obtain ⟨rfl, rfl⟩ := h
    exact ⟨v, [], B2, [], rfl, by simp, h4, rfl, rfl⟩
  | p :: rs, _, _, h => by
    obtain ⟨w, t, C1, C2, rfl, rfl, h1, h2⟩ := h
    refine ⟨w, _, C1, C2 ++ B2, rfl, by simp, h1, RReps.join h4 h2⟩
end
section
variable {X : Cx} {k : Nat} {ps : List Str} {x : Str} {p pos : Pos} {e : Expr} {es : List Expr} {pv : Nat → Option V} {W : WX} {g : List O → RF} {fs : M (List R)} {ms : List Mode}
end
end DL
end
section
set_option maxRecDepth 100000
set_option maxHeartbeats 1000000
namespace DL
open PySem PySem.Spec PyProof.Rows L2
variable [tb : Tb]
/-! ### a fresh list of ints, told from a list of tuples and a number -/
section
variable {P : Program} {w : World} {K : PySem.W.Frag} {mg : Str → Option Value} {base : Heap} {f : Addr} {fd : FuncData} {ps : List Str} {k : Nat} {G : List O → RF}
end
end DL
end
section
set_option maxRecDepth 100000
set_option maxHeartbeats 1000000
namespace DL
open PySem PySem.Spec PyProof.Rows L2
variable [tb : Tb]
/-! ### short ways for data -/
section
variable {g : List O → RF} {ms : List Mode} {fs : M (List R)} {E E2 : DEnv} {rs : List R} {ds : List D} {o : O} {os : List O} {c : Exc} {f : M R} {r : R} {d : D}
end
end DL
end
section
set_option maxRecDepth 100000
set_option maxHeartbeats 4000000
namespace DL
open PySem PySem.Spec PyProof.Rows L2
/-! ### try: body / except x as n: suite, and the statements behind, which may look at the caught object still -/
section
variable {X : Cx} {x n : Str} {c : Value} {i : Nat} {body suite rest : List Stmt} {b₀ : Stmt} {np pos pos' : Pos} {tb : WX → TS} {ts tr : Addr → Value → Option Addr → TS} {t0 : TS} {Wout : WX}
end
end DL
end
section
set_option maxRecDepth 100000
set_option maxHeartbeats 4000000
namespace DL
open PySem PySem.Spec PyProof.Rows L2 LamX
variable [tb : Tb]
/-! ### isinstance of a caught object that is pinned -/
/-- y names the class cv; of the classes told, whether their instances are cv's -/
inductive NamesC (mg : Str → Option Value) (y : Str) : V → Value → Prop where
  | own {C : Addr} (h : mg y = some (.ref C)) : NamesC mg y (.ref C) (.ref C)
  | blt {n : String} (h : mg y = none) (hv : bootBuiltins y = some (.type n)) (hn : y ≠ "__name__") : NamesC mg y (.ty n) (.type n)
section
variable {X : Cx} {pv : Nat → Option V} {W : WX} {j : Nat} {a C : Addr} {oe : Obj} {x y z : Str} {e : Exc} {hs : List (Exc × Bool)} {p1 p2 p3 p4 : Pos}
end
end DL
end
section
set_option maxRecDepth 100000
set_option maxHeartbeats 4000000
namespace DL
open PySem PySem.Spec PyProof.Rows L2 LamX
variable [tb : Tb]
/-! ### y = None; try: a() / except h as e: y = e; rest -/
def env0 (n j : Nat) (d : D) : DEnv := (List.replicate n Slot.un).set j (.own (.val d))
def envX (n j : Nat) (a : Addr) : DEnv := (List.replicate n Slot.un).set j (.pin (.val (.ref a)))
section
variable {X : Cx}
abbrev wZ (X : Cx) (Ng : List Str) (x : Str) (sg : Scope) (g : Addr) (cdg : Value) (s : Shared) (H : Hp) : Cx := (cxOf C8.CX0 X.prog X.w X.K X.mg X.base Ng x sg g cdg X.A X.stack s H C8.E0).nox
end
end DL
end
section
set_option maxRecDepth 100000
set_option maxHeartbeats 4000000
namespace DL
open PySem PySem.Spec PyProof.Rows L2 LamX
variable [tb : Tb]
/-- a stranger's work, which owns nothing of ours -/
theorem WS.over {K : PySem.W.Frag} {pv : Nat → Option V} {env : DEnv} {σ : L2.St} {F H F2 H2 : Hp} {A : Nat → List Addr} {P P2 : Addr → Prop} (w : WS K pv env σ F H A) (s : Step F H P F2 H2 P2) (hP : ∀ a, ¬ P a) (sub : Same F2 H2) :
    WS K pv env σ F2 H2 A ∧ Step F H (UA A) F2 H2 (UA A) := by
  refine ⟨w.stay s.fz sub (fun b hb u hu => s.keep b u hu (Nd.noTb (by rw [← hu]; exact w.ndU hb)) (hP b)) (fun b hb => ?_) s.tabs, ?_⟩
  · apply Classical.byContradiction
    intro z
    rcases s.new b z with h | h | h
    · exact h (w.disU hb)
    · exact w.there hb h
    · exact hP b h
  · exact ((s.frame (UA A)).more fun x hx => hx.elim (fun z => (hP x z).elim) id).less fun x hx => .inr hx
section
variable {X : Cx} {pv : Nat → Option V} {W : WX} {fb : M R} {hs : List (Exc × Bool)} {w : Option Exc → Option D} {n j : Nat} {r0 : M Flow} {rx : Exc → M Flow}
end
end DL
end
section
set_option maxRecDepth 100000
set_option maxHeartbeats 4000000
namespace DL
open PySem PySem.Spec PyProof.Rows L2
variable [tb : Tb]
/-! ### xs.count(b), xs.index(b) of truths -/
section
variable {X : Cx} {pv : Nat → Option V} {W : WX} {f : M R} {fs : M (List R)} {p pos apos : Pos} {e o : Expr} {es : List Expr}
end
/-! ### the end's facts about isinstance -/
end DL
end
section
set_option maxRecDepth 100000
set_option maxHeartbeats 4000000
/-! xs.pop() -/
namespace DL
open PySem PySem.Spec PyProof.Rows L2
variable [tb : Tb]
section
variable {X : Cx} {pv : Nat → Option V} {W : WX} {i : Nat} {x : Str} {p pos apos : Pos}
end
end DL
end
section
set_option maxRecDepth 100000
set_option maxHeartbeats 4000000
/-! {k: v} with a tuple for its key -/
namespace DL
open PySem PySem.Spec PyProof.Rows L2
variable [tb : Tb]
section
variable {X : Cx} {pos : Pos} {k v : Expr} {tk tv : TE}
end
section
variable {K : PySem.W.Frag} {mg : Str → Option Value} {pv : Nat → Option V} {W : WX} {σ : L2.St} {H : Hp} {Q : VK} {fk fe : M R}
end
section
variable {X : Cx} {pv : Nat → Option V} {W : WX} {k e : Expr} {pos : Pos} {fk fe : M R}
end
end DL
end
section
set_option maxRecDepth 100000
set_option maxHeartbeats 4000000
/-! a variable's own list is frozen where it is handed on -/
namespace DL
open PySem PySem.Spec PyProof.Rows L2
variable [tb : Tb]
section
variable {X : Cx} {pv : Nat → Option V} {W : WX} {i : Nat} {x : Str} {pos : Pos}
end
end DL
end
section
set_option maxRecDepth 100000
set_option maxHeartbeats 1000000
/-! own trees read as if they were frozen -/
namespace DL
open PySem PySem.Spec PyProof.Rows L2
variable [tb : Tb]
section
variable {K : PySem.W.Frag} {pv : Nat → Option V} {env : DEnv} {σ : L2.St} {F H F' H' : Hp} {A A' : Nat → List Addr} {B : List Addr} {is : List Nat}
end
section
variable {K : PySem.W.Frag} {mg : Str → Option Value} {pv : Nat → Option V} {W : WX} {is : List Nat} {σ : L2.St} {H : Hp}
end
section
variable {X : Cx} {pv : Nat → Option V} {W : WX} {e : Expr} (is : List Nat)
end
end DL
end
section
set_option maxRecDepth 100000
set_option maxHeartbeats 1000000
/-! methods of own classes: o.m(..) -/
namespace DL
open PySem PySem.Spec PyProof.Rows L2
variable [tb : Tb]
section
variable {X : Cx} {k : Nat} {C f : Addr} {fd : FuncData} {ps : List Str} {sp : Sp} {E : L2.St → XK} {m : Str} {apos pos : Pos} {o e : Expr} {es : List Expr} {ta : TE} {t : TA}
end
section
variable {K : PySem.W.Frag} {mg : Str → Option Value} {pv : Nat → Option V} {W : WX} {env : DEnv} {σ : L2.St} {F H : Hp} {A : Nat → List Addr} {B : List Addr} {C : Addr} {m : Str}
end
section
variable {X : Cx} {pv : Nat → Option V} {W : WX} {k : Nat} {C : Addr} {m : Str} {ps : List Str} {g : List O → RF} {fi : M R} {fs : M (List R)} {o e : Expr} {es : List Expr} {apos pos : Pos} {pl : Sem Bool}
end
end DL
end
section
set_option maxRecDepth 100000
set_option maxHeartbeats 1000000
/-! a child of an own tree: told, taken out, put back -/
namespace DL
open PySem PySem.Spec PyProof.Rows L2
variable [tb : Tb]
/-- what the object at a says of its child c -/
def ChRd (H : Hp) (a : Addr) (c : Nat) (vc : V) : O → Prop
  | .lo os => ∃ vs, H a = some (.lst vs) ∧ vs[c]? = some vc ∧ vs.length = os.length
  | .to os => ∃ vs, H a = some (.tup vs) ∧ vs[c]? = some vc ∧ vs.length = os.length
  | .ins C ns os => ∃ dx vs, H a = some (.ins C dx (ns.zip vs)) ∧ vs[c]? = some vc ∧ vs.length = ns.length ∧ ns.length = os.length
  | _ => False
section
variable {K : PySem.W.Frag} {F H F' H' : Hp}
end
/-! ### expressions that tell a child: x.f, x[k] -/
structure Pth (X : Cx) (e : Expr) (i : Nat) (sel : DEnv → O → Option Nat) : Prop where
  ex : ∃ t : TE, PE X e t ∧ ∀ (pv : Nat → Option V) (env : DEnv) (σ : L2.St) (F H : Hp) (A : Nat → List Addr) (o : O) (a : Addr) (c : Nat) (vc : V) (Q : VK),
    WS X.K pv env σ F H A → σ[i]? = some (some (.ref a)) → ChRd H a c vc o → sel env o = some c → Q vc H → t σ H Q
end DL
end
section
set_option maxRecDepth 100000
set_option maxHeartbeats 1000000
/-! a child of an own tree lent to a call: f(.., x.f, ..), x.f.m(..), f(.., xs[k], ..) -/
namespace DL
open PySem PySem.Spec PyProof.Rows L2
variable [tb : Tb]
section
variable {K : PySem.W.Frag} {mg : Str → Option Value} {pv : Nat → Option V} {W : WX} {env env2 : DEnv} {σ : L2.St} {F H F' H' : Hp} {A A' : Nat → List Addr} {B : List Addr} {rs : List R} {vs : List V} {P' : Addr → Prop}
theorem WS.kind (ws : WS K pv env σ F H A) {i : Nat} {o : O} {v : V} (e : env[i]?.bind Slot.o = some o) (hv : σ[i]? = some (some v)) : (∃ o0, (env[i]?.getD .un) = .own o0) ∨ ((∃ o0, (env[i]?.getD .un) = .pin o0) ∧ pv i = some v) := by
  have hs := ws.slot i
  cases es : env[i]? with
  | none => rw [es] at e; simp at e
  | some s =>
    rw [es, hv] at hs
    rw [es] at e
    simp only [Option.getD_some] at hs ⊢
    cases s with
    | un => simp [Slot.o] at e
    | own o0 => exact .inl ⟨o0, rfl⟩
    | pin o0 =>
      obtain ⟨u, e1, e2, _⟩ := hs
      cases e1
      exact .inr ⟨⟨o0, rfl⟩, e2⟩
end
section
variable {K : PySem.W.Frag} {mg : Str → Option Value} {pv : Nat → Option V} {W : WX}
end
section
variable {X : Cx} {pv : Nat → Option V} {W : WX} {k : Nat} {C : Addr} {m x : Str} {ps : List Str} {g : List O → RF} {i : Nat} {sel : DEnv → O → Option Nat} {pre post : M (List R)} {o e : Expr} {es : List Expr} {p apos pos : Pos} {pl : Sem Bool}
end
end DL
end
section
set_option maxRecDepth 100000
set_option maxHeartbeats 1000000
/-! a list or dict that is a child of an own tree: x.f.append(e), x.f.pop(), x.f[k] = e -/
namespace DL
open PySem PySem.Spec PyProof.Rows L2
variable [tb : Tb]
section
variable {K : PySem.W.Frag} {mg : Str → Option Value} {pv : Nat → Option V} {W : WX} {env e1 : DEnv} {σ : L2.St} {F H F1 H1 : Hp} {A A1 : Nat → List Addr} {i : Nat}
end
section
variable {K : PySem.W.Frag} {mg : Str → Option Value} {pv : Nat → Option V} {W : WX} {i : Nat} {sel : DEnv → O → Option Nat} {σ : L2.St} {H : Hp} {Q : VK}
end
section
variable {K : PySem.W.Frag} {mg : Str → Option Value} {pv : Nat → Option V} {W : WX} {i : Nat} {sel : DEnv → O → Option Nat} {σ : L2.St} {H : Hp} {Q : VK}
end
section
variable {X : Cx} {pv : Nat → Option V} {W : WX} {i : Nat} {sel : DEnv → O → Option Nat} {fs : M (List R)} {o e : Expr} {es : List Expr} {pos apos : Pos}
end
end DL
end
section
set_option maxRecDepth 100000
set_option maxHeartbeats 4000000
/-! list(zip(a, b, strict=True)) of two lists -/
/-! list(zip(a, b, strict=True)), a and b tuples of one length: the draws -/
namespace PySem
namespace ZT
open Sem (wp)
open F ZS
section
variable {prog : Program} {w : World} {A : Around} {E : Value → Shared → Prop} {s : Shared}
end
end ZT
end PySem

/-! list(zip(a, b, strict=True)): the loop -/
namespace PySem
namespace ZT
open Sem (wp)
open F ZS
section
variable {prog : Program} {w : World} {A : Around} {E : Value → Shared → Prop} {s : Shared}
end
section
variable {prog : Program} {w : World} {A : Around} {R : Result → Shared → Prop}
end
end ZT
end PySem

/-! list(zip(a, b, strict=True)): the list -/
namespace PySem
namespace ZT
open Sem (wp)
open F ZS
section
variable {prog : Program} {w : World} {A : Around} {E : Value → Shared → Prop} {s : Shared}
end
end ZT
end PySem

/-! list(zip(a, b, strict=True)) as a value -/
namespace L2
open PySem PySem.Spec PyProof.Rows PySem.ZS PySem.ZT
end L2

/-! list(zip(a, b, strict=True)), by data -/
namespace DL
open PySem PySem.Spec PyProof.Rows L2
variable [tb : Tb]
section
variable {K : PySem.W.Frag} {F H F1 H1 : Hp}
end
end DL
end
section
set_option maxRecDepth 100000
set_option maxHeartbeats 1000000
/-! x.f[k] = e; xs.append(own tree); [.. for y in x.f ..]; a, b = a list; sorted(d) -/
namespace DL
open PySem PySem.Spec PyProof.Rows L2
variable [tb : Tb]
/-! ### x.f[k] = e, x.f a dict -/
section
variable {K : PySem.W.Frag} {F H : Hp}
end
section
variable {X : Cx} {pv : Nat → Option V} {W : WX} {i : Nat} {sel : DEnv → O → Option Nat} {fk fe : M R} {o k value : Expr} {pos tpos : Pos}
end
/-! ### xs.append(e), xs a list of own trees, e one -/
section
variable {X : Cx} {pv : Nat → Option V} {W : WX} {i : Nat} {f : M R} {x : Str} {p pos apos : Pos} {e : Expr}
end
/-! ### a, b, .. = a frozen list -/
section
variable {X : Cx} {pv : Nat → Option V} {W : WX} {f : M R} {ts : List Tgt} {pos tpos : Pos} {es : List Expr} {k n : Nat} {e : Expr}
end
end DL
end
section
set_option maxRecDepth 100000
set_option maxHeartbeats 1000000
/-! [.. for y in x.f if ..], x.f a child list that stays one's own; sorted(d) of int keys -/
namespace DL
open PySem PySem.Spec PyProof.Rows L2
variable [tb : Tb]
section
variable {K : PySem.W.Frag} {mg : Str → Option Value} {pv : Nat → Option V} {W : WX}
/-! ### lent, for any part of what is owned -/
end
/-! ### data that cannot speak of a list of tuples -/
mutual
def okD : D → Bool
  | .tup ds => okDs ds
  | .ctp ds => okDs ds
  | .lst (.int _ :: ds) => D.lfrees ds
  | .lst _ => false
  | .rol _ => false
  | .dct _ _ => false
  | .ins _ _ _ => false
  | .exn _ _ _ => false
  | _ => true
def okDs : List D → Bool
  | [] => true
  | d :: ds => okD d && okDs ds
end
section
variable {K : PySem.W.Frag} {F F2 : Hp} {b : Addr}
mutual
theorem Rep.okD (t : ∀ c, c ≠ b → F2 c = F c) (hb : ∀ us, F b = some (.lst us) → ∀ x r, us ≠ .int x :: r) (hb2 : ∀ us, F b ≠ some (.tup us)) (tt : Tups F F2) : ∀ (d : D) {v : V}, Rep K F d v → okD d = true → Rep K F2 d v
  | .non, _, h, _ => h
  | .bl _, _, h, _ => h
  | .int _, _, h, _ => h
  | .str _, _, h, _ => h
  | .ty _, _, h, _ => h
  | .ref _, _, h, _ => h
  | .tup ds, _, h, q => by
    simp only [Rep] at h ⊢
    obtain ⟨a, vs, h1, h2, h3⟩ := h
    exact ⟨a, vs, h1, tt _ _ h2, Reps.okD t hb hb2 tt ds h3 (by simpa [DL.okD] using q)⟩
  | .ctp ds, _, h, q => by
    simp only [Rep] at h ⊢
    obtain ⟨a, vs, h1, h2, h3⟩ := h
    exact ⟨a, vs, h1, h2, Reps.okD t hb hb2 tt ds h3 (by simpa [DL.okD] using q)⟩
  | .lst (.int x :: ds), _, h, q => by
    simp only [Rep] at h ⊢
    obtain ⟨a, vs, h1, h2, h3⟩ := h
    obtain ⟨v, r, rfl, h4, h5⟩ := h3
    have hv : v = .int x := h4
    subst hv
    refine ⟨a, _, h1, ?_, .int x, r, rfl, rfl, Reps.lfree tt ds h5 (by simpa [DL.okD] using q)⟩
    rw [t a fun z => ?_]
    · exact h2
    · subst z
      exact hb _ h2 x r rfl
  | .lst [], _, _, q => by simp [DL.okD] at q
  | .lst (.non :: _), _, _, q => by simp [DL.okD] at q
  | .lst (.bl _ :: _), _, _, q => by simp [DL.okD] at q
  | .lst (.str _ :: _), _, _, q => by simp [DL.okD] at q
  | .lst (.ty _ :: _), _, _, q => by simp [DL.okD] at q
  | .lst (.ref _ :: _), _, _, q => by simp [DL.okD] at q
  | .lst (.tup _ :: _), _, _, q => by simp [DL.okD] at q
  | .lst (.ctp _ :: _), _, _, q => by simp [DL.okD] at q
  | .lst (.lst _ :: _), _, _, q => by simp [DL.okD] at q
  | .lst (.rol _ :: _), _, _, q => by simp [DL.okD] at q
  | .lst (.dct _ _ :: _), _, _, q => by simp [DL.okD] at q
  | .lst (.ins _ _ _ :: _), _, _, q => by simp [DL.okD] at q
  | .lst (.exn _ _ _ :: _), _, _, q => by simp [DL.okD] at q
  | .rol ds, _, _, q => by simp [DL.okD] at q
  | .dct ks ds, _, _, q => by simp [DL.okD] at q
  | .ins C ns ds, _, _, q => by simp [DL.okD] at q
  | .exn C ns ds, _, _, q => by simp [DL.okD] at q
theorem Reps.okD (t : ∀ c, c ≠ b → F2 c = F c) (hb : ∀ us, F b = some (.lst us) → ∀ x r, us ≠ .int x :: r) (hb2 : ∀ us, F b ≠ some (.tup us)) (tt : Tups F F2) : ∀ (ds : List D) {vs : List V}, Reps K F ds vs → okDs ds = true → Reps K F2 ds vs
  | [], _, h, _ => h
  | d :: ds, _, h, q => by
    simp only [Reps] at h ⊢
    obtain ⟨v, r, h1, h2, h3⟩ := h
    simp only [DL.okDs, Bool.and_eq_true] at q
    exact ⟨v, r, h1, Rep.okD t hb hb2 tt d h2 q.1, Reps.okD t hb hb2 tt ds h3 q.2⟩
end
end
section
variable {X : Cx} {pv : Nat → Option V} {W : WX} {i : Nat} {sel : DEnv → O → Option Nat} {tg : Tgt} {test : M Bool} {f : M R} {elt t iter : Expr} {ifs : List Expr} {scope : Scope} {own : List (Str × Nat)} {pos : Pos}
end
end DL
end
section
set_option maxRecDepth 100000
set_option maxHeartbeats 1000000
/-! what the kernel can reckon: sorted, max and min by a key, without choice -/
namespace DL
open PySem PySem.Spec PyProof.Rows L2
variable [tb : Tb]
/-! ### keys -/
section
variable {is : List Nat} {fb : M R} {i : Nat} {e : DEnv} {big : Bool} {f : M R}
end
end DL
end
section
set_option maxRecDepth 100000
set_option maxHeartbeats 1000000
/-! C(), len(x) by an own __len__, the facts of methods -/
namespace DL
open PySem PySem.Spec PyProof.Rows L2
variable [tb : Tb]
section
variable {X : Cx} {pv : Nat → Option V} {W : WX} {k : Nat} {x : Str} {ps : List Str} {g : List O → RF} {p pos : Pos} {C : Addr}
end
section
variable {K : PySem.W.Frag} {nm qual : Str} {st : Stmt} {ps : List Str} {C f : Addr} {oc : Value} {od an : Option Addr} {osl : Array (Option Value)} {kV doc pm cdv ct : Value} {m : Str}
end
/-! ### len(x) -/
section
variable {X : Cx} {pv : Nat → Option V} {W : WX} {k : Nat} {g : List O → RF} {p pos : Pos} {C : Addr} {f : M R} {e : Expr} {s : Str}
end
end DL
end
section
set_option maxRecDepth 100000
set_option maxHeartbeats 1000000
namespace DL
open PySem PySem.Spec PyProof.Rows L2
variable [tb : Tb]
section
variable {X : Cx} {pv : Nat → Option V} {W : WX} {g : M (List D)} {tg : Tgt} {test : M Bool} {f : M R} {elt t iter : Expr} {ifs : List Expr} {scope : Scope} {own : List (Str × Nat)} {pos : Pos}
end
/-! ### len of a dict too -/
end DL
end
section
set_option maxRecDepth 100000
set_option maxHeartbeats 1000000
/-! a method with one keyword-only parameter that has a default: o.m(), o.m(k = e) -/
namespace DL
open PySem PySem.Spec PyProof.Rows L2
variable [tb : Tb]
def BindD (K : PySem.W.Frag) (fd : FuncData) (ps : List Str) (n : Nat) (d : V) : Prop := ∃ ds : List Value, Vals [d] ds ∧ ∀ (s : Shared) (us : List Value), K.In s.heap → us.length = n → BindsTo s fd ⟨us, []⟩ (ps.zip (us ++ ds))
def BindK (fd : FuncData) (ps : List Str) (n : Nat) (kw : Str) : Prop := ∀ (s : Shared) (us : List Value) (w : Value), us.length = n → BindsTo s fd ⟨us, [(kw, w)]⟩ (ps.zip (us ++ [w]))
structure DefMK (K : PySem.W.Frag) (Pr : Addr → Prop) (nm qual : Str) (st : Stmt) (ps : List Str) (n : Nat) (kw : Str) (d : V) : Prop where
  ex : ∃ f fd, L2.Fun K nm qual st f fd ∧ Pr f ∧ BindD K fd ps n d ∧ BindK fd ps n kw
structure GMK (P : Program) (w : World) (K : PySem.W.Frag) (mg : Str → Option Value) (base : Heap) (k : Nat) (Pr : Addr → Prop) (ps : List Str) (n : Nat) (kw : Str) (d : V) (g : List O → RF) : Prop where
  ex : ∃ f fd, Pr f ∧ BindD K fd ps n d ∧ BindK fd ps n kw ∧ GFn P w K mg base (L2.CX P w) k f fd ps (spD K mg ps.length g)
theorem GMK.up {P : Program} {w : World} {K : PySem.W.Frag} {mg : Str → Option Value} {base : Heap} {j k : Nat} {Pr : Addr → Prop} {ps : List Str} {n : Nat} {kw : Str} {d : V} {g : List O → RF} (G : GMK P w K mg base j Pr ps n kw d g) (h : j ≤ k) : GMK P w K mg base k Pr ps n kw d g :=
  let ⟨f, fd, h1, h2, h3, h4⟩ := G.ex
  ⟨f, fd, h1, h2, h3, h4.up h⟩
section
variable {X : Cx} {k : Nat} {C f : Addr} {fd : FuncData} {ps : List Str} {sp : Sp} {E : L2.St → XK} {m kw : Str} {apos pos : Pos} {o e : Expr} {es : List Expr} {ta : TE} {t tk : TA} {d : V}
end
section
variable {X : Cx} {pv : Nat → Option V} {W : WX} {k : Nat} {C : Addr} {m kw : Str} {ps : List Str} {g : List O → RF} {fi f : M R} {o e : Expr} {apos pos kpos : Pos} {pl : Sem Bool}
end
section
variable {K : PySem.W.Frag} {nm qual kw : Str} {st : Stmt} {ps : List Str} {C f D : Addr} {oc : Value} {od an : Option Addr} {osl : Array (Option Value)} {doc pm cdv ct u : Value} {m : Str} {d : V} {n : Nat}
theorem defMK_meth (i : PySem.W.findIn K (.ref C) m = some (some (.ref f))) (fn : PySem.W.isFn K (.ref f) = true)
    (l : K.lookup f = some ⟨oc, od, .func (PySem.W.fnOf nm qual (defArgs st) (defBody st) (defScope st) .none (.ref D) doc pm an cdv ct), osl⟩)
    (c : PySem.W.codeIn K cdv qual = true) (kp : PySem.W.keepIn K (.ref f) = true) (hD : PySem.W.nsIn K D kw = some (some u)) (hu : RelV d u)
    (h0 : ∀ (us : List Value) (w : Value), us.length = n → KwChain D [(kw, w)] (bindArgs (PySem.W.fnOf nm qual (defArgs st) (defBody st) (defScope st) .none (.ref D) doc pm an cdv ct) ⟨us, []⟩) (ps.zip (us ++ [w])))
    (h1 : ∀ (us : List Value) (w : Value), us.length = n → bindArgs (PySem.W.fnOf nm qual (defArgs st) (defBody st) (defScope st) .none (.ref D) doc pm an cdv ct) ⟨us, [(kw, w)]⟩ = pure (ps.zip (us ++ [w]))) : DefMK K (PMeth K C m) nm qual st ps n kw d :=
  ⟨f, _, L2.fun_mk l c kp, ⟨i, fn, kp⟩, ⟨[u], .cons hu .nil, fun s us X hl => BindsTo.of_looks fun M => KwChain.looks X (by simpa using hD) (h0 us u hl)⟩, fun s us w hl => .of_eq (h1 us w hl)⟩
end
end DL
end
section
set_option maxRecDepth 100000
set_option maxHeartbeats 2000000
/-! y, t = None, None; try: t = a() / except h as e: y = e; rest -/
namespace DL
open PySem PySem.Spec PyProof.Rows L2 LamX
variable [tb : Tb]
section
variable {X : Cx}
end
section
variable {X : Cx} {pv : Nat → Option V} {W : WX} {fb : M R} {hs : List (Exc × Bool)} {w0 : D → Option D} {w : Exc → Option D} {n j t : Nat} {r0 : M Flow} {rx : Exc → M Flow}
end
end DL
end
section
set_option maxRecDepth 100000
set_option maxHeartbeats 1000000
/-! for x in l: x.append(None), l a list of own lists -/
namespace DL
open PySem PySem.Spec PyProof.Rows L2
variable [tb : Tb]
section
variable {K : PySem.W.Frag} {mg : Str → Option Value} {pv : Nat → Option V} {W : WX} {env : DEnv} {σ : L2.St} {F H : Hp} {A : Nat → List Addr}
theorem WS.drop (w : WS K pv env σ F H A) {j : Nat} (hj : j < env.length) : WS K pv (env.set j .un) σ F H (upA A j []) := by
  refine ⟨by simp [w.len], fun k => ?_, fun k => ?_, fun k k' a ha ha' => ?_, fun k a ha => ?_, w.sub, w.tbs⟩
  · by_cases e : k = j
    · subst e
      rw [List.getElem?_set_self hj]
      unfold upA
      rw [if_pos rfl]
      rfl
    · rw [List.getElem?_set_ne (Ne.symm e)]
      unfold upA
      rw [if_neg e]
      exact w.slot k
  · unfold upA
    split
    · exact List.nodup_nil
    · exact w.nd k
  · unfold upA at ha ha'
    split at ha
    · cases ha
    · split at ha'
      · cases ha'
      · exact w.dj k k' a ha ha'
  · unfold upA at ha
    split at ha
    · cases ha
    · exact w.dis k a ha
end
section
variable {X : Cx} {pv : Nat → Option V} {W : WX} {i j j2 : Nat} {x y : Str} {p p1 p2 p3 p4 pos apos spos : Pos}
end
end DL
end
section
set_option maxRecDepth 100000
set_option maxHeartbeats 1000000
/-! a, b = x, y by way of a tuple (a or b is a cell) -/
namespace DL
open PySem PySem.Spec PyProof.Rows L2
variable [tb : Tb]
section
variable {K : PySem.W.Frag} {mg : Str → Option Value} {pv : Nat → Option V} {W : WX} {D : Ends}
end
section
variable {X : Cx} {pv : Nat → Option V} {W : WX} {fs : M (List R)}
end
end DL
end
section
set_option maxRecDepth 100000
set_option maxHeartbeats 1000000
/-! list(x), x a tuple of the module's own too -/
namespace DL
open PySem PySem.Spec PyProof.Rows L2
section
variable [tb : Tb]
end
/-! ### comprehensions, quick to reckon -/
end DL
end
section
set_option maxRecDepth 100000
set_option maxHeartbeats 1000000
/-! tuples of one's own: (a, b) of own trees; reading; a, b = t -/
namespace DL
open PySem PySem.Spec PyProof.Rows L2
variable [tb : Tb]
section
variable {X : Cx} {pv : Nat → Option V} {W : WX} {fs : M (List R)} {es : List Expr} {pos : Pos}
end
/-! ### freezing, tuples too: for tests alone -/
mutual
def O.frz2 : O → Option D
  | .val d => some d
  | .lst ds => some (.lst ds)
  | .dK ks ds => some (.dct ks ds)
  | .dT _ _ => none
  | .lo os => match O.frzs2 os with
    | some ds => some (.lst ds)
    | none => none
  | .ins C ns os => match O.frzs2 os with
    | some ds => some (.ins C ns ds)
    | none => none
  | .to os => match O.frzs2 os with
    | some ds => some (.tup ds)
    | none => none
def O.frzs2 : List O → Option (List D)
  | [] => some []
  | o :: os => match O.frz2 o, O.frzs2 os with
    | some d, some ds => some (d :: ds)
    | _, _ => none
end
theorem O.frzs2_len : ∀ {os : List O} {ds : List D}, O.frzs2 os = some ds → ds.length = os.length
  | [], _, h => by simp only [O.frzs2] at h; cases h; rfl
  | o :: os, _, h => by
    simp only [O.frzs2] at h
    split at h
    · rename_i d ds h1 h2
      cases h
      simp [O.frzs2_len h2]
    · cases h
section
variable {K : PySem.W.Frag} {F H : Hp}
mutual
theorem Own.frz2 {G : Hp} (s : Same F G) : ∀ (o : O) {v : V} {C : List Addr} {d : D}, Own K F H o v C → (∀ a ∈ C, G a = H a) → o.frz2 = some d → Rep K G d v
  | .val d, _, _, _, h, _, e => by
    simp only [O.frz2] at e; cases e
    simp only [Own] at h
    exact Rep.same s d h.2
  | .lst ds, _, _, _, h, b, e => by
    simp only [O.frz2] at e; cases e
    simp only [Own] at h
    obtain ⟨a, vs, h1, rfl, h2, h3⟩ := h
    simp only [Rep]
    exact ⟨a, vs, h1, (by rw [b a (List.mem_singleton.mpr rfl)]; exact h2), Reps.same s ds h3⟩
  | .dK ks ds, _, _, _, h, b, e => by
    simp only [O.frz2] at e; cases e
    simp only [Own] at h
    obtain ⟨a, vs, h1, rfl, h2, h4, h3⟩ := h
    simp only [Rep]
    exact ⟨a, vs, h1, (by rw [b a (List.mem_singleton.mpr rfl)]; exact h2), h4, Reps.same s ds h3⟩
  | .dT ks ds, _, _, _, _, _, e => by simp only [O.frz2] at e; cases e
  | .lo os, _, _, _, h, b, e => by
    simp only [O.frz2] at e
    split at e
    · rename_i ds hd
      cases e
      simp only [Own] at h
      obtain ⟨a, vs, B', h1, rfl, h2, h3⟩ := h
      simp only [Rep]
      exact ⟨a, vs, h1, (by rw [b a List.mem_cons_self]; exact h2), Owns.frz2 s os h3 (fun c hc => b c (List.mem_cons_of_mem _ hc)) hd⟩
    · cases e
  | .to os, _, _, _, h, b, e => by
    simp only [O.frz2] at e
    split at e
    · rename_i ds hd
      cases e
      simp only [Own] at h
      obtain ⟨a, vs, B', h1, rfl, h2, h3⟩ := h
      simp only [Rep]
      exact ⟨a, vs, h1, (by rw [b a List.mem_cons_self]; exact h2), Owns.frz2 s os h3 (fun c hc => b c (List.mem_cons_of_mem _ hc)) hd⟩
    · cases e
  | .ins C ns os, _, _, _, h, b, e => by
    simp only [O.frz2] at e
    split at e
    · rename_i ds hd
      cases e
      simp only [Own] at h
      obtain ⟨a, dx, vs, B', h1, rfl, h2, h4, h3⟩ := h
      simp only [Rep]
      refine ⟨a, dx, vs, h1, by rw [b a List.mem_cons_self]; exact h2, ?_, Owns.frz2 s os h3 (fun c hc => b c (List.mem_cons_of_mem _ hc)) hd⟩
      rw [h4, O.frzs2_len hd]
    · cases e
theorem Owns.frz2 {G : Hp} (s : Same F G) : ∀ (os : List O) {vs : List V} {C : List Addr} {ds : List D}, Owns K F H os vs C → (∀ a ∈ C, G a = H a) → O.frzs2 os = some ds → Reps K G ds vs
  | [], _, _, _, h, _, e => by
    simp only [O.frzs2] at e; cases e
    simp only [Owns] at h
    rw [h.1]; rfl
  | o :: os, _, _, _, h, b, e => by
    simp only [O.frzs2] at e
    split at e
    · rename_i d ds h1 h2
      cases e
      simp only [Owns] at h
      obtain ⟨v, r, B1, B2, rfl, rfl, h3, h4⟩ := h
      exact ⟨v, r, rfl, Own.frz2 s o h3 (fun a ha => b a (List.mem_append_left _ ha)) h1, Owns.frz2 s os h4 (fun a ha => b a (List.mem_append_right _ ha)) h2⟩
    · cases e
end
end
section
variable {K : PySem.W.Frag} {pv : Nat → Option V} {env : DEnv} {σ : L2.St} {F H F' H' : Hp} {A A' : Nat → List Addr} {B : List Addr} {is : List Nat}
end
section
variable {K : PySem.W.Frag} {mg : Str → Option Value} {pv : Nat → Option V} {W : WX} {is : List Nat} {σ : L2.St} {H : Hp}
end
section
variable {X : Cx} {pv : Nat → Option V} {W : WX} {e : Expr} (is : List Nat)
end
/-! ### a, b = t -/
section
variable {X : Cx} {pv : Nat → Option V} {W : WX} {i j k : Nat} {x y z : Str} {p p1 p2 pos tpos : Pos} {kk : Nat}
end
end DL
end
section
set_option maxRecDepth 100000
set_option maxHeartbeats 1000000
/-! x.f, x.g, .. = a, b, .. by way of a tuple -/
namespace DL
open PySem PySem.Spec PyProof.Rows L2
variable [tb : Tb]
section
variable {X : Cx}
end
section
variable {K : PySem.W.Frag} {mg : Str → Option Value} {pv : Nat → Option V} {W : WX} {D : Ends} {C : Addr} {i : Nat}
end
section
variable {X : Cx} {pv : Nat → Option V} {W : WX} {fs : M (List R)} {C : Addr} {i : Nat} {x : Str}
end
end DL
end
section
set_option maxRecDepth 100000
set_option maxHeartbeats 1000000
/-! x = y if c else x, y moved; a, b, c = x, y, z by way of a tuple -/
namespace DL
open PySem PySem.Spec PyProof.Rows L2
variable [tb : Tb]
section
variable {K : PySem.W.Frag} {mg : Str → Option Value} {pv : Nat → Option V} {W : WX} {f : M R} {σ : L2.St} {H : Hp} {D : Ends}
end
section
variable {X : Cx} {pv : Nat → Option V} {W : WX} {fs : M (List R)} {f : M R} {e : Expr} {pos : Pos}
end
end DL
end
section
set_option maxRecDepth 100000
set_option maxHeartbeats 1000000
/-! for y in x.f: e, where x.f is a list that stays one's own (x is hidden while e runs) -/
namespace DL
open PySem PySem.Spec PyProof.Rows L2
variable [tb : Tb]
section
variable {K : PySem.W.Frag} {pv : Nat → Option V}
end
section
variable {X : Cx} {pv : Nat → Option V} {W : WX} {i : Nat} {sel : DEnv → O → Option Nat} {tg : Tgt} {f : M R} {e t iter : Expr} {pos epos : Pos}
end
end DL
end
section
set_option maxRecDepth 100000
set_option maxHeartbeats 1000000
/-! xs[k] = e, xs a list of own trees -/
namespace DL
open PySem PySem.Spec PyProof.Rows L2
variable [tb : Tb]
section
variable {X : Cx} {pv : Nat → Option V} {W : WX} {i : Nat} {fk fe : M R} {x : Str} {p pos tpos : Pos} {e k : Expr}
end
end DL
end
section
set_option maxRecDepth 100000
set_option maxHeartbeats 1000000
/-! the signs of a text, one by one -/
namespace DL
open PySem PySem.Spec PyProof.Rows L2
variable [tb : Tb]
def signs (z : Str) : List D := z.cps.toList.map fun c => .str ⟨#[c]⟩
section
variable {X : Cx} {pv : Nat → Option V} {W : WX} {f : M R} {tg e : Expr}
end
end DL
end
section
set_option maxRecDepth 100000
set_option maxHeartbeats 1000000
/-! x.f.append(e), where e reads x itself: its value is without lists -/
namespace DL
open PySem PySem.Spec PyProof.Rows L2
variable [tb : Tb]
section
variable {K : PySem.W.Frag} {mg : Str → Option Value} {pv : Nat → Option V} {W : WX} {i : Nat} {sel : DEnv → O → Option Nat} {σ : L2.St} {H : Hp} {Q : VK} {is : List Nat} {f : M R}
end
section
variable {X : Cx} {pv : Nat → Option V} {W : WX} {i : Nat} {sel : DEnv → O → Option Nat} {f : M R} {o e : Expr} {pos apos : Pos}
end
end DL
end
section
set_option maxRecDepth 100000
set_option maxHeartbeats 1000000
namespace DL
open PySem PySem.Spec PyProof.Rows L2
variable [tb : Tb]
/-! ### list(range(a, b)), further -/
section
variable {X : Cx} {pv : Nat → Option V} {W : WX} {f g : M R} {a b : Expr} {p p2 q pos : Pos}
end
end DL
end
section
set_option maxRecDepth 100000
set_option maxHeartbeats 1000000
/-! methods of texts: split, partition, join; int(text); f-strings -/
namespace DL
open PySem PySem.Spec PyProof.Rows L2
variable [tb : Tb]
section
variable {K : PySem.W.Frag}
end
section
variable {X : Cx} {pv : Nat → Option V} {W : WX} {f : M R} {fs : M (List R)} {p pos apos : Pos} {e o : Expr} {es : List Expr}
end
/-! ### int(text) -/
/-! ### f-strings -/
section
variable {X : Cx} {pv : Nat → Option V} {W : WX} {f : M R} {fs : List (M R)} {e v1 v2 : Expr} {rest es : List Expr} {pos : Pos}
end
end DL
end
section
set_option maxRecDepth 100000
set_option maxHeartbeats 1000000
/-! calls whose arguments are all named, in the order of the parameters -/
namespace DL
open PySem PySem.Spec PyProof.Rows L2
variable [tb : Tb]
/-- n values by position, the others by their names -/
def BindW (fd : FuncData) (ps : List Str) (n : Nat) : Prop := ∀ (us ws : List Value), us.length = n → ws.length + n = ps.length → bindArgs fd ⟨us, (ps.drop n).zip ws⟩ = pure (ps.zip (us ++ ws))
/-- the def's own promise of this -/
def BWall (nm qual : Str) (st : Stmt) (ps : List Str) (n : Nat) : Prop := ∀ (kV doc pm : Value) (an : Option Addr) (cdv ct : Value) (us ws : List Value), us.length = n → ws.length + n = ps.length →
  bindArgs (PySem.W.fnOf nm qual (defArgs st) (defBody st) (defScope st) .none kV doc pm an cdv ct) ⟨us, (ps.drop n).zip ws⟩ = pure (ps.zip (us ++ ws))
theorem fun_w {K : PySem.W.Frag} {nm qual : Str} {st : Stmt} {f : Addr} {fd : FuncData} {ps : List Str} {n : Nat} (F : L2.Fun K nm qual st f fd) (h : BWall nm qual st ps n) : BindW fd ps n := by
  obtain ⟨oc, od, kV, doc, pm, an, cdv, ct, osl, rfl, lk, _⟩ := F.ex
  exact fun us ws l1 l2 => h kV doc pm an cdv ct us ws l1 l2
/-! ### functions -/
structure GVW (P : Program) (w : World) (K : PySem.W.Frag) (mg : Str → Option Value) (base : Heap) (k : Nat) (x : Str) (ps : List Str) (g : List O → RF) : Prop where
  ex : ∃ f fd, mg x = some (.ref f) ∧ PySem.W.keepIn K (.ref f) = true ∧ BindW fd ps 0 ∧ GFn P w K mg base (L2.CX P w) k f fd ps (spD K mg ps.length g)
section
variable {P : Program} {w : World} {K : PySem.W.Frag} {mg : Str → Option Value} {base : Heap} {k : Nat} {x : Str} {ps : List Str} {g : List O → RF} {st : Stmt}
theorem GV.named {f : Addr} {fd : FuncData} (G : GV P w K mg base k x ps g) (F : L2.Fun K x x st f fd) (hm : mg x = some (.ref f)) (h : BWall x x st ps 0) : GVW P w K mg base k x ps g := by
  obtain ⟨f2, fd2, h1, h2, _, ⟨oc, od, osl, lk⟩, h4⟩ := G.ex
  obtain ⟨oc', od', osl', lk'⟩ := fun_lk F
  rw [hm] at h1
  cases h1
  rw [lk'] at lk
  cases lk
  exact ⟨f, fd, hm, h2, fun_w F h, h4⟩
theorem GVW.up {j : Nat} (G : GVW P w K mg base j x ps g) (h : j ≤ k) : GVW P w K mg base k x ps g :=
  let ⟨f, fd, h1, h2, h3, h4⟩ := G.ex
  ⟨f, fd, h1, h2, h3, h4.up h⟩
end
section
variable {X : Cx} {pv : Nat → Option V} {W : WX} {nm : Option Str} {kpos : Pos} {e : Expr} {f : M R} {kws : List Keyword} {fs : M (List R)}
theorem pkd_nil : PK X [] (tDA X.K X.mg pv W dNil) := ⟨fun pos pins s σ H Q I h => pk_nil.run pos pins s σ H Q I (dNil_rd h)⟩
theorem pkd_cons (ha : PE X e (tD X.K X.mg pv W f)) (hr : PK X kws (tDA X.K X.mg pv W fs)) : PK X (⟨nm, e, kpos⟩ :: kws) (tDA X.K X.mg pv W (dCons f fs)) :=
  ⟨fun pos pins s σ H Q I h => (pk_cons ha hr).run pos pins s σ H Q I (dCons_rd h)⟩
end
section
variable {X : Cx} {k : Nat} {C f : Addr} {fd : FuncData} {ps ks : List Str} {sp : Sp} {E : L2.St → XK} {x m : Str} {p apos pos : Pos} {o : Expr} {kws : List Keyword} {ta : TE} {tk : TA}
end
/-! ### methods, classes -/
structure DefMW (K : PySem.W.Frag) (Pr : Addr → Prop) (nm qual : Str) (st : Stmt) (ps : List Str) : Prop where
  ex : ∃ f fd, L2.Fun K nm qual st f fd ∧ BA fd ps ∧ Pr f ∧ BindW fd ps 1
structure GMW (P : Program) (w : World) (K : PySem.W.Frag) (mg : Str → Option Value) (base : Heap) (k : Nat) (Pr : Addr → Prop) (ps : List Str) (g : List O → RF) : Prop where
  ex : ∃ f fd, Pr f ∧ BA fd ps ∧ BindW fd ps 1 ∧ GFn P w K mg base (L2.CX P w) k f fd ps (spD K mg ps.length g)
section
variable {P : Program} {w : World} {K : PySem.W.Frag} {mg : Str → Option Value} {base : Heap} {j k : Nat} {Pr : Addr → Prop} {nm qual : Str} {st : Stmt} {N ps : List Str} {g : List O → RF}
theorem GMW.up (G : GMW P w K mg base j Pr ps g) (h : j ≤ k) : GMW P w K mg base k Pr ps g :=
  let ⟨f, fd, h1, h2, h3, h4⟩ := G.ex
  ⟨f, fd, h1, h2, h3, h4.up h⟩
end
section
variable {X : Cx} {pv : Nat → Option V} {W : WX} {k : Nat} {C : Addr} {x m : Str} {ps : List Str} {g : List O → RF} {fi : M R} {fs : M (List R)} {o : Expr} {kws : List Keyword} {p apos pos : Pos} {pl : Sem Bool}
end
/-! ### C(k = e, ..) -/
section
variable {X : Cx} {k : Nat} {C f : Addr} {fd : FuncData} {ps : List Str} {sp : Sp} {E : L2.St → XK} {x : Str} {p pos : Pos} {kws : List Keyword} {tk : TA}
end
section
variable {X : Cx} {pv : Nat → Option V} {W : WX} {k : Nat} {C : Addr} {x : Str} {ps : List Str} {g : List O → RF} {fs : M (List R)} {kws : List Keyword} {p pos : Pos}
end
end DL
end
section
set_option maxRecDepth 100000
set_option maxHeartbeats 1000000
/-! x or y, x a text -/
namespace DL
open PySem PySem.Spec PyProof.Rows L2
variable [tb : Tb]
section
variable {K : PySem.W.Frag} {mg : Str → Option Value} {pv : Nat → Option V} {W : WX} {f g : M R} {σ : L2.St} {H : Hp}
end
section
variable {X : Cx} {pv : Nat → Option V} {W : WX} {f g : M R} {a b : Expr} {rest : List Expr} {pos : Pos}
end
end DL
end
section
set_option maxRecDepth 100000
set_option maxHeartbeats 1000000
/-! a statement that is not reached -/
namespace DL
open PySem PySem.Spec PyProof.Rows L2
variable [tb : Tb]

section
variable {X : Cx} {pv : Nat → Option V} {W : WX}
end
end DL
end
section
set_option maxRecDepth 100000
set_option maxHeartbeats 1000000
/-! a dict of the module's top whose keys are texts: X[e], e in X, e not in X -/
namespace DL
open PySem PySem.Spec PyProof.Rows L2
variable [tb : Tb]
structure GTabS (K : PySem.W.Frag) (w : World) (mg : Str → Option Value) (x : Str) (tbl : List (Str × D)) : Prop where
  ex : ∃ a es n, mg x = some (.ref a) ∧ K.lookup a = some ⟨.type "dict", none, .dict es n, #[]⟩ ∧ PySem.W.KeysLit w.params es.toList ∧ (a == sysModules) = false ∧
    ∀ y, match tbl.lookup y with
      | some d => ∃ u, findBy Value.isStrOf es y = some u ∧ GVal K d u
      | none => findBy Value.isStrOf es y = none
section
variable {X : Cx} {pv : Nat → Option V} {W : WX} {f : M R} {x : Str} {p pos : Pos} {e : Expr} {tbl : List (Str × D)}
end
end DL
end
section
set_option maxRecDepth 100000
set_option maxHeartbeats 1000000
/-! len of a written tuple of the top -/
namespace DL
open PySem PySem.Spec PyProof.Rows L2
variable [tb : Tb]
end DL
end
section
set_option maxRecDepth 100000
set_option maxHeartbeats 4000000
/-! errors as values: X("x"), isinstance(e, Y), str(e), e.line -/
namespace DL
open PySem PySem.Spec PyProof.Rows L2
variable [tb : Tb]
section
variable {fs : List Addr} {H : Hp} {h h' : Heap} {a t : Addr} {o1 o2 : HO}
/-- two new objects at once -/
theorem un_laid2 (k : ∀ b u, h.get? b = some u → h'.get? b = some u) (p1 : h.get? t = none) (n1 : H t = none) (p2 : h.get? a = none) (n2 : H a = none) : Un fs [] H (upd (upd H t o1) a o2) h h' := by
  have w : ∀ b, b ≠ t → b ≠ a → upd (upd H t o1) a o2 b = H b := fun b x y => by rw [upd_ne y, upd_ne x]
  have nh : ∀ b u, H b = some u → b ≠ t ∧ b ≠ a := fun b u e => ⟨ne_of_none e n1, ne_of_none e n2⟩
  have ng : ∀ b u, h.get? b = some u → b ≠ t ∧ b ≠ a := fun b u e => ⟨fun z => (by rw [z, p1] at e; cases e), fun z => (by rw [z, p2] at e; cases e)⟩
  exact {
    keep := fun b u q _ _ _ => k b u q
    slot := fun b u q _ _ _ => ⟨u.slots, k b u q⟩
    free := fun b u q n _ => by rw [w b (ng b u q).1 (ng b u q).2]; exact n
    there := fun b u q _ => ⟨u, k b u q⟩
    tups := fun b xs q => by rw [w b (nh b _ q).1 (nh b _ q).2]; exact q
    frzs := fun b u xs q => by rw [w b (nh b _ q).1 (nh b _ q).2]; exact q
    tbls := fun b ps q => ⟨#[], by rw [w b (nh b _ q).1 (nh b _ q).2, q]; simp⟩ }
theorem hok_laid2 {P : Program} {w : World} (x : HOk P w H h) (k : ∀ b u, h.get? b = some u → h'.get? b = some u) (n1 : H t = none) (n2 : H a = none) (x1 : ObjOk P w (upd (upd H t o1) a o2) h' t o1) (x2 : ObjOk P w (upd (upd H t o1) a o2) h' a o2) :
    HOk P w (upd (upd H t o1) a o2) h' := fun b u e => by
  have wk : ∀ c v, H c = some v → upd (upd H t o1) a o2 c = some v := fun c v z => by rw [upd_ne (ne_of_none z n2), upd_ne (ne_of_none z n1)]; exact z
  by_cases ha : b = a
  · subst ha
    rw [upd_same] at e
    cases e
    exact x2
  · rw [upd_ne ha] at e
    by_cases ht : b = t
    · subst ht
      rw [upd_same] at e
      cases e
      exact x1
    · rw [upd_ne ht] at e
      exact (x b u e).stay (fun c v _ q => k c v q) (fun c q => wk _ _ q) fun c xs q => wk _ _ q
theorem inv_laid2 {X : Cx} {pins : List (Addr × Obj)} {σ : L2.St} {s : Shared} {t' : Nat} (I : L2.Inv X pins σ H s) (k : ∀ b u, s.heap.get? b = some u → h'.get? b = some u) (p1 : s.heap.get? t = none) (p2 : s.heap.get? a = none) (n1 : H t = none) (n2 : H a = none)
    (x1 : ObjOk X.prog X.w (upd (upd H t o1) a o2) h' t o1) (x2 : ObjOk X.prog X.w (upd (upd H t o1) a o2) h' a o2) : L2.Inv X pins σ (upd (upd H t o1) a o2) { s with heap := h', toks := t' } :=
  I.un (un_laid2 k p1 n1 p2 n2) (hok_laid2 I.hok k n1 n2 x1 x2)
/-- both frozen -/
theorem nw_frz2 {F H : Hp} {t a : Addr} {o1 o2 : HO} (n1 : H t = none) (n2 : H a = none) (ne : t ≠ a) (s : Same F H) : Nw F H (upd (upd F t o1) a o2) (upd (upd H t o1) a o2) [] ∧ Same (upd (upd F t o1) a o2) (upd (upd H t o1) a o2) := by
  have m : upd H t o1 a = none := by rw [upd_ne (fun z => ne z.symm)]; exact n2
  exact ⟨((Nw.frz (o := o1) n1 s).more fun x h => h).trans ((Nw.frz (o := o2) m (same_frz s)).more (P2 := fun a => a ∈ ([] : List Addr)) fun x h => h.elim), same_frz (same_frz s)⟩
end
theorem exS_ok {P : Program} {w : World} {H : Hp} {h : Heap} {C t a : Addr} {oe : Obj} {vs : Array Value} (e : h.get? a = some oe) (z : Zc (.ref C) none oe) (d : oe.data = .fields vs) (h0 : vs[0]? = some (.ref t)) : ObjOk P w H h a (ExS C t a) :=
  ⟨⟨oe, vs, e, z, d, h0⟩, ⟨oe, e⟩, fun _ _ ⟨o, v, q, r⟩ k => ⟨o, v, k o q, r⟩⟩
theorem exX_ok {P : Program} {w : World} {H : Hp} {h : Heap} {C a : Addr} {d : Option Addr} {oe : Obj} {vs : Array Value} (e : h.get? a = some oe) (z : Zc (.ref C) d oe) (hd : oe.data = .fields vs) : ObjOk P w H h a (ExX C d a) :=
  ⟨⟨oe, vs, e, z, hd⟩, ⟨oe, e⟩, fun _ _ ⟨o, v, q, r⟩ k => ⟨o, v, k o q, r⟩⟩
/-! ### X("x") -/
def rExS (C : Addr) : V → Hp → VK → Prop := fun v H Q => ∃ y, v = .str y ∧ ∀ t a, t ≠ a → H t = none → H a = none → Q (.ref a) (upd (upd H t (.tup [.str y])) a (ExS C t a))
def hExS (C : Addr) : D → Option R
  | .str x => some (.val (.exn C [] [.str x]))
  | _ => none
theorem ov_exS {K : PySem.W.Frag} {C : Addr} : Op1V K (rExS C) (hExS C) := fun F H d v ro Q s a e q => by
  unfold hExS at e
  split at e
  · rename_i x
    cases e
    refine ⟨x, a, fun t b ne n1 n2 => ?_⟩
    obtain ⟨z1, z2⟩ := nw_frz2 (o1 := .tup [.str x]) (o2 := ExS C t b) n1 n2 ne s
    refine q (.ref b) _ _ [] z1 z2 ⟨rfl, ?_⟩
    simp only [Rep]
    exact ⟨b, rfl, .inr ⟨t, x, upd_same, by rw [upd_ne ne, upd_same], by simp⟩⟩
  · cases e
section
variable {X : Cx} {pv : Nat → Option V} {W : WX} {C : Addr} {x : Str} {e : Expr} {f : M R} {p pos : Pos} {ta : TE}
theorem pe_exS {newId initId : String} {bmB : List Value} {B : String} (F : ExcBaseFacts B newId initId bmB) (q : PySem.W.excIn X.K C bmB newId = true) (gC : X.mg x = some (.ref C)) (kC : PySem.W.keepIn X.K (.ref C) = true) (hg : Gl X x)
    (he : PE X e ta) (hs : starEach [e] X.env = (false, eval e X.env) :: starEach [] X.env := by rfl) (hdb : (x == ("__debug__" : Str)) = false := by decide) :
    PE X (.Call (.Name x p) [e] [] pos) (fun σ H Q => ta σ H fun v H1 => rExS C v H1 Q) := by
  refine ⟨fun pins s σ H Q I h => ?_⟩
  refine wpAny_Call_Name_kw (ld_glob I hg gC ?_ hdb)
  refine PySem.W.callWith_K (h₀ := X.base) I.ok.mod.kin kC ?_ hs (by rfl)
  rw [hs]
  show wpAny _ _ (spliced ((false, eval e X.env) :: backTo pos (starEach [] X.env))) _ _ s
  refine Calls.spliced_cons (thn (he.run pins s σ H _ I h) fun u s1 ⟨v, H1, I1, r1, y, ey, q1⟩ => ?_)
  refine Calls.spliced_nil ⟨I1.kIn, ?_⟩
  subst ey
  show wpAny _ _ (call (.ref C) [u]) _ _ _
  obtain ⟨bm, N, nm, qn, bs, hdct, sn, sub, ab, col, dd, k0, k1, k2, k3, k5, mN, hC, hN, hni, T⟩ := exc_obj I1.kIn q
  refine wpAny_call_exc_subT F T hC hN hni (fun h' a hm => ?_) (by show 1 ≤ sizeLine; rw [sizeLine_eq]; omega)
  have hn : H1 a = none := I1.hok.gone hm.new
  obtain ⟨t, ha, ht, hta⟩ := hm.there
  have hn2 : H1 t = none := I1.hok.gone ht
  have ne : t ≠ a := fun z => by
    subst z
    rw [ha] at hta
    cases hta
  have o1 : ∀ H2 : Hp, ObjOk X.prog X.w H2 h' t (.tup [.str y]) := fun H2 => ⟨by show 1 ≤ sizeLine; rw [sizeLine_eq]; omega, [u], .cons r1 .nil, ⟨_, hta, rfl, _, rfl⟩⟩
  exact ⟨.ref a, _, inv_laid2 I1 hm.keeps ht hm.new hn2 hn (o1 _) (exS_ok ha ⟨rfl, rfl⟩ rfl rfl), rfl, q1 t a ne hn2 hn⟩
theorem de_exS (T : ExcCls X.K X.mg x C) (hg : Gl X x) (ha : PE X e (tD X.K X.mg pv W f)) (hs : starEach [e] X.env = (false, eval e X.env) :: starEach [] X.env := by rfl) (hdb : (x == ("__debug__" : Str)) = false := by decide) :
    PE X (.Call (.Name x p) [e] [] pos) (tD X.K X.mg pv W (op1 (hExS C) f)) :=
  (pe_exS PySem.F.excBase_ValueError T.xC T.gC T.kC hg ha hs hdb).imp fun _ _ _ q => op1_rd ov_exS q
end
end DL
end
section
set_option maxRecDepth 100000
set_option maxHeartbeats 4000000
namespace KxD
open PySem PySem.Spec PySem.Calls PyProof.Rows PySem.W
variable {prog : Program} {w : World} {A : Around} {E : Value → Shared → Prop} {s : Shared} {K : Frag} {x D : Addr} {ox : Obj} {od : Option Obj}
/-- x.__class__ of an exception that has a dict -/
theorem cls_dict {Q : Option Value → Shared → Prop} (T : L2.ExcC K D) (X : K.In s.heap) (I : InstAt s.heap x ox D od) (h : Q (some (.ref D)) { s with toks := s.toks + 1 }) : wpAny (model prog w) A (getAttr? (.ref x) "__class__") Q E s := by
  obtain ⟨cd, hcd, _⟩ := any_some T.hd
  have fo : findObj K D od "__class__" = some (.bind (.builtin "getset_descriptor.__get__") (.builtin "object.__class__")) := by
    simp only [findObj, hcd, T.ha, T.hn, T.ht, Option.bind_some]
  obtain ⟨hp, g, d, t, os⟩ := s
  have t0 := I.type (M := model prog w)
  have t1 := looks_findIn (M := model prog w) X T.hg
  have t2 := looks_findIn (M := model prog w) X T.hk
  have t3 := looks_find (M := model prog w) X I fo
  have t4 : Looks (model prog w) hp (isInstance (.ref x) (.type "BaseException")) true := t0.andThen (looks_subIn X T.hs)
  have z2 : (Value.builtin "BaseException.__getattribute__" == Value.builtin "object.__getattribute__") = false := by decide +kernel
  simp only [getAttr?, getAttrBy?, getAttrBy]
  refine wpAny_bind (wpAny_mkText (wpAny_bind (wpAny_attempt (wpAny_holding (wpAny_bind (t0.at (wpAny_bind (t1.at ?_))))))))
  simp only [z2, Bool.and_false, Bool.false_eq_true, if_false, getAttrByItsOwn, hookBefore, callGetattribute, boundAndCalled]
  have on : onTheHeap (Value.ref D) = true := rfl
  simp only [on, if_true]
  refine wpAny_bind (t2.at (wpAny_bind (wpAny_attempt (wpAny_holding ?_))))
  simp only [Bool.false_and, Bool.false_eq_true, if_false, PySem.F.excAttr_ValueError.ga.bind]
  refine wpAny_bind (wpAny_pure (wpAny_call (codeAny_call_builtin PySem.F.excAttr_ValueError.ga.plain PySem.F.entry_bexc_ga ?_)))
  refine @check_slot (model prog w) _ _ ⟨hp, g, d, t + 1, os⟩ "BaseException.__getattribute__" "BaseException" "__getattribute__" (.ref x) [.str "__class__" t] [] _ (by decide +kernel) (by decide +kernel) t4 (PySem.F.args_bexc_ga (.ref x) (.str "__class__" t)) ?_
  unfold Builtin.«object.__getattribute__»
  refine wpAny_bind (wpAny_of_eq (a := ((Value.ref x : Value), [Value.str "__class__" t])) (by rfl) (wpAny_bind (wpAny_pure (wpAny_bind (t0.at (wpAny_bind (t3.at ?_)))))))
  refine wpAny_bind (wpAny_holding (wpAny_call (class_get (s := ⟨hp, g, d, t + 1, os⟩) (ox := ox) (od := od) X I T.hm ?_)))
  refine wpAny_pure ?_
  show wpAny _ _ (handedOut (.ref D)) _ _ _
  rw [handedOut_of (v := .ref D) rfl]
  repeat (first | exact h | refine wpAny_pure ?_ | refine wpAny_bind ?_)
end KxD
end
section
set_option maxRecDepth 100000
set_option maxHeartbeats 4000000
namespace DL
open PySem PySem.Spec PyProof.Rows L2
variable [tb : Tb]
/-- an exception object that is tracked -/
def IsEx (H : Hp) (a C : Addr) : Prop := (∃ d fs, H a = some (ExX C d a) ∧ XdAt H d fs) ∨ ∃ t, H a = some (ExS C t a)
theorem XdAt.has {X : Cx} {pins : List (Addr × Obj)} {σ : L2.St} {H : Hp} {s : Shared} {d : Option Addr} {fs : List (Str × V)} (I : L2.Inv X pins σ H s) (x : XdAt H d fs) :
    ∃ od : Option Obj, (match d with | none => od = none | some dd => ∃ o, od = some o ∧ s.heap.get? dd = some o) := by
  cases d with
  | none => exact ⟨none, rfl⟩
  | some dd =>
    obtain ⟨mA, hns, hr⟩ := (show ObjOk X.prog X.w H s.heap dd (.xd fs) from I.hok dd _ x)
    obtain ⟨od, ho, _⟩ := lookIn_ns hns
    exact ⟨some od, od, rfl, ho⟩
theorem IsEx.inst {X : Cx} {pins : List (Addr × Obj)} {σ : L2.St} {H : Hp} {s : Shared} {a C : Addr} (I : L2.Inv X pins σ H s) (x : IsEx H a C) : ∃ oe od, PySem.W.InstAt s.heap a oe C od := by
  rcases x with ⟨d, fs, e, xd⟩ | ⟨t, e⟩
  · obtain ⟨⟨oe, vs, h1, h2, h3⟩, _, _⟩ := I.hok a _ e
    obtain ⟨od, hd⟩ := xd.has I
    refine ⟨oe, od, h1, h2.1, by unfold PySem.W.notCls; rw [h3] <;> rfl, ?_⟩
    rw [h2.2]
    cases d with
    | none => subst hd; trivial
    | some dd => obtain ⟨o, rfl, q⟩ := hd; exact q
  · obtain ⟨⟨oe, vs, h1, h2, h3, _⟩, _, _⟩ := I.hok a _ e
    refine ⟨oe, none, h1, h2.1, by unfold PySem.W.notCls; rw [h3] <;> rfl, ?_⟩
    rw [h2.2]
    trivial
theorem rep_isEx {K : PySem.W.Frag} {F H : Hp} {C : Addr} {ns : List Str} {ds : List D} {v : V} (s : Same F H) (h : Rep K F (.exn C ns ds) v) : ∃ a, v = .ref a ∧ IsEx H a C := by
  simp only [Rep] at h
  obtain ⟨a, rfl, ⟨d, vs, h1, h2, _⟩ | ⟨t, x, h1, _⟩⟩ := h
  · exact ⟨a, rfl, .inl ⟨d, _, s _ _ h1, h2.same s⟩⟩
  · exact ⟨a, rfl, .inr ⟨t, s _ _ h1⟩⟩
theorem kit_ex {K : PySem.W.Frag} {a C : Addr} {oe : Obj} {od : Option Obj} (T : L2.ExcC K C) : PySem.W.KitX K (.ref a) (.ref C) (fun h => PySem.W.InstAt h a oe C od) := by
  obtain ⟨cd, hc, _⟩ := PySem.W.any_some T.hd
  have lk : ∃ o, K.lookup C = some o ∧ o.data = .cls cd := by
    unfold PySem.W.clsIn at hc
    split at hc
    · rename_i ho
      cases hc
      exact ⟨_, ho, rfl⟩
    · cases hc
  obtain ⟨o, h1, h2⟩ := lk
  exact {
    ty := fun _ _ _ I => I.type
    it := fun M h X _ => fun A Q E s k q => PySem.ks_wpAny_isType_cls (k _ _ (X _ _ h1)) h2 q
    ne := fun h tp dd its n sl X htp => by
      refine Bool.eq_false_iff.mpr fun q => ?_
      have e : C = tp := Value.ref.inj (beq_iff_eq.mp q)
      rw [← e, X _ _ h1] at htp
      cases htp
      cases h2
    ca := fun X I k => KxD.cls_dict T X I k }
def rIsY (K : PySem.W.Frag) : List V → Hp → VK → Prop := fun xs H Q => ∃ (a C : Addr) (c : V) (cv : Value) (b : Bool), xs = [.ref a, c] ∧ IsEx H a C ∧ L2.ExcC K C ∧ (∀ u, RelV c u → u = cv) ∧ PySem.W.kitOne K (.ref C) cv = some b ∧ Q (.bl b) H
theorem call_isY {X : Cx} : CallR X (.builtin "isinstance") (rIsY X.K) := by
  intro pins s σ H xs us Q I r h
  obtain ⟨a, C, c, cv, b, rfl, hx, T, hcv, e, q⟩ := h
  obtain ⟨u1, u2, rfl, r1, r2⟩ := vals2 r
  cases (show u1 = Value.ref a from r1)
  have ec := hcv _ r2
  subst ec
  obtain ⟨oe, od, J⟩ := hx.inst I
  exact PySem.W.kia_one (kit_ex T) I.kIn J e (fun z => nomatch z) fun tk => ⟨.bl b, H, I.tok tk, rfl, q⟩
/-- what is asked of the classes: the class y (at C, or the builtin n), and whether the instances of those told are its own -/
def XIy (K : PySem.W.Frag) (cv : Value) (hs : List (Addr × Bool)) : Prop := ∀ p ∈ hs, L2.ExcC K p.1 ∧ PySem.W.kitOne K (.ref p.1) cv = some p.2
def lkA : List (Addr × Bool) → Addr → Option Bool
  | [], _ => none
  | p :: r, a => if p.1 = a then some p.2 else lkA r a
theorem lkA_mem : ∀ {l : List (Addr × Bool)} {a : Addr} {b : Bool}, lkA l a = some b → (a, b) ∈ l
  | [], _, _, e => by cases e
  | p :: r, a, b, e => by
    unfold lkA at e
    split at e
    · rename_i h
      subst h
      cases e
      exact .head _
    · exact .tail _ (lkA_mem e)
def hIsY (c : D) (hs : List (Addr × Bool)) : List D → Option R := fun ds => match ds, c with
  | [.exn C _ _, .ref b], .ref b2 => if b = b2 then (lkA hs C).map (fun t => .val (.bl t)) else none
  | [.exn C _ _, .ty n], .ty m => if n = m then (lkA hs C).map (fun t => .val (.bl t)) else none
  | _, _ => none
theorem blt_isYo {X : Cx} {y : Addr} {hs : List (Addr × Bool)} (T : XIy X.K (.ref y) hs) : BltR X "isinstance" (hIsY (.ref y) hs) := ⟨_, call_isY, fun F H ds vs ro Q s a e q => by
  unfold hIsY at e
  split at e
  · rename_i C ns ds b b2 hc
    cases hc
    split at e
    · rename_i hb
      subst hb
      obtain ⟨t, ht, rfl⟩ := Option.map_eq_some_iff.mp e
      obtain ⟨v, u, rfl, hv, hu⟩ := Vws.two a
      obtain ⟨x, rfl, hx⟩ := rep_isEx s hv
      have hu : u = .ref _ := hu
      subst hu
      obtain ⟨t1, t2⟩ := T _ (lkA_mem ht)
      exact ⟨x, C, _, _, t, rfl, hx, t1, fun u r => r, t2, q.flat s rfl⟩
    · cases e
  · rename_i hc
    cases hc
  · cases e⟩
theorem blt_isYt {X : Cx} {n : String} {hs : List (Addr × Bool)} (T : XIy X.K (.type n) hs) : BltR X "isinstance" (hIsY (.ty n) hs) := ⟨_, call_isY, fun F H ds vs ro Q s a e q => by
  unfold hIsY at e
  split at e
  · rename_i hc
    cases hc
  · rename_i C ns ds b b2 hc
    cases hc
    split at e
    · rename_i hb
      subst hb
      obtain ⟨t, ht, rfl⟩ := Option.map_eq_some_iff.mp e
      obtain ⟨v, u, rfl, hv, hu⟩ := Vws.two a
      obtain ⟨x, rfl, hx⟩ := rep_isEx s hv
      have hu : u = .ty _ := hu
      subst hu
      obtain ⟨t1, t2⟩ := T _ (lkA_mem ht)
      exact ⟨x, C, _, _, t, rfl, hx, t1, fun u r => r, t2, q.flat s rfl⟩
    · cases e
  · cases e⟩
def dIsY (c : D) (hs : List (Addr × Bool)) (f : M R) : M R := dB (hIsY c hs) (dCons f (dCons (dC c) dNil))
section
variable {X : Cx} {pv : Nat → Option V} {W : WX} {C : Addr} {x y : Str} {n : String} {hs : List (Addr × Bool)} {e : Expr} {f : M R} {p p2 pos : Pos}
theorem de_isYo (T : XIy X.K (.ref C) hs) (gC : X.mg y = some (.ref C)) (hgy : Gl X y) (hgi : Gl X "isinstance") (hni : X.mg "isinstance" = none) (ha : PE X e (tD X.K X.mg pv W f)) (hs1 : starEach (e :: [.Name y p2]) X.env = (false, eval e X.env) :: starEach [.Name y p2] X.env := by rfl) (hdy : (y == ("__debug__" : Str)) = false := by decide)
    (hpl : (backTo pos (starEach [.Name y p2] X.env)).any (·.1) = false := by rfl) : PE X (.Call (.Name "isinstance" p) [e, .Name y p2] [] pos) (tD X.K X.mg pv W (dIsY (.ref C) hs f)) :=
  de_blt (blt_isYo T) hgi hni (by rfl) (da_cons ha (da_cons (de_glob (v := .ref C) hgy gC rfl (fun _ => rfl) hdy) da_nil) hs1) (by decide) (by decide) hs1 hpl
theorem de_isYt (T : XIy X.K (.type n) hs) (hm : X.mg y = none) (hv : bootBuiltins y = some (.type n)) (hn : y ≠ "__name__") (hgy : Gl X y) (hgi : Gl X "isinstance") (hni : X.mg "isinstance" = none) (ha : PE X e (tD X.K X.mg pv W f)) (hs1 : starEach (e :: [.Name y p2]) X.env = (false, eval e X.env) :: starEach [.Name y p2] X.env := by rfl) (hdy : (y == ("__debug__" : Str)) = false := by decide)
    (hpl : (backTo pos (starEach [.Name y p2] X.env)).any (·.1) = false := by rfl) : PE X (.Call (.Name "isinstance" p) [e, .Name y p2] [] pos) (tD X.K X.mg pv W (dIsY (.ty n) hs f)) :=
  de_blt (blt_isYt T) hgi hni (by rfl) (da_cons ha (da_cons (de_ty hgy hm hv hn hdy) da_nil) hs1) (by decide) (by decide) hs1 hpl
end
/-! ### str(e) -/
structure StrC (K : PySem.W.Frag) (C : Addr) : Prop where
  st : PySem.W.findIn K (.ref C) "__str__" = some (some (.builtin "BaseException.__str__"))
  be : PySem.W.subIn K (.ref C) (.type "BaseException") = some true
def rStrE (K : PySem.W.Frag) : List V → Hp → VK → Prop := fun xs H Q => ∃ (a t C : Addr) (x : Str), xs = [.ref a] ∧ H a = some (ExS C t a) ∧ H t = some (.tup [.str x]) ∧ StrC K C ∧ Q (.str x) H
theorem call_strE {X : Cx} {k : Nat} (hr : Room k X.A) : CallR X (.type "str") (rStrE X.K) := by
  intro pins s σ H xs us Q I r h
  obtain ⟨a, t, C, x, rfl, h1, h2, T, q⟩ := h
  obtain ⟨u, rfl, hu⟩ := vals1 r
  cases (show u = Value.ref a from hu)
  obtain ⟨⟨oe, vs, e1, e2, e3, e4⟩, _, _⟩ := I.hok a _ h1
  obtain ⟨_, its, rv, o, e5, e6, n, e7⟩ := (show ObjOk X.prog X.w H s.heap t (.tup [.str x]) from I.hok t _ h2)
  obtain ⟨u, rfl, tk, rfl⟩ := vals1 rv
  exact PySem.P.str_of_C_one (by have := hr.un; omega) ⟨I.kIn, oe, vs, e1, e2.1, e3, e4⟩ ⟨o, n, e5, e6, e7⟩ T.st T.be ⟨.str x, H, I, ⟨tk, rfl⟩, q⟩
def hStrE (hs : List Addr) : List D → Option R
  | [.exn C [] [.str x]] => if C ∈ hs then some (.val (.str x)) else none
  | _ => none
theorem typ_strE {X : Cx} {k : Nat} {hs : List Addr} (hr : Room k X.A) (T : ∀ C ∈ hs, StrC X.K C) : TypR X "str" (hStrE hs) := ⟨_, call_strE hr, fun F H ds vs ro Q s a e q => by
  unfold hStrE at e
  split at e
  · rename_i C x
    split at e
    · rename_i hm
      cases e
      obtain ⟨v, rfl, hv⟩ := Vws.one a
      have hv : Rep X.K F (.exn C [] [.str x]) v := hv
      simp only [Rep] at hv
      obtain ⟨b, rfl, ⟨_, _, _, _, h3, _⟩ | ⟨t, y, h1, h2, _, h4⟩⟩ := hv
      · simp at h3
      · cases h4
        exact ⟨b, t, C, x, rfl, s _ _ h1, s _ _ h2, T _ hm, q.flat s rfl⟩
    · cases e
  · cases e⟩
/-! ### e.f -/
def rFldX (C : Addr) (f : Str) : V → Hp → VK → Prop := fun x H Q => ∃ (a dd : Addr) (fs : List (Str × V)) (v : V), x = .ref a ∧ H a = some (ExX C (some dd) a) ∧ H dd = some (.xd fs) ∧ fs.lookup f = some v ∧ Q v H
def hFldX (C : Addr) (f : Str) : D → Option R
  | .exn C' (n :: ns) ds => if C' = C then (((n :: ns).zip ds).lookup f).map .val else none
  | _ => none
theorem ov_fldX {K : PySem.W.Frag} {C : Addr} {f : Str} : Op1V K (rFldX C f) (hFldX C f) := fun F H d v ro Q s a e q => by
  unfold hFldX at e
  split at e
  · rename_i C' n ns ds
    split at e
    · rename_i hC
      subst hC
      obtain ⟨d, hd, rfl⟩ := Option.map_eq_some_iff.mp e
      have hv : Rep K F (.exn C' (n :: ns) ds) v := a
      simp only [Rep] at hv
      obtain ⟨b, rfl, ⟨dd, vs, h1, h2, h3, h4⟩ | ⟨_, _, _, _, h3, _⟩⟩ := hv
      · obtain ⟨u, h5, h6⟩ := zip_lookup h4 hd
        cases dd with
        | none => rw [show (n :: ns).zip vs = [] from h2] at h5; cases h5
        | some dd => exact ⟨b, dd, _, u, rfl, s _ _ h1, s _ _ h2, h5, q.flat s h6⟩
      · cases h3
    · cases e
  · cases e
section
variable {X : Cx} {pv : Nat → Option V} {W : WX} {C : Addr} {n : Str} {e : Expr} {f : M R} {pos : Pos} {te : TE}
theorem pe_fldX (T : XfC X.K C) (hno : PySem.W.findIn X.K (.ref C) n = some none) (he : PE X e te) (hb : attributeBase e n X.env (eval e X.env) = eval e X.env) : PE X (.Attribute e n pos) (fun σ H Q => te σ H fun x H1 => rFldX C n x H1 Q) := by
  refine ⟨fun pins s σ H Q I h => ?_⟩
  refine attr_of hb (thn (he.run pins s σ H _ I h) fun u s1 hh => ?_)
  obtain ⟨x, H1, I1, rx, a, dd, fs, v, rfl, ea, ed, l, q⟩ := hh
  obtain rfl : u = Value.ref a := rx
  obtain ⟨⟨oe, vs, h1, h2, h3⟩, _, _⟩ := I1.hok a _ ea
  obtain ⟨mA, hns, hr⟩ := (show ObjOk X.prog X.w H1 s1.heap dd (.xd fs) from I1.hok dd _ ed)
  obtain ⟨od, ho, hl⟩ := lookIn_ns hns
  obtain ⟨u, hu, ru⟩ := RelO.some_of (v := v) (o := mA n) (by rw [← l]; exact hr n)
  have J : PySem.W.InstAt s1.heap a oe C (some od) := ⟨h1, h2.1, by unfold PySem.W.notCls; rw [h3] <;> rfl, by rw [h2.2]; exact ho⟩
  exact HandSPX.exc_get I1.kIn J T.ga T.gg T.exC (PySem.W.findObj_own T.hdC hno rfl (by rw [hl, hu])) (handed_of ru) ⟨v, H1, I1.tok _, ru, q⟩
theorem de_fldX (T : XfC X.K C) (hno : PySem.W.findIn X.K (.ref C) n = some none) (he : PE X e (tD X.K X.mg pv W f)) (hb : attributeBase e n X.env (eval e X.env) = eval e X.env := by rfl) : PE X (.Attribute e n pos) (tD X.K X.mg pv W (op1 (hFldX C n) f)) :=
  (pe_fldX T hno he hb).imp fun _ _ _ q => op1_rd ov_fldX q
end
end DL
end
section
set_option maxRecDepth 100000
set_option maxHeartbeats 4000000
namespace DL
open PySem PySem.Spec PyProof.Rows L2
variable [tb : Tb]
/-! ### an own error class with a maker of its own: super().__init__(f".."), self.line = line -/
structure PeC (P : Program) (K : PySem.W.Frag) (mg : Str → Option Value) (z : PePos) (x : Str) (C : Addr) : Prop where
  gC : mg x = some (.ref C)
  sup : mg "super" = none
  oex : OexC K C
  no : PySem.W.findIn K (.ref C) "line" = some none
  fn : ∃ (f cc cda : Addr) (name q : Str) (a b : Str) (g1 g2 p7 p8 p9 p10 p11 : Pos) (kV doc pm ct : Value) (an : Option Addr),
    PErr.Cls K P C f cc cda veTail4 (PySem.W.ksFn name q (peArgs g1 g2) (peBody z a b p7 p8 p9 p10 p11) PErr.scp .none kV doc pm an (.ref cda) ct cc) ∧ PySem.W.codeIn K (.ref cda) q = true ∧
    PySem.W.findIn K (.ref C) "__init__" = some (some (.ref f)) ∧ PySem.W.typeIn K (.ref f) = some (.type "function") ∧ a.length ≤ 1000 ∧ b.length ≤ 1000
/-- the numbers that it is made with here -/
def peN (i : Int) : Prop := i = 3 ∨ i = 5 ∨ i = 7
instance (i : Int) : Decidable (peN i) := by unfold peN; exact inferInstance
theorem peN_log {i : Int} (h : peN i) : i.natAbs.log2 < 1920 := by
  rcases h with rfl | rfl | rfl <;> decide
theorem peN_len {i : Int} (h : peN i) : ((toString i : String) : Str).length = 1 := by
  rcases h with rfl | rfl | rfl <;> decide
def rPe (C : Addr) : V → Hp → VK → Prop := fun v H Q => ∃ i, v = .int i ∧ peN i ∧ ∀ d a, d ≠ a → H d = none → H a = none → Q (.ref a) (upd (upd H d (.xd [("line", .int i)])) a (ExX C (some d) a))
def hPe (C : Addr) : D → Option R
  | .int i => if peN i then some (.val (.exn C ["line"] [.int i])) else none
  | _ => none
theorem ov_pe {K : PySem.W.Frag} {C : Addr} : Op1V K (rPe C) (hPe C) := fun F H d v ro Q s a e q => by
  unfold hPe at e
  split at e
  · rename_i i
    split at e
    · rename_i hi
      cases e
      refine ⟨i, a, hi, fun dd b ne n1 n2 => ?_⟩
      obtain ⟨z1, z2⟩ := nw_frz2 (o1 := .xd [("line", .int i)]) (o2 := ExX C (some dd) b) n1 n2 ne s
      refine q (.ref b) _ _ [] z1 z2 ⟨rfl, ?_⟩
      simp only [Rep]
      exact ⟨b, rfl, .inl ⟨some dd, [.int i], upd_same, by show upd (upd F dd _) b _ dd = _; rw [upd_ne ne, upd_same]; rfl, rfl, .one rfl⟩⟩
    · cases e
  · cases e
def hPe1 (C : Addr) : List D → Option R
  | [d] => hPe C d
  | _ => none
theorem cv_pe {K : PySem.W.Frag} {C : Addr} : CallV K (fun vs H Q => ∃ v, vs = [v] ∧ rPe C v H Q) (hPe1 C) := fun F H ds vs ro Q s a e q => by
  cases ds with
  | nil => cases e
  | cons d r =>
    cases r with
    | cons _ _ => cases e
    | nil =>
      obtain ⟨v, rfl, hv⟩ := Vws.one a
      exact ⟨v, rfl, ov_pe F H d v ro Q s hv e q⟩
section
variable {X : Cx} {pins : List (Addr × Obj)} {σ : L2.St} {H : Hp} {s : Shared} {z : PePos} {x : Str} {C : Addr} {k : Nat} {Q : VK} {i : Int} {tk : Tok}
theorem run_pe (T : PeC X.prog X.K X.mg z x C) (hz : z.Ok) (hr : Room (k + 1) X.A) (I : L2.Inv X pins σ H s) {rest : List Value} {kws : List (Str × Value)} (hk : rest = [.int i tk] ∧ kws = [] ∨ rest = [] ∧ kws = [(("line" : Str), .int i tk)])
    (h : rPe C (.int i) H Q) : wpAny (model X.prog X.w) X.A (call (.ref C) rest kws) (EP X pins σ Q) X.xe s := by
  obtain ⟨f, cc, cda, name, q, a, b, g1, g2, p7, p8, p9, p10, p11, kV, doc, pm, ct, an, Tc, hcd, hi, hf, la, lb⟩ := T.fn
  obtain ⟨nm, qn, N, bs, bm, sn, sub, ab, col, dd, k0, k1, k2, k3, k5, hC, hbm⟩ := T.oex.cls
  obtain ⟨i', ei, hi', qk⟩ := h
  cases ei
  obtain ⟨mb, hb1, hb2⟩ := I.ok.mod.blt
  obtain ⟨hp, g, d, t, os⟩ := s
  have hl : rest.length ≤ sizeLine := by
    rcases hk with ⟨rfl, _⟩ | ⟨rfl, _⟩
    · rw [sizeLine_eq]; show 1 ≤ 16777216; omega
    · exact Nat.zero_le _
  have kk : ∀ c o, hp.get? c = some o → (PErr.laid hp C rest).get? c = some o := fun c o e => Heap.get?_push_of_some _ (Heap.get?_push_of_some _ e)
  have hget : (PErr.laid hp C rest).get? (hp.objs.size + 1) = some (PySem.HandSPX.excO C hp.objs.size) := by heap_get
  have new : hp.get? (hp.objs.size + 1) = none := by
    cases e : hp.get? (hp.objs.size + 1) with
    | none => rfl
    | some o => exact (Nat.lt_irrefl _ (Nat.lt_of_succ_lt (Heap.lt_size e))).elim
  have be : X.base.get? (hp.objs.size + 1) = none := by
    cases e : X.base.get? (hp.objs.size + 1) with
    | none => rfl
    | some o => rw [I.bk _ _ e] at new; cases new
  have sz := sizeLine_eq
  have l1 := peN_len hi'
  refine wpAny_call (PErr.mcall (fun Y => PySem.HandSPX.refsVE_contains Y bm hbm) (I.kIn _ _ hC) (PySem.W.looks_findIn I.kIn hi) (fun self => PySem.W.bind_fn I.kIn self hf) hl ?_)
  refine PErr.init (e := hp.objs.size + 1) (t := hp.objs.size) (i := i) (tk := tk) (binds := [(("self" : Str), .ref (hp.objs.size + 1)), (("line" : Str), .int i tk)]) (base := X.base) (mg := X.mg) (mb := mb) rfl Tc PySem.F.excBase_ValueError hcd hC hbm T.oex.sa T.no (hr.make C rest kws).depth I.ok.mod.kin (fun c o e => kk c o (I.bk c o e)) be I.ok.mod.glob hb1 T.sup ((hb2 _ (by decide)).trans rfl) I.ok.mod.nolimit hget ?_ rfl (peN_log hi') ?_ (fun L => hz q L f cda cc a b) fun t' dx h' tk' k1 k2 k3 k4 => ?_
  · rcases hk with ⟨rfl, rfl⟩ | ⟨rfl, rfl⟩
    · exact .of_eq rfl
    · exact .of_eq rfl
  · have e0 : (Str.empty ++ a).length = a.length := by rw [strLen_append]; show 0 + _ = _; omega
    refine ⟨?_, ?_, ?_⟩
    · rw [strLen_append, e0, l1]; omega
    · rw [strLen_append, strLen_append, e0, l1]; omega
    · rw [e0]; omega
  · have n2 : H (hp.objs.size + 1) = none := I.hok.gone new
    have kE : ∀ c o, hp.get? c = some o → h'.get? c = some o := fun c o e => k1 c o (fun y => by rw [y, new] at e; cases e) (kk c o e)
    have hsz : (PErr.laid hp C rest).objs.size = hp.objs.size + 2 := by rw [Heap.size_push, Heap.size_push]
    have d0 : hp.get? dx = none := by
      cases e : hp.get? dx with
      | none => rfl
      | some o =>
        have z2 : (PErr.laid hp C rest).objs.size ≤ dx := k2
        rw [hsz] at z2
        exact (Nat.lt_irrefl _ (Nat.lt_of_lt_of_le (Heap.lt_size e) (Nat.le_trans (Nat.le_add_right _ 2) z2))).elim
    have k2' : (PErr.laid hp C rest).objs.size ≤ dx := k2
    have ne : dx ≠ hp.objs.size + 1 := by rw [hsz] at k2'; omega
    have n1 : H dx = none := I.hok.gone d0
    have xo : ∀ H2 : Hp, ObjOk X.prog X.w H2 h' dx (.xd [("line", .int i)]) := fun H2 => ⟨_, k4, fun y => by
      show RelO (List.lookup y [("line", V.int i)]) (if y = ("line" : Str) then some (.int i tk) else none)
      rw [List.lookup_cons]
      by_cases hy : y = ("line" : Str)
      · subst hy; exact ⟨tk, rfl⟩
      · rw [if_neg hy, show (y == ("line" : Str)) = false from beq_false_of_ne hy]; exact trivial⟩
    exact ⟨rfl, ⟨.ref _, _, inv_laid2 (s := ⟨hp, g, d, t, os⟩) I kE d0 new n1 n2 (xo _) (exX_ok k3 ⟨rfl, rfl⟩ rfl), rfl, qk dx _ ne n1 n2⟩⟩
variable {pv : Nat → Option V} {W : WX} {e : Expr} {f : M R} {p pos kpos : Pos} {ta : TE} {nmk : Str}
theorem pe_mkPe (T : PeC X.prog X.K X.mg z x C) (hz : z.Ok) (hr : Room (k + 1) X.A) (hg : Gl X x) (he : PE X e ta) (hs : starEach [e] X.env = (false, eval e X.env) :: starEach [] X.env := by rfl) (hdb : (x == ("__debug__" : Str)) = false := by decide) :
    PE X (.Call (.Name x p) [e] [] pos) (fun σ H Q => ta σ H fun v H1 => rPe C v H1 Q) := by
  refine ⟨fun pins s σ H Q I h => ?_⟩
  refine wpAny_Call_Name_kw (ld_glob I hg T.gC ?_ hdb)
  refine PySem.W.callWith_K (h₀ := X.base) I.ok.mod.kin T.oex.kC ?_ hs (by rfl)
  rw [hs]
  show wpAny _ _ (spliced ((false, eval e X.env) :: backTo pos (starEach [] X.env))) _ _ s
  refine Calls.spliced_cons (thn (he.run pins s σ H _ I h) fun u s1 ⟨v, H1, I1, r1, hv⟩ => ?_)
  obtain ⟨i, rfl, q⟩ := id hv
  obtain ⟨tk, rfl⟩ := r1
  refine Calls.spliced_nil ⟨I1.kIn, ?_⟩
  exact run_pe T hz hr I1 (.inl ⟨rfl, rfl⟩) hv
theorem de_mkPe (T : PeC X.prog X.K X.mg z x C) (hz : z.Ok) (hr : Room (k + 1) X.A) (hg : Gl X x) (he : PE X e (tD X.K X.mg pv W f)) (hs : starEach [e] X.env = (false, eval e X.env) :: starEach [] X.env := by rfl) (hdb : (x == ("__debug__" : Str)) = false := by decide) :
    PE X (.Call (.Name x p) [e] [] pos) (tD X.K X.mg pv W (op1 (hPe C) f)) := (pe_mkPe T hz hr hg he hs hdb).imp fun _ _ _ q => op1_rd ov_pe q
theorem pe_mkPeK (T : PeC X.prog X.K X.mg z x C) (hz : z.Ok) (hr : Room (k + 1) X.A) (hg : Gl X x) (hdb : (x == ("__debug__" : Str)) = false := by decide)
    (hall : (backToKw pos (keywordEach [⟨some "line", e, kpos⟩] X.env)).all (·.1.isSome) = true := by rfl) (hks : (backToKw pos (keywordEach [⟨some "line", e, kpos⟩] X.env)).filterMap (·.1) = [("line" : Str)] := by rfl)
    (hpl : ((backTo pos (starEach [] X.env)).any (·.1) || (backToKw pos (keywordEach [⟨some "line", e, kpos⟩] X.env)).any (·.1.isNone)) = false := by rfl) (hx : PK X [⟨some "line", e, kpos⟩] (tDA X.K X.mg pv W (dCons f dNil))) :
    PE X (.Call (.Name x p) [] [⟨some "line", e, kpos⟩] pos) (fun σ H Q => tDA X.K X.mg pv W (dCons f dNil) σ H fun vs H1 => ∃ v, vs = [v] ∧ rPe C v H1 Q) := by
  refine ⟨fun pins s σ H Q I h => ?_⟩
  refine wpAny_Call_Name_kw (ld_glob I hg T.gC ?_ hdb)
  refine PySem.W.callWith_KW0 (h₀ := X.base) I.ok.mod.kin T.oex.kC hall ?_ hpl
  refine thn (hx.run pos pins s σ H _ I h) fun ws s2 ⟨zs, H2, I2, rz, v, ev, hv⟩ => ⟨I2.kIn, ?_⟩
  subst ev
  obtain ⟨i, rfl, q⟩ := id hv
  obtain ⟨u, rfl, tk, rfl⟩ := vals1 rz
  rw [hks]
  exact run_pe T hz hr I2 (.inr ⟨rfl, rfl⟩) hv
theorem de_mkPeK (T : PeC X.prog X.K X.mg z x C) (hz : z.Ok) (hr : Room (k + 1) X.A) (hg : Gl X x) (hx : PK X [⟨some "line", e, kpos⟩] (tDA X.K X.mg pv W (dCons f dNil))) (hdb : (x == ("__debug__" : Str)) = false := by decide)
    (hall : (backToKw pos (keywordEach [⟨some "line", e, kpos⟩] X.env)).all (·.1.isSome) = true := by rfl) (hks : (backToKw pos (keywordEach [⟨some "line", e, kpos⟩] X.env)).filterMap (·.1) = [("line" : Str)] := by rfl)
    (hpl : ((backTo pos (starEach [] X.env)).any (·.1) || (backToKw pos (keywordEach [⟨some "line", e, kpos⟩] X.env)).any (·.1.isNone)) = false := by rfl) :
    PE X (.Call (.Name x p) [] [⟨some "line", e, kpos⟩] pos) (tD X.K X.mg pv W (dB (hPe1 C) (dCons f dNil))) :=
  (pe_mkPeK T hz hr hg hdb hall hks hpl hx).imp fun _ _ _ q => dB_rd cv_pe q
end
end DL
end
section
set_option maxRecDepth 100000
set_option maxHeartbeats 4000000
namespace Gk19
open PySem PySem.Spec PyProof.Rows L2 DL
variable [tb : Tb]
def topS (i : Nat) : Stmt := PySem.Challenge.rw_stretchhues_k19_error_classes.prog.main.body.getD i (.Pass ⟨0, 0, 0, 0⟩)
variable [cl : Cl]
def exTab (t : Str → Bool) : List (Addr × Bool) := exNs.map fun z => (Cl.C z, t z)
theorem peZ_ok : peZ.Ok := fun q L f cda cc a b => ⟨_, rfl⟩
abbrev s__law_made : Stmt := topS 26
abbrev s__law_kinds : Stmt := topS 27
abbrev s_law : Stmt := topS 28
/-- what the top has written -/
structure Tops (P : Program) (K : PySem.W.Frag) (mg : Str → Option Value) (base : Heap) : Prop where
  d__law_made : DefF K mg "_law_made" s__law_made []
  d__law_kinds : DefF K mg "_law_kinds" s__law_kinds ["_law_one"]
  d_law : DefF K mg "law" s_law ["_law_script"]
  n_ValueError : mg "ValueError" = none
  n_isinstance : mg "isinstance" = none
  n_len : mg "len" = none
  n_range : mg "range" = none
  n_str : mg "str" = none
  xs_FoeHasWon : ExcCls K mg "FoeHasWon" (Cl.C "FoeHasWon")
  xs_HueError : ExcCls K mg "HueError" (Cl.C "HueError")
  xs_InvalidColour : ExcCls K mg "InvalidColour" (Cl.C "InvalidColour")
  xs_InvalidColours : ExcCls K mg "InvalidColours" (Cl.C "InvalidColours")
  xs_InvalidGame : ExcCls K mg "InvalidGame" (Cl.C "InvalidGame")
  xs_InvalidIndex : ExcCls K mg "InvalidIndex" (Cl.C "InvalidIndex")
  xs_InvalidKind : ExcCls K mg "InvalidKind" (Cl.C "InvalidKind")
  xs_InvalidLine : ExcCls K mg "InvalidLine" (Cl.C "InvalidLine")
  xs_InvalidMenu : ExcCls K mg "InvalidMenu" (Cl.C "InvalidMenu")
  xs_InvalidMove : ExcCls K mg "InvalidMove" (Cl.C "InvalidMove")
  xs_InvalidName : ExcCls K mg "InvalidName" (Cl.C "InvalidName")
  xs_InvalidNumber : ExcCls K mg "InvalidNumber" (Cl.C "InvalidNumber")
  xs_InvalidOrder : ExcCls K mg "InvalidOrder" (Cl.C "InvalidOrder")
  xs_InvalidPoint : ExcCls K mg "InvalidPoint" (Cl.C "InvalidPoint")
  xs_InvalidPosition : ExcCls K mg "InvalidPosition" (Cl.C "InvalidPosition")
  xs_InvalidRow : ExcCls K mg "InvalidRow" (Cl.C "InvalidRow")
  xs_InvalidRule : ExcCls K mg "InvalidRule" (Cl.C "InvalidRule")
  xs_InvalidStretch : ExcCls K mg "InvalidStretch" (Cl.C "InvalidStretch")
  xs_NameIsTaken : ExcCls K mg "NameIsTaken" (Cl.C "NameIsTaken")
  xs_NotFree : ExcCls K mg "NotFree" (Cl.C "NotFree")
  xs_NothingToUndo : ExcCls K mg "NothingToUndo" (Cl.C "NothingToUndo")
  xs_TooMany : ExcCls K mg "TooMany" (Cl.C "TooMany")
  xs_UnknownName : ExcCls K mg "UnknownName" (Cl.C "UnknownName")
  me_FoeHasWon : mg "FoeHasWon" = some (.ref (Cl.C "FoeHasWon"))
  iy_FoeHasWon : XIy K (.ref (Cl.C "FoeHasWon")) (exTab exT_FoeHasWon)
  me_HueError : mg "HueError" = some (.ref (Cl.C "HueError"))
  iy_HueError : XIy K (.ref (Cl.C "HueError")) (exTab exT_HueError)
  me_InvalidColour : mg "InvalidColour" = some (.ref (Cl.C "InvalidColour"))
  iy_InvalidColour : XIy K (.ref (Cl.C "InvalidColour")) (exTab exT_InvalidColour)
  me_InvalidColours : mg "InvalidColours" = some (.ref (Cl.C "InvalidColours"))
  iy_InvalidColours : XIy K (.ref (Cl.C "InvalidColours")) (exTab exT_InvalidColours)
  me_InvalidGame : mg "InvalidGame" = some (.ref (Cl.C "InvalidGame"))
  iy_InvalidGame : XIy K (.ref (Cl.C "InvalidGame")) (exTab exT_InvalidGame)
  me_InvalidIndex : mg "InvalidIndex" = some (.ref (Cl.C "InvalidIndex"))
  iy_InvalidIndex : XIy K (.ref (Cl.C "InvalidIndex")) (exTab exT_InvalidIndex)
  me_InvalidKind : mg "InvalidKind" = some (.ref (Cl.C "InvalidKind"))
  iy_InvalidKind : XIy K (.ref (Cl.C "InvalidKind")) (exTab exT_InvalidKind)
  me_InvalidLine : mg "InvalidLine" = some (.ref (Cl.C "InvalidLine"))
  iy_InvalidLine : XIy K (.ref (Cl.C "InvalidLine")) (exTab exT_InvalidLine)
  me_InvalidMenu : mg "InvalidMenu" = some (.ref (Cl.C "InvalidMenu"))
  iy_InvalidMenu : XIy K (.ref (Cl.C "InvalidMenu")) (exTab exT_InvalidMenu)
  me_InvalidMove : mg "InvalidMove" = some (.ref (Cl.C "InvalidMove"))
  iy_InvalidMove : XIy K (.ref (Cl.C "InvalidMove")) (exTab exT_InvalidMove)
  me_InvalidName : mg "InvalidName" = some (.ref (Cl.C "InvalidName"))
  iy_InvalidName : XIy K (.ref (Cl.C "InvalidName")) (exTab exT_InvalidName)
  me_InvalidNumber : mg "InvalidNumber" = some (.ref (Cl.C "InvalidNumber"))
  iy_InvalidNumber : XIy K (.ref (Cl.C "InvalidNumber")) (exTab exT_InvalidNumber)
  me_InvalidOrder : mg "InvalidOrder" = some (.ref (Cl.C "InvalidOrder"))
  iy_InvalidOrder : XIy K (.ref (Cl.C "InvalidOrder")) (exTab exT_InvalidOrder)
  me_InvalidPoint : mg "InvalidPoint" = some (.ref (Cl.C "InvalidPoint"))
  iy_InvalidPoint : XIy K (.ref (Cl.C "InvalidPoint")) (exTab exT_InvalidPoint)
  me_InvalidPosition : mg "InvalidPosition" = some (.ref (Cl.C "InvalidPosition"))
  iy_InvalidPosition : XIy K (.ref (Cl.C "InvalidPosition")) (exTab exT_InvalidPosition)
  me_InvalidRow : mg "InvalidRow" = some (.ref (Cl.C "InvalidRow"))
  iy_InvalidRow : XIy K (.ref (Cl.C "InvalidRow")) (exTab exT_InvalidRow)
  me_InvalidRule : mg "InvalidRule" = some (.ref (Cl.C "InvalidRule"))
  iy_InvalidRule : XIy K (.ref (Cl.C "InvalidRule")) (exTab exT_InvalidRule)
  me_InvalidStretch : mg "InvalidStretch" = some (.ref (Cl.C "InvalidStretch"))
  iy_InvalidStretch : XIy K (.ref (Cl.C "InvalidStretch")) (exTab exT_InvalidStretch)
  me_NameIsTaken : mg "NameIsTaken" = some (.ref (Cl.C "NameIsTaken"))
  iy_NameIsTaken : XIy K (.ref (Cl.C "NameIsTaken")) (exTab exT_NameIsTaken)
  me_NotFree : mg "NotFree" = some (.ref (Cl.C "NotFree"))
  iy_NotFree : XIy K (.ref (Cl.C "NotFree")) (exTab exT_NotFree)
  me_NothingToUndo : mg "NothingToUndo" = some (.ref (Cl.C "NothingToUndo"))
  iy_NothingToUndo : XIy K (.ref (Cl.C "NothingToUndo")) (exTab exT_NothingToUndo)
  me_ParseError : mg "ParseError" = some (.ref (Cl.C "ParseError"))
  iy_ParseError : XIy K (.ref (Cl.C "ParseError")) (exTab exT_ParseError)
  me_TooMany : mg "TooMany" = some (.ref (Cl.C "TooMany"))
  iy_TooMany : XIy K (.ref (Cl.C "TooMany")) (exTab exT_TooMany)
  me_UnknownName : mg "UnknownName" = some (.ref (Cl.C "UnknownName"))
  iy_UnknownName : XIy K (.ref (Cl.C "UnknownName")) (exTab exT_UnknownName)
  it_ValueError : XIy K (.type "ValueError") (exTab fun _ => true)
  st_all : ∀ C ∈ exNs.map fun z => Cl.C z, StrC K C
  xf_ParseError : L2.XfC K (Cl.C "ParseError")
  nl_ParseError : PySem.W.findIn K (.ref (Cl.C "ParseError")) "line" = some none
  pe_ParseError : PeC P K mg peZ "ParseError" (Cl.C "ParseError")
section
variable {P : Program} {w : World} {K : PySem.W.Frag} {mg : Str → Option Value} {base : Heap} {k : Nat}
/-! ### _law_made -/
theorem sc__law_made : FnScope ["_law_found"] [] (defScope s__law_made) := ⟨rfl, rfl, rfl, by decide +kernel, rfl, by decide +kernel, by decide +kernel⟩
noncomputable def b__law_made : M DL.Flow :=
  (sSeq (sSet .frz 0 (dLst (dCons (op1 (hExS (Cl.C "FoeHasWon")) (dC (.str "x"))) (dCons (op1 (hExS (Cl.C "InvalidGame")) (dC (.str "x"))) (dCons (op1 (hExS (Cl.C "InvalidColour")) (dC (.str "x"))) (dCons (op1 (hExS (Cl.C "InvalidColours")) (dC (.str "x"))) (dCons (op1 (hExS (Cl.C "InvalidIndex")) (dC (.str "x"))) dNil)))))))
  (sSeq (sSet .frz 0 (op2 hAdd (dVar 0) (dLst (dCons (op1 (hExS (Cl.C "InvalidKind")) (dC (.str "x"))) (dCons (op1 (hExS (Cl.C "InvalidLine")) (dC (.str "x"))) (dCons (op1 (hExS (Cl.C "InvalidMove")) (dC (.str "x"))) (dCons (op1 (hExS (Cl.C "InvalidName")) (dC (.str "x"))) (dCons (op1 (hExS (Cl.C "InvalidNumber")) (dC (.str "x"))) dNil))))))))
  (sSeq (sSet .frz 0 (op2 hAdd (dVar 0) (dLst (dCons (op1 (hExS (Cl.C "InvalidOrder")) (dC (.str "x"))) (dCons (op1 (hExS (Cl.C "InvalidPoint")) (dC (.str "x"))) (dCons (op1 (hExS (Cl.C "InvalidPosition")) (dC (.str "x"))) (dCons (op1 (hExS (Cl.C "InvalidRow")) (dC (.str "x"))) (dCons (op1 (hExS (Cl.C "InvalidRule")) (dC (.str "x"))) dNil))))))))
  (sSeq (sSet .frz 0 (op2 hAdd (dVar 0) (dLst (dCons (op1 (hExS (Cl.C "InvalidStretch")) (dC (.str "x"))) (dCons (op1 (hExS (Cl.C "NameIsTaken")) (dC (.str "x"))) (dCons (op1 (hExS (Cl.C "NotFree")) (dC (.str "x"))) (dCons (op1 (hExS (Cl.C "NothingToUndo")) (dC (.str "x"))) (dCons (op1 (hExS (Cl.C "TooMany")) (dC (.str "x"))) dNil))))))))
  (sRet (op2 hAdd (dVar 0) (dLst (dCons (op1 (hExS (Cl.C "UnknownName")) (dC (.str "x"))) (dCons (op1 (hExS (Cl.C "InvalidMenu")) (dC (.str "x"))) (dCons (op1 (hPe (Cl.C "ParseError")) (dC (.int 7))) dNil))))))))))
noncomputable def f__law_made : List O → RF := mkFn 1 b__law_made
theorem ok__law_made (T : Tops P K mg base) : GV P w K mg base (k + 2) "_law_made" [] f__law_made :=
  gv_ok T.d__law_made sc__law_made (by decide) fun f cdv A outer s H E pv hr gd =>
  (dss_cons (ds_set .frz (i := 0) sc__law_made.nd rfl (.inl rfl) (de_lst (da_cons (de_exS T.xs_FoeHasWon (by rfl) de_str) (da_cons (de_exS T.xs_InvalidGame (by rfl) de_str) (da_cons (de_exS T.xs_InvalidColour (by rfl) de_str) (da_cons (de_exS T.xs_InvalidColours (by rfl) de_str) (da_cons (de_exS T.xs_InvalidIndex (by rfl) de_str) da_nil)))))))
  (dss_cons (ds_set .frz (i := 0) sc__law_made.nd rfl (.inl rfl) (de_add (de_var (i := 0) rfl (.inl rfl)) (de_lst (da_cons (de_exS T.xs_InvalidKind (by rfl) de_str) (da_cons (de_exS T.xs_InvalidLine (by rfl) de_str) (da_cons (de_exS T.xs_InvalidMove (by rfl) de_str) (da_cons (de_exS T.xs_InvalidName (by rfl) de_str) (da_cons (de_exS T.xs_InvalidNumber (by rfl) de_str) da_nil))))))))
  (dss_cons (ds_set .frz (i := 0) sc__law_made.nd rfl (.inl rfl) (de_add (de_var (i := 0) rfl (.inl rfl)) (de_lst (da_cons (de_exS T.xs_InvalidOrder (by rfl) de_str) (da_cons (de_exS T.xs_InvalidPoint (by rfl) de_str) (da_cons (de_exS T.xs_InvalidPosition (by rfl) de_str) (da_cons (de_exS T.xs_InvalidRow (by rfl) de_str) (da_cons (de_exS T.xs_InvalidRule (by rfl) de_str) da_nil))))))))
  (dss_cons (ds_set .frz (i := 0) sc__law_made.nd rfl (.inl rfl) (de_add (de_var (i := 0) rfl (.inl rfl)) (de_lst (da_cons (de_exS T.xs_InvalidStretch (by rfl) de_str) (da_cons (de_exS T.xs_NameIsTaken (by rfl) de_str) (da_cons (de_exS T.xs_NotFree (by rfl) de_str) (da_cons (de_exS T.xs_NothingToUndo (by rfl) de_str) (da_cons (de_exS T.xs_TooMany (by rfl) de_str) da_nil))))))))
  (dss_one (ds_ret (de_add (de_var (i := 0) rfl (.inl rfl)) (de_lst (da_cons (de_exS T.xs_UnknownName (by rfl) de_str) (da_cons (de_exS T.xs_InvalidMenu (by rfl) de_str) (da_cons (de_mkPe T.pe_ParseError peZ_ok hr (by rfl) de_int) da_nil)))))))))))
/-! ### _law_kinds -/
theorem sc__law_kinds : FnScope ["_law_one", "_law_found"] ["_law_one"] (defScope s__law_kinds) := ⟨rfl, rfl, rfl, by decide +kernel, rfl, by decide +kernel, by decide +kernel⟩
noncomputable def b__law_kinds : M DL.Flow :=
  (sSeq (sSet .frz 1 (dLst (dCons (dIsY (.ref (Cl.C "FoeHasWon")) (exTab exT_FoeHasWon) (dVar 0)) (dCons (dIsY (.ref (Cl.C "InvalidGame")) (exTab exT_InvalidGame) (dVar 0)) (dCons (dIsY (.ref (Cl.C "InvalidColour")) (exTab exT_InvalidColour) (dVar 0)) dNil)))))
  (sSeq (sSet .frz 1 (op2 hAdd (dVar 1) (dLst (dCons (dIsY (.ref (Cl.C "InvalidColours")) (exTab exT_InvalidColours) (dVar 0)) (dCons (dIsY (.ref (Cl.C "InvalidIndex")) (exTab exT_InvalidIndex) (dVar 0)) (dCons (dIsY (.ref (Cl.C "InvalidKind")) (exTab exT_InvalidKind) (dVar 0)) dNil))))))
  (sSeq (sSet .frz 1 (op2 hAdd (dVar 1) (dLst (dCons (dIsY (.ref (Cl.C "InvalidLine")) (exTab exT_InvalidLine) (dVar 0)) (dCons (dIsY (.ref (Cl.C "InvalidMove")) (exTab exT_InvalidMove) (dVar 0)) (dCons (dIsY (.ref (Cl.C "InvalidName")) (exTab exT_InvalidName) (dVar 0)) dNil))))))
  (sSeq (sSet .frz 1 (op2 hAdd (dVar 1) (dLst (dCons (dIsY (.ref (Cl.C "InvalidNumber")) (exTab exT_InvalidNumber) (dVar 0)) (dCons (dIsY (.ref (Cl.C "InvalidOrder")) (exTab exT_InvalidOrder) (dVar 0)) (dCons (dIsY (.ref (Cl.C "InvalidPoint")) (exTab exT_InvalidPoint) (dVar 0)) dNil))))))
  (sSeq (sSet .frz 1 (op2 hAdd (dVar 1) (dLst (dCons (dIsY (.ref (Cl.C "InvalidPosition")) (exTab exT_InvalidPosition) (dVar 0)) (dCons (dIsY (.ref (Cl.C "InvalidRow")) (exTab exT_InvalidRow) (dVar 0)) (dCons (dIsY (.ref (Cl.C "InvalidRule")) (exTab exT_InvalidRule) (dVar 0)) dNil))))))
  (sSeq (sSet .frz 1 (op2 hAdd (dVar 1) (dLst (dCons (dIsY (.ref (Cl.C "InvalidStretch")) (exTab exT_InvalidStretch) (dVar 0)) (dCons (dIsY (.ref (Cl.C "NameIsTaken")) (exTab exT_NameIsTaken) (dVar 0)) (dCons (dIsY (.ref (Cl.C "NotFree")) (exTab exT_NotFree) (dVar 0)) dNil))))))
  (sSeq (sSet .frz 1 (op2 hAdd (dVar 1) (dLst (dCons (dIsY (.ref (Cl.C "NothingToUndo")) (exTab exT_NothingToUndo) (dVar 0)) (dCons (dIsY (.ref (Cl.C "TooMany")) (exTab exT_TooMany) (dVar 0)) (dCons (dIsY (.ref (Cl.C "UnknownName")) (exTab exT_UnknownName) (dVar 0)) dNil))))))
  (sRet (op2 hAdd (dVar 1) (dLst (dCons (dIsY (.ref (Cl.C "InvalidMenu")) (exTab exT_InvalidMenu) (dVar 0)) (dCons (dIsY (.ref (Cl.C "ParseError")) (exTab exT_ParseError) (dVar 0)) dNil))))))))))))
noncomputable def f__law_kinds : List O → RF := mkFn 1 b__law_kinds
theorem ok__law_kinds (T : Tops P K mg base) : GV P w K mg base (k + 1) "_law_kinds" ["_law_one"] f__law_kinds :=
  gv_ok T.d__law_kinds sc__law_kinds (by decide) fun f cdv A outer s H E pv hr gd =>
  (dss_cons (ds_set .frz (i := 1) sc__law_kinds.nd rfl (.inl rfl) (de_lst (da_cons (de_isYo T.iy_FoeHasWon T.me_FoeHasWon (by rfl) (by rfl) T.n_isinstance (de_var (i := 0) rfl (.inl rfl))) (da_cons (de_isYo T.iy_InvalidGame T.me_InvalidGame (by rfl) (by rfl) T.n_isinstance (de_var (i := 0) rfl (.inl rfl))) (da_cons (de_isYo T.iy_InvalidColour T.me_InvalidColour (by rfl) (by rfl) T.n_isinstance (de_var (i := 0) rfl (.inl rfl))) da_nil)))))
  (dss_cons (ds_set .frz (i := 1) sc__law_kinds.nd rfl (.inl rfl) (de_add (de_var (i := 1) rfl (.inl rfl)) (de_lst (da_cons (de_isYo T.iy_InvalidColours T.me_InvalidColours (by rfl) (by rfl) T.n_isinstance (de_var (i := 0) rfl (.inl rfl))) (da_cons (de_isYo T.iy_InvalidIndex T.me_InvalidIndex (by rfl) (by rfl) T.n_isinstance (de_var (i := 0) rfl (.inl rfl))) (da_cons (de_isYo T.iy_InvalidKind T.me_InvalidKind (by rfl) (by rfl) T.n_isinstance (de_var (i := 0) rfl (.inl rfl))) da_nil))))))
  (dss_cons (ds_set .frz (i := 1) sc__law_kinds.nd rfl (.inl rfl) (de_add (de_var (i := 1) rfl (.inl rfl)) (de_lst (da_cons (de_isYo T.iy_InvalidLine T.me_InvalidLine (by rfl) (by rfl) T.n_isinstance (de_var (i := 0) rfl (.inl rfl))) (da_cons (de_isYo T.iy_InvalidMove T.me_InvalidMove (by rfl) (by rfl) T.n_isinstance (de_var (i := 0) rfl (.inl rfl))) (da_cons (de_isYo T.iy_InvalidName T.me_InvalidName (by rfl) (by rfl) T.n_isinstance (de_var (i := 0) rfl (.inl rfl))) da_nil))))))
  (dss_cons (ds_set .frz (i := 1) sc__law_kinds.nd rfl (.inl rfl) (de_add (de_var (i := 1) rfl (.inl rfl)) (de_lst (da_cons (de_isYo T.iy_InvalidNumber T.me_InvalidNumber (by rfl) (by rfl) T.n_isinstance (de_var (i := 0) rfl (.inl rfl))) (da_cons (de_isYo T.iy_InvalidOrder T.me_InvalidOrder (by rfl) (by rfl) T.n_isinstance (de_var (i := 0) rfl (.inl rfl))) (da_cons (de_isYo T.iy_InvalidPoint T.me_InvalidPoint (by rfl) (by rfl) T.n_isinstance (de_var (i := 0) rfl (.inl rfl))) da_nil))))))
  (dss_cons (ds_set .frz (i := 1) sc__law_kinds.nd rfl (.inl rfl) (de_add (de_var (i := 1) rfl (.inl rfl)) (de_lst (da_cons (de_isYo T.iy_InvalidPosition T.me_InvalidPosition (by rfl) (by rfl) T.n_isinstance (de_var (i := 0) rfl (.inl rfl))) (da_cons (de_isYo T.iy_InvalidRow T.me_InvalidRow (by rfl) (by rfl) T.n_isinstance (de_var (i := 0) rfl (.inl rfl))) (da_cons (de_isYo T.iy_InvalidRule T.me_InvalidRule (by rfl) (by rfl) T.n_isinstance (de_var (i := 0) rfl (.inl rfl))) da_nil))))))
  (dss_cons (ds_set .frz (i := 1) sc__law_kinds.nd rfl (.inl rfl) (de_add (de_var (i := 1) rfl (.inl rfl)) (de_lst (da_cons (de_isYo T.iy_InvalidStretch T.me_InvalidStretch (by rfl) (by rfl) T.n_isinstance (de_var (i := 0) rfl (.inl rfl))) (da_cons (de_isYo T.iy_NameIsTaken T.me_NameIsTaken (by rfl) (by rfl) T.n_isinstance (de_var (i := 0) rfl (.inl rfl))) (da_cons (de_isYo T.iy_NotFree T.me_NotFree (by rfl) (by rfl) T.n_isinstance (de_var (i := 0) rfl (.inl rfl))) da_nil))))))
  (dss_cons (ds_set .frz (i := 1) sc__law_kinds.nd rfl (.inl rfl) (de_add (de_var (i := 1) rfl (.inl rfl)) (de_lst (da_cons (de_isYo T.iy_NothingToUndo T.me_NothingToUndo (by rfl) (by rfl) T.n_isinstance (de_var (i := 0) rfl (.inl rfl))) (da_cons (de_isYo T.iy_TooMany T.me_TooMany (by rfl) (by rfl) T.n_isinstance (de_var (i := 0) rfl (.inl rfl))) (da_cons (de_isYo T.iy_UnknownName T.me_UnknownName (by rfl) (by rfl) T.n_isinstance (de_var (i := 0) rfl (.inl rfl))) da_nil))))))
  (dss_one (ds_ret (de_add (de_var (i := 1) rfl (.inl rfl)) (de_lst (da_cons (de_isYo T.iy_InvalidMenu T.me_InvalidMenu (by rfl) (by rfl) T.n_isinstance (de_var (i := 0) rfl (.inl rfl))) (da_cons (de_isYo T.iy_ParseError T.me_ParseError (by rfl) (by rfl) T.n_isinstance (de_var (i := 0) rfl (.inl rfl))) da_nil)))))))))))))
/-! ### law -/
theorem sc_law : FnScope ["_law_script", "_law_made_here", "_law_k", "_law_base", "_law_one", "_law_j", "_law_part"] ["_law_script"] (defScope s_law) := ⟨rfl, rfl, rfl, by decide +kernel, rfl, by decide +kernel, by decide +kernel⟩
noncomputable def b_law : M DL.Flow :=
  (sSeq (sSet .frz 1 (dCall0 f__law_made))
  (sSeq (sFor (dRng1 (dB hLen (dCons (dVar 1) dNil))) (.nm 2)
  (sSeq (sIf (tOr' (tNot' (tst (dIsY (.ref (Cl.C "HueError")) (exTab exT_HueError) (op2 hIx (dVar 1) (dVar 2))))) (tNot' (tst (dIsY (.ty "ValueError") (exTab fun _ => true) (op2 hIx (dVar 1) (dVar 2))))))
  (sRet (dC (.bl false)))
  sNx)
  (sIf (tst (op2 (hEq true) (dCall f__law_kinds [.v] (dCons (op2 hIx (dVar 1) (dVar 2)) dNil)) (dComp (dRng1 (dB hLen (dCons (dVar 1) dNil))) (.nm 5) [5] tTrue (op2 (hEq false) (dVar 5) (dVar 2)))))
  (sRet (dC (.bl false)))
  sNx)))
  (sSeq (sPar [(.frz, 3), (.frz, 4)] (dCons (op1 (hExS (Cl.C "HueError")) (dC (.str "y"))) (dCons (dB (hPe1 (Cl.C "ParseError")) (dCons (dC (.int 3)) dNil)) dNil)))
  (sSeq (sIf (tOr' (tst (op2 (hIn2 false) (dC (.bl true)) (dCall f__law_kinds [.v] (dCons (dVar 3) dNil)))) (tOr' (tNot' (tst (dIsY (.ty "ValueError") (exTab fun _ => true) (dVar 3)))) (tst (op2 (hEq true) (dB (hStrE (exNs.map fun z => Cl.C z)) (dCons (dVar 3) dNil)) (dC (.str "y"))))))
  (sRet (dC (.bl false)))
  sNx)
  (sRet (dAnd (op2 (hEq false) (op1 (hFldX (Cl.C "ParseError") "line") (dVar 4)) (dC (.int 3))) (dAnd (op2 (hEq false) (op1 (hFldX (Cl.C "ParseError") "line") (op2 hIx (dVar 1) (dC (.int 22)))) (dC (.int 7))) (op2 (hEq false) (dComp (dSeqA (dSl (dVar 1) dNoPart (dPart (dC (.int 22))))) (.nm 6) [6] tTrue (dB (hStrE (exNs.map fun z => Cl.C z)) (dCons (dVar 6) dNil))) (op2 hMul (dLst (dCons (dC (.str "x")) dNil)) (dC (.int 22)))))))))))
noncomputable def f_law : List O → RF := mkFn 6 b_law
theorem ok_law (T : Tops P K mg base) (G__law_made : GV P w K mg base k "_law_made" [] f__law_made) (G__law_kinds : GV P w K mg base k "_law_kinds" ["_law_one"] f__law_kinds) : GV P w K mg base (k + 2) "law" ["_law_script"] f_law :=
  gv_ok T.d_law sc_law (by decide) fun f cdv A outer s H E pv hr gd =>
  (dss_cons (ds_set .frz (i := 1) sc_law.nd rfl (.inl rfl) (de_callV0 (L2.takes_of rfl rfl rfl rfl) (G__law_made.up (by omega)) hr gd (by rfl)))
  (dss_cons (ds_for (L2.passes_of rfl) rfl (di_rng1 (by rfl) T.n_range (de_blt blt_len (by rfl) T.n_len rfl (da_cons (de_var (i := 1) rfl (.inl rfl)) da_nil))) (dg_nm (i := 2) sc_law.nd rfl (.inr rfl))
  (dss_cons (ds_if (L2.PW.pt (dw_or (dt_not (dt_val (de_isYo T.iy_HueError T.me_HueError (by rfl) (by rfl) T.n_isinstance (de_ix (de_var (i := 1) rfl (.inl rfl)) (de_var (i := 2) rfl (.inr (.inl rfl))))))) (dw_or1 (dt_not (dt_val (de_isYt T.it_ValueError T.n_ValueError rfl (by decide) (by rfl) (by rfl) T.n_isinstance (de_ix (de_var (i := 1) rfl (.inl rfl)) (de_var (i := 2) rfl (.inr (.inl rfl))))))))))
  (dss_one (ds_ret de_bl))
  dss_nil)
  (dss_one (ds_if (dt_cmpR (cr_ne hr) (de_callV (ms := [.v]) (L2.takes_of rfl rfl rfl rfl) (G__law_kinds.up (by omega)) hr gd (by rfl) (da_cons (de_ix (de_var (i := 1) rfl (.inl rfl)) (de_var (i := 2) rfl (.inr (.inl rfl)))) da_nil)) (de_comp (own := [("_law_j", 5)]) rfl sc_law.nd (di_rng1 (by rfl) T.n_range (de_blt blt_len (by rfl) T.n_len rfl (da_cons (de_var (i := 1) rfl (.inl rfl)) da_nil))) (by exact blkOk_by (N := ["_law_script", "_law_made_here", "_law_k", "_law_base", "_law_one", "_law_j", "_law_part"]) (sc := defScope s_law) (own := [("_law_j", 5)]) (by decide +kernel)) (by decide) (fun _ _ _ _ _ => (dg_nm (i := 5) sc_law.nd rfl (.inl rfl))) (fun _ _ _ _ _ => dts_nil) (fun _ _ _ _ _ => (de_cmpR (cr_eq hr) (de_var (i := 5) rfl (.inl rfl)) (de_var (i := 2) rfl (.inr (.inl rfl)))))))
  (dss_one (ds_ret de_bl))
  dss_nil))))
  (dss_cons (ds_par (h1 := .frz) (h2 := .frz) (i := 3) (j := 4) rfl sc_law.nd rfl rfl (by decide) rfl rfl (da_cons (de_exS T.xs_HueError (by rfl) de_str) (da_cons (de_mkPeK T.pe_ParseError peZ_ok hr (by rfl) (pkd_cons de_int pkd_nil)) da_nil)) rfl)
  (dss_cons (ds_if (L2.PW.pt (dw_or (dt_cmpR (cr_in2 hr) de_bl (de_callV (ms := [.v]) (L2.takes_of rfl rfl rfl rfl) (G__law_kinds.up (by omega)) hr gd (by rfl) (da_cons (de_var (i := 3) rfl (.inl rfl)) da_nil)) (by with_unfolding_all rfl)) (dw_or (dt_not (dt_val (de_isYt T.it_ValueError T.n_ValueError rfl (by decide) (by rfl) (by rfl) T.n_isinstance (de_var (i := 3) rfl (.inl rfl))))) (dw_or1 (dt_cmpR (cr_ne hr) (de_typ (typ_strE hr T.st_all) (by rfl) T.n_str rfl (da_cons (de_var (i := 3) rfl (.inl rfl)) da_nil)) de_str)))))
  (dss_one (ds_ret de_bl))
  dss_nil)
  (dss_one (ds_ret (de_and (de_cmpR (cr_eq hr) (de_fldX T.xf_ParseError T.nl_ParseError (de_var (i := 4) rfl (.inl rfl))) de_int) (de_and (de_cmpR (cr_eq hr) (de_fldX T.xf_ParseError T.nl_ParseError (de_ix (de_var (i := 1) rfl (.inl rfl)) de_int)) de_int) (de_one (de_cmpR (cr_eq hr) (de_comp (own := [("_law_part", 6)]) rfl sc_law.nd (di_any (de_sl (de_var (i := 1) rfl (.inl rfl)) do_none (do_some de_int))) (by exact blkOk_by (N := ["_law_script", "_law_made_here", "_law_k", "_law_base", "_law_one", "_law_j", "_law_part"]) (sc := defScope s_law) (own := [("_law_part", 6)]) (by decide +kernel)) (by decide) (fun _ _ _ _ _ => (dg_nm (i := 6) sc_law.nd rfl (.inl rfl))) (fun _ _ _ _ _ => dts_nil) (fun _ _ _ _ _ => (de_typ (typ_strE hr T.st_all) (by rfl) T.n_str rfl (da_cons (de_var (i := 6) rfl (.inl rfl)) da_nil)))) (de_mul (de_lst (da_cons de_str da_nil)) de_int)))))))))))
/-! ### all -/
theorem go__law_made (T : Tops P K mg base) : GV P w K mg base 2 "_law_made" [] f__law_made := ok__law_made T
theorem go__law_kinds (T : Tops P K mg base) : GV P w K mg base 1 "_law_kinds" ["_law_one"] f__law_kinds := ok__law_kinds T
theorem go_law (T : Tops P K mg base) : GV P w K mg base 4 "law" ["_law_script"] f_law := ok_law T ((go__law_made T).up (by decide)) ((go__law_kinds T).up (by decide))
end
end Gk19
end
section
set_option maxRecDepth 100000
set_option maxHeartbeats 2000000
namespace DLH
open PySem PySem.Spec PyProof.Rows L2 DL He LamX
variable [tb : Tb]
section
variable {K : Fr} {h : Heap} {mg : Str → Option Value} {x fld : Str}
theorem glo_at (X : K.In h) (G : h.Ns mainGlobals mg) (c : gloB x K = true) : mg x = some (.ref (ga K x)) := PySem.W.mg_of X G (eqO_ok c)
theorem fre_at (X : K.In h) (G : h.Ns mainGlobals mg) (c : freeB x K = true) : mg x = none := PySem.W.mg_none_of X G (eqO_ok c)
theorem ec_at (c : ecB x K = true) : ExcC K (ga K x) := by
  unfold ecB at c
  simp only [Bool.and_eq_true, decide_eq_true_eq] at c
  obtain ⟨_, c1, c2, c3, c4, c5, c6, c7, c8⟩ := c
  exact ⟨eqO_ok c1, eqO_ok c2, c3, c4, eqO_ok c5, eqO_ok c6, c7, c8⟩
end
/-! ### defs -/
abbrev BAall (nm qual : Str) (st : Stmt) (ps : List Str) : Prop := ∀ (kV doc pm : Value) (an : Option Addr) (cdv ct : Value), BA (PySem.W.fnOf nm qual (defArgs st) (defBody st) (defScope st) .none kV doc pm an cdv ct) ps
section
variable {fs : List (Fr → Bool)} {fn : List FD} {tf : List Str} {K : Fr} {h : Heap} {mg : Str → Option Value} {x m qual : Str} {st : Stmt} {ps : List Str}
theorem dG (X : K.In h) (G : h.Ns mainGlobals mg) (c : SaysH fs fn tf h K) (i : Nat) (hb : BAall x x st ps) (e : fn[i]? = some (fdG x st) := by rfl) : DefF K mg x st ps := by
  obtain ⟨⟨oc, od, osl, kV, doc, pm, an, cdv, ct, lk, cd⟩, kp, ex⟩ := c.d i e
  exact DL.defF_mk X G (eqO_ok ex) lk cd kp hb
theorem dK {kw : Str} {d : V} {n : Nat} (c : SaysH fs fn tf h K) (i : Nat)
    (h0 : ∀ (D : Addr) (doc pm : Value) (an : Option Addr) (cdv ct : Value) (us : List Value) (w : Value), us.length = n → KwChain D [(kw, w)] (bindArgs (PySem.W.fnOf m qual (defArgs st) (defBody st) (defScope st) .none (.ref D) doc pm an cdv ct) ⟨us, []⟩) (ps.zip (us ++ [w])))
    (h1 : ∀ (D : Addr) (doc pm : Value) (an : Option Addr) (cdv ct : Value) (us : List Value) (w : Value), us.length = n → bindArgs (PySem.W.fnOf m qual (defArgs st) (defBody st) (defScope st) .none (.ref D) doc pm an cdv ct) ⟨us, [(kw, w)]⟩ = pure (ps.zip (us ++ [w])))
    (e : fn[i]? = some (fdK x m qual kw d st) := by rfl) : DefMK K (PMeth K (ga K x) m) m qual st ps n kw d := by
  obtain ⟨⟨oc, od, osl, kV, doc, pm, an, cdv, ct, lk, cd⟩, kp, ex⟩ := c.d i e
  obtain ⟨e1, e2⟩ := ba ex
  obtain ⟨e3, e4⟩ := ba e2
  have lk' : K.lookup (mth x m K) = _ := lk
  rw [lk'] at e4
  have e5 : kwOk K kV kw d = true := e4
  clear e4 lk'
  cases kV with
  | ref D =>
    have e6 : (match PySem.W.nsIn K D kw with
      | some (some u) => relB d u
      | _ => false) = true := e5
    cases q : PySem.W.nsIn K D kw with
    | none =>
      rw [q] at e6
      cases e6
    | some r =>
      rw [q] at e6
      cases r with
      | none => cases e6
      | some u => exact DL.defMK_meth (eqO_ok e1) e3 lk cd kp q (relB_ok e6) (h0 _ _ _ _ _ _) (h1 _ _ _ _ _ _)
  | _ => cases e5
theorem clsM (X : K.In h) (G : h.Ns mainGlobals mg) (c : gloB x K = true) : mg x = some (.ref (ga K x)) := glo_at X G c
omit tb in
theorem cv {P : Addr → Prop} {a b : Addr} (e : a = b) (h : P a) : P b := e ▸ h
/-! ### defs that make lambdas, the law -/
def qn (x : Str) : Str := (x ++ (".<locals>." : Str)) ++ ("<lambda>" : Str)
abbrev tbH (tf : List Str) (K : Fr) : Tb := ⟨tf.map fun p => ((cT K (p, none)).2, qn p)⟩
theorem lawH {l : PySem.W.OpenLaw} {w : World} {k n : Nat} {fa : Addr} {g : List O → RF} (X : K.In h) (c : SaysH fs fn tf h K) (hmg : mg "law" = some (.ref fa)) (D0 : DefF K mg "law" st [x])
    (hg : ∀ ns : List Int, ns.length ≤ n → (∀ z ∈ ns, Builtin.Int.intBits z ≤ 1048576) → ∃ os, g [.val (.rol (ns.map D.int))] = .ok (.val (.bl true)) os)
    (hG : ∀ base : Heap, K.In base → base.Ns mainGlobals mg → (∀ p ∈ tf, TabB base mg (cT K (p, none)).1 (cT K (p, none)).2) → @GV (tbH tf K) l.prog w K mg base k "law" [x] g) : LawG l w K (L2.CX l.prog w) k n mg fa h := by
  have em : ∀ {p : Addr × Addr × Str}, p ∈ tf.map (fun p => ((cT K (p, none)).1, (cT K (p, none)).2, qn p)) → ∃ q ∈ tf, ((cT K (q, none)).1, (cT K (q, none)).2, qn q) = p := fun h => List.mem_map.mp h
  have et : (⟨(tf.map fun p => ((cT K (p, none)).1, (cT K (p, none)).2, qn p)).map fun p => (p.2.1, p.2.2)⟩ : Tb) = tbH tf K := by
    unfold tbH
    rw [List.map_map]
    rfl
  refine DL.lawG_mk (tf.map fun p => ((cT K (p, none)).1, (cT K (p, none)).2, qn p)) hmg D0 (fun p hp => ?_) (fun p hp => ?_) (fun p hp => ?_) hg fun base kb nb tB => ?_
  · obtain ⟨q, hq, rfl⟩ := em hp; exact c.empty q hq
  · obtain ⟨q, hq, rfl⟩ := em hp; exact c.out q hq
  · obtain ⟨q, hq, rfl⟩ := em hp; exact PySem.W.codeHd_of_K X (c.hd q hq)
  · rw [et]
    exact hG base kb nb fun p hp => tB ((cT K (p, none)).1, (cT K (p, none)).2, qn p) (List.mem_map.mpr ⟨p, hp, rfl⟩)
end
omit tb in
/-- the end of a law -/
theorem walk_gTsE {l : PySem.W.OpenLaw} {n k : Nat} {q : Program} {loose : List Str} {XP : (Str → Option Value) → Heap → Prop} {YP : World → Heap → Prop} {d : DefRec} {CX : World → CXT}
    (hn : l.most = some n) (hn2 : n ≤ sizeLine) (hdf : d.params.defaults = []) (hr : Room k callerA)
    (Fz : ∀ (w : World) (mg : Str → Option Value) (fa : Addr) (h : Heap), YP w h → h.Ns mainGlobals mg → mg d.name = some (.ref fa) → ∃ K : Fr, K.In h ∧ LawG l w K (CX w) k n mg fa h)
    (hCX : ∀ (w : World) (H : Hp) (s : Shared) (e : Value) (s' : Shared), CX w [] H s (fun _ _ _ => False) e s' → False) :
    PySem.W.WalkO q loose XP YP l.row.toRowW d [] (fun f vs => PySem.call f vs) := by
  refine Att.attach_callB hn hdf fun w s₀ sz mg mb fa o pm cd doc a vs nz G Y ho hd hcd hmg hobj hints hlen hbits hg => ?_
  obtain ⟨K, kI, fd, pq, cz, sp, t1, t2, t3, t4, t5, t6⟩ := Fz w mg fa _ Y G.T.g hmg
  exact law_gTs kI G.T.g G.T.b G.T.builtins G.T.nolimit hg t1 t2 t3 G.T.bmain hobj hints (Nat.le_trans hlen hn2) hr t6 t4 (fun H z1 z2 => t5 H a nz hlen hbits z1 z2) fun H e s' => hCX w H sz e s'
end DLH
end
section
set_option maxRecDepth 100000
set_option maxHeartbeats 4000000
namespace DLH
open PySem PySem.Spec PyProof.Rows L2 DL He
variable [tb : Tb]
/-- where the classes stand -/
def clL (l : List (Str × Addr)) : Cl := ⟨fun x => (l.lookup x).getD 0⟩
section
variable {K : Fr} {h : Heap} {mg : Str → Option Value} {x y : Str} {l : List Str}
omit tb in
theorem clL_at {l : List (Str × Addr)} (c : gasB l K = true) {x : Str} (hx : (l.lookup x).isSome = true) : (clL l).C x = ga K x := by
  show (l.lookup x).getD 0 = _
  obtain ⟨a, e⟩ := Option.isSome_iff_exists.mp hx
  rw [e]
  have m := PySem.mem_of_lookup e
  exact (eq_of_beq (List.all_eq_true.mp c _ m)).symm
theorem exs_at (X : K.In h) (G : h.Ns mainGlobals mg) (c : excB x K = true) : ExcCls K mg x (ga K x) := by
  unfold excB at c
  obtain ⟨c0, c⟩ := ba c
  obtain ⟨c1, c⟩ := ba c
  obtain ⟨c2, c⟩ := ba c
  obtain ⟨c3, c4⟩ := ba c
  exact ⟨glo_at X G c0, c1, c2, of_decide_eq_true c3, of_decide_eq_true c4⟩
theorem isy_at [cl : Cl] {t : Str → Bool} (ha : ∀ z ∈ l, cl.C z = ga K z) (hy : cl.C y = ga K y) (e : ecsB l K = true) (c : isyB l y t K = true) : XIy K (.ref (Cl.C y)) (l.map fun z => (Cl.C z, t z)) := by
  intro p hp
  obtain ⟨z, hz, rfl⟩ := List.mem_map.mp hp
  show L2.ExcC K (Cl.C z) ∧ PySem.W.kitOne K (.ref (Cl.C z)) (.ref (Cl.C y)) = some (t z)
  rw [ha z hz, hy]
  exact ⟨ec_at (List.all_eq_true.mp e z hz), of_decide_eq_true (List.all_eq_true.mp c z hz)⟩
theorem ist_at [cl : Cl] {n : String} (ha : ∀ z ∈ l, cl.C z = ga K z) (e : ecsB l K = true) (c : istB l n K = true) : XIy K (.type n) (l.map fun z => (Cl.C z, true)) := by
  intro p hp
  obtain ⟨z, hz, rfl⟩ := List.mem_map.mp hp
  show L2.ExcC K (Cl.C z) ∧ PySem.W.kitOne K (.ref (Cl.C z)) (.type n) = some true
  rw [ha z hz]
  exact ⟨ec_at (List.all_eq_true.mp e z hz), of_decide_eq_true (List.all_eq_true.mp c z hz)⟩
theorem str_at [cl : Cl] (ha : ∀ z ∈ l, cl.C z = ga K z) (c : strB l K = true) : ∀ C ∈ l.map fun z => Cl.C z, StrC K C := by
  intro C hC
  obtain ⟨z, hz, rfl⟩ := List.mem_map.mp hC
  rw [ha z hz]
  obtain ⟨c1, c2⟩ := ba (List.all_eq_true.mp c z hz)
  exact ⟨eqO_ok c1, of_decide_eq_true c2⟩
theorem xfc_at (c : xfcB x K = true) : XfC K (ga K x) := by
  unfold xfcB at c
  obtain ⟨c0, c⟩ := ba c
  obtain ⟨c1, c⟩ := ba c
  obtain ⟨c2, c3⟩ := ba c
  exact ⟨eqO_ok c0, eqO_ok c1, of_decide_eq_true c2, c3⟩
theorem nol_at {f : Str} (c : nolB x f K = true) : PySem.W.findIn K (.ref (ga K x)) f = some none := eqO_ok c
theorem oex_at {C : Addr} (c : oexB C K = true) : ∃ nm q N bs bm sn sub ab col dd k0 k1 k2 k3 k5, K.lookup C = some (excClassObj nm q C N bs bm true sn sub ab col dd k0 k1 k2 k3 k5 "ValueError.__new__") ∧ PySem.HandSPX.refsVE bm = true := by
  unfold oexB at c
  split at c
  · rename_i dd nm bs C' bm ns qn sn sub ab col sl hC
    obtain ⟨c1, c⟩ := ba c
    obtain ⟨c2, c⟩ := ba c
    split at c
    · rename_i k0 k1 k2 k3 n k5 hs
      have e1 := of_decide_eq_true c1
      have e2 := of_decide_eq_true c
      subst e1 e2
      have hsl : sl = #[k0, k1, k2, k3, some (.builtin "ValueError.__new__"), k5] := by
        obtain ⟨l⟩ := sl
        simp only at hs
        rw [hs]
      subst hsl
      exact ⟨_, _, _, _, _, _, _, _, _, _, _, _, _, _, _, hC, c2⟩
    · cases c
  · cases c
theorem pe_at {P : Program} {z : PePos} (X : K.In h) (G : h.Ns mainGlobals mg) (hp : (P.main.scope.names.lookup ("super" : Str)).isSome = false) (f : freeB "super" K = true) (c : peB (P.main.file : Str) z x K = true) : PeC P K mg z x (ga K x) := by
  unfold peB at c
  obtain ⟨c0, c⟩ := ba c
  obtain ⟨c1, c⟩ := ba c
  obtain ⟨c2, c⟩ := ba c
  obtain ⟨c3, c⟩ := ba c
  obtain ⟨c4, c⟩ := ba c
  obtain ⟨c5, c⟩ := ba c
  obtain ⟨c6, c⟩ := ba c
  obtain ⟨c7, c⟩ := ba c
  obtain ⟨c8, c⟩ := ba c
  obtain ⟨c9, c⟩ := ba c
  obtain ⟨c10, c⟩ := ba c
  obtain ⟨c11, c⟩ := ba c
  obtain ⟨c12, c⟩ := ba c
  obtain ⟨c13, c⟩ := ba c
  obtain ⟨c14, c⟩ := ba c
  split at c
  · rename_i oc od fd osl lk
    split at c
    · rename_i cc cda hf
      obtain ⟨c15, c⟩ := ba c
      obtain ⟨c16, c17⟩ := ba c
      obtain ⟨a, b, g1, g2, p7, p8, p9, p10, p11, kV, doc, pm, ct, an, efd, la, lb⟩ := fdB_ok hf
      unfold clB at c15
      unfold cfB at c16
      split at c15
      · rename_i y1 y2 D y3 lc
        have eD := of_decide_eq_true c15
        subst eD
        split at c16
        · rename_i z1 z2 vs z3 lv
          split at c16
          · rename_i fl tk ev
            have c17' : PySem.W.codeIn K (.ref cda) fd.qualname = true := c17
            rw [efd] at lk
            refine ⟨glo_at X G c0, fre_at X G f, ⟨oex_at c1, eqO_ok c2, of_decide_eq_true c3, of_decide_eq_true c4, c5⟩, eqO_ok c6, _, cc, cda, _, _, a, b, g1, g2, p7, p8, p9, p10, p11, kV, doc, pm, ct, an, ⟨⟨_, _, _, lk⟩, ⟨_, rfl, rfl⟩, ⟨_, _, vs, _, fl, tk, lv, ev, c16⟩, ⟨_, _, _, lc⟩, hp, Option.isSome_iff_exists.mp c9, of_decide_eq_true c10, of_decide_eq_true c11, eqO_ok c12, c13, eqO_ok c14⟩, c17', eqO_ok c7, of_decide_eq_true c8, la, lb⟩
          · cases c16
        · cases c16
      · cases c15
    · cases c
  · cases c
end
end DLH
end
section
set_option maxRecDepth 100000
set_option maxHeartbeats 0
namespace Gk19
open PySem PySem.Spec PyProof.Rows L2 DL
theorem law_true (ns : List Int) (hl : ns.length ≤ 63) (hb : ∀ z ∈ ns, Builtin.Int.intBits z ≤ 1048576) : letI : Cl := DLH.clL exL; ∃ os, f_law [.val (.rol (ns.map D.int))] = .ok (.val (.bl true)) os := by
  refine ⟨[.val (.rol (ns.map D.int))], ?_⟩
  kernel_rfl
end Gk19
end
set_option maxRecDepth 100000
namespace Gk19
open PySem PySem.Spec PyProof.Rows L2 DL DLH
section
theorem hBa__law_made : DLH.BAall "_law_made" "_law_made" s__law_made [] := fun _ _ _ _ _ _ us hl => match us, hl with | [], _ => rfl
theorem hBa__law_kinds : DLH.BAall "_law_kinds" "_law_kinds" s__law_kinds ["_law_one"] := fun _ _ _ _ _ _ us hl => match us, hl with | [_], _ => rfl
theorem hBa_law : DLH.BAall "law" "law" s_law ["_law_script"] := fun _ _ _ _ _ _ us hl => match us, hl with | [_], _ => rfl
theorem exL_has : ∀ z ∈ exNs, (exL.lookup z).isSome = true := by decide
theorem exC {K : DLH.Fr} (c : DLH.gasB exL K = true) : ∀ z ∈ exNs, (DLH.clL exL).C z = He.ga K z := fun z hz => DLH.clL_at c (exL_has z hz)
theorem exM_HueError : ("HueError" : Str) ∈ exNs := by decide
theorem exM_ParseError : ("ParseError" : Str) ∈ exNs := by decide
theorem exM_FoeHasWon : ("FoeHasWon" : Str) ∈ exNs := by decide
theorem exM_InvalidColour : ("InvalidColour" : Str) ∈ exNs := by decide
theorem exM_InvalidColours : ("InvalidColours" : Str) ∈ exNs := by decide
theorem exM_InvalidGame : ("InvalidGame" : Str) ∈ exNs := by decide
theorem exM_InvalidIndex : ("InvalidIndex" : Str) ∈ exNs := by decide
theorem exM_InvalidKind : ("InvalidKind" : Str) ∈ exNs := by decide
theorem exM_InvalidLine : ("InvalidLine" : Str) ∈ exNs := by decide
theorem exM_InvalidMenu : ("InvalidMenu" : Str) ∈ exNs := by decide
theorem exM_InvalidMove : ("InvalidMove" : Str) ∈ exNs := by decide
theorem exM_InvalidName : ("InvalidName" : Str) ∈ exNs := by decide
theorem exM_InvalidNumber : ("InvalidNumber" : Str) ∈ exNs := by decide
theorem exM_InvalidOrder : ("InvalidOrder" : Str) ∈ exNs := by decide
theorem exM_InvalidPoint : ("InvalidPoint" : Str) ∈ exNs := by decide
theorem exM_InvalidPosition : ("InvalidPosition" : Str) ∈ exNs := by decide
theorem exM_InvalidRow : ("InvalidRow" : Str) ∈ exNs := by decide
theorem exM_InvalidRule : ("InvalidRule" : Str) ∈ exNs := by decide
theorem exM_InvalidStretch : ("InvalidStretch" : Str) ∈ exNs := by decide
theorem exM_NameIsTaken : ("NameIsTaken" : Str) ∈ exNs := by decide
theorem exM_NotFree : ("NotFree" : Str) ∈ exNs := by decide
theorem exM_NothingToUndo : ("NothingToUndo" : Str) ∈ exNs := by decide
theorem exM_TooMany : ("TooMany" : Str) ∈ exNs := by decide
theorem exM_UnknownName : ("UnknownName" : Str) ∈ exNs := by decide
set_option maxHeartbeats 0 in
theorem hLaw {w : World} {K : DLH.Fr} {h : Heap} {mg : Str → Option Value} {fa : Addr} (X : K.In h) (G : h.Ns mainGlobals mg) (hmg : mg "law" = some (.ref fa)) (c : DLH.SaysH hFs hFn hTf h K) : LawG PySem.Challenge.rw_stretchhues_k19_error_classes w K (L2.CX PySem.Challenge.rw_stretchhues_k19_error_classes.prog w) 4 63 mg fa h := by
  letI : DL.Tb := DLH.tbH hTf K
  letI : DL.Cl := DLH.clL exL
  refine DLH.lawH X c hmg (DLH.dG X G c 2 hBa_law) (fun ns hl hb => law_true ns hl hb) fun base kb nb tB => ?_
  exact go_law ⟨(DLH.dG X G c 0 hBa__law_made), (DLH.dG X G c 1 hBa__law_kinds), (DLH.dG X G c 2 hBa_law), (DLH.fre_at X G (c.f 0)), (DLH.fre_at X G (c.f 1)), (DLH.fre_at X G (c.f 2)), (DLH.fre_at X G (c.f 3)), (DLH.fre_at X G (c.f 4)), (DLH.cv (P := fun C => ExcCls K mg "FoeHasWon" C) (exC (c.f 5) _ exM_FoeHasWon).symm (DLH.exs_at X G (c.f 7))), (DLH.cv (P := fun C => ExcCls K mg "HueError" C) (exC (c.f 5) _ exM_HueError).symm (DLH.exs_at X G (c.f 8))), (DLH.cv (P := fun C => ExcCls K mg "InvalidColour" C) (exC (c.f 5) _ exM_InvalidColour).symm (DLH.exs_at X G (c.f 9))), (DLH.cv (P := fun C => ExcCls K mg "InvalidColours" C) (exC (c.f 5) _ exM_InvalidColours).symm (DLH.exs_at X G (c.f 10))), (DLH.cv (P := fun C => ExcCls K mg "InvalidGame" C) (exC (c.f 5) _ exM_InvalidGame).symm (DLH.exs_at X G (c.f 11))), (DLH.cv (P := fun C => ExcCls K mg "InvalidIndex" C) (exC (c.f 5) _ exM_InvalidIndex).symm (DLH.exs_at X G (c.f 12))), (DLH.cv (P := fun C => ExcCls K mg "InvalidKind" C) (exC (c.f 5) _ exM_InvalidKind).symm (DLH.exs_at X G (c.f 13))), (DLH.cv (P := fun C => ExcCls K mg "InvalidLine" C) (exC (c.f 5) _ exM_InvalidLine).symm (DLH.exs_at X G (c.f 14))), (DLH.cv (P := fun C => ExcCls K mg "InvalidMenu" C) (exC (c.f 5) _ exM_InvalidMenu).symm (DLH.exs_at X G (c.f 15))), (DLH.cv (P := fun C => ExcCls K mg "InvalidMove" C) (exC (c.f 5) _ exM_InvalidMove).symm (DLH.exs_at X G (c.f 16))), (DLH.cv (P := fun C => ExcCls K mg "InvalidName" C) (exC (c.f 5) _ exM_InvalidName).symm (DLH.exs_at X G (c.f 17))), (DLH.cv (P := fun C => ExcCls K mg "InvalidNumber" C) (exC (c.f 5) _ exM_InvalidNumber).symm (DLH.exs_at X G (c.f 18))), (DLH.cv (P := fun C => ExcCls K mg "InvalidOrder" C) (exC (c.f 5) _ exM_InvalidOrder).symm (DLH.exs_at X G (c.f 19))), (DLH.cv (P := fun C => ExcCls K mg "InvalidPoint" C) (exC (c.f 5) _ exM_InvalidPoint).symm (DLH.exs_at X G (c.f 20))), (DLH.cv (P := fun C => ExcCls K mg "InvalidPosition" C) (exC (c.f 5) _ exM_InvalidPosition).symm (DLH.exs_at X G (c.f 21))), (DLH.cv (P := fun C => ExcCls K mg "InvalidRow" C) (exC (c.f 5) _ exM_InvalidRow).symm (DLH.exs_at X G (c.f 22))), (DLH.cv (P := fun C => ExcCls K mg "InvalidRule" C) (exC (c.f 5) _ exM_InvalidRule).symm (DLH.exs_at X G (c.f 23))), (DLH.cv (P := fun C => ExcCls K mg "InvalidStretch" C) (exC (c.f 5) _ exM_InvalidStretch).symm (DLH.exs_at X G (c.f 24))), (DLH.cv (P := fun C => ExcCls K mg "NameIsTaken" C) (exC (c.f 5) _ exM_NameIsTaken).symm (DLH.exs_at X G (c.f 25))), (DLH.cv (P := fun C => ExcCls K mg "NotFree" C) (exC (c.f 5) _ exM_NotFree).symm (DLH.exs_at X G (c.f 26))), (DLH.cv (P := fun C => ExcCls K mg "NothingToUndo" C) (exC (c.f 5) _ exM_NothingToUndo).symm (DLH.exs_at X G (c.f 27))), (DLH.cv (P := fun C => ExcCls K mg "TooMany" C) (exC (c.f 5) _ exM_TooMany).symm (DLH.exs_at X G (c.f 28))), (DLH.cv (P := fun C => ExcCls K mg "UnknownName" C) (exC (c.f 5) _ exM_UnknownName).symm (DLH.exs_at X G (c.f 29))), (DLH.cv (P := fun C => mg "FoeHasWon" = some (.ref C)) (exC (c.f 5) _ exM_FoeHasWon).symm (DLH.clsM X G (c.f 30))), (DLH.isy_at (exC (c.f 5)) (exC (c.f 5) _ exM_FoeHasWon) (c.f 6) (c.f 31)), (DLH.cv (P := fun C => mg "HueError" = some (.ref C)) (exC (c.f 5) _ exM_HueError).symm (DLH.clsM X G (c.f 32))), (DLH.isy_at (exC (c.f 5)) (exC (c.f 5) _ exM_HueError) (c.f 6) (c.f 33)), (DLH.cv (P := fun C => mg "InvalidColour" = some (.ref C)) (exC (c.f 5) _ exM_InvalidColour).symm (DLH.clsM X G (c.f 34))), (DLH.isy_at (exC (c.f 5)) (exC (c.f 5) _ exM_InvalidColour) (c.f 6) (c.f 35)), (DLH.cv (P := fun C => mg "InvalidColours" = some (.ref C)) (exC (c.f 5) _ exM_InvalidColours).symm (DLH.clsM X G (c.f 36))), (DLH.isy_at (exC (c.f 5)) (exC (c.f 5) _ exM_InvalidColours) (c.f 6) (c.f 37)), (DLH.cv (P := fun C => mg "InvalidGame" = some (.ref C)) (exC (c.f 5) _ exM_InvalidGame).symm (DLH.clsM X G (c.f 38))), (DLH.isy_at (exC (c.f 5)) (exC (c.f 5) _ exM_InvalidGame) (c.f 6) (c.f 39)), (DLH.cv (P := fun C => mg "InvalidIndex" = some (.ref C)) (exC (c.f 5) _ exM_InvalidIndex).symm (DLH.clsM X G (c.f 40))), (DLH.isy_at (exC (c.f 5)) (exC (c.f 5) _ exM_InvalidIndex) (c.f 6) (c.f 41)), (DLH.cv (P := fun C => mg "InvalidKind" = some (.ref C)) (exC (c.f 5) _ exM_InvalidKind).symm (DLH.clsM X G (c.f 42))), (DLH.isy_at (exC (c.f 5)) (exC (c.f 5) _ exM_InvalidKind) (c.f 6) (c.f 43)), (DLH.cv (P := fun C => mg "InvalidLine" = some (.ref C)) (exC (c.f 5) _ exM_InvalidLine).symm (DLH.clsM X G (c.f 44))), (DLH.isy_at (exC (c.f 5)) (exC (c.f 5) _ exM_InvalidLine) (c.f 6) (c.f 45)), (DLH.cv (P := fun C => mg "InvalidMenu" = some (.ref C)) (exC (c.f 5) _ exM_InvalidMenu).symm (DLH.clsM X G (c.f 46))), (DLH.isy_at (exC (c.f 5)) (exC (c.f 5) _ exM_InvalidMenu) (c.f 6) (c.f 47)), (DLH.cv (P := fun C => mg "InvalidMove" = some (.ref C)) (exC (c.f 5) _ exM_InvalidMove).symm (DLH.clsM X G (c.f 48))), (DLH.isy_at (exC (c.f 5)) (exC (c.f 5) _ exM_InvalidMove) (c.f 6) (c.f 49)), (DLH.cv (P := fun C => mg "InvalidName" = some (.ref C)) (exC (c.f 5) _ exM_InvalidName).symm (DLH.clsM X G (c.f 50))), (DLH.isy_at (exC (c.f 5)) (exC (c.f 5) _ exM_InvalidName) (c.f 6) (c.f 51)), (DLH.cv (P := fun C => mg "InvalidNumber" = some (.ref C)) (exC (c.f 5) _ exM_InvalidNumber).symm (DLH.clsM X G (c.f 52))), (DLH.isy_at (exC (c.f 5)) (exC (c.f 5) _ exM_InvalidNumber) (c.f 6) (c.f 53)), (DLH.cv (P := fun C => mg "InvalidOrder" = some (.ref C)) (exC (c.f 5) _ exM_InvalidOrder).symm (DLH.clsM X G (c.f 54))), (DLH.isy_at (exC (c.f 5)) (exC (c.f 5) _ exM_InvalidOrder) (c.f 6) (c.f 55)), (DLH.cv (P := fun C => mg "InvalidPoint" = some (.ref C)) (exC (c.f 5) _ exM_InvalidPoint).symm (DLH.clsM X G (c.f 56))), (DLH.isy_at (exC (c.f 5)) (exC (c.f 5) _ exM_InvalidPoint) (c.f 6) (c.f 57)), (DLH.cv (P := fun C => mg "InvalidPosition" = some (.ref C)) (exC (c.f 5) _ exM_InvalidPosition).symm (DLH.clsM X G (c.f 58))), (DLH.isy_at (exC (c.f 5)) (exC (c.f 5) _ exM_InvalidPosition) (c.f 6) (c.f 59)), (DLH.cv (P := fun C => mg "InvalidRow" = some (.ref C)) (exC (c.f 5) _ exM_InvalidRow).symm (DLH.clsM X G (c.f 60))), (DLH.isy_at (exC (c.f 5)) (exC (c.f 5) _ exM_InvalidRow) (c.f 6) (c.f 61)), (DLH.cv (P := fun C => mg "InvalidRule" = some (.ref C)) (exC (c.f 5) _ exM_InvalidRule).symm (DLH.clsM X G (c.f 62))), (DLH.isy_at (exC (c.f 5)) (exC (c.f 5) _ exM_InvalidRule) (c.f 6) (c.f 63)), (DLH.cv (P := fun C => mg "InvalidStretch" = some (.ref C)) (exC (c.f 5) _ exM_InvalidStretch).symm (DLH.clsM X G (c.f 64))), (DLH.isy_at (exC (c.f 5)) (exC (c.f 5) _ exM_InvalidStretch) (c.f 6) (c.f 65)), (DLH.cv (P := fun C => mg "NameIsTaken" = some (.ref C)) (exC (c.f 5) _ exM_NameIsTaken).symm (DLH.clsM X G (c.f 66))), (DLH.isy_at (exC (c.f 5)) (exC (c.f 5) _ exM_NameIsTaken) (c.f 6) (c.f 67)), (DLH.cv (P := fun C => mg "NotFree" = some (.ref C)) (exC (c.f 5) _ exM_NotFree).symm (DLH.clsM X G (c.f 68))), (DLH.isy_at (exC (c.f 5)) (exC (c.f 5) _ exM_NotFree) (c.f 6) (c.f 69)), (DLH.cv (P := fun C => mg "NothingToUndo" = some (.ref C)) (exC (c.f 5) _ exM_NothingToUndo).symm (DLH.clsM X G (c.f 70))), (DLH.isy_at (exC (c.f 5)) (exC (c.f 5) _ exM_NothingToUndo) (c.f 6) (c.f 71)), (DLH.cv (P := fun C => mg "ParseError" = some (.ref C)) (exC (c.f 5) _ exM_ParseError).symm (DLH.clsM X G (c.f 72))), (DLH.isy_at (exC (c.f 5)) (exC (c.f 5) _ exM_ParseError) (c.f 6) (c.f 73)), (DLH.cv (P := fun C => mg "TooMany" = some (.ref C)) (exC (c.f 5) _ exM_TooMany).symm (DLH.clsM X G (c.f 74))), (DLH.isy_at (exC (c.f 5)) (exC (c.f 5) _ exM_TooMany) (c.f 6) (c.f 75)), (DLH.cv (P := fun C => mg "UnknownName" = some (.ref C)) (exC (c.f 5) _ exM_UnknownName).symm (DLH.clsM X G (c.f 76))), (DLH.isy_at (exC (c.f 5)) (exC (c.f 5) _ exM_UnknownName) (c.f 6) (c.f 77)), (DLH.ist_at (exC (c.f 5)) (c.f 6) (c.f 78)), (DLH.str_at (exC (c.f 5)) (c.f 79)), (DLH.cv (P := fun C => L2.XfC K C) (exC (c.f 5) _ exM_ParseError).symm (DLH.xfc_at (c.f 80))), (DLH.cv (P := fun C => PySem.W.findIn K (.ref C) "line" = some none) (exC (c.f 5) _ exM_ParseError).symm (DLH.nol_at (c.f 81))), (DLH.cv (P := fun C => PeC _ K mg peZ "ParseError" C) (exC (c.f 5) _ exM_ParseError).symm (DLH.pe_at X G (by rfl) (c.f 82) (c.f 83)))⟩
end
end Gk19
open PySem PySem.W PySem.Calls PyProof.Rows
set_option maxHeartbeats 0 in
theorem PySem.Challenge.cw_stretchhues_k19_error_classes_holds : PySem.Challenge.rw_stretchhues_k19_error_classes.Holds := by
  w_on; o_law
  refine HandSHeadRun.head_any (r := OpenLaw.row PySem.Challenge.rw_stretchhues_k19_error_classes) (q := Gk19.hQv) (H := Gk19.hHk) (ob := Gk19.hOb) (M := 20000) (loose := Gk19.hLo) (d := HandSHeadRun.topDef (OpenLaw.row PySem.Challenge.rw_stretchhues_k19_error_classes).prog 28) (kwd := []) Gk19.hOb_eq
    (by kernel_rfl) (fun s => by kernel_rfl) Gk19.hRun (by kernel_rfl) (by kernel_rfl) (by kernel_rfl) (by rfl) (by first | assumption | decide +kernel) (by decide +kernel) ⟨rfl, rfl, rfl, rfl, rfl, by decide +kernel⟩ ?hw ?hc
  case hw => w_witness2
  case hc =>
    refine DLH.walk_gTsE (l := PySem.Challenge.rw_stretchhues_k19_error_classes) (n := 63) (k := 4) (CX := fun w => L2.CX PySem.Challenge.rw_stretchhues_k19_error_classes.prog w) rfl (by decide) (by kernel_rfl) ⟨rfl, by decide, by decide⟩ ?F ?C
    case C =>
      intro w H s e s2 h
      obtain ⟨_, _, _, _, _, _, _, _, _, _, _, _, _, _, _, _, z⟩ := h
    case F =>
      intro w mg fa h Y G hmg0
      obtain ⟨K, KX, c⟩ := Y
      have hmg : mg ("law" : PySem.Str) = some (.ref fa) := by
        have e : (HandSHeadRun.topDef (OpenLaw.row PySem.Challenge.rw_stretchhues_k19_error_classes).prog 28).name = ("law" : PySem.Str) := by kernel_rfl
        rw [← e]
        exact hmg0
      exact ⟨K, KX, Gk19.hLaw KX G hmg c⟩

