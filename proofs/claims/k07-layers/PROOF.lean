import PyProof.Rows.All
import Wide.All
import OpenK.AllK
import Wide.FinOn
import HandS.ForMost
import HandS.ForExc
import HandS.IsInst
import HandS.CallSlots
import HandS.Lambda
import HandS.TupAny
import HandS.TupMul
import HandS.Wide
import HandS.Deep
import HandS.Style
import KE.SortData
import KE.DataMinMax
import HandS.SortKw
import HandS.EndTab
import KE.DataMinKey
import KE.GoesEnumKw
import HandS.DictComp
import HandS.Set
import HandS.SetFor
import KE.SortKeyHeap
import HandS.ExcValue
import HandS.Conv
import HandS.RaiseMore
import HandS.Star
import PySem.Challenge.RW_stretchhues_k07_layers
set_option Elab.async false
set_option linter.all false
section
set_option maxRecDepth 100000
set_option maxHeartbeats 4000000
namespace DL
open PySem PySem.Spec PyProof.Rows L2
/-- a def's promise where no guard stands around (repr of containers wants it) -/
structure GFn (P : Program) (w : World) (K : PySem.W.Frag) (mg : Str → Option Value) (base : Heap) (C : CXT) (k : Nat) (f : Addr) (fd : FuncData) (ps : List Str) (sp : Sp) : Prop where
  ln : ∀ us H Q E, sp us H Q E → us.length = ps.length
  go : ∀ (A : Around) (out : List Env) (s : Shared) (H : Hp) (as : Args) (ws : List Value) (us : List V) (Q : VK) (E : XK), Room k A → A.guards = some [] → Env0 P w K mg base A out s H →
    BindsTo s fd as (ps.zip ws) → Vals us ws → sp us H Q E → codeAny (model P w) A (.call (.ref f) as) (CR C out P w H s Q E) s
theorem GFn.up {P : Program} {w : World} {K : PySem.W.Frag} {mg : Str → Option Value} {base : Heap} {C : CXT} {j k : Nat} {f : Addr} {fd : FuncData} {ps : List Str} {sp : Sp}
    (g : GFn P w K mg base C j f fd ps sp) (h : j ≤ k) : GFn P w K mg base C k f fd ps sp :=
  ⟨g.ln, fun A out s H as ws us Q E hr => g.go A out s H as ws us Q E (hr.mono h)⟩
theorem GFn.imp {P : Program} {w : World} {K : PySem.W.Frag} {mg : Str → Option Value} {base : Heap} {C : CXT} {k : Nat} {f : Addr} {fd : FuncData} {ps : List Str} {sp sp' : Sp}
    (g : GFn P w K mg base C k f fd ps sp) (h : ∀ us H Q E, sp' us H Q E → sp us H Q E) : GFn P w K mg base C k f fd ps sp' :=
  ⟨fun us H Q E q => g.ln us H Q E (h us H Q E q), fun A out s H as ws us Q E hr hg he hb hv q => g.go A out s H as ws us Q E hr hg he hb hv (h us H Q E q)⟩
section
variable {X : Cx} {C : CXT} {k : Nat} {f : Addr} {fd : FuncData} {ps : List Str} {sp : Sp} {E : L2.St → XK} {x : Str} {p pos : Pos} {e : Expr} {es : List Expr} {t : TA}
theorem run_g {pins : List (Addr × Obj)} {σ : L2.St} {H : Hp} {s : Shared} {Q : VK} {ws : List Value} {us : List V} (g : GFn X.prog X.w X.K X.mg X.base C k f fd ps sp) (hr : Room k X.A) (gd : X.A.guards = some [])
    (hb : Binds X.K fd ps []) (hx : PassesAt C X σ (E σ)) (I : Inv X pins σ H s) (r : Vals us ws) (h : sp us H Q (E σ)) :
    wpAny (model X.prog X.w) X.A (call (.ref f) ws) (EP X pins σ Q) X.xe s := by
  have hl : ws.length = ps.length := r.length.symm.trans (g.ln _ _ _ _ h)
  have bd := hb s ws I.kIn (by rw [List.append_nil]; exact hl)
  rw [List.append_nil] at bd
  refine wpAny_call (codeAny_mono (g.go X.A X.stack s H ⟨ws, []⟩ ws us Q (E σ) hr gd I.env0 bd r h) ?_)
  rintro (e | fl) s' q
  · exact hx pins H s e s' I q
  · cases fl <;> first | exact I.after q | exact False.elim q
theorem pe_g (g : GFn X.prog X.w X.K X.mg X.base C k f fd ps sp) (hr : Room k X.A) (gd : X.A.guards = some []) (hg : Gl X x) (hm : X.mg x = some (.ref f)) (hk : PySem.W.keepIn X.K (.ref f) = true) (hb : Binds X.K fd ps []) (hx : ∀ σ, PassesAt C X σ (E σ))
    (ha : PA X (e :: es) t) (hdb : (x == ("__debug__" : Str)) = false := by decide) (he : starEach (e :: es) X.env = (false, eval e X.env) :: starEach es X.env := by rfl) (hpl : (backTo pos (starEach es X.env)).any (·.1) = false := by rfl) :
    PE X (.Call (.Name x p) (e :: es) [] pos) (fun σ H Q => t σ H fun us H1 => sp us H1 Q (E σ)) := by
  constructor
  intro pins s σ H Q I h
  apply wpAny_Call_Name_kw
  refine ld_glob I hg hm (PySem.W.callWith_K (h₀ := X.base) I.ok.mod.kin hk ?_ he hpl) hdb
  refine thn (ha.run pos pins s σ H _ I h) ?_
  rintro ws s1 ⟨us, H1, I1, r, q⟩
  exact ⟨I1.kIn, run_g g hr gd hb (hx σ) I1 r q⟩
theorem pe_g0 (g : GFn X.prog X.w X.K X.mg X.base C k f fd ps sp) (hr : Room k X.A) (gd : X.A.guards = some []) (hg : Gl X x) (hm : X.mg x = some (.ref f)) (hk : PySem.W.keepIn X.K (.ref f) = true) (hb : Binds X.K fd ps []) (hx : ∀ σ, PassesAt C X σ (E σ))
    (hdb : (x == ("__debug__" : Str)) = false := by decide) : PE X (.Call (.Name x p) [] [] pos) (fun σ H Q => sp [] H Q (E σ)) := by
  constructor
  intro pins s σ H Q I h
  apply wpAny_Call_Name_kw
  exact ld_glob I hg hm (PySem.W.callWith_K0 I.kIn hk (run_g (ws := []) g hr gd hb (hx σ) I .nil h)) hdb
end
/-- the rule for a def of the text -/
theorem g_of {P : Program} {w : World} {K : PySem.W.Frag} {mg : Str → Option Value} {base : Heap} {x qual : Str} {st : Stmt} {f : Addr} {fd : FuncData} {N ps : List Str} {k : Nat} {sp : Sp} {C : CXT}
    (F : Fun K x qual st f fd) (S : FnScope N ps (defScope st)) (ln : ∀ us H Q E, sp us H Q E → us.length = ps.length)
    (body : ∀ (cdv : Value) (A : Around) (out : List Env) (s : Shared) (H : Hp) (us : List V) (Q : VK) (E : XK), fd.code = cdv → Room k (A.deeper (envOfC qual (defScope st) s.heap.objs.size f cdv)) → A.guards = some [] → sp us H Q E →
      ∃ t, PSs (cxOf C P w K mg base N qual (defScope st) f cdv A out s H E) (defBody st) t ∧ t { nx := fun _ H' => Q .non H', rt := Q } (L2.start N us) H) :
    GFn P w K mg base C (k + 1) f fd ps sp := by
  obtain ⟨oc, od, kV, doc, pm, an, cdv, ct, osl, rfl, lk, hcd⟩ := F.ex
  constructor
  · exact ln
  intro A out s H as ws us Q E hr hgd e0 hb r hsp
  have hl := ln _ _ _ _ hsp
  have inH : K.In s.heap := e0.mod.kin.keeps fun b o q => (e0.bs b o q).1
  have nolim : s.heap.NoLimit := e0.mod.nolimit.keeps fun b o q => (e0.bs b o q).1
  have kinds : ∀ y ∈ ps.zip ws, (defScope st).names.lookup y.1 = some .local ∨ ((defScope st).names.lookup y.1 = some .cell ∧ ((cellsFrom (s.heap.objs.size + 1) (defScope st).names []).lookup y.1).isSome = true) := by
    rintro ⟨n, v⟩ hy
    exact (S.par n (List.of_mem_zip hy).1).imp id fun q => ⟨q, PySem.W.cellsFrom_some _ _ _ (.inl q)⟩
  refine codeAny_call_function hr.depth (inH _ _ lk) rfl S.co S.gen rfl (PySem.W.codeRec_of inH hcd) (hb _ _ _ _ (wpAny_newFunctionEnv_cells S.kind kinds ?_))
  rintro env rfl s1 z
  refine ⟨nolim.keeps z.toInCall.keep, codeAny_func ?_⟩
  obtain ⟨t, ht, hq⟩ := body cdv A out s H us Q E rfl (hr.deeper _) hgd hsp
  have I : Inv (cxOf C P w K mg base N qual (defScope st) f cdv A out s H E) [] (L2.start N us) H s1 := inv_start S hr.hd e0 hl r z
  refine wpAny_mono (ht.run [] s1 (L2.start N us) H _ I hq) ?_ fun _ _ q => q
  intro fl s' q
  cases fl with
  | brk =>
    obtain ⟨_, _, _, q⟩ := q
    exact q.elim
  | cont =>
    obtain ⟨_, _, _, q⟩ := q
    exact q.elim
  | next =>
    obtain ⟨σ', H', J, q⟩ := q
    exact ⟨V.non, H', J.os, J.bare, J.base, J.hok, rfl, q⟩
  | ret u =>
    obtain ⟨v, σ', H', J, rv, q⟩ := q
    exact ⟨v, H', J.os, J.bare, J.base, J.hok, rv, q⟩
/-- the law's call, behind the top -/
theorem law_g {P : Program} {w : World} {K : PySem.W.Frag} {mg mb : Str → Option Value} {C : CXT} {k : Nat} {fa a : Addr} {fd : FuncData} {x : Str} {sp : Sp} {s₁ : Shared} {vs : List Value} {ns : List Int}
    (KX : K.In s₁.heap) (n1 : s₁.heap.Ns mainGlobals mg) (n2 : s₁.heap.Ns builtinsNs mb) (n3 : ∀ x : Str, x ≠ "__name__" → mb x = bootBuiltins x) (n4 : s₁.heap.NoLimit) (n5 : s₁.gens = #[])
    (ha : s₁.heap.get? a = some { cls := .type "list", data := .seq vs.toArray }) (hi : IntsAre vs ns) (hl : ns.length ≤ sizeLine) (hr : Room k callerA)
    (F : ∀ base : Heap, K.In base → base.Ns mainGlobals mg → GFn P w K mg base C k fa fd [x] sp) (bd : ∀ (s : Shared) (u : Value), BindsTo s fd ⟨[u], []⟩ [(x, u)])
    (hsp : ∀ H : Hp, Only H → SqL K H a (ns.map V.int) → sp [.ref a] H (fun v _ => v = .bl true) fun _ _ _ => False) (hC : ∀ H e s', C [] H s₁ (fun _ _ _ => False) e s' → False) :
    codeAny (model P w) callerA (.call (.ref fa) ⟨[.ref a], []⟩) (fun r s' => r = .ok (.ret (.bool true)) ∧ OldK s₁.heap s'.heap ∧ s'.os = s₁.os ∧ AllBare s'.gens) s₁ := by
  have rv := vals_ints hi
  have lv := hi.length
  have main : ∀ H : Hp, Only H → SqL K H a (ns.map V.int) → HOk P w H s₁.heap → (∀ b, H b ≠ none → b = a) → (H a ≠ none → K.lookup a = none) →
      codeAny (model P w) callerA (.call (.ref fa) ⟨[.ref a], []⟩) (fun r s' => r = .ok (.ret (.bool true)) ∧ OldK s₁.heap s'.heap ∧ s'.os = s₁.os ∧ AllBare s'.gens) s₁ := by
    intro H hO hS ok hA hK
    have at' : ∀ {b : Addr} {o : Obj}, s₁.heap.get? b = some o → H b ≠ none → o.data = Data.seq vs.toArray 0 := fun {b o} e n => by
      have e' := hA b n
      subst e'
      rw [ha] at e; cases e; rfl
    have nd : ∀ {b : Addr} {o : Obj} {es : Array DictEntry} {ep : Nat}, s₁.heap.get? b = some o → o.data = .dict es ep → H b = none := fun {b o es ep} e d =>
      Classical.byContradiction fun z => by have q := (at' e z).symm.trans d; cases q
    have nsK : ∀ {b : Addr} {m : Str → Option Value}, s₁.heap.Ns b m → (hidT s₁.heap H).Ns b m := fun {b m} ⟨o, es, ep, e, d, r⟩ => ⟨o, es, ep, hidT_get e (nd e d), d, r⟩
    have hKb : K.In (hidT s₁.heap H) := fun b o e => hidT_get (KX b o e) (Classical.byContradiction fun z => by
      have e' := hA b z
      subst e'
      rw [hK z] at e; cases e)
    have hM : Mod K mg (hidT s₁.heap H) := by
      obtain ⟨mc, c1, c2⟩ := n4
      exact ⟨hKb, nsK n1, ⟨mb, nsK n2, n3⟩, mc, nsK c1, c2⟩
    have e0 : Env0 P w K mg (hidT s₁.heap H) callerA [] s₁ H := ⟨rfl, hM, fun b o e => of_hidT e, Nat.le_of_eq (hidT_size _ _), trivial, fun b hb => (by cases hb), ok, .of_eq n5⟩
    have run := (F _ hKb (nsK n1)).go callerA [] s₁ H ⟨[.ref a], []⟩ [.ref a] [.ref a] _ _ hr rfl e0 (bd s₁ (.ref a)) (.cons rfl .nil) (hsp H hO hS)
    refine codeAny_mono run ?_
    rintro (e | fl) s' h
    · exact (hC H e s' h).elim
    · cases fl with
      | next => exact h.elim
      | brk => exact h.elim
      | cont => exact h.elim
      | ret u =>
        obtain ⟨v, H', os, bare, un, ok', r', q⟩ := h
        have q2 : v = .bl true := q
        subst q2
        have ru : u = Value.bool true := r'
        subst ru
        refine ⟨rfl, OldK.of_keep ?_, os, bare⟩
        intro b o e
        cases q : H b with
        | none => exact un.keep b o e q (by simp [frs]) (by simp)
        | some u =>
          rcases hO b with z | ⟨ob, xs, z⟩
          · rw [q] at z; cases z
          · obtain ⟨e1, _⟩ := ok b _ z
            obtain ⟨e2, _⟩ := ok' b _ (un.frzs b ob _ z)
            rw [e] at e1; cases e1
            exact e2
  cases hk : K.lookup a with
  | some o =>
    have e := KX a o hk
    rw [ha] at e
    cases e
    exact main (fun _ => none) (fun _ => .inl rfl) (.inr ⟨_, vs.toArray, _, hk, rfl, rfl, rfl, by rw [List.size_toArray, lv]; exact hl, by simpa using rv⟩) (fun b u z => nomatch z) (fun b z => absurd rfl z) fun z => absurd rfl z
  | none =>
    obtain ⟨H, hH1, hH2⟩ : ∃ H : Hp, H a = some (.frz { cls := .type "list", data := .seq vs.toArray } (.lst (ns.map V.int))) ∧ ∀ b, b ≠ a → H b = none :=
      ⟨fun b => if b = a then some (.frz { cls := .type "list", data := .seq vs.toArray } (.lst (ns.map V.int))) else none, if_pos rfl, fun b hb => if_neg hb⟩
    refine main H (fun b => ?_) (.inl (.inr ⟨_, hH1⟩)) (fun b u z => ?_) (fun b z => Classical.byContradiction fun n => z (hH2 b n)) fun _ => hk
    · by_cases hb : b = a
      · subst hb; exact .inr ⟨_, _, hH1⟩
      · exact .inl (hH2 b hb)
    · by_cases hb : b = a
      · subst hb
        rw [hH1] at z; cases z
        exact ⟨ha, by rw [List.length_map]; exact hl, vs, _, rv, ha⟩
      · rw [hH2 b hb] at z; cases z
theorem walk_g {l : PySem.W.OpenLaw} {n k : Nat} {q : Program} {loose : List Str} {XP : (Str → Option Value) → Heap → Prop} {YP : World → Heap → Prop} {d : DefRec} {K : Params → PySem.W.Frag} {C : World → CXT} {sp : World → Sp} {x : Str}
    (hn : l.most = some n) (hn2 : n ≤ sizeLine) (hdf : d.params.defaults = []) (hr : Room k callerA) (hY : ∀ (w : World) (h : Heap), YP w h → (K w.params).In h)
    (F : ∀ (w : World) (mg : Str → Option Value) (fa : Addr) (h : Heap), (K w.params).In h → h.Ns mainGlobals mg → mg d.name = some (.ref fa) →
      ∃ fd : FuncData, (∀ (s : Shared) (u : Value), BindsTo s fd ⟨[u], []⟩ [(x, u)]) ∧ ∀ base : Heap, (K w.params).In base → base.Ns mainGlobals mg → GFn l.prog w (K w.params) mg base (C w) k fa fd [x] (sp w))
    (hsp : ∀ (w : World) (H : Hp) (a : Addr) (ns : List Int), ns.length ≤ n → Only H → SqL (K w.params) H a (ns.map V.int) → sp w [.ref a] H (fun v _ => v = .bl true) fun _ _ _ => False)
    (hC : ∀ (w : World) (H : Hp) (s : Shared) (e : Value) (s' : Shared), C w [] H s (fun _ _ _ => False) e s' → False) :
    PySem.W.WalkO q loose XP YP l.row.toRowW d [] (fun f vs => PySem.call f vs) := by
  apply Att.attach_call hn hdf
  intro w s₀ s₁ mg mb fa o pm cd doc a vs ns G Y ho hd hcd hmg hobj hints hlen hg
  obtain ⟨fd, hb, hF⟩ := F w mg fa _ (hY w _ Y) G.T.g hmg
  exact law_g (hY w _ Y) G.T.g G.T.b G.T.builtins G.T.nolimit hg hobj hints (Nat.le_trans hlen hn2) hr hF hb (fun H h1 h2 => hsp w H a ns hlen h1 h2) fun H e s' => hC w H s₁ e s'
end DL
end
section
set_option maxRecDepth 100000
set_option maxHeartbeats 4000000
namespace DL
open PySem PySem.Spec PyProof.Rows L2
/-- the tables of code objects that lambdas and inner defs want: table, name -/
class Tb where
  T : List (Addr × Str)
def TbsOk [tb : Tb] (F H : Hp) : Prop := LamX.Tabs tb.T H ∧ ∀ p ∈ tb.T, F p.1 = none
/-- no table of code objects -/
def NoTb (o : HO) : Prop := ∀ ps, o ≠ .tbl ps
/-- what can be owned: lists, dicts, instances -/
def Nd : Option HO → Prop
  | some (.lst _) => True
  | some (.dK _) => True
  | some (.dT _) => True
  | some (.ins _ _ _) => True
  | _ => False
theorem Nd.noTb {o : HO} (h : Nd (some o)) : NoTb o := fun ps z => by subst z; exact h
theorem Nd.noCode {c : Addr} {q : Str} (h : Nd (some (LamX.CodeO c q))) : False := h
theorem codeO_noTb {c : Addr} {q : Str} : NoTb (LamX.CodeO c q) := fun ps => LamX.codeO_ne ps
theorem TabS.mut {H : Hp} {a : Addr} {ho : HO} (n : Nd (H a)) {P : Addr} {q : Str} (t : LamX.TabS H P q) : LamX.TabS (upd H a ho) P q := by
  obtain ⟨ps, h1, h2, h3⟩ := t
  have ne : ∀ {b : Addr} {o : HO}, H b = some o → ¬ Nd (some o) → b ≠ a := fun {b o} e z w => z (by rw [← e, w]; exact n)
  refine ⟨ps, by rw [upd_ne (ne h1 fun z => z)]; exact h1, h2, fun pos cv hc => ?_⟩
  obtain ⟨c, e1, e2⟩ := h3 pos cv hc
  exact ⟨c, e1, by rw [upd_ne (ne e2 fun z => z)]; exact e2⟩
theorem Tabs.mut {T : List (Addr × Str)} {H : Hp} {a : Addr} {ho : HO} (n : Nd (H a)) (t : LamX.Tabs T H) : LamX.Tabs T (upd H a ho) := fun p hp => TabS.mut n (t p hp)
theorem Tabs.new {T : List (Addr × Str)} {H : Hp} {a : Addr} {ho : HO} (n : H a = none) (t : LamX.Tabs T H) : LamX.Tabs T (upd H a ho) := t.ext fun b o e => by rw [upd_ne (ne_of_none e n)]; exact e
variable [tb : Tb]
theorem TbsOk.mut {F H : Hp} {a : Addr} {ho : HO} (n : Nd (H a)) (t : TbsOk F H) : TbsOk F (upd H a ho) := ⟨Tabs.mut n t.1, t.2⟩
theorem TbsOk.new {F H : Hp} {a : Addr} {ho : HO} (n : H a = none) (t : TbsOk F H) : TbsOk F (upd H a ho) := ⟨Tabs.new n t.1, t.2⟩
theorem TbsOk.at {F H : Hp} (t : TbsOk F H) {p : Addr × Str} (hp : p ∈ tb.T) : ∃ ps, H p.1 = some (.tbl ps) := let ⟨ps, h, _⟩ := t.1 p hp; ⟨ps, h⟩
/-- more is frozen: none of it is a table -/
theorem TbsOk.frz {F F' H : Hp} (t : TbsOk F H) (h : ∀ a, F' a ≠ none → F a ≠ none ∨ (∀ ps, H a ≠ some (.tbl ps))) : TbsOk F' H := ⟨t.1, fun p hp => Classical.byContradiction fun z => by
  rcases h _ z with q | q
  · exact q (t.2 p hp)
  · obtain ⟨ps, e⟩ := t.at hp
    exact q ps e⟩
theorem Nd.noT {o : Option HO} (h : Nd o) : ∀ ps, o ≠ some (.tbl ps) := fun ps z => by subst z; exact h

/-! ### data -/
inductive D where
  | non | bl (b : Bool) | int (i : Int) | str (x : Str) | ty (n : String) | ref (a : Addr)
  | tup (l : List D) | lst (l : List D) | rol (l : List D) | dct (ks : List Key) (vs : List D) | ins (C : Addr) (ns : List Str) (vs : List D)

mutual
def Rep (K : PySem.W.Frag) (F : Hp) : D → V → Prop
  | .non, v => v = .non
  | .bl b, v => v = .bl b
  | .int i, v => v = .int i
  | .str x, v => v = .str x
  | .ty n, v => v = .ty n
  | .ref a, v => v = .ref a
  | .tup ds, v => ∃ a vs, v = .ref a ∧ SqT K F a vs ∧ Reps K F ds vs
  | .lst ds, v => ∃ a vs, v = .ref a ∧ F a = some (.lst vs) ∧ Reps K F ds vs
  | .rol ds, v => ∃ a vs, v = .ref a ∧ SqL K F a vs ∧ Reps K F ds vs
  | .dct ks ds, v => ∃ a vs, v = .ref a ∧ F a = some (.dK (ks.zip vs)) ∧ ks.length = ds.length ∧ Reps K F ds vs
  | .ins C ns ds, v => ∃ a dx vs, v = .ref a ∧ F a = some (.ins C dx (ns.zip vs)) ∧ ns.length = ds.length ∧ Reps K F ds vs
def Reps (K : PySem.W.Frag) (F : Hp) : List D → List V → Prop
  | [], vs => vs = []
  | d :: ds, vs => ∃ v r, vs = v :: r ∧ Rep K F d v ∧ Reps K F ds r
end
section
variable {K : PySem.W.Frag} {F F' H H' : Hp}
theorem SqT.same {a : Addr} {xs : List V} (e : Same F F') (h : SqT K F a xs) : SqT K F' a xs := by
  rcases h with (h | ⟨o, h⟩) | h
  · exact .inl (.inl (e _ _ h))
  · exact .inl (.inr ⟨o, e _ _ h⟩)
  · exact .inr h
theorem Rd.same {a : Addr} {u : HO} (e : Same F F') (h : Rd F a u) : Rd F' a u := by
  rcases h with h | ⟨o, h⟩
  · exact .inl (e _ _ h)
  · exact .inr ⟨o, e _ _ h⟩
mutual
theorem Rep.same (e : Same F F') : ∀ (d : D) {v : V}, Rep K F d v → Rep K F' d v
  | .non, _, h => h
  | .bl _, _, h => h
  | .int _, _, h => h
  | .str _, _, h => h
  | .ty _, _, h => h
  | .ref _, _, h => h
  | .tup ds, _, h => by
    simp only [Rep] at h ⊢
    obtain ⟨a, vs, h1, h2, h3⟩ := h
    exact ⟨a, vs, h1, SqT.same e h2, Reps.same e ds h3⟩
  | .lst ds, _, h => by
    simp only [Rep] at h ⊢
    obtain ⟨a, vs, h1, h2, h3⟩ := h
    exact ⟨a, vs, h1, e _ _ h2, Reps.same e ds h3⟩
  | .rol ds, _, h => by
    simp only [Rep] at h ⊢
    obtain ⟨a, vs, h1, h2, h3⟩ := h
    exact ⟨a, vs, h1, e.seq h2, Reps.same e ds h3⟩
  | .dct ks ds, _, h => by
    simp only [Rep] at h ⊢
    obtain ⟨a, vs, h1, h2, h3, h4⟩ := h
    exact ⟨a, vs, h1, e _ _ h2, h3, Reps.same e ds h4⟩
  | .ins C ns ds, _, h => by
    simp only [Rep] at h ⊢
    obtain ⟨a, dx, vs, h1, h2, h3, h4⟩ := h
    exact ⟨a, dx, vs, h1, e _ _ h2, h3, Reps.same e ds h4⟩
theorem Reps.same (e : Same F F') : ∀ (ds : List D) {vs : List V}, Reps K F ds vs → Reps K F' ds vs
  | [], _, h => h
  | d :: ds, _, h => by
    simp only [Reps] at h ⊢
    obtain ⟨v, r, h1, h2, h3⟩ := h
    exact ⟨v, r, h1, Rep.same e d h2, Reps.same e ds h3⟩
end
theorem Reps.len : ∀ {ds : List D} {vs : List V}, Reps K F ds vs → vs.length = ds.length
  | [], _, h => by simp only [Reps] at h; rw [h]; rfl
  | d :: ds, _, h => by
    simp only [Reps] at h
    obtain ⟨v, r, rfl, _, h3⟩ := h
    simp [Reps.len h3]
theorem Reps.get : ∀ {ds : List D} {vs : List V} {i : Nat} {d : D}, Reps K F ds vs → ds[i]? = some d → ∃ v, vs[i]? = some v ∧ Rep K F d v
  | [], _, _, _, _, e => by simp at e
  | d :: ds, _, 0, _, h, e => by
    simp only [Reps] at h
    obtain ⟨v, r, rfl, h2, h3⟩ := h
    simp at e; subst e
    exact ⟨v, rfl, h2⟩
  | d :: ds, _, i + 1, _, h, e => by
    simp only [Reps] at h
    obtain ⟨v, r, rfl, h2, h3⟩ := h
    simp at e
    obtain ⟨w, h4, h5⟩ := Reps.get h3 e
    exact ⟨w, by simpa using h4, h5⟩
theorem Reps.getV : ∀ {ds : List D} {vs : List V} {i : Nat} {v : V}, Reps K F ds vs → vs[i]? = some v → ∃ d, ds[i]? = some d ∧ Rep K F d v
  | [], _, _, _, h, e => by simp only [Reps] at h; subst h; simp at e
  | d :: ds, _, 0, _, h, e => by
    simp only [Reps] at h
    obtain ⟨v, r, rfl, h2, h3⟩ := h
    simp at e; subst e
    exact ⟨d, rfl, h2⟩
  | d :: ds, _, i + 1, _, h, e => by
    simp only [Reps] at h
    obtain ⟨v, r, rfl, h2, h3⟩ := h
    simp at e
    obtain ⟨w, h4, h5⟩ := Reps.getV h3 e
    exact ⟨w, by simpa using h4, h5⟩
theorem Reps.append : ∀ {ds es : List D} {vs us : List V}, Reps K F ds vs → Reps K F es us → Reps K F (ds ++ es) (vs ++ us)
  | [], _, _, _, h, h' => by simp only [Reps] at h; subst h; exact h'
  | d :: ds, _, _, _, h, h' => by
    simp only [Reps] at h
    obtain ⟨v, r, rfl, h2, h3⟩ := h
    exact ⟨v, _, rfl, h2, Reps.append h3 h'⟩
theorem Reps.one {d : D} {v : V} (h : Rep K F d v) : Reps K F [d] [v] := ⟨v, [], rfl, h, rfl⟩
theorem Reps.take : ∀ {ds : List D} {vs : List V} (n : Nat), Reps K F ds vs → Reps K F (ds.take n) (vs.take n)
  | [], _, n, h => by simp only [Reps] at h; subst h; simp [Reps]
  | d :: ds, _, 0, h => by simp [Reps]
  | d :: ds, _, n + 1, h => by
    simp only [Reps] at h
    obtain ⟨v, r, rfl, h2, h3⟩ := h
    exact ⟨v, _, rfl, h2, Reps.take n h3⟩
theorem Reps.drop : ∀ {ds : List D} {vs : List V} (n : Nat), Reps K F ds vs → Reps K F (ds.drop n) (vs.drop n)
  | [], _, n, h => by simp only [Reps] at h; subst h; simp [Reps]
  | d :: ds, _, 0, h => h
  | d :: ds, _, n + 1, h => by
    simp only [Reps] at h
    obtain ⟨v, r, rfl, h2, h3⟩ := h
    exact Reps.drop n h3
theorem Reps.set : ∀ {ds : List D} {vs : List V} (n : Nat) {d : D} {v : V}, Rep K F d v → Reps K F ds vs → Reps K F (ds.set n d) (vs.set n v)
  | [], _, n, _, _, _, h => by simp only [Reps] at h; subst h; simp [Reps]
  | d :: ds, _, 0, _, _, q, h => by
    simp only [Reps] at h
    obtain ⟨v, r, rfl, h2, h3⟩ := h
    exact ⟨_, _, rfl, q, h3⟩
  | d :: ds, _, n + 1, _, _, q, h => by
    simp only [Reps] at h
    obtain ⟨v, r, rfl, h2, h3⟩ := h
    exact ⟨v, _, rfl, h2, Reps.set n q h3⟩
theorem Reps.iff : ∀ {ds : List D} {vs : List V}, Reps K F ds vs ↔ vs.length = ds.length ∧ ∀ (i : Nat) (d : D) (v : V), ds[i]? = some d → vs[i]? = some v → Rep K F d v := by
  intro ds vs
  constructor
  · intro h
    refine ⟨h.len, fun i d v e1 e2 => ?_⟩
    obtain ⟨w, h1, h2⟩ := h.get e1
    rw [e2] at h1; cases h1; exact h2
  · induction ds generalizing vs with
    | nil => rintro ⟨h, _⟩; simpa [Reps] using h
    | cons d ds ih =>
      rintro ⟨h, q⟩
      cases vs with
      | nil => simp at h
      | cons v r => exact ⟨v, r, rfl, q 0 d v rfl rfl, ih ⟨by simpa using h, fun i e w e1 e2 => q (i + 1) e w (by simpa using e1) (by simpa using e2)⟩⟩
end

/-! ### owned trees -/
inductive O where
  | val (d : D) | lst (l : List D) | dK (ks : List Key) (vs : List D) | dT (ks : List (List Key)) (vs : List D)
  | lo (l : List O) | ins (C : Addr) (ns : List Str) (l : List O)
mutual
def Own (K : PySem.W.Frag) (F H : Hp) : O → V → List Addr → Prop
  | .val d, v, B => B = [] ∧ Rep K F d v
  | .lst ds, v, B => ∃ a vs, v = .ref a ∧ B = [a] ∧ H a = some (.lst vs) ∧ Reps K F ds vs
  | .dK ks ds, v, B => ∃ a vs, v = .ref a ∧ B = [a] ∧ H a = some (.dK (ks.zip vs)) ∧ ks.length = ds.length ∧ Reps K F ds vs
  | .dT ks ds, v, B => ∃ a vs, v = .ref a ∧ B = [a] ∧ H a = some (.dT (ks.zip vs)) ∧ ks.length = ds.length ∧ Reps K F ds vs
  | .lo os, v, B => ∃ a vs B', v = .ref a ∧ B = a :: B' ∧ H a = some (.lst vs) ∧ Owns K F H os vs B'
  | .ins C ns os, v, B => ∃ a dx vs B', v = .ref a ∧ B = a :: B' ∧ H a = some (.ins C dx (ns.zip vs)) ∧ ns.length = os.length ∧ Owns K F H os vs B'
def Owns (K : PySem.W.Frag) (F H : Hp) : List O → List V → List Addr → Prop
  | [], vs, B => vs = [] ∧ B = []
  | o :: os, vs, B => ∃ v r B1 B2, vs = v :: r ∧ B = B1 ++ B2 ∧ Own K F H o v B1 ∧ Owns K F H os r B2
end

/-- what a piece of code may change: what it owned; what it froze: what it owned, or what is new -/
structure Step (F H : Hp) (P : Addr → Prop) (F' H' : Hp) (P' : Addr → Prop) : Prop where
  fz : Same F F'
  keep : ∀ a o, H a = some o → NoTb o → ¬ P a → H' a = some o
  tabs : TbsOk F H → TbsOk F' H'
  new : ∀ a, F' a ≠ none → F a ≠ none ∨ H a = none ∨ P a
  dom : ∀ a, H' a = none → H a = none
  own : ∀ a, P' a → P a ∨ H a = none
section
variable {F H F1 H1 F2 H2 : Hp} {P P1 P2 B : Addr → Prop}
theorem Step.refl : Step F H P F H P := ⟨Same.refl _, fun _ _ h _ _ => h, fun h => h, fun _ h => .inl h, fun _ h => h, fun _ h => .inl h⟩
theorem Step.trans (a : Step F H P F1 H1 P1) (b : Step F1 H1 P1 F2 H2 P2) : Step F H P F2 H2 P2 where
  fz := a.fz.trans b.fz
  tabs := fun h => b.tabs (a.tabs h)
  keep := fun x o h nt n => b.keep x o (a.keep x o h nt n) nt fun p => by
    rcases a.own x p with z | z
    · exact n z
    · rw [h] at z; cases z
  new := fun x h => by
    rcases b.new x h with z | z | z
    · exact a.new x z
    · exact .inr (.inl (a.dom x z))
    · rcases a.own x z with z | z
      · exact .inr (.inr z)
      · exact .inr (.inl z)
  dom := fun x h => a.dom x (b.dom x h)
  own := fun x h => by
    rcases b.own x h with z | z
    · exact a.own x z
    · exact .inr (a.dom x z)
/-- with more that is owned beside -/
theorem Step.frame (a : Step F H P F1 H1 P1) (B : Addr → Prop) : Step F H (fun x => P x ∨ B x) F1 H1 (fun x => P1 x ∨ B x) where
  fz := a.fz
  tabs := a.tabs
  keep := fun x o h nt n => a.keep x o h nt fun p => n (.inl p)
  new := fun x h => by
    rcases a.new x h with z | z | z
    · exact .inl z
    · exact .inr (.inl z)
    · exact .inr (.inr (.inl z))
  dom := a.dom
  own := fun x h => by
    rcases h with h | h
    · rcases a.own x h with z | z
      · exact .inl (.inl z)
      · exact .inr z
    · exact .inl (.inr h)
theorem Step.less (a : Step F H P F1 H1 P1) (h : ∀ x, P2 x → P1 x) : Step F H P F1 H1 P2 := ⟨a.fz, a.keep, a.tabs, a.new, a.dom, fun x p => a.own x (h x p)⟩
theorem Step.more (a : Step F H P F1 H1 P1) (h : ∀ x, P x → P2 x) : Step F H P2 F1 H1 P1 :=
  ⟨a.fz, fun x o e nt n => a.keep x o e nt fun p => n (h x p), a.tabs, fun x e => by
    rcases a.new x e with z | z | z
    · exact .inl z
    · exact .inr (.inl z)
    · exact .inr (.inr (h x z)), a.dom, fun x p => (a.own x p).imp_left (h x)⟩
end

section
variable {K : PySem.W.Frag} {F F' H H' : Hp}
mutual
theorem Own.there : ∀ (o : O) {v : V} {B : List Addr}, Own K F H o v B → ∀ b ∈ B, H b ≠ none
  | .val d, _, _, h, b, hb => by
    simp only [Own] at h
    rw [h.1] at hb; cases hb
  | .lst ds, _, _, h, b, hb => by
    simp only [Own] at h
    obtain ⟨a, vs, _, rfl, e, _⟩ := h
    simp only [List.mem_singleton] at hb; subst hb
    rw [e]; simp
  | .dK ks ds, _, _, h, b, hb => by
    simp only [Own] at h
    obtain ⟨a, vs, _, rfl, e, _⟩ := h
    simp only [List.mem_singleton] at hb; subst hb
    rw [e]; simp
  | .dT ks ds, _, _, h, b, hb => by
    simp only [Own] at h
    obtain ⟨a, vs, _, rfl, e, _⟩ := h
    simp only [List.mem_singleton] at hb; subst hb
    rw [e]; simp
  | .lo os, _, _, h, b, hb => by
    simp only [Own] at h
    obtain ⟨a, vs, B', _, rfl, e, q⟩ := h
    rcases List.mem_cons.mp hb with rfl | hb
    · rw [e]; simp
    · exact Owns.there os q b hb
  | .ins C ns os, _, _, h, b, hb => by
    simp only [Own] at h
    obtain ⟨a, dx, vs, B', _, rfl, e, _, q⟩ := h
    rcases List.mem_cons.mp hb with rfl | hb
    · rw [e]; simp
    · exact Owns.there os q b hb
theorem Owns.there : ∀ (os : List O) {vs : List V} {B : List Addr}, Owns K F H os vs B → ∀ b ∈ B, H b ≠ none
  | [], _, _, h, b, hb => by
    simp only [Owns] at h
    rw [h.2] at hb; cases hb
  | o :: os, _, _, h, b, hb => by
    simp only [Owns] at h
    obtain ⟨v, r, B1, B2, _, rfl, h1, h2⟩ := h
    rcases List.mem_append.mp hb with hb | hb
    · exact Own.there o h1 b hb
    · exact Owns.there os h2 b hb
end
mutual
theorem Own.nd : ∀ (o : O) {v : V} {B : List Addr}, Own K F H o v B → ∀ b ∈ B, Nd (H b)
  | .val d, _, _, h, b, hb => by
    simp only [Own] at h
    rw [h.1] at hb; cases hb
  | .lst ds, _, _, h, b, hb => by
    simp only [Own] at h
    obtain ⟨a, vs, _, rfl, e, _⟩ := h
    simp only [List.mem_singleton] at hb; subst hb
    rw [e]; exact trivial
  | .dK ks ds, _, _, h, b, hb => by
    simp only [Own] at h
    obtain ⟨a, vs, _, rfl, e, _⟩ := h
    simp only [List.mem_singleton] at hb; subst hb
    rw [e]; exact trivial
  | .dT ks ds, _, _, h, b, hb => by
    simp only [Own] at h
    obtain ⟨a, vs, _, rfl, e, _⟩ := h
    simp only [List.mem_singleton] at hb; subst hb
    rw [e]; exact trivial
  | .lo os, _, _, h, b, hb => by
    simp only [Own] at h
    obtain ⟨a, vs, B', _, rfl, e, q⟩ := h
    rcases List.mem_cons.mp hb with rfl | hb
    · rw [e]; exact trivial
    · exact Owns.nd os q b hb
  | .ins C ns os, _, _, h, b, hb => by
    simp only [Own] at h
    obtain ⟨a, dx, vs, B', _, rfl, e, _, q⟩ := h
    rcases List.mem_cons.mp hb with rfl | hb
    · rw [e]; exact trivial
    · exact Owns.nd os q b hb
theorem Owns.nd : ∀ (os : List O) {vs : List V} {B : List Addr}, Owns K F H os vs B → ∀ b ∈ B, Nd (H b)
  | [], _, _, h, b, hb => by
    simp only [Owns] at h
    rw [h.2] at hb; cases hb
  | o :: os, _, _, h, b, hb => by
    simp only [Owns] at h
    obtain ⟨v, r, B1, B2, _, rfl, h1, h2⟩ := h
    rcases List.mem_append.mp hb with hb | hb
    · exact Own.nd o h1 b hb
    · exact Owns.nd os h2 b hb
end
mutual
/-- what is owned stays where its own objects stay -/
theorem Own.stay (e : Same F F') : ∀ (o : O) {v : V} {B : List Addr}, Own K F H o v B → (∀ b ∈ B, ∀ u, H b = some u → H' b = some u) → Own K F' H' o v B
  | .val d, _, _, h, _ => by
    simp only [Own] at h ⊢
    exact ⟨h.1, Rep.same e d h.2⟩
  | .lst ds, _, _, h, k => by
    simp only [Own] at h ⊢
    obtain ⟨a, vs, rfl, rfl, h1, h2⟩ := h
    exact ⟨a, vs, rfl, rfl, k a (List.mem_singleton.mpr rfl) _ h1, Reps.same e ds h2⟩
  | .dK ks ds, _, _, h, k => by
    simp only [Own] at h ⊢
    obtain ⟨a, vs, rfl, rfl, h1, h3, h2⟩ := h
    exact ⟨a, vs, rfl, rfl, k a (List.mem_singleton.mpr rfl) _ h1, h3, Reps.same e ds h2⟩
  | .dT ks ds, _, _, h, k => by
    simp only [Own] at h ⊢
    obtain ⟨a, vs, rfl, rfl, h1, h3, h2⟩ := h
    exact ⟨a, vs, rfl, rfl, k a (List.mem_singleton.mpr rfl) _ h1, h3, Reps.same e ds h2⟩
  | .lo os, _, _, h, k => by
    simp only [Own] at h ⊢
    obtain ⟨a, vs, B', rfl, rfl, h1, h2⟩ := h
    exact ⟨a, vs, B', rfl, rfl, k a List.mem_cons_self _ h1, Owns.stay e os h2 fun b hb => k b (List.mem_cons_of_mem _ hb)⟩
  | .ins C ns os, _, _, h, k => by
    simp only [Own] at h ⊢
    obtain ⟨a, dx, vs, B', rfl, rfl, h1, h3, h2⟩ := h
    exact ⟨a, dx, vs, B', rfl, rfl, k a List.mem_cons_self _ h1, h3, Owns.stay e os h2 fun b hb => k b (List.mem_cons_of_mem _ hb)⟩
theorem Owns.stay (e : Same F F') : ∀ (os : List O) {vs : List V} {B : List Addr}, Owns K F H os vs B → (∀ b ∈ B, ∀ u, H b = some u → H' b = some u) → Owns K F' H' os vs B
  | [], _, _, h, _ => h
  | o :: os, _, _, h, k => by
    simp only [Owns] at h ⊢
    obtain ⟨v, r, B1, B2, rfl, rfl, h1, h2⟩ := h
    exact ⟨v, r, B1, B2, rfl, rfl, Own.stay e o h1 fun b hb => k b (List.mem_append_left _ hb), Owns.stay e os h2 fun b hb => k b (List.mem_append_right _ hb)⟩
end
end

/-! ### the names' slots -/
inductive Slot where
  | un | own (o : O) | pin (o : O)
abbrev DEnv := List Slot
/-- a result: data; a new tree; the very object that slot i holds -/
inductive R where
  | val (d : D) | own (o : O) | bor (i : Nat)
abbrev Exc := Str
inductive Res (α : Type) where
  | bad | ok (a : α) (e : DEnv) | exc (c : Exc) (e : DEnv)
abbrev M (α : Type) := DEnv → Res α

def SlotOk (K : PySem.W.Frag) (F H : Hp) (s : Slot) (x : Option V) (p : Option V) (B : List Addr) : Prop :=
  match s with
  | .un => B = []
  | .own o => ∃ v, x = some v ∧ Own K F H o v B
  | .pin o => ∃ v, x = some v ∧ p = some v ∧ Own K F H o v B
def UA (A : Nat → List Addr) : Addr → Prop := fun a => ∃ i, a ∈ A i
structure WS (K : PySem.W.Frag) (pv : Nat → Option V) (env : DEnv) (σ : L2.St) (F H : Hp) (A : Nat → List Addr) : Prop where
  len : env.length = σ.length
  slot : ∀ i, SlotOk K F H (env[i]?.getD .un) (σ[i]?.getD none) (pv i) (A i)
  nd : ∀ i, (A i).Nodup
  dj : ∀ i j a, a ∈ A i → a ∈ A j → i = j
  dis : ∀ i a, a ∈ A i → F a = none
  sub : Same F H
  tbs : TbsOk F H
def SlotOk.stay {K : PySem.W.Frag} {F F' H H' : Hp} {s : Slot} {x p : Option V} {B : List Addr} (e : Same F F') (h : SlotOk K F H s x p B) (k : ∀ b ∈ B, ∀ u, H b = some u → H' b = some u) : SlotOk K F' H' s x p B := by
  cases s with
  | un => exact h
  | own o => obtain ⟨v, h1, h2⟩ := h; exact ⟨v, h1, Own.stay e o h2 k⟩
  | pin o => obtain ⟨v, h1, h0, h2⟩ := h; exact ⟨v, h1, h0, Own.stay e o h2 k⟩
def SlotOk.there {K : PySem.W.Frag} {F H : Hp} {s : Slot} {x p : Option V} {B : List Addr} (h : SlotOk K F H s x p B) : ∀ b ∈ B, H b ≠ none := by
  cases s with
  | un => intro b hb; rw [show B = [] from h] at hb; cases hb
  | own o => obtain ⟨v, h1, h2⟩ := h; exact Own.there o h2
  | pin o => obtain ⟨v, h1, h0, h2⟩ := h; exact Own.there o h2

theorem SlotOk.nd {K : PySem.W.Frag} {F H : Hp} {s : Slot} {x p : Option V} {B : List Addr} (h : SlotOk K F H s x p B) : ∀ b ∈ B, Nd (H b) := by
  cases s with
  | un => intro b hb; rw [show B = [] from h] at hb; cases hb
  | own o => obtain ⟨v, h1, h2⟩ := h; exact Own.nd o h2
  | pin o => obtain ⟨v, h1, h0, h2⟩ := h; exact Own.nd o h2

/-- a result's value -/
def RRep (K : PySem.W.Frag) (env : DEnv) (σ : L2.St) (F H : Hp) (r : R) (v : V) (B : List Addr) : Prop :=
  match r with
  | .val d => B = [] ∧ Rep K F d v
  | .own o => Own K F H o v B
  | .bor i => B = [] ∧ σ[i]? = some (some v)
structure RS (K : PySem.W.Frag) (pv : Nat → Option V) (env : DEnv) (σ : L2.St) (r : R) (v : V) (F H : Hp) (A : Nat → List Addr) (B : List Addr) : Prop where
  ws : WS K pv env σ F H A
  rr : RRep K env σ F H r v B
  nd : B.Nodup
  dj : ∀ a ∈ B, ¬ UA A a
  dis : ∀ a ∈ B, F a = none
/-- what is wished of an exception that leaves -/
def exW (mg : Str → Option Value) (W : WX) (c : Exc) (σ : L2.St) (H : Hp) : Prop := ∀ C, mg c = some (.ref C) → W (.ref C) none σ H
/-- the canonical reading of an expression whose meaning is f -/
def tD (K : PySem.W.Frag) (mg : Str → Option Value) (pv : Nat → Option V) (W : WX) (f : M R) : TE := fun σ H Q => ∃ env F A, WS K pv env σ F H A ∧
  match f env with
  | .bad => False
  | .ok r env' => ∀ v F' H' A' B, Step F H (UA A) F' H' (fun a => UA A' a ∨ a ∈ B) → RS K pv env' σ r v F' H' A' B → Q v H'
  | .exc c env' => ∀ F' H' A', Step F H (UA A) F' H' (UA A') → WS K pv env' σ F' H' A' → exW mg W c σ H'
def tDT (K : PySem.W.Frag) (mg : Str → Option Value) (pv : Nat → Option V) (W : WX) (f : M Bool) : TT := fun σ H Q => ∃ env F A, WS K pv env σ F H A ∧
  match f env with
  | .bad => False
  | .ok b env' => ∀ F' H' A', Step F H (UA A) F' H' (UA A') → WS K pv env' σ F' H' A' → Q b H'
  | .exc c env' => ∀ F' H' A', Step F H (UA A) F' H' (UA A') → WS K pv env' σ F' H' A' → exW mg W c σ H'
inductive Flow where
  | nx | brk | cont | ret (r : R)
def sD (K : PySem.W.Frag) (mg : Str → Option Value) (pv : Nat → Option V) (W : WX) (g : M Flow) : TS := fun D σ H => ∃ env F A, WS K pv env σ F H A ∧
  match g env with
  | .bad => False
  | .ok .nx env' => ∀ σ' F' H' A', Step F H (UA A) F' H' (UA A') → WS K pv env' σ' F' H' A' → D.nx σ' H'
  | .ok .brk env' => ∀ σ' F' H' A', Step F H (UA A) F' H' (UA A') → WS K pv env' σ' F' H' A' → D.bk σ' H'
  | .ok .cont env' => ∀ σ' F' H' A', Step F H (UA A) F' H' (UA A') → WS K pv env' σ' F' H' A' → D.ct σ' H'
  | .ok (.ret r) env' => ∀ v σ' F' H' A' B, Step F H (UA A) F' H' (fun a => UA A' a ∨ a ∈ B) → RS K pv env' σ' r v F' H' A' B → D.rt v H'
  | .exc c env' => ∀ σ' F' H' A', Step F H (UA A) F' H' (UA A') → WS K pv env' σ' F' H' A' → exW mg W c σ' H'

section
variable {K : PySem.W.Frag} {pv : Nat → Option V} {env env' : DEnv} {σ : L2.St} {F F' H H' : Hp} {A A' : Nat → List Addr} {B : List Addr} {r : R} {v : V}
theorem WS.stay (w : WS K pv env σ F H A) (e : Same F F') (sub : Same F' H') (k : ∀ b, UA A b → ∀ u, H b = some u → H' b = some u) (n : ∀ b, UA A b → F' b = none) (t : TbsOk F H → TbsOk F' H') : WS K pv env σ F' H' A :=
  ⟨w.len, fun i => (w.slot i).stay e fun b hb => k b ⟨i, hb⟩, w.nd, w.dj, fun i a h => n a ⟨i, h⟩, sub, t w.tbs⟩
theorem WS.there (w : WS K pv env σ F H A) {a : Addr} (h : UA A a) : H a ≠ none := by
  obtain ⟨i, hi⟩ := h
  exact (w.slot i).there a hi
theorem WS.disU (w : WS K pv env σ F H A) {a : Addr} (h : UA A a) : F a = none := by
  obtain ⟨i, hi⟩ := h
  exact w.dis i a hi
theorem RRep.there (h : RRep K env σ F H r v B) : ∀ b ∈ B, H b ≠ none := by
  cases r with
  | val d => intro b hb; rw [h.1] at hb; cases hb
  | own o => exact Own.there o h
  | bor i => intro b hb; rw [h.1] at hb; cases hb
theorem RRep.nd (h : RRep K env σ F H r v B) : ∀ b ∈ B, Nd (H b) := by
  cases r with
  | val d => intro b hb; rw [h.1] at hb; cases hb
  | own o => exact Own.nd o h
  | bor i => intro b hb; rw [h.1] at hb; cases hb
theorem WS.ndU (w : WS K pv env σ F H A) {a : Addr} (h : UA A a) : Nd (H a) := by
  obtain ⟨i, hi⟩ := h
  exact (w.slot i).nd a hi
theorem RRep.stay {env2 : DEnv} (h : RRep K env σ F H r v B) (e : Same F F') (k : ∀ b ∈ B, ∀ u, H b = some u → H' b = some u) : RRep K env2 σ F' H' r v B := by
  cases r with
  | val d => exact ⟨h.1, Rep.same e d h.2⟩
  | own o => exact Own.stay e o h k
  | bor i => exact h
/-- a result that waits while another piece of code runs -/
theorem RS.wait (a : RS K pv env σ r v F H A B) {P' : Addr → Prop} (s : Step F H (UA A) F' H' P') {env2 : DEnv} (ws : WS K pv env2 σ F' H' A') : RRep K env2 σ F' H' r v B ∧ (∀ x ∈ B, F' x = none) ∧ (∀ x ∈ B, ¬ P' x) := by
  have th := a.rr.there
  refine ⟨a.rr.stay s.fz fun b hb u e => s.keep b u e (Nd.noTb (by rw [← e]; exact a.rr.nd b hb)) (a.dj b hb), fun x hx => ?_, fun x hx p => ?_⟩
  · apply Classical.byContradiction
    intro z
    rcases s.new x z with q | q | q
    · exact q (a.dis x hx)
    · exact th x hx q
    · exact a.dj x hx q
  · rcases s.own x p with q | q
    · exact a.dj x hx q
    · exact th x hx q
end
theorem _root_.L2.PE.imp {X : Cx} {e : Expr} {t t' : TE} (h : PE X e t) (i : ∀ σ H Q, t' σ H Q → t σ H Q) : PE X e t' := ⟨fun pins s σ H Q I q => h.run pins s σ H Q I (i σ H Q q)⟩
theorem _root_.L2.PT.imp {X : Cx} {e : Expr} {t t' : TT} (h : PT X e t) (i : ∀ σ H Q, t' σ H Q → t σ H Q) : PT X e t' := ⟨fun pins s σ H Q I q => h.run pins s σ H Q I (i σ H Q q)⟩
theorem _root_.L2.PW.imp {X : Cx} {e : Expr} {t t' : TT} (h : PW X e t) (i : ∀ σ H Q, t' σ H Q → t σ H Q) : PW X e t' := ⟨fun w pins s σ H Q I q => h.run w pins s σ H Q I (i σ H Q q)⟩
theorem _root_.L2.PS.imp {X : Cx} {e : Stmt} {t t' : TS} (h : PS X e t) (i : ∀ D σ H, t' D σ H → t D σ H) : PS X e t' := ⟨fun pins s σ H D I q => h.run pins s σ H D I (i D σ H q)⟩
theorem _root_.L2.PSs.imp {X : Cx} {e : List Stmt} {t t' : TS} (h : PSs X e t) (i : ∀ D σ H, t' D σ H → t D σ H) : PSs X e t' := ⟨fun pins s σ H D I q => h.run pins s σ H D I (i D σ H q)⟩
theorem _root_.L2.PA.imp {X : Cx} {e : List Expr} {t t' : TA} (h : PA X e t) (i : ∀ σ H Q, t' σ H Q → t σ H Q) : PA X e t' := ⟨fun p pins s σ H Q I q => h.run p pins s σ H Q I (i σ H Q q)⟩

/-! ### sequencing: what the rest of the code needs -/
def Res.bind {α β : Type} (x : Res α) (k : α → M β) : Res β := match x with
  | .bad => .bad
  | .ok a e => k a e
  | .exc c e => .exc c e
section
variable {K : PySem.W.Frag} {pv : Nat → Option V} {W : WX} {mg : Str → Option Value}
/-- an expression, then something else: from the reading of the whole, the first's reading with what the rest wants behind it -/
theorem tD_bind {f : M R} {σ : L2.St} {H : Hp} {Q : VK} {env : DEnv} {F : Hp} {A : Nat → List Addr} (ws : WS K pv env σ F H A) (hb : f env ≠ .bad)
    (hx : ∀ c env', f env = .exc c env' → ∀ F' H' A', Step F H (UA A) F' H' (UA A') → WS K pv env' σ F' H' A' → exW mg W c σ H')
    (hk : ∀ r env', f env = .ok r env' → ∀ v F' H' A' B, Step F H (UA A) F' H' (fun a => UA A' a ∨ a ∈ B) → RS K pv env' σ r v F' H' A' B → Q v H') : tD K mg pv W f σ H Q := by
  refine ⟨env, F, A, ws, ?_⟩
  cases e : f env with
  | bad => exact hb e
  | ok r env' => exact hk r env' e
  | exc c env' => exact hx c env' e
end
end DL
end
section
set_option maxRecDepth 100000
set_option maxHeartbeats 4000000
namespace DL
open PySem PySem.Spec PyProof.Rows L2
variable [tb : Tb]

/-- the data that is to be read at a value now -/
def Vw (K : PySem.W.Frag) (F H : Hp) : D → V → Prop
  | .lst ds, v => ∃ a vs, v = .ref a ∧ H a = some (.lst vs) ∧ Reps K F ds vs
  | .dct ks ds, v => ∃ a vs, v = .ref a ∧ H a = some (.dK (ks.zip vs)) ∧ ks.length = ds.length ∧ Reps K F ds vs
  | d, v => Rep K F d v
theorem Vw.of {K : PySem.W.Frag} {F H : Hp} (s : Same F H) {d : D} {v : V} (h : Rep K F d v) : Vw K F H d v := by
  cases d with
  | lst ds =>
    simp only [Rep] at h
    obtain ⟨a, vs, h1, h2, h3⟩ := h
    exact ⟨a, vs, h1, s _ _ h2, h3⟩
  | dct ks ds =>
    simp only [Rep] at h
    obtain ⟨a, vs, h1, h2, h3, h4⟩ := h
    exact ⟨a, vs, h1, s _ _ h2, h3, h4⟩
  | _ => exact h
def O.view : O → Option D
  | .val d => some d
  | .lst ds => some (.lst ds)
  | .dK ks ds => some (.dct ks ds)
  | _ => none
def Slot.o : Slot → Option O
  | .un => none
  | .own o => some o
  | .pin o => some o
def resolve (env : DEnv) : R → Option D
  | .val d => some d
  | .own o => o.view
  | .bor i => match env[i]?.bind Slot.o with
    | some o => o.view
    | none => none
theorem Own.view {K : PySem.W.Frag} {F H : Hp} (s : Same F H) {o : O} {v : V} {B : List Addr} {d : D} (h : Own K F H o v B) (e : o.view = some d) : Vw K F H d v := by
  cases o with
  | val d' =>
    cases e
    simp only [Own] at h
    exact Vw.of s h.2
  | lst ds =>
    cases e
    simp only [Own] at h
    obtain ⟨a, vs, h1, _, h2, h3⟩ := h
    exact ⟨a, vs, h1, h2, h3⟩
  | dK ks ds =>
    cases e
    simp only [Own] at h
    obtain ⟨a, vs, h1, _, h2, h3, h4⟩ := h
    exact ⟨a, vs, h1, h2, h3, h4⟩
  | dT ks ds => cases e
  | lo os => cases e
  | ins C ns os => cases e
section
variable {K : PySem.W.Frag} {pv : Nat → Option V} {W : WX} {mg : Str → Option Value} {env env' : DEnv} {σ : L2.St} {F F' H H' : Hp} {A A' : Nat → List Addr} {B : List Addr} {r : R} {v : V}
/-- the slot of a value that is borrowed -/
theorem WS.at (w : WS K pv env σ F H A) {i : Nat} {o : O} (e : env[i]?.bind Slot.o = some o) {v : V} (hv : σ[i]? = some (some v)) : Own K F H o v (A i) := by
  have h := w.slot i
  cases es : env[i]? with
  | none => rw [es] at e; simp at e
  | some s =>
    rw [es] at e h
    rw [hv] at h
    simp only [Option.getD_some] at h
    cases s with
    | un => simp [Slot.o] at e
    | own o' =>
      simp [Slot.o] at e; subst e
      obtain ⟨v', h1, h2⟩ := h
      cases h1; exact h2
    | pin o' =>
      simp [Slot.o] at e; subst e
      obtain ⟨v', h1, _, h2⟩ := h
      cases h1; exact h2
theorem WS.has (w : WS K pv env σ F H A) {i : Nat} {o : O} (e : env[i]?.bind Slot.o = some o) : ∃ v, σ[i]? = some (some v) ∧ Own K F H o v (A i) := by
  have h := w.slot i
  cases es : env[i]? with
  | none => rw [es] at e; simp at e
  | some s =>
    have hi : i < σ.length := by rw [← w.len]; exact (List.getElem?_eq_some_iff.mp es).1
    rw [es] at e h
    simp only [Option.getD_some] at h
    cases s with
    | un => simp [Slot.o] at e
    | own o' =>
      simp [Slot.o] at e; subst e
      obtain ⟨v', h1, h2⟩ := h
      refine ⟨v', ?_, h2⟩
      rw [List.getElem?_eq_getElem hi] at h1 ⊢
      simpa using h1
    | pin o' =>
      simp [Slot.o] at e; subst e
      obtain ⟨v', h1, _, h2⟩ := h
      refine ⟨v', ?_, h2⟩
      rw [List.getElem?_eq_getElem hi] at h1 ⊢
      simpa using h1
theorem RRep.view (w : WS K pv env σ F H A) (h : RRep K env σ F H r v B) {d : D} (e : resolve env r = some d) : Vw K F H d v := by
  cases r with
  | val d' => cases e; exact Vw.of w.sub h.2
  | own o => exact Own.view w.sub h e
  | bor i =>
    simp only [resolve] at e
    split at e
    · rename_i o ho
      exact Own.view w.sub (w.at ho h.2) e
    · cases e

/-! ### operations by values -/
def RV (K : PySem.W.Frag) (F H : Hp) (r : R) (v : V) (B : List Addr) : Prop :=
  match r with
  | .val d => B = [] ∧ Rep K F d v
  | .own o => Own K F H o v B ∧ B.Nodup ∧ ∀ a ∈ B, F a = none
  | .bor _ => False
abbrev Nw (F H F' H' : Hp) (B : List Addr) : Prop := Step F H (fun _ => False) F' H' (fun a => a ∈ B)
/-- what is wanted behind an operation that makes new things alone -/
def VOk (K : PySem.W.Frag) (F H : Hp) (r : R) (Q : VK) : Prop := ∀ v F' H' B, Nw F H F' H' B → Same F' H' → RV K F' H' r v B → Q v H'
theorem VOk.flat {d : D} {Q : VK} (h : VOk K F H (.val d) Q) (s : Same F H) (e : Rep K F d v) : Q v H := h v F H [] (Step.refl.less fun _ z => nomatch z) s ⟨rfl, e⟩
theorem Nw.put {F H : Hp} {p : Addr} {o : HO} (n : H p = none) (s : Same F H) : Nw F H F (upd H p o) [p] where
  fz := Same.refl _
  keep := fun a u e _ _ => by rw [upd_ne (ne_of_none e n)]; exact e
  tabs := fun t => TbsOk.new n t
  new := fun a e => .inl e
  dom := fun a e => by
    by_cases z : a = p
    · rw [z]; exact n
    · rw [upd_ne z] at e; exact e
  own := fun a e => by
    simp only [List.mem_singleton] at e
    subst e; exact .inr n
theorem Nw.frz {F H : Hp} {p : Addr} {o : HO} (n : H p = none) (s : Same F H) : Nw F H (upd F p o) (upd H p o) [] where
  fz := fun a u e => by rw [upd_ne (ne_of_none (s _ _ e) n)]; exact e
  keep := fun a u e _ _ => by rw [upd_ne (ne_of_none e n)]; exact e
  tabs := fun t => ⟨Tabs.new n t.1, fun q hq => by
    obtain ⟨ps, e⟩ := t.at hq
    rw [upd_ne (ne_of_none e n)]
    exact t.2 q hq⟩
  new := fun a e => by
    by_cases z : a = p
    · rw [z]; exact .inr (.inl n)
    · rw [upd_ne z] at e; exact .inl e
  dom := fun a e => by
    by_cases z : a = p
    · rw [z]; exact n
    · rw [upd_ne z] at e; exact e
  own := fun a e => nomatch e
theorem same_put {F H : Hp} {p : Addr} {o : HO} (n : H p = none) (s : Same F H) : Same F (upd H p o) := fun a u e => by rw [upd_ne (ne_of_none (s _ _ e) n)]; exact s _ _ e
theorem same_frz {F H : Hp} {p : Addr} {o : HO} (s : Same F H) : Same (upd F p o) (upd H p o) := fun a u e => by
  by_cases z : a = p
  · subst z; rw [upd_same] at e ⊢; exact e
  · rw [upd_ne z] at e ⊢; exact s _ _ e
/-- a new list, owned -/
theorem VOk.lst {ds : List D} {vs : List V} {Q : VK} (h : VOk K F H (.own (.lst ds)) Q) (s : Same F H) (e : Reps K F ds vs) {p : Addr} (n : H p = none) : Q (.ref p) (upd H p (.lst vs)) := by
  refine h _ F _ [p] (Nw.put n s) (same_put n s) ⟨?_, by simp, fun a ha => ?_⟩
  · simp only [Own]
    exact ⟨p, vs, rfl, rfl, upd_same, e⟩
  · simp only [List.mem_singleton] at ha
    subst ha
    exact Same.free s n
/-- a new tuple -/
theorem VOk.tup {ds : List D} {vs : List V} {Q : VK} (h : VOk K F H (.val (.tup ds)) Q) (s : Same F H) (e : Reps K F ds vs) {p : Addr} (n : H p = none) : Q (.ref p) (upd H p (.tup vs)) := by
  refine h _ (upd F p (.tup vs)) _ [] (Nw.frz n s) (same_frz s) ⟨rfl, ?_⟩
  simp only [Rep]
  exact ⟨p, vs, rfl, .of upd_same, Reps.same (Nw.frz (o := .tup vs) n s).fz ds e⟩

theorem WS.nw (w : WS K pv env σ F H A) {B' : List Addr} (n : Nw F H F' H' B') (s : Same F' H') : WS K pv env σ F' H' A := by
  refine w.stay n.fz s (fun b hb u e => n.keep b u e (Nd.noTb (by rw [← e]; exact w.ndU hb)) fun z => z) (fun b hb => ?_) n.tabs
  apply Classical.byContradiction
  intro z
  rcases n.new b z with q | q | q
  · exact q (w.disU hb)
  · exact w.there hb q
  · exact q
/-- the end of an operation by values: the state behind it -/
theorem fin_op {F0 H0 : Hp} {A0 : Nat → List Addr} {P : Addr → Prop} (st : Step F0 H0 (UA A0) F H P) (hp : ∀ a, UA A a → P a) (ws : WS K pv env σ F H A) {F' H' : Hp} {B' : List Addr} (n : Nw F H F' H' B') (s : Same F' H') (rv : RV K F' H' r v B') :
    Step F0 H0 (UA A0) F' H' (fun a => UA A a ∨ a ∈ B') ∧ RS K pv env σ r v F' H' A B' := by
  have ws' := ws.nw n s
  have st1 : Step F0 H0 (UA A0) F H (UA A) := st.less hp
  have n2 := (n.frame (UA A))
  have n3 : Step F H (UA A) F' H' (fun a => UA A a ∨ a ∈ B') := (n2.more (P2 := UA A) fun x hx => hx.elim False.elim id).less fun x hx => hx.symm
  refine ⟨st1.trans n3, ws', ?_, ?_, ?_, ?_⟩
  · cases r with
    | val d => exact rv
    | own o => exact rv.1
    | bor i => exact rv.elim
  · cases r with
    | val d => rw [rv.1]; exact List.nodup_nil
    | own o => exact rv.2.1
    | bor i => exact rv.elim
  · intro a ha hu
    rcases n.own a ha with z | z
    · exact z
    · exact ws.there hu z
  · cases r with
    | val d => intro a ha; rw [rv.1] at ha; cases ha
    | own o => exact rv.2.2
    | bor i => exact rv.elim
end

/-! ### two operands -/
def fin2 (h : D → D → Option R) (r1 r2 : R) (env : DEnv) : Res R :=
  match resolve env r1, resolve env r2 with
  | some d1, some d2 => (match h d1 d2 with
    | some ro => .ok ro env
    | none => .bad)
  | _, _ => .bad
def op2 (h : D → D → Option R) (f g : M R) : M R := fun env => (f env).bind fun r1 e1 => (g e1).bind fun r2 e2 => fin2 h r1 r2 e2
def OpV (K : PySem.W.Frag) (r : R2) (h : D → D → Option R) : Prop := ∀ (F H : Hp) (d1 d2 : D) (v1 v2 : V) (ro : R) (Q : VK), Same F H → Vw K F H d1 v1 → Vw K F H d2 v2 → h d1 d2 = some ro → VOk K F H ro Q → r v1 v2 H Q
section
variable {K : PySem.W.Frag} {pv : Nat → Option V} {W : WX} {mg : Str → Option Value} {f g : M R} {h : D → D → Option R} {r : R2} {σ : L2.St} {H : Hp} {Q : VK}
theorem op2_rd (hv : OpV K r h) (q : tD K mg pv W (op2 h f g) σ H Q) : tOp r (tD K mg pv W f) (tD K mg pv W g) σ H Q := by
  obtain ⟨env, F, A, ws, q⟩ := q
  simp only [op2] at q
  refine tD_bind ws (fun e => ?_) (fun c e1 e F1 H1 A1 s1 w1 => ?_) (fun r1 e1 e v1 F1 H1 A1 B1 s1 rs1 => ?_)
  · rw [e] at q; exact q
  · rw [e] at q; exact q F1 H1 A1 s1 w1
  · rw [e] at q
    simp only [Res.bind] at q
    refine tD_bind rs1.ws (fun e => ?_) (fun c e2 e F2 H2 A2 s2 w2 => ?_) (fun r2 e2 e v2 F2 H2 A2 B2 s2 rs2 => ?_)
    · rw [e] at q; exact q
    · rw [e] at q
      exact q F2 H2 A2 (s1.trans ((s2.frame (fun a => a ∈ B1)).less fun x hx => .inl hx)) w2
    · rw [e] at q
      simp only [fin2] at q
      obtain ⟨k1, k2, k3⟩ := rs1.wait s2 rs2.ws
      cases h1 : resolve e2 r1 with
      | none => rw [h1] at q; exact q.elim
      | some d1 =>
        cases h2 : resolve e2 r2 with
        | none => rw [h1, h2] at q; exact q.elim
        | some d2 =>
          rw [h1, h2] at q
          cases h3 : h d1 d2 with
          | none => simp only [h3] at q
          | some ro =>
            simp only [h3] at q
            refine hv F2 H2 d1 d2 v1 v2 ro Q rs2.ws.sub (k1.view rs2.ws h1) (rs2.rr.view rs2.ws h2) h3 fun v F3 H3 B3 n s rv => ?_
            have st := s1.trans (s2.frame (fun a => a ∈ B1))
            obtain ⟨z1, z2⟩ := fin_op st (fun a ha => .inl (.inl ha)) rs2.ws n s rv
            exact q v F3 H3 A2 B3 z1 z2
end
section
variable {X : Cx} {pv : Nat → Option V} {W : WX} {mg : Str → Option Value} {f g : M R} {h : D → D → Option R} {a b : Expr} {pos : Pos} {r : R2}
theorem de_op {op : Operator} (ho : OpR X (binaryOp op) r) (hv : OpV X.K r h) (ha : PE X a (tD X.K X.mg pv W f)) (hb : PE X b (tD X.K X.mg pv W g)) : PE X (.BinOp a op b pos) (tD X.K X.mg pv W (op2 h f g)) :=
  (pe_op ho ha hb).imp fun _ _ _ q => op2_rd hv q
theorem de_cmp {op : CmpOp} (ho : OpR X (compareOp op) r) (hv : OpV X.K r h) (ha : PE X a (tD X.K X.mg pv W f)) (hb : PE X b (tD X.K X.mg pv W g)) (hm : behindInMarks op b = false) : PE X (.Compare a [op] [b] pos) (tD X.K X.mg pv W (op2 h f g)) :=
  (pe_cmpR ho ha hb hm).imp fun _ _ _ q => op2_rd hv q
end
end DL
end
section
set_option maxRecDepth 100000
set_option maxHeartbeats 4000000
namespace DL
open PySem PySem.Spec PyProof.Rows L2
variable [tb : Tb]

/-! ### freezing -/
mutual
def O.frz : O → Option D
  | .val d => some d
  | .lst ds => some (.lst ds)
  | .dK ks ds => some (.dct ks ds)
  | .dT _ _ => none
  | .lo os => match O.frzs os with
    | some ds => some (.lst ds)
    | none => none
  | .ins C ns os => match O.frzs os with
    | some ds => some (.ins C ns ds)
    | none => none
def O.frzs : List O → Option (List D)
  | [] => some []
  | o :: os => match O.frz o, O.frzs os with
    | some d, some ds => some (d :: ds)
    | _, _ => none
end
/-- F with what H has at B -/
noncomputable def ext (F H : Hp) (B : Addr → Prop) : Hp := fun a => open Classical in if B a then H a else F a
section
variable {K : PySem.W.Frag} {F H : Hp} {B : Addr → Prop}
theorem ext_in {a : Addr} (h : B a) : ext F H B a = H a := by unfold ext; rw [if_pos h]
theorem ext_out {a : Addr} (h : ¬ B a) : ext F H B a = F a := by unfold ext; rw [if_neg h]
theorem ext_same (s : Same F H) : Same F (ext F H B) := fun a o e => by
  by_cases h : B a
  · rw [ext_in h]; exact s _ _ e
  · rw [ext_out h]; exact e
theorem ext_sub (s : Same F H) : Same (ext F H B) H := fun a o e => by
  by_cases h : B a
  · rw [ext_in h] at e; exact e
  · rw [ext_out h] at e; exact s _ _ e
theorem ext_tb1 {F H : Hp} {B : Addr → Prop} (h : ∀ a, B a → Nd (H a)) : ∀ a, ext F H B a ≠ none → F a ≠ none ∨ (∀ ps, H a ≠ some (.tbl ps)) := fun a ha => by
  by_cases z : B a
  · exact .inr (h a z).noT
  · rw [ext_out z] at ha
    exact .inl ha
theorem O.frzs_len : ∀ {os : List O} {ds : List D}, O.frzs os = some ds → ds.length = os.length
  | [], ds, e => by simp only [O.frzs] at e; cases e; rfl
  | o :: os, ds, e => by
    simp only [O.frzs] at e
    split at e
    · rename_i d ds' h1 h2
      cases e
      simp [O.frzs_len h2]
    · cases e
mutual
theorem Own.frz {G : Hp} (s : Same F G) : ∀ (o : O) {v : V} {C : List Addr} {d : D}, Own K F H o v C → (∀ a ∈ C, G a = H a) → o.frz = some d → Rep K G d v
  | .val d, _, _, _, h, _, e => by
    simp only [O.frz] at e; cases e
    simp only [Own] at h
    exact Rep.same s d h.2
  | .lst ds, _, _, _, h, b, e => by
    simp only [O.frz] at e; cases e
    simp only [Own] at h
    obtain ⟨a, vs, h1, rfl, h2, h3⟩ := h
    simp only [Rep]
    exact ⟨a, vs, h1, (by rw [b a (List.mem_singleton.mpr rfl)]; exact h2), Reps.same s ds h3⟩
  | .dK ks ds, _, _, _, h, b, e => by
    simp only [O.frz] at e; cases e
    simp only [Own] at h
    obtain ⟨a, vs, h1, rfl, h2, h4, h3⟩ := h
    simp only [Rep]
    exact ⟨a, vs, h1, (by rw [b a (List.mem_singleton.mpr rfl)]; exact h2), h4, Reps.same s ds h3⟩
  | .dT ks ds, _, _, _, _, _, e => by simp only [O.frz] at e; cases e
  | .lo os, _, _, _, h, b, e => by
    simp only [O.frz] at e
    split at e
    · rename_i ds hd
      cases e
      simp only [Own] at h
      obtain ⟨a, vs, B', h1, rfl, h2, h3⟩ := h
      simp only [Rep]
      exact ⟨a, vs, h1, (by rw [b a List.mem_cons_self]; exact h2), Owns.frz s os h3 (fun c hc => b c (List.mem_cons_of_mem _ hc)) hd⟩
    · cases e
  | .ins C ns os, _, _, _, h, b, e => by
    simp only [O.frz] at e
    split at e
    · rename_i ds hd
      cases e
      simp only [Own] at h
      obtain ⟨a, dx, vs, B', h1, rfl, h2, h4, h3⟩ := h
      simp only [Rep]
      refine ⟨a, dx, vs, h1, by rw [b a List.mem_cons_self]; exact h2, ?_, Owns.frz s os h3 (fun c hc => b c (List.mem_cons_of_mem _ hc)) hd⟩
      rw [h4, O.frzs_len hd]
    · cases e
theorem Owns.frz {G : Hp} (s : Same F G) : ∀ (os : List O) {vs : List V} {C : List Addr} {ds : List D}, Owns K F H os vs C → (∀ a ∈ C, G a = H a) → O.frzs os = some ds → Reps K G ds vs
  | [], _, _, _, h, _, e => by
    simp only [O.frzs] at e; cases e
    simp only [Owns] at h
    exact h.1
  | o :: os, _, _, _, h, b, e => by
    simp only [O.frzs] at e
    split at e
    · rename_i d ds h1 h2
      cases e
      simp only [Owns] at h
      obtain ⟨v, r, B1, B2, rfl, rfl, q1, q2⟩ := h
      exact ⟨v, r, rfl, Own.frz s o q1 (fun a ha => b a (List.mem_append_left _ ha)) h1, Owns.frz s os q2 (fun a ha => b a (List.mem_append_right _ ha)) h2⟩
    · cases e
end
end

/-! ### several results -/
def RReps (K : PySem.W.Frag) (env : DEnv) (σ : L2.St) (F H : Hp) : List R → List V → List Addr → Prop
  | [], vs, B => vs = [] ∧ B = []
  | r :: rs, vs, B => ∃ v t B1 B2, vs = v :: t ∧ B = B1 ++ B2 ∧ RRep K env σ F H r v B1 ∧ RReps K env σ F H rs t B2
structure RSs (K : PySem.W.Frag) (pv : Nat → Option V) (env : DEnv) (σ : L2.St) (rs : List R) (vs : List V) (F H : Hp) (A : Nat → List Addr) (B : List Addr) : Prop where
  ws : WS K pv env σ F H A
  rr : RReps K env σ F H rs vs B
  nd : B.Nodup
  dj : ∀ a ∈ B, ¬ UA A a
  dis : ∀ a ∈ B, F a = none
def tDA (K : PySem.W.Frag) (mg : Str → Option Value) (pv : Nat → Option V) (W : WX) (f : M (List R)) : TA := fun σ H Q => ∃ env F A, WS K pv env σ F H A ∧
  match f env with
  | .bad => False
  | .ok rs env' => ∀ vs F' H' A' B, Step F H (UA A) F' H' (fun a => UA A' a ∨ a ∈ B) → RSs K pv env' σ rs vs F' H' A' B → Q vs H'
  | .exc c env' => ∀ F' H' A', Step F H (UA A) F' H' (UA A') → WS K pv env' σ F' H' A' → exW mg W c σ H'
def dNil : M (List R) := fun env => .ok [] env
def dCons (f : M R) (fs : M (List R)) : M (List R) := fun env => (f env).bind fun r e1 => (fs e1).bind fun rs e2 => .ok (r :: rs) e2
section
variable {K : PySem.W.Frag} {pv : Nat → Option V} {W : WX} {mg : Str → Option Value}
theorem tDA_bind {f : M (List R)} {σ : L2.St} {H : Hp} {Q : List V → Hp → Prop} {env : DEnv} {F : Hp} {A : Nat → List Addr} (ws : WS K pv env σ F H A) (hb : f env ≠ .bad)
    (hx : ∀ c env', f env = .exc c env' → ∀ F' H' A', Step F H (UA A) F' H' (UA A') → WS K pv env' σ F' H' A' → exW mg W c σ H')
    (hk : ∀ r env', f env = .ok r env' → ∀ v F' H' A' B, Step F H (UA A) F' H' (fun a => UA A' a ∨ a ∈ B) → RSs K pv env' σ r v F' H' A' B → Q v H') : tDA K mg pv W f σ H Q := by
  refine ⟨env, F, A, ws, ?_⟩
  cases e : f env with
  | bad => exact hb e
  | ok r env' => exact hk r env' e
  | exc c env' => exact hx c env' e
theorem dNil_rd {σ : L2.St} {H : Hp} {Q : List V → Hp → Prop} (q : tDA K mg pv W dNil σ H Q) : tNil σ H Q := by
  obtain ⟨env, F, A, ws, q⟩ := q
  exact q [] F H A [] (Step.refl.less fun x hx => hx.elim id fun z => nomatch z) ⟨ws, ⟨rfl, rfl⟩, List.nodup_nil, (fun a h => nomatch h), (fun a h => nomatch h)⟩
theorem dCons_rd {f : M R} {fs : M (List R)} {σ : L2.St} {H : Hp} {Q : List V → Hp → Prop} (q : tDA K mg pv W (dCons f fs) σ H Q) : tCons (tD K mg pv W f) (tDA K mg pv W fs) σ H Q := by
  obtain ⟨env, F, A, ws, q⟩ := q
  simp only [dCons] at q
  refine tD_bind ws (fun e => ?_) (fun c e1 e F1 H1 A1 s1 w1 => ?_) (fun r1 e1 e v1 F1 H1 A1 B1 s1 rs1 => ?_)
  · rw [e] at q; exact q
  · rw [e] at q; exact q F1 H1 A1 s1 w1
  · rw [e] at q
    simp only [Res.bind] at q
    refine tDA_bind rs1.ws (fun e => ?_) (fun c e2 e F2 H2 A2 s2 w2 => ?_) (fun r2 e2 e v2 F2 H2 A2 B2 s2 rs2 => ?_)
    · rw [e] at q; exact q
    · rw [e] at q
      exact q F2 H2 A2 (s1.trans ((s2.frame (fun a => a ∈ B1)).less fun x hx => .inl hx)) w2
    · rw [e] at q
      obtain ⟨k1, k2, k3⟩ := rs1.wait s2 rs2.ws
      refine q (v1 :: v2) F2 H2 A2 (B1 ++ B2) ?_ ⟨rs2.ws, ⟨v1, v2, B1, B2, rfl, rfl, k1, rs2.rr⟩, ?_, ?_, ?_⟩
      · refine (s1.trans (s2.frame (fun a => a ∈ B1))).less fun x hx => ?_
        rcases hx with hx | hx
        · exact .inl (.inl hx)
        · rcases List.mem_append.mp hx with hx | hx
          · exact .inr hx
          · exact .inl (.inr hx)
      · refine List.nodup_append.mpr ⟨rs1.nd, rs2.nd, fun a ha b hb z => ?_⟩
        subst z
        exact k3 a ha (.inr hb)
      · intro a ha hu
        rcases List.mem_append.mp ha with h | h
        · exact k3 a h (.inl hu)
        · exact rs2.dj a h hu
      · intro a ha
        rcases List.mem_append.mp ha with h | h
        · exact k2 a h
        · exact rs2.dis a h
end
section
variable {X : Cx} {pv : Nat → Option V} {W : WX} {f : M R} {fs : M (List R)} {e : Expr} {es : List Expr}
theorem da_nil : PA X [] (tDA X.K X.mg pv W dNil) := pa_nil.imp fun _ _ _ q => dNil_rd q
theorem da_cons (ha : PE X e (tD X.K X.mg pv W f)) (hr : PA X es (tDA X.K X.mg pv W fs)) (hs : starEach (e :: es) X.env = (false, eval e X.env) :: starEach es X.env := by rfl) : PA X (e :: es) (tDA X.K X.mg pv W (dCons f fs)) :=
  (pa_cons ha hr hs).imp fun _ _ _ q => dCons_rd q
end

/-! ### names, constants -/
def dVar (i : Nat) : M R := fun env => match env[i]? with
  | some (.own (.val d)) => .ok (.val d) env
  | some (.pin (.val d)) => .ok (.val d) env
  | some (.own _) => .ok (.bor i) env
  | some (.pin _) => .ok (.bor i) env
  | _ => .bad
def dC (d : D) : M R := fun env => .ok (.val d) env
section
variable {X : Cx} {pv : Nat → Option V} {W : WX}
theorem step_id {F H : Hp} {A : Nat → List Addr} : Step F H (UA A) F H (fun a => UA A a ∨ a ∈ ([] : List Addr)) := Step.refl.less fun x hx => hx.elim id fun z => nomatch z
theorem rs_val {K : PySem.W.Frag} {pv : Nat → Option V} {env : DEnv} {σ : L2.St} {F H : Hp} {A : Nat → List Addr} {d : D} {v : V} (ws : WS K pv env σ F H A) (h : Rep K F d v) : RS K pv env σ (.val d) v F H A [] :=
  ⟨ws, ⟨rfl, h⟩, List.nodup_nil, (fun a h => nomatch h), (fun a h => nomatch h)⟩
theorem rs_bor {K : PySem.W.Frag} {pv : Nat → Option V} {env : DEnv} {σ : L2.St} {F H : Hp} {A : Nat → List Addr} {i : Nat} {v : V} (ws : WS K pv env σ F H A) (h : σ[i]? = some (some v)) : RS K pv env σ (.bor i) v F H A [] :=
  ⟨ws, ⟨rfl, h⟩, List.nodup_nil, (fun a h => nomatch h), (fun a h => nomatch h)⟩
theorem de_var {i : Nat} {x : Str} {pos : Pos} (hN : X.N[i]? = some x) (hv : Vis X.env.scope x) (hd : (x == ("__debug__" : Str)) = false := by decide) (hcd : (x == ("__classdict__" : Str)) = false := by decide) : PE X (.Name x pos) (tD X.K X.mg pv W (dVar i)) := by
  refine (pe_var hN hv hd hcd).imp fun σ H Q q => ?_
  obtain ⟨env, F, A, ws, q⟩ := q
  unfold dVar at q
  cases es : env[i]? with
  | none => simp only [es] at q
  | some s =>
    simp only [es] at q
    cases s with
    | un => exact q.elim
    | own o =>
      obtain ⟨v, hv, ho⟩ := ws.has (i := i) (o := o) (by rw [es]; rfl)
      refine ⟨v, hv, ?_⟩
      cases o with
      | val d =>
        simp only [Own] at ho
        exact q v F H A [] step_id (rs_val ws ho.2)
      | lst ds => exact q v F H A [] step_id (rs_bor ws hv)
      | dK ks ds => exact q v F H A [] step_id (rs_bor ws hv)
      | dT ks ds => exact q v F H A [] step_id (rs_bor ws hv)
      | lo os => exact q v F H A [] step_id (rs_bor ws hv)
      | ins C ns os => exact q v F H A [] step_id (rs_bor ws hv)
    | pin o =>
      obtain ⟨v, hv, ho⟩ := ws.has (i := i) (o := o) (by rw [es]; rfl)
      refine ⟨v, hv, ?_⟩
      cases o with
      | val d =>
        simp only [Own] at ho
        exact q v F H A [] step_id (rs_val ws ho.2)
      | lst ds => exact q v F H A [] step_id (rs_bor ws hv)
      | dK ks ds => exact q v F H A [] step_id (rs_bor ws hv)
      | dT ks ds => exact q v F H A [] step_id (rs_bor ws hv)
      | lo os => exact q v F H A [] step_id (rs_bor ws hv)
      | ins C ns os => exact q v F H A [] step_id (rs_bor ws hv)
theorem de_c {e : Expr} {v : V} {d : D} (h : PE X e (tC v)) (r : ∀ F, Rep X.K F d v) : PE X e (tD X.K X.mg pv W (dC d)) := h.imp fun σ H Q q => by
  obtain ⟨env, F, A, ws, q⟩ := q
  exact q v F H A [] step_id (rs_val ws (r F))
theorem de_int {i j pos} : PE X (.Constant (.int i) j pos) (tD X.K X.mg pv W (dC (.int i))) := de_c pe_int fun _ => rfl
theorem de_bl {i j pos} : PE X (.Constant (.bool i) j pos) (tD X.K X.mg pv W (dC (.bl i))) := de_c pe_bl fun _ => rfl
theorem de_non {j pos} : PE X (.Constant .none j pos) (tD X.K X.mg pv W (dC .non)) := de_c pe_non fun _ => rfl
theorem de_str {i j pos} : PE X (.Constant (.str i) j pos) (tD X.K X.mg pv W (dC (.str i))) := de_c pe_str fun _ => rfl
end
end DL
end
section
set_option maxRecDepth 100000
set_option maxHeartbeats 4000000
namespace DL
open PySem PySem.Spec PyProof.Rows L2
variable [tb : Tb]

/-! ### data without lists -/
mutual
def D.lfree : D → Bool
  | .tup ds => D.lfrees ds
  | .lst _ => false
  | .rol _ => false
  | .dct _ _ => false
  | .ins _ _ _ => false
  | _ => true
def D.lfrees : List D → Bool
  | [] => true
  | d :: ds => d.lfree && D.lfrees ds
end
mutual
def O.lfree : O → Bool
  | .val d => d.lfree
  | .lst ds => D.lfrees ds
  | .dK _ ds => D.lfrees ds
  | .dT _ ds => D.lfrees ds
  | .lo os => O.lfrees os
  | .ins _ _ os => O.lfrees os
def O.lfrees : List O → Bool
  | [] => true
  | o :: os => o.lfree && O.lfrees os
end
/-- F' keeps F's tuples -/
def Tups (F F' : Hp) : Prop := ∀ a xs, Rd F a (.tup xs) → Rd F' a (.tup xs)
section
variable {K : PySem.W.Frag} {F F' H : Hp}
mutual
theorem Rep.lfree (t : Tups F F') : ∀ (d : D) {v : V}, Rep K F d v → d.lfree = true → Rep K F' d v
  | .non, _, h, _ => h
  | .bl _, _, h, _ => h
  | .int _, _, h, _ => h
  | .str _, _, h, _ => h
  | .ty _, _, h, _ => h
  | .ref _, _, h, _ => h
  | .tup ds, _, h, q => by
    simp only [Rep] at h ⊢
    obtain ⟨a, vs, h1, h2, h3⟩ := h
    refine ⟨a, vs, h1, ?_, Reps.lfree t ds h3 (by simpa [D.lfree] using q)⟩
    rcases h2 with h2 | h2
    · exact .inl (t _ _ h2)
    · exact .inr h2
  | .lst ds, _, _, q => by simp [D.lfree] at q
  | .rol ds, _, _, q => by simp [D.lfree] at q
  | .dct ks ds, _, _, q => by simp [D.lfree] at q
  | .ins C ns ds, _, _, q => by simp [D.lfree] at q
theorem Reps.lfree (t : Tups F F') : ∀ (ds : List D) {vs : List V}, Reps K F ds vs → D.lfrees ds = true → Reps K F' ds vs
  | [], _, h, _ => h
  | d :: ds, _, h, q => by
    simp only [Reps] at h ⊢
    obtain ⟨v, r, h1, h2, h3⟩ := h
    simp only [D.lfrees, Bool.and_eq_true] at q
    exact ⟨v, r, h1, Rep.lfree t d h2 q.1, Reps.lfree t ds h3 q.2⟩
end
mutual
theorem Own.lfree (t : Tups F F') : ∀ (o : O) {v : V} {B : List Addr}, Own K F H o v B → o.lfree = true → Own K F' H o v B
  | .val d, _, _, h, q => by
    simp only [Own] at h ⊢
    exact ⟨h.1, Rep.lfree t d h.2 (by simpa [O.lfree] using q)⟩
  | .lst ds, _, _, h, q => by
    simp only [Own] at h ⊢
    obtain ⟨a, vs, h1, h2, h3, h4⟩ := h
    exact ⟨a, vs, h1, h2, h3, Reps.lfree t ds h4 (by simpa [O.lfree] using q)⟩
  | .dK ks ds, _, _, h, q => by
    simp only [Own] at h ⊢
    obtain ⟨a, vs, h1, h2, h3, h5, h4⟩ := h
    exact ⟨a, vs, h1, h2, h3, h5, Reps.lfree t ds h4 (by simpa [O.lfree] using q)⟩
  | .dT ks ds, _, _, h, q => by
    simp only [Own] at h ⊢
    obtain ⟨a, vs, h1, h2, h3, h5, h4⟩ := h
    exact ⟨a, vs, h1, h2, h3, h5, Reps.lfree t ds h4 (by simpa [O.lfree] using q)⟩
  | .lo os, _, _, h, q => by
    simp only [Own] at h ⊢
    obtain ⟨a, vs, B', h1, h2, h3, h4⟩ := h
    exact ⟨a, vs, B', h1, h2, h3, Owns.lfree t os h4 (by simpa [O.lfree] using q)⟩
  | .ins C ns os, _, _, h, q => by
    simp only [Own] at h ⊢
    obtain ⟨a, dx, vs, B', h1, h2, h3, h5, h4⟩ := h
    exact ⟨a, dx, vs, B', h1, h2, h3, h5, Owns.lfree t os h4 (by simpa [O.lfree] using q)⟩
theorem Owns.lfree (t : Tups F F') : ∀ (os : List O) {vs : List V} {B : List Addr}, Owns K F H os vs B → O.lfrees os = true → Owns K F' H os vs B
  | [], _, _, h, _ => h
  | o :: os, _, _, h, q => by
    simp only [Owns] at h ⊢
    obtain ⟨v, r, B1, B2, h1, h2, h3, h4⟩ := h
    simp only [O.lfrees, Bool.and_eq_true] at q
    exact ⟨v, r, B1, B2, h1, h2, Own.lfree t o h3 q.1, Owns.lfree t os h4 q.2⟩
end
end
/-- an owned node is no tuple -/
def NoTup (o : Option HO) : Prop := ∀ xs, o ≠ some (.tup xs) ∧ ∀ ob, o ≠ some (.frz ob (.tup xs))
section
variable {K : PySem.W.Frag} {F H : Hp}
mutual
theorem Own.noTup : ∀ (o : O) {v : V} {B : List Addr}, Own K F H o v B → ∀ b ∈ B, NoTup (H b)
  | .val d, _, _, h, b, hb => by
    simp only [Own] at h
    rw [h.1] at hb; cases hb
  | .lst ds, _, _, h, b, hb => by
    simp only [Own] at h
    obtain ⟨a, vs, _, rfl, e, _⟩ := h
    simp only [List.mem_singleton] at hb; subst hb
    rw [e]; intro xs; exact ⟨(fun z => by cases z), fun ob z => by cases z⟩
  | .dK ks ds, _, _, h, b, hb => by
    simp only [Own] at h
    obtain ⟨a, vs, _, rfl, e, _⟩ := h
    simp only [List.mem_singleton] at hb; subst hb
    rw [e]; intro xs; exact ⟨(fun z => by cases z), fun ob z => by cases z⟩
  | .dT ks ds, _, _, h, b, hb => by
    simp only [Own] at h
    obtain ⟨a, vs, _, rfl, e, _⟩ := h
    simp only [List.mem_singleton] at hb; subst hb
    rw [e]; intro xs; exact ⟨(fun z => by cases z), fun ob z => by cases z⟩
  | .lo os, _, _, h, b, hb => by
    simp only [Own] at h
    obtain ⟨a, vs, B', _, rfl, e, q⟩ := h
    rcases List.mem_cons.mp hb with rfl | hb
    · rw [e]; intro xs; exact ⟨(fun z => by cases z), fun ob z => by cases z⟩
    · exact Owns.noTup os q b hb
  | .ins C ns os, _, _, h, b, hb => by
    simp only [Own] at h
    obtain ⟨a, dx, vs, B', _, rfl, e, _, q⟩ := h
    rcases List.mem_cons.mp hb with rfl | hb
    · rw [e]; intro xs; exact ⟨(fun z => by cases z), fun ob z => by cases z⟩
    · exact Owns.noTup os q b hb
theorem Owns.noTup : ∀ (os : List O) {vs : List V} {B : List Addr}, Owns K F H os vs B → ∀ b ∈ B, NoTup (H b)
  | [], _, _, h, b, hb => by
    simp only [Owns] at h
    rw [h.2] at hb; cases hb
  | o :: os, _, _, h, b, hb => by
    simp only [Owns] at h
    obtain ⟨v, r, B1, B2, _, rfl, h1, h2⟩ := h
    rcases List.mem_append.mp hb with hb | hb
    · exact Own.noTup o h1 b hb
    · exact Owns.noTup os h2 b hb
end
end
theorem SlotOk.noTup {K : PySem.W.Frag} {F H : Hp} {s : Slot} {x p : Option V} {B : List Addr} (h : SlotOk K F H s x p B) : ∀ b ∈ B, NoTup (H b) := by
  cases s with
  | un => intro b hb; rw [show B = [] from h] at hb; cases hb
  | own o => obtain ⟨v, h1, h2⟩ := h; exact Own.noTup o h2
  | pin o => obtain ⟨v, h1, h0, h2⟩ := h; exact Own.noTup o h2

/-! ### calls of defs -/
/-- what a def does: with its arguments, the value and the arguments behind it -/
inductive RF where
  | bad | ok (o : O) (os : List O) | exc (c : Exc) (os : List O)
abbrev pvOf (vs : List V) : Nat → Option V := fun i => vs[i]?
def spD (K : PySem.W.Frag) (mg : Str → Option Value) (n : Nat) (g : List O → RF) : Sp := fun vs H Q E => vs.length = n ∧ ∃ os F A, WS K (pvOf vs) (os.map Slot.pin) (vs.map some) F H A ∧
  match g os with
  | .bad => False
  | .ok o os' => ∀ v F' H' A' B, Step F H (UA A) F' H' (fun a => UA A' a ∨ a ∈ B) → RS K (pvOf vs) (os'.map Slot.pin) (vs.map some) (.own o) v F' H' A' B → Q v H'
  | .exc c os' => ∀ F' H' A', Step F H (UA A) F' H' (UA A') → WS K (pvOf vs) (os'.map Slot.pin) (vs.map some) F' H' A' → exW mg (fun c d _ H => E c d H) c [] H'
inductive Mode where
  | v | io
  deriving DecidableEq
def O.toR : O → R
  | .val d => .val d
  | o => .own o
def argO (env : DEnv) : Mode → R → Option O
  | _, .val d => some (.val d)
  | .v, .own o => o.frz.map .val
  | .v, .bor i => ((env[i]?.bind Slot.o).bind O.frz).map .val
  | .io, .own _ => none
  | .io, .bor i => env[i]?.bind Slot.o
def argOs (env : DEnv) : List Mode → List R → Option (List O)
  | [], [] => some []
  | m :: ms, r :: rs => match argO env m r, argOs env ms rs with
    | some o, some os => some (o :: os)
    | _, _ => none
  | _, _ => none
/-- the slots that are lent for reading; for writing -/
def tmps : List Mode → List R → List Nat
  | .v :: ms, .bor i :: rs => i :: tmps ms rs
  | _ :: ms, _ :: rs => tmps ms rs
  | _, _ => []
def ios : List Mode → List R → List Nat
  | .io :: ms, .bor i :: rs => i :: ios ms rs
  | _ :: ms, _ :: rs => ios ms rs
  | _, _ => []
def Slot.put : Slot → O → Slot
  | .un, _ => .un
  | .own _, o => .own o
  | .pin _, o => .pin o
def putO (env : DEnv) (i : Nat) (o : O) : DEnv := match env[i]? with
  | some s => env.set i (s.put o)
  | none => env
def back : List Mode → List R → List O → DEnv → DEnv
  | .io :: ms, .bor i :: rs, o :: os, env => back ms rs os (putO env i o)
  | _ :: ms, _ :: rs, _ :: os, env => back ms rs os env
  | _, _, _, env => env
def chk (ms : List Mode) (rs : List R) : Bool := decide (ios ms rs).Nodup && (ios ms rs).all fun i => !(tmps ms rs).contains i
/-- what is handed back holds no lists -/
def iofree : List Mode → List R → List O → Bool
  | .io :: ms, .bor _ :: rs, o :: os => o.lfree && iofree ms rs os
  | _ :: ms, _ :: rs, _ :: os => iofree ms rs os
  | _, _, _ => true
def finCall (g : List O → RF) (ms : List Mode) (rs : List R) (env : DEnv) : Res R :=
  match argOs env ms rs with
  | none => .bad
  | some os => if chk ms rs = true then (match g os with
    | .bad => .bad
    | .ok o os' => if (tmps ms rs).isEmpty = true ∨ (o.lfree = true ∧ iofree ms rs os' = true) then .ok o.toR (back ms rs os' env) else .bad
    | .exc c os' => if (tmps ms rs).isEmpty = true ∨ iofree ms rs os' = true then .exc c (back ms rs os' env) else .bad) else .bad
def dCall (g : List O → RF) (ms : List Mode) (fs : M (List R)) : M R := fun env => (fs env).bind fun rs e1 => finCall g ms rs e1
end DL
end
section
set_option maxRecDepth 100000
set_option maxHeartbeats 4000000
namespace DL
open PySem PySem.Spec PyProof.Rows L2
variable [tb : Tb]
def ioAt : List Mode → List R → Nat → Option Nat
  | .io :: _, .bor i :: _, 0 => some i
  | _ :: _, _ :: _, 0 => none
  | _ :: ms, _ :: rs, j + 1 => ioAt ms rs j
  | _, _, _ => none
theorem iofree_at : ∀ {ms : List Mode} {rs : List R} {os : List O} {j i : Nat} {o : O}, ioAt ms rs j = some i → os[j]? = some o → iofree ms rs os = true → o.lfree = true
  | [], _, _, _, _, _, h, _, _ => by simp [ioAt] at h
  | _ :: _, [], _, _, _, _, h, _, _ => by simp [ioAt] at h
  | _ :: _, _ :: _, [], _, _, _, _, h, _ => by simp at h
  | m :: ms, r :: rs, p :: os, 0, i, o, h1, h2, h3 => by
    cases m <;> cases r <;> simp [ioAt] at h1
    simp only [List.getElem?_cons_zero, Option.some.injEq] at h2
    subst h2
    simp only [iofree, Bool.and_eq_true] at h3
    exact h3.1
  | m :: ms, r :: rs, p :: os, j + 1, i, o, h1, h2, h3 => by
    have h2' : os[j]? = some o := by simpa using h2
    refine iofree_at (ms := ms) (rs := rs) (os := os) (j := j) (i := i) ?_ h2' ?_
    · cases m <;> cases r <;> simpa [ioAt] using h1
    · cases m <;> cases r <;> simp only [iofree, Bool.and_eq_true] at h3 <;> first | exact h3 | exact h3.2
theorem ioAt_mem : ∀ {ms : List Mode} {rs : List R} {j i : Nat}, ioAt ms rs j = some i → i ∈ ios ms rs
  | [], _, _, _, h => by simp [ioAt] at h
  | _ :: _, [], _, _, h => by simp [ioAt] at h
  | m :: ms, r :: rs, 0, i, h => by
    cases m <;> cases r <;> simp [ioAt] at h
    subst h
    simp [ios]
  | m :: ms, r :: rs, j + 1, i, h => by
    have h' : ioAt ms rs j = some i := by cases m <;> cases r <;> simpa [ioAt] using h
    have ih := ioAt_mem h'
    cases m <;> cases r <;> simp [ios, ih]
theorem ioAt_inj : ∀ {ms : List Mode} {rs : List R} {j j' i : Nat}, (ios ms rs).Nodup → ioAt ms rs j = some i → ioAt ms rs j' = some i → j = j'
  | [], _, _, _, _, _, h, _ => by simp [ioAt] at h
  | _ :: _, [], _, _, _, _, h, _ => by simp [ioAt] at h
  | m :: ms, r :: rs, 0, 0, i, _, _, _ => rfl
  | m :: ms, r :: rs, 0, j' + 1, i, nd, h, h' => by
    cases m <;> cases r <;> simp [ioAt] at h
    have h2 : ioAt ms rs j' = some i := by simpa [ioAt] using h'
    subst h
    simp only [ios, List.nodup_cons] at nd
    exact absurd (ioAt_mem h2) nd.1
  | m :: ms, r :: rs, j + 1, 0, i, nd, h', h => by
    cases m <;> cases r <;> simp [ioAt] at h
    have h2 : ioAt ms rs j = some i := by simpa [ioAt] using h'
    subst h
    simp only [ios, List.nodup_cons] at nd
    exact absurd (ioAt_mem h2) nd.1
  | m :: ms, r :: rs, j + 1, j' + 1, i, nd, h, h' => by
    have e1 : ioAt ms rs j = some i := by cases m <;> cases r <;> simpa [ioAt] using h
    have e2 : ioAt ms rs j' = some i := by cases m <;> cases r <;> simpa [ioAt] using h'
    have nd' : (ios ms rs).Nodup := by
      cases m <;> cases r <;> simp [ios] at nd ⊢ <;> first | exact nd | exact nd.2
    rw [ioAt_inj nd' e1 e2]
theorem ioAt_of_mem : ∀ {ms : List Mode} {rs : List R} {i : Nat}, i ∈ ios ms rs → ∃ j, ioAt ms rs j = some i
  | [], _, _, h => by simp [ios] at h
  | _ :: _, [], _, h => by rename_i m ms i; cases m <;> simp [ios] at h
  | m :: ms, r :: rs, i, h => by
    have rec' : i ∈ ios ms rs → ∃ j, ioAt (m :: ms) (r :: rs) j = some i := fun h => by
      obtain ⟨j, hj⟩ := ioAt_of_mem h
      exact ⟨j + 1, by cases m <;> cases r <;> simpa [ioAt] using hj⟩
    cases m <;> cases r <;> simp only [ios, List.mem_cons] at h <;> first | exact rec' h | skip
    rcases h with rfl | h
    · exact ⟨0, rfl⟩
    · exact rec' h
theorem putO_len {env : DEnv} {i : Nat} {o : O} : (putO env i o).length = env.length := by
  unfold putO
  split <;> simp
theorem putO_get {env : DEnv} {i j : Nat} {o : O} : (putO env i o)[j]? = if j = i then (env[j]?).map (·.put o) else env[j]? := by
  unfold putO
  split
  · rename_i s hs
    by_cases e : j = i
    · subst e
      have hl : j < env.length := (List.getElem?_eq_some_iff.mp hs).1
      rw [if_pos rfl, List.getElem?_set_self hl, hs]; rfl
    · rw [if_neg e, List.getElem?_set_ne (Ne.symm e)]
  · rename_i hs
    by_cases e : j = i
    · subst e; rw [if_pos rfl, hs]; rfl
    · rw [if_neg e]
theorem back_len : ∀ {ms : List Mode} {rs : List R} {os : List O} {env : DEnv}, (back ms rs os env).length = env.length
  | [], _, _, _ => by simp [back]
  | _ :: _, [], _, _ => by simp [back]
  | _ :: _, _ :: _, [], _ => by simp [back]
  | m :: ms, r :: rs, o :: os, env => by
    cases m <;> cases r <;> simp only [back, back_len, putO_len]
theorem back_out : ∀ {ms : List Mode} {rs : List R} {os : List O} {env : DEnv} {i : Nat}, i ∉ ios ms rs → (back ms rs os env)[i]? = env[i]?
  | [], _, _, _, _, _ => by simp [back]
  | _ :: _, [], _, _, _, _ => by simp [back]
  | _ :: _, _ :: _, [], _, _, _ => by simp [back]
  | m :: ms, r :: rs, o :: os, env, i, h => by
    cases m <;> cases r <;> simp only [back, ios, List.mem_cons, not_or] at h ⊢ <;> first | exact back_out h | skip
    rw [back_out h.2, putO_get, if_neg h.1]
theorem back_in : ∀ {ms : List Mode} {rs : List R} {os : List O} {env : DEnv} {i j : Nat} {o : O}, (ios ms rs).Nodup → ioAt ms rs j = some i → os[j]? = some o → (back ms rs os env)[i]? = (env[i]?).map (·.put o)
  | [], _, _, _, _, _, _, _, h, _ => by simp [ioAt] at h
  | _ :: _, [], _, _, _, _, _, _, h, _ => by simp [ioAt] at h
  | _ :: _, _ :: _, [], _, _, _, _, _, _, h => by simp at h
  | m :: ms, r :: rs, p :: os, env, i, 0, o, nd, h, ho => by
    cases m <;> cases r <;> simp [ioAt] at h
    subst h
    simp at ho; subst ho
    simp only [ios, List.nodup_cons] at nd
    simp only [back]
    rw [back_out nd.1, putO_get, if_pos rfl]
  | m :: ms, r :: rs, p :: os, env, i, j + 1, o, nd, h, ho => by
    have h' : ioAt ms rs j = some i := by cases m <;> cases r <;> simpa [ioAt] using h
    have ho' : os[j]? = some o := by simpa using ho
    cases m <;> cases r <;> simp only [back, ios, List.nodup_cons] at nd ⊢ <;> first | exact back_in nd h' ho' | skip
    rename_i k
    rw [back_in nd.2 h' ho', putO_get, if_neg]
    rintro rfl
    exact nd.1 (ioAt_mem h')

theorem Own.mkVal {K : PySem.W.Frag} {F H : Hp} {d : D} {v : V} (h : Rep K F d v) : Own K F H (.val d) v [] := by
  unfold Own
  exact ⟨rfl, h⟩
section
variable {K : PySem.W.Frag} {pv : Nat → Option V} {env : DEnv} {σ : L2.St} {F H G : Hp} {A : Nat → List Addr}
/-- the arguments' owned parts -/
def aAt (A : Nat → List Addr) (ms : List Mode) (rs : List R) (j : Nat) : List Addr := match ioAt ms rs j with
  | some i => A i
  | none => []
theorem aAt_succ {m : Mode} {ms : List Mode} {r : R} {rs : List R} {j : Nat} : aAt A (m :: ms) (r :: rs) (j + 1) = aAt A ms rs j := by
  unfold aAt
  cases m <;> cases r <;> rfl
theorem argO_rel (ws : WS K pv env σ F H A) (s : Same F G) {m : Mode} {r : R} {v : V} {B : List Addr} {o : O} (rr : RRep K env σ F H r v B) (e : argO env m r = some o)
    (ht : ∀ i, m = .v → r = .bor i → ∀ a ∈ A i, G a = H a) (hB : ∀ a ∈ B, G a = H a) : Own K G H o v (aAt A [m] [r] 0) := by
  cases r with
  | val d =>
    have e' : o = .val d := by cases m <;> (simp [argO] at e; exact e.symm)
    subst e'
    have hz : aAt A [m] [.val d] 0 = [] := by cases m <;> rfl
    rw [hz]
    exact Own.mkVal (Rep.same s d rr.2)
  | own o' =>
    cases m with
    | io => simp [argO] at e
    | v =>
      simp only [argO, Option.map_eq_some_iff] at e
      obtain ⟨d, h1, rfl⟩ := e
      show Own K G H (.val d) v []
      exact Own.mkVal (Own.frz s o' rr hB h1)
  | bor i =>
    cases m with
    | io =>
      simp only [argO] at e
      show Own K G H o v (A i)
      exact Own.stay s o (ws.at e rr.2) fun _ _ _ z => z
    | v =>
      simp only [argO, Option.map_eq_some_iff] at e
      obtain ⟨d, h1, rfl⟩ := e
      obtain ⟨o', h2, h3⟩ := Option.bind_eq_some_iff.mp h1
      show Own K G H (.val d) v []
      exact Own.mkVal (Own.frz s o' (ws.at h2 rr.2) (ht i rfl rfl) h3)
theorem args_rel (ws : WS K pv env σ F H A) (s : Same F G) : ∀ {ms : List Mode} {rs : List R} {vs : List V} {B : List Addr} {os : List O}, RReps K env σ F H rs vs B → argOs env ms rs = some os →
    (∀ i ∈ tmps ms rs, ∀ a ∈ A i, G a = H a) → (∀ a ∈ B, G a = H a) → os.length = vs.length ∧ ∀ (j : Nat) (o : O) (v : V), os[j]? = some o → vs[j]? = some v → Own K G H o v (aAt A ms rs j)
  | [], [], _, _, os, rr, e, _, _ => by
    simp only [argOs] at e; cases e
    obtain ⟨rfl, _⟩ := rr
    exact ⟨rfl, fun j o v h => by simp at h⟩
  | [], _ :: _, _, _, _, _, e, _, _ => by simp [argOs] at e
  | m :: ms, [], _, _, _, _, e, _, _ => by simp [argOs] at e
  | m :: ms, r :: rs, _, _, os, rr, e, ht, hB => by
    simp only [argOs] at e
    split at e
    · rename_i o os' h1 h2
      cases e
      obtain ⟨v, t, B1, B2, rfl, rfl, r1, r2⟩ := rr
      have ht2 : ∀ i ∈ tmps ms rs, ∀ a ∈ A i, G a = H a := fun i hi => ht i (by cases m <;> cases r <;> simp [tmps, hi])
      obtain ⟨l, q⟩ := args_rel ws s r2 h2 ht2 fun a ha => hB a (List.mem_append_right _ ha)
      refine ⟨by simp [l], fun j o' v' e1 e2 => ?_⟩
      cases j with
      | zero =>
        simp at e1 e2
        subst e1 e2
        have := argO_rel ws s r1 h1 (fun i e e' => ht i (by rw [e, e']; simp [tmps])) fun a ha => hB a (List.mem_append_left _ ha)
        have hz : aAt A (m :: ms) (r :: rs) 0 = aAt A [m] [r] 0 := by cases m <;> cases r <;> rfl
        rw [hz]; exact this
      | succ j =>
        rw [aAt_succ]
        exact q j o' v' (by simpa using e1) (by simpa using e2)
    · cases e
theorem rr_at : ∀ {ms : List Mode} {rs : List R} {vs : List V} {B : List Addr} {j i : Nat}, RReps K env σ F H rs vs B → ioAt ms rs j = some i → ∃ v, vs[j]? = some v ∧ σ[i]? = some (some v)
  | [], _, _, _, _, _, _, h => by simp [ioAt] at h
  | _ :: _, [], _, _, _, _, _, h => by simp [ioAt] at h
  | m :: ms, r :: rs, _, _, 0, i, rr, h => by
    cases m <;> cases r <;> simp [ioAt] at h
    subst h
    obtain ⟨v, t, B1, B2, rfl, rfl, r1, r2⟩ := rr
    exact ⟨v, rfl, r1.2⟩
  | m :: ms, r :: rs, _, _, j + 1, i, rr, h => by
    have h' : ioAt ms rs j = some i := by cases m <;> cases r <;> simpa [ioAt] using h
    obtain ⟨v, t, B1, B2, rfl, rfl, r1, r2⟩ := rr
    obtain ⟨w, q1, q2⟩ := rr_at r2 h'
    exact ⟨w, by simpa using q1, q2⟩
end
end DL
end
section
set_option maxRecDepth 100000
set_option maxHeartbeats 4000000
namespace DL
open PySem PySem.Spec PyProof.Rows L2
variable [tb : Tb]
theorem RReps.len {K : PySem.W.Frag} {env : DEnv} {σ : L2.St} {F H : Hp} : ∀ {rs : List R} {vs : List V} {B : List Addr}, RReps K env σ F H rs vs B → vs.length = rs.length
  | [], _, _, h => by rw [h.1]; rfl
  | r :: rs, _, _, h => by
    obtain ⟨v, t, B1, B2, rfl, rfl, _, q⟩ := h
    simp [RReps.len q]
theorem argOs_len {env : DEnv} : ∀ {ms : List Mode} {rs : List R} {os : List O}, argOs env ms rs = some os → ms.length = rs.length
  | [], [], _, _ => rfl
  | [], _ :: _, _, h => by simp [argOs] at h
  | _ :: _, [], _, h => by simp [argOs] at h
  | m :: ms, r :: rs, _, h => by
    simp only [argOs] at h
    split at h
    · rename_i h1 h2
      simp [argOs_len h2]
    · cases h
theorem pin_get {os : List O} {i : Nat} : (os.map Slot.pin)[i]?.getD .un = match os[i]? with
    | some o => .pin o
    | none => .un := by
  rw [List.getElem?_map]
  cases os[i]? <;> rfl
theorem some_get {vs : List V} {i : Nat} : (vs.map some)[i]?.getD none = vs[i]? := by
  rw [List.getElem?_map]
  cases vs[i]? <;> rfl
section
variable {K : PySem.W.Frag} {mg : Str → Option Value} {pv : Nat → Option V} {env : DEnv} {σ : L2.St} {F H : Hp} {A : Nat → List Addr} {B : List Addr} {rs : List R} {vs : List V} {ms : List Mode} {os : List O}
theorem rrs_nd {K : PySem.W.Frag} {env : DEnv} {σ : L2.St} {F H : Hp} : ∀ {rs : List R} {vs : List V} {B : List Addr}, RReps K env σ F H rs vs B → ∀ b ∈ B, Nd (H b)
  | [], _, _, h, b, hb => by rw [h.2] at hb; cases hb
  | r :: rs, _, _, h, b, hb => by
    obtain ⟨v, t, B1, B2, rfl, rfl, h1, h2⟩ := h
    rcases List.mem_append.mp hb with hb | hb
    · exact h1.nd b hb
    · exact rrs_nd h2 b hb
/-- lent parts -/
def Lent (A : Nat → List Addr) (ms : List Mode) (rs : List R) : Addr → Prop := fun a => ∃ i ∈ tmps ms rs, a ∈ A i
theorem chk_nd (h : chk ms rs = true) : (ios ms rs).Nodup := by
  unfold chk at h
  simp only [Bool.and_eq_true, decide_eq_true_eq] at h
  exact h.1
theorem chk_dj (h : chk ms rs = true) {i : Nat} (hi : i ∈ ios ms rs) : i ∉ tmps ms rs := by
  unfold chk at h
  simp only [Bool.and_eq_true, decide_eq_true_eq, List.all_eq_true] at h
  have := h.2 i hi
  simpa using this
theorem ext_tb (rss : RSs K pv env σ rs vs F H A B) : ∀ a, ext F H (fun a => Lent A ms rs a ∨ a ∈ B) a ≠ none → F a ≠ none ∨ (∀ ps, H a ≠ some (.tbl ps)) := fun a h => by
  by_cases z : Lent A ms rs a ∨ a ∈ B
  · refine .inr ?_
    rcases z with ⟨i, _, z⟩ | z
    · exact (rss.ws.ndU ⟨i, z⟩).noT
    · exact (rrs_nd rss.rr a z).noT
  · rw [ext_out z] at h
    exact .inl h
/-- the callee's state -/
theorem call_in (rss : RSs K pv env σ rs vs F H A B) (e : argOs env ms rs = some os) (ck : chk ms rs = true) :
    WS K (pvOf vs) (os.map Slot.pin) (vs.map some) (ext F H fun a => Lent A ms rs a ∨ a ∈ B) H (aAt A ms rs) := by
  have ws := rss.ws
  have sG : Same F (ext F H fun a => Lent A ms rs a ∨ a ∈ B) := ext_same ws.sub
  obtain ⟨l, q⟩ := args_rel ws sG rss.rr e (fun i hi a ha => ext_in (.inl ⟨i, hi, ha⟩)) (fun a ha => ext_in (.inr ha))
  have no : ∀ j, os[j]? = none → aAt A ms rs j = [] := fun j hj => by
    unfold aAt
    cases h : ioAt ms rs j with
    | none => rfl
    | some i =>
      obtain ⟨v, h1, _⟩ := rr_at rss.rr h
      have h2 := (List.getElem?_eq_some_iff.mp h1).1
      have h3 := List.getElem?_eq_none_iff.mp hj
      omega
  refine ⟨by simp [l], fun j => ?_, fun j => ?_, fun j j' a ha ha' => ?_, fun j a ha => ?_, ext_sub ws.sub, ws.tbs.frz (ext_tb rss)⟩
  · rw [pin_get, some_get]
    cases ho : os[j]? with
    | none => exact no j ho
    | some o =>
      have hj : j < vs.length := by rw [← l]; exact (List.getElem?_eq_some_iff.mp ho).1
      have hv : vs[j]? = some vs[j] := List.getElem?_eq_getElem hj
      exact ⟨vs[j], hv, hv, q j o _ ho hv⟩
  · unfold aAt
    split
    · exact ws.nd _
    · exact List.nodup_nil
  · unfold aAt at ha ha'
    split at ha
    · rename_i i hi
      split at ha'
      · rename_i i' hi'
        have e := ws.dj i i' a ha ha'
        subst e
        exact ioAt_inj (chk_nd ck) hi hi'
      · cases ha'
    · cases ha
  · unfold aAt at ha
    split at ha
    · rename_i i hi
      rw [ext_out]
      · exact ws.dis i a ha
      · rintro (⟨i', h1, h2⟩ | h)
        · have e := ws.dj i i' a ha h2
          subst e
          exact chk_dj ck (ioAt_mem hi) h1
        · exact rss.dj a h ⟨i, ha⟩
    · cases ha
/-- without what was lent -/
noncomputable def cut (F : Hp) (T : Addr → Prop) : Hp := fun a => open Classical in if T a then none else F a
theorem cut_in {T : Addr → Prop} {a : Addr} (h : T a) : cut F T a = none := by unfold cut; rw [if_pos h]
theorem cut_out {T : Addr → Prop} {a : Addr} (h : ¬ T a) : cut F T a = F a := by unfold cut; rw [if_neg h]
theorem cut_some {T : Addr → Prop} {a : Addr} {o : HO} (h : cut F T a = some o) : F a = some o ∧ ¬ T a := by
  by_cases t : T a
  · rw [cut_in t] at h; cases h
  · rw [cut_out t] at h; exact ⟨h, t⟩
noncomputable def bAt (A A' : Nat → List Addr) (ms : List Mode) (rs : List R) : Nat → List Addr := fun i => open Classical in if h : ∃ j, ioAt ms rs j = some i then A' h.choose else A i
/-- behind the call, in the caller's words: the arguments' part -/
theorem call_out (rss : RSs K pv env σ rs vs F H A B) (e : argOs env ms rs = some os) (ck : chk ms rs = true) {os' : List O} {F' H' : Hp} {A' : Nat → List Addr} {B' : List Addr}
    (st : Step (ext F H fun a => Lent A ms rs a ∨ a ∈ B) H (UA (aAt A ms rs)) F' H' (fun a => UA A' a ∨ a ∈ B'))
    (ws' : WS K (pvOf vs) (os'.map Slot.pin) (vs.map some) F' H' A') (lf : (tmps ms rs).isEmpty = true ∨ iofree ms rs os' = true) :
    ∃ A2, WS K pv (back ms rs os' env) σ (cut F' (Lent A ms rs)) H' A2 ∧ Step F H (fun a => UA A a ∨ a ∈ B) (cut F' (Lent A ms rs)) H' (fun a => UA A2 a ∨ a ∈ B') ∧
      Tups F' (cut F' (Lent A ms rs)) ∧ (∀ a, UA A2 a → UA A' a ∨ (UA A a ∧ ¬ UA (aAt A ms rs) a)) ∧ ((tmps ms rs).isEmpty = true → cut F' (Lent A ms rs) = F') := by
  have ws := rss.ws
  have wc := call_in rss e ck
  have nd := chk_nd ck
  -- what is lent
  have lentH : ∀ a, Lent A ms rs a → ∃ u, H a = some u ∧ F' a = some u ∧ H' a = some u := fun a ⟨i, h1, h2⟩ => by
    cases hu : H a with
    | none => exact absurd hu (ws.there ⟨i, h2⟩)
    | some u =>
      have hf : F' a = some u := st.fz _ _ (by rw [ext_in (.inl ⟨i, h1, h2⟩)]; exact hu)
      exact ⟨u, rfl, hf, ws'.sub _ _ hf⟩
  have tups : Tups F' (cut F' (Lent A ms rs)) := fun a xs h => by
    have nt : ¬ Lent A ms rs a := fun hl => by
      obtain ⟨u, h1, h2, _⟩ := lentH a hl
      obtain ⟨i, _, h3⟩ := hl
      have nz := (ws.slot i).noTup a h3
      rw [h1] at nz
      rcases h with h | ⟨ob, h⟩
      · rw [h2] at h; cases h; exact (nz xs).1 rfl
      · rw [h2] at h; cases h; exact (nz xs).2 ob rfl
    rcases h with h | ⟨ob, h⟩
    · exact .inl (by rw [cut_out nt]; exact h)
    · exact .inr ⟨ob, by rw [cut_out nt]; exact h⟩
  have cutE : (tmps ms rs).isEmpty = true → cut F' (Lent A ms rs) = F' := fun hz => by
    funext a
    refine cut_out fun ⟨i, h1, _⟩ => ?_
    rw [List.isEmpty_iff.mp hz] at h1; cases h1
  have sF : Same F (cut F' (Lent A ms rs)) := fun a o h => by
    rw [cut_out fun ⟨i, h1, h2⟩ => by rw [ws.dis i a h2] at h; cases h]
    exact st.fz _ _ (ext_same ws.sub a o h)
  have sub2 : Same (cut F' (Lent A ms rs)) H' := fun a o h => ws'.sub _ _ (cut_some h).1
  -- the arguments behind the call
  have at' : ∀ {j i : Nat}, ioAt ms rs j = some i → ∃ o v, os'[j]? = some o ∧ σ[i]? = some (some v) ∧ vs[j]? = some v ∧ Own K F' H' o v (A' j) := fun {j i} h => by
    obtain ⟨v, h1, h2⟩ := rr_at rss.rr h
    have hj : j < vs.length := (List.getElem?_eq_some_iff.mp h1).1
    have hl : os'.length = vs.length := by simpa using ws'.len
    have ho : os'[j]? = some (os'[j]'(by omega)) := List.getElem?_eq_getElem (by omega)
    have hs := ws'.slot j
    rw [pin_get, some_get, ho, h1] at hs
    obtain ⟨w, e1, _, e2⟩ := hs
    cases e1
    exact ⟨_, v, ho, h2, h1, e2⟩
  -- which argument stands in slot i
  have key : ∀ i, (∃ j, ioAt ms rs j = some i) ∨ i ∉ ios ms rs := fun i => by
    by_cases h : i ∈ ios ms rs
    · exact .inl (ioAt_of_mem h)
    · exact .inr h
  obtain ⟨A2, hA2⟩ : ∃ A2, A2 = bAt A A' ms rs := ⟨_, rfl⟩
  have A2in : ∀ {i j : Nat}, ioAt ms rs j = some i → A2 i = A' j := fun {i j} h => by
    have hx : ∃ j, ioAt ms rs j = some i := ⟨j, h⟩
    rw [hA2]
    unfold bAt
    rw [dif_pos hx, ioAt_inj nd hx.choose_spec h]
  have A2out : ∀ {i : Nat}, i ∉ ios ms rs → A2 i = A i := fun {i} h => by
    rw [hA2]
    unfold bAt
    rw [dif_neg fun ⟨j, hj⟩ => h (ioAt_mem hj)]
  have uin : ∀ {i : Nat}, i ∉ ios ms rs → ∀ a ∈ A i, ¬ UA (aAt A ms rs) a := fun {i} hi a ha ⟨j, hj⟩ => by
    unfold aAt at hj
    split at hj
    · rename_i i' hi'
      have e := ws.dj i i' a ha hj
      subst e
      exact hi (ioAt_mem hi')
    · cases hj
  have keepO : ∀ {i : Nat}, i ∉ ios ms rs → ∀ a ∈ A i, ∀ u, H a = some u → H' a = some u := fun {i} hi a ha u h => st.keep a u h (Nd.noTb (by rw [← h]; exact (ws.slot i).nd a ha)) (uin hi a ha)
  have A'from : ∀ {j : Nat} {a : Addr}, a ∈ A' j → (∃ i j', ioAt ms rs j' = some i ∧ a ∈ A i) ∨ H a = none := fun {j a} ha => by
    rcases st.own a (.inl ⟨j, ha⟩) with ⟨j', h⟩ | h
    · unfold aAt at h
      split at h
      · rename_i i hi
        exact .inl ⟨i, j', hi, h⟩
      · cases h
    · exact .inr h
  have tq : TbsOk F H → TbsOk (cut F' (Lent A ms rs)) H' := fun t => by
    have t2 := st.tabs (t.frz (ext_tb rss))
    exact ⟨t2.1, fun p hp => by
      by_cases z : Lent A ms rs p.1
      · exact cut_in z
      · rw [cut_out z]; exact t2.2 p hp⟩
  refine ⟨A2, ⟨by rw [back_len]; exact ws.len, fun i => ?_, fun i => ?_, fun i i' a ha ha' => ?_, fun i a ha => ?_, sub2, tq ws.tbs⟩, ⟨sF, fun a o h nt n => ?_, tq, fun a h => ?_, fun a h => ?_, fun a h => ?_⟩, tups, fun a ⟨i, h⟩ => ?_, cutE⟩
  · rcases key i with ⟨j, hj⟩ | hi
    · obtain ⟨o, v, h1, h2, h3, h4⟩ := at' hj
      rw [back_in nd hj h1, A2in hj]
      have own2 : Own K (cut F' (Lent A ms rs)) H' o v (A' j) := by
        rcases lf with lf | lf
        · rw [cutE lf]; exact h4
        · exact Own.lfree tups o h4 (iofree_at hj h1 lf)
      have hs := ws.slot i
      rw [h2] at hs ⊢
      cases es : env[i]? with
      | none =>
        exfalso
        have : i < env.length := by rw [ws.len]; exact (List.getElem?_eq_some_iff.mp h2).1
        rw [List.getElem?_eq_none_iff] at es
        omega
      | some s =>
        rw [es] at hs
        simp only [Option.map_some, Option.getD_some] at hs ⊢
        cases s with
        | un =>
          exfalso
          -- an argument's slot is set
          have hsome : ∃ o0, env[i]?.bind Slot.o = some o0 := by
            clear rss st ws' at' own2
            have : ∀ {ms : List Mode} {rs : List R} {os : List O} {j : Nat}, argOs env ms rs = some os → ioAt ms rs j = some i → ∃ o0, env[i]?.bind Slot.o = some o0 := by
              intro ms
              induction ms with
              | nil => intro rs os j _ h; simp [ioAt] at h
              | cons m ms ih =>
                intro rs os j h1 h2
                cases rs with
                | nil => simp [ioAt] at h2
                | cons r rs =>
                  simp only [argOs] at h1
                  split at h1
                  · rename_i o1 os1 q1 q2
                    cases j with
                    | zero =>
                      cases m <;> cases r <;> simp [ioAt] at h2
                      subst h2
                      exact ⟨o1, by simpa [argO] using q1⟩
                    | succ j =>
                      exact ih q2 (by cases m <;> cases r <;> simpa [ioAt] using h2)
                  · cases h1
            exact this e hj
          obtain ⟨o0, h0⟩ := hsome
          rw [es] at h0
          simp [Slot.o] at h0
        | own o0 =>
          obtain ⟨w, e1, _⟩ := hs
          cases e1
          exact ⟨v, rfl, own2⟩
        | pin o0 =>
          obtain ⟨w, e1, e2, _⟩ := hs
          cases e1
          exact ⟨v, rfl, e2, own2⟩
    · rw [back_out hi, A2out hi]
      exact (ws.slot i).stay sF (keepO hi)
  · rcases key i with ⟨j, hj⟩ | hi
    · rw [A2in hj]; exact ws'.nd j
    · rw [A2out hi]; exact ws.nd i
  · rcases key i with ⟨j, hj⟩ | hi
    · rw [A2in hj] at ha
      rcases key i' with ⟨j', hj'⟩ | hi'
      · rw [A2in hj'] at ha'
        have e := ws'.dj j j' a ha ha'
        subst e
        rw [hj] at hj'; cases hj'; rfl
      · rw [A2out hi'] at ha'
        exfalso
        rcases A'from ha with ⟨i2, j2, h1, h2⟩ | h
        · have e := ws.dj i' i2 a ha' h2
          subst e
          exact hi' (ioAt_mem h1)
        · exact ws.there ⟨i', ha'⟩ h
    · rw [A2out hi] at ha
      rcases key i' with ⟨j', hj'⟩ | hi'
      · rw [A2in hj'] at ha'
        exfalso
        rcases A'from ha' with ⟨i2, j2, h1, h2⟩ | h
        · have e := ws.dj i i2 a ha h2
          subst e
          exact hi (ioAt_mem h1)
        · exact ws.there ⟨i, ha⟩ h
      · rw [A2out hi'] at ha'
        exact ws.dj i i' a ha ha'
  · rcases key i with ⟨j, hj⟩ | hi
    · rw [A2in hj] at ha
      have z := ws'.dis j a ha
      by_cases t : Lent A ms rs a
      · exact cut_in t
      · rw [cut_out t]; exact z
    · rw [A2out hi] at ha
      by_cases t : Lent A ms rs a
      · exact cut_in t
      · rw [cut_out t]
        apply Classical.byContradiction
        intro z
        rcases st.new a z with h | h | h
        · rw [ext_out] at h
          · exact h (ws.dis i a ha)
          · rintro (h' | h')
            · exact t h'
            · exact rss.dj a h' ⟨i, ha⟩
        · exact ws.there ⟨i, ha⟩ h
        · exact uin hi a ha h
  · refine st.keep a o h nt fun ⟨j, hj⟩ => n ?_
    unfold aAt at hj
    split at hj
    · exact .inl ⟨_, hj⟩
    · cases hj
  · have h' : F' a ≠ none := fun z => by
      by_cases t : Lent A ms rs a
      · exact h (cut_in t)
      · rw [cut_out t] at h; exact h z
    rcases st.new a h' with z | z | ⟨j, hj⟩
    · by_cases t : Lent A ms rs a ∨ a ∈ B
      · rcases t with ⟨i, _, t⟩ | t
        · exact .inr (.inr (.inl ⟨i, t⟩))
        · exact .inr (.inr (.inr t))
      · rw [ext_out t] at z; exact .inl z
    · exact .inr (.inl z)
    · unfold aAt at hj
      split at hj
      · exact .inr (.inr (.inl ⟨_, hj⟩))
      · cases hj
  · exact st.dom a h
  · rcases h with ⟨i, h⟩ | h
    · rcases key i with ⟨j, hj⟩ | hi
      · rw [A2in hj] at h
        rcases A'from h with ⟨i2, j2, h1, h2⟩ | h
        · exact .inl (.inl ⟨i2, h2⟩)
        · exact .inr h
      · rw [A2out hi] at h
        exact .inl (.inl ⟨i, h⟩)
    · rcases st.own a (.inr h) with ⟨j, hj⟩ | z
      · unfold aAt at hj
        split at hj
        · exact .inl (.inl ⟨_, hj⟩)
        · cases hj
      · exact .inr z
  · rcases key i with ⟨j, hj⟩ | hi
    · rw [A2in hj] at h; exact .inl ⟨j, h⟩
    · rw [A2out hi] at h; exact .inr ⟨⟨i, h⟩, uin hi a h⟩
end
end DL
end
section
set_option maxRecDepth 100000
set_option maxHeartbeats 4000000
namespace DL
open PySem PySem.Spec PyProof.Rows L2
variable [tb : Tb]
theorem toR_own {o : O} {K : PySem.W.Frag} {env : DEnv} {σ : L2.St} {F H : Hp} {v : V} {B : List Addr} (h : Own K F H o v B) : RRep K env σ F H o.toR v B := by
  cases o with
  | val d => simp only [Own] at h; exact h
  | _ => exact h
section
variable {K : PySem.W.Frag} {mg : Str → Option Value} {pv : Nat → Option V} {env : DEnv} {σ : L2.St} {F H F0 H0 : Hp} {A A0 : Nat → List Addr} {B : List Addr} {rs : List R} {vs : List V} {ms : List Mode} {g : List O → RF} {Q : VK} {W : WX}
theorem finCall_rd (rss : RSs K pv env σ rs vs F H A B) (st : Step F0 H0 (UA A0) F H (fun a => UA A a ∨ a ∈ B))
    (q : match finCall g ms rs env with
      | .bad => False
      | .ok r env' => ∀ v F' H' A' B, Step F0 H0 (UA A0) F' H' (fun a => UA A' a ∨ a ∈ B) → RS K pv env' σ r v F' H' A' B → Q v H'
      | .exc c env' => ∀ F' H' A', Step F0 H0 (UA A0) F' H' (UA A') → WS K pv env' σ F' H' A' → exW mg W c σ H') :
    spD K mg ms.length g vs H Q (fun c d H' => W c d σ H') := by
  simp only [finCall] at q
  split at q
  · exact q.elim
  rename_i r env' hq
  · split at hq
    · cases hq
    · rename_i os hos
      split at hq
      · rename_i ck
        split at hq
        · cases hq
        · rename_i o os' hg
          split at hq
          · rename_i lf
            cases hq
            refine ⟨by rw [rss.rr.len, argOs_len hos], os, _, _, call_in rss hos ck, ?_⟩
            rw [hg]
            intro v F' H' A' B' s2 rs2
            have lf1 : (tmps ms rs).isEmpty = true ∨ iofree ms rs os' = true := lf.imp id fun h => h.2
            obtain ⟨A2, w2, s3, tu, ua, ce⟩ := call_out rss hos ck s2 rs2.ws lf1
            have ro : Own K (cut F' (Lent A ms rs)) H' o v B' := by
              rcases lf with lf | lf
              · rw [ce lf]; exact rs2.rr
              · exact Own.lfree tu o rs2.rr lf.1
            refine q v (cut F' (Lent A ms rs)) H' A2 B' (st.trans s3) ⟨w2, toR_own ro, rs2.nd, fun a ha hu => ?_, fun a ha => ?_⟩
            · rcases ua a hu with h | ⟨h, hn⟩
              · exact rs2.dj a ha h
              · rcases s2.own a (.inr ha) with h' | h'
                · exact hn h'
                · exact rss.ws.there h h'
            · by_cases t : Lent A ms rs a
              · exact cut_in t
              · rw [cut_out t]; exact rs2.dis a ha
          · cases hq
        · rename_i c os' hg
          split at hq <;> cases hq
      · cases hq
  · rename_i c env' hq
    split at hq
    · cases hq
    · rename_i os hos
      split at hq
      · rename_i ck
        split at hq
        · cases hq
        · rename_i o os' hg
          split at hq <;> cases hq
        · rename_i c os' hg
          split at hq
          · rename_i lf
            cases hq
            refine ⟨by rw [rss.rr.len, argOs_len hos], os, _, _, call_in rss hos ck, ?_⟩
            rw [hg]
            intro F' H' A' s2 w2'
            obtain ⟨A2, w2, s3, tu, ua, ce⟩ := call_out (B' := []) rss hos ck (s2.less fun x hx => hx.elim id fun z => nomatch z) w2' lf
            exact q (cut F' (Lent A ms rs)) H' A2 ((st.trans s3).less fun x hx => .inl hx) w2
          · cases hq
      · cases hq
end
section
variable {X : Cx} {k : Nat} {f : Addr} {fd : FuncData} {ps : List Str} {x : Str} {p pos : Pos} {e : Expr} {es : List Expr} {pv : Nat → Option V} {W : WX} {g : List O → RF} {fs : M (List R)}
theorem passAtW (tk : Takes X W) (σ : L2.St) : PassesAt (L2.CX X.prog X.w) X σ (fun c d H' => W c d σ H') := passAt tk σ
theorem dCall_rd {K : PySem.W.Frag} {mg : Str → Option Value} {ms : List Mode} {σ : L2.St} {H : Hp} {Q : VK} (q : tD K mg pv W (dCall g ms fs) σ H Q) :
    tDA K mg pv W fs σ H fun us H1 => spD K mg ms.length g us H1 Q (fun c d H' => W c d σ H') := by
  obtain ⟨env, F, A, ws, q⟩ := q
  simp only [dCall] at q
  refine tDA_bind ws (fun e => ?_) (fun c e1 e F1 H1 A1 s1 w1 => ?_) (fun r1 e1 e v1 F1 H1 A1 B1 s1 rs1 => ?_)
  · rw [e] at q; exact q
  · rw [e] at q; exact q F1 H1 A1 s1 w1
  · rw [e] at q
    simp only [Res.bind] at q
    exact finCall_rd rs1 s1 q
theorem de_call {ms : List Mode} (tk : Takes X W) (G : GFn X.prog X.w X.K X.mg X.base (L2.CX X.prog X.w) k f fd ps (spD X.K X.mg ms.length g)) (hr : Room k X.A) (gd : X.A.guards = some []) (hg : Gl X x) (hm : X.mg x = some (.ref f)) (hk : PySem.W.keepIn X.K (.ref f) = true) (hb : Binds X.K fd ps [])
    (ha : PA X (e :: es) (tDA X.K X.mg pv W fs)) (hdb : (x == ("__debug__" : Str)) = false := by decide) (he : starEach (e :: es) X.env = (false, eval e X.env) :: starEach es X.env := by rfl) (hpl : (backTo pos (starEach es X.env)).any (·.1) = false := by rfl) :
    PE X (.Call (.Name x p) (e :: es) [] pos) (tD X.K X.mg pv W (dCall g ms fs)) :=
  (pe_g G hr gd hg hm hk hb (fun σ => passAtW tk σ) ha hdb he hpl).imp fun _ _ _ q => dCall_rd q
def dCall0 (g : List O → RF) : M R := fun env => finCall g [] [] env
theorem de_call0 (tk : Takes X W) (G : GFn X.prog X.w X.K X.mg X.base (L2.CX X.prog X.w) k f fd ps (spD X.K X.mg 0 g)) (hr : Room k X.A) (gd : X.A.guards = some []) (hg : Gl X x) (hm : X.mg x = some (.ref f)) (hk : PySem.W.keepIn X.K (.ref f) = true) (hb : Binds X.K fd ps [])
    (hdb : (x == ("__debug__" : Str)) = false := by decide) : PE X (.Call (.Name x p) [] [] pos) (tD X.K X.mg pv W (dCall0 g)) :=
  (pe_g0 G hr gd hg hm hk hb (fun σ => passAtW tk σ) hdb).imp fun σ H Q q => by
    obtain ⟨env, F, A, ws, q⟩ := q
    exact finCall_rd (ms := []) (rs := []) (vs := []) (B := []) (pv := pv) ⟨ws, ⟨rfl, rfl⟩, List.nodup_nil, (fun a h => nomatch h), (fun a h => nomatch h)⟩ step_id q
end
end DL
end
section
set_option maxRecDepth 100000
set_option maxHeartbeats 4000000
namespace DL
open PySem PySem.Spec PyProof.Rows L2
variable [tb : Tb]
section
variable {K : PySem.W.Frag} {mg : Str → Option Value} {pv : Nat → Option V} {W : WX}
theorem tDT_bind {f : M Bool} {σ : L2.St} {H : Hp} {Q : Bool → Hp → Prop} {env : DEnv} {F : Hp} {A : Nat → List Addr} (ws : WS K pv env σ F H A) (hb : f env ≠ .bad)
    (hx : ∀ c env', f env = .exc c env' → ∀ F' H' A', Step F H (UA A) F' H' (UA A') → WS K pv env' σ F' H' A' → exW mg W c σ H')
    (hk : ∀ b env', f env = .ok b env' → ∀ F' H' A', Step F H (UA A) F' H' (UA A') → WS K pv env' σ F' H' A' → Q b H') : tDT K mg pv W f σ H Q := by
  refine ⟨env, F, A, ws, ?_⟩
  cases e : f env with
  | bad => exact hb e
  | ok r env' => exact hk r env' e
  | exc c env' => exact hx c env' e
end
theorem step_drop {F H F' H' : Hp} {P Q : Addr → Prop} {B : List Addr} (s : Step F H P F' H' (fun a => Q a ∨ a ∈ B)) : Step F H P F' H' Q := s.less fun _ h => .inl h

/-! ### tests -/
def fin1b (r : R) (env : DEnv) : Res Bool := match resolve env r with
  | some (.bl b) => .ok b env
  | _ => .bad
def tst (f : M R) : M Bool := fun env => (f env).bind fin1b
def tNot' (c : M Bool) : M Bool := fun env => (c env).bind fun b e => .ok (!b) e
def tAnd' (c d : M Bool) : M Bool := fun env => (c env).bind fun b e => if b = true then d e else .ok false e
def tOr' (c d : M Bool) : M Bool := fun env => (c env).bind fun b e => if b = true then .ok true e else d e
def dIf (c : M Bool) (f g : M R) : M R := fun env => (c env).bind fun b e => if b = true then f e else g e
def dNot (f : M R) : M R := fun env => (f env).bind fun r e => (fin1b r e).bind fun b e' => .ok (.val (.bl (!b))) e'
def dAnd (f g : M R) : M R := fun env => (f env).bind fun r e => (fin1b r e).bind fun b e' => if b = true then g e' else .ok (.val (.bl false)) e'
def dOr (f g : M R) : M R := fun env => (f env).bind fun r e => (fin1b r e).bind fun b e' => if b = true then .ok (.val (.bl true)) e' else g e'
theorem vw_bl {K : PySem.W.Frag} {F H : Hp} {b : Bool} {v : V} (h : Vw K F H (.bl b) v) : v = .bl b := h
section
variable {K : PySem.W.Frag} {mg : Str → Option Value} {pv : Nat → Option V} {W : WX} {f g : M R} {c d : M Bool} {σ : L2.St} {H : Hp}
theorem tst_rd {Q : Bool → Hp → Prop} (q : tDT K mg pv W (tst f) σ H Q) : tTest (tD K mg pv W f) σ H Q := by
  obtain ⟨env, F, A, ws, q⟩ := q
  simp only [tst] at q
  refine tD_bind ws (fun e => ?_) (fun c e1 e F1 H1 A1 s1 w1 => ?_) (fun r1 e1 e v1 F1 H1 A1 B1 s1 rs1 => ?_)
  · rw [e] at q; exact q
  · rw [e] at q; exact q F1 H1 A1 s1 w1
  · rw [e] at q
    simp only [Res.bind, fin1b] at q
    split at q
    · exact q.elim
    · rename_i b e2 hq
      split at hq
      · rename_i b' hr
        cases hq
        refine ⟨b, vw_bl (rs1.rr.view rs1.ws hr), q F1 H1 A1 (step_drop s1) rs1.ws⟩
      · cases hq
    · rename_i hq
      split at hq <;> cases hq
theorem tNot_rd {Q : Bool → Hp → Prop} (q : tDT K mg pv W (tNot' c) σ H Q) : tNot (tDT K mg pv W c) σ H Q := by
  obtain ⟨env, F, A, ws, q⟩ := q
  simp only [tNot'] at q
  refine tDT_bind ws (fun e => ?_) (fun c e1 e F1 H1 A1 s1 w1 => ?_) (fun b e1 e F1 H1 A1 s1 w1 => ?_)
  · rw [e] at q; exact q
  · rw [e] at q; exact q F1 H1 A1 s1 w1
  · rw [e] at q; exact q F1 H1 A1 s1 w1
/-- the rest of the code behind a step -/
theorem tDT_after {F0 H0 F1 H1 : Hp} {A0 A1 : Nat → List Addr} {e : DEnv} {Q : Bool → Hp → Prop} (s : Step F0 H0 (UA A0) F1 H1 (UA A1)) (w : WS K pv e σ F1 H1 A1)
    (q : match d e with
      | .bad => False
      | .ok b env' => ∀ F' H' A', Step F0 H0 (UA A0) F' H' (UA A') → WS K pv env' σ F' H' A' → Q b H'
      | .exc c env' => ∀ F' H' A', Step F0 H0 (UA A0) F' H' (UA A') → WS K pv env' σ F' H' A' → exW mg W c σ H') : tDT K mg pv W d σ H1 Q := by
  refine ⟨e, F1, A1, w, ?_⟩
  cases h : d e with
  | bad => rw [h] at q; exact q
  | ok b e' => rw [h] at q; exact fun F' H' A' s' w' => q F' H' A' (s.trans s') w'
  | exc c e' => rw [h] at q; exact fun F' H' A' s' w' => q F' H' A' (s.trans s') w'
theorem tD_after {F0 H0 F1 H1 : Hp} {A0 A1 : Nat → List Addr} {e : DEnv} {Q : VK} (s : Step F0 H0 (UA A0) F1 H1 (UA A1)) (w : WS K pv e σ F1 H1 A1)
    (q : match f e with
      | .bad => False
      | .ok r env' => ∀ v F' H' A' B, Step F0 H0 (UA A0) F' H' (fun a => UA A' a ∨ a ∈ B) → RS K pv env' σ r v F' H' A' B → Q v H'
      | .exc c env' => ∀ F' H' A', Step F0 H0 (UA A0) F' H' (UA A') → WS K pv env' σ F' H' A' → exW mg W c σ H') : tD K mg pv W f σ H1 Q := by
  refine ⟨e, F1, A1, w, ?_⟩
  cases h : f e with
  | bad => rw [h] at q; exact q
  | ok b e' => rw [h] at q; exact fun v F' H' A' B s' w' => q v F' H' A' B (s.trans s') w'
  | exc c e' => rw [h] at q; exact fun F' H' A' s' w' => q F' H' A' (s.trans s') w'
theorem tAnd_rd {Q : Bool → Hp → Prop} (q : tDT K mg pv W (tAnd' c d) σ H Q) : tAnd (tDT K mg pv W c) (tDT K mg pv W d) σ H Q := by
  obtain ⟨env, F, A, ws, q⟩ := q
  simp only [tAnd'] at q
  refine tDT_bind ws (fun e => ?_) (fun c e1 e F1 H1 A1 s1 w1 => ?_) (fun b e1 e F1 H1 A1 s1 w1 => ?_)
  · rw [e] at q; exact q
  · rw [e] at q; exact q F1 H1 A1 s1 w1
  · rw [e] at q
    simp only [Res.bind] at q
    cases b with
    | true => exact tDT_after s1 w1 q
    | false => exact q F1 H1 A1 s1 w1
theorem tOr_rd {Q : Bool → Hp → Prop} (q : tDT K mg pv W (tOr' c d) σ H Q) : tOr (tDT K mg pv W c) (tDT K mg pv W d) σ H Q := by
  obtain ⟨env, F, A, ws, q⟩ := q
  simp only [tOr'] at q
  refine tDT_bind ws (fun e => ?_) (fun c e1 e F1 H1 A1 s1 w1 => ?_) (fun b e1 e F1 H1 A1 s1 w1 => ?_)
  · rw [e] at q; exact q
  · rw [e] at q; exact q F1 H1 A1 s1 w1
  · rw [e] at q
    simp only [Res.bind] at q
    cases b with
    | false => exact tDT_after s1 w1 q
    | true => exact q F1 H1 A1 s1 w1
theorem dIf_rd {Q : VK} (q : tD K mg pv W (dIf c f g) σ H Q) : tIf (tDT K mg pv W c) (tD K mg pv W f) (tD K mg pv W g) σ H Q := by
  obtain ⟨env, F, A, ws, q⟩ := q
  simp only [dIf] at q
  refine tDT_bind ws (fun e => ?_) (fun c e1 e F1 H1 A1 s1 w1 => ?_) (fun b e1 e F1 H1 A1 s1 w1 => ?_)
  · rw [e] at q; exact q
  · rw [e] at q; exact q F1 H1 A1 s1 w1
  · rw [e] at q
    simp only [Res.bind] at q
    cases b with
    | true => exact tD_after s1 w1 q
    | false => exact tD_after s1 w1 q
theorem dNot_rd {Q : VK} (q : tD K mg pv W (dNot f) σ H Q) : tNotV (tD K mg pv W f) σ H Q := by
  obtain ⟨env, F, A, ws, q⟩ := q
  simp only [dNot] at q
  refine tD_bind ws (fun e => ?_) (fun c e1 e F1 H1 A1 s1 w1 => ?_) (fun r1 e1 e v1 F1 H1 A1 B1 s1 rs1 => ?_)
  · rw [e] at q; exact q
  · rw [e] at q; exact q F1 H1 A1 s1 w1
  · rw [e] at q
    simp only [Res.bind, fin1b] at q
    cases hr : resolve e1 r1 with
    | none => simp only [hr] at q
    | some d =>
      cases d with
      | bl b =>
        simp only [hr] at q
        exact ⟨b, vw_bl (rs1.rr.view rs1.ws hr), q _ F1 H1 A1 [] ((step_drop s1).trans step_id) (rs_val rs1.ws rfl)⟩
      | _ => simp only [hr] at q
theorem dAnd_rd {Q : VK} (q : tD K mg pv W (dAnd f g) σ H Q) : tAndV (tD K mg pv W f) (tD K mg pv W g) σ H Q := by
  obtain ⟨env, F, A, ws, q⟩ := q
  simp only [dAnd] at q
  refine tD_bind ws (fun e => ?_) (fun c e1 e F1 H1 A1 s1 w1 => ?_) (fun r1 e1 e v1 F1 H1 A1 B1 s1 rs1 => ?_)
  · rw [e] at q; exact q
  · rw [e] at q; exact q F1 H1 A1 s1 w1
  · rw [e] at q
    simp only [Res.bind, fin1b] at q
    cases hr : resolve e1 r1 with
    | none => simp only [hr] at q
    | some d =>
      cases d with
      | bl b =>
        simp only [hr] at q
        refine ⟨b, vw_bl (rs1.rr.view rs1.ws hr), ?_⟩
        cases b with
        | true => exact tD_after (step_drop s1) rs1.ws q
        | false => exact q _ F1 H1 A1 [] ((step_drop s1).trans step_id) (rs_val rs1.ws rfl)
      | _ => simp only [hr] at q
theorem dOr_rd {Q : VK} (q : tD K mg pv W (dOr f g) σ H Q) : tOrV (tD K mg pv W f) (tD K mg pv W g) σ H Q := by
  obtain ⟨env, F, A, ws, q⟩ := q
  simp only [dOr] at q
  refine tD_bind ws (fun e => ?_) (fun c e1 e F1 H1 A1 s1 w1 => ?_) (fun r1 e1 e v1 F1 H1 A1 B1 s1 rs1 => ?_)
  · rw [e] at q; exact q
  · rw [e] at q; exact q F1 H1 A1 s1 w1
  · rw [e] at q
    simp only [Res.bind, fin1b] at q
    cases hr : resolve e1 r1 with
    | none => simp only [hr] at q
    | some d =>
      cases d with
      | bl b =>
        simp only [hr] at q
        refine ⟨b, vw_bl (rs1.rr.view rs1.ws hr), ?_⟩
        cases b with
        | false => exact tD_after (step_drop s1) rs1.ws q
        | true => exact q _ F1 H1 A1 [] ((step_drop s1).trans step_id) (rs_val rs1.ws rfl)
      | _ => simp only [hr] at q
end
section
variable {X : Cx} {pv : Nat → Option V} {W : WX} {f g : M R} {c d : M Bool} {a b e : Expr} {rest : List Expr} {pos : Pos} {op : CmpOp} {r : R2} {h : D → D → Option R}
theorem dt_cmp (ho : OpR X (compareOp op) r) (hv : OpV X.K r h) (ha : PE X a (tD X.K X.mg pv W f)) (hb : PE X b (tD X.K X.mg pv W g)) (hm : behindInMarks op b = false) : PT X (.Compare a [op] [b] pos) (tDT X.K X.mg pv W (tst (op2 h f g))) :=
  (pt_cmpR ho ha hb hm).imp fun _ _ _ q => by
    obtain ⟨env, F, A, ws, q⟩ := tst_rd q
    exact op2_rd hv ⟨env, F, A, ws, q⟩
theorem dt_val (hh : PE X e (tD X.K X.mg pv W f)) (he : ∀ whole, isTrue e X.env whole = (do let v ← whole; standAt e.pos; holding [v] (truthy v)) := by intro _; rfl) : PT X e (tDT X.K X.mg pv W (tst f)) :=
  (pt_val hh he).imp fun _ _ _ q => tst_rd q
theorem dt_not (ha : PT X a (tDT X.K X.mg pv W c)) : PT X (.UnaryOp .Not a pos) (tDT X.K X.mg pv W (tNot' c)) := (pt_not ha).imp fun _ _ _ q => tNot_rd q
theorem dw_and1 (ha : PT X a (tDT X.K X.mg pv W c)) : PW X (.BoolOp .And [a] pos) (tDT X.K X.mg pv W c) := pw_and1 ha
theorem dw_or1 (ha : PT X a (tDT X.K X.mg pv W c)) : PW X (.BoolOp .Or [a] pos) (tDT X.K X.mg pv W c) := pw_or1 ha
theorem dw_and (ha : PT X a (tDT X.K X.mg pv W c)) (hb : PW X (.BoolOp .And (b :: rest) pos) (tDT X.K X.mg pv W d)) : PW X (.BoolOp .And (a :: b :: rest) pos) (tDT X.K X.mg pv W (tAnd' c d)) := (pw_and ha hb).imp fun _ _ _ q => tAnd_rd q
theorem dw_or (ha : PT X a (tDT X.K X.mg pv W c)) (hb : PW X (.BoolOp .Or (b :: rest) pos) (tDT X.K X.mg pv W d)) : PW X (.BoolOp .Or (a :: b :: rest) pos) (tDT X.K X.mg pv W (tOr' c d)) := (pw_or ha hb).imp fun _ _ _ q => tOr_rd q
theorem de_if {cond : Expr} (hc : PT X cond (tDT X.K X.mg pv W c)) (ha : PE X a (tD X.K X.mg pv W f)) (hb : PE X b (tD X.K X.mg pv W g)) : PE X (.IfExp cond a b pos) (tD X.K X.mg pv W (dIf c f g)) := (pe_ifExp hc ha hb).imp fun _ _ _ q => dIf_rd q
theorem de_not (ha : PE X a (tD X.K X.mg pv W f)) : PE X (.UnaryOp .Not a pos) (tD X.K X.mg pv W (dNot f)) := (pe_not ha).imp fun _ _ _ q => dNot_rd q
theorem de_one {op} (ha : PE X a (tD X.K X.mg pv W f)) : PE X (.BoolOp op [a] pos) (tD X.K X.mg pv W f) := pe_one ha
theorem de_and (ha : PE X a (tD X.K X.mg pv W f)) (hb : PE X (.BoolOp .And (b :: rest) pos) (tD X.K X.mg pv W g)) : PE X (.BoolOp .And (a :: b :: rest) pos) (tD X.K X.mg pv W (dAnd f g)) := (pe_and ha hb).imp fun _ _ _ q => dAnd_rd q
theorem de_or (ha : PE X a (tD X.K X.mg pv W f)) (hb : PE X (.BoolOp .Or (b :: rest) pos) (tD X.K X.mg pv W g)) : PE X (.BoolOp .Or (a :: b :: rest) pos) (tD X.K X.mg pv W (dOr f g)) := (pe_or ha hb).imp fun _ _ _ q => dOr_rd q
end
end DL
end
section
set_option maxRecDepth 100000
set_option maxHeartbeats 4000000
namespace DL
open PySem PySem.Spec PyProof.Rows L2
variable [tb : Tb]
/-! ### storing a slot -/
def upA (A : Nat → List Addr) (i : Nat) (B : List Addr) : Nat → List Addr := fun j => if j = i then B else A j
theorem UA_up {A : Nat → List Addr} {i : Nat} {B : List Addr} {a : Addr} (h : UA (upA A i B) a) : UA A a ∨ a ∈ B := by
  obtain ⟨j, hj⟩ := h
  unfold upA at hj
  split at hj
  · exact .inr hj
  · exact .inl ⟨j, hj⟩
section
variable {K : PySem.W.Frag} {mg : Str → Option Value} {pv : Nat → Option V} {W : WX} {env : DEnv} {σ : L2.St} {F H : Hp} {A : Nat → List Addr} {B : List Addr} {v : V}
theorem WS.put (w : WS K pv env σ F H A) {i : Nat} {s : Slot} (hi : i < env.length) (hs : SlotOk K F H s (some v) (pv i) B) (nd : B.Nodup) (dj : ∀ a ∈ B, ¬ UA A a) (dis : ∀ a ∈ B, F a = none) :
    WS K pv (env.set i s) (σ.set i (some v)) F H (upA A i B) := by
  have hi2 : i < σ.length := by rw [← w.len]; exact hi
  refine ⟨by simp [w.len], fun j => ?_, fun j => ?_, fun j j' a ha ha' => ?_, fun j a ha => ?_, w.sub, w.tbs⟩
  · by_cases e : j = i
    · subst e
      rw [List.getElem?_set_self hi, List.getElem?_set_self hi2]
      unfold upA
      rw [if_pos rfl]
      exact hs
    · rw [List.getElem?_set_ne (Ne.symm e), List.getElem?_set_ne (Ne.symm e)]
      unfold upA
      rw [if_neg e]
      exact w.slot j
  · unfold upA
    split
    · exact nd
    · exact w.nd j
  · unfold upA at ha ha'
    split at ha
    · rename_i e
      split at ha'
      · rename_i e'; rw [e, e']
      · exact absurd ⟨j', ha'⟩ (dj a ha)
    · split at ha'
      · exact absurd ⟨j, ha⟩ (dj a ha')
      · exact w.dj j j' a ha ha'
  · unfold upA at ha
    split at ha
    · exact dis a ha
    · exact w.dis j a ha
/-- only the data's word of a slot is changed: the value that stands there stays -/
theorem WS.re (w : WS K pv env σ F H A) {i : Nat} {s : Slot} {F' : Hp} (e : Same F F') (sub : Same F' H) (hs : SlotOk K F' H s (σ[i]?.getD none) (pv i) B) (nd : B.Nodup) (dj : ∀ a ∈ B, ∀ j, a ∈ A j → j = i) (dis : ∀ a ∈ B, F' a = none)
    (n : ∀ j, j ≠ i → ∀ a ∈ A j, F' a = none) (hi : i < env.length) (tt : TbsOk F H → TbsOk F' H) : WS K pv (env.set i s) σ F' H (upA A i B) := by
  refine ⟨by simp [w.len], fun j => ?_, fun j => ?_, fun j j' a ha ha' => ?_, fun j a ha => ?_, sub, tt w.tbs⟩
  · by_cases e' : j = i
    · subst e'
      rw [List.getElem?_set_self hi]
      unfold upA
      rw [if_pos rfl]
      exact hs
    · rw [List.getElem?_set_ne (Ne.symm e')]
      unfold upA
      rw [if_neg e']
      exact (w.slot j).stay e fun _ _ _ z => z
  · unfold upA
    split
    · exact nd
    · exact w.nd j
  · unfold upA at ha ha'
    split at ha
    · rename_i e1
      split at ha'
      · rename_i e2; rw [e1, e2]
      · rename_i e2; exact absurd (dj a ha j' ha') e2
    · rename_i e1
      split at ha'
      · exact absurd (dj a ha' j ha) e1
      · exact w.dj j j' a ha ha'
  · unfold upA at ha
    split at ha
    · exact dis a ha
    · rename_i e1; exact n j e1 a ha
end
/-- may a name be stored here -/
def free (env : DEnv) (i : Nat) : Bool := match env[i]? with
  | some (.pin _) => false
  | some _ => true
  | none => false
theorem free_lt {env : DEnv} {i : Nat} (h : free env i = true) : i < env.length := by
  unfold free at h
  cases e : env[i]? with
  | none => rw [e] at h; cases h
  | some s => exact (List.getElem?_eq_some_iff.mp e).1
/-- how a name is stored: what is new stays owned; is frozen; what another name holds is moved -/
inductive How where
  | keep | frz | mv
def setR (h : How) (i : Nat) (r : R) (env : DEnv) : Res Flow :=
  if free env i = true then (match h, r with
    | _, .val d => .ok .nx (env.set i (.own (.val d)))
    | .keep, .own o => .ok .nx (env.set i (.own o))
    | .mv, .own o => .ok .nx (env.set i (.own o))
    | .frz, .own o => (match o.frz with
      | some d => .ok .nx (env.set i (.own (.val d)))
      | none => .bad)
    | .frz, .bor j => (match env[j]?.bind Slot.o with
      | some o => (match o.frz with
        | some d => .ok .nx ((putO env j (.val d)).set i (.own (.val d)))
        | none => .bad)
      | none => .bad)
    | .mv, .bor j => if j = i then .bad else (match env[j]? with
      | some (.own o) => .ok .nx ((env.set j .un).set i (.own o))
      | _ => .bad)
    | .keep, .bor _ => .bad) else .bad
def sSet (h : How) (i : Nat) (f : M R) : M Flow := fun env => (f env).bind (setR h i)
def sSeq (a b : M Flow) : M Flow := fun env => (a env).bind fun fl e => match fl with
  | .nx => b e
  | fl => .ok fl e
def sNx : M Flow := fun env => .ok .nx env
def sBrk : M Flow := fun env => .ok .brk env
def sCont : M Flow := fun env => .ok .cont env
def sExpr (f : M R) : M Flow := fun env => (f env).bind fun _ e => .ok .nx e
def sRet (f : M R) : M Flow := fun env => (f env).bind fun r e => .ok (.ret r) e
def sRetN : M Flow := fun env => .ok (.ret (.val .non)) env
def sIf (c : M Bool) (a b : M Flow) : M Flow := fun env => (c env).bind fun k e => if k = true then a e else b e
section
variable {K : PySem.W.Frag} {mg : Str → Option Value} {pv : Nat → Option V} {W : WX} {f : M R} {a b : M Flow} {c : M Bool} {σ : L2.St} {H : Hp} {D : Ends}
/-- what is wanted behind a piece of code that began at F0, H0, A0 -/
def SPost (K : PySem.W.Frag) (mg : Str → Option Value) (pv : Nat → Option V) (W : WX) (D : Ends) (F0 H0 : Hp) (A0 : Nat → List Addr) : Res Flow → Prop
  | .bad => False
  | .ok .nx env' => ∀ σ' F' H' A', Step F0 H0 (UA A0) F' H' (UA A') → WS K pv env' σ' F' H' A' → D.nx σ' H'
  | .ok .brk env' => ∀ σ' F' H' A', Step F0 H0 (UA A0) F' H' (UA A') → WS K pv env' σ' F' H' A' → D.bk σ' H'
  | .ok .cont env' => ∀ σ' F' H' A', Step F0 H0 (UA A0) F' H' (UA A') → WS K pv env' σ' F' H' A' → D.ct σ' H'
  | .ok (.ret r) env' => ∀ v σ' F' H' A' B, Step F0 H0 (UA A0) F' H' (fun a => UA A' a ∨ a ∈ B) → RS K pv env' σ' r v F' H' A' B → D.rt v H'
  | .exc c env' => ∀ σ' F' H' A', Step F0 H0 (UA A0) F' H' (UA A') → WS K pv env' σ' F' H' A' → exW mg W c σ' H'
theorem sD_iff {g : M Flow} : sD K mg pv W g D σ H ↔ ∃ env F A, WS K pv env σ F H A ∧ SPost K mg pv W D F H A (g env) := by
  constructor
  · rintro ⟨env, F, A, ws, q⟩
    refine ⟨env, F, A, ws, ?_⟩
    revert q
    cases g env with
    | bad => exact id
    | ok fl e => cases fl <;> exact id
    | exc c e => exact id
  · rintro ⟨env, F, A, ws, q⟩
    refine ⟨env, F, A, ws, ?_⟩
    revert q
    cases g env with
    | bad => exact id
    | ok fl e => cases fl <;> exact id
    | exc c e => exact id
theorem SPost.trans {F0 H0 F1 H1 : Hp} {A0 A1 : Nat → List Addr} (s : Step F0 H0 (UA A0) F1 H1 (UA A1)) {r : Res Flow} (q : SPost K mg pv W D F0 H0 A0 r) : SPost K mg pv W D F1 H1 A1 r := by
  cases r with
  | bad => exact q
  | ok fl e =>
    cases fl with
    | nx => exact fun σ' F' H' A' s' w => q σ' F' H' A' (s.trans s') w
    | brk => exact fun σ' F' H' A' s' w => q σ' F' H' A' (s.trans s') w
    | cont => exact fun σ' F' H' A' s' w => q σ' F' H' A' (s.trans s') w
    | ret r => exact fun v σ' F' H' A' B s' w => q v σ' F' H' A' B (s.trans s') w
  | exc c e => exact fun σ' F' H' A' s' w => q σ' F' H' A' (s.trans s') w
/-- a statement, then the rest -/
theorem sD_after {g : M Flow} {F0 H0 F1 H1 : Hp} {A0 A1 : Nat → List Addr} {e : DEnv} (s : Step F0 H0 (UA A0) F1 H1 (UA A1)) (w : WS K pv e σ F1 H1 A1) (q : SPost K mg pv W D F0 H0 A0 (g e)) : sD K mg pv W g D σ H1 :=
  sD_iff.mpr ⟨e, F1, A1, w, q.trans s⟩
/-- a new slot for a value -/
theorem set_end {F0 H0 F1 H1 : Hp} {A0 A1 : Nat → List Addr} {B : List Addr} {e : DEnv} {r : R} {v : V} {h : How} {i : Nat} (s : Step F0 H0 (UA A0) F1 H1 (fun a => UA A1 a ∨ a ∈ B)) (rs : RS K pv e σ r v F1 H1 A1 B)
    (q : SPost K mg pv W D F0 H0 A0 (setR h i r e)) : D.nx (σ.set i (some v)) H1 := by
  unfold setR at q
  split at q
  · rename_i hf
    have hi := free_lt hf
    have ws := rs.ws
    have val : ∀ {d : DL.D} {F2 : Hp} {e2 : DEnv} {A2 : Nat → List Addr}, e2.length = e.length → WS K pv e2 σ F2 H1 A2 → Rep K F2 d v → Step F0 H0 (UA A0) F2 H1 (UA A2) → SPost K mg pv W D F0 H0 A0 (.ok .nx (e2.set i (.own (.val d)))) → D.nx (σ.set i (some v)) H1 := by
      intro d F2 e2 A2 le w2 rd s2 q2
      refine q2 (σ.set i (some v)) F2 H1 (upA A2 i []) (s2.less fun a ha => ?_) (w2.put (B := []) (by rw [le]; exact hi) ⟨v, rfl, Own.mkVal rd⟩ List.nodup_nil (fun a ha => nomatch ha) (fun a ha => nomatch ha))
      exact (UA_up ha).elim id fun z => nomatch z
    split at q
    · exact val rfl ws rs.rr.2 (step_drop s) q
    · rename_i o
      refine q (σ.set i (some v)) F1 H1 (upA A1 i B) (s.less fun a ha => UA_up ha) (ws.put hi ⟨v, rfl, rs.rr⟩ rs.nd rs.dj rs.dis)
    · rename_i o
      refine q (σ.set i (some v)) F1 H1 (upA A1 i B) (s.less fun a ha => UA_up ha) (ws.put hi ⟨v, rfl, rs.rr⟩ rs.nd rs.dj rs.dis)
    · rename_i o
      split at q
      · rename_i d hd
        have sG : Same F1 (ext F1 H1 fun a => a ∈ B) := ext_same ws.sub
        refine val (F2 := ext F1 H1 fun a => a ∈ B) rfl (ws.stay sG (ext_sub ws.sub) (fun _ _ _ z => z) (fun b hb => ?_) (fun t => t.frz (ext_tb1 fun a ha => rs.rr.nd a ha))) (Own.frz sG o rs.rr (fun a ha => ext_in ha) hd) ?_ q
        · rw [ext_out fun hB => rs.dj b hB hb]; exact ws.disU hb
        · refine (s.trans (F2 := ext F1 H1 fun a => a ∈ B) (H2 := H1) (P2 := UA A1) ⟨sG, fun a u e _ _ => e, (fun t => t.frz (ext_tb1 fun a ha => rs.rr.nd a ha)), fun a ha => ?_, fun a ha => ha, fun a ha => .inl (.inl ha)⟩)
          by_cases hB : a ∈ B
          · exact .inr (.inr (.inr hB))
          · rw [ext_out hB] at ha; exact .inl ha
      · exact q.elim
    · rename_i j
      split at q
      · rename_i o ho
        split at q
        · rename_i d hd
          have hj : σ[j]? = some (some v) := rs.rr.2
          have own := ws.at ho hj
          have sG : Same F1 (ext F1 H1 fun a => a ∈ A1 j) := ext_same ws.sub
          have rd : Rep K (ext F1 H1 fun a => a ∈ A1 j) d v := Own.frz sG o own (fun a ha => ext_in ha) hd
          have hjl : j < e.length := by rw [ws.len]; exact (List.getElem?_eq_some_iff.mp hj).1
          have wj : WS K pv (putO e j (.val d)) σ (ext F1 H1 fun a => a ∈ A1 j) H1 (upA A1 j []) := by
            have es : e[j]? = some e[j] := List.getElem?_eq_getElem hjl
            unfold putO
            rw [es]
            refine ws.re sG (ext_sub ws.sub) ?_ List.nodup_nil (fun a ha => nomatch ha) (fun a ha => nomatch ha) (fun k hk a ha => ?_) hjl (fun t => t.frz (ext_tb1 fun a ha => ws.ndU ⟨j, ha⟩))
            · rw [hj]
              have so := ws.slot j
              rw [es, hj] at so
              rw [es] at ho
              simp only [Option.getD_some] at so ⊢
              cases hsl : e[j] with
              | un => rw [hsl] at ho; simp [Slot.o] at ho
              | own o' => exact ⟨v, rfl, Own.mkVal rd⟩
              | pin o' =>
                rw [hsl] at so
                obtain ⟨w, e1, e2, _⟩ := so
                cases e1
                exact ⟨v, rfl, e2, Own.mkVal rd⟩
            · rw [ext_out fun hB => hk (ws.dj k j a ha hB)]
              exact ws.dis k a ha
          refine val (by rw [putO_len]) wj rd ?_ q
          refine (step_drop s).trans ⟨sG, fun a u e _ _ => e, (fun t => t.frz (ext_tb1 fun a ha => ws.ndU ⟨j, ha⟩)), fun a ha => ?_, fun a ha => ha, fun a ha => ?_⟩
          · by_cases hB : a ∈ A1 j
            · exact .inr (.inr ⟨j, hB⟩)
            · rw [ext_out hB] at ha; exact .inl ha
          · exact (UA_up ha).elim .inl fun z => nomatch z
        · exact q.elim
      · exact q.elim
    · rename_i j
      split at q
      · exact q.elim
      · rename_i hji
        split at q
        · rename_i o ho
          have hj : σ[j]? = some (some v) := rs.rr.2
          have own := ws.at (o := o) (by rw [ho]; rfl) hj
          have hjl : j < e.length := (List.getElem?_eq_some_iff.mp ho).1
          have wj : WS K pv (e.set j .un) σ F1 H1 (upA A1 j []) :=
            ws.re (Same.refl _) ws.sub rfl List.nodup_nil (fun a ha => nomatch ha) (fun a ha => nomatch ha) (fun k _ a ha => ws.dis k a ha) hjl id
          refine q (σ.set i (some v)) F1 H1 (upA (upA A1 j []) i (A1 j)) (s.less fun a ha => ?_) (wj.put (by simpa using hi) ⟨v, rfl, own⟩ (ws.nd j) (fun a ha hu => ?_) (fun a ha => ws.dis j a ha))
          · rcases UA_up ha with h | h
            · exact .inl ((UA_up h).elim id fun z => nomatch z)
            · exact .inl ⟨j, h⟩
          · obtain ⟨k, hk⟩ := hu
            unfold upA at hk
            split at hk
            · cases hk
            · rename_i hkj
              exact hkj (ws.dj k j a hk ha)
        · exact q.elim
    · exact q.elim
  · exact q.elim
theorem sSet_rd {h : How} {i : Nat} (q : sD K mg pv W (sSet h i f) D σ H) : tAsg (tD K mg pv W f) (gName i) D σ H := by
  obtain ⟨env, F, A, ws, q⟩ := sD_iff.mp q
  simp only [sSet] at q
  refine tD_bind ws (fun e => ?_) (fun c e1 e F1 H1 A1 s1 w1 => ?_) (fun r1 e1 e v1 F1 H1 A1 B1 s1 rs1 => ?_)
  · rw [e] at q; exact q
  · rw [e] at q; exact q σ F1 H1 A1 s1 w1
  · rw [e] at q
    exact set_end s1 rs1 q
theorem sSeq_rd (q : sD K mg pv W (sSeq a b) D σ H) : tSeq (sD K mg pv W a) (sD K mg pv W b) D σ H := by
  obtain ⟨env, F, A, ws, q⟩ := sD_iff.mp q
  simp only [sSeq] at q
  refine sD_iff.mpr ⟨env, F, A, ws, ?_⟩
  cases e : a env with
  | bad => rw [e] at q; exact q
  | exc c e1 => rw [e] at q; exact q
  | ok fl e1 =>
    rw [e] at q
    cases fl with
    | nx => exact fun σ' F' H' A' s' w => sD_after s' w q
    | brk => exact q
    | cont => exact q
    | ret r => exact q
theorem sNx_rd (q : sD K mg pv W sNx D σ H) : tNext D σ H := by
  obtain ⟨env, F, A, ws, q⟩ := sD_iff.mp q
  exact q σ F H A Step.refl ws
theorem sBrk_rd (q : sD K mg pv W sBrk D σ H) : tBreak D σ H := by
  obtain ⟨env, F, A, ws, q⟩ := sD_iff.mp q
  exact q σ F H A Step.refl ws
theorem sCont_rd (q : sD K mg pv W sCont D σ H) : tCont D σ H := by
  obtain ⟨env, F, A, ws, q⟩ := sD_iff.mp q
  exact q σ F H A Step.refl ws
theorem sExpr_rd (q : sD K mg pv W (sExpr f) D σ H) : tDrop (tD K mg pv W f) D σ H := by
  obtain ⟨env, F, A, ws, q⟩ := sD_iff.mp q
  simp only [sExpr] at q
  refine tD_bind ws (fun e => ?_) (fun c e1 e F1 H1 A1 s1 w1 => ?_) (fun r1 e1 e v1 F1 H1 A1 B1 s1 rs1 => ?_)
  · rw [e] at q; exact q
  · rw [e] at q; exact q σ F1 H1 A1 s1 w1
  · rw [e] at q
    exact q σ F1 H1 A1 (step_drop s1) rs1.ws
theorem sRet_rd (q : sD K mg pv W (sRet f) D σ H) : tRet (tD K mg pv W f) D σ H := by
  obtain ⟨env, F, A, ws, q⟩ := sD_iff.mp q
  simp only [sRet] at q
  refine tD_bind ws (fun e => ?_) (fun c e1 e F1 H1 A1 s1 w1 => ?_) (fun r1 e1 e v1 F1 H1 A1 B1 s1 rs1 => ?_)
  · rw [e] at q; exact q
  · rw [e] at q; exact q σ F1 H1 A1 s1 w1
  · rw [e] at q
    exact q v1 σ F1 H1 A1 B1 s1 rs1
theorem sRetN_rd (q : sD K mg pv W sRetN D σ H) : tRetN D σ H := by
  obtain ⟨env, F, A, ws, q⟩ := sD_iff.mp q
  exact q .non σ F H A [] step_id (rs_val ws rfl)
theorem sIf_rd (q : sD K mg pv W (sIf c a b) D σ H) : tIfS (tDT K mg pv W c) (sD K mg pv W a) (sD K mg pv W b) D σ H := by
  obtain ⟨env, F, A, ws, q⟩ := sD_iff.mp q
  simp only [sIf] at q
  refine tDT_bind ws (fun e => ?_) (fun c e1 e F1 H1 A1 s1 w1 => ?_) (fun k e1 e F1 H1 A1 s1 w1 => ?_)
  · rw [e] at q; exact q
  · rw [e] at q; exact q σ F1 H1 A1 s1 w1
  · rw [e] at q
    simp only [Res.bind] at q
    cases k with
    | true => exact sD_after s1 w1 q
    | false => exact sD_after s1 w1 q
end
section
variable {X : Cx} {pv : Nat → Option V} {W : WX} {f : M R} {a b : M Flow} {c : M Bool} {e : Expr} {st : Stmt} {rest sa sb : List Stmt} {pos : Pos}
theorem ds_set (h : How) {i : Nat} {x : Str} {pos' : Pos} (hN : X.N.Nodup) (hi : X.N[i]? = some x) (hx : Loc X.env.scope x) (he : PE X e (tD X.K X.mg pv W f)) (hs : swapsWith e (some (.Name x pos')) pos.line X.env = pure false := by rfl) (hf : X.fn x = true ∨ X.env.scope.names.lookup x = some .local := by first | exact .inl rfl | exact .inr rfl | assumption) :
    PS X (.Assign [.Name x pos'] e pos) (sD X.K X.mg pv W (sSet h i f)) := (ps_set hN hi hx he hs hf).imp fun _ _ _ q => sSet_rd q
theorem dss_cons (h1 : PS X st (sD X.K X.mg pv W a)) (h2 : PSs X rest (sD X.K X.mg pv W b)) : PSs X (st :: rest) (sD X.K X.mg pv W (sSeq a b)) := (pss_cons h1 h2).imp fun _ _ _ q => sSeq_rd q
theorem dss_one (h1 : PS X st (sD X.K X.mg pv W a)) : PSs X [st] (sD X.K X.mg pv W a) := pss_one h1
theorem dss_nil : PSs X [] (sD X.K X.mg pv W sNx) := pss_nil.imp fun _ _ _ q => sNx_rd q
theorem ds_pass : PS X (.Pass pos) (sD X.K X.mg pv W sNx) := ps_pass.imp fun _ _ _ q => sNx_rd q
theorem ds_break : PS X (.Break pos) (sD X.K X.mg pv W sBrk) := ps_break.imp fun _ _ _ q => sBrk_rd q
theorem ds_cont : PS X (.Continue pos) (sD X.K X.mg pv W sCont) := ps_continue.imp fun _ _ _ q => sCont_rd q
theorem ds_expr (he : PE X e (tD X.K X.mg pv W f)) (hs : swapsWith e none pos.line X.env = pure false := by rfl) : PS X (.Expr e pos) (sD X.K X.mg pv W (sExpr f)) := (ps_expr he hs).imp fun _ _ _ q => sExpr_rd q
theorem ds_ret (he : PE X e (tD X.K X.mg pv W f)) : PS X (.Return (some e) pos) (sD X.K X.mg pv W (sRet f)) := (ps_ret he).imp fun _ _ _ q => sRet_rd q
theorem ds_retN : PS X (.Return none pos) (sD X.K X.mg pv W sRetN) := ps_retN.imp fun _ _ _ q => sRetN_rd q
theorem ds_if {cond : Expr} (hc : PT X cond (tDT X.K X.mg pv W c)) (ha : PSs X sa (sD X.K X.mg pv W a)) (hb : PSs X sb (sD X.K X.mg pv W b)) : PS X (.If cond sa sb pos) (sD X.K X.mg pv W (sIf c a b)) := (ps_if hc ha hb).imp fun _ _ _ q => sIf_rd q
end

/-! ### a def of the text -/
def slotOf : O → Slot
  | .val d => .own (.val d)
  | o => .pin o
def initE (os : List O) (m : Nat) : DEnv := os.map slotOf ++ List.replicate m .un
def outs : List O → DEnv → Option (List O)
  | [], _ => some []
  | .val d :: os, _ :: env => (outs os env).map (.val d :: ·)
  | _ :: os, .pin o :: env => (outs os env).map (o :: ·)
  | _, _ => none
def takeR (env : DEnv) : R → Option O
  | .val d => some (.val d)
  | .own o => some o
  | .bor i => match env[i]? with
    | some (.own o) => some o
    | _ => none
def finFn (os : List O) : Res Flow → RF
  | .ok .nx env' => (match outs os env' with
    | some os' => .ok (.val .non) os'
    | none => .bad)
  | .ok (.ret r) env' => (match takeR env' r, outs os env' with
    | some o, some os' => .ok o os'
    | _, _ => .bad)
  | .exc c env' => (match outs os env' with
    | some os' => .exc c os'
    | none => .bad)
  | _ => .bad
def mkFn (m : Nat) (body : M Flow) : List O → RF := fun os => finFn os (body (initE os m))
end DL
end
section
set_option maxRecDepth 100000
set_option maxHeartbeats 4000000
namespace DL
open PySem PySem.Spec PyProof.Rows L2
variable [tb : Tb]
def isVal : O → Bool
  | .val _ => true
  | _ => false
theorem outs_spec : ∀ {os os' : List O} {env : DEnv}, outs os env = some os' → os'.length = os.length ∧ ∀ (j : Nat) (o : O), os[j]? = some o →
    (∃ d, o = .val d ∧ os'[j]? = some (.val d)) ∨ (isVal o = false ∧ ∃ o', env[j]? = some (.pin o') ∧ os'[j]? = some o')
  | [], os', env, h => by
    simp only [outs] at h; cases h
    exact ⟨rfl, fun j o h => by simp at h⟩
  | .val d :: os, os', env, h => by
    cases env with
    | nil => simp [outs] at h
    | cons s env =>
      simp only [outs, Option.map_eq_some_iff] at h
      obtain ⟨q, h1, rfl⟩ := h
      obtain ⟨l, k⟩ := outs_spec h1
      refine ⟨by simp [l], fun j o ho => ?_⟩
      cases j with
      | zero => simp at ho; subst ho; exact .inl ⟨d, rfl, rfl⟩
      | succ j => exact k j o (by simpa using ho)
  | o :: os, os', env, h => by
    cases env with
    | nil => cases o <;> simp [outs] at h
    | cons s env =>
      by_cases hv : isVal o = true
      · cases o with
        | val d =>
          simp only [outs, Option.map_eq_some_iff] at h
          obtain ⟨q, h1, rfl⟩ := h
          obtain ⟨l, k⟩ := outs_spec h1
          refine ⟨by simp [l], fun j o ho => ?_⟩
          cases j with
          | zero => simp at ho; subst ho; exact .inl ⟨d, rfl, rfl⟩
          | succ j => exact k j o (by simpa using ho)
        | _ => simp [isVal] at hv
      · have hv' : isVal o = false := by simpa using hv
        cases s with
        | un => cases o <;> simp [outs, isVal] at h hv
        | own p => cases o <;> simp [outs, isVal] at h hv
        | pin p =>
          have h' : (outs os env).map (p :: ·) = some os' := by
            cases o <;> simp [isVal] at hv <;> simpa [outs] using h
          obtain ⟨q, h1, rfl⟩ := Option.map_eq_some_iff.mp h'
          obtain ⟨l, k⟩ := outs_spec h1
          refine ⟨by simp [l], fun j o' ho => ?_⟩
          cases j with
          | zero => simp at ho; subst ho; exact .inr ⟨hv', p, rfl, rfl⟩
          | succ j => exact k j o' (by simpa using ho)
section
variable {K : PySem.W.Frag} {os : List O} {vs : List V} {F H : Hp} {A : Nat → List Addr}
theorem fn_in {N : List Str} (w : WS K (pvOf vs) (os.map Slot.pin) (vs.map some) F H A) (hl : vs.length ≤ N.length) : WS K (pvOf vs) (initE os (N.length - vs.length)) (L2.start N vs) F H A := by
  have l : os.length = vs.length := by simpa using w.len
  have nil : ∀ i, os.length ≤ i → A i = [] := fun i hi => by
    have h := w.slot i
    rw [pin_get, List.getElem?_eq_none_iff.mpr hi] at h
    exact h
  refine ⟨?_, fun i => ?_, w.nd, w.dj, w.dis, w.sub, w.tbs⟩
  · unfold initE L2.start
    simp [l]
  · have h := w.slot i
    rw [pin_get, some_get] at h
    unfold initE L2.start
    by_cases hi : i < os.length
    · have e1 : os[i]? = some os[i] := List.getElem?_eq_getElem hi
      have e2 : vs[i]? = some (vs[i]'(by omega)) := List.getElem?_eq_getElem (by omega)
      rw [List.getElem?_append_left (by simpa using hi), List.getElem?_append_left (by simpa [l] using hi), List.getElem?_map, List.getElem?_map, e1, e2]
      rw [e1, e2] at h
      obtain ⟨v, q1, q2, q3⟩ := h
      simp only [Option.map_some, Option.getD_some]
      cases ho : os[i] with
      | val d => rw [ho] at q3; exact ⟨v, q1, q3⟩
      | _ => rw [ho] at q3; exact ⟨v, q1, q2, q3⟩
    · have hz := nil i (by omega)
      rw [List.getElem?_append_right (by simp; omega), List.getElem?_append_right (by simp; omega)]
      rw [hz]
      have rep : ∀ (n k : Nat), (List.replicate n Slot.un)[k]?.getD .un = .un := fun n k => by
        rw [List.getElem?_replicate]
        split <;> rfl
      rw [rep]
      rfl
theorem fn_out {N : List Str} (w0 : WS K (pvOf vs) (os.map Slot.pin) (vs.map some) F H A) {env' : DEnv} {σ' : L2.St} {F' H' : Hp} {A' : Nat → List Addr} (w : WS K (pvOf vs) env' σ' F' H' A') (sm : Same F F') {os' : List O} (e : outs os env' = some os') :
    ∃ A'', WS K (pvOf vs) (os'.map Slot.pin) (vs.map some) F' H' A'' ∧ ∀ i, A'' i = [] ∨ (A'' i = A' i ∧ ∃ o', env'[i]? = some (.pin o')) := by
  obtain ⟨l, k⟩ := outs_spec e
  have l0 : os.length = vs.length := by simpa using w0.len
  obtain ⟨A'', hA⟩ : ∃ A'' : Nat → List Addr, A'' = fun i => match os[i]? with
    | some (.val _) => []
    | some _ => A' i
    | none => [] := ⟨_, rfl⟩
  have cases' : ∀ i, A'' i = [] ∨ (A'' i = A' i ∧ ∃ o', env'[i]? = some (.pin o')) := fun i => by
    rw [hA]
    cases ho : os[i]? with
    | none => exact .inl (by simp only [ho])
    | some o =>
      rcases k i o ho with ⟨d, rfl, _⟩ | ⟨h1, o', h2, _⟩
      · exact .inl (by simp only [ho])
      · refine .inr ⟨?_, o', h2⟩
        simp only [ho]
        cases o <;> first | rfl | simp [isVal] at h1
  refine ⟨A'', ⟨by simp [l, l0], fun i => ?_, fun i => ?_, fun i j a hi hj => ?_, fun i a ha => ?_, w.sub, w.tbs⟩, cases'⟩
  · rw [pin_get, some_get]
    by_cases hi : i < os.length
    · have e1 : os[i]? = some os[i] := List.getElem?_eq_getElem hi
      have e2 : vs[i]? = some (vs[i]'(by omega)) := List.getElem?_eq_getElem (by omega)
      have h0 := w0.slot i
      rw [pin_get, some_get, e1, e2] at h0
      obtain ⟨v, q1, q2, q3⟩ := h0
      rcases k i _ e1 with ⟨d, hd, h2⟩ | ⟨h1, o', h2, h3⟩
      · rw [h2, e2]
        rw [hd] at q3
        refine ⟨v, q1, by rw [← q1, ← e2], ?_⟩
        have : A'' i = [] := by rw [hA]; simp only [e1, hd]
        rw [this]
        simp only [Own] at q3
        exact Own.mkVal (Rep.same sm d q3.2)
      · rw [h3, e2]
        have hz : A'' i = A' i := by
          rw [hA]
          simp only [e1]
          cases ho : os[i] <;> first | rfl | (rw [ho] at h1; simp [isVal] at h1)
        have hs := w.slot i
        rw [h2] at hs
        obtain ⟨u, u1, u2, u3⟩ := hs
        have : u = v := by
          have : pvOf vs i = vs[i]? := rfl
          rw [this, e2] at u2 q2
          rw [u2] at q2; cases q2; rfl
        subst this
        rw [hz]
        exact ⟨u, q1, u2, u3⟩
    · rw [List.getElem?_eq_none_iff.mpr (by omega)]
      show A'' i = []
      rw [hA]
      simp only [List.getElem?_eq_none_iff.mpr (show os.length ≤ i by omega)]
  · rcases cases' i with h | ⟨h, _⟩
    · rw [h]; exact List.nodup_nil
    · rw [h]; exact w.nd i
  · rcases cases' i with h | ⟨h, _⟩
    · rw [h] at hi; cases hi
    · rcases cases' j with h' | ⟨h', _⟩
      · rw [h'] at hj; cases hj
      · rw [h] at hi; rw [h'] at hj; exact w.dj i j a hi hj
  · rcases cases' i with h | ⟨h, _⟩
    · rw [h] at ha; cases ha
    · rw [h] at ha; exact w.dis i a ha
theorem fn_end {N : List Str} {mg : Str → Option Value} {g : M Flow} {Q : VK} {E : XK} {n : Nat} (hn : n ≤ N.length) (h : spD K mg n (mkFn (N.length - n) g) vs H Q E) :
    sD K mg (pvOf vs) (fun c d _ H => E c d H) g { nx := fun _ H' => Q .non H', rt := Q } (L2.start N vs) H := by
  obtain ⟨hv, os, F, A, w0, q⟩ := h
  subst hv
  have w1 := fn_in (N := N) w0 hn
  refine sD_iff.mpr ⟨_, F, A, w1, ?_⟩
  simp only [mkFn] at q
  cases e : g (initE os (N.length - vs.length)) with
  | bad => rw [e] at q; exact q
  | exc c env' =>
    rw [e] at q
    simp only [finFn] at q
    intro σ' F' H' A' s w
    cases ho : outs os env' with
    | none => simp only [ho] at q
    | some os' =>
      simp only [ho] at q
      obtain ⟨A'', w2, hA⟩ := fn_out (N := N) w0 w s.fz ho
      refine fun C hC => q F' H' A'' (s.less fun a ⟨i, hi⟩ => ?_) w2 C hC
      rcases hA i with h | ⟨h, _⟩
      · rw [h] at hi; cases hi
      · rw [h] at hi; exact ⟨i, hi⟩
  | ok fl env' =>
    rw [e] at q
    cases fl with
    | brk => exact q.elim
    | cont => exact q.elim
    | nx =>
      simp only [finFn] at q
      intro σ' F' H' A' s w
      cases ho : outs os env' with
      | none => simp only [ho] at q
      | some os' =>
        simp only [ho] at q
        obtain ⟨A'', w2, hA⟩ := fn_out (N := N) w0 w s.fz ho
        refine q .non F' H' A'' [] (s.less fun a ha => ?_) ⟨w2, (show Own K F' H' (.val .non) .non [] from Own.mkVal rfl), List.nodup_nil, (fun a h => nomatch h), (fun a h => nomatch h)⟩
        rcases ha with ⟨i, hi⟩ | ha
        · rcases hA i with h | ⟨h, _⟩
          · rw [h] at hi; cases hi
          · rw [h] at hi; exact ⟨i, hi⟩
        · cases ha
    | ret r =>
      simp only [finFn] at q
      intro v σ' F' H' A' B s rs
      cases ht : takeR env' r with
      | none => simp only [ht] at q
      | some o =>
        cases ho : outs os env' with
        | none => simp only [ht, ho] at q
        | some os' =>
          simp only [ht, ho] at q
          obtain ⟨A'', w2, hA⟩ := fn_out (N := N) w0 rs.ws s.fz ho
          have sub : ∀ a, UA A'' a → UA A' a := fun a ⟨i, hi⟩ => by
            rcases hA i with h | ⟨h, _⟩
            · rw [h] at hi; cases hi
            · rw [h] at hi; exact ⟨i, hi⟩
          cases r with
          | val d =>
            simp only [takeR] at ht; cases ht
            refine q v F' H' A'' B (s.less fun a ha => ha.imp_left (sub a)) ⟨w2, ?_, rs.nd, fun a ha hu => rs.dj a ha (sub a hu), rs.dis⟩
            show Own K F' H' (.val d) v B
            rw [rs.rr.1]
            exact Own.mkVal rs.rr.2
          | own o' =>
            simp only [takeR] at ht; cases ht
            exact q v F' H' A'' B (s.less fun a ha => ha.imp_left (sub a)) ⟨w2, rs.rr, rs.nd, fun a ha hu => rs.dj a ha (sub a hu), rs.dis⟩
          | bor i =>
            simp only [takeR] at ht
            split at ht
            · rename_i o' hi
              cases ht
              have own : Own K F' H' o v (A' i) := rs.ws.at (by rw [hi]; rfl) rs.rr.2
              refine q v F' H' A'' (A' i) (s.less fun a ha => ?_) ⟨w2, own, rs.ws.nd i, fun a ha ⟨j, hj⟩ => ?_, fun a ha => rs.ws.dis i a ha⟩
              · rcases ha with ha | ha
                · exact .inl (sub a ha)
                · exact .inl ⟨i, ha⟩
              · rcases hA j with h | ⟨h, o2, ho2⟩
                · rw [h] at hj; cases hj
                · rw [h] at hj
                  have e := rs.ws.dj i j a ha hj
                  subst e
                  rw [hi] at ho2; cases ho2
            · cases ht
end
/-- THE RULE for a def of the text -/
theorem fn_ok {P : Program} {w : World} {K : PySem.W.Frag} {mg : Str → Option Value} {base : Heap} {x qual : Str} {st : Stmt} {f : Addr} {fd : FuncData} {N ps : List Str} {k : Nat} {body : M Flow} (F : Fun K x qual st f fd) (S : FnScope N ps (defScope st)) (hn : ps.length ≤ N.length)
    (hbody : ∀ (cdv : Value) (A : Around) (outer : List Env) (s : Shared) (H : Hp) (E : XK) (pv : Nat → Option V), fd.code = cdv → Room k (A.deeper (envOfC qual (defScope st) s.heap.objs.size f cdv)) → A.guards = some [] →
      PSs (cxOf (L2.CX P w) P w K mg base N qual (defScope st) f cdv A outer s H E) (defBody st) (sD K mg pv (fun c d _ H => E c d H) body)) :
    GFn P w K mg base (L2.CX P w) (k + 1) f fd ps (spD K mg ps.length (mkFn (N.length - ps.length) body)) :=
  g_of F S (fun vs H Q E h => h.1) fun cdv A outer s H vs Q E hc hr gd h => ⟨_, hbody cdv A outer s H E (pvOf vs) hc hr gd, fn_end hn h⟩
end DL
end
section
set_option maxRecDepth 100000
set_option maxHeartbeats 4000000
namespace DL
open PySem PySem.Spec PyProof.Rows L2
variable [tb : Tb]
theorem R2.or_l {r r' : R2} {h h' : D → D → Option R} {K : PySem.W.Frag} (a : OpV K r h) : OpV K (fun x y H Q => r x y H Q ∨ r' x y H Q) h := fun F H d1 d2 v1 v2 ro Q s v w e q => .inl (a F H d1 d2 v1 v2 ro Q s v w e q)
/-- two rules for one operator: the first one that speaks -/
def hOr (h h' : D → D → Option R) : D → D → Option R := fun d e => match h d e with
  | some r => some r
  | none => h' d e
theorem OpV.or {r r' : R2} {h h' : D → D → Option R} {K : PySem.W.Frag} (a : OpV K r h) (b : OpV K r' h') : OpV K (fun x y H Q => r x y H Q ∨ r' x y H Q) (hOr h h') := fun F H d1 d2 v1 v2 ro Q s v w e q => by
  unfold hOr at e
  split at e
  · rename_i r1 h1
    cases e
    exact .inl (a F H d1 d2 v1 v2 ro Q s v w h1 q)
  · exact .inr (b F H d1 d2 v1 v2 ro Q s v w e q)
section
variable {K : PySem.W.Frag}
/-! ### ints -/
def hI (C : Int → Int → Bool) (g : Int → Int → D) : D → D → Option R
  | .int i, .int j => if C i j = true then some (.val (g i j)) else none
  | _, _ => none
theorem ov_int {C : Int → Int → Prop} {c : Int → Int → Bool} {g : Int → Int → D} {gv : Int → Int → V} (hc : ∀ i j, c i j = true → C i j) (hg : ∀ i j F, Rep K F (g i j) (gv i j)) : OpV K (rI C gv) (hI c g) := fun F H d1 d2 v1 v2 ro Q s a b e q => by
  cases d1 <;> cases d2 <;> simp [hI] at e
  rename_i i j
  obtain ⟨e1, rfl⟩ := e
  exact ⟨i, j, a, b, hc i j e1, q.flat s (hg i j F)⟩
theorem ov_int0 {g : Int → Int → D} {gv : Int → Int → V} (hg : ∀ i j F, Rep K F (g i j) (gv i j)) : OpV K (rI0 gv) (hI (fun _ _ => true) g) := fun F H d1 d2 v1 v2 ro Q s a b e q => by
  cases d1 <;> cases d2 <;> simp [hI] at e
  rename_i i j
  subst e
  exact ⟨i, j, a, b, q.flat s (hg i j F)⟩
def small64 (i : Int) : Bool := decide (-(2 ^ 64) < i) && decide (i < 2 ^ 64)
def cMul (i j : Int) : Bool := small64 i || small64 j
theorem cMul_ok (i j : Int) (h : cMul i j = true) : CMul i j := by
  unfold cMul small64 at h
  simp only [Bool.or_eq_true, Bool.and_eq_true, decide_eq_true_eq] at h
  exact h
def cDiv (_ j : Int) : Bool := decide (0 < j) && decide (j.natAbs.log2 < 9000)
theorem cDiv_ok (i j : Int) (h : cDiv i j = true) : CDivW i j := by
  unfold cDiv at h
  simp only [Bool.and_eq_true, decide_eq_true_eq] at h
  exact h
def cMod (_ j : Int) : Bool := decide (0 < j)
theorem cMod_ok (i j : Int) (h : cMod i j = true) : 0 < j := by
  unfold cMod at h
  simpa using h
def cPow (i j : Int) : Bool := decide (0 ≤ j) && decide (j ≤ 1000000) && decide (i.natAbs < 2 ^ 64)
theorem cPow_ok (i j : Int) (h : cPow i j = true) : CPow i j := by
  unfold cPow at h
  simp only [Bool.and_eq_true, decide_eq_true_eq] at h
  exact ⟨h.1.1, h.1.2, h.2⟩
/-! ### texts, lists, tuples joined -/
def hCatS : D → D → Option R
  | .str x, .str y => if x.length + y.length ≤ sizeLine then some (.val (.str (x ++ y))) else none
  | _, _ => none
theorem ov_catS : OpV K (fun x y H Q => ∃ i j, x = .str i ∧ y = .str j ∧ i.length + j.length ≤ sizeLine ∧ Q (.str (i ++ j)) H) hCatS := fun F H d1 d2 v1 v2 ro Q s a b e q => by
  cases d1 <;> cases d2 <;> simp [hCatS] at e
  rename_i i j
  obtain ⟨e1, rfl⟩ := e
  exact ⟨i, j, a, b, e1, q.flat s rfl⟩
def hCatL : D → D → Option R
  | .lst x, .lst y => if x.length + y.length ≤ sizeLine then some (.own (.lst (x ++ y))) else none
  | _, _ => none
theorem ov_catL : OpV K rCat hCatL := fun F H d1 d2 v1 v2 ro Q s a b e q => by
  cases d1 <;> cases d2 <;> simp [hCatL] at e
  rename_i x y
  obtain ⟨e1, rfl⟩ := e
  obtain ⟨l, xs, rfl, h1, r1⟩ := a
  obtain ⟨l', ys, rfl, h2, r2⟩ := b
  exact ⟨l, l', xs, ys, rfl, rfl, h1, h2, by rw [r1.len, r2.len]; exact e1, fun p n => q.lst s (r1.append r2) n⟩
def hCatT : D → D → Option R
  | .tup x, .tup y => if x.length + y.length ≤ sizeLine then some (.val (.tup (x ++ y))) else none
  | _, _ => none
theorem vw_tup {F H : Hp} {ds : List D} {v : V} (s : Same F H) (h : Vw K F H (.tup ds) v) : ∃ a vs, v = .ref a ∧ SqT K F a vs ∧ SqT K H a vs ∧ Reps K F ds vs := by
  have h' : Rep K F (.tup ds) v := h
  simp only [Rep] at h'
  obtain ⟨a, vs, h1, h2, h3⟩ := h'
  exact ⟨a, vs, h1, h2, SqT.same s h2, h3⟩
theorem Reps.nil_iff {F : Hp} {ds : List D} {vs : List V} (h : Reps K F ds vs) : vs = [] ↔ ds = [] := by
  have l := h.len
  constructor
  · rintro rfl
    exact List.length_eq_zero_iff.mp (by simpa using l.symm)
  · rintro rfl
    exact List.length_eq_zero_iff.mp (by simpa using l)
theorem ov_catT : OpV K (rCatA K) hCatT := fun F H d1 d2 v1 v2 ro Q s a b e q => by
  cases d1 <;> cases d2 <;> simp [hCatT] at e
  rename_i x y
  obtain ⟨e1, rfl⟩ := e
  obtain ⟨l, xs, rfl, f1, h1, r1⟩ := vw_tup s a
  obtain ⟨l', ys, rfl, f2, h2, r2⟩ := vw_tup s b
  refine ⟨l, l', xs, ys, rfl, rfl, h1, h2, by rw [r1.len, r2.len]; exact e1, fun z => ?_, fun _ z => ?_, fun _ _ p n => q.tup s (r1.append r2) n⟩
  · subst z
    have z' := r1.nil_iff.mp rfl
    subst z'
    refine q.flat s ?_
    simp only [Rep, List.nil_append]
    exact ⟨l', ys, rfl, f2, r2⟩
  · subst z
    have z' := r2.nil_iff.mp rfl
    subst z'
    refine q.flat s ?_
    simp only [Rep, List.append_nil]
    exact ⟨l, xs, rfl, f1, r1⟩
/-! ### repeated -/
def rep {α : Type} (n : Nat) (xs : List α) : List α := (List.replicate n xs).flatten
theorem Reps.rep {F : Hp} {ds : List D} {vs : List V} (h : Reps K F ds vs) : ∀ n, Reps K F (rep n ds) (rep n vs)
  | 0 => rfl
  | n + 1 => by
    unfold DL.rep
    rw [List.replicate_succ, List.replicate_succ, List.flatten_cons, List.flatten_cons]
    exact h.append (Reps.rep h n)
def hRepL : D → D → Option R
  | .lst x, .int k => if -(2 ^ 63) ≤ k ∧ k < 2 ^ 63 ∧ x.length * k.toNat ≤ sizeLine then some (.own (.lst (rep k.toNat x))) else none
  | _, _ => none
theorem ov_repL : OpV K rRep hRepL := fun F H d1 d2 v1 v2 ro Q s a b e q => by
  cases d1 <;> cases d2 <;> simp [hRepL] at e
  rename_i x k
  obtain ⟨⟨e1, e2, e3⟩, rfl⟩ := e
  obtain ⟨l, xs, rfl, h1, r1⟩ := a
  refine ⟨l, k, xs, rfl, b, h1, by simpa using e1, by simpa using e2, by rw [r1.len]; exact e3, fun p n => q.lst s (r1.rep _) n⟩
def hRepT : D → D → Option R
  | .tup x, .int k => if x ≠ [] ∧ 2 ≤ k ∧ k ≤ 1000 ∧ x.length ≤ 1000 then some (.val (.tup (rep k.toNat x))) else none
  | _, _ => none
theorem ov_repT : OpV K (rRepT K) hRepT := fun F H d1 d2 v1 v2 ro Q s a b e q => by
  cases d1 <;> cases d2 <;> simp [hRepT] at e
  rename_i x k
  obtain ⟨⟨e1, e2, e3, e4⟩, rfl⟩ := e
  obtain ⟨l, xs, rfl, f1, h1, r1⟩ := vw_tup s a
  exact ⟨l, k, xs, rfl, b, h1, fun z => e1 (r1.nil_iff.mp z), e2, e3, by rw [r1.len]; exact e4, fun p n => q.tup s (r1.rep _) n⟩
/-! ### plain data -/
def keyPy : Key → PyData
  | .inl i => .int i
  | .inr x => .str x
mutual
def D.py : D → Option PyData
  | .non => some .none
  | .bl b => some (.bool b)
  | .int i => some (.int i)
  | .str x => some (.str x)
  | .tup ds => match D.pys ds with
    | some ps => some (.tuple ps)
    | none => none
  | .lst ds => match D.pys ds with
    | some ps => some (.list ps)
    | none => none
  | .dct ks ds => match D.pys ds with
    | some ps => some (.dict ((ks.map keyPy).zip ps))
    | none => none
  | _ => none
def D.pys : List D → Option (List PyData)
  | [] => some []
  | d :: ds => match D.py d, D.pys ds with
    | some p, some ps => some (p :: ps)
    | _, _ => none
end
mutual
theorem Rep.dp {F H : Hp} (s : Same F H) : ∀ (d : D) {v : V} {p : PyData}, Rep K F d v → d.py = some p → p.canLay0 = true → Dp K H v p
  | .non, _, _, h, e, _ => by simp only [D.py] at e; cases e; simp only [Rep] at h; subst h; exact .non
  | .bl b, _, _, h, e, _ => by simp only [D.py] at e; cases e; simp only [Rep] at h; subst h; exact .bl b
  | .int i, _, _, h, e, _ => by simp only [D.py] at e; cases e; simp only [Rep] at h; subst h; exact .int i
  | .str x, _, _, h, e, _ => by simp only [D.py] at e; cases e; simp only [Rep] at h; subst h; exact .str x
  | .ty _, _, _, _, e, _ => by simp [D.py] at e
  | .ref _, _, _, _, e, _ => by simp [D.py] at e
  | .rol _, _, _, _, e, _ => by simp [D.py] at e
  | .ins _ _ _, _, _, _, e, _ => by simp [D.py] at e
  | .dct ks ds, _, _, h, e, c => by
    simp only [D.py] at e
    split at e
    · cases e; simp [PyData.canLay0] at c
    · cases e
  | .tup ds, _, _, h, e, c => by
    simp only [D.py] at e
    split at e
    · rename_i ps hp
      cases e
      simp only [Rep] at h
      obtain ⟨a, vs, rfl, h2, h3⟩ := h
      exact .tup (SqT.same s h2) (Reps.dp s ds h3 hp (by simpa [PyData.canLay0] using c))
    · cases e
  | .lst ds, _, _, h, e, c => by
    simp only [D.py] at e
    split at e
    · rename_i ps hp
      cases e
      simp only [Rep] at h
      obtain ⟨a, vs, rfl, h2, h3⟩ := h
      exact .lst (.of (s _ _ h2)) (Reps.dp s ds h3 hp (by simpa [PyData.canLay0] using c))
    · cases e
theorem Reps.dp {F H : Hp} (s : Same F H) : ∀ (ds : List D) {vs : List V} {ps : List PyData}, Reps K F ds vs → D.pys ds = some ps → PyData.canLayAll0 ps = true → DpAll K H vs ps
  | [], _, _, h, e, _ => by simp only [D.pys] at e; cases e; simp only [Reps] at h; subst h; exact .nil
  | d :: ds, _, _, h, e, c => by
    simp only [D.pys] at e
    split at e
    · rename_i p ps h1 h2
      cases e
      simp only [Reps] at h
      obtain ⟨v, r, rfl, q1, q2⟩ := h
      simp only [PyData.canLayAll0, Bool.and_eq_true] at c
      exact .cons (Rep.dp s d q1 h1 c.1) (Reps.dp s ds q2 h2 c.2)
    · cases e
end
theorem vw_dp {F H : Hp} (s : Same F H) {d : D} {v : V} {p : PyData} (h : Vw K F H d v) (e : d.py = some p) (c : p.canLay0 = true) : Dp K H v p := by
  cases d with
  | lst ds =>
    simp only [D.py] at e
    split at e
    · rename_i ps hp
      cases e
      obtain ⟨a, vs, rfl, h2, h3⟩ := h
      exact .lst (.of h2) (Reps.dp s ds h3 hp (by simpa [PyData.canLay0] using c))
    · cases e
  | dct ks ds =>
    simp only [D.py] at e
    split at e
    · cases e; simp [PyData.canLay0] at c
    · cases e
  | _ => exact Rep.dp s _ h e c
def hEq (neg : Bool) : D → D → Option R := fun d e => match d.py, e.py with
  | some p, some q => if SeqAt.shaped p = true ∧ SeqAt.shaped q = true then some (.val (.bl (if neg then !PyData.eqv p q else PyData.eqv p q))) else none
  | _, _ => none
theorem ov_eq : OpV K (rEqD K) (hEq false) := fun F H d1 d2 v1 v2 ro Q s a b e q => by
  unfold hEq at e
  split at e
  · rename_i p p' h1 h2
    split at e
    · rename_i hs
      cases e
      exact ⟨p, p', vw_dp s a h1 (SeqAt.canLay_of_shaped hs.1), vw_dp s b h2 (SeqAt.canLay_of_shaped hs.2), hs.1, hs.2, q.flat s rfl⟩
    · cases e
  · cases e
theorem ov_ne : OpV K (rNeD K) (hEq true) := fun F H d1 d2 v1 v2 ro Q s a b e q => by
  unfold hEq at e
  split at e
  · rename_i p p' h1 h2
    split at e
    · rename_i hs
      cases e
      exact ⟨p, p', vw_dp s a h1 (SeqAt.canLay_of_shaped hs.1), vw_dp s b h2 (SeqAt.canLay_of_shaped hs.2), hs.1, hs.2, q.flat s rfl⟩
    · cases e
  · cases e
/-! ### is -/
def isNon : D → Bool
  | .non => true
  | _ => false
theorem vw_non {F H : Hp} {d : D} {v : V} (h : Vw K F H d v) : decide (v = .non) = isNon d := by
  cases d with
  | non => have : v = .non := h; subst this; rfl
  | bl b => have : v = .bl b := h; subst this; rfl
  | int b => have : v = .int b := h; subst this; rfl
  | str b => have : v = .str b := h; subst this; rfl
  | ty b => have : v = .ty b := h; subst this; rfl
  | ref b => have : v = .ref b := h; subst this; rfl
  | tup ds => have h' : Rep K F (.tup ds) v := h; simp only [Rep] at h'; obtain ⟨a, vs, rfl, _⟩ := h'; rfl
  | rol ds => have h' : Rep K F (.rol ds) v := h; simp only [Rep] at h'; obtain ⟨a, vs, rfl, _⟩ := h'; rfl
  | ins C ns ds => have h' : Rep K F (.ins C ns ds) v := h; simp only [Rep] at h'; obtain ⟨a, dx, vs, rfl, _⟩ := h'; rfl
  | lst ds => obtain ⟨a, vs, rfl, _⟩ := h; rfl
  | dct ks ds => obtain ⟨a, vs, rfl, _⟩ := h; rfl
def hIsN (neg : Bool) : D → D → Option R
  | d, .non => some (.val (.bl (if neg then !isNon d else isNon d)))
  | _, _ => none
theorem ov_isN : OpV K (fun x y H Q => y = .non ∧ Q (.bl (decide (x = .non))) H) (hIsN false) := fun F H d1 d2 v1 v2 ro Q s a b e q => by
  cases d2 <;> simp [hIsN] at e
  subst e
  exact ⟨b, by rw [vw_non a]; exact q.flat s rfl⟩
theorem ov_notN : OpV K (fun x y H Q => y = .non ∧ Q (.bl (!decide (x = .non))) H) (hIsN true) := fun F H d1 d2 v1 v2 ro Q s a b e q => by
  cases d2 <;> simp [hIsN] at e
  subst e
  exact ⟨b, by rw [vw_non a]; exact q.flat s rfl⟩
def hIsB (neg : Bool) : D → D → Option R
  | .bl a, .bl b => some (.val (.bl (if neg then !decide (a = b) else decide (a = b))))
  | _, _ => none
theorem ov_isB : OpV K rIsB (hIsB false) := fun F H d1 d2 v1 v2 ro Q s a b e q => by
  cases d1 <;> cases d2 <;> simp [hIsB] at e
  subst e
  exact ⟨_, _, a, b, q.flat s (by simp [Rep])⟩
theorem ov_notB : OpV K rNotB (hIsB true) := fun F H d1 d2 v1 v2 ro Q s a b e q => by
  cases d1 <;> cases d2 <;> simp [hIsB] at e
  subst e
  exact ⟨_, _, a, b, q.flat s (by simp [Rep])⟩
/-! ### in -/
def hInL (neg : Bool) : D → D → Option R := fun d e => match d.py, e.py with
  | some p, some (.list qs) => if SeqAt.shaped p = true ∧ SeqAt.shaped (.list qs) = true then some (.val (.bl (if neg then !qs.any fun z => PyData.eqv z p else qs.any fun z => PyData.eqv z p))) else none
  | _, _ => none
theorem ov_inL : OpV K (rInD K) (hInL false) := fun F H d1 d2 v1 v2 ro Q s a b e q => by
  unfold hInL at e
  split at e
  · rename_i p qs h1 h2
    split at e
    · rename_i hs
      cases e
      exact ⟨p, qs, vw_dp s a h1 (SeqAt.canLay_of_shaped hs.1), vw_dp s b h2 (SeqAt.canLay_of_shaped hs.2), hs.1, hs.2, q.flat s rfl⟩
    · cases e
  · cases e
theorem ov_notInL : OpV K (rNotInD K) (hInL true) := fun F H d1 d2 v1 v2 ro Q s a b e q => by
  unfold hInL at e
  split at e
  · rename_i p qs h1 h2
    split at e
    · rename_i hs
      cases e
      exact ⟨p, qs, vw_dp s a h1 (SeqAt.canLay_of_shaped hs.1), vw_dp s b h2 (SeqAt.canLay_of_shaped hs.2), hs.1, hs.2, q.flat s rfl⟩
    · cases e
  · cases e
end
/-! ### the operators -/
def hAdd : D → D → Option R := hOr (hOr (hOr (hI (fun _ _ => true) fun i j => .int (i + j)) hCatS) hCatL) hCatT
def hSub : D → D → Option R := hI (fun _ _ => true) fun i j => .int (i - j)
def hMul : D → D → Option R := hOr (hOr (hI cMul fun i j => .int (i * j)) hRepL) hRepT
def hDiv : D → D → Option R := hI cDiv fun i j => .int (i / j)
def hMod : D → D → Option R := hI cMod fun i j => .int (i % j)
def hPow : D → D → Option R := hI cPow fun i j => .int (i ^ j.toNat)
def hCmp (p : Int → Int → Bool) : D → D → Option R := hI (fun _ _ => true) fun i j => .bl (p i j)
def hIs (neg : Bool) : D → D → Option R := hOr (hIsN neg) (hIsB neg)
section
variable {X : Cx} {pv : Nat → Option V} {W : WX} {f g : M R} {a b : Expr} {pos : Pos}
theorem de_add (ha : PE X a (tD X.K X.mg pv W f)) (hb : PE X b (tD X.K X.mg pv W g)) : PE X (.BinOp a .Add b pos) (tD X.K X.mg pv W (op2 hAdd f g)) :=
  de_op (((op_add.or op_add_str).or op_cat).or op_catA) ((((ov_int0 (g := fun i j => .int (i + j)) (gv := fun i j => .int (i + j)) fun _ _ _ => rfl).or ov_catS).or ov_catL).or ov_catT) ha hb
theorem de_sub (ha : PE X a (tD X.K X.mg pv W f)) (hb : PE X b (tD X.K X.mg pv W g)) : PE X (.BinOp a .Sub b pos) (tD X.K X.mg pv W (op2 hSub f g)) := de_op op_sub (ov_int0 fun _ _ _ => rfl) ha hb
theorem de_mul (ha : PE X a (tD X.K X.mg pv W f)) (hb : PE X b (tD X.K X.mg pv W g)) : PE X (.BinOp a .Mult b pos) (tD X.K X.mg pv W (op2 hMul f g)) :=
  de_op ((op_mul.or op_rep).or op_repT) (((ov_int (g := fun i j => .int (i * j)) (gv := fun i j => .int (i * j)) cMul_ok fun _ _ _ => rfl).or ov_repL).or ov_repT) ha hb
theorem de_div (ha : PE X a (tD X.K X.mg pv W f)) (hb : PE X b (tD X.K X.mg pv W g)) : PE X (.BinOp a .FloorDiv b pos) (tD X.K X.mg pv W (op2 hDiv f g)) := de_op op_fdivW (ov_int cDiv_ok fun _ _ _ => rfl) ha hb
theorem de_mod (ha : PE X a (tD X.K X.mg pv W f)) (hb : PE X b (tD X.K X.mg pv W g)) : PE X (.BinOp a .Mod b pos) (tD X.K X.mg pv W (op2 hMod f g)) := de_op op_mod (ov_int cMod_ok fun _ _ _ => rfl) ha hb
theorem de_pow (ha : PE X a (tD X.K X.mg pv W f)) (hb : PE X b (tD X.K X.mg pv W g)) : PE X (.BinOp a .Pow b pos) (tD X.K X.mg pv W (op2 hPow f g)) := de_op op_pow (ov_int cPow_ok fun _ _ _ => rfl) ha hb
/-- a comparison's rule -/
structure CmpR (X : Cx) (op : CmpOp) (h : D → D → Option R) : Prop where
  ex : ∃ r, OpR X (compareOp op) r ∧ OpV X.K r h
theorem cr_lt : CmpR X .Lt (hCmp fun i j => decide (i < j)) := ⟨_, op_lt, ov_int0 fun _ _ _ => rfl⟩
theorem cr_le : CmpR X .LtE (hCmp fun i j => decide (i ≤ j)) := ⟨_, op_le, ov_int0 fun _ _ _ => rfl⟩
theorem cr_gt : CmpR X .Gt (hCmp fun i j => decide (j < i)) := ⟨_, op_gt, ov_int0 fun _ _ _ => rfl⟩
theorem cr_ge : CmpR X .GtE (hCmp fun i j => decide (j ≤ i)) := ⟨_, op_ge, ov_int0 fun _ _ _ => rfl⟩
theorem cr_eq {k : Nat} (hr : Room k X.A) : CmpR X .Eq (hEq false) := ⟨_, op_eqD hr.units, ov_eq⟩
theorem cr_ne {k : Nat} (hr : Room k X.A) : CmpR X .NotEq (hEq true) := ⟨_, op_neD hr.units, ov_ne⟩
theorem cr_is : CmpR X .Is (hIs false) := ⟨_, op_isN.or op_isBl, ov_isN.or ov_isB⟩
theorem cr_isnot : CmpR X .IsNot (hIs true) := ⟨_, op_notN.or op_notBl, ov_notN.or ov_notB⟩
theorem de_cmpR {op : CmpOp} {h : D → D → Option R} (c : CmpR X op h) (ha : PE X a (tD X.K X.mg pv W f)) (hb : PE X b (tD X.K X.mg pv W g)) (hm : behindInMarks op b = false := by first | exact nomark _ | rfl) : PE X (.Compare a [op] [b] pos) (tD X.K X.mg pv W (op2 h f g)) :=
  let ⟨_, o, v⟩ := c.ex
  de_cmp o v ha hb hm
theorem dt_cmpR {op : CmpOp} {h : D → D → Option R} (c : CmpR X op h) (ha : PE X a (tD X.K X.mg pv W f)) (hb : PE X b (tD X.K X.mg pv W g)) (hm : behindInMarks op b = false := by first | exact nomark _ | rfl) : PT X (.Compare a [op] [b] pos) (tDT X.K X.mg pv W (tst (op2 h f g))) :=
  let ⟨_, o, v⟩ := c.ex
  dt_cmp o v ha hb hm
end
end DL
end
section
set_option maxRecDepth 100000
set_option maxHeartbeats 4000000
namespace DL
open PySem PySem.Spec PyProof.Rows L2
variable [tb : Tb]
section
variable {K : PySem.W.Frag}
/-! ### in: a tuple, a text -/
def rInT (K : PySem.W.Frag) (neg : Bool) : R2 := fun x y H Q => ∃ d ds, Dp K H x d ∧ Dp K H y (.tuple ds) ∧ SeqAt.shaped d = true ∧ SeqAt.shaped (.tuple ds) = true ∧ Q (.bl (if neg then !ds.any fun z => PyData.eqv z d else ds.any fun z => PyData.eqv z d)) H
theorem room_in2 {A : Around} {d : PyData} {xs : List PyData} (hd : SeqAt.shaped d = true) (hu : A.units + 65 < cLine) : A.units + 1 + min (PyData.depthAll xs) d.depth < cLine := by
  have h1 := SeqAt.depth_of_shaped hd
  have h2 : min (PyData.depthAll xs) d.depth ≤ d.depth := Nat.min_le_right _ _
  omega
theorem op_inT {X : Cx} (hu : X.A.units + 65 < cLine) : OpR X (compareOp .In) (rInT X.K false) := by
  rintro pins s σ H x y v u Q I rx ry ⟨d, ds, hd, he, sd, se, q⟩
  obtain ⟨as, r1⟩ := Dp.reads I d x v hd rx
  obtain ⟨bs, r2⟩ := Dp.reads I (.tuple ds) y u he ry
  exact SeqAt.in_tuple_reads r2 r1 (by have := SeqAt.canLay_of_shaped se; simpa [PyData.canLay0] using this) (SeqAt.canLay_of_shaped sd) (room_in2 sd hu) ⟨.bl _, H, I, rfl, q⟩
theorem op_notInT {X : Cx} (hu : X.A.units + 65 < cLine) : OpR X (compareOp .NotIn) (rInT X.K true) := by
  rintro pins s σ H x y v u Q I rx ry ⟨d, ds, hd, he, sd, se, q⟩
  obtain ⟨as, r1⟩ := Dp.reads I d x v hd rx
  obtain ⟨bs, r2⟩ := Dp.reads I (.tuple ds) y u he ry
  exact SeqAt.notIn_tuple_reads r2 r1 (by have := SeqAt.canLay_of_shaped se; simpa [PyData.canLay0] using this) (SeqAt.canLay_of_shaped sd) (room_in2 sd hu) ⟨.bl _, H, I, rfl, q⟩
def hInT (neg : Bool) : D → D → Option R := fun d e => match d.py, e.py with
  | some p, some (.tuple qs) => if SeqAt.shaped p = true ∧ SeqAt.shaped (.tuple qs) = true then some (.val (.bl (if neg then !qs.any fun z => PyData.eqv z p else qs.any fun z => PyData.eqv z p))) else none
  | _, _ => none
theorem ov_inT (neg : Bool) : OpV K (rInT K neg) (hInT neg) := fun F H d1 d2 v1 v2 ro Q s a b e q => by
  unfold hInT at e
  split at e
  · rename_i p qs h1 h2
    split at e
    · rename_i hs
      cases e
      exact ⟨p, qs, vw_dp s a h1 (SeqAt.canLay_of_shaped hs.1), vw_dp s b h2 (SeqAt.canLay_of_shaped hs.2), hs.1, hs.2, q.flat s rfl⟩
    · cases e
  · cases e
def hInS (neg : Bool) : D → D → Option R
  | .str x, .str z => match x.cps.toList with
    | [c] => some (.val (.bl (if neg then !decide (c ∈ z.cps.toList) else decide (c ∈ z.cps.toList))))
    | _ => none
  | _, _ => none
theorem one_sign {x : Str} {c : Nat} (h : x.cps.toList = [c]) : x = ⟨#[c]⟩ := by
  obtain ⟨a⟩ := x
  have : a = #[c] := by
    apply Array.ext'
    simpa using h
  rw [this]
theorem ov_inS : OpV K (fun x y H Q => ∃ (c : Nat) (z : Str), x = .str ⟨#[c]⟩ ∧ y = .str z ∧ Q (.bl (decide (c ∈ z.cps.toList))) H) (hInS false) := fun F H d1 d2 v1 v2 ro Q s a b e q => by
  cases d1 <;> cases d2 <;> simp [hInS] at e
  rename_i x z
  split at e
  · rename_i c hc
    cases e
    have hx := one_sign hc
    subst hx
    exact ⟨c, z, a, b, q.flat s (by simp [Rep])⟩
  · cases e
theorem ov_notInS : OpV K (fun x y H Q => ∃ (c : Nat) (z : Str), x = .str ⟨#[c]⟩ ∧ y = .str z ∧ Q (.bl (!decide (c ∈ z.cps.toList))) H) (hInS true) := fun F H d1 d2 v1 v2 ro Q s a b e q => by
  cases d1 <;> cases d2 <;> simp [hInS] at e
  rename_i x z
  split at e
  · rename_i c hc
    cases e
    have hx := one_sign hc
    subst hx
    exact ⟨c, z, a, b, q.flat s (by simp [Rep])⟩
  · cases e
def hIn (neg : Bool) : D → D → Option R := hOr (hOr (hInL neg) (hInT neg)) (hInS neg)
theorem cr_in {X : Cx} {k : Nat} (hr : Room k X.A) : CmpR X .In (hIn false) := ⟨_, (op_inD (by have := hr.un; omega)).or (op_inT (by have := hr.un; omega)) |>.or op_in_sign, (ov_inL.or (ov_inT false)).or ov_inS⟩
theorem cr_notin {X : Cx} {k : Nat} (hr : Room k X.A) : CmpR X .NotIn (hIn true) := ⟨_, (op_notInD (by have := hr.un; omega)).or (op_notInT (by have := hr.un; omega)) |>.or op_notIn_sign, (ov_notInL.or (ov_inT true)).or ov_notInS⟩

/-! ### items -/
theorem atI_rel {F : Hp} {ds : List D} {vs : List V} {i : Int} {d : D} (h : Reps K F ds vs) (e : atI ds i = some d) : ∃ v, atI vs i = some v ∧ Rep K F d v := by
  unfold atI at e ⊢
  rw [h.len]
  obtain ⟨j, h1, h2⟩ := Option.bind_eq_some_iff.mp e
  obtain ⟨v, h3, h4⟩ := h.get h2
  exact ⟨v, by rw [h1]; exact h3, h4⟩
def hIx : D → D → Option R
  | .lst ds, .int i => (atI ds i).map .val
  | .tup ds, .int i => (atI ds i).map .val
  | .str z, .int i => if z.length ≤ sizeLine then (atI z.cps.toList i).map fun c => .val (.str ⟨#[c]⟩) else none
  | _, _ => none
theorem ov_ix : OpV K (rIx K) hIx := fun F H d1 d2 v1 v2 ro Q s a b e q => by
  cases d1 <;> cases d2 <;> simp [hIx] at e
  · rename_i z i
    obtain ⟨hz, c, hc, rfl⟩ := e
    exact .inr (.inr ⟨z, i, c, a, b, hz, hc, q.flat s rfl⟩)
  · rename_i ds i
    obtain ⟨d, hd, rfl⟩ := e
    obtain ⟨l, xs, rfl, f1, h1, r1⟩ := vw_tup s a
    obtain ⟨v, h2, h3⟩ := atI_rel r1 hd
    exact .inr (.inl ⟨l, xs, i, v, rfl, b, h1, h2, q.flat s h3⟩)
  · rename_i ds i
    obtain ⟨d, hd, rfl⟩ := e
    obtain ⟨l, xs, rfl, h1, r1⟩ := a
    obtain ⟨v, h2, h3⟩ := atI_rel r1 hd
    exact .inl ⟨l, xs, i, v, rfl, b, .of h1, h2, q.flat s h3⟩
/-! ### slices -/
def cut' {α : Type} (xs : List α) (lo hi : Option Int) : List α := (xs.drop (HT.sIx xs.length 0 lo)).take (HT.sIx xs.length xs.length hi - HT.sIx xs.length 0 lo)
theorem Reps.cut {F : Hp} {ds : List D} {vs : List V} (h : Reps K F ds vs) (lo hi : Option Int) : Reps K F (cut' ds lo hi) (cutV vs lo hi) := by
  unfold cut' cutV
  rw [h.len]
  exact (h.drop _).take _
theorem cut_whole {α : Type} {xs : List α} {lo hi : Option Int} (h : HT.sIx xs.length 0 lo = 0 ∧ HT.sIx xs.length xs.length hi = xs.length) : cut' xs lo hi = xs := by
  unfold cut'
  rw [h.1, h.2]
  simp
def hSl : D → Option Int → Option Int → Option R
  | .lst ds, lo, hi => some (.own (.lst (cut' ds lo hi)))
  | .rol ds, lo, hi => some (.own (.lst (cut' ds lo hi)))
  | .tup ds, lo, hi => some (.val (.tup (cut' ds lo hi)))
  | .str z, lo, hi => if z.length ≤ sizeLine then some (.val (.str (cutS z lo hi))) else none
  | _, _, _ => none
abbrev rSlAll (K : PySem.W.Frag) : V → Option Int → Option Int → Hp → VK → Prop := fun x lo hi H Q => (fun x lo hi H Q => rSlL K x lo hi H Q ∨ rSlA K x lo hi H Q) x lo hi H Q ∨ rSlS x lo hi H Q
theorem sv_all {F H : Hp} {d : D} {v : V} {lo hi : Option Int} {ro : R} {Q : VK} (s : Same F H) (a : Vw K F H d v) (e : hSl d lo hi = some ro) (q : VOk K F H ro Q) : rSlAll K v lo hi H Q := by
  cases d <;> simp [hSl] at e
  · rename_i z
    obtain ⟨hz, rfl⟩ := e
    exact .inr ⟨z, a, hz, q.flat s rfl⟩
  · rename_i ds
    subst e
    obtain ⟨l, xs, rfl, f1, h1, r1⟩ := vw_tup s a
    refine .inl (.inr ⟨l, xs, rfl, h1, fun hw => ?_, fun _ p n => q.tup s (r1.cut lo hi) n⟩)
    rw [r1.len] at hw
    refine q.flat s ?_
    rw [cut_whole hw]
    simp only [Rep]
    exact ⟨l, xs, rfl, f1, r1⟩
  · rename_i ds
    subst e
    obtain ⟨l, xs, rfl, h1, r1⟩ := a
    exact .inl (.inl ⟨l, xs, rfl, .of h1, fun p n => q.lst s (r1.cut lo hi) n⟩)
  · rename_i ds
    subst e
    have a' : Rep K F (.rol ds) v := a
    simp only [Rep] at a'
    obtain ⟨l, xs, rfl, h1, r1⟩ := a'
    exact .inl (.inl ⟨l, xs, rfl, s.seq h1, fun p n => q.lst s (r1.cut lo hi) n⟩)
end
/-- a part of a slice -/
def dPart (f : M R) : M (Option Int) := fun env => (f env).bind fun r e => match resolve e r with
  | some (.int i) => .ok (some i) e
  | _ => .bad
def dNoPart : M (Option Int) := fun env => .ok none env
def dSl (f : M R) (lo hi : M (Option Int)) : M R := fun env => (f env).bind fun r e => (lo e).bind fun l e1 => (hi e1).bind fun h e2 => match resolve e2 r with
  | some d => (match hSl d l h with
    | some ro => .ok ro e2
    | none => .bad)
  | none => .bad
def tDO (K : PySem.W.Frag) (mg : Str → Option Value) (pv : Nat → Option V) (W : WX) (f : M (Option Int)) : TO := fun σ H Q => ∃ env F A, WS K pv env σ F H A ∧
  match f env with
  | .bad => False
  | .ok b env' => ∀ F' H' A', Step F H (UA A) F' H' (UA A') → WS K pv env' σ F' H' A' → Q b H'
  | .exc c env' => ∀ F' H' A', Step F H (UA A) F' H' (UA A') → WS K pv env' σ F' H' A' → exW mg W c σ H'
section
variable {X : Cx} {pv : Nat → Option V} {W : WX} {f g : M R} {lo hi : M (Option Int)} {a b : Expr} {le he : Option Expr} {pos p2 : Pos}
theorem PO.imp {e : Option Expr} {t t' : TO} (h : PO X e t) (i : ∀ σ H Q, t' σ H Q → t σ H Q) : PO X e t' := ⟨fun pins s σ H Q I q => h.run pins s σ H Q I (i σ H Q q)⟩
theorem do_none : PO X none (tDO X.K X.mg pv W dNoPart) := PO.imp po_none fun σ H Q q => by
  obtain ⟨env, F, A, ws, q⟩ := q
  exact q F H A Step.refl ws
theorem do_some (h : PE X a (tD X.K X.mg pv W f)) : PO X (some a) (tDO X.K X.mg pv W (dPart f)) := PO.imp (po_some h) fun σ H Q q => by
  obtain ⟨env, F, A, ws, q⟩ := q
  simp only [dPart] at q
  refine tD_bind ws (fun e => ?_) (fun c e1 e F1 H1 A1 s1 w1 => ?_) (fun r1 e1 e v1 F1 H1 A1 B1 s1 rs1 => ?_)
  · rw [e] at q; exact q
  · rw [e] at q; exact q F1 H1 A1 s1 w1
  · rw [e] at q
    simp only [Res.bind] at q
    cases hr : resolve e1 r1 with
    | none => simp only [hr] at q
    | some d =>
      cases d with
      | int i =>
        simp only [hr] at q
        exact ⟨i, rs1.rr.view rs1.ws hr, q F1 H1 A1 (step_drop s1) rs1.ws⟩
      | _ => simp only [hr] at q
theorem tDO_after {K : PySem.W.Frag} {mg : Str → Option Value} {σ : L2.St} {F0 H0 F1 H1 : Hp} {A0 A1 : Nat → List Addr} {e : DEnv} {Q : Option Int → Hp → Prop} (s : Step F0 H0 (UA A0) F1 H1 (UA A1)) (w : WS K pv e σ F1 H1 A1)
    (hb : lo e ≠ .bad) (hx : ∀ c e', lo e = .exc c e' → ∀ F' H' A', Step F0 H0 (UA A0) F' H' (UA A') → WS K pv e' σ F' H' A' → exW mg W c σ H')
    (hk : ∀ b e', lo e = .ok b e' → ∀ F' H' A', Step F1 H1 (UA A1) F' H' (UA A') → WS K pv e' σ F' H' A' → Q b H') : tDO K mg pv W lo σ H1 Q := by
  refine ⟨e, F1, A1, w, ?_⟩
  cases h : lo e with
  | bad => exact hb h
  | ok b e' => exact hk b e' h
  | exc c e' => exact fun F' H' A' s' w' => hx c e' h F' H' A' (s.trans s') w'
theorem de_sl (ha : PE X a (tD X.K X.mg pv W f)) (hl : PO X le (tDO X.K X.mg pv W lo)) (hh : PO X he (tDO X.K X.mg pv W hi)) : PE X (.Subscript a (.Slice le he none p2) pos) (tD X.K X.mg pv W (dSl f lo hi)) :=
  (pe_slice ((sl_list.or sl_tupA).or sl_str) ha hl hh).imp fun σ H Q q => by
    obtain ⟨env, F, A, ws, q⟩ := q
    simp only [dSl] at q
    refine tD_bind ws (fun e => ?_) (fun c e1 e F1 H1 A1 s1 w1 => ?_) (fun r1 e1 e v1 F1 H1 A1 B1 s1 rs1 => ?_)
    · rw [e] at q; exact q
    · rw [e] at q; exact q F1 H1 A1 s1 w1
    · rw [e] at q
      simp only [Res.bind] at q
      refine tDO_after (step_drop s1) rs1.ws (fun z => ?_) (fun c e2 z => ?_) fun l e2 z F2 H2 A2 s2 w2 => ?_
      · rw [z] at q; exact q
      · rw [z] at q; exact q
      rw [z] at q
      simp only at q
      refine tDO_after ((step_drop s1).trans s2) w2 (fun z => ?_) (fun c e3 z => ?_) fun h e3 z F3 H3 A3 s3 w3 => ?_
      · rw [z] at q; exact q
      · rw [z] at q; exact q
      rw [z] at q
      simp only at q
      obtain ⟨k1, k2, k3⟩ := rs1.wait (s2.trans s3) w3
      cases hd : resolve e3 r1 with
      | none => simp only [hd] at q
      | some d =>
        cases hs : hSl d l h with
        | none => simp only [hd, hs] at q
        | some ro =>
          simp only [hd, hs] at q
          refine sv_all w3.sub (k1.view w3 hd) hs fun v F4 H4 B4 n s rv => ?_
          obtain ⟨z1, z2⟩ := fin_op (s1.trans ((s2.trans s3).frame fun a => a ∈ B1)) (fun a ha => .inl ha) w3 n s rv
          exact q v F4 H4 A3 B4 z1 z2
theorem de_ix (ha : PE X a (tD X.K X.mg pv W f)) (hb : PE X b (tD X.K X.mg pv W g)) (hs : PlainIx b := by exact fun _ _ => rfl) : PE X (.Subscript a b pos) (tD X.K X.mg pv W (op2 hIx f g)) :=
  (pe_ix ix_seq ha hb hs).imp fun _ _ _ q => op2_rd ov_ix q
end

/-! ### calls by values -/
def resolves (env : DEnv) : List R → Option (List D)
  | [] => some []
  | r :: rs => match resolve env r, resolves env rs with
    | some d, some ds => some (d :: ds)
    | _, _ => none
def Vws (K : PySem.W.Frag) (F H : Hp) : List D → List V → Prop
  | [], vs => vs = []
  | d :: ds, vs => ∃ v r, vs = v :: r ∧ Vw K F H d v ∧ Vws K F H ds r
theorem RReps.views {K : PySem.W.Frag} {pv : Nat → Option V} {env : DEnv} {σ : L2.St} {F H : Hp} {A : Nat → List Addr} (w : WS K pv env σ F H A) : ∀ {rs : List R} {vs : List V} {B : List Addr} {ds : List D}, RReps K env σ F H rs vs B → resolves env rs = some ds → Vws K F H ds vs
  | [], _, _, _, h, e => by simp only [resolves] at e; cases e; exact h.1
  | r :: rs, _, _, _, h, e => by
    simp only [resolves] at e
    split at e
    · rename_i d ds h1 h2
      cases e
      obtain ⟨v, t, B1, B2, rfl, rfl, r1, r2⟩ := h
      exact ⟨v, t, rfl, r1.view w h1, RReps.views w r2 h2⟩
    · cases e
def CallV (K : PySem.W.Frag) (r : List V → Hp → VK → Prop) (h : List D → Option R) : Prop := ∀ (F H : Hp) (ds : List D) (vs : List V) (ro : R) (Q : VK), Same F H → Vws K F H ds vs → h ds = some ro → VOk K F H ro Q → r vs H Q
def finB (h : List D → Option R) (rs : List R) (env : DEnv) : Res R := match resolves env rs with
  | some ds => (match h ds with
    | some ro => .ok ro env
    | none => .bad)
  | none => .bad
def dB (h : List D → Option R) (fs : M (List R)) : M R := fun env => (fs env).bind (finB h)
theorem dB_rd {K : PySem.W.Frag} {mg : Str → Option Value} {pv : Nat → Option V} {W : WX} {h : List D → Option R} {r : List V → Hp → VK → Prop} {fs : M (List R)} {σ : L2.St} {H : Hp} {Q : VK} (hv : CallV K r h) (q : tD K mg pv W (dB h fs) σ H Q) : tCB r (tDA K mg pv W fs) σ H Q := by
  obtain ⟨env, F, A, ws, q⟩ := q
  simp only [dB] at q
  refine tDA_bind ws (fun e => ?_) (fun c e1 e F1 H1 A1 s1 w1 => ?_) (fun r1 e1 e v1 F1 H1 A1 B1 s1 rs1 => ?_)
  · rw [e] at q; exact q
  · rw [e] at q; exact q F1 H1 A1 s1 w1
  · rw [e] at q
    simp only [Res.bind, finB] at q
    cases hd : resolves e1 r1 with
    | none => simp only [hd] at q
    | some ds =>
      cases hs : h ds with
      | none => simp only [hd, hs] at q
      | some ro =>
        simp only [hd, hs] at q
        refine hv F1 H1 ds v1 ro Q rs1.ws.sub (rs1.rr.views rs1.ws hd) hs fun v F4 H4 B4 n s rv => ?_
        obtain ⟨z1, z2⟩ := fin_op s1 (fun a ha => .inl ha) rs1.ws n s rv
        exact q v F4 H4 A1 B4 z1 z2
/-- a built-in function's rule, by data -/
structure BltR (X : Cx) (id : String) (h : List D → Option R) : Prop where
  ex : ∃ r, CallR X (.builtin id) r ∧ CallV X.K r h
structure TypR (X : Cx) (T : String) (h : List D → Option R) : Prop where
  ex : ∃ r, CallR X (.type T) r ∧ CallV X.K r h
section
variable {X : Cx} {pv : Nat → Option V} {W : WX} {fs : M (List R)} {x : Str} {p pos : Pos} {e : Expr} {es : List Expr} {id T : String} {h : List D → Option R}
theorem de_blt (b : BltR X id h) (hg : Gl X x) (hm : X.mg x = none) (hv : bootBuiltins x = some (.builtin id)) (ha : PA X (e :: es) (tDA X.K X.mg pv W fs)) (hn : x ≠ "__name__" := by decide) (hdb : (x == ("__debug__" : Str)) = false := by decide)
    (he : starEach (e :: es) X.env = (false, eval e X.env) :: starEach es X.env := by rfl) (hpl : (backTo pos (starEach es X.env)).any (·.1) = false := by rfl) : PE X (.Call (.Name x p) (e :: es) [] pos) (tD X.K X.mg pv W (dB h fs)) :=
  let ⟨_, c, v⟩ := b.ex
  (pe_callB c hg hm hv ha hn hdb he hpl).imp fun _ _ _ q => dB_rd v q
theorem de_typ (b : TypR X T h) (hg : Gl X x) (hm : X.mg x = none) (hv : bootBuiltins x = some (.type T)) (ha : PA X (e :: es) (tDA X.K X.mg pv W fs)) (hn : x ≠ "__name__" := by decide) (hdb : (x == ("__debug__" : Str)) = false := by decide)
    (he : starEach (e :: es) X.env = (false, eval e X.env) :: starEach es X.env := by rfl) (hpl : (backTo pos (starEach es X.env)).any (·.1) = false := by rfl) : PE X (.Call (.Name x p) (e :: es) [] pos) (tD X.K X.mg pv W (dB h fs)) :=
  let ⟨_, c, v⟩ := b.ex
  (pe_callTy c hg hm hv ha hn hdb he hpl).imp fun _ _ _ q => dB_rd v q
end
/-- a built-in method that changes nothing -/
def tyD (T : String) : D → Bool
  | .str _ => T == "str"
  | .int _ => T == "int"
  | .lst _ => T == "list"
  | .dct _ _ => T == "dict"
  | _ => false
theorem tyD_ok {K : PySem.W.Frag} {T : String} {F H : Hp} {d : D} {v : V} (h : Vw K F H d v) (e : tyD T d = true) : tyV K T v H := by
  cases d <;> simp [tyD] at e
  · rename_i i
    have hv : v = .int i := h
    subst hv; exact e
  · rename_i x
    have hv : v = .str x := h
    subst hv; exact e
  · obtain ⟨a, vs, rfl, h1, _⟩ := h; exact .inl ⟨e, vs, .of h1⟩
  · obtain ⟨a, vs, rfl, h1, _⟩ := h; exact .inr (.inr (.inl ⟨e, .inl ⟨_, h1⟩⟩))
def MtV (K : PySem.W.Frag) (r : V → List V → Hp → VK → Prop) (h : D → List D → Option R) : Prop := ∀ (F H : Hp) (d : D) (ds : List D) (v : V) (vs : List V) (ro : R) (Q : VK), Same F H → Vw K F H d v → Vws K F H ds vs → h d ds = some ro → VOk K F H ro Q → r v vs H Q
def dM (T : String) (h : D → List D → Option R) (f : M R) (fs : M (List R)) : M R := fun env => (f env).bind fun r e => match resolve e r with
  | some d => if tyD T d = true then (fs e).bind fun rs e1 => (match resolve e1 r, resolves e1 rs with
    | some d1, some ds => (match h d1 ds with
      | some ro => .ok ro e1
      | none => .bad)
    | _, _ => .bad) else .bad
  | none => .bad
theorem dM_rd {K : PySem.W.Frag} {mg : Str → Option Value} {pv : Nat → Option V} {W : WX} {T : String} {h : D → List D → Option R} {r : V → List V → Hp → VK → Prop} {f : M R} {fs : M (List R)} {σ : L2.St} {H : Hp} {Q : VK} (hv : MtV K r h) (q : tD K mg pv W (dM T h f fs) σ H Q) :
    tBM K T r (tD K mg pv W f) (tDA K mg pv W fs) σ H Q := by
  obtain ⟨env, F, A, ws, q⟩ := q
  simp only [dM] at q
  refine tD_bind ws (fun e => ?_) (fun c e1 e F1 H1 A1 s1 w1 => ?_) (fun r1 e1 e v1 F1 H1 A1 B1 s1 rs1 => ?_)
  · rw [e] at q; exact q
  · rw [e] at q; exact q F1 H1 A1 s1 w1
  · rw [e] at q
    simp only [Res.bind] at q
    cases hr : resolve e1 r1 with
    | none => simp only [hr] at q
    | some d0 =>
      simp only [hr] at q
      by_cases ht : tyD T d0 = true
      · simp only [ht, if_true] at q
        refine ⟨tyD_ok (rs1.rr.view rs1.ws hr) ht, ?_⟩
        refine tDA_bind rs1.ws (fun e => ?_) (fun c e2 e F2 H2 A2 s2 w2 => ?_) (fun r2 e2 e v2 F2 H2 A2 B2 s2 rs2 => ?_)
        · rw [e] at q; exact q
        · rw [e] at q
          exact q F2 H2 A2 (s1.trans ((s2.frame (fun a => a ∈ B1)).less fun x hx => .inl hx)) w2
        · rw [e] at q
          simp only at q
          obtain ⟨k1, k2, k3⟩ := rs1.wait s2 rs2.ws
          cases hd : resolve e2 r1 with
          | none => simp only [hd] at q
          | some d1 =>
            cases hds : resolves e2 r2 with
            | none => simp only [hd, hds] at q
            | some ds =>
              cases hs : h d1 ds with
              | none => simp only [hd, hds, hs] at q
              | some ro =>
                simp only [hd, hds, hs] at q
                refine hv F2 H2 d1 ds v1 v2 ro Q rs2.ws.sub (k1.view rs2.ws hd) (rs2.rr.views rs2.ws hds) hs fun v F3 H3 B3 n s rv => ?_
                obtain ⟨z1, z2⟩ := fin_op (s1.trans (s2.frame (fun a => a ∈ B1))) (fun a ha => .inl (.inl ha)) rs2.ws n s rv
                exact q v F3 H3 A2 B3 z1 z2
      · simp only [ht] at q
        exact q.elim
end DL
end
section
set_option maxRecDepth 100000
set_option maxHeartbeats 4000000
namespace DL
open PySem PySem.Spec PyProof.Rows L2
variable [tb : Tb]
section
variable {K : PySem.W.Frag} {F H : Hp}
theorem Vws.one {d : D} {vs : List V} (h : Vws K F H [d] vs) : ∃ v, vs = [v] ∧ Vw K F H d v := by
  obtain ⟨v, r, rfl, h1, h2⟩ := h
  simp only [Vws] at h2
  subst h2
  exact ⟨v, rfl, h1⟩
theorem Vws.two {d e : D} {vs : List V} (h : Vws K F H [d, e] vs) : ∃ v u, vs = [v, u] ∧ Vw K F H d v ∧ Vw K F H e u := by
  obtain ⟨v, r, rfl, h1, h2⟩ := h
  obtain ⟨u, rfl, h3⟩ := Vws.one h2
  exact ⟨v, u, rfl, h1, h3⟩
/-! ### len -/
def hLen : List D → Option R
  | [.str y] => if y.length ≤ sizeLine then some (.val (.int y.length)) else none
  | [.lst ds] => some (.val (.int ds.length))
  | [.tup ds] => some (.val (.int ds.length))
  | _ => none
theorem blt_len {X : Cx} : BltR X "len" hLen := ⟨_, call_len, fun F H ds vs ro Q s a e q => by
  cases ds with
  | nil => simp [hLen] at e
  | cons d r =>
    cases r with
    | cons _ _ => cases d <;> simp [hLen] at e
    | nil =>
      obtain ⟨v, rfl, hv⟩ := Vws.one a
      cases d <;> simp [hLen] at e
      · rename_i y
        obtain ⟨h1, rfl⟩ := e
        have hv : v = .str y := hv
        subst hv
        exact ⟨_, _, rfl, ⟨h1, rfl⟩, q.flat s rfl⟩
      · rename_i ds
        subst e
        obtain ⟨l, xs, rfl, f1, h1, r1⟩ := vw_tup s hv
        exact ⟨_, _, rfl, .inr ⟨xs, h1, rfl⟩, q.flat s (by rw [r1.len]; rfl)⟩
      · rename_i ds
        subst e
        obtain ⟨l, xs, rfl, h1, r1⟩ := hv
        exact ⟨_, _, rfl, .inl ⟨xs, .of h1, rfl⟩, q.flat s (by rw [r1.len]; rfl)⟩⟩
/-! ### isinstance against a built-in type -/
def tyName : D → Option String
  | .non => some "NoneType"
  | .bl _ => some "bool"
  | .int _ => some "int"
  | .str _ => some "str"
  | .tup _ => some "tuple"
  | .lst _ => some "list"
  | .dct _ _ => some "dict"
  | _ => none
theorem vw_ty {d : D} {v : V} {T : String} (s : Same F H) (h : Vw K F H d v) (e : tyName d = some T) : TyX K H v (.type T) := by
  cases d <;> simp [tyName] at e <;> subst e
  · have hv : v = .non := h; subst hv; exact .base .non
  · have hv : v = .bl _ := h; subst hv; exact .base (.bl _)
  · have hv : v = .int _ := h; subst hv; exact .base (.int _)
  · have hv : v = .str _ := h; subst hv; exact .base (.str _)
  · obtain ⟨l, xs, rfl, f1, h1, r1⟩ := vw_tup s h
    rcases h1 with (h1 | ⟨o, h1⟩) | ⟨o, its, n, h1, h2, _⟩
    · exact .base (.tup h1)
    · exact .fTuple h1
    · exact .kTuple h1 h2
  · obtain ⟨l, xs, rfl, h1, r1⟩ := h
    exact .base (.lst h1)
  · obtain ⟨l, xs, rfl, h1, r1⟩ := h
    exact .base (.dK h1)
/-- T is one of int, bool, str, tuple, list, dict -/
def isTy : String → String → Option Bool
  | "NoneType", "int" => some false | "NoneType", "bool" => some false | "NoneType", "str" => some false | "NoneType", "tuple" => some false | "NoneType", "list" => some false | "NoneType", "dict" => some false
  | "bool", "int" => some true | "bool", "bool" => some true | "bool", "str" => some false | "bool", "tuple" => some false | "bool", "list" => some false | "bool", "dict" => some false
  | "int", "int" => some true | "int", "bool" => some false | "int", "str" => some false | "int", "tuple" => some false | "int", "list" => some false | "int", "dict" => some false
  | "str", "int" => some false | "str", "bool" => some false | "str", "str" => some true | "str", "tuple" => some false | "str", "list" => some false | "str", "dict" => some false
  | "tuple", "int" => some false | "tuple", "bool" => some false | "tuple", "str" => some false | "tuple", "tuple" => some true | "tuple", "list" => some false | "tuple", "dict" => some false
  | "list", "int" => some false | "list", "bool" => some false | "list", "str" => some false | "list", "tuple" => some false | "list", "list" => some true | "list", "dict" => some false
  | "dict", "int" => some false | "dict", "bool" => some false | "dict", "str" => some false | "dict", "tuple" => some false | "dict", "list" => some false | "dict", "dict" => some true
  | _, _ => none
theorem isTy_ok {a b : String} {r : Bool} (h : isTy a b = some r) : PySem.W.kitOne K (.type a) (.type b) = some r := by
  refine kit_ty ?_
  unfold isTy at h
  split at h <;> first | cases h; decide +kernel | cases h
def isTyD (d : D) (T : String) : Option Bool := match d, T with
  | .bl _, "int" => some true | .bl _, "bool" => some true | .int _, "int" => some true | .str _, "str" => some true | .tup _, "tuple" => some true | .lst _, "list" => some true | .dct _ _, "dict" => some true
  | .non, "int" => some false | .non, "bool" => some false | .non, "str" => some false | .non, "tuple" => some false | .non, "list" => some false | .non, "dict" => some false
  | .bl _, "str" => some false | .bl _, "tuple" => some false | .bl _, "list" => some false | .bl _, "dict" => some false
  | .int _, "bool" => some false | .int _, "str" => some false | .int _, "tuple" => some false | .int _, "list" => some false | .int _, "dict" => some false
  | .str _, "int" => some false | .str _, "bool" => some false | .str _, "tuple" => some false | .str _, "list" => some false | .str _, "dict" => some false
  | .tup _, "int" => some false | .tup _, "bool" => some false | .tup _, "str" => some false | .tup _, "list" => some false | .tup _, "dict" => some false
  | .lst _, "int" => some false | .lst _, "bool" => some false | .lst _, "str" => some false | .lst _, "tuple" => some false | .lst _, "dict" => some false
  | .dct _ _, "int" => some false | .dct _ _, "bool" => some false | .dct _ _, "str" => some false | .dct _ _, "tuple" => some false | .dct _ _, "list" => some false
  | _, _ => none
theorem isTyD_ok {d : D} {T : String} {b : Bool} (h : isTyD d T = some b) : ∃ n, tyName d = some n ∧ isTy n T = some b := by
  unfold isTyD at h
  split at h <;> first | (cases h; exact ⟨_, rfl, rfl⟩) | cases h
def hIsi : List D → Option R
  | [d, .ty T] => (isTyD d T).map fun b => .val (.bl b)
  | _ => none
theorem blt_isi {X : Cx} : BltR X "isinstance" hIsi := ⟨_, call_isi, fun F H ds vs ro Q s a e q => by
  unfold hIsi at e
  split at e
  · rename_i d T
    obtain ⟨b, hb, rfl⟩ := Option.map_eq_some_iff.mp e
    obtain ⟨n, h1, h2⟩ := isTyD_ok hb
    obtain ⟨v, u, rfl, hv, hu⟩ := Vws.two a
    have hu : u = .ty T := hu
    subst hu
    exact ⟨v, .ty T, _, _, b, rfl, .ty T, vw_ty s hv h1, isTy_ok h2, q.flat s rfl⟩
  · cases e⟩
/-- a built-in type as a value -/
theorem de_ty {X : Cx} {pv : Nat → Option V} {W : WX} {x : Str} {T : String} {pos : Pos} (hg : Gl X x) (hm : X.mg x = none) (hv : bootBuiltins x = some (.type T)) (hn : x ≠ "__name__" := by decide) (hd : (x == ("__debug__" : Str)) = false := by decide) :
    PE X (.Name x pos) (tD X.K X.mg pv W (dC (.ty T))) := de_c (pe_bltn hg hm hv (v := .ty T) rfl hn hd) fun _ => rfl
/-! ### lists of ints, of bools -/
def D.ints : List D → Option (List Int)
  | [] => some []
  | .int i :: ds => (D.ints ds).map (i :: ·)
  | _ :: _ => none
def D.bls : List D → Option (List Bool)
  | [] => some []
  | .bl i :: ds => (D.bls ds).map (i :: ·)
  | _ :: _ => none
def D.sts : List D → Option (List Str)
  | [] => some []
  | .str i :: ds => (D.sts ds).map (i :: ·)
  | _ :: _ => none
theorem D.ints_eq : ∀ {ds : List D} {ns : List Int}, D.ints ds = some ns → ds = ns.map D.int
  | [], ns, h => by simp only [D.ints] at h; cases h; rfl
  | d :: ds, ns, h => by
    cases d <;> simp only [D.ints, Option.map_eq_some_iff] at h <;> first | contradiction | skip
    obtain ⟨ms, h1, rfl⟩ := h
    rw [D.ints_eq h1]; rfl
theorem D.bls_eq : ∀ {ds : List D} {ns : List Bool}, D.bls ds = some ns → ds = ns.map D.bl
  | [], ns, h => by simp only [D.bls] at h; cases h; rfl
  | d :: ds, ns, h => by
    cases d <;> simp only [D.bls, Option.map_eq_some_iff] at h <;> first | contradiction | skip
    obtain ⟨ms, h1, rfl⟩ := h
    rw [D.bls_eq h1]; rfl
theorem D.sts_eq : ∀ {ds : List D} {ns : List Str}, D.sts ds = some ns → ds = ns.map D.str
  | [], ns, h => by simp only [D.sts] at h; cases h; rfl
  | d :: ds, ns, h => by
    cases d <;> simp only [D.sts, Option.map_eq_some_iff] at h <;> first | contradiction | skip
    obtain ⟨ms, h1, rfl⟩ := h
    rw [D.sts_eq h1]; rfl
@[simp] theorem D.ints_map (ns : List Int) : D.ints (ns.map D.int) = some ns := by
  induction ns with
  | nil => rfl
  | cons n ns ih => simp [D.ints, ih]
@[simp] theorem D.bls_map (ns : List Bool) : D.bls (ns.map D.bl) = some ns := by
  induction ns with
  | nil => rfl
  | cons n ns ih => simp [D.bls, ih]
@[simp] theorem D.sts_map (ns : List Str) : D.sts (ns.map D.str) = some ns := by
  induction ns with
  | nil => rfl
  | cons n ns ih => simp [D.sts, ih]
theorem Reps.ints : ∀ {ns : List Int} {vs : List V}, Reps K F (ns.map D.int) vs → vs = ns.map V.int
  | [], vs, h => h
  | n :: ns, vs, h => by
    obtain ⟨v, r, rfl, h1, h2⟩ := h
    have h1 : v = .int n := h1
    rw [Reps.ints h2, h1]; rfl
theorem Reps.bls : ∀ {ns : List Bool} {vs : List V}, Reps K F (ns.map D.bl) vs → vs = ns.map V.bl
  | [], vs, h => h
  | n :: ns, vs, h => by
    obtain ⟨v, r, rfl, h1, h2⟩ := h
    have h1 : v = .bl n := h1
    rw [Reps.bls h2, h1]; rfl
theorem Reps.sts : ∀ {ns : List Str} {vs : List V}, Reps K F (ns.map D.str) vs → vs = ns.map V.str
  | [], vs, h => h
  | n :: ns, vs, h => by
    obtain ⟨v, r, rfl, h1, h2⟩ := h
    have h1 : v = .str n := h1
    rw [Reps.sts h2, h1]; rfl
theorem Reps.of_ints : ∀ (ns : List Int), Reps K F (ns.map D.int) (ns.map V.int)
  | [] => rfl
  | n :: ns => ⟨_, _, rfl, rfl, Reps.of_ints ns⟩
theorem Reps.of_sts : ∀ (ns : List Str), Reps K F (ns.map D.str) (ns.map V.str)
  | [] => rfl
  | n :: ns => ⟨_, _, rfl, rfl, Reps.of_sts ns⟩
def maxL : List Int → Int
  | [] => 0
  | [x] => x
  | x :: y :: r => max x (maxL (y :: r))
def minL : List Int → Int
  | [] => 0
  | [x] => x
  | x :: y :: r => min x (minL (y :: r))
theorem maxL_mem : ∀ {ns : List Int}, ns ≠ [] → maxL ns ∈ ns
  | [], h => absurd rfl h
  | [x], _ => by simp [maxL]
  | x :: y :: r, _ => by
    have ih := maxL_mem (ns := y :: r) (by simp)
    simp only [maxL]
    rcases Int.le_total x (maxL (y :: r)) with h | h
    · rw [Int.max_eq_right h]; exact List.mem_cons_of_mem _ ih
    · rw [Int.max_eq_left h]; exact List.mem_cons_self
theorem maxL_ge : ∀ {ns : List Int} {y : Int}, y ∈ ns → y ≤ maxL ns
  | [], _, h => nomatch h
  | [x], y, h => by simp at h; simp [maxL, h]
  | x :: z :: r, y, h => by
    simp only [maxL]
    rcases List.mem_cons.mp h with rfl | h
    · exact Int.le_max_left _ _
    · exact Int.le_trans (maxL_ge h) (Int.le_max_right _ _)
theorem minL_mem : ∀ {ns : List Int}, ns ≠ [] → minL ns ∈ ns
  | [], h => absurd rfl h
  | [x], _ => by simp [minL]
  | x :: y :: r, _ => by
    have ih := minL_mem (ns := y :: r) (by simp)
    simp only [minL]
    rcases Int.le_total x (minL (y :: r)) with h | h
    · rw [Int.min_eq_left h]; exact List.mem_cons_self
    · rw [Int.min_eq_right h]; exact List.mem_cons_of_mem _ ih
theorem minL_le : ∀ {ns : List Int} {y : Int}, y ∈ ns → minL ns ≤ y
  | [], _, h => nomatch h
  | [x], y, h => by simp at h; simp [minL, h]
  | x :: z :: r, y, h => by
    simp only [minL]
    rcases List.mem_cons.mp h with rfl | h
    · exact Int.min_le_left _ _
    · exact Int.le_trans (Int.min_le_right _ _) (minL_le h)
def overInts (g : List Int → Option R) : List D → Option R
  | [.lst ds] => match D.ints ds with
    | some ns => g ns
    | none => none
  | _ => none
theorem overInts_spec {g : List Int → Option R} {ds : List D} {vs : List V} {ro : R} (s : Same F H) (a : Vws K F H ds vs) (e : overInts g ds = some ro) : ∃ a ns, vs = [.ref a] ∧ H a = some (.lst (ns.map V.int)) ∧ g ns = some ro := by
  unfold overInts at e
  split at e
  · rename_i ds
    obtain ⟨v, rfl, l, xs, rfl, h1, r1⟩ := Vws.one a
    split at e
    · rename_i ns hn
      have := D.ints_eq hn
      subst this
      rw [r1.ints] at h1
      exact ⟨l, ns, rfl, h1, e⟩
    · cases e
  · cases e
def hSum : List D → Option R := overInts fun ns => some (.val (.int ns.sum))
theorem blt_sum {X : Cx} (hc : X.calm = true) : BltR X "sum" hSum := ⟨_, cr_sum hc, fun F H ds vs ro Q s a e q => by
  obtain ⟨l, ns, rfl, h1, h2⟩ := overInts_spec s a e
  cases h2
  exact ⟨l, ns, rfl, .of h1, q.flat s rfl⟩⟩
def gMax (ns : List Int) : Option R := if 0 < ns.length then some (.val (.int (maxL ns))) else none
def gMin (ns : List Int) : Option R := if 0 < ns.length then some (.val (.int (minL ns))) else none
def hMax2 : List D → Option R
  | [.int i, .int j] => some (.val (.int (max i j)))
  | _ => none
def hMin2 : List D → Option R
  | [.int i, .int j] => some (.val (.int (min i j)))
  | _ => none
theorem blt_max2 {X : Cx} (hc : X.calm = true) : BltR X "max" hMax2 := ⟨_, call_max2 hc, fun F H ds vs ro Q s a e q => by
  unfold hMax2 at e
  split at e
  · rename_i i j
    cases e
    obtain ⟨v, u, rfl, hv, hu⟩ := Vws.two a
    have hv : v = .int i := hv
    have hu : u = .int j := hu
    subst hv hu
    refine ⟨i, j, rfl, ?_⟩
    have : (if j > i then j else i) = max i j := by omega
    rw [this]
    exact q.flat s rfl
  · cases e⟩
theorem blt_min2 {X : Cx} (hc : X.calm = true) : BltR X "min" hMin2 := ⟨_, call_min2 hc, fun F H ds vs ro Q s a e q => by
  unfold hMin2 at e
  split at e
  · rename_i i j
    cases e
    obtain ⟨v, u, rfl, hv, hu⟩ := Vws.two a
    have hv : v = .int i := hv
    have hu : u = .int j := hu
    subst hv hu
    refine ⟨i, j, rfl, ?_⟩
    have : (if j < i then j else i) = min i j := by omega
    rw [this]
    exact q.flat s rfl
  · cases e⟩
theorem blt_max1 {X : Cx} (hc : X.calm = true) : BltR X "max" (overInts gMax) := ⟨_, cr_max hc, fun F H ds vs ro Q s a e q => by
  obtain ⟨l, ns, rfl, h1, h2⟩ := overInts_spec s a e
  unfold gMax at h2
  split at h2
  · rename_i hl
    cases h2
    refine ⟨l, ns, rfl, .of h1, hl, fun m hm hle => ?_⟩
    have e1 := maxL_ge hm
    have e2 := hle _ (maxL_mem (ns := ns) (by intro z; simp [z] at hl))
    have : m = maxL ns := by omega
    rw [this]
    exact q.flat s rfl
  · cases h2⟩
theorem blt_min1 {X : Cx} (hc : X.calm = true) : BltR X "min" (overInts gMin) := ⟨_, cr_min hc, fun F H ds vs ro Q s a e q => by
  obtain ⟨l, ns, rfl, h1, h2⟩ := overInts_spec s a e
  unfold gMin at h2
  split at h2
  · rename_i hl
    cases h2
    refine ⟨l, ns, rfl, .of h1, hl, fun m hm hle => ?_⟩
    have e1 := minL_le hm
    have e2 := hle _ (minL_mem (ns := ns) (by intro z; simp [z] at hl))
    have : m = minL ns := by omega
    rw [this]
    exact q.flat s rfl
  · cases h2⟩
def overBls (g : List Bool → Option R) : List D → Option R
  | [.lst ds] => match D.bls ds with
    | some ns => g ns
    | none => none
  | _ => none
theorem overBls_spec {g : List Bool → Option R} {ds : List D} {vs : List V} {ro : R} (s : Same F H) (a : Vws K F H ds vs) (e : overBls g ds = some ro) : ∃ a ns, vs = [.ref a] ∧ H a = some (.lst (ns.map V.bl)) ∧ g ns = some ro := by
  unfold overBls at e
  split at e
  · rename_i ds
    obtain ⟨v, rfl, l, xs, rfl, h1, r1⟩ := Vws.one a
    split at e
    · rename_i ns hn
      have := D.bls_eq hn
      subst this
      rw [r1.bls] at h1
      exact ⟨l, ns, rfl, h1, e⟩
    · cases e
  · cases e
def hAll : List D → Option R := overBls fun ns => some (.val (.bl (ns.all id)))
def hAny : List D → Option R := overBls fun ns => some (.val (.bl (ns.any id)))
theorem blt_all {X : Cx} (hc : X.calm = true) : BltR X "all" hAll := ⟨_, cr_all hc, fun F H ds vs ro Q s a e q => by
  obtain ⟨l, ns, rfl, h1, h2⟩ := overBls_spec s a e
  cases h2
  exact ⟨l, ns, rfl, .of h1, q.flat s rfl⟩⟩
theorem blt_any {X : Cx} (hc : X.calm = true) : BltR X "any" hAny := ⟨_, cr_any hc, fun F H ds vs ro Q s a e q => by
  obtain ⟨l, ns, rfl, h1, h2⟩ := overBls_spec s a e
  cases h2
  exact ⟨l, ns, rfl, .of h1, q.flat s rfl⟩⟩
/-! ### types called -/
def hInt : List D → Option R
  | [.int i] => some (.val (.int i))
  | [.bl b] => some (.val (.int (if b then 1 else 0)))
  | _ => none
theorem typ_int {X : Cx} : TypR X "int" hInt := ⟨_, call_int1, fun F H ds vs ro Q s a e q => by
  unfold hInt at e
  split at e
  · rename_i i
    cases e
    obtain ⟨v, rfl, hv⟩ := Vws.one a
    have hv : v = .int i := hv
    subst hv
    exact .inl ⟨i, rfl, q.flat s rfl⟩
  · rename_i i
    cases e
    obtain ⟨v, rfl, hv⟩ := Vws.one a
    have hv : v = .bl i := hv
    subst hv
    exact .inr ⟨i, rfl, q.flat s rfl⟩
  · cases e⟩
def hList : List D → Option R
  | [.lst ds] => some (.own (.lst ds))
  | [.tup ds] => some (.own (.lst ds))
  | _ => none
theorem typ_list {X : Cx} : TypR X "list" hList := ⟨_, call_list_of, fun F H ds vs ro Q s a e q => by
  unfold hList at e
  split at e
  · cases e
    obtain ⟨v, rfl, l, xs, rfl, h1, r1⟩ := Vws.one a
    exact ⟨l, xs, rfl, .inl (.of h1), fun p n => q.lst s r1 n⟩
  · cases e
    obtain ⟨v, rfl, hv⟩ := Vws.one a
    obtain ⟨l, xs, rfl, f1, h1, r1⟩ := vw_tup s hv
    exact ⟨l, xs, rfl, .inr h1, fun p n => q.lst s r1 n⟩
  · cases e⟩
def hTuple : List D → Option R
  | [.lst ds] => some (.val (.tup ds))
  | [.tup ds] => some (.val (.tup ds))
  | _ => none
theorem typ_tuple {X : Cx} : TypR X "tuple" hTuple := ⟨_, call_tuple_of, fun F H ds vs ro Q s a e q => by
  unfold hTuple at e
  split at e
  · cases e
    obtain ⟨v, rfl, l, xs, rfl, h1, r1⟩ := Vws.one a
    exact ⟨l, xs, rfl, .inl ⟨.of h1, fun p n => q.tup s r1 n⟩⟩
  · cases e
    obtain ⟨v, rfl, hv⟩ := Vws.one a
    obtain ⟨l, xs, rfl, f1, h1, r1⟩ := vw_tup s hv
    refine ⟨l, xs, rfl, .inr ⟨h1, q.flat s ?_⟩⟩
    simp only [Rep]
    exact ⟨l, xs, rfl, f1, r1⟩
  · cases e⟩
def hStrI : List D → Option R
  | [.int i] => if i.natAbs.log2 < 1920 then some (.val (.str (toString i))) else none
  | _ => none
theorem typ_str {X : Cx} : TypR X "str" hStrI := ⟨_, call_str_int, fun F H ds vs ro Q s a e q => by
  unfold hStrI at e
  split at e
  · rename_i i
    split at e
    · rename_i hi
      cases e
      obtain ⟨v, rfl, hv⟩ := Vws.one a
      have hv : v = .int i := hv
      subst hv
      exact ⟨i, rfl, hi, q.flat s rfl⟩
    · cases e
  · cases e⟩
/-! ### displays -/
def frzR : R → Option D
  | .val d => some d
  | .own o => o.frz
  | .bor _ => none
def frzRs : List R → Option (List D)
  | [] => some []
  | r :: rs => match frzR r, frzRs rs with
    | some d, some ds => some (d :: ds)
    | _, _ => none
theorem frz_rel {env : DEnv} {σ : L2.St} {G : Hp} (s : Same F G) : ∀ {rs : List R} {vs : List V} {B : List Addr} {ds : List D}, RReps K env σ F H rs vs B → frzRs rs = some ds → (∀ a ∈ B, G a = H a) → Reps K G ds vs
  | [], _, _, _, h, e, _ => by simp only [frzRs] at e; cases e; exact h.1
  | r :: rs, _, _, _, h, e, b => by
    simp only [frzRs] at e
    split at e
    · rename_i d ds h1 h2
      cases e
      obtain ⟨v, t, B1, B2, rfl, rfl, r1, r2⟩ := h
      refine ⟨v, t, rfl, ?_, frz_rel s r2 h2 fun a ha => b a (List.mem_append_right _ ha)⟩
      cases r with
      | val d' => simp only [frzR] at h1; cases h1; exact Rep.same s _ r1.2
      | own o => simp only [frzR] at h1; exact Own.frz s o r1 (fun a ha => b a (List.mem_append_left _ ha)) h1
      | bor i => simp [frzR] at h1
    · cases e
def dTup (fs : M (List R)) : M R := fun env => (fs env).bind fun rs e => match frzRs rs with
  | some ds => if ds.length ≤ sizeLine then .ok (.val (.tup ds)) e else .bad
  | none => .bad
def dLst (fs : M (List R)) : M R := fun env => (fs env).bind fun rs e => match frzRs rs with
  | some ds => if ds.length ≤ sizeLine then .ok (.own (.lst ds)) e else .bad
  | none => .bad
/-- everything that was made on the way is frozen -/
theorem all_frz {mg : Str → Option Value} {pv : Nat → Option V} {env : DEnv} {σ : L2.St} {F0 H0 : Hp} {A A0 : Nat → List Addr} {B : List Addr} {rs : List R} {vs : List V} {ds : List D} (st : Step F0 H0 (UA A0) F H (fun a => UA A a ∨ a ∈ B)) (rss : RSs K pv env σ rs vs F H A B) (e : frzRs rs = some ds) :
    ∃ G, Step F0 H0 (UA A0) G H (UA A) ∧ WS K pv env σ G H A ∧ Reps K G ds vs := by
  have ws := rss.ws
  have sG : Same F (ext F H fun a => a ∈ B) := ext_same ws.sub
  refine ⟨ext F H fun a => a ∈ B, ?_, ?_, frz_rel sG rss.rr e fun a ha => ext_in ha⟩
  · refine st.trans ⟨sG, fun a u e _ _ => e, (fun t => t.frz (ext_tb1 fun a ha => rrs_nd rss.rr a ha)), fun a ha => ?_, fun a ha => ha, fun a ha => .inl (.inl ha)⟩
    by_cases hB : a ∈ B
    · exact .inr (.inr (.inr hB))
    · rw [ext_out hB] at ha; exact .inl ha
  · refine ws.stay sG (ext_sub ws.sub) (fun _ _ _ z => z) (fun b hb => ?_) (fun t => t.frz (ext_tb1 fun a ha => rrs_nd rss.rr a ha))
    rw [ext_out fun hB => rss.dj b hB hb]; exact ws.disU hb
section
variable {X : Cx} {pv : Nat → Option V} {W : WX} {fs : M (List R)} {es : List Expr} {pos : Pos}
theorem de_tup {x1} (h : PA X es (tDA X.K X.mg pv W fs)) : PE X (.Tuple es x1 pos) (tD X.K X.mg pv W (dTup fs)) := (pe_tup h).imp fun σ H Q q => by
  obtain ⟨env, F, A, ws, q⟩ := q
  simp only [dTup] at q
  refine tDA_bind ws (fun e => ?_) (fun c e1 e F1 H1 A1 s1 w1 => ?_) (fun r1 e1 e v1 F1 H1 A1 B1 s1 rs1 => ?_)
  · rw [e] at q; exact q
  · rw [e] at q; exact q F1 H1 A1 s1 w1
  · rw [e] at q
    simp only [Res.bind] at q
    cases hd : frzRs r1 with
    | none => simp only [hd] at q
    | some ds =>
      simp only [hd] at q
      split at q
      · exact q.elim
      · rename_i r' e' hq
        split at hq
        · rename_i hz
          cases hq
          obtain ⟨G, s2, w2, rp⟩ := all_frz (mg := X.mg) s1 rs1 hd
          refine ⟨by rw [rp.len]; exact hz, fun p n => ?_⟩
          refine VOk.tup (fun v F3 H3 B3 nw sm rv => ?_) w2.sub rp n
          obtain ⟨z1, z2⟩ := fin_op s2 (fun a ha => ha) w2 nw sm rv
          exact q v F3 H3 A1 B3 z1 z2
        · cases hq
      · rename_i hq
        split at hq <;> cases hq
theorem de_lst (h : PA X es (tDA X.K X.mg pv W fs)) : PE X (.List es pos) (tD X.K X.mg pv W (dLst fs)) := (pe_lst h).imp fun σ H Q q => by
  obtain ⟨env, F, A, ws, q⟩ := q
  simp only [dLst] at q
  refine tDA_bind ws (fun e => ?_) (fun c e1 e F1 H1 A1 s1 w1 => ?_) (fun r1 e1 e v1 F1 H1 A1 B1 s1 rs1 => ?_)
  · rw [e] at q; exact q
  · rw [e] at q; exact q F1 H1 A1 s1 w1
  · rw [e] at q
    simp only [Res.bind] at q
    cases hd : frzRs r1 with
    | none => simp only [hd] at q
    | some ds =>
      simp only [hd] at q
      split at q
      · exact q.elim
      · rename_i r' e' hq
        split at hq
        · rename_i hz
          cases hq
          obtain ⟨G, s2, w2, rp⟩ := all_frz (mg := X.mg) s1 rs1 hd
          refine ⟨by rw [rp.len]; exact hz, fun p n => ?_⟩
          refine VOk.lst (fun v F3 H3 B3 nw sm rv => ?_) w2.sub rp n
          obtain ⟨z1, z2⟩ := fin_op s2 (fun a ha => ha) w2 nw sm rv
          exact q v F3 H3 A1 B3 z1 z2
        · cases hq
      · rename_i hq
        split at hq <;> cases hq
/-- what is new is frozen, where it is handed on -/
def dFrz (f : M R) : M R := fun env => (f env).bind fun r e => match r with
  | .val d => .ok (.val d) e
  | .own o => (match o.frz with
    | some d => .ok (.val d) e
    | none => .bad)
  | .bor i => (match e[i]?.bind Slot.o with
    | some o => (match o.frz with
      | some d => .ok (.val d) (putO e i (.val d))
      | none => .bad)
    | none => .bad)
end
end
end DL
end
section
set_option maxRecDepth 100000
set_option maxHeartbeats 4000000
namespace DL
open PySem PySem.Spec PyProof.Rows L2
variable [tb : Tb]
/-! ### targets -/
inductive Tgt where
  | nm (i : Nat) | tp (l : List Tgt)
mutual
def asg : Tgt → D → DEnv → Option DEnv
  | .nm i, d, env => if free env i = true then some (env.set i (.own (.val d))) else none
  | .tp l, .tup ds, env => asgs l ds env
  | .tp _, _, _ => none
def asgs : List Tgt → List D → DEnv → Option DEnv
  | [], [], env => some env
  | t :: ts, d :: ds, env => match asg t d env with
    | some e => asgs ts ds e
    | none => none
  | _, _, _ => none
end
mutual
def Tgt.vars : Tgt → List Nat
  | .nm i => [i]
  | .tp l => Tgt.varss l
def Tgt.varss : List Tgt → List Nat
  | [] => []
  | t :: ts => t.vars ++ Tgt.varss ts
end
def gD (K : PySem.W.Frag) (pv : Nat → Option V) (tg : Tgt) : TG := fun v σ H Q => ∃ env F A d, WS K pv env σ F H A ∧ Rep K F d v ∧
  match asg tg d env with
  | none => False
  | some env' => ∀ σ' A', WS K pv env' σ' F H A' → (∀ a, UA A' a → UA A a) → (∀ j, j ∉ tg.vars → σ'[j]? = σ[j]?) → Q σ' H
def gDs (K : PySem.W.Frag) (pv : Nat → Option V) (tgs : List Tgt) : TGs := fun vs σ H Q => ∃ env F A ds, WS K pv env σ F H A ∧ Reps K F ds vs ∧
  match asgs tgs ds env with
  | none => False
  | some env' => ∀ σ' A', WS K pv env' σ' F H A' → (∀ a, UA A' a → UA A a) → (∀ j, j ∉ Tgt.varss tgs → σ'[j]? = σ[j]?) → Q σ' H
section
variable {X : Cx} {pv : Nat → Option V} {pos : Pos}
theorem _root_.L2.PG.imp {e : Expr} {t t' : TG} (h : PG X e t) (i : ∀ v σ H Q, t' v σ H Q → t v σ H Q) : PG X e t' := ⟨fun pins s σ H v u Q I r q => h.run pins s σ H v u Q I r (i v σ H Q q)⟩
theorem _root_.L2.PGs.imp {e : List Expr} {t t' : TGs} (h : PGs X e t) (i : ∀ v σ H Q, t' v σ H Q → t v σ H Q) : PGs X e t' := ⟨fun pins s σ H v u Q I r q => h.run pins s σ H v u Q I r (i v σ H Q q)⟩
theorem dg_nm {i : Nat} {x : Str} (hN : X.N.Nodup) (hi : X.N[i]? = some x) (hx : Loc X.env.scope x) (hf : X.fn x = true ∨ X.env.scope.names.lookup x = some .local := by first | exact .inl rfl | exact .inr rfl | assumption) :
    PG X (.Name x pos) (gD X.K pv (.nm i)) := (pg_name hN hi hx hf).imp fun v σ H Q q => by
  obtain ⟨env, F, A, d, ws, rp, q⟩ := q
  simp only [asg] at q
  by_cases hfr : free env i = true
  · simp only [hfr, if_true] at q
    refine q _ (upA A i []) (ws.put (B := []) (free_lt hfr) ⟨v, rfl, Own.mkVal rp⟩ List.nodup_nil (fun a ha => nomatch ha) (fun a ha => nomatch ha)) (fun a ha => (UA_up ha).elim id fun z => nomatch z) fun j hj => ?_
    have : j ≠ i := by simpa [Tgt.vars] using hj
    exact List.getElem?_set_ne (Ne.symm this)
  · simp only [hfr] at q
    exact q.elim
theorem dgs_nil : PGs X [] (gDs X.K pv []) := pgs_nil.imp fun vs σ H Q q => by
  obtain ⟨env, F, A, ds, ws, rp, q⟩ := q
  cases ds with
  | cons d ds => simp only [asgs] at q
  | nil =>
    simp only [asgs] at q
    exact ⟨rp, q σ A ws (fun _ h => h) fun _ _ => rfl⟩
theorem dgs_cons {e : Expr} {es : List Expr} {t : Tgt} {ts : List Tgt} (h1 : PG X e (gD X.K pv t)) (h2 : PGs X es (gDs X.K pv ts)) (hs : (assignEach (e :: es) X.env).map (·.2) = assign e X.env :: (assignEach es X.env).map (·.2) := by rfl) :
    PGs X (e :: es) (gDs X.K pv (t :: ts)) := (pgs_cons h1 h2 hs).imp fun vs σ H Q q => by
  obtain ⟨env, F, A, ds, ws, rp, q⟩ := q
  cases ds with
  | nil => simp only [asgs] at q
  | cons d ds =>
    obtain ⟨v, r, rfl, r1, r2⟩ := rp
    simp only [asgs] at q
    refine ⟨v, r, rfl, env, F, A, d, ws, r1, ?_⟩
    cases e1 : asg t d env with
    | none => simp only [e1] at q
    | some env1 =>
      simp only [e1] at q
      intro σ1 A1 w1 u1 k1
      refine ⟨env1, F, A1, ds, w1, r2, ?_⟩
      cases e2 : asgs ts ds env1 with
      | none => rw [e2] at q; exact q
      | some env2 =>
        rw [e2] at q
        intro σ2 A2 w2 u2 k2
        refine q σ2 A2 w2 (fun a h => u1 a (u2 a h)) fun j hj => ?_
        simp only [Tgt.varss, List.mem_append, not_or] at hj
        rw [k2 j hj.2, k1 j hj.1]
theorem dg_tp {es : List Expr} {k : Nat} {ts : List Tgt} {n : Nat} (hc : X.calm = true) (h : PGs X es (gDs X.K pv ts)) (hn : (assignEach es X.env).length = n := by rfl) (hst : (assignEach es X.env).findIdx? (·.1) = none := by rfl) (hts : ts.length = n := by rfl) :
    PG X (.Tuple es k pos) (gD X.K pv (.tp ts)) := (pg_tup hc h hn hst).imp fun v σ H Q q => by
  obtain ⟨env, F, A, d, ws, rp, q⟩ := q
  cases d <;> simp only [asg] at q
  rename_i ds
  simp only [Rep] at rp
  obtain ⟨a, vs, rfl, h1, h2⟩ := rp
  have hl : ∀ {ts : List Tgt} {ds : List D} {env : DEnv}, (asgs ts ds env).isSome = true → ds.length = ts.length := by
    intro ts
    induction ts with
    | nil => intro ds env h; cases ds <;> simp [asgs] at h ⊢
    | cons t ts ih =>
      intro ds env h
      cases ds with
      | nil => simp [asgs] at h
      | cons d ds =>
        simp only [asgs] at h
        split at h
        · simp [ih h]
        · simp at h
  refine ⟨a, vs, rfl, SqT.same ws.sub h1, ?_, env, F, A, ds, ws, h2, q⟩
  rw [h2.len, ← hts]
  apply hl (env := env)
  cases e : asgs ts ds env with
  | none => rw [e] at q; exact q.elim
  | some _ => rfl
end
/-- target = e, by data: what is new is frozen -/
def sAsg (tg : Tgt) (f : M R) : M Flow := fun env => (f env).bind fun r e => match frzR r with
  | some d => (match asg tg d e with
    | some e' => .ok .nx e'
    | none => .bad)
  | none => .bad
section
variable {X : Cx} {pv : Nat → Option V} {W : WX} {f : M R} {tg : Tgt} {pos : Pos}
theorem frz_one {K : PySem.W.Frag} {env : DEnv} {σ : L2.St} {F H F0 H0 : Hp} {A A0 : Nat → List Addr} {B : List Addr} {r : R} {v : V} {d : D} (st : Step F0 H0 (UA A0) F H (fun a => UA A a ∨ a ∈ B)) (rs : RS K pv env σ r v F H A B) (e : frzR r = some d) :
    ∃ G, Step F0 H0 (UA A0) G H (UA A) ∧ WS K pv env σ G H A ∧ Rep K G d v := by
  obtain ⟨G, g1, g2, g3⟩ := all_frz (mg := fun _ => none) (rs := [r]) (vs := [v]) (ds := [d]) st ⟨rs.ws, ⟨v, [], B, [], rfl, by simp, rs.rr, rfl, rfl⟩, rs.nd, rs.dj, rs.dis⟩ (by simp [frzRs, e])
  obtain ⟨_, _, h1, h2, _⟩ := g3
  cases h1
  exact ⟨G, g1, g2, h2⟩
theorem ds_asg {t e : Expr} (he : PE X e (tD X.K X.mg pv W f)) (hg : PG X t (gD X.K pv tg)) (hs : swapsWithSole [t] e pos.line X.env = pure false := by rfl) (hw : swappedStores [t] e X.env = pure none := by rfl) (h1 : (assignEach [t] X.env).map (·.2) = [assign t X.env] := by rfl) :
    PS X (.Assign [t] e pos) (sD X.K X.mg pv W (sAsg tg f)) := (ps_asg he hg hs hw h1).imp fun D σ H q => by
  obtain ⟨env, F, A, ws, q⟩ := sD_iff.mp q
  simp only [sAsg] at q
  refine tD_bind ws (fun e => ?_) (fun c e1 e F1 H1 A1 s1 w1 => ?_) (fun r1 e1 e v1 F1 H1 A1 B1 s1 rs1 => ?_)
  · rw [e] at q; exact q
  · rw [e] at q; exact q σ F1 H1 A1 s1 w1
  · rw [e] at q
    simp only [Res.bind] at q
    cases hd : frzR r1 with
    | none => simp only [hd] at q; exact q.elim
    | some d =>
      obtain ⟨G, g1, g2, g3⟩ := frz_one s1 rs1 hd
      refine ⟨e1, G, A1, d, g2, g3, ?_⟩
      cases ha : asg tg d e1 with
      | none => simp only [hd, ha] at q; exact q.elim
      | some e2 =>
        simp only [hd, ha] at q
        exact fun σ' A' w' u' _ => q σ' G H1 A' (g1.less u') w'
end

/-! ### what is walked -/
structure GoodL (K : PySem.W.Frag) (F0 : Hp) (J : It) (ds : List D) : Prop where
  item : ∀ F H i d, Same F0 F → Same F H → ds[i]? = some d → J.go i H ∧ ∀ x H', J.yld i H x H' → ∃ F', Nw F H F' H' [] ∧ Same F' H' ∧ Rep K F' d x
  stop : ∀ F H i, Same F0 F → Same F H → ds.length ≤ i → J.stop i H
def tI (K : PySem.W.Frag) (mg : Str → Option Value) (pv : Nat → Option V) (W : WX) (g : M (List D)) : TI := fun σ H R => ∃ env F A, WS K pv env σ F H A ∧
  match g env with
  | .bad => False
  | .ok ds env' => ∀ J F' H' A', Step F H (UA A) F' H' (UA A') → WS K pv env' σ F' H' A' → GoodL K F' J ds → R J H'
  | .exc c env' => ∀ F' H' A', Step F H (UA A) F' H' (UA A') → WS K pv env' σ F' H' A' → exW mg W c σ H'
theorem _root_.L2.PI.imp {X : Cx} {tg e : Expr} {t t' : TI} (h : PI X tg e t) (i : ∀ σ H R, t' σ H R → t σ H R) : PI X tg e t' := ⟨fun pins s σ H R I q => h.run pins s σ H R I (i σ H R q)⟩
/-- the value that is walked, frozen -/
def frzI (r : R) (env : DEnv) : Option (D × DEnv) := match r with
  | .val d => some (d, env)
  | .own o => o.frz.map fun d => (d, env)
  | .bor i => match env[i]?.bind Slot.o with
    | some o => o.frz.map fun d => (d, putO env i (.val d))
    | none => none
theorem frzI_rel {K : PySem.W.Frag} {pv : Nat → Option V} {env env2 : DEnv} {σ : L2.St} {F H F0 H0 : Hp} {A A0 : Nat → List Addr} {B : List Addr} {r : R} {v : V} {d : D} (st : Step F0 H0 (UA A0) F H (fun a => UA A a ∨ a ∈ B)) (rs : RS K pv env σ r v F H A B) (e : frzI r env = some (d, env2)) :
    ∃ G A2, Step F0 H0 (UA A0) G H (UA A2) ∧ WS K pv env2 σ G H A2 ∧ Rep K G d v := by
  cases r with
  | val d' =>
    simp only [frzI, Option.some.injEq, Prod.mk.injEq] at e
    obtain ⟨rfl, rfl⟩ := e
    obtain ⟨G, g⟩ := frz_one (d := d') st rs rfl
    exact ⟨G, A, g⟩
  | own o =>
    simp only [frzI, Option.map_eq_some_iff, Prod.mk.injEq] at e
    obtain ⟨d', h1, rfl, rfl⟩ := e
    obtain ⟨G, g⟩ := frz_one (d := d') st rs h1
    exact ⟨G, A, g⟩
  | bor j =>
    simp only [frzI] at e
    split at e
    · rename_i o ho
      simp only [Option.map_eq_some_iff, Prod.mk.injEq] at e
      obtain ⟨d', hd, rfl, rfl⟩ := e
      have ws := rs.ws
      have hj : σ[j]? = some (some v) := rs.rr.2
      have own := ws.at ho hj
      have sG : Same F (ext F H fun a => a ∈ A j) := ext_same ws.sub
      have rd : Rep K (ext F H fun a => a ∈ A j) d' v := Own.frz sG o own (fun a ha => ext_in ha) hd
      have hjl : j < env.length := by rw [ws.len]; exact (List.getElem?_eq_some_iff.mp hj).1
      refine ⟨ext F H fun a => a ∈ A j, upA A j [], ?_, ?_, rd⟩
      · refine (step_drop st).trans ⟨sG, fun a u e _ _ => e, (fun t => t.frz (ext_tb1 fun a ha => ws.ndU ⟨j, ha⟩)), fun a ha => ?_, fun a ha => ha, fun a ha => ?_⟩
        · by_cases hB : a ∈ A j
          · exact .inr (.inr ⟨j, hB⟩)
          · rw [ext_out hB] at ha; exact .inl ha
        · exact (UA_up ha).elim .inl fun z => nomatch z
      · have es : env[j]? = some env[j] := List.getElem?_eq_getElem hjl
        unfold putO
        rw [es]
        refine ws.re sG (ext_sub ws.sub) ?_ List.nodup_nil (fun a ha => nomatch ha) (fun a ha => nomatch ha) (fun k hk a ha => ?_) hjl (fun t => t.frz (ext_tb1 fun a ha => ws.ndU ⟨j, ha⟩))
        · rw [hj]
          have so := ws.slot j
          rw [es, hj] at so
          rw [es] at ho
          simp only [Option.getD_some] at so ⊢
          cases hsl : env[j] with
          | un => rw [hsl] at ho; simp [Slot.o] at ho
          | own o' => exact ⟨v, rfl, Own.mkVal rd⟩
          | pin o' =>
            rw [hsl] at so
            obtain ⟨w, e1, e2, _⟩ := so
            cases e1
            exact ⟨v, rfl, e2, Own.mkVal rd⟩
        · rw [ext_out fun hB => hk (ws.dj k j a ha hB)]
          exact ws.dis k a ha
    · cases e
def seqItems : D → Option (List D)
  | .lst ds => some ds
  | .tup ds => some ds
  | _ => none
def dSeq (f : M R) : M (List D) := fun env => (f env).bind fun r e => match frzI r e with
  | some (.lst ds, e') => .ok ds e'
  | _ => .bad
def dSeqT (f : M R) : M (List D) := fun env => (f env).bind fun r e => match frzI r e with
  | some (.tup ds, e') => .ok ds e'
  | _ => .bad
def dEnum (f : M R) : M (List D) := fun env => (f env).bind fun r e => match frzI r e with
  | some (.lst ds, e') => .ok (ds.mapIdx fun i d => .tup [.int (i : Nat), d]) e'
  | _ => .bad
def dRng1 (f : M R) : M (List D) := fun env => (f env).bind fun r e => match resolve e r with
  | some (.int j) => if -(2 ^ 62) ≤ j ∧ j < 2 ^ 62 then .ok ((List.range j.toNat).map fun i => .int (i : Nat)) e else .bad
  | _ => .bad
def dRng2 (f g : M R) : M (List D) := fun env => (f env).bind fun r e => (g e).bind fun r2 e2 => match resolve e2 r, resolve e2 r2 with
  | some (.int i), some (.int j) => if -(2 ^ 62) ≤ i ∧ i < 2 ^ 62 ∧ -(2 ^ 62) ≤ j ∧ j < 2 ^ 62 then .ok ((List.range (j - i).toNat).map fun (k : Nat) => .int (i + k)) e2 else .bad
  | _, _ => .bad
section
variable {K : PySem.W.Frag}
theorem good_list {F0 : Hp} {a : Addr} {vs : List V} {ds : List D} (h : F0 a = some (.lst vs)) (r : Reps K F0 ds vs) : GoodL K F0 (Itl K a) ds where
  item := fun F H i d s1 s2 e => by
    have hH : SqL K H a vs := .of (s2 _ _ (s1 _ _ h))
    obtain ⟨v, h1, h2⟩ := (Reps.same s1 ds r).get e
    refine ⟨⟨vs, v, hH, h1⟩, ?_⟩
    rintro x H' ⟨rfl, hx⟩
    have := hx _ hH
    rw [h1] at this; cases this
    exact ⟨F, Step.refl.less (fun _ z => nomatch z), s2, h2⟩
  stop := fun F H i s1 s2 e => ⟨vs, .of (s2 _ _ (s1 _ _ h)), by rw [r.len]; exact e⟩
theorem good_tup {F0 : Hp} {a : Addr} {vs : List V} {ds : List D} (h : SqT K F0 a vs) (r : Reps K F0 ds vs) : GoodL K F0 (Itt K a) ds where
  item := fun F H i d s1 s2 e => by
    have hH : SqT K H a vs := SqT.same s2 (SqT.same s1 h)
    obtain ⟨v, h1, h2⟩ := (Reps.same s1 ds r).get e
    refine ⟨⟨vs, v, hH, h1⟩, ?_⟩
    rintro x H' ⟨rfl, hx⟩
    have := hx _ hH
    rw [h1] at this; cases this
    exact ⟨F, Step.refl.less (fun _ z => nomatch z), s2, h2⟩
  stop := fun F H i s1 s2 e => ⟨vs, SqT.same s2 (SqT.same s1 h), by rw [r.len]; exact e⟩
theorem good_enum {F0 : Hp} {a : Addr} {vs : List V} {ds : List D} (h : F0 a = some (.lst vs)) (r : Reps K F0 ds vs) : GoodL K F0 (Ite K a) (ds.mapIdx fun i d => .tup [.int (i : Nat), d]) where
  item := fun F H i d s1 s2 e => by
    have hH : SqL K H a vs := .of (s2 _ _ (s1 _ _ h))
    rw [List.getElem?_mapIdx, Option.map_eq_some_iff] at e
    obtain ⟨d', e, rfl⟩ := e
    obtain ⟨v, h1, h2⟩ := (Reps.same s1 ds r).get e
    refine ⟨⟨vs, v, hH, h1⟩, ?_⟩
    rintro x H' ⟨T, y, rfl, hT, rfl, hx⟩
    have := hx _ hH
    rw [h1] at this; cases this
    refine ⟨upd F T (.tup [.int (i : Nat), v]), Nw.frz hT s2, same_frz s2, ?_⟩
    simp only [Rep]
    refine ⟨T, _, rfl, .of upd_same, _, _, rfl, rfl, _, _, rfl, Rep.same (Nw.frz hT s2).fz _ h2, rfl⟩
  stop := fun F H i s1 s2 e => ⟨vs, .of (s2 _ _ (s1 _ _ h)), by rw [r.len]; simpa using e⟩
theorem good_rng {F0 : Hp} {lo : Int} {n : Nat} : GoodL K F0 (Itr lo n) ((List.range n).map fun (k : Nat) => .int (lo + k)) where
  item := fun F H i d s1 s2 e => by
    rw [List.getElem?_map, Option.map_eq_some_iff] at e
    obtain ⟨k, e, rfl⟩ := e
    obtain ⟨h1, h2⟩ := List.getElem?_eq_some_iff.mp e
    simp at h1 h2
    subst h2
    refine ⟨h1, ?_⟩
    rintro x H' ⟨rfl, rfl⟩
    exact ⟨F, Step.refl.less (fun _ z => nomatch z), s2, rfl⟩
  stop := fun F H i s1 s2 e => by
    have e' : n ≤ i := by simpa using e
    exact e'
end
section
variable {X : Cx} {pv : Nat → Option V} {W : WX} {f g : M R} {tg e a b : Expr} {pos p tpos : Pos}
theorem di_list (he : PE X e (tD X.K X.mg pv W f)) : PI X tg e (tI X.K X.mg pv W (dSeq f)) := (pi_list he).imp fun σ H R q => by
  obtain ⟨env, F, A, ws, q⟩ := q
  simp only [dSeq] at q
  refine tD_bind ws (fun e => ?_) (fun c e1 e F1 H1 A1 s1 w1 => ?_) (fun r1 e1 e v1 F1 H1 A1 B1 s1 rs1 => ?_)
  · rw [e] at q; exact q
  · rw [e] at q; exact q F1 H1 A1 s1 w1
  · rw [e] at q
    simp only [Res.bind] at q
    split at q
    · exact q.elim
    · rename_i ds' e' hq
      split at hq
      · rename_i ds e2 hf
        cases hq
        obtain ⟨G, A2, g1, g2, g3⟩ := frzI_rel s1 rs1 hf
        simp only [Rep] at g3
        obtain ⟨l, vs, rfl, h1, h2⟩ := g3
        exact ⟨l, rfl, ⟨vs, .of (g2.sub _ _ h1)⟩, q _ G H1 A2 g1 g2 (good_list h1 h2)⟩
      · cases hq
    · rename_i hq
      split at hq <;> cases hq
theorem di_tup (he : PE X e (tD X.K X.mg pv W f)) : PI X tg e (tI X.K X.mg pv W (dSeqT f)) := (pi_tup he).imp fun σ H R q => by
  obtain ⟨env, F, A, ws, q⟩ := q
  simp only [dSeqT] at q
  refine tD_bind ws (fun e => ?_) (fun c e1 e F1 H1 A1 s1 w1 => ?_) (fun r1 e1 e v1 F1 H1 A1 B1 s1 rs1 => ?_)
  · rw [e] at q; exact q
  · rw [e] at q; exact q F1 H1 A1 s1 w1
  · rw [e] at q
    simp only [Res.bind] at q
    split at q
    · exact q.elim
    · rename_i ds' e' hq
      split at hq
      · rename_i ds e2 hf
        cases hq
        obtain ⟨G, A2, g1, g2, g3⟩ := frzI_rel s1 rs1 hf
        simp only [Rep] at g3
        obtain ⟨l, vs, rfl, h1, h2⟩ := g3
        exact ⟨l, rfl, ⟨vs, SqT.same g2.sub h1⟩, q _ G H1 A2 g1 g2 (good_tup h1 h2)⟩
      · cases hq
    · rename_i hq
      split at hq <;> cases hq
/-- one argument, as a list of arguments -/
theorem da_one {k : V → Hp → Prop} (ha : PE X a (tD X.K X.mg pv W f)) (hs : starEach (a :: []) X.env = (false, eval a X.env) :: starEach [] X.env := by rfl) : PA X [a] (fun σ H Q => tD X.K X.mg pv W f σ H fun x H1 => Q [x] H1) := by
  refine (pa_cons ha pa_nil hs).imp fun σ H Q q => ?_
  exact q
theorem di_enum {elts : List Expr} {kk : Nat} (hg : Gl X "enumerate") (hm : X.mg "enumerate" = none) (ha : PE X a (tD X.K X.mg pv W f)) (hs : starEach [a] X.env = [(false, eval a X.env)] := by rfl) (hs1 : starEach (a :: []) X.env = (false, eval a X.env) :: starEach [] X.env := by rfl) :
    PI X (.Tuple elts kk tpos) (.Call (.Name "enumerate" p) [a] [] pos) (tI X.K X.mg pv W (dEnum f)) := (pi_enum hg hm (pa_cons ha pa_nil hs1) hs).imp fun σ H R q => by
  obtain ⟨env, F, A, ws, q⟩ := q
  simp only [dEnum] at q
  show tD X.K X.mg pv W f σ H fun x H1 => _
  refine tD_bind ws (fun e => ?_) (fun c e1 e F1 H1 A1 s1 w1 => ?_) (fun r1 e1 e v1 F1 H1 A1 B1 s1 rs1 => ?_)
  · rw [e] at q; exact q
  · rw [e] at q; exact q F1 H1 A1 s1 w1
  · rw [e] at q
    simp only [Res.bind] at q
    split at q
    · exact q.elim
    · rename_i ds' e' hq
      split at hq
      · rename_i ds e2 hf
        cases hq
        obtain ⟨G, A2, g1, g2, g3⟩ := frzI_rel s1 rs1 hf
        simp only [Rep] at g3
        obtain ⟨l, vs, rfl, h1, h2⟩ := g3
        exact ⟨l, vs, rfl, .of (g2.sub _ _ h1), q _ G H1 A2 g1 g2 (good_enum h1 h2)⟩
      · cases hq
    · rename_i hq
      split at hq <;> cases hq
theorem di_rng1 (hg : Gl X "range") (hm : X.mg "range" = none) (ha : PE X a (tD X.K X.mg pv W f)) (hs : starEach [a] X.env = [(false, eval a X.env)] := by rfl) (hs1 : starEach (a :: []) X.env = (false, eval a X.env) :: starEach [] X.env := by rfl) : PI X tg (.Call (.Name "range" p) [a] [] pos) (tI X.K X.mg pv W (dRng1 f)) := (pi_range1 hg hm (pa_cons ha pa_nil hs1) hs).imp fun σ H R q => by
  obtain ⟨env, F, A, ws, q⟩ := q
  simp only [dRng1] at q
  show tD X.K X.mg pv W f σ H fun x H1 => _
  refine tD_bind ws (fun e => ?_) (fun c e1 e F1 H1 A1 s1 w1 => ?_) (fun r1 e1 e v1 F1 H1 A1 B1 s1 rs1 => ?_)
  · rw [e] at q; exact q
  · rw [e] at q; exact q F1 H1 A1 s1 w1
  · rw [e] at q
    simp only [Res.bind] at q
    cases hr : resolve e1 r1 with
    | none => simp only [hr] at q
    | some d =>
      cases d with
      | int j =>
        simp only [hr] at q
        by_cases hj : -(2 ^ 62) ≤ j ∧ j < 2 ^ 62
        · rw [if_pos hj] at q
          have hv : v1 = .int j := rs1.rr.view rs1.ws hr
          subst hv
          refine ⟨j, rfl, hj.1, hj.2, q _ F1 H1 A1 (step_drop s1) rs1.ws ?_⟩
          have h := good_rng (K := X.K) (F0 := F1) (lo := 0) (n := j.toNat)
          simpa using h
        · rw [if_neg hj] at q
          exact q.elim
      | _ => simp only [hr] at q
theorem di_rng2 (hg : Gl X "range") (hm : X.mg "range" = none) (ha : PE X a (tD X.K X.mg pv W f)) (hb : PE X b (tD X.K X.mg pv W g)) (hs : starEach [a, b] X.env = [(false, eval a X.env), (false, eval b X.env)] := by rfl) (hs2 : starEach [b] X.env = [(false, eval b X.env)] := by rfl) (hs3 : starEach (a :: [b]) X.env = (false, eval a X.env) :: starEach [b] X.env := by rfl) (hs4 : starEach (b :: []) X.env = (false, eval b X.env) :: starEach [] X.env := by rfl) :
    PI X tg (.Call (.Name "range" p) [a, b] [] pos) (tI X.K X.mg pv W (dRng2 f g)) := (pi_range2 hg hm (pa_cons ha (pa_cons hb pa_nil hs4) hs3) hs hs2).imp fun σ H R q => by
  obtain ⟨env, F, A, ws, q⟩ := q
  simp only [dRng2] at q
  show tD X.K X.mg pv W f σ H fun x H1 => tD X.K X.mg pv W g σ H1 fun y H2 => _
  refine tD_bind ws (fun e => ?_) (fun c e1 e F1 H1 A1 s1 w1 => ?_) (fun r1 e1 e v1 F1 H1 A1 B1 s1 rs1 => ?_)
  · rw [e] at q; exact q
  · rw [e] at q; exact q F1 H1 A1 s1 w1
  · rw [e] at q
    simp only [Res.bind] at q
    refine tD_bind rs1.ws (fun e => ?_) (fun c e2 e F2 H2 A2 s2 w2 => ?_) (fun r2 e2 e v2 F2 H2 A2 B2 s2 rs2 => ?_)
    · rw [e] at q; exact q
    · rw [e] at q
      exact q F2 H2 A2 (s1.trans ((s2.frame (fun a => a ∈ B1)).less fun x hx => .inl hx)) w2
    · rw [e] at q
      simp only at q
      obtain ⟨k1, k2, k3⟩ := rs1.wait s2 rs2.ws
      split at q
      · exact q.elim
      · rename_i ds' e' hq
        split at hq
        · rename_i i j h1 h2
          split at hq
          · rename_i hij
            cases hq
            have hv : v1 = .int i := k1.view rs2.ws h1
            have hu : v2 = .int j := rs2.rr.view rs2.ws h2
            subst hv hu
            exact ⟨i, j, rfl, hij, q _ F2 H2 A2 ((s1.trans (s2.frame fun a => a ∈ B1)).less fun x hx => .inl (.inl hx)) rs2.ws good_rng⟩
          · cases hq
        · cases hq
      · rename_i hq
        split at hq
        · split at hq <;> cases hq
        · cases hq
end

/-! ### for, while -/
def forL (tg : Tgt) (body : M Flow) : List D → M Flow
  | [] => fun env => .ok .nx env
  | d :: ds => fun env => match asg tg d env with
    | none => .bad
    | some e1 => (body e1).bind fun fl e2 => match fl with
      | .nx => forL tg body ds e2
      | .cont => forL tg body ds e2
      | .brk => .ok .nx e2
      | .ret r => .ok (.ret r) e2
def sFor (g : M (List D)) (tg : Tgt) (body : M Flow) : M Flow := fun env => (g env).bind fun ds e => forL tg body ds e
def whL (c : M Bool) (body : M Flow) : Nat → M Flow
  | 0 => fun _ => .bad
  | n + 1 => fun env => (c env).bind fun b e => if b = true then (body e).bind fun fl e2 => match fl with
      | .nx => whL c body n e2
      | .cont => whL c body n e2
      | .brk => .ok .nx e2
      | .ret r => .ok (.ret r) e2
    else .ok .nx e
section
variable {X : Cx} {pv : Nat → Option V} {W : WX} {g : M (List D)} {tg : Tgt} {b : M Flow} {c : M Bool} {pos : Pos}
theorem SPost_nx {K : PySem.W.Frag} {mg : Str → Option Value} {D D' : Ends} {F0 H0 : Hp} {A0 : Nat → List Addr} {r : Res Flow} (q : SPost K mg pv W D F0 H0 A0 (r.bind fun fl e => match fl with
      | .nx => .ok .nx e
      | fl => .ok fl e)) : SPost K mg pv W D F0 H0 A0 r := by
  cases r with
  | bad => exact q
  | exc c e => exact q
  | ok fl e => cases fl <;> exact q
theorem ds_for {t iter : Expr} {body : List Stmt} (hp : PassesOwn (model X.prog X.w) X.A X.env X.xe) (hc : X.calm = true) (hi : PI X t iter (tI X.K X.mg pv W g)) (hg : PG X t (gD X.K pv tg)) (hb : PSs X body (sD X.K X.mg pv W b)) (hs : ∀ x, foldedSetIterable iter X.env x = pure x := by intro _; rfl) :
    PS X (.For t iter body [] pos) (sD X.K X.mg pv W (sFor g tg b)) := (ps_for hp hc hi hg hb hs).imp fun D σ H q => by
  obtain ⟨env, F, A, ws, q⟩ := sD_iff.mp q
  simp only [sFor] at q
  refine ⟨env, F, A, ws, ?_⟩
  cases e : g env with
  | bad => rw [e] at q; exact q
  | exc c e1 => rw [e] at q; exact fun F' H' A' s w => q σ F' H' A' s w
  | ok ds e1 =>
    rw [e] at q
    simp only [Res.bind] at q
    intro J F1 H1 A1 s1 w1 gl
    refine ⟨fun i m σ2 H2 => m = ds.length - i ∧ i ≤ ds.length ∧ ∃ e2 F2 A2, WS X.K pv e2 σ2 F2 H2 A2 ∧ Step F H (UA A) F2 H2 (UA A2) ∧ Same F1 F2 ∧ SPost X.K X.mg pv W D F H A (forL tg b (ds.drop i) e2), ⟨ds.length, rfl, Nat.zero_le _, e1, F1, A1, w1, s1, Same.refl _, by simpa using q⟩, ?_⟩
    rintro i m σ2 H2 ⟨rfl, hi, e2, F2, A2, w2, s2, sm, q2⟩
    by_cases hlt : i < ds.length
    · have hd : ds[i]? = some ds[i] := List.getElem?_eq_getElem hlt
      rw [List.drop_eq_getElem_cons hlt] at q2
      simp only [forL] at q2
      obtain ⟨go, yl⟩ := gl.item F2 H2 i _ sm w2.sub hd
      refine .inr ⟨go, fun σ' H' => ds.length - (i + 1) < ds.length - i ∧ i + 1 ≤ ds.length ∧ ∃ e2 F2 A2, WS X.K pv e2 σ' F2 H' A2 ∧ Step F H (UA A) F2 H' (UA A2) ∧ Same F1 F2 ∧ SPost X.K X.mg pv W D F H A (forL tg b (ds.drop (i + 1)) e2), fun σ' H' ⟨h1, h2, h3⟩ => ⟨_, h1, rfl, h2, h3⟩, fun x H3 y => ?_⟩
      obtain ⟨F3, n3, sub3, r3⟩ := yl x H3 y
      have w3 := w2.nw n3 sub3
      have st3 : Step F H (UA A) F3 H3 (UA A2) := s2.trans ((n3.frame (UA A2)).more (P2 := UA A2) (fun x hx => hx.elim False.elim id) |>.less fun x hx => .inr hx)
      refine ⟨e2, F3, A2, ds[i], w3, r3, ?_⟩
      cases ea : asg tg ds[i] e2 with
      | none => rw [ea] at q2; exact q2
      | some e3 =>
        rw [ea] at q2
        simp only at q2
        intro σ4 A4 w4 u4 _
        refine sD_iff.mpr ⟨e3, F3, A4, w4, ?_⟩
        have st4 : Step F H (UA A) F3 H3 (UA A4) := st3.less u4
        have sm3 : Same F1 F3 := sm.trans n3.fz
        cases eb : b e3 with
        | bad => rw [eb] at q2; exact q2
        | exc c e5 => rw [eb] at q2; exact fun σ' F' H' A' s w => q2 σ' F' H' A' (st4.trans s) w
        | ok fl e5 =>
          rw [eb] at q2
          simp only [Res.bind] at q2
          cases fl with
          | nx => exact fun σ' F' H' A' s w => ⟨by omega, hlt, e5, F', A', w, st4.trans s, sm3.trans s.fz, q2⟩
          | cont => exact fun σ' F' H' A' s w => ⟨by omega, hlt, e5, F', A', w, st4.trans s, sm3.trans s.fz, q2⟩
          | brk => exact fun σ' F' H' A' s w => q2 σ' F' H' A' (st4.trans s) w
          | ret r => exact fun v σ' F' H' A' B s w => q2 v σ' F' H' A' B (st4.trans s) w
    · have : ds.drop i = [] := List.drop_eq_nil_of_le (by omega)
      rw [this] at q2
      exact .inl ⟨gl.stop F2 H2 i sm w2.sub (by omega), q2 σ2 F2 H2 A2 s2 w2⟩
theorem ds_while (n : Nat) {cond : Expr} {body : List Stmt} (hp : PassesOwn (model X.prog X.w) X.A X.env X.xe) (hc : PT X cond (tDT X.K X.mg pv W c)) (hb : PSs X body (sD X.K X.mg pv W b)) :
    PS X (.While cond body [] pos) (sD X.K X.mg pv W (whL c b n)) := (ps_while hp hc hb).imp fun D σ H q => by
  obtain ⟨env, F, A, ws, q⟩ := sD_iff.mp q
  refine ⟨fun m σ2 H2 => ∃ e2 F2 A2, WS X.K pv e2 σ2 F2 H2 A2 ∧ Step F H (UA A) F2 H2 (UA A2) ∧ SPost X.K X.mg pv W D F H A (whL c b m e2), ⟨n, env, F, A, ws, Step.refl, q⟩, ?_⟩
  rintro m σ2 H2 ⟨e2, F2, A2, w2, s2, q2⟩
  cases m with
  | zero => exact q2.elim
  | succ m =>
    simp only [whL] at q2
    refine tDT_bind w2 (fun e => ?_) (fun c e1 e F1 H1 A1 s1 w1 => ?_) (fun k e1 e F1 H1 A1 s1 w1 => ?_)
    · rw [e] at q2; exact q2
    · rw [e] at q2; exact q2 σ2 F1 H1 A1 (s2.trans s1) w1
    · rw [e] at q2
      simp only [Res.bind] at q2
      cases k with
      | false => exact q2 σ2 F1 H1 A1 (s2.trans s1) w1
      | true =>
        refine ⟨fun σ' H' => ∃ e2 F2 A2, WS X.K pv e2 σ' F2 H' A2 ∧ Step F H (UA A) F2 H' (UA A2) ∧ SPost X.K X.mg pv W D F H A (whL c b m e2), fun σ' H' h => ⟨m, Nat.lt_succ_self m, h⟩, sD_iff.mpr ⟨e1, F1, A1, w1, ?_⟩⟩
        simp only [if_true] at q2
        have st1 := s2.trans s1
        cases eb : b e1 with
        | bad => rw [eb] at q2; exact q2
        | exc c e5 => rw [eb] at q2; exact fun σ' F' H' A' s w => q2 σ' F' H' A' (st1.trans s) w
        | ok fl e5 =>
          rw [eb] at q2
          simp only at q2
          cases fl with
          | nx => exact fun σ' F' H' A' s w => ⟨e5, F', A', w, st1.trans s, q2⟩
          | cont => exact fun σ' F' H' A' s w => ⟨e5, F', A', w, st1.trans s, q2⟩
          | brk => exact fun σ' F' H' A' s w => q2 σ' F' H' A' (st1.trans s) w
          | ret r => exact fun v σ' F' H' A' B s w => q2 v σ' F' H' A' B (st1.trans s) w
end
end DL
end
section
set_option maxRecDepth 100000
set_option maxHeartbeats 4000000
namespace DL
open PySem PySem.Spec PyProof.Rows L2
variable [tb : Tb]
/-! ### a block's own names -/
def unE (env : DEnv) : List Nat → DEnv
  | [] => env
  | j :: js => (unE env js).set j .un
theorem unE_len (env : DEnv) : ∀ vs : List Nat, (unE env vs).length = env.length
  | [] => rfl
  | j :: js => by unfold unE; rw [List.length_set, unE_len env js]
theorem unE_out {env : DEnv} {i : Nat} : ∀ {vs : List Nat}, i ∉ vs → (unE env vs)[i]? = env[i]?
  | [], _ => rfl
  | v :: vs, h => by
    simp only [List.mem_cons, not_or] at h
    unfold unE
    rw [List.getElem?_set_ne (Ne.symm h.1)]
    exact unE_out h.2
theorem unE_in {env : DEnv} {i : Nat} : ∀ {vs : List Nat}, i ∈ vs → (unE env vs)[i]?.getD .un = .un
  | [], h => nomatch h
  | v :: vs, h => by
    unfold unE
    by_cases e : v = i
    · subst e
      by_cases hl : v < (unE env vs).length
      · rw [List.getElem?_set_self hl]; rfl
      · rw [List.getElem?_eq_none (by simpa using hl)]; rfl
    · rw [List.getElem?_set_ne e]
      exact unE_in ((List.mem_cons.mp h).resolve_left (Ne.symm e))
def hidA (A : Nat → List Addr) (vs : List Nat) : Nat → List Addr := fun i => if i ∈ vs then [] else A i
theorem hidA_sub {A : Nat → List Addr} {vs : List Nat} {a : Addr} (h : UA (hidA A vs) a) : UA A a := by
  obtain ⟨i, hi⟩ := h
  unfold hidA at hi
  split at hi
  · cases hi
  · exact ⟨i, hi⟩
theorem WS.hide {K : PySem.W.Frag} {pv : Nat → Option V} {env : DEnv} {σ σ' : L2.St} {F H : Hp} {A : Nat → List Addr} {vs : List Nat} (w : WS K pv env σ F H A) (l : σ'.length = σ.length) (k : ∀ i, i ∉ vs → σ'[i]? = σ[i]?) : WS K pv (unE env vs) σ' F H (hidA A vs) := by
  refine ⟨by rw [unE_len, l]; exact w.len, fun i => ?_, fun i => ?_, fun i j a hi hj => ?_, fun i a hi => ?_, w.sub, w.tbs⟩
  · unfold hidA
    by_cases h : i ∈ vs
    · rw [if_pos h, unE_in h]; rfl
    · rw [if_neg h, unE_out h, k i h]; exact w.slot i
  · unfold hidA
    split
    · exact List.nodup_nil
    · exact w.nd i
  · unfold hidA at hi hj
    split at hi
    · cases hi
    · split at hj
      · cases hj
      · exact w.dj i j a hi hj
  · unfold hidA at hi
    split at hi
    · cases hi
    · exact w.dis i a hi
theorem wipe_in {σ : L2.St} {i : Nat} : ∀ {vs : List Nat}, i ∈ vs → i < σ.length → (wipe σ vs)[i]? = some none
  | [], h, _ => nomatch h
  | v :: vs, h, hl => by
    unfold wipe
    by_cases e : v = i
    · subst e
      exact List.getElem?_set_self (by rw [wipe_length]; exact hl)
    · rw [List.getElem?_set_ne e]
      exact wipe_in ((List.mem_cons.mp h).resolve_left (Ne.symm e)) hl
theorem wipe_eq {σ σ2 : L2.St} {vs : List Nat} (l : σ2.length = σ.length) (k : ∀ i, i ∉ vs → σ2[i]? = σ[i]?) : wipe σ2 vs = wipe σ vs := by
  apply List.ext_getElem?
  intro i
  by_cases h : i ∈ vs
  · by_cases hi : i < σ.length
    · rw [wipe_in h hi, wipe_in h (by rw [l]; exact hi)]
    · rw [List.getElem?_eq_none (by rw [wipe_length]; omega), List.getElem?_eq_none (by rw [wipe_length]; omega)]
  · rw [wipe_out h, wipe_out h, k i h]

/-! ### comprehensions -/
def noX {α : Type} : Res α → Res α
  | .exc _ _ => .bad
  | r => r
def compL (tg : Tgt) (vs : List Nat) (test : M Bool) (elt : M R) : List D → List D → M (List D)
  | [], acc => fun env => .ok acc env
  | d :: ds, acc => fun env => match asg tg d env with
    | none => .bad
    | some e1 => (noX (test e1)).bind fun b e2 => if b = true then (noX (elt e2)).bind fun r e3 => (match frzR r with
        | some x => if acc.length < sizeLine then compL tg vs test elt ds (acc ++ [x]) (unE e3 vs) else .bad
        | none => .bad)
      else compL tg vs test elt ds acc (unE e2 vs)
def dComp (g : M (List D)) (tg : Tgt) (vs : List Nat) (test : M Bool) (elt : M R) : M R := fun env => (g env).bind fun ds e => (compL tg vs test elt ds [] (unE e vs)).bind fun acc e2 => .ok (.own (.lst acc)) (unE e2 vs)
def tTrue : M Bool := fun env => .ok true env
abbrev W0 : WX := fun _ _ _ _ => False
section
variable {K : PySem.W.Frag} {mg : Str → Option Value} {pv : Nat → Option V} {W : WX}
def RPost (K : PySem.W.Frag) (mg : Str → Option Value) (pv : Nat → Option V) (W : WX) (σ : L2.St) (Q : VK) (F0 H0 : Hp) (A0 : Nat → List Addr) : Res R → Prop
  | .bad => False
  | .ok r env' => ∀ v F' H' A' B, Step F0 H0 (UA A0) F' H' (fun a => UA A' a ∨ a ∈ B) → RS K pv env' σ r v F' H' A' B → Q v H'
  | .exc c env' => ∀ F' H' A', Step F0 H0 (UA A0) F' H' (UA A') → WS K pv env' σ F' H' A' → exW mg W c σ H'
theorem tD_iff {f : M R} {σ : L2.St} {H : Hp} {Q : VK} : tD K mg pv W f σ H Q ↔ ∃ env F A, WS K pv env σ F H A ∧ RPost K mg pv W σ Q F H A (f env) := by
  constructor
  · rintro ⟨env, F, A, ws, q⟩
    refine ⟨env, F, A, ws, ?_⟩
    revert q
    cases f env <;> exact id
  · rintro ⟨env, F, A, ws, q⟩
    refine ⟨env, F, A, ws, ?_⟩
    revert q
    cases f env <;> exact id
/-- the state between two turns -/
structure CSt (K : PySem.W.Frag) (pv : Nat → Option V) (σ : L2.St) (F0 H0 : Hp) (A0 : Nat → List Addr) (F1 : Hp) (Dd : Addr) (acc : List D) (e : DEnv) (H : Hp) (F : Hp) (A : Nat → List Addr) (vs : List V) : Prop where
  ws : WS K pv e σ F H A
  st : Step F0 H0 (UA A0) F H (fun a => UA A a ∨ a = Dd)
  sm : Same F1 F
  lst : H Dd = some (.lst vs)
  rp : Reps K F acc vs
  nA : ¬ UA A Dd
  nF : F Dd = none
theorem dComp_rd {g : M (List D)} {tg : Tgt} {vs : List Nat} {test : M Bool} {elt : M R} {σ : L2.St} {H : Hp} {Q : VK} (hv : ∀ j ∈ tg.vars, j ∈ vs) (q : tD K mg pv W (dComp g tg vs test elt) σ H Q) :
    tLc (tI K mg pv W g) (gD K pv tg) (tDT K mg pv W0 test) (tD K mg pv W0 elt) vs σ H Q := by
  obtain ⟨env, F, A, ws, q⟩ := tD_iff.mp q
  simp only [dComp] at q
  refine ⟨env, F, A, ws, ?_⟩
  cases e : g env with
  | bad => rw [e] at q; exact q
  | exc c e1 => rw [e] at q; exact q
  | ok ds e1 =>
    rw [e] at q
    simp only [Res.bind] at q
    intro J F1 H1 A1 s1 w1 gl Dd hD
    have wl : (wipe σ vs).length = σ.length := wipe_length σ vs
    have w1' : WS K pv (unE e1 vs) (wipe σ vs) F1 H1 (hidA A1 vs) := w1.hide wl fun i hi => wipe_out hi
    let Post : Res (List D) → Prop := fun r => RPost K mg pv W σ Q F H A (r.bind fun acc e2 => .ok (.own (.lst acc)) (unE e2 vs))
    have nDF : F1 Dd = none := Same.free w1.sub hD
    have start : CSt K pv (wipe σ vs) F H A F1 Dd [] (unE e1 vs) (upd H1 Dd (.lst [])) F1 (hidA A1 vs) [] := by
      have nw : Nw F1 H1 F1 (upd H1 Dd (.lst [])) [Dd] := Nw.put hD w1.sub
      refine ⟨w1'.nw nw (same_put hD w1.sub), ?_, Same.refl _, upd_same, rfl, fun h => ?_, nDF⟩
      · have n3 : Step F1 H1 (UA A1) F1 (upd H1 Dd (.lst [])) (fun a => a ∈ [Dd] ∨ UA A1 a) := (nw.frame (UA A1)).more (P2 := UA A1) fun x hx => hx.elim False.elim id
        exact (s1.trans n3).less fun a ha => ha.elim (fun h => .inr (hidA_sub h)) fun h => .inl (by simp [h])
      · exact w1.there (hidA_sub h) hD
    refine ⟨fun i m H2 => m = ds.length - i ∧ i ≤ ds.length ∧ ∃ acc e2 F2 A2 us, CSt K pv (wipe σ vs) F H A F1 Dd acc e2 H2 F2 A2 us ∧ Post (compL tg vs test elt (ds.drop i) acc e2), ⟨ds.length, rfl, Nat.zero_le _, [], _, _, _, _, start, q⟩, ?_⟩
    rintro i m H2 ⟨rfl, hi, acc, e2, F2, A2, us, c2, q2⟩
    by_cases hlt : i < ds.length
    · have hd : ds[i]? = some ds[i] := List.getElem?_eq_getElem hlt
      rw [List.drop_eq_getElem_cons hlt] at q2
      simp only [compL] at q2
      obtain ⟨go, yl⟩ := gl.item F2 H2 i _ c2.sm c2.ws.sub hd
      let Nx : Hp → Prop := fun H' => ds.length - (i + 1) < ds.length - i ∧ i + 1 ≤ ds.length ∧ ∃ acc e2 F2 A2 us, CSt K pv (wipe σ vs) F H A F1 Dd acc e2 H' F2 A2 us ∧ Post (compL tg vs test elt (ds.drop (i + 1)) acc e2)
      refine .inr ⟨go, Nx, fun H' ⟨h1, h2, h3⟩ => ⟨_, h1, rfl, h2, h3⟩, fun x H3 y => ?_⟩
      obtain ⟨F3, n3, sub3, r3⟩ := yl x H3 y
      have w3 := c2.ws.nw n3 sub3
      have hD3 : H3 Dd = some (.lst us) := n3.keep _ _ c2.lst (fun ps z => by cases z) fun z => z
      have nF3 : F3 Dd = none := by
        apply Classical.byContradiction
        intro z
        rcases n3.new Dd z with h | h | h
        · exact h c2.nF
        · rw [c2.lst] at h; cases h
        · exact h
      have st3 : Step F H (UA A) F3 H3 (fun a => UA A2 a ∨ a = Dd) :=
        c2.st.trans ((n3.frame (fun a => UA A2 a ∨ a = Dd)).more (P2 := fun a => UA A2 a ∨ a = Dd) (fun x hx => hx.elim False.elim id) |>.less fun x hx => .inr hx)
      refine ⟨e2, F3, A2, ds[i], w3, r3, ?_⟩
      cases ea : asg tg ds[i] e2 with
      | none => rw [ea] at q2; exact q2.elim
      | some e3 =>
        rw [ea] at q2
        simp only at q2
        intro σ4 A4 w4 u4 k4
        have l4 : σ4.length = σ.length := by
          have := w4.len
          have h2 := c2.ws.len
          have : e3.length = e2.length := by
            clear q2 w4
            have key : ∀ (t : Tgt) (d : D) (e e' : DEnv), asg t d e = some e' → e'.length = e.length := by
              intro t
              apply Tgt.rec (motive_1 := fun t => ∀ (d : D) (e e' : DEnv), asg t d e = some e' → e'.length = e.length) (motive_2 := fun ts => ∀ (ds : List D) (e e' : DEnv), asgs ts ds e = some e' → e'.length = e.length)
              · intro i d e e' h
                simp only [asg] at h
                split at h
                · cases h; simp
                · cases h
              · intro l ih d e e' h
                cases d <;> simp only [asg] at h <;> first | contradiction | exact ih _ _ _ h
              · intro ds e e' h
                cases ds with
                | nil => simp only [asgs] at h; cases h; rfl
                | cons _ _ => simp [asgs] at h
              · intro t ts ih1 ih2 ds e e' h
                cases ds with
                | nil => simp [asgs] at h
                | cons d ds =>
                  simp only [asgs] at h
                  split at h
                  · rename_i e1 h1
                    rw [ih2 _ _ _ h, ih1 _ _ _ h1]
                  · cases h
            exact key _ _ _ _ ea
          omega
        have k4' : ∀ j, j ∉ vs → σ4[j]? = σ[j]? := fun j hj => by rw [k4 j fun h => hj (hv j h), wipe_out hj]
        have hw : wipe σ4 vs = wipe σ vs := wipe_eq l4 k4'
        refine ⟨hw, ?_⟩
        have keepD : ∀ {F5 H5 : Hp} {A5 : Nat → List Addr} {P5 : Addr → Prop}, Step F3 H3 (UA A4) F5 H5 P5 → (∀ a, UA A5 a → P5 a) → H5 Dd = some (.lst us) ∧ F5 Dd = none ∧ ¬ UA A5 Dd := fun {F5 H5 A5 P5} s5 sub5 => by
          have n4 : ¬ UA A4 Dd := fun h => c2.nA (u4 _ h)
          refine ⟨s5.keep _ _ hD3 (fun ps z => by cases z) n4, ?_, fun h => ?_⟩
          · apply Classical.byContradiction
            intro z
            rcases s5.new Dd z with h | h | h
            · exact h nF3
            · rw [hD3] at h; cases h
            · exact n4 h
          · rcases s5.own Dd (sub5 _ h) with h | h
            · exact n4 h
            · rw [hD3] at h; cases h
        have stW : ∀ {F5 H5 : Hp} {A5 : Nat → List Addr}, Step F3 H3 (UA A4) F5 H5 (UA A5) → Step F H (UA A) F5 H5 (fun a => UA A5 a ∨ a = Dd) := fun {F5 H5 A5} s5 =>
          (st3.less fun a ha => ha.imp_left (u4 a)).trans (s5.frame fun a => a = Dd)
        have usl : ∀ {F5 : Hp}, Same F3 F5 → Reps K F5 acc us := fun {F5} s5 => Reps.same s5 _ (Reps.same n3.fz _ c2.rp)
        refine tDT_bind w4 (fun e => ?_) (fun c e5 e F5 H5 A5 s5 w5 => ?_) (fun b e5 e F5 H5 A5 s5 w5 => ?_)
        · rw [e] at q2; exact q2
        · rw [e] at q2; exact q2.elim
        · rw [e] at q2
          simp only [noX, Res.bind] at q2
          cases b with
          | false =>
            simp only [Bool.false_eq_true, if_false] at q2 ⊢
            obtain ⟨h1, h2, h3⟩ := keepD s5 fun _ h => h
            refine ⟨by omega, hlt, acc, unE e5 vs, F5, hidA A5 vs, us, ⟨w5.hide (by rw [l4, wl]) fun j hj => by rw [wipe_out hj, k4' j hj], (stW s5).less fun a ha => ha.imp_left hidA_sub, c2.sm.trans (n3.fz.trans s5.fz), h1, usl s5.fz, fun h => h3 (hidA_sub h), h2⟩, q2⟩
          | true =>
            simp only [if_true] at q2 ⊢
            refine tD_bind w5 (fun e => ?_) (fun c e6 e F6 H6 A6 s6 w6 => ?_) (fun r e6 e v6 F6 H6 A6 B6 s6 rs6 => ?_)
            · rw [e] at q2; exact q2
            · rw [e] at q2; exact q2.elim
            · rw [e] at q2
              simp only [noX] at q2
              cases hf : frzR r with
              | none => simp only [hf] at q2; exact q2.elim
              | some x =>
                simp only [hf] at q2
                have s56 := s5.trans s6
                obtain ⟨G, g1, g2, g3⟩ := frz_one s56 rs6 hf
                obtain ⟨h1, h2, h3⟩ := keepD g1 fun _ h => h
                by_cases hz : acc.length < sizeLine
                · rw [if_pos hz] at q2
                  have ul : us.length = acc.length := (usl (Same.refl _)).len
                  refine ⟨us, h1, by rw [ul]; exact hz, by omega, hlt, acc ++ [x], unE e6 vs, G, hidA A6 vs, us ++ [v6], ?_, q2⟩
                  have hne : ∀ a o, G a = some o → a ≠ Dd := fun a o h z => by rw [z, h2] at h; cases h
                  have sub' : Same G (upd H6 Dd (.lst (us ++ [v6]))) := fun a o h => by rw [upd_ne (hne a o h)]; exact g2.sub _ _ h
                  refine ⟨?_, ?_, c2.sm.trans (n3.fz.trans g1.fz), upd_same, (usl g1.fz).append (.one g3), fun h => h3 (hidA_sub h), h2⟩
                  · refine WS.hide (σ := σ4) (g2.stay (Same.refl _) sub' (fun b hb u hu => ?_) (fun b hb => g2.disU hb) (TbsOk.mut (by rw [h1]; exact trivial))) (by rw [l4, wl]) fun j hj => by rw [wipe_out hj, k4' j hj]
                    rw [upd_ne (fun (z : b = Dd) => h3 (by rw [← z]; exact hb))]; exact hu
                  · refine (stW g1).trans (P2 := fun a => UA (hidA A6 vs) a ∨ a = Dd) ⟨Same.refl _, fun a o h _ n => ?_, TbsOk.mut (by rw [h1]; exact trivial), fun a h => .inl h, fun a h => ?_, fun a ha => .inl (ha.imp_left hidA_sub)⟩
                    · rw [upd_ne fun z => n (.inr z)]; exact h
                    · by_cases z : a = Dd
                      · subst z; rw [upd_same] at h; cases h
                      · rw [upd_ne z] at h; exact h
                · rw [if_neg hz] at q2
                  exact q2.elim
    · have : ds.drop i = [] := List.drop_eq_nil_of_le (by omega)
      rw [this] at q2
      simp only [compL] at q2
      refine .inl ⟨gl.stop F2 H2 i c2.sm c2.ws.sub (by omega), ?_⟩
      have w5 : WS K pv (unE e2 vs) σ F2 H2 (hidA A2 vs) := c2.ws.hide (by rw [wl]) fun j hj => by rw [wipe_out hj]
      refine q2 (.ref Dd) F2 H2 (hidA A2 vs) [Dd] (c2.st.less fun a ha => ha.elim (fun h => .inl (hidA_sub h)) fun h => .inr (by simpa using h)) ⟨w5, ?_, by simp, fun a ha hu => ?_, fun a ha => ?_⟩
      · show Own K F2 H2 (.lst acc) (.ref Dd) [Dd]
        unfold Own
        exact ⟨Dd, us, rfl, rfl, c2.lst, c2.rp⟩
      · simp only [List.mem_singleton] at ha
        subst ha
        exact c2.nA (hidA_sub hu)
      · simp only [List.mem_singleton] at ha
        subst ha
        exact c2.nF
end
section
variable {X : Cx} {pv : Nat → Option V} {W : WX} {g : M (List D)} {tg : Tgt} {test : M Bool} {f : M R} {elt t iter : Expr} {ifs : List Expr} {scope : Scope} {own : List (Str × Nat)} {pos : Pos}
theorem dts_nil : PTs X [] (tDT X.K X.mg pv W tTrue) := ⟨fun pins s σ H Q I h => by
  obtain ⟨env, F, A, ws, q⟩ := h
  exact pts_nil.run pins s σ H Q I (q F H A Step.refl ws)⟩
theorem dts_one {c : Expr} {d : M Bool} (h : PT X c (tDT X.K X.mg pv W d)) : PTs X [c] (tDT X.K X.mg pv W d) := pts_one h
theorem de_comp (hc : X.calm = true) (hN : X.N.Nodup) (hi : PI X t iter (tI X.K X.mg pv W g)) (ok : BlkOk X.N X.env.scope scope own) (hv : ∀ j ∈ tg.vars, j ∈ own.map (·.2))
    (hg : ∀ (s : Shared) (H : Hp) (C : Addr) (cl : List (Str × Addr)) (fp : List Addr), PG (X.blk s H scope (compEnvC scope cl C X.env) fp) t (gD X.K pv tg))
    (ht : ∀ (s : Shared) (H : Hp) (C : Addr) (cl : List (Str × Addr)) (fp : List Addr), PTs (X.blk s H scope (compEnvC scope cl C X.env) fp) ifs (tDT X.K X.mg pv W0 test))
    (he : ∀ (s : Shared) (H : Hp) (C : Addr) (cl : List (Str × Addr)) (fp : List Addr), PE (X.blk s H scope (compEnvC scope cl C X.env) fp) elt (tD X.K X.mg pv W0 f)) (hs : ∀ x, foldedSetIterable iter X.env x = pure x := by intro _; rfl) :
    PE X (.ListComp elt [⟨t, iter, ifs, 0⟩] scope pos) (tD X.K X.mg pv W (dComp g tg (own.map (·.2)) test f)) :=
  (pe_lc hc hN hi ok hg ht he hs).imp fun _ _ _ q => dComp_rd hv q
theorem ds_setComp (h : How) {i : Nat} {y : Str} {py spos : Pos} (hc : X.calm = true) (hN : X.N.Nodup) (hy : X.N[i]? = some y) (hyl : X.env.scope.names.lookup y = some .local)
    (hsw : swapsWith (.ListComp elt [⟨t, iter, ifs, 0⟩] scope pos) (some (.Name y py)) spos.line X.env = pure true) (hi : PI X t iter (tI X.K X.mg pv W g)) (ok : BlkOk X.N X.env.scope scope own) (hv : ∀ j ∈ tg.vars, j ∈ own.map (·.2))
    (hg : ∀ (s : Shared) (H : Hp) (C : Addr) (cl : List (Str × Addr)) (fp : List Addr), PG (X.blk s H scope (compEnvC scope cl C X.env) fp) t (gD X.K pv tg))
    (ht : ∀ (s : Shared) (H : Hp) (C : Addr) (cl : List (Str × Addr)) (fp : List Addr), PTs (X.blk s H scope (compEnvC scope cl C X.env) fp) ifs (tDT X.K X.mg pv W0 test))
    (he : ∀ (s : Shared) (H : Hp) (C : Addr) (cl : List (Str × Addr)) (fp : List Addr), PE (X.blk s H scope (compEnvC scope cl C X.env) fp) elt (tD X.K X.mg pv W0 f)) (hs : ∀ x, foldedSetIterable iter X.env x = pure x := by intro _; rfl) :
    PS X (.Assign [.Name y py] (.ListComp elt [⟨t, iter, ifs, 0⟩] scope pos) spos) (sD X.K X.mg pv W (sSet h i (dComp g tg (own.map (·.2)) test f))) :=
  (ps_setLc hc hN hy hyl hsw hi ok hg ht he hs).imp fun _ _ _ q => dComp_rd hv (sSet_rd q)
end
end DL
end
section
set_option maxRecDepth 100000
set_option maxHeartbeats 4000000
namespace DL
open PySem PySem.Spec PyProof.Rows L2
variable [tb : Tb]
/-! ### raise -/
abbrev veTail4 : List Value := [.type "ValueError", .type "Exception", .type "BaseException", .type "object"]
structure ExcCls (K : PySem.W.Frag) (mg : Str → Option Value) (x : Str) (C : Addr) : Prop where
  gC : mg x = some (.ref C)
  xC : PySem.W.excIn K C veTail4 "ValueError.__new__" = true
  kC : PySem.W.keepIn K (.ref C) = true
  bC : PySem.W.subIn K (.ref C) (.type "BaseException") = some true
  tC : PySem.W.typeIn K (.ref C) = some (.type "type")
def sRaise (x : Exc) : M Flow := fun env => .exc x env
theorem ds_raise {X : Cx} {pv : Nat → Option V} {W : WX} {x m : Str} {C : Addr} {j : Nat} {p p2 pos pos2 : Pos} (hc : X.calm = true) (tk : Takes X W) (T : ExcCls X.K X.mg x C) (hg : Gl X x) (hdb : (x == ("__debug__" : Str)) = false := by decide) :
    PS X (.Raise (some (.Call (.Name x p) [.Constant (.str m) j p2] [] pos)) none pos2) (sD X.K X.mg pv W (sRaise x)) :=
  (ps_raise hc tk (pmk_own PySem.F.excBase_ValueError T.xC T.gC T.kC (raises_own T.bC T.tC) hg hdb)).imp fun D σ H q => by
    obtain ⟨env, F, A, ws, q⟩ := q
    exact q σ F H A Step.refl ws C T.gC

/-! ### lists of one's own that change -/
section
variable {K : PySem.W.Frag} {pv : Nat → Option V} {env : DEnv} {σ : L2.St} {F H : Hp} {A : Nat → List Addr}
theorem WS.mut (w : WS K pv env σ F H A) {i : Nat} {o o' : O} {v : V} {a : Addr} {ho : HO} (e : env[i]?.bind Slot.o = some o) (hv : σ[i]? = some (some v)) (ha : a ∈ A i) (hn : Own K F (upd H a ho) o' v (A i)) :
    WS K pv (putO env i o') σ F (upd H a ho) A ∧ Step F H (UA A) F (upd H a ho) (UA A) := by
  have sub : Same F (upd H a ho) := fun b u hb => by
    rw [upd_ne fun z => by rw [z, w.dis i a ha] at hb; cases hb]
    exact w.sub _ _ hb
  have tm : TbsOk F H → TbsOk F (upd H a ho) := TbsOk.mut ((w.slot i).nd a ha)
  refine ⟨⟨by rw [putO_len]; exact w.len, fun j => ?_, w.nd, w.dj, w.dis, sub, tm w.tbs⟩, Same.refl _, fun b u hb _ n => ?_, tm, fun b hb => .inl hb, fun b hb => ?_, fun b hb => .inl hb⟩
  · rw [putO_get]
    by_cases hj : j = i
    · subst hj
      rw [if_pos rfl, hv]
      have hs := w.slot j
      rw [hv] at hs
      cases es : env[j]? with
      | none => rw [es] at e; simp at e
      | some s =>
        rw [es] at hs e
        simp only [Option.map_some, Option.getD_some] at hs ⊢
        cases s with
        | un => simp [Slot.o] at e
        | own _ => exact ⟨v, rfl, hn⟩
        | pin _ =>
          obtain ⟨u, e1, e2, _⟩ := hs
          cases e1
          exact ⟨v, rfl, e2, hn⟩
    · rw [if_neg hj]
      refine (w.slot j).stay (Same.refl _) fun b hb u hu => ?_
      rw [upd_ne fun z => hj (w.dj j i b hb (by rw [z]; exact ha))]
      exact hu
  · rw [upd_ne fun z => n ⟨i, by rw [z]; exact ha⟩]
    exact hb
  · by_cases z : b = a
    · subst z; rw [upd_same] at hb; cases hb
    · rw [upd_ne z] at hb; exact hb
end
/-- the list that slot i holds for its own -/
def lstAt (env : DEnv) (i : Nat) : Option (List D) := match env[i]?.bind Slot.o with
  | some (.lst ds) => some ds
  | _ => none
theorem lstAt_o {env : DEnv} {i : Nat} {ds : List D} (h : lstAt env i = some ds) : env[i]?.bind Slot.o = some (.lst ds) := by
  unfold lstAt at h
  split at h
  · rename_i ds' e
    cases h; exact e
  · cases h
theorem dVar_lst {env : DEnv} {i : Nat} {ds : List D} (h : lstAt env i = some ds) : dVar i env = .ok (.bor i) env := by
  have h' := lstAt_o h
  unfold dVar
  cases e : env[i]? with
  | none => rw [e] at h'; simp at h'
  | some s =>
    rw [e] at h'
    cases s with
    | un => simp [Slot.o] at h'
    | own o => simp [Slot.o] at h'; subst h'; rfl
    | pin o => simp [Slot.o] at h'; subst h'; rfl
theorem own_lst {K : PySem.W.Frag} {F H : Hp} {ds : List D} {v : V} {B : List Addr} (h : Own K F H (.lst ds) v B) : ∃ a vs, v = .ref a ∧ B = [a] ∧ H a = some (.lst vs) ∧ Reps K F ds vs := by
  unfold Own at h
  exact h
theorem mk_lst {K : PySem.W.Frag} {F H : Hp} {ds : List D} {a : Addr} {vs : List V} (h : H a = some (.lst vs)) (r : Reps K F ds vs) : Own K F H (.lst ds) (.ref a) [a] := by
  unfold Own
  exact ⟨a, vs, rfl, rfl, h, r⟩
/-- what a method makes of a list of one's own: the new list, the value -/
def dMutL (i : Nat) (h : List D → List D → Option (List D × D)) (fs : M (List R)) : M R := fun env => match lstAt env i with
  | none => .bad
  | some _ => (fs env).bind fun rs e => match lstAt e i, frzRs rs with
    | some ds, some xs => (match h ds xs with
      | some (ds', d) => .ok (.val d) (putO e i (.lst ds'))
      | none => .bad)
    | _, _ => .bad
def MutV (K : PySem.W.Frag) (r : V → List V → Hp → VK → Prop) (h : List D → List D → Option (List D × D)) : Prop :=
  ∀ (F H : Hp) (a : Addr) (ds xs ds' : List D) (d : D) (vs us : List V) (Q : VK), Same F H → H a = some (.lst vs) → Reps K F ds vs → Reps K F xs us → h ds xs = some (ds', d) →
    (∀ vs' v, Reps K F ds' vs' → Rep K F d v → Q v (upd H a (.lst vs'))) → r (.ref a) us H Q
theorem dMutL_rd {K : PySem.W.Frag} {mg : Str → Option Value} {pv : Nat → Option V} {W : WX} {i : Nat} {h : List D → List D → Option (List D × D)} {r : V → List V → Hp → VK → Prop} {fs : M (List R)} {σ : L2.St} {H : Hp} {Q : VK} (hv : MutV K r h) (q : tD K mg pv W (dMutL i h fs) σ H Q) :
    tBM K "list" r (tVar i) (tDA K mg pv W fs) σ H Q := by
  obtain ⟨env, F, A, ws, q⟩ := tD_iff.mp q
  simp only [dMutL] at q
  cases h0 : lstAt env i with
  | none => rw [h0] at q; exact q.elim
  | some ds0 =>
    rw [h0] at q
    simp only at q
    obtain ⟨v, hv0, own0⟩ := ws.has (lstAt_o h0)
    obtain ⟨a, vs0, rfl, hA, hH0, _⟩ := own_lst own0
    refine ⟨.ref a, hv0, .inl ⟨rfl, vs0, .of hH0⟩, ?_⟩
    refine tDA_bind ws (fun e => ?_) (fun c e1 e F1 H1 A1 s1 w1 => ?_) (fun rs e1 e us F1 H1 A1 B1 s1 rs1 => ?_)
    · rw [e] at q; exact q
    · rw [e] at q; exact q F1 H1 A1 s1 w1
    · rw [e] at q
      simp only [Res.bind] at q
      cases h1 : lstAt e1 i with
      | none => simp only [h1] at q; exact q.elim
      | some ds =>
        cases h2 : frzRs rs with
        | none => simp only [h1, h2] at q; exact q.elim
        | some xs =>
          cases h3 : h ds xs with
          | none => simp only [h1, h2, h3] at q; exact q.elim
          | some p =>
            obtain ⟨ds', d⟩ := p
            simp only [h1, h2, h3] at q
            obtain ⟨G, g1, g2, g3⟩ := all_frz (mg := mg) s1 rs1 h2
            have own1 := g2.at (lstAt_o h1) hv0
            obtain ⟨a', vs, e1', hA1, hH1, r1⟩ := own_lst own1
            cases e1'
            refine hv G H1 a ds xs ds' d vs us Q g2.sub hH1 r1 g3 h3 fun vs' v r2 r3 => ?_
            obtain ⟨m1, m2⟩ := g2.mut (a := a) (o' := .lst ds') (ho := .lst vs') (lstAt_o h1) hv0 (by rw [hA1]; simp) (by rw [hA1]; exact mk_lst upd_same r2)
            exact q v G _ A1 [] ((g1.trans m2).trans step_id) (rs_val m1 r3)
section
variable {X : Cx} {pv : Nat → Option V} {W : WX} {i : Nat} {fs : M (List R)} {x : Str} {p pos : Pos} {e : Expr} {es : List Expr} {name : Str} {id : String} {h : List D → List D → Option (List D × D)} {r : V → List V → Hp → VK → Prop}
def gApp : List D → List D → Option (List D × D)
  | ds, [d] => if ds.length < sizeLine then some (ds ++ [d], .non) else none
  | _, _ => none
theorem mv_app {K : PySem.W.Frag} : MutV K rAppend gApp := fun F H a ds xs ds' d vs us Q s hH r1 r2 e q => by
  unfold gApp at e
  split at e
  · rename_i d0
    split at e
    · rename_i hz
      cases e
      obtain ⟨u, t, rfl, h1, h2⟩ := r2
      simp only [Reps] at h2
      subst h2
      exact ⟨a, vs, u, rfl, rfl, hH, by rw [r1.len]; exact hz, q _ _ (r1.append (.one h1)) rfl⟩
    · cases e
  · cases e
def gExt : List D → List D → Option (List D × D)
  | ds, [.lst xs] => if ds.length + xs.length ≤ sizeLine then some (ds ++ xs, .non) else none
  | _, _ => none
theorem mv_ext {K : PySem.W.Frag} : MutV K rExtend gExt := fun F H a ds xs ds' d vs us Q s hH r1 r2 e q => by
  unfold gExt at e
  split at e
  · rename_i d0
    split at e
    · rename_i hz
      cases e
      obtain ⟨u, t, rfl, h1, h2⟩ := r2
      simp only [Reps] at h2
      subst h2
      simp only [Rep] at h1
      obtain ⟨b, zs, rfl, h3, h4⟩ := h1
      exact ⟨a, b, vs, zs, rfl, rfl, hH, s _ _ h3, by rw [r1.len, h4.len]; exact hz, q _ _ (r1.append h4) rfl⟩
    · cases e
  · cases e
theorem de_append (hN : X.N[i]? = some x) (hv : Vis X.env.scope x) (ha : PA X (e :: es) (tDA X.K X.mg pv W fs)) {apos : Pos}
    (hd : (x == ("__debug__" : Str)) = false := by decide) (hcd : (x == ("__classdict__" : Str)) = false := by decide) (hp : PE X (.Call (.Attribute (.Name x p) "append" apos) (e :: es) [] pos) (tBM X.K "list" rAppend (tVar i) (tDA X.K X.mg pv W fs))) :
    PE X (.Call (.Attribute (.Name x p) "append" apos) (e :: es) [] pos) (tD X.K X.mg pv W (dMutL i gApp fs)) := hp.imp fun _ _ _ q => dMutL_rd mv_app q
end
/-- x[k] = e, x a list of one's own -/
def sSetIx (i : Nat) (fk fe : M R) : M Flow := fun env => (fe env).bind fun r e => match lstAt e i with
  | none => .bad
  | some _ => (fk e).bind fun rk e1 => match lstAt e1 i, frzR r, resolve e1 rk with
    | some ds, some d, some (.int k) => (match ixN ds.length k with
      | some j => .ok .nx (putO e1 i (.lst (ds.set j d)))
      | none => .bad)
    | _, _, _ => .bad
section
variable {X : Cx} {pv : Nat → Option V} {W : WX} {i : Nat} {fk fe : M R} {x : Str} {p pos tpos : Pos} {e k : Expr}
theorem sSetIx_rd {K : PySem.W.Frag} {mg : Str → Option Value} {D : Ends} {σ : L2.St} {H : Hp} (q : sD K mg pv W (sSetIx i fk fe) D σ H) : tAsg (tD K mg pv W fe) (gSub (tVar i) (tD K mg pv W fk) rSetL) D σ H := by
  obtain ⟨env, F, A, ws, q⟩ := sD_iff.mp q
  simp only [sSetIx] at q
  refine tD_bind ws (fun e => ?_) (fun c e1 e F1 H1 A1 s1 w1 => ?_) (fun r1 e1 e v1 F1 H1 A1 B1 s1 rs1 => ?_)
  · rw [e] at q; exact q
  · rw [e] at q; exact q σ F1 H1 A1 s1 w1
  · rw [e] at q
    simp only [Res.bind] at q
    cases h0 : lstAt e1 i with
    | none => rw [h0] at q; exact q.elim
    | some ds0 =>
      rw [h0] at q
      simp only at q
      obtain ⟨v, hv0, own0⟩ := rs1.ws.has (lstAt_o h0)
      refine ⟨v, hv0, ?_⟩
      refine tD_bind rs1.ws (fun e => ?_) (fun c e2 e F2 H2 A2 s2 w2 => ?_) (fun r2 e2 e v2 F2 H2 A2 B2 s2 rs2 => ?_)
      · rw [e] at q; exact q
      · rw [e] at q
        exact q σ F2 H2 A2 (s1.trans ((s2.frame (fun a => a ∈ B1)).less fun x hx => .inl hx)) w2
      · rw [e] at q
        simp only at q
        obtain ⟨k1, k2, k3⟩ := rs1.wait s2 rs2.ws
        cases h1 : lstAt e2 i with
        | none => simp only [h1] at q; exact q.elim
        | some ds =>
          cases h2 : frzR r1 with
          | none => simp only [h1, h2] at q; exact q.elim
          | some d =>
            cases h3 : resolve e2 r2 with
            | none => simp only [h1, h2, h3] at q; exact q.elim
            | some dk =>
              cases dk with
              | int kk =>
                simp only [h1, h2, h3] at q
                cases h4 : ixN ds.length kk with
                | none => simp only [h4] at q; exact q.elim
                | some j =>
                  simp only [h4] at q
                  have hk : v2 = .int kk := rs2.rr.view rs2.ws h3
                  subst hk
                  obtain ⟨G, g1, g2, g3⟩ := frz_one (B := B1) (v := v1) (st := (s1.trans (s2.frame fun a => a ∈ B1)).less fun x hx => hx.elim (fun h => .inl (.inl h)) .inr) (e := h2)
                    (⟨rs2.ws, k1, rs1.nd, fun a ha hu => k3 a ha (.inl hu), k2⟩ : RS K pv e2 σ r1 v1 F2 H2 A2 B1)
                  have own1 := g2.at (lstAt_o h1) hv0
                  obtain ⟨a, vs, rfl, hA1, hH1, rr1⟩ := own_lst own1
                  refine ⟨a, vs, kk, j, rfl, rfl, hH1, by rw [rr1.len]; exact h4, ?_⟩
                  obtain ⟨m1, m2⟩ := g2.mut (a := a) (o' := .lst (ds.set j d)) (ho := .lst (vs.set j v1)) (lstAt_o h1) hv0 (by rw [hA1]; simp) (by rw [hA1]; exact mk_lst upd_same (rr1.set j g3))
                  exact q σ G _ A2 (g1.trans m2) m1
              | _ => simp only [h1, h2, h3] at q; exact q.elim
theorem ds_setIx (hN : X.N[i]? = some x) (hv : Vis X.env.scope x) (hk : PE X k (tD X.K X.mg pv W fk)) (he : PE X e (tD X.K X.mg pv W fe)) (hd : (x == ("__debug__" : Str)) = false := by decide) (hcd : (x == ("__classdict__" : Str)) = false := by decide)
    (ha : ∀ v, assign (.Subscript (.Name x p) k tpos) X.env v = (do
      let ov ← holding [v] (eval (.Name x p) X.env)
      let iv ← holding [v, ov] (eval k X.env)
      standAt tpos
      holding [v, ov, iv] (setItem ov iv v)
      release [v, ov, iv] []) := by intro _; rfl) (hs : swapsWithSole [(.Subscript (.Name x p) k tpos)] e pos.line X.env = pure false := by rfl) (hw : swappedStores [(.Subscript (.Name x p) k tpos)] e X.env = pure none := by rfl)
    (h1 : (assignEach [(.Subscript (.Name x p) k tpos)] X.env).map (·.2) = [assign (.Subscript (.Name x p) k tpos) X.env] := by rfl) :
    PS X (.Assign [.Subscript (.Name x p) k tpos] e pos) (sD X.K X.mg pv W (sSetIx i fk fe)) :=
  (ps_asg he (pg_sub (pe_var hN hv hd hcd) hk set_list ha) hs hw h1).imp fun _ _ _ q => sSetIx_rd q
end
end DL
end
section
set_option maxRecDepth 100000
set_option maxHeartbeats 4000000
namespace DL
open PySem PySem.Spec PyProof.Rows L2
variable [tb : Tb]
/-! ### repr of lists, tuples, dicts -/
section
variable {prog : Program} {w : World} {h₀ : Heap}
/-- a value that can be shown -/
def Shw (prog : Program) (w : World) (h₀ : Heap) (u : Value) (p : PyData) : Prop := ∃ as bs, Reads h₀ u p as ∧ ReadAtMost h₀ p.depth bs ∧ ReprK prog w bs h₀ p.depth u p.shown
def Shws (prog : Program) (w : World) (h₀ : Heap) (us : List Value) (ps : List PyData) : Prop := ∃ as bs, ReadsAll h₀ us ps as ∧ ReadAtMost h₀ (PyData.depthAll ps) bs ∧ ReprAllK prog w bs h₀ (PyData.depthAll ps) us (PyData.shownAll ps)
theorem Shws.nil : Shws prog w h₀ [] [] := ⟨[], [], .nil, (fun _ h => nomatch h), by simp only [PyData.shownAll]; exact .nil⟩
theorem Shws.cons {u : Value} {us : List Value} {p : PyData} {ps : List PyData} (a : Shw prog w h₀ u p) (b : Shws prog w h₀ us ps) : Shws prog w h₀ (u :: us) (p :: ps) := by
  obtain ⟨as1, b1, r1, hb1, k1⟩ := a
  obtain ⟨as2, b2, r2, hb2, k2⟩ := b
  refine ⟨as1 ++ as2, b1 ++ b2, .cons r1 r2, fun b hm => ?_, ?_⟩
  · simp only [PyData.depthAll]
    rcases List.mem_append.mp hm with hm | hm
    · obtain ⟨d', as', r', hd'⟩ := hb1 b hm
      exact ⟨d', as', r', Nat.le_trans hd' (Nat.le_max_left _ _)⟩
    · obtain ⟨d', as', r', hd'⟩ := hb2 b hm
      exact ⟨d', as', r', Nat.le_trans hd' (Nat.le_max_right _ _)⟩
  · simp only [PyData.depthAll, PyData.shownAll]
    exact .cons ((k1.more fun b hb => List.mem_append_left _ hb).level_le (Nat.le_max_left _ _)) (k2.more_le (fun b hb => List.mem_append_right _ hb) (Nat.le_max_right _ _))
/-- shown, and its repr called -/
structure ShwC (prog : Program) (w : World) (h₀ : Heap) (a : Addr) (p : PyData) : Prop where
  shw : Shw prog w h₀ (.ref a) p
  by_ : ∃ T idr, ShowsBy prog w h₀ a p T idr
theorem shw_list {a : Addr} {o : Obj} {vs : Array Value} {n : Nat} {xs : List PyData} (h1 : h₀.get? a = some o) (h2 : o.cls = .type "list") (h3 : o.data = .seq vs n) (c : Shws prog w h₀ vs.toList xs) (hz : (PyData.shown (.list xs)).length ≤ sizeLine) :
    ShwC prog w h₀ a (.list xs) := by
  have hz' : (listText (PyData.shownAll xs)).length ≤ sizeLine := by simpa only [PyData.shown] using hz
  obtain ⟨as, bs, h4, hb, hk⟩ := c
  have r : Reads h₀ (.ref a) (.list xs) _ := .list h1 h2 h3 h4
  have hna : a ∉ bs := not_mem_of_deeper r (by simp only [PyData.depth]; omega) hb
  refine ⟨⟨_, a :: bs, r, ReadAtMost.cons r (by simp only [PyData.depth]; omega) hb, ?_⟩, "list", "list.__repr__", F.slot_list_repr.toG, F.slot_list_str, F.slot_list_format, fun s hk0 => ⟨o, hk0 _ _ h1, h2⟩, fun A E s Q hg hu hk0 hQ => ?_⟩
  · simp only [PyData.depth, PyData.shown]
    obtain ⟨l⟩ := vs
    cases l with
    | nil =>
      have h4' : ReadsAll h₀ [] xs _ := h4
      cases h4'
      simp only [PyData.shownAll, listText_nil]
      exact ReprK.listEmpty h1 h2 h3
    | cons x l => exact ReprK.list h1 h2 h3 hna (by simpa using hk.length_eq) (fun i y e => hk.item i y (by simpa using e))
  · simp only [PyData.depth] at hu
    simp only [PyData.shown] at hQ
    obtain ⟨l⟩ := vs
    cases l with
    | nil =>
      have h4' : ReadsAll h₀ [] xs _ := h4
      cases h4'
      simp only [PyData.shownAll, listText_nil] at hQ
      exact call_list_repr_empty ⟨o, hk0 _ _ h1, h2⟩ (hk0 _ _ h1) h3 (hQ s.heap _ _ fun _ _ e => e)
    | cons x l =>
      exact call_list_reprK h1 h2 h3 hna (by simpa using hk.length_eq) (fun i y e => hk.item i y (by simpa using e)) hg (fun b _ => Clear.nil b) hu hk0 hQ hz'
theorem shw_tup {a : Addr} {o : Obj} {vs : Array Value} {n : Nat} {xs : List PyData} (h1 : h₀.get? a = some o) (h2 : o.cls = .type "tuple") (h3 : o.data = .seq vs n) (c : Shws prog w h₀ vs.toList xs) (hz : (PyData.shown (.tuple xs)).length ≤ sizeLine) :
    ShwC prog w h₀ a (.tuple xs) := by
  have hz' : (tupleText (PyData.shownAll xs)).length ≤ sizeLine := by simpa only [PyData.shown] using hz
  obtain ⟨as, bs, h4, hb, hk⟩ := c
  have r : Reads h₀ (.ref a) (.tuple xs) _ := .tuple h1 h2 h3 h4
  have hna : a ∉ bs := not_mem_of_deeper r (by simp only [PyData.depth]; omega) hb
  refine ⟨⟨_, a :: bs, r, ReadAtMost.cons r (by simp only [PyData.depth]; omega) hb, ?_⟩, "tuple", "tuple.__repr__", F.slot_tuple_repr, F.slot_tuple_str, F.slot_tuple_format, fun s hk0 => ⟨o, hk0 _ _ h1, h2⟩, fun A E s Q hg hu hk0 hQ => ?_⟩
  · simp only [PyData.depth, PyData.shown]
    exact ReprK.tuple h1 h2 h3 hna hk
  · simp only [PyData.depth] at hu
    simp only [PyData.shown] at hQ
    exact call_tuple_reprK h1 h2 h3 hna hk hg (fun b _ => Clear.nil b) hu hk0 hQ hz'
theorem shw_dict {a : Addr} {o : Obj} {es : Array DictEntry} {n : Nat} {kvs : List (PyData × PyData)} (h1 : h₀.get? a = some o) (h2 : o.cls = .type "dict") (h3 : o.data = .dict es n) (hsys : (a == sysModules) = false)
    (c1 : Shws prog w h₀ (es.toList.map (·.key)) (kvs.map (·.1))) (c2 : Shws prog w h₀ (es.toList.map (·.val)) (kvs.map (·.2))) (hz : (PyData.shown (.dict kvs)).length ≤ sizeLine) :
    ShwC prog w h₀ a (.dict kvs) := by
  have hz' : (dictText (PyData.shownKv kvs)).length ≤ sizeLine := by simpa only [PyData.shown] using hz
  obtain ⟨as1, b1, h4, hb1, k1⟩ := c1
  obtain ⟨as2, b2, h5, hb2, k2⟩ := c2
  have r : Reads h₀ (.ref a) (.dict kvs) _ := .dict h1 h2 h3 h4 h5
  have hb : ReadAtMost h₀ (PyData.depthKv kvs) (b1 ++ b2) := (hb1.mono (PyData.depthAll_keys_le kvs)).append (hb2.mono (PyData.depthAll_vals_le kvs))
  have hna : a ∉ b1 ++ b2 := not_mem_of_deeper r (by simp only [PyData.depth]; omega) hb
  have hE := ReprEntriesK.of_two es.toList _ _ (k1.more_le (as' := b1 ++ b2) (fun b hb => List.mem_append_left _ hb) (PyData.depthAll_keys_le kvs)) (k2.more_le (fun b hb => List.mem_append_right _ hb) (PyData.depthAll_vals_le kvs))
  refine ⟨⟨_, a :: (b1 ++ b2), r, ReadAtMost.cons r (by simp only [PyData.depth]; omega) hb, ?_⟩, "dict", "dict.__repr__", F.slot_dict_repr, F.slot_dict_str, F.slot_dict_format, fun s hk0 => ⟨o, hk0 _ _ h1, h2⟩, fun A E s Q hg hu hk0 hQ => ?_⟩
  · simp only [PyData.depth, PyData.shown, PyData.shownKv_eq]
    exact ReprK.dict h1 h2 h3 hsys hna hE
  · simp only [PyData.depth] at hu
    simp only [PyData.shown, PyData.shownKv_eq] at hQ
    exact call_dict_reprK h1 h2 h3 hsys hna hE hg (fun b _ => Clear.nil b) hu hk0 hQ (by rw [← PyData.shownKv_eq]; exact hz')
end
theorem pys_len : ∀ {ds : List D} {ps : List PyData}, D.pys ds = some ps → ps.length = ds.length
  | [], _, h => by simp only [D.pys] at h; cases h; rfl
  | d :: ds, _, h => by
    simp only [D.pys] at h
    split at h
    · rename_i p ps h1 h2
      cases h
      simp [pys_len h2]
    · cases h
theorem dct_py {ks : List Key} {ds : List D} : D.py (.dct ks ds) = (D.pys ds).map fun ps => .dict ((ks.map keyPy).zip ps) := by
  simp only [D.py]
  cases D.pys ds <;> rfl
section
variable {X : Cx} {pins : List (Addr × Obj)} {σ : L2.St} {F H : Hp} {s : Shared}
theorem keys_shw (I : Inv X pins σ H s) {P : Program} {w : World} : ∀ {ks : List Key} {vs : List V} {kvs : List (Key × Value)} {es : List DictEntry}, KV (ks.zip vs) kvs → ks.length = vs.length → PySem.Pairs (mixKind P w) es kvs →
    PyData.showableAll (ks.map keyPy) = true → (∀ t ∈ PyData.shownAll (ks.map keyPy), t.length ≤ sizeLine) → Shws X.prog X.w s.heap (es.map (·.key)) (ks.map keyPy) ∧ Vals vs (es.map (·.val))
  | [], [], _, _, r, _, p, _, _ => by
    cases r
    cases p
    exact ⟨Shws.nil, .nil⟩
  | [], _ :: _, _, _, _, l, _, _, _ => by simp at l
  | _ :: _, [], _, _, _, l, _, _, _ => by simp at l
  | k :: ks, v :: vs, _, _, r, l, p, hs, hz => by
    rw [List.zip_cons_cons] at r
    cases r with
    | cons r1 r2 =>
      cases p with
      | cons p1 p2 p3 =>
        simp only [List.map_cons, PyData.showableAll, Bool.and_eq_true] at hs
        simp only [List.map_cons, PyData.shownAll, List.mem_cons] at hz
        obtain ⟨q1, q2⟩ := keys_shw I (P := P) (w := w) r2 (by simpa using l) p3 hs.2 fun t ht => hz t (.inr ht)
        refine ⟨?_, ?_⟩
        · simp only [List.map_cons]
          refine Shws.cons ?_ q1
          rw [← r1.1] at p1
          rcases keyIs_shape p1 with ⟨i, t, rfl, e⟩ | ⟨x, t, rfl, e⟩
          · rw [e]
            refine ⟨[], [], .int i t, (fun _ h => nomatch h), ?_⟩
            simp only [keyPy, PyData.shown]
            exact .of_is (ReprIs.int t (by simpa [keyPy, PyData.showable] using hs.1)) _ _ _
          · rw [e]
            refine ⟨[], [], .str x t, (fun _ h => nomatch h), ?_⟩
            simp only [keyPy, PyData.shown]
            exact .of_is (ReprIs.str x t (by simpa [keyPy, PyData.shown] using hz _ (.inl rfl))) _ _ _
        · simp only [List.map_cons]
          rw [p2]
          exact .cons r1.2 q2
theorem zip_fst {α β : Type} {as : List α} {bs : List β} (h : as.length = bs.length) : (as.zip bs).map (·.1) = as := by
  induction as generalizing bs with
  | nil => rfl
  | cons a as ih => cases bs with
    | nil => simp at h
    | cons b bs => simp at h; simp [ih h]
theorem zip_snd {α β : Type} {as : List α} {bs : List β} (h : as.length = bs.length) : (as.zip bs).map (·.2) = bs := by
  induction as generalizing bs with
  | nil => cases bs with
    | nil => rfl
    | cons b bs => simp at h
  | cons a as ih => cases bs with
    | nil => simp at h
    | cons b bs => simp at h; simp [ih h]
/-- one level: the items are shown -/
theorem shwc_lst (I : Inv X pins σ H s) {a : Addr} {vs : List V} {ps : List PyData} (h : SqL X.K H a vs) (c : ∀ us, Vals vs us → Shws X.prog X.w s.heap us ps) (hz : (PyData.shown (.list ps)).length ≤ sizeLine) : ShwC X.prog X.w s.heap a (.list ps) := by
  obtain ⟨its, rv, ⟨o, n, ho, hc, _, hd⟩, _⟩ := I.list h
  exact shw_list ho hc hd (c its rv) hz
theorem shwc_tup (I : Inv X pins σ H s) {a : Addr} {vs : List V} {ps : List PyData} (h : SqT X.K H a vs) (c : ∀ us, Vals vs us → Shws X.prog X.w s.heap us ps) (hz : (PyData.shown (.tuple ps)).length ≤ sizeLine) : ShwC X.prog X.w s.heap a (.tuple ps) := by
  obtain ⟨its, rv, ⟨o, ho, hc, n, hd⟩, _⟩ := I.tuple h
  exact shw_tup ho hc hd (c its rv) hz
theorem shwc_dct (I : Inv X pins σ H s) {a : Addr} {ks : List Key} {vs : List V} {ps : List PyData} (h : H a = some (.dK (ks.zip vs))) (l : ks.length = vs.length) (l2 : ks.length = ps.length) (hs : PyData.showableKv ((ks.map keyPy).zip ps) = true) (c : ∀ us, Vals vs us → Shws X.prog X.w s.heap us ps)
    (hz : (PyData.shown (.dict ((ks.map keyPy).zip ps))).length ≤ sizeLine) : ShwC X.prog X.w s.heap a (.dict ((ks.map keyPy).zip ps)) := by
  obtain ⟨_, hsys, kvs, r, o, es, ep, ho, hx, hd, _, hp, _⟩ := dk_of I.hok h
  have hz' : (dictText (PyData.shownKv ((ks.map keyPy).zip ps))).length ≤ sizeLine := by simpa only [PyData.shown] using hz
  have z1 := zip_fst (as := ks.map keyPy) (bs := ps) (by simpa using l2)
  have z2 := zip_snd (as := ks.map keyPy) (bs := ps) (by simpa using l2)
  obtain ⟨k1, k2⟩ := keys_shw I r l hp (by have := (PyData.showableKv_split _ hs).1; rw [z1] at this; exact this) (fun t ht => by
    rw [← z1] at ht
    obtain ⟨p, hp, hl⟩ := PyData.shownKv_key_le _ t ht
    exact Nat.le_trans hl (Nat.le_trans (dictText_mem_le hp) hz'))
  exact shw_dict ho hx.1 hd hsys (by rw [z1]; exact k1) (by rw [z2]; exact c _ k2) hz
mutual
theorem shw_of (I : Inv X pins σ H s) (sm : Same F H) : ∀ (d : D) {v : V} {u : Value} {p : PyData}, Rep X.K F d v → RelV v u → d.py = some p → p.showable = true → p.shown.length ≤ sizeLine → Shw X.prog X.w s.heap u p
  | .non, _, _, _, h, r, e, hs, hz => by
    simp only [D.py] at e; cases e
    simp only [Rep] at h; subst h
    cases r
    exact ⟨[], [], .none, (fun _ h => nomatch h), by simp only [PyData.shown]; exact .of_is ReprIs.none _ _ _⟩
  | .bl b, _, _, _, h, r, e, hs, hz => by
    simp only [D.py] at e; cases e
    simp only [Rep] at h; subst h
    cases r
    exact ⟨[], [], .bool b, (fun _ h => nomatch h), by simp only [PyData.shown]; exact .of_is (ReprIs.bool b) _ _ _⟩
  | .int i, _, _, _, h, r, e, hs, hz => by
    simp only [D.py] at e; cases e
    simp only [Rep] at h; subst h
    obtain ⟨t, rfl⟩ := r
    exact ⟨[], [], .int i t, (fun _ h => nomatch h), by simp only [PyData.shown]; exact .of_is (ReprIs.int t (by simpa [PyData.showable] using hs)) _ _ _⟩
  | .str x, _, _, _, h, r, e, hs, hz => by
    simp only [D.py] at e; cases e
    simp only [Rep] at h; subst h
    obtain ⟨t, rfl⟩ := r
    exact ⟨[], [], .str x t, (fun _ h => nomatch h), by simp only [PyData.shown]; exact .of_is (ReprIs.str x t (by simpa only [PyData.shown] using hz)) _ _ _⟩
  | .ty _, _, _, _, _, _, e, _, _ => by simp [D.py] at e
  | .ref _, _, _, _, _, _, e, _, _ => by simp [D.py] at e
  | .rol _, _, _, _, _, _, e, _, _ => by simp [D.py] at e
  | .ins _ _ _, _, _, _, _, _, e, _, _ => by simp [D.py] at e
  | .tup ds, _, _, _, h, r, e, hs, hz => by
    simp only [D.py] at e
    split at e
    · rename_i ps hp
      cases e
      simp only [Rep] at h
      obtain ⟨a, vs, rfl, h1, h2⟩ := h
      cases r
      have hz' : (tupleText (PyData.shownAll ps)).length ≤ sizeLine := by simpa only [PyData.shown] using hz
      exact (shwc_tup I (SqT.same sm h1) (fun us ru => shws_of I sm ds h2 ru hp (by simpa [PyData.showable] using hs) fun t ht => Nat.le_trans (tupleText_mem_le ht) hz') hz).shw
    · cases e
  | .lst ds, _, _, _, h, r, e, hs, hz => by
    simp only [D.py] at e
    split at e
    · rename_i ps hp
      cases e
      simp only [Rep] at h
      obtain ⟨a, vs, rfl, h1, h2⟩ := h
      cases r
      have hz' : (listText (PyData.shownAll ps)).length ≤ sizeLine := by simpa only [PyData.shown] using hz
      exact (shwc_lst I (.of (sm _ _ h1)) (fun us ru => shws_of I sm ds h2 ru hp (by simpa [PyData.showable] using hs) fun t ht => Nat.le_trans (listText_mem_le ht) hz') hz).shw
    · cases e
  | .dct ks ds, _, _, _, h, r, e, hs, hz => by
    rw [dct_py, Option.map_eq_some_iff] at e
    obtain ⟨ps, hp, rfl⟩ := e
    simp only [Rep] at h
    obtain ⟨a, vs, rfl, h1, l, h2⟩ := h
    cases r
    have l2 : ks.length = ps.length := by rw [l, pys_len hp]
    have hz' : (dictText (PyData.shownKv ((ks.map keyPy).zip ps))).length ≤ sizeLine := by simpa only [PyData.shown] using hz
    have z2 := zip_snd (as := ks.map keyPy) (bs := ps) (by simpa using l2)
    have hs' : PyData.showableKv ((ks.map keyPy).zip ps) = true := by simpa [PyData.showable] using hs
    refine (shwc_dct I (sm _ _ h1) (by rw [l, h2.len]) l2 hs' (fun us ru => shws_of I sm ds h2 ru hp (by have := (PyData.showableKv_split _ hs').2; rw [z2] at this; exact this) fun t ht => ?_) hz).shw
    rw [← z2] at ht
    obtain ⟨p, hp, hl⟩ := PyData.shownKv_val_le _ t ht
    exact Nat.le_trans hl (Nat.le_trans (dictText_mem_le hp) hz')
theorem shws_of (I : Inv X pins σ H s) (sm : Same F H) : ∀ (ds : List D) {vs : List V} {us : List Value} {ps : List PyData}, Reps X.K F ds vs → Vals vs us → D.pys ds = some ps → PyData.showableAll ps = true → (∀ t ∈ PyData.shownAll ps, t.length ≤ sizeLine) → Shws X.prog X.w s.heap us ps
  | [], _, _, _, h, r, e, _, _ => by
    simp only [D.pys] at e; cases e
    simp only [Reps] at h; subst h
    cases r
    exact Shws.nil
  | d :: ds, _, _, _, h, r, e, hs, hz => by
    simp only [D.pys] at e
    split at e
    · rename_i p ps h1 h2
      cases e
      obtain ⟨v, vs, rfl, q1, q2⟩ := h
      cases r with
      | cons r1 r2 =>
        simp only [PyData.showableAll, Bool.and_eq_true] at hs
        simp only [PyData.shownAll, List.mem_cons] at hz
        exact Shws.cons (shw_of I sm d q1 r1 h1 hs.1 (hz _ (.inl rfl))) (shws_of I sm ds q2 r2 h2 hs.2 fun t ht => hz t (.inr ht))
    · cases e
end
end
def isDisp : D → Bool
  | .tup _ => true
  | .lst _ => true
  | .dct _ _ => true
  | _ => false
def rRepr (K : PySem.W.Frag) : List V → Hp → VK → Prop := fun vs H Q => ∃ F d v p, vs = [v] ∧ Same F H ∧ Vw K F H d v ∧ d.py = some p ∧ isDisp d = true ∧ p.showable = true ∧ p.shown.length ≤ sizeLine ∧ p.depth ≤ 64 ∧ Q (.str p.shown) H
theorem vw_shwc {X : Cx} {pins : List (Addr × Obj)} {σ : L2.St} {F H : Hp} {s : Shared} (I : Inv X pins σ H s) (sm : Same F H) {d : D} {v : V} {p : PyData} (hd : isDisp d = true) (h : Vw X.K F H d v) (e : d.py = some p) (hs : p.showable = true) (hz : p.shown.length ≤ sizeLine) : ∃ a, v = .ref a ∧ ShwC X.prog X.w s.heap a p := by
  cases d with
  | tup ds =>
    simp only [D.py] at e
    split at e
    · rename_i ps hp
      cases e
      have h' : Rep X.K F (.tup ds) v := h
      simp only [Rep] at h'
      obtain ⟨a, vs, rfl, h1, h2⟩ := h'
      have hz' : (tupleText (PyData.shownAll ps)).length ≤ sizeLine := by simpa only [PyData.shown] using hz
      exact ⟨a, rfl, shwc_tup I (SqT.same sm h1) (fun us ru => shws_of I sm ds h2 ru hp (by simpa [PyData.showable] using hs) fun t ht => Nat.le_trans (tupleText_mem_le ht) hz') hz⟩
    · cases e
  | lst ds =>
    simp only [D.py] at e
    split at e
    · rename_i ps hp
      cases e
      obtain ⟨a, vs, rfl, h1, h2⟩ := h
      have hz' : (listText (PyData.shownAll ps)).length ≤ sizeLine := by simpa only [PyData.shown] using hz
      exact ⟨a, rfl, shwc_lst I (.of h1) (fun us ru => shws_of I sm ds h2 ru hp (by simpa [PyData.showable] using hs) fun t ht => Nat.le_trans (listText_mem_le ht) hz') hz⟩
    · cases e
  | dct ks ds =>
    rw [dct_py, Option.map_eq_some_iff] at e
    obtain ⟨ps, hp, rfl⟩ := e
    obtain ⟨a, vs, rfl, h1, l, h2⟩ := h
    have l2 : ks.length = ps.length := by rw [l, pys_len hp]
    have hz' : (dictText (PyData.shownKv ((ks.map keyPy).zip ps))).length ≤ sizeLine := by simpa only [PyData.shown] using hz
    have z2 := zip_snd (as := ks.map keyPy) (bs := ps) (by simpa using l2)
    have hs' : PyData.showableKv ((ks.map keyPy).zip ps) = true := by simpa [PyData.showable] using hs
    refine ⟨a, rfl, shwc_dct I h1 (by rw [l, h2.len]) l2 hs' (fun us ru => shws_of I sm ds h2 ru hp (by have := (PyData.showableKv_split _ hs').2; rw [z2] at this; exact this) fun t ht => ?_) hz⟩
    rw [← z2] at ht
    obtain ⟨p, hp, hl⟩ := PyData.shownKv_val_le _ t ht
    exact Nat.le_trans hl (Nat.le_trans (dictText_mem_le hp) hz')
  | _ => simp [isDisp] at hd
theorem cr_repr {X : Cx} {k : Nat} (hr : Room k X.A) (gd : X.A.guards = some []) : CallR X (.builtin "repr") (rRepr X.K) := by
  intro pins s σ H vs us Q I r h
  obtain ⟨F, d, v, p, rfl, sm, hv, e, hd, hs, hz, hdp, q⟩ := h
  obtain ⟨u, rfl, ru⟩ := vals1 r
  obtain ⟨a, rfl, sh⟩ := vw_shwc I sm hd hv e hs hz
  cases ru
  obtain ⟨T, idr, S⟩ := sh.by_
  have hu := hr.un
  exact call_repr_slot (by omega) (S.typeIs s fun _ _ e => e) S.slotRepr (S.call X.A.in1 X.xe s _ gd (by show X.A.units + 1 + p.depth < cLine; omega) (fun _ _ e => e) fun h' u tk hk => ⟨_, _, rfl, .str p.shown, H, I.kept (t' := tk) hk, ⟨u, rfl⟩, q⟩)
def hRepr : List D → Option R
  | [d] => match d.py with
    | some p => if isDisp d = true ∧ p.showable = true ∧ p.shown.length ≤ sizeLine ∧ p.depth ≤ 64 then some (.val (.str p.shown)) else none
    | none => none
  | _ => none
theorem blt_repr {X : Cx} {k : Nat} (hr : Room k X.A) (gd : X.A.guards = some []) : BltR X "repr" hRepr := ⟨_, cr_repr hr gd, fun F H ds vs ro Q s a e q => by
  unfold hRepr at e
  split at e
  · rename_i d
    split at e
    · rename_i p hp
      split at e
      · rename_i hc
        cases e
        obtain ⟨v, rfl, hv⟩ := Vws.one a
        exact ⟨F, d, v, p, rfl, s, hv, hp, hc.1, hc.2.1, hc.2.2.1, hc.2.2.2, q.flat s rfl⟩
      · cases e
    · cases e
  · cases e⟩
end DL
end
section
set_option maxRecDepth 100000
set_option maxHeartbeats 4000000
namespace DL
open PySem PySem.Spec PyProof.Rows L2
variable [tb : Tb]
/-! ### a op b op c, b an int -/
def fin1 (h : D → D → Option R) (d : Option D) (d' : Option D) (env : DEnv) : Res R := match d, d' with
  | some d, some d' => (match h d d' with
    | some ro => .ok ro env
    | none => .bad)
  | _, _ => .bad
def dChain (h1 h2 : D → D → Option R) (f g k : M R) : M R := fun env => (f env).bind fun r1 e1 => (g e1).bind fun r2 e2 => match resolve e2 r1, resolve e2 r2 with
  | some d1, some (.int j) => (match h1 d1 (.int j) with
    | some (.val (.bl true)) => (k e2).bind fun r3 e3 => fin1 h2 (some (.int j)) (resolve e3 r3) e3
    | some (.val (.bl false)) => .ok (.val (.bl false)) e2
    | _ => .bad)
  | _, _ => .bad
section
variable {K : PySem.W.Frag} {mg : Str → Option Value} {pv : Nat → Option V} {W : WX} {f g k : M R} {h1 h2 : D → D → Option R} {r r' : R2} {σ : L2.St} {H : Hp} {Q : VK}
theorem dChain_rd (hv : OpV K r h1) (hv' : OpV K r' h2) (q : tD K mg pv W (dChain h1 h2 f g k) σ H Q) : tChain r r' (tD K mg pv W f) (tD K mg pv W g) (tD K mg pv W k) σ H Q := by
  obtain ⟨env, F, A, ws, q⟩ := q
  simp only [dChain] at q
  refine tD_bind ws (fun e => ?_) (fun c e1 e F1 H1 A1 s1 w1 => ?_) (fun r1 e1 e v1 F1 H1 A1 B1 s1 rs1 => ?_)
  · rw [e] at q; exact q
  · rw [e] at q; exact q F1 H1 A1 s1 w1
  · rw [e] at q
    simp only [Res.bind] at q
    refine tD_bind rs1.ws (fun e => ?_) (fun c e2 e F2 H2 A2 s2 w2 => ?_) (fun r2 e2 e v2 F2 H2 A2 B2 s2 rs2 => ?_)
    · rw [e] at q; exact q
    · rw [e] at q
      exact q F2 H2 A2 (s1.trans ((s2.frame (fun a => a ∈ B1)).less fun x hx => .inl hx)) w2
    · rw [e] at q
      simp only at q
      obtain ⟨k1, k2, k3⟩ := rs1.wait s2 rs2.ws
      cases z1 : resolve e2 r1 with
      | none => simp only [z1] at q
      | some d1 =>
        cases z2 : resolve e2 r2 with
        | none => simp only [z1, z2] at q
        | some d2 =>
          cases d2 with
          | int j =>
            simp only [z1, z2] at q
            have vy : v2 = .int j := rs2.rr.view rs2.ws z2
            subst vy
            have st := s1.trans (s2.frame (fun a => a ∈ B1))
            cases z3 : h1 d1 (.int j) with
            | none => simp only [z3] at q
            | some ro =>
              rw [z3] at q
              cases ro with
              | own o => exact q.elim
              | bor i => exact q.elim
              | val d =>
                cases d with
                | bl b =>
                  refine hv F2 H2 d1 (.int j) v1 (.int j) _ _ rs2.ws.sub (k1.view rs2.ws z1) rfl z3 fun v F3 H3 B3 n s rv => ?_
                  obtain ⟨y1, y2⟩ := fin_op st (fun a ha => .inl (.inl ha)) rs2.ws n s rv
                  have hv1 : v = .bl b := rv.2
                  subst hv1
                  refine ⟨b, rfl, ?_⟩
                  cases b with
                  | false => exact q _ F3 H3 A2 [] ((step_drop y1).trans step_id) (rs_val y2.ws rfl)
                  | true =>
                    rw [if_pos rfl]
                    simp only at q
                    refine tD_bind y2.ws (fun e => ?_) (fun c e4 e F4 H4 A4 s4 w4 => ?_) (fun r4 e4 e v4 F4 H4 A4 B4 s4 rs4 => ?_)
                    · rw [e] at q; exact q
                    · rw [e] at q; exact q F4 H4 A4 ((step_drop y1).trans s4) w4
                    · rw [e] at q
                      simp only [fin1] at q
                      cases z4 : resolve e4 r4 with
                      | none => simp only [z4] at q
                      | some d4 =>
                        simp only [z4] at q
                        cases z5 : h2 (.int j) d4 with
                        | none => simp only [z5] at q
                        | some ro =>
                          simp only [z5] at q
                          refine hv' F4 H4 (.int j) d4 (.int j) v4 ro Q rs4.ws.sub rfl (rs4.rr.view rs4.ws z4) z5 fun v F5 H5 B5 n s rv => ?_
                          obtain ⟨x1, x2⟩ := fin_op ((step_drop y1).trans s4) (fun a ha => .inl ha) rs4.ws n s rv
                          exact q v F5 H5 A4 B5 x1 x2
                | _ => exact q.elim
          | _ => simp only [z1, z2] at q
end
section
variable {X : Cx} {pv : Nat → Option V} {W : WX} {f g k : M R} {h1 h2 : D → D → Option R} {a b c : Expr} {pos : Pos} {op op' : CmpOp}
theorem de_chain (c1 : CmpR X op h1) (c2 : CmpR X op' h2) (ha : PE X a (tD X.K X.mg pv W f)) (hb : PE X b (tD X.K X.mg pv W g)) (hc : PE X c (tD X.K X.mg pv W k)) (hm : lastMarks [op, op'] [b, c] = false := by with_unfolding_all rfl) :
    PE X (.Compare a [op, op'] [b, c] pos) (tD X.K X.mg pv W (dChain h1 h2 f g k)) :=
  let ⟨_, o1, v1⟩ := c1.ex
  let ⟨_, o2, v2⟩ := c2.ex
  (pe_chain o1 o2 ha hb hc hm).imp fun _ _ _ q => dChain_rd v1 v2 q
theorem dt_chain (c1 : CmpR X op h1) (c2 : CmpR X op' h2) (ha : PE X a (tD X.K X.mg pv W f)) (hb : PE X b (tD X.K X.mg pv W g)) (hc : PE X c (tD X.K X.mg pv W k)) (hm : lastMarks [op, op'] [b, c] = false := by with_unfolding_all rfl) :
    PT X (.Compare a [op, op'] [b, c] pos) (tDT X.K X.mg pv W (tst (dChain h1 h2 f g k))) :=
  let ⟨_, o1, v1⟩ := c1.ex
  let ⟨_, o2, v2⟩ := c2.ex
  (pt_chain o1 o2 ha hb hc hm).imp fun σ H Q q => by
    have z := tst_rd q
    have z2 : tTest (tD X.K X.mg pv W (dChain h1 h2 f g k)) σ H Q := z
    exact dChain_rd v1 v2 z2
/-! ### names of the module -/
theorem de_glob {x : Str} {u : Value} {v : V} {d : D} (hg : Gl X x) (hm : X.mg x = some u) (rv : RelV v u) (rd : ∀ F, Rep X.K F d v) (hd : (x == ("__debug__" : Str)) = false := by decide) : PE X (.Name x pos) (tD X.K X.mg pv W (dC d)) := de_c (pe_glob hg hm rv hd) rd
end
/-! ### a, b = x, y -/
def setRs : List (How × Nat) → List R → DEnv → Res Flow
  | [], [], env => .ok .nx env
  | (h, i) :: ts, r :: rs, env => (match r with
    | .bor _ => .bad
    | _ => (setR h i r env).bind fun _ e => setRs ts rs e)
  | _, _, _ => .bad
def sPar (ts : List (How × Nat)) (fs : M (List R)) : M Flow := fun env => (fs env).bind (setRs ts)
def setsV (σ : L2.St) : List (How × Nat) → List V → L2.St
  | [], _ => σ
  | (_, i) :: ts, v :: vs => setsV (σ.set i (some v)) ts vs
  | _ :: _, [] => σ
section
variable {K : PySem.W.Frag} {mg : Str → Option Value} {pv : Nat → Option V} {W : WX} {D : Ends}
theorem setR_nx {h : How} {i : Nat} {r : R} {env : DEnv} {fl : Flow} {e : DEnv} (q : setR h i r env = .ok fl e) : fl = .nx := by
  unfold setR at q
  split at q
  · split at q
    all_goals first
      | (cases q; rfl)
      | (split at q <;> first | (cases q; rfl) | (split at q <;> first | (cases q; rfl) | cases q) | cases q)
      | cases q
  · cases q
theorem sets_end : ∀ {ts : List (How × Nat)} {rs : List R} {vs : List V} {B : List Addr} {F0 H0 F1 H1 : Hp} {A0 A1 : Nat → List Addr} {e : DEnv} {σ : L2.St}, Step F0 H0 (UA A0) F1 H1 (fun a => UA A1 a ∨ a ∈ B) → RSs K pv e σ rs vs F1 H1 A1 B →
    SPost K mg pv W D F0 H0 A0 (setRs ts rs e) → vs.length = ts.length ∧ D.nx (setsV σ ts vs) H1
  | [], [], _, B, F0, H0, F1, H1, A0, A1, e, σ, st, rss, q => by
    obtain ⟨rfl, rfl⟩ := rss.rr
    exact ⟨rfl, q σ F1 H1 A1 (step_drop st) rss.ws⟩
  | [], _ :: _, _, _, _, _, _, _, _, _, _, _, _, _, q => q.elim
  | _ :: _, [], _, _, _, _, _, _, _, _, _, _, _, _, q => q.elim
  | (h, i) :: ts, r :: rs, _, B, F0, H0, F1, H1, A0, A1, e, σ, st, rss, q => by
    obtain ⟨v, t, B1, B2, rfl, rfl, r1, r2⟩ := rss.rr
    simp only [setRs] at q
    have nb : ∀ j, r ≠ .bor j := fun j z => by subst z; exact q
    have q1 : SPost K mg pv W D F0 H0 A0 ((setR h i r e).bind fun _ e => setRs ts rs e) := by
      cases r with
      | bor j => exact absurd rfl (nb j)
      | val d => exact q
      | own o => exact q
    clear q
    have nd := List.nodup_append.mp rss.nd
    have rs1 : RS K pv e σ r v F1 H1 A1 B1 := ⟨rss.ws, r1, nd.1, fun a ha => rss.dj a (List.mem_append_left _ ha), fun a ha => rss.dis a (List.mem_append_left _ ha)⟩
    let A0' : Nat → List Addr := fun j => if j = 0 then A1 0 ++ B1 else A1 j
    have hA0 : ∀ a, UA A0' a ↔ (UA A1 a ∨ a ∈ B1) := fun a => by
      constructor
      · rintro ⟨j, hj⟩
        by_cases z : j = 0
        · subst z
          rcases List.mem_append.mp (show a ∈ A1 0 ++ B1 from hj) with h | h
          · exact .inl ⟨0, h⟩
          · exact .inr h
        · have : A0' j = A1 j := if_neg z
          rw [this] at hj
          exact .inl ⟨j, hj⟩
      · rintro (⟨j, hj⟩ | h)
        · by_cases z : j = 0
          · subst z; exact ⟨0, List.mem_append_left _ hj⟩
          · exact ⟨j, by rw [show A0' j = A1 j from if_neg z]; exact hj⟩
        · exact ⟨0, List.mem_append_right _ h⟩
    have st0 : Step F1 H1 (UA A0') F1 H1 (fun a => UA A1 a ∨ a ∈ B1) := Step.refl.less fun a h => (hA0 a).mpr h
    -- what stands behind the first store
    let D' : Ends := { nx := fun σ' H' => ∀ v', σ' = σ.set i (some v') → H' = H1 → v' = v → t.length = ts.length ∧ D.nx (setsV σ' ts t) H1, rt := fun _ _ => True }
    cases e1 : setR h i r e with
    | bad => rw [e1] at q1; exact q1.elim
    | exc c env' =>
      exfalso
      unfold setR at e1
      split at e1
      · split at e1
        all_goals first
          | cases e1
          | (split at e1 <;> first | cases e1 | (split at e1 <;> cases e1))
      · cases e1
    | ok fl e2 =>
      rw [e1] at q1
      simp only [Res.bind] at q1
      have hfl := setR_nx e1
      subst hfl
      have key : D'.nx (σ.set i (some v)) H1 := by
        refine set_end (K := K) (mg := mg) (pv := pv) (W := W) (D := D') (h := h) st0 rs1 ?_
        rw [e1]
        intro σ' F' H' A' s' w' v' hσ hH hv
        subst hH hv
        have th : ∀ b ∈ B2, H' b ≠ none := by
          clear q1 s' w' st st0
          have : ∀ {rs : List R} {vs : List V} {B : List Addr}, RReps K e σ F1 H' rs vs B → ∀ b ∈ B, H' b ≠ none := by
            intro rs
            induction rs with
            | nil => intro vs B h b hb; rw [h.2] at hb; cases hb
            | cons r rs ih =>
              intro vs B h b hb
              obtain ⟨v, t, B1, B2, rfl, rfl, h1, h2⟩ := h
              rcases List.mem_append.mp hb with hb | hb
              · exact h1.there b hb
              · exact ih h2 b hb
          exact this r2
        have nU : ∀ b ∈ B2, ¬ UA A0' b := fun b hb hu => by
          rcases (hA0 b).mp hu with h | h
          · exact rss.dj b (List.mem_append_right _ hb) h
          · exact nd.2.2 b h b hb rfl
        have rr2 : RReps K e2 σ' F' H' rs t B2 := by
          have stay : ∀ {rs : List R} {vs : List V} {B : List Addr}, RReps K e σ F1 H' rs vs B → (∃ f, setRs ts rs e2 = f ∧ SPost K mg pv W D F0 H0 A0 f) → True := fun _ _ => trivial
          have gen : ∀ {ts : List (How × Nat)} {rs : List R} {vs : List V} {B : List Addr} {e2 : DEnv}, RReps K e σ F1 H' rs vs B → SPost K mg pv W D F0 H0 A0 (setRs ts rs e2) → ∀ e3, RReps K e3 σ' F' H' rs vs B := by
            intro ts rs
            induction rs generalizing ts with
            | nil => intro vs B e2 h _ _; exact h
            | cons r rs ih =>
              intro vs B e2 h q e3
              obtain ⟨v, t, B1, B2, rfl, rfl, h1, h2⟩ := h
              cases ts with
              | nil => exact q.elim
              | cons p ts =>
                obtain ⟨hh, ii⟩ := p
                simp only [setRs] at q
                cases r with
                | bor j => exact q.elim
                | val d =>
                  simp only at q
                  refine ⟨v, t, B1, B2, rfl, rfl, ⟨h1.1, Rep.same s'.fz d h1.2⟩, ?_⟩
                  cases e4 : setR hh ii (.val d) e2 with
                  | bad => rw [e4] at q; exact q.elim
                  | exc c e5 => exfalso; unfold setR at e4; split at e4 <;> first | (cases hh <;> cases e4) | cases e4
                  | ok fl e5 => rw [e4] at q; exact ih h2 q e3
                | own o =>
                  simp only at q
                  refine ⟨v, t, B1, B2, rfl, rfl, Own.stay s'.fz o h1 fun _ _ _ z => z, ?_⟩
                  cases e4 : setR hh ii (.own o) e2 with
                  | bad => rw [e4] at q; exact q.elim
                  | exc c e5 => exfalso; unfold setR at e4; split at e4 <;> first | (cases hh <;> first | cases e4 | (simp only at e4; split at e4 <;> cases e4)) | cases e4
                  | ok fl e5 => rw [e4] at q; exact ih h2 q e3
          exact gen r2 q1 e2
        have fullS : Step F0 H0 (UA A0) F' H' (fun a => UA A' a ∨ a ∈ B2) := by
          have s1 : Step F1 H' (fun a => UA A1 a ∨ a ∈ B1 ++ B2) F' H' (fun a => UA A' a ∨ a ∈ B2) :=
            ((s'.frame (fun a => a ∈ B2)).more (P2 := fun a => UA A1 a ∨ a ∈ B1 ++ B2) fun a ha => by
              rcases ha with h | h
              · rcases (hA0 a).mp h with h | h
                · exact .inl h
                · exact .inr (List.mem_append_left _ h)
              · exact .inr (List.mem_append_right _ h))
          exact st.trans s1
        have rss2 : RSs K pv e2 σ' rs t F' H' A' B2 := by
          refine ⟨w', rr2, nd.2.1, fun a ha hu => ?_, fun a ha => ?_⟩
          · rcases s'.own a hu with h | h
            · exact nU a ha h
            · exact th a ha h
          · apply Classical.byContradiction
            intro z
            rcases s'.new a z with h | h | h
            · exact h (rss.dis a (List.mem_append_right _ ha))
            · exact th a ha h
            · exact nU a ha h
        subst hσ
        exact sets_end fullS rss2 q1
      obtain ⟨k1, k2⟩ := key v rfl rfl rfl
      exact ⟨by simp [k1], k2⟩
theorem sPar_rd2 {h1 h2 : How} {i j : Nat} {fs : M (List R)} {σ : L2.St} {H : Hp} (q : sD K mg pv W (sPar [(h1, i), (h2, j)] fs) D σ H) : tPar i j (tDA K mg pv W fs) D σ H := by
  obtain ⟨env, F, A, ws, q⟩ := sD_iff.mp q
  simp only [sPar] at q
  refine tDA_bind ws (fun e => ?_) (fun c e1 e F1 H1 A1 s1 w1 => ?_) (fun r1 e1 e v1 F1 H1 A1 B1 s1 rs1 => ?_)
  · rw [e] at q; exact q
  · rw [e] at q; exact q σ F1 H1 A1 s1 w1
  · rw [e] at q
    obtain ⟨l, k⟩ := sets_end s1 rs1 q
    cases v1 with
    | nil => simp at l
    | cons a v1 =>
      cases v1 with
      | nil => simp at l
      | cons b v1 =>
        cases v1 with
        | nil => exact ⟨a, b, rfl, k⟩
        | cons _ _ => simp at l
theorem sPar_rd3 {h1 h2 h3 : How} {i j m : Nat} {fs : M (List R)} {σ : L2.St} {H : Hp} (q : sD K mg pv W (sPar [(h1, i), (h2, j), (h3, m)] fs) D σ H) : tPar3 i j m (tDA K mg pv W fs) D σ H := by
  obtain ⟨env, F, A, ws, q⟩ := sD_iff.mp q
  simp only [sPar] at q
  refine tDA_bind ws (fun e => ?_) (fun c e1 e F1 H1 A1 s1 w1 => ?_) (fun r1 e1 e v1 F1 H1 A1 B1 s1 rs1 => ?_)
  · rw [e] at q; exact q
  · rw [e] at q; exact q σ F1 H1 A1 s1 w1
  · rw [e] at q
    obtain ⟨l, k⟩ := sets_end s1 rs1 q
    cases v1 with
    | nil => simp at l
    | cons a v1 =>
      cases v1 with
      | nil => simp at l
      | cons b v1 =>
        cases v1 with
        | nil => simp at l
        | cons c v1 =>
          cases v1 with
          | nil => exact ⟨a, b, c, rfl, k⟩
          | cons _ _ => simp at l
end
section
variable {X : Cx} {pv : Nat → Option V} {W : WX} {fs : M (List R)}
theorem ds_par {h1 h2 : How} {i j : Nat} {x y : Str} {a b : Expr} {px py pt pos : Pos} {kt k2 pt2} (hc : X.calm = true) (hN : X.N.Nodup) (hi : X.N[i]? = some x) (hj : X.N[j]? = some y) (hij : i ≠ j)
    (hx : X.env.scope.names.lookup x = some .local) (hy : X.env.scope.names.lookup y = some .local) (ha : PA X [a, b] (tDA X.K X.mg pv W fs))
    (hw : swappedStores [.Tuple [.Name x px, .Name y py] kt pt] (.Tuple [a, b] k2 pt2) X.env = pure (some [x, y]))
    (hs : swapsWithSole [.Tuple [.Name x px, .Name y py] kt pt] (.Tuple [a, b] k2 pt2) pos.line X.env = pure false := by rfl) :
    PS X (.Assign [.Tuple [.Name x px, .Name y py] kt pt] (.Tuple [a, b] k2 pt2) pos) (sD X.K X.mg pv W (sPar [(h1, i), (h2, j)] fs)) := (ps_par hc hN hi hj hij hx hy ha hw hs).imp fun _ _ _ q => sPar_rd2 q
theorem ds_par3 {h1 h2 h3 : How} {i j l : Nat} {x y z : Str} {a b c : Expr} {px py pz pt pos : Pos} {kt k2 pt2} (hc : X.calm = true) (hN : X.N.Nodup) (hi : X.N[i]? = some x) (hj : X.N[j]? = some y) (hl : X.N[l]? = some z) (hij : i ≠ j) (hil : i ≠ l) (hjl : j ≠ l)
    (hx : X.env.scope.names.lookup x = some .local) (hy : X.env.scope.names.lookup y = some .local) (hz : X.env.scope.names.lookup z = some .local) (ha : PA X [a, b, c] (tDA X.K X.mg pv W fs))
    (hw : swappedStores [.Tuple [.Name x px, .Name y py, .Name z pz] kt pt] (.Tuple [a, b, c] k2 pt2) X.env = pure (some [x, y, z]))
    (hs : swapsWithSole [.Tuple [.Name x px, .Name y py, .Name z pz] kt pt] (.Tuple [a, b, c] k2 pt2) pos.line X.env = pure false := by rfl) :
    PS X (.Assign [.Tuple [.Name x px, .Name y py, .Name z pz] kt pt] (.Tuple [a, b, c] k2 pt2) pos) (sD X.K X.mg pv W (sPar [(h1, i), (h2, j), (h3, l)] fs)) := (ps_par3 hc hN hi hj hl hij hil hjl hx hy hz ha hw hs).imp fun _ _ _ q => sPar_rd3 q
end
end DL
end
section
set_option maxRecDepth 100000
set_option maxHeartbeats 4000000
namespace DL
open PySem PySem.Spec PyProof.Rows L2
variable [tb : Tb]
/-! ### results that wait -/
section
variable {K : PySem.W.Frag} {pv : Nat → Option V} {env env2 : DEnv} {σ : L2.St} {F F' H H' : Hp} {A A' : Nat → List Addr} {B : List Addr} {rs : List R} {vs : List V}
theorem RReps.there : ∀ {rs : List R} {vs : List V} {B : List Addr}, RReps K env σ F H rs vs B → ∀ b ∈ B, Nd (H b)
  | [], _, _, h, b, hb => by rw [h.2] at hb; cases hb
  | r :: rs, _, _, h, b, hb => by
    obtain ⟨v, t, B1, B2, rfl, rfl, h1, h2⟩ := h
    rcases List.mem_append.mp hb with hb | hb
    · exact h1.nd b hb
    · exact RReps.there h2 b hb
theorem RReps.stay (e : Same F F') : ∀ {rs : List R} {vs : List V} {B : List Addr}, RReps K env σ F H rs vs B → (∀ b ∈ B, ∀ u, H b = some u → H' b = some u) → RReps K env2 σ F' H' rs vs B
  | [], _, _, h, _ => h
  | r :: rs, _, _, h, k => by
    obtain ⟨v, t, B1, B2, rfl, rfl, h1, h2⟩ := h
    exact ⟨v, t, B1, B2, rfl, rfl, h1.stay e fun b hb => k b (List.mem_append_left _ hb), RReps.stay e h2 fun b hb => k b (List.mem_append_right _ hb)⟩
theorem nd_some {o : Option HO} (h : Nd o) : o ≠ none := by
  cases o with
  | none => exact h.elim
  | some _ => simp
theorem RSs.wait (a : RSs K pv env σ rs vs F H A B) {P' : Addr → Prop} (s : Step F H (UA A) F' H' P') : RReps K env2 σ F' H' rs vs B ∧ (∀ x ∈ B, F' x = none) ∧ (∀ x ∈ B, ¬ P' x) := by
  have th := a.rr.there
  refine ⟨a.rr.stay s.fz fun b hb u e => s.keep b u e (Nd.noTb (by rw [← e]; exact th b hb)) (a.dj b hb), fun x hx => ?_, fun x hx p => ?_⟩
  · apply Classical.byContradiction
    intro z
    rcases s.new x z with q | q | q
    · exact q (a.dis x hx)
    · exact nd_some (th x hx) q
    · exact a.dj x hx q
  · rcases s.own x p with q | q
    · exact a.dj x hx q
    · exact nd_some (th x hx) q
end
/-! ### built-ins with keywords -/
def dBK (h : List D → List D → Option R) (fs ks : M (List R)) : M R := fun env => (fs env).bind fun rs e1 => (ks e1).bind fun ws e2 => match resolves e2 rs, resolves e2 ws with
  | some ds, some zs => (match h ds zs with
    | some ro => .ok ro e2
    | none => .bad)
  | _, _ => .bad
def CallKV (K : PySem.W.Frag) (r : List V → List V → Hp → VK → Prop) (h : List D → List D → Option R) : Prop := ∀ (F H : Hp) (ds zs : List D) (vs ws : List V) (ro : R) (Q : VK), Same F H → Vws K F H ds vs → Vws K F H zs ws → h ds zs = some ro → VOk K F H ro Q → r vs ws H Q
theorem dBK_rd {K : PySem.W.Frag} {mg : Str → Option Value} {pv : Nat → Option V} {W : WX} {h : List D → List D → Option R} {r : List V → List V → Hp → VK → Prop} {fs ks : M (List R)} {σ : L2.St} {H : Hp} {Q : VK} (hv : CallKV K r h) (q : tD K mg pv W (dBK h fs ks) σ H Q) :
    tCKw r (tDA K mg pv W fs) (tDA K mg pv W ks) σ H Q := by
  obtain ⟨env, F, A, ws, q⟩ := q
  simp only [dBK] at q
  refine tDA_bind ws (fun e => ?_) (fun c e1 e F1 H1 A1 s1 w1 => ?_) (fun r1 e1 e v1 F1 H1 A1 B1 s1 rs1 => ?_)
  · rw [e] at q; exact q
  · rw [e] at q; exact q F1 H1 A1 s1 w1
  · rw [e] at q
    simp only [Res.bind] at q
    refine tDA_bind rs1.ws (fun e => ?_) (fun c e2 e F2 H2 A2 s2 w2 => ?_) (fun r2 e2 e v2 F2 H2 A2 B2 s2 rs2 => ?_)
    · rw [e] at q; exact q
    · rw [e] at q
      exact q F2 H2 A2 (s1.trans ((s2.frame (fun a => a ∈ B1)).less fun x hx => .inl hx)) w2
    · rw [e] at q
      simp only at q
      obtain ⟨k1, k2, k3⟩ := rs1.wait (env2 := e2) s2
      cases z1 : resolves e2 r1 with
      | none => simp only [z1] at q
      | some ds =>
        cases z2 : resolves e2 r2 with
        | none => simp only [z1, z2] at q
        | some zs =>
          cases z3 : h ds zs with
          | none => simp only [z1, z2, z3] at q
          | some ro =>
            simp only [z1, z2, z3] at q
            have st := s1.trans (s2.frame (fun a => a ∈ B1))
            refine hv F2 H2 ds zs v1 v2 ro Q rs2.ws.sub (k1.views rs2.ws z1) (rs2.rr.views rs2.ws z2) z3 fun v F4 H4 B4 n s rv => ?_
            obtain ⟨z1, z2⟩ := fin_op st (fun a ha => .inl (.inl ha)) rs2.ws n s rv
            exact q v F4 H4 A2 B4 z1 z2
structure BltKR (X : Cx) (id : String) (ks : List Str) (h : List D → List D → Option R) : Prop where
  ex : ∃ r, CallRK X (.builtin id) ks r ∧ CallKV X.K r h
section
variable {X : Cx} {pv : Nat → Option V} {W : WX} {fs gs : M (List R)} {f : M R} {x : Str} {p pos kpos : Pos} {e : Expr} {es : List Expr} {kws : List Keyword} {id : String} {nm : Option Str} {h : List D → List D → Option R} {ks : List Str}
theorem dk_nil : PK X [] (tDA X.K X.mg pv W dNil) := ⟨fun pos pins s σ H Q I q => pk_nil.run pos pins s σ H Q I (dNil_rd q)⟩
theorem dk_cons (ha : PE X e (tD X.K X.mg pv W f)) (hr : PK X kws (tDA X.K X.mg pv W gs)) : PK X (⟨nm, e, kpos⟩ :: kws) (tDA X.K X.mg pv W (dCons f gs)) := ⟨fun pos pins s σ H Q I q => (pk_cons ha hr).run pos pins s σ H Q I (dCons_rd q)⟩
theorem de_bltK (b : BltKR X id ks h) (hg : Gl X x) (hm : X.mg x = none) (hv : bootBuiltins x = some (.builtin id)) (ha : PA X (e :: es) (tDA X.K X.mg pv W fs)) (hk : PK X kws (tDA X.K X.mg pv W gs)) (hn : x ≠ "__name__" := by decide) (hdb : (x == ("__debug__" : Str)) = false := by decide)
    (he : backTo pos (starEach (e :: es) X.env) = (false, eval e X.env) :: backTo pos (starEach es X.env) := by rfl) (hpl : (backTo pos (starEach (e :: es) X.env)).any (·.1) = false := by rfl)
    (hall : (backToKw pos (keywordEach kws X.env)).all (·.1.isSome) = true := by rfl) (hnone : (backToKw pos (keywordEach kws X.env)).any (·.1.isNone) = false := by rfl) (hks : (backToKw pos (keywordEach kws X.env)).filterMap (·.1) = ks := by rfl) :
    PE X (.Call (.Name x p) (e :: es) kws pos) (tD X.K X.mg pv W (dBK h fs gs)) :=
  let ⟨_, c, v⟩ := b.ex
  (pe_callBK c hg hm hv ha hk hn hdb he hpl hall hnone hks).imp fun _ _ _ q => dBK_rd v q
end
/-! ### max(xs, default=d) of ints -/
def flatD : D → Bool
  | .int _ => true
  | .non => true
  | _ => false
def hMaxDef (mx : List Int → Int) : List D → List D → Option R
  | [.lst ds], [d] => match ds with
    | [] => if flatD d = true then some (.val d) else none
    | _ :: _ => (match D.ints ds with
      | some ns => some (.val (.int (mx ns)))
      | none => none)
  | _, _ => none
theorem maxL_fold : ∀ (ns : List Int) (n : Int), ns.foldl max n = maxL (n :: ns)
  | [], n => rfl
  | m :: ns, n => by
    rw [List.foldl_cons, maxL_fold ns]
    show maxL (max n m :: ns) = max n (maxL (m :: ns))
    cases ns with
    | nil => rfl
    | cons k r => simp only [maxL]; omega
theorem minL_fold : ∀ (ns : List Int) (n : Int), ns.foldl min n = minL (n :: ns)
  | [], n => rfl
  | m :: ns, n => by
    rw [List.foldl_cons, minL_fold ns]
    show minL (min n m :: ns) = min n (minL (m :: ns))
    cases ns with
    | nil => rfl
    | cons k r => simp only [minL]; omega
theorem reads_ints {h : Heap} : ∀ {ns : List Int} {us : List Value}, Vals (ns.map V.int) us → ∃ as, ReadsAll h us (ns.map PyData.int) as
  | [], us, r => by
    rw [List.map_nil] at r
    cases r
    exact ⟨[], .nil⟩
  | n :: ns, us, r => by
    rw [List.map_cons] at r
    cases r with
    | cons r1 r2 =>
      obtain ⟨t, rfl⟩ := r1
      obtain ⟨as, q⟩ := reads_ints r2
      exact ⟨_, .cons (.int n t) q⟩
theorem alikeAll_ints (ns : List Int) : PySem.W.AlikeAll (ns.map PyData.int) := by
  refine ⟨fun x hx y hy => ?_, fun x hx => ?_⟩
  · obtain ⟨a, _, rfl⟩ := List.mem_map.mp hx
    obtain ⟨b, _, rfl⟩ := List.mem_map.mp hy
    simp [PySem.W.alike]
  · obtain ⟨a, _, rfl⟩ := List.mem_map.mp hx
    simp
def rMaxDef (K : PySem.W.Frag) (mx : List Int → Int) : List V → List V → Hp → VK → Prop := fun vs zs H Q => ∃ a ns z, vs = [.ref a] ∧ zs = [z] ∧ SqL K H a (ns.map V.int) ∧ (ns = [] → Q z H) ∧ (ns ≠ [] → Q (.int (mx ns)) H)
theorem cr_maxDef {X : Cx} (hc : X.calm = true) {k : Nat} (hr : Room k X.A) : CallRK X (.builtin "max") [Str.ofString "default"] (rMaxDef X.K maxL) := by
  intro pins s σ H xs zs us ws Q I r1 r2 h
  obtain ⟨a, ns, z, rfl, rfl, hs, q1, q2⟩ := h
  obtain ⟨its, rv, hl, _⟩ := I.list hs
  rw [Vals.ref1 r1]
  obtain ⟨u, rfl, ru⟩ := vals1 r2
  obtain ⟨as, rd⟩ := reads_ints (h := s.heap) rv
  have hu := hr.un
  refine PySem.W.max_list_default (I.ok.hd hc) hl.isList (by simpa using rd) (alikeAll_ints ns) (by rw [PySem.W.depth_ints]; omega) (fun e => ?_) fun y ys i v h' tk bs e hi rd hk => ?_
  · intro h' tk hk
    exact ⟨z, H, I.kept hk, ru, q1 (by simpa using e)⟩
  · cases ns with
    | nil => simp at e
    | cons n ns =>
      rw [List.map_cons] at e
      cases e
      rw [PySem.W.maxD_ints, maxL_fold] at rd
      cases rd with
      | int _ t => exact ⟨.int _, H, I.kept hk, ⟨t, rfl⟩, q2 (by simp)⟩
theorem cr_minDef {X : Cx} (hc : X.calm = true) {k : Nat} (hr : Room k X.A) : CallRK X (.builtin "min") [Str.ofString "default"] (rMaxDef X.K minL) := by
  intro pins s σ H xs zs us ws Q I r1 r2 h
  obtain ⟨a, ns, z, rfl, rfl, hs, q1, q2⟩ := h
  obtain ⟨its, rv, hl, _⟩ := I.list hs
  rw [Vals.ref1 r1]
  obtain ⟨u, rfl, ru⟩ := vals1 r2
  obtain ⟨as, rd⟩ := reads_ints (h := s.heap) rv
  have hu := hr.un
  refine PySem.W.min_list_default (I.ok.hd hc) hl.isList (by simpa using rd) (alikeAll_ints ns) (by rw [PySem.W.depth_ints]; omega) (fun e => ?_) fun y ys i v h' tk bs e hi rd hk => ?_
  · intro h' tk hk
    exact ⟨z, H, I.kept hk, ru, q1 (by simpa using e)⟩
  · cases ns with
    | nil => simp at e
    | cons n ns =>
      rw [List.map_cons] at e
      cases e
      rw [PySem.W.minD_ints, minL_fold] at rd
      cases rd with
      | int _ t => exact ⟨.int _, H, I.kept hk, ⟨t, rfl⟩, q2 (by simp)⟩
theorem cv_maxDef {K : PySem.W.Frag} {mx : List Int → Int} : CallKV K (rMaxDef K mx) (hMaxDef mx) := fun F H ds zs vs ws ro Q s a b e q => by
  unfold hMaxDef at e
  split at e
  · rename_i ds d
    obtain ⟨v, rfl, l, xs, rfl, h1, r1⟩ := Vws.one a
    obtain ⟨u, rfl, hu⟩ := Vws.one b
    cases ds with
    | nil =>
      simp only at e
      split at e
      · rename_i hf
        cases e
        simp only [Reps] at r1
        subst r1
        refine ⟨l, [], u, rfl, rfl, .of h1, fun _ => ?_, fun z => absurd rfl z⟩
        cases d <;> simp [flatD] at hf
        · exact q.flat s hu
        · exact q.flat s hu
      · cases e
    | cons d' ds' =>
      simp only at e
      split at e
      · rename_i ns hn
        cases e
        have hE := D.ints_eq hn
        rw [hE] at r1
        have hx := r1.ints
        subst hx
        refine ⟨l, ns, u, rfl, rfl, .of h1, fun z => ?_, fun _ => q.flat s rfl⟩
        subst z
        simp at hE
      · cases e
  · cases e
theorem bltk_maxDef {X : Cx} (hc : X.calm = true) {k : Nat} (hr : Room k X.A) : BltKR X "max" [Str.ofString "default"] (hMaxDef maxL) := ⟨_, cr_maxDef hc hr, cv_maxDef⟩
theorem bltk_minDef {X : Cx} (hc : X.calm = true) {k : Nat} (hr : Room k X.A) : BltKR X "min" [Str.ofString "default"] (hMaxDef minL) := ⟨_, cr_minDef hc hr, cv_maxDef⟩
end DL
end
section
set_option maxRecDepth 100000
set_option maxHeartbeats 4000000
namespace DL
open PySem PySem.Spec PyProof.Rows L2
variable [tb : Tb]
/-! ### {k: v, ..} -/
def flatM : List (M R × M R) → M (List R)
  | [] => dNil
  | (k, v) :: r => dCons k (dCons v (flatM r))
def keyOf : D → Option Key
  | .int i => some (.inl i)
  | .str x => some (.inr x)
  | _ => none
def unflat : List D → Option (List Key × List D)
  | [] => some ([], [])
  | k :: v :: r => match keyOf k, unflat r with
    | some k, some (ks, vs) => some (k :: ks, v :: vs)
    | _, _ => none
  | [_] => none
def dDisp (l : List (M R × M R)) : M R := fun env => (flatM l env).bind fun rs e => match (frzRs rs).bind unflat with
  | some (ks, ds) => if ks.Nodup ∧ ks.length ≤ 15 then .ok (.own (.dK ks ds)) e else .bad
  | none => .bad
def dDisp0 : M R := fun env => .ok (.own (.dK [] [])) env
def flatV : List (V × V) → List V
  | [] => []
  | (a, b) :: r => a :: b :: flatV r
section
variable {K : PySem.W.Frag} {mg : Str → Option Value} {pv : Nat → Option V} {W : WX} {σ : L2.St}
theorem tD_mono {f : M R} {H : Hp} {Q1 Q2 : VK} (a : tD K mg pv W f σ H Q1) (b : ∀ v H, Q1 v H → Q2 v H) : tD K mg pv W f σ H Q2 := by
  obtain ⟨env, F, A, ws, a⟩ := a
  refine ⟨env, F, A, ws, ?_⟩
  revert a
  cases f env with
  | bad => exact id
  | exc c e1 => exact id
  | ok r1 e1 => exact fun a v F' H' A' B s rs => b _ _ (a v F' H' A' B s rs)
theorem flat_rd : ∀ {l : List (M R × M R)} {H : Hp} {Q : List V → Hp → Prop} {Q2 : List (V × V) → Hp → Prop}, tDA K mg pv W (flatM l) σ H Q → (∀ ps H2, Q (flatV ps) H2 → Q2 ps H2) → tPairs (l.map fun p => (tD K mg pv W p.1, tD K mg pv W p.2)) σ H Q2
  | [], H, Q, Q2, q, m => m [] H (dNil_rd q)
  | (k, v) :: r, H, Q, Q2, q, m => by
    have q1 : tD K mg pv W k σ H fun x H1 => tDA K mg pv W (dCons v (flatM r)) σ H1 fun xs H2 => Q (x :: xs) H2 := dCons_rd q
    show tD K mg pv W k σ H fun x H1 => tD K mg pv W v σ H1 fun y H2 => tPairs (r.map fun p => (tD K mg pv W p.1, tD K mg pv W p.2)) σ H2 fun ps H3 => Q2 ((x, y) :: ps) H3
    refine tD_mono q1 fun x H1 q2 => ?_
    have q3 : tD K mg pv W v σ H1 fun y H2 => tDA K mg pv W (flatM r) σ H2 fun xs H3 => Q (x :: y :: xs) H3 := dCons_rd q2
    exact tD_mono q3 fun y H2 q4 => flat_rd q4 fun ps H3 q5 => m _ _ q5
theorem flatV_inj : ∀ {ps qs : List (V × V)}, flatV ps = flatV qs → ps = qs
  | [], [], _ => rfl
  | [], (_, _) :: _, h => by simp [flatV] at h
  | (_, _) :: _, [], h => by simp [flatV] at h
  | (a, b) :: ps, (c, d) :: qs, h => by
    simp only [flatV, List.cons.injEq] at h
    obtain ⟨rfl, rfl, h⟩ := h
    rw [flatV_inj h]
theorem keyOf_rep {F : Hp} {d : D} {v : V} {k : Key} (e : keyOf d = some k) (h : Rep K F d v) : v = kV k := by
  cases d <;> simp [keyOf] at e
  · subst e; simp only [Rep] at h; exact h
  · subst e; simp only [Rep] at h; exact h
theorem unflat_rep {F : Hp} : ∀ {ds : List D} {vs : List V} {ks : List Key} {dv : List D}, Reps K F ds vs → unflat ds = some (ks, dv) → ∃ us : List V, vs = flatV ((ks.zip us).map fun kv => (kV kv.1, kv.2)) ∧ Reps K F dv us ∧ ks.length = dv.length
  | [], vs, ks, dv, h, e => by
    simp only [unflat, Option.some.injEq, Prod.mk.injEq] at e
    obtain ⟨rfl, rfl⟩ := e
    simp only [Reps] at h
    subst h
    exact ⟨[], rfl, rfl, rfl⟩
  | [_], vs, ks, dv, h, e => by simp [unflat] at e
  | k :: v :: r, vs, ks, dv, h, e => by
    simp only [unflat] at e
    split at e
    · rename_i k' ks' vs' h1 h2
      cases e
      obtain ⟨a, t, rfl, r1, t2, t', rfl, r2, r3⟩ := h
      obtain ⟨us, rfl, r4, l⟩ := unflat_rep r3 h2
      refine ⟨t2 :: us, ?_, ⟨t2, us, rfl, r2, r4⟩, by simp [l]⟩
      rw [keyOf_rep h1 r1]
      rfl
    · cases e
theorem putK_new {kvs : List (Key × V)} {k : Key} {v : V} (h : k ∉ kvs.map (·.1)) : putK kvs k v = kvs ++ [(k, v)] := by
  unfold putK
  rw [if_neg]
  intro z
  obtain ⟨p, hp, e⟩ := List.any_eq_true.mp z
  exact h (List.mem_map.mpr ⟨p, hp, of_decide_eq_true e⟩)
theorem mergeK_new : ∀ {ks : List Key} {us : List V} {acc : List (Key × V)}, ks.Nodup → (∀ k ∈ ks, k ∉ acc.map (·.1)) → mergeK acc (ks.zip us) = acc ++ ks.zip us
  | [], us, acc, _, _ => by simp [mergeK]
  | k :: ks, [], acc, _, _ => by simp [mergeK]
  | k :: ks, u :: us, acc, nd, h => by
    rw [List.nodup_cons] at nd
    show mergeK (putK acc k u) (ks.zip us) = _
    rw [putK_new (h k List.mem_cons_self), mergeK_new nd.2]
    · simp
    · intro k' hk' z
      simp only [List.map_append, List.map_cons, List.map_nil, List.mem_append, List.mem_singleton] at z
      rcases z with z | z
      · exact h k' (List.mem_cons_of_mem _ hk') z
      · subst z; exact nd.1 hk'
theorem dDisp_rd {l : List (M R × M R)} {H : Hp} {Q : VK} (q : tD K mg pv W (dDisp l) σ H Q) : tDisp (l.map fun p => (tD K mg pv W p.1, tD K mg pv W p.2)) σ H Q := by
  obtain ⟨env, F, A, ws, q⟩ := q
  simp only [dDisp] at q
  intro p hp
  have nw : Nw F H F (upd H p (.dK [])) [p] := Nw.put hp ws.sub
  have w1 : WS K pv env σ F (upd H p (.dK [])) A := ws.nw nw (same_put hp ws.sub)
  have st0 : Step F H (UA A) F (upd H p (.dK [])) (fun a => UA A a ∨ a ∈ [p]) := ((nw.frame (UA A)).more (P2 := UA A) fun x hx => hx.elim False.elim id).less fun x hx => hx.symm
  have pA : ¬ UA A p := fun h => ws.there h hp
  have pF : F p = none := Same.free ws.sub hp
  refine flat_rd (Q := fun vs H2 => ∀ ps, vs = flatV ps → H2 p = some (.dK []) ∧ ∃ kvs : List (Key × V), ps = kvs.map (fun kv => (kV kv.1, kv.2)) ∧ kvs.length ≤ 15 ∧ Q (.ref p) (upd H2 p (.dK (mergeK [] kvs)))) ?_ fun ps H2 z => z ps rfl
  refine tDA_bind w1 (fun e => ?_) (fun c e1 e F1 H1 A1 s1 w1 => ?_) (fun rs e1 e vs F1 H1 A1 B1 s1 rs1 => ?_)
  · rw [e] at q; exact q
  · rw [e] at q; exact q F1 H1 A1 ((step_drop st0).trans s1) w1
  · rw [e] at q
    simp only [Res.bind] at q
    cases hf : frzRs rs with
    | none => simp only [hf, Option.bind] at q
    | some ds0 =>
      cases hu : unflat ds0 with
      | none => simp only [hf, Option.bind, hu] at q
      | some kd =>
        obtain ⟨ks, ds⟩ := kd
        simp only [hf, Option.bind, hu] at q
        by_cases hc : ks.Nodup ∧ ks.length ≤ 15
        · rw [if_pos hc] at q
          intro ps hps
          obtain ⟨G, g1, g2, g3⟩ := all_frz (mg := mg) s1 rs1 hf
          obtain ⟨us, hvs, r2, l2⟩ := unflat_rep g3 hu
          have e3 := flatV_inj (hps.symm.trans hvs)
          have hp1 : H1 p = some (.dK []) := g1.keep _ _ upd_same (fun ps z => by cases z) pA
          have pG : G p = none := by
            apply Classical.byContradiction
            intro z
            rcases g1.new p z with h | h | h
            · exact h pF
            · rw [upd_same] at h; cases h
            · exact pA h
          have pA1 : ¬ UA A1 p := fun h => by
            rcases g1.own p h with h | h
            · exact pA h
            · rw [upd_same] at h; cases h
          have lz : (ks.zip us).length ≤ 15 := by
            rw [List.length_zip]
            exact Nat.le_trans (Nat.min_le_left _ _) hc.2
          refine ⟨hp1, ks.zip us, e3, lz, ?_⟩
          rw [mergeK_new hc.1 (fun k _ z => by simp at z), List.nil_append]
          have ne : ∀ {b : Addr} {o : HO}, G b = some o → b ≠ p := fun {b o} h z => by rw [z, pG] at h; cases h
          have sub2 : Same G (upd H1 p (.dK (ks.zip us))) := fun b o h => by rw [upd_ne (ne h)]; exact g2.sub _ _ h
          have tm : TbsOk G H1 → TbsOk G (upd H1 p (.dK (ks.zip us))) := TbsOk.mut (by rw [hp1]; exact trivial)
          have w3 : WS K pv e1 σ G (upd H1 p (.dK (ks.zip us))) A1 := by
            refine g2.stay (Same.refl _) sub2 (fun b hb u hu => ?_) (fun b hb => g2.disU hb) tm
            rw [upd_ne fun z => pA1 (by rw [← z]; exact hb)]
            exact hu
          have st2 : Step F H (UA A) G H1 (fun a => UA A1 a ∨ a ∈ [p]) := st0.trans ((g1.frame fun a => a ∈ [p]))
          have st3 : Step F H (UA A) G (upd H1 p (.dK (ks.zip us))) (fun a => UA A1 a ∨ a ∈ [p]) := by
            refine st2.trans ⟨Same.refl _, fun b o h _ n => ?_, tm, fun b h => .inl h, fun b h => ?_, fun b h => .inl h⟩
            · rw [upd_ne fun z => n (.inr (by simp [z]))]; exact h
            · by_cases z : b = p
              · subst z; rw [upd_same] at h; cases h
              · rw [upd_ne z] at h; exact h
          refine q (.ref p) G _ A1 [p] st3 ⟨w3, ?_, by simp, fun a ha hu => ?_, fun a ha => ?_⟩
          · show Own K G _ (.dK ks ds) (.ref p) [p]
            unfold Own
            exact ⟨p, us, rfl, rfl, upd_same, l2, r2⟩
          · simp only [List.mem_singleton] at ha
            subst ha; exact pA1 hu
          · simp only [List.mem_singleton] at ha
            subst ha; exact pG
        · rw [if_neg hc] at q
          exact q.elim
theorem dDisp0_rd {H : Hp} {Q : VK} (q : tD K mg pv W dDisp0 σ H Q) : tDNewK σ H Q := by
  obtain ⟨env, F, A, ws, q⟩ := q
  intro p hp
  simp only [dDisp0] at q
  have nw : Nw F H F (upd H p (.dK [])) [p] := Nw.put hp ws.sub
  have rv : RV K F (upd H p (.dK [])) (.own (.dK [] [])) (.ref p) [p] := by
    refine ⟨?_, by simp, fun a ha => ?_⟩
    · simp only [Own]
      exact ⟨p, [], rfl, rfl, upd_same, rfl, rfl⟩
    · simp only [List.mem_singleton] at ha
      subst ha; exact Same.free ws.sub hp
  obtain ⟨z1, z2⟩ := fin_op (Step.refl (F := F) (H := H) (P := UA A)) (fun a h => h) ws nw (same_put hp ws.sub) rv
  exact q _ F _ A [p] z1 z2
end
section
variable {X : Cx} {pv : Nat → Option V} {W : WX} {pos : Pos}
theorem de_disp0 : PE X (.Dict [] [] pos) (tD X.K X.mg pv W dDisp0) := pe_dnewK.imp fun _ _ _ q => dDisp0_rd q
theorem dps_nil : PPs X pos [] [] ((([] : List (M R × M R))).map fun p => (tD X.K X.mg pv W p.1, tD X.K X.mg pv W p.2)) := pps_nil
theorem dps_cons {k v : Expr} {ks : List (Option Expr)} {vs : List Expr} {f g : M R} {l : List (M R × M R)} (hk : PE X k (tD X.K X.mg pv W f)) (hv : PE X v (tD X.K X.mg pv W g)) (hr : PPs X pos ks vs (l.map fun p => (tD X.K X.mg pv W p.1, tD X.K X.mg pv W p.2))) :
    PPs X pos (some k :: ks) (v :: vs) (((f, g) :: l).map fun p => (tD X.K X.mg pv W p.1, tD X.K X.mg pv W p.2)) := pps_cons hk hv hr
theorem de_disp {keys : List (Option Expr)} {values : List Expr} {l : List (M R × M R)} (h : PPs X pos keys values (l.map fun p => (tD X.K X.mg pv W p.1, tD X.K X.mg pv W p.2))) (hall : keys.all (·.isSome) = true := by rfl) (hl : keys.length = values.length := by rfl) (h0 : keys ≠ [] := by simp)
    (h15 : keys.length ≤ 15 := by decide) : PE X (.Dict keys values pos) (tD X.K X.mg pv W (dDisp l)) := (pe_disp h hall hl h0 h15).imp fun _ _ _ q => dDisp_rd q
end
/-! ### t[::-1], xs[::-1] -/
theorem adjust_rev (n : Nat) : Builtin.Slice.sliceAdjust none none (-1) (n : Int) = ((n : Int) - 1, -1) := by
  unfold Builtin.Slice.sliceAdjust
  simp
theorem places_rev (n : Nat) : Builtin.Slice.slicePlaces ((n : Int) - 1) (-1) (-1) = n := by
  unfold Builtin.Slice.slicePlaces
  have h1 : ¬ ((-1 : Int) > 0) := by omega
  simp only [h1, if_false]
  split
  · simp
  · rename_i h
    have : n = 0 := by omega
    subst this
    rfl
theorem pick_rev (xs : Array Value) : ((List.range xs.size).filterMap fun (m : Nat) => xs[(((xs.size : Int) - 1) + (m : Int) * -1).toNat]?).toArray = xs.toList.reverse.toArray := by
  rw [← PySem.W.krv_pick]
  unfold slicePick
  rw [PySem.W.krv_bounds]
  simp only
  rw [PySem.W.krv_sliceRange, List.filterMap_map]
  have gen : ∀ l : List Nat, (∀ m ∈ l, m < xs.size) → l.filterMap (fun (m : Nat) => xs[(((xs.size : Int) - 1) + (m : Int) * -1).toNat]?) = l.filterMap ((fun x => xs[x]?) ∘ fun k => xs.size - 1 - k) := by
    intro l
    induction l with
    | nil => intro _; rfl
    | cons m l ih =>
      intro h
      have hm' : m < xs.size := h m List.mem_cons_self
      have e : (((xs.size : Int) - 1) + (m : Int) * -1).toNat = xs.size - 1 - m := by omega
      rw [List.filterMap_cons, List.filterMap_cons, ih fun k hk => h k (List.mem_cons_of_mem _ hk)]
      simp only [Function.comp, e]
  rw [gen _ fun m hm => List.mem_range.mp hm]
section
variable {prog : Program} {w : World} {A : Around} {E : Value → Shared → Prop} {s : Shared}
theorem getItem_tuple_rev {t sl : Addr} {items : Array Value} {vs : Value} {Q : Value → Shared → Prop} (ht : IsTup s.heap t items) (hs : s.heap.IsSliceOf sl .none .none vs) (ps : IsPart vs (some (-1)))
    (h : Q (.ref s.heap.objs.size) { s with heap := s.heap.push { cls := .type "tuple", data := .seq items.toList.reverse.toArray } })
    (hsz : items.size ≤ sizeLine) : wpAny (model prog w) A (getItem (.ref t) (.ref sl)) Q E s := by
  have htake : sizeOk (.seq items.toList.reverse.toArray) := by
    show items.toList.reverse.toArray.size ≤ sizeLine
    rw [List.size_toArray, List.length_reverse, Array.length_toList]
    exact hsz
  obtain ⟨os, hos, hcs, hds⟩ := id hs
  have hTs : s.TypeIs (.ref sl) "slice" := ⟨os, hos, hcs⟩
  unfold getItem
  try with_reducible refine wpAny_holding ?_
  first | refine wpAny_bind (wpAny_pure ?_) | skip
  refine wpAny_bind (wpAny_sequenceKey ht.typeIs (by decide) ?_)
  refine wpAny_bind (wpAny_callSpecial?_slot (name := Str.ofString "__getitem__") ht.typeIs PyProof.Rows.slot_tuple_getitem
    (wpAny_call_entry PyProof.Rows.slot_tuple_getitem ht.typeIs entry_tuple_getitem ?_ (args_tuple_getitem _ _)))
  show wpAny _ _ (Builtin.Tuple.tupleItemsOf (.ref t) >>= _) _ _ s
  refine wpAny_bind (tupleItemsOf_ ht ?_)
  refine wpAny_bind (wpAny_typeOf hTs ?_)
  rw [if_pos (by decide)]
  refine wpAny_bind ?_
  unfold Builtin.Slice.sliceApplied Builtin.Slice.sliceFields
  refine wpAny_bind (wpAny_bind (wpAny_field hos hds (x := .none) rfl (wpAny_bind (wpAny_field hos hds (x := .none) rfl (wpAny_bind (wpAny_field hos hds (x := vs) rfl (wpAny_pure ?_)))))))
  refine wpAny_bind (HT.slicePart_ ps ?_)
  show wpAny _ _ (if ((-1 : Int) == 0) = true then _ else _) _ _ s
  rw [if_neg (by decide)]
  refine wpAny_bind (HT.slicePart_ .none (wpAny_bind (HT.slicePart_ .none (wpAny_bind (wpAny_pure ?_)))))
  show wpAny _ _ (match Builtin.Slice.sliceAdjust none none (-1) (items.size : Int) with | (lo, hi) => pure (lo, (-1 : Int), Builtin.Slice.slicePlaces lo hi (-1))) _ _ s
  rw [adjust_rev]
  show wpAny _ _ (pure ((items.size : Int) - 1, (-1 : Int), Builtin.Slice.slicePlaces ((items.size : Int) - 1) (-1) (-1))) _ _ s
  rw [places_rev]
  refine wpAny_pure ?_
  have hno : ¬ ((((items.size : Int) - 1) == 0 && (-1 : Int) == 1 && items.size == items.size) = true) := by
    intro q
    rw [Bool.and_eq_true, Bool.and_eq_true] at q
    exact absurd q.1.2 (by decide)
  show wpAny _ _ (if (((items.size : Int) - 1) == 0 && (-1 : Int) == 1 && items.size == items.size) = true then _ else _) _ _ s
  rw [if_neg hno, pick_rev]
  first
    | exact wpAny_bind (m := Builtin.Tuple.tupleExact _) (wpAny_newObj_type (wpAny_pure ⟨_, rfl, wpAny_pure h⟩) htake)
    | exact wpAny_bind (m := Builtin.Tuple.tupleExact _) (wpAny_newObj_type (wpAny_bind (wpAny_pure (wpAny_pure ⟨_, rfl, wpAny_pure h⟩))) htake)
    | exact wpAny_bind (wpAny_bind (m := Builtin.Tuple.tupleExact _) (wpAny_newObj_type (wpAny_pure (wpAny_pure ⟨_, rfl, wpAny_pure h⟩)) htake))
    | exact wpAny_bind (wpAny_bind (m := Builtin.Tuple.tupleExact _) (wpAny_newObj_type (wpAny_pure ⟨_, rfl, wpAny_pure h⟩) htake))
end
def rRevA (K : PySem.W.Frag) : V → Hp → VK → Prop := fun x H Q => ∃ a xs, x = .ref a ∧ ((SqL K H a xs ∧ ∀ p, H p = none → Q (.ref p) (upd H p (.lst xs.reverse))) ∨ (SqT K H a xs ∧ ∀ p, H p = none → Q (.ref p) (upd H p (.tup xs.reverse))))
theorem pe_revA {X : Cx} {e : Expr} {te : TE} {k : Nat} {p1 p2 p3 pos : Pos} (he : PE X e te) : PE X (.Subscript e (.Slice none none (some (.UnaryOp .USub (.Constant (.int 1) k p1) p2)) p3) pos) (fun σ H Q => te σ H fun x H1 => rRevA X.K x H1 Q) := by
  refine ⟨fun pins s σ H Q I h => ?_⟩
  refine Subscript_ (thn (he.run pins s σ H _ I h) fun v s1 ⟨x, H1, I1, r1, q1⟩ => ?_)
  obtain ⟨a, xs, ex, hx⟩ := q1
  subst ex
  cases r1
  have hst : PO X (some (.UnaryOp .USub (.Constant (.int 1) k p1) p2)) (tPart (tUn (rU fun i => .int (-i)) (tC (.int 1)))) := po_some (pe_un un_neg pe_int)
  refine wpAny_Slice (thn (po_none.run pins s1 σ H1 (fun o H2 => o = none ∧ H2 = H1) I1 ⟨rfl, rfl⟩) fun vl s2 ⟨l, H2, I2, pl, el, e2⟩ => ?_)
  subst el e2
  refine thn (po_none.run pins s2 σ H2 (fun o H3 => o = none ∧ H3 = H2) I2 ⟨rfl, rfl⟩) fun vu s3 ⟨u, H3, I3, pu, eu, e3⟩ => ?_
  subst eu e3
  refine thn (hst.run pins s3 σ H3 (fun o H4 => o = some (-1) ∧ H4 = H3) I3 ⟨1, rfl, -1, rfl, rfl, rfl⟩) fun vs s4 ⟨o, H4, I4, ps, eo, e4⟩ => ?_
  subst eo e4
  have I5 : Inv X pins σ H4 { s4 with heap := s4.heap.push { cls := .type "slice", data := .fields #[vl, vu, vs] } } := I4.kept (t' := s4.toks) fun b ob q => Heap.get?_push_of_some _ q
  show wpAny (model X.prog X.w) X.A (subscriptTail e (.Slice none none (some (.UnaryOp .USub (.Constant (.int 1) k p1) p2)) p3) (.ref a) (.ref s4.heap.objs.size)) (EP X pins σ Q) X.xe { s4 with heap := s4.heap.push { cls := .type "slice", data := .fields #[vl, vu, vs] } }
  rcases hx with ⟨hx, q⟩ | ⟨hx, q⟩
  · obtain ⟨its, r, ht, hz⟩ := I5.list hx
    have hlen := r.length
    refine tail_any (ops := [.ref a, .ref s4.heap.objs.size]) ht.isList.typeIs (PySem.slot_list_getitem.lookup) ?_ (by with_unfolding_all rfl)
    refine wpAny_getItem_list_slice ht.isList (Heap.IsSliceOf.new _ vl vu vs) pl pu ps (by decide) ?_ (by rw [List.size_toArray]; omega)
    rw [PySem.W.krv_pick]
    refine ⟨.ref _, _, I5.laid (t' := s4.toks) (o := .lst xs.reverse) (fun b ob q => Heap.get?_push_of_some _ q) (Nat.le_refl _) ?_, rfl, q _ (I5.hok.fresh (Nat.le_refl _))⟩
    exact ⟨by rw [List.length_reverse]; exact hz, _, 0, r.reverse, Heap.get?_push_size _ rfl⟩
  · obtain ⟨its, r, ht, hz⟩ := I5.tuple hx
    have hlen := r.length
    cases pl
    cases pu
    refine tail_any (ops := [.ref a, .ref s4.heap.objs.size]) ht.typeIs (PyProof.Rows.slot_tuple_getitem.lookup) ?_ (by with_unfolding_all rfl)
    refine getItem_tuple_rev ht (Heap.IsSliceOf.new _ .none .none vs) ps ?_ (by rw [List.size_toArray]; omega)
    refine ⟨.ref _, _, I5.laid (t' := s4.toks) (o := .tup xs.reverse) (fun b ob q => Heap.get?_push_of_some _ q) (Nat.le_refl _) ?_, rfl, q _ (I5.hok.fresh (Nat.le_refl _))⟩
    exact ⟨by rw [List.length_reverse]; exact hz, _, r.reverse, IsTup.new _ _⟩
def hRev : D → Option R
  | .lst ds => some (.own (.lst ds.reverse))
  | .tup ds => some (.val (.tup ds.reverse))
  | _ => none
def op1 (h : D → Option R) (f : M R) : M R := fun env => (f env).bind fun r e => match resolve e r with
  | some d => (match h d with
    | some ro => .ok ro e
    | none => .bad)
  | none => .bad
def Op1V (K : PySem.W.Frag) (r : V → Hp → VK → Prop) (h : D → Option R) : Prop := ∀ (F H : Hp) (d : D) (v : V) (ro : R) (Q : VK), Same F H → Vw K F H d v → h d = some ro → VOk K F H ro Q → r v H Q
theorem op1_rd {K : PySem.W.Frag} {mg : Str → Option Value} {pv : Nat → Option V} {W : WX} {h : D → Option R} {r : V → Hp → VK → Prop} {f : M R} {σ : L2.St} {H : Hp} {Q : VK} (hv : Op1V K r h) (q : tD K mg pv W (op1 h f) σ H Q) : tD K mg pv W f σ H fun x H1 => r x H1 Q := by
  obtain ⟨env, F, A, ws, q⟩ := q
  simp only [op1] at q
  refine tD_bind ws (fun e => ?_) (fun c e1 e F1 H1 A1 s1 w1 => ?_) (fun r1 e1 e v1 F1 H1 A1 B1 s1 rs1 => ?_)
  · rw [e] at q; exact q
  · rw [e] at q; exact q F1 H1 A1 s1 w1
  · rw [e] at q
    simp only [Res.bind] at q
    cases hd : resolve e1 r1 with
    | none => simp only [hd] at q
    | some d =>
      cases hs : h d with
      | none => simp only [hd, hs] at q
      | some ro =>
        simp only [hd, hs] at q
        refine hv F1 H1 d v1 ro Q rs1.ws.sub (rs1.rr.view rs1.ws hd) hs fun v F4 H4 B4 n s rv => ?_
        obtain ⟨z1, z2⟩ := fin_op s1 (fun a ha => .inl ha) rs1.ws n s rv
        exact q v F4 H4 A1 B4 z1 z2
theorem Reps.reverse {K : PySem.W.Frag} {F : Hp} : ∀ {ds : List D} {vs : List V}, Reps K F ds vs → Reps K F ds.reverse vs.reverse
  | [], vs, h => by simp only [Reps] at h; subst h; rfl
  | d :: ds, vs, h => by
    obtain ⟨v, r, rfl, h1, h2⟩ := h
    rw [List.reverse_cons, List.reverse_cons]
    exact (Reps.reverse h2).append (.one h1)
theorem ov_rev {K : PySem.W.Frag} : Op1V K (rRevA K) hRev := fun F H d v ro Q s a e q => by
  unfold hRev at e
  split at e
  · cases e
    obtain ⟨l, xs, rfl, h1, r1⟩ := a
    exact ⟨l, xs, rfl, .inl ⟨.of h1, fun p n => q.lst s r1.reverse n⟩⟩
  · cases e
    obtain ⟨l, xs, rfl, f1, h1, r1⟩ := vw_tup s a
    exact ⟨l, xs, rfl, .inr ⟨h1, fun p n => q.tup s r1.reverse n⟩⟩
  · cases e
theorem de_rev {X : Cx} {pv : Nat → Option V} {W : WX} {f : M R} {e : Expr} {k : Nat} {p1 p2 p3 pos : Pos} (he : PE X e (tD X.K X.mg pv W f)) : PE X (.Subscript e (.Slice none none (some (.UnaryOp .USub (.Constant (.int 1) k p1) p2)) p3) pos) (tD X.K X.mg pv W (op1 hRev f)) :=
  (pe_revA he).imp fun _ _ _ q => op1_rd ov_rev q
end DL
end
section
set_option maxRecDepth 100000
set_option maxHeartbeats 4000000
namespace DL
open PySem PySem.Spec PyProof.Rows L2
variable [tb : Tb]
/-! ### sorted(xs), by data -/
def pyD (d : D) : PyData := d.py.getD .none
theorem pys_eq : ∀ {ds : List D} {ps : List PyData}, D.pys ds = some ps → ds.map pyD = ps
  | [], _, h => by simp only [D.pys] at h; cases h; rfl
  | d :: ds, _, h => by
    simp only [D.pys] at h
    split at h
    · rename_i p ps h1 h2
      cases h
      simp [pyD, h1, pys_eq h2]
    · cases h
/-- what the order asks of the data -/
def Srtbl (ps : List PyData) : Prop := PySem.W.AllAlike ps ∧ PySem.W.Sortable ps ∧ PyData.canLayAll0 ps = true ∧ ∀ p ∈ ps, p.depth ≤ 64
def srtD (ds : List D) : List D := ds.mergeSort (PySem.W.dataLe false pyD)
noncomputable def hSorted : List D → Option R
  | [.lst ds] => match D.pys ds with
    | some ps => open Classical in if Srtbl ps ∧ ds.length ≤ sizeLine then some (.own (.lst (srtD ds))) else none
    | none => none
  | _ => none
section
variable {X : Cx} {pins : List (Addr × Obj)} {σ : L2.St} {F H : Hp} {s : Shared}
def Stand (K : PySem.W.Frag) (F : Hp) (v : Value) (d : D) : Prop := ∃ x, RelV x v ∧ Rep K F d x
theorem each_stand : ∀ {ds : List D} {xs : List V} {us : List Value}, Reps X.K F ds xs → Vals xs us → PySem.W.EachIs (Stand X.K F) us ds
  | [], xs, us, h, r => by
    simp only [Reps] at h; subst h
    cases r
    exact .nil
  | d :: ds, xs, us, h, r => by
    obtain ⟨x, t, rfl, h1, h2⟩ := h
    cases r with
    | cons r1 r2 => exact .cons ⟨x, r1, h1⟩ (each_stand h2 r2)
theorem stand_each : ∀ {ds : List D} {us : List Value}, PySem.W.EachIs (Stand X.K F) us ds → ∃ xs, Vals xs us ∧ Reps X.K F ds xs
  | [], _, .nil => ⟨[], .nil, rfl⟩
  | d :: ds, _, .cons ⟨x, r1, h1⟩ t => by
    obtain ⟨xs, r2, h2⟩ := stand_each t
    exact ⟨x :: xs, .cons r1 r2, x, xs, rfl, h1, h2⟩
theorem each_reads (I : Inv X pins σ H s) (sm : Same F H) : ∀ {ds : List D} {xs : List V} {us : List Value} {ps : List PyData}, Reps X.K F ds xs → Vals xs us → D.pys ds = some ps → PyData.canLayAll0 ps = true →
    PySem.W.EachIs (fun v b => ∃ as, Reads s.heap v (pyD b) as) us ds
  | [], xs, us, _, h, r, _, _ => by
    simp only [Reps] at h; subst h
    cases r
    exact .nil
  | d :: ds, xs, us, ps, h, r, e, c => by
    obtain ⟨x, t, rfl, h1, h2⟩ := h
    simp only [D.pys] at e
    split at e
    · rename_i p ps' e1 e2
      cases e
      simp only [PyData.canLayAll0, Bool.and_eq_true] at c
      cases r with
      | cons r1 r2 =>
        refine .cons ?_ (each_reads I sm h2 r2 e2 c.2)
        have : pyD d = p := by simp [pyD, e1]
        rw [this]
        exact Dp.reads I p x _ (Rep.dp sm d h1 e1 c.1) r1
    · cases e
end
def rSortD (K : PySem.W.Frag) : List V → Hp → VK → Prop := fun vs H Q => ∃ F a ds ps xs, vs = [.ref a] ∧ Same F H ∧ SqL K H a xs ∧ Reps K F ds xs ∧ D.pys ds = some ps ∧ Srtbl ps ∧ ∀ ys p, Reps K F (srtD ds) ys → H p = none → Q (.ref p) (upd H p (.lst ys))
theorem cr_sortD {X : Cx} {k : Nat} (hr : Room k X.A) : CallR X (.builtin "sorted") (rSortD X.K) := by
  intro pins s σ H vs us Q I r h
  obtain ⟨F, a, ds, ps, xs, rfl, sm, hs, hrp, hp, ⟨c1, c2, c3, c4⟩, q⟩ := h
  obtain ⟨its, rv, hl, hz⟩ := I.list hs
  rw [Vals.ref1 r]
  have hu := hr.un
  have em := pys_eq hp
  refine PySem.W.sorted_data (R := Stand X.K F) (enc := pyD) hl.isList (each_stand hrp rv) (each_reads I sm hrp rv hp c3) (by rw [em]; exact c1) (by rw [em]; exact c2) (by rw [← hrp.len]; exact hz) (fun b hb => ?_) fun out ho eo => ?_
  · have : pyD b ∈ ps := by rw [← em]; exact List.mem_map.mpr ⟨b, hb, rfl⟩
    have := c4 _ this
    omega
  · obtain ⟨ys, r1, r2⟩ := stand_each (X := X) eo
    obtain ⟨ep, he'⟩ := PyProof.Rows.sortedAll_at s.heap its out.toArray
    refine ⟨.ref _, upd H (s.heap.objs.size + 1) (.lst ys), I.laid (t' := s.toks) (fun _ _ => PyProof.Rows.sortedAll_old) (Nat.le_succ _) ⟨?_, out, ep, r1, he'⟩, rfl, q ys _ r2 (I.hok.fresh (Nat.le_succ _))⟩
    rw [r2.len]
    show (ds.mergeSort _).length ≤ sizeLine
    rw [List.length_mergeSort, ← hrp.len]
    exact hz
theorem blt_sorted {X : Cx} {k : Nat} (hr : Room k X.A) : BltR X "sorted" hSorted := ⟨_, cr_sortD hr, fun F H ds vs ro Q s a e q => by
  unfold hSorted at e
  split at e
  · rename_i ds
    split at e
    · rename_i ps hp
      split at e
      · rename_i hc
        cases e
        obtain ⟨v, rfl, l, xs, rfl, h1, r1⟩ := Vws.one a
        exact ⟨F, l, ds, ps, xs, rfl, s, .of h1, r1, hp, hc.1, fun ys p h n => q.lst s h n⟩
      · cases e
    · cases e
  · cases e⟩
end DL
end
section
set_option maxRecDepth 100000
set_option maxHeartbeats 4000000
namespace DL
open PySem PySem.Spec PyProof.Rows L2
variable [tb : Tb]
/-! ### defs by their names -/
def BA (fd : FuncData) (ps : List Str) : Prop := ∀ us : List Value, us.length = ps.length → bindArgs fd ⟨us, []⟩ = pure (ps.zip us)
structure DefF (K : PySem.W.Frag) (mg : Str → Option Value) (x : Str) (st : Stmt) (ps : List Str) : Prop where
  ex : ∃ f fd, L2.Fun K x x st f fd ∧ BA fd ps ∧ mg x = some (.ref f)
structure GV (P : Program) (w : World) (K : PySem.W.Frag) (mg : Str → Option Value) (base : Heap) (k : Nat) (x : Str) (ps : List Str) (g : List O → RF) : Prop where
  ex : ∃ f fd, mg x = some (.ref f) ∧ PySem.W.keepIn K (.ref f) = true ∧ BA fd ps ∧ (∃ oc od osl, K.lookup f = some ⟨oc, od, .func fd, osl⟩) ∧ GFn P w K mg base (L2.CX P w) k f fd ps (spD K mg ps.length g)
theorem GV.up {P : Program} {w : World} {K : PySem.W.Frag} {mg : Str → Option Value} {base : Heap} {j k : Nat} {x : Str} {ps : List Str} {g : List O → RF} (G : GV P w K mg base j x ps g) (h : j ≤ k) : GV P w K mg base k x ps g :=
  let ⟨f, fd, h1, h2, h3, h5, h4⟩ := G.ex
  ⟨f, fd, h1, h2, h3, h5, h4.up h⟩
theorem fun_lk {K : PySem.W.Frag} {x qual : Str} {st : Stmt} {f : Addr} {fd : FuncData} (F : L2.Fun K x qual st f fd) : ∃ oc od osl, K.lookup f = some ⟨oc, od, .func fd, osl⟩ := by
  obtain ⟨oc, od, kV, doc, pm, an, cdv, ct, osl, _, lk, _⟩ := F.ex
  exact ⟨oc, od, osl, lk⟩
theorem gv_ok {P : Program} {w : World} {K : PySem.W.Frag} {mg : Str → Option Value} {base : Heap} {x : Str} {st : Stmt} {N ps : List Str} {k : Nat} {body : M Flow} (T : DefF K mg x st ps) (S : FnScope N ps (defScope st)) (hn : ps.length ≤ N.length)
    (hbody : ∀ (f : Addr) (cdv : Value) (A : Around) (outer : List Env) (s : Shared) (H : Hp) (E : XK) (pv : Nat → Option V), Room k (A.deeper (envOfC x (defScope st) s.heap.objs.size f cdv)) → A.guards = some [] →
      PSs (cxOf (L2.CX P w) P w K mg base N x (defScope st) f cdv A outer s H E) (defBody st) (sD K mg pv (fun c d _ H => E c d H) body)) :
    GV P w K mg base (k + 1) x ps (mkFn (N.length - ps.length) body) :=
  let ⟨f, fd, h1, h2, h3⟩ := T.ex
  ⟨f, fd, h3, h1.kp, h2, fun_lk h1, fn_ok h1 S hn fun cdv A outer s H E pv _ => hbody f cdv A outer s H E pv⟩
section
variable {X : Cx} {pv : Nat → Option V} {W : WX} {k n : Nat} {x : Str} {ps : List Str} {g : List O → RF} {ms : List Mode} {fs : M (List R)} {e : Expr} {es : List Expr} {p pos : Pos} {f : M R}
theorem de_callV (tk : Takes X W) (G : GV X.prog X.w X.K X.mg X.base k x ps g) (hr : Room k X.A) (gd : X.A.guards = some []) (hg : Gl X x) (ha : PA X (e :: es) (tDA X.K X.mg pv W fs))
    (hdb : (x == ("__debug__" : Str)) = false := by decide) (he : starEach (e :: es) X.env = (false, eval e X.env) :: starEach es X.env := by rfl) (hpl : (backTo pos (starEach es X.env)).any (·.1) = false := by rfl) (hl : ps.length = ms.length := by rfl) :
    PE X (.Call (.Name x p) (e :: es) [] pos) (tD X.K X.mg pv W (dCall g ms fs)) :=
  let ⟨_, _, h1, h2, h3, _, h4⟩ := G.ex
  de_call tk (by rw [← hl]; exact h4) hr gd hg h1 h2 (Binds.all h3) ha hdb he hpl
theorem de_callV0 (tk : Takes X W) (G : GV X.prog X.w X.K X.mg X.base k x [] g) (hr : Room k X.A) (gd : X.A.guards = some []) (hg : Gl X x) (hdb : (x == ("__debug__" : Str)) = false := by decide) : PE X (.Call (.Name x p) [] [] pos) (tD X.K X.mg pv W (dCall0 g)) :=
  let ⟨_, _, h1, h2, h3, _, h4⟩ := G.ex
  de_call0 tk h4 hr gd hg h1 h2 (Binds.all h3) hdb
theorem de_globI {i : Int} (h : ∃ t, X.mg x = some (.int i t)) (hg : Gl X x) (hd : (x == ("__debug__" : Str)) = false := by decide) : PE X (.Name x pos) (tD X.K X.mg pv W (dC (.int i))) :=
  let ⟨t, h⟩ := h
  de_glob (v := .int i) hg h ⟨t, rfl⟩ (fun _ => rfl) hd
end
/-! ### -x -/
def hNeg : D → Option R
  | .int i => some (.val (.int (-i)))
  | _ => none
theorem ov_neg {K : PySem.W.Frag} : Op1V K (rU fun i => .int (-i)) hNeg := fun F H d v ro Q s a e q => by
  unfold hNeg at e
  split at e
  · rename_i i
    cases e
    have hv : v = .int i := a
    subst hv
    exact ⟨i, rfl, q.flat s rfl⟩
  · cases e
theorem de_neg {X : Cx} {pv : Nat → Option V} {W : WX} {f : M R} {a : Expr} {pos : Pos} (ha : PE X a (tD X.K X.mg pv W f)) : PE X (.UnaryOp .USub a pos) (tD X.K X.mg pv W (op1 hNeg f)) :=
  (pe_un un_neg ha).imp fun _ _ _ q => op1_rd ov_neg q
/-! ### xs.append(e), xs.extend(e) -/
section
variable {X : Cx} {pv : Nat → Option V} {W : WX} {i : Nat} {fs : M (List R)} {x : Str} {p pos apos : Pos} {e : Expr} {es : List Expr}
theorem de_appV (hN : X.N[i]? = some x) (hv : Vis X.env.scope x) (ha : PA X (e :: es) (tDA X.K X.mg pv W fs)) (hd : (x == ("__debug__" : Str)) = false := by decide) (hcd : (x == ("__classdict__" : Str)) = false := by decide)
    (hbase : attributeBase (.Name x p) "append" X.env (eval (.Name x p) X.env) = eval (.Name x p) X.env := by rfl)
    (hfew : ((backTo pos (starEach (e :: es) X.env)).all (fun x => !x.1) && (backToKw pos (keywordEach [] X.env)).all (fun x => x.1.isSome)
      && decide ((e :: es).length + ([] : List Keyword).length + (if ([] : List Keyword).isEmpty then 0 else 1) < 30)) = true := by rfl)
    (hline : (apos.endLine == pos.line) = true := by rfl) (hs : starEach (e :: es) X.env = (false, eval e X.env) :: starEach es X.env := by rfl) (hplain : (backTo pos (starEach es X.env)).any (·.1) = false := by rfl) :
    PE X (.Call (.Attribute (.Name x p) "append" apos) (e :: es) [] pos) (tD X.K X.mg pv W (dMutL i gApp fs)) :=
  (pe_bm PySem.F.plainAttrs_list PySem.F.slot_list_append PySem.F.type_list_append mt_append (pe_var hN hv hd hcd) ha hbase hfew hline hs hplain).imp fun _ _ _ q => dMutL_rd mv_app q
theorem de_extV (hN : X.N[i]? = some x) (hv : Vis X.env.scope x) (ha : PA X (e :: es) (tDA X.K X.mg pv W fs)) (hd : (x == ("__debug__" : Str)) = false := by decide) (hcd : (x == ("__classdict__" : Str)) = false := by decide)
    (hbase : attributeBase (.Name x p) "extend" X.env (eval (.Name x p) X.env) = eval (.Name x p) X.env := by rfl)
    (hfew : ((backTo pos (starEach (e :: es) X.env)).all (fun x => !x.1) && (backToKw pos (keywordEach [] X.env)).all (fun x => x.1.isSome)
      && decide ((e :: es).length + ([] : List Keyword).length + (if ([] : List Keyword).isEmpty then 0 else 1) < 30)) = true := by rfl)
    (hline : (apos.endLine == pos.line) = true := by rfl) (hs : starEach (e :: es) X.env = (false, eval e X.env) :: starEach es X.env := by rfl) (hplain : (backTo pos (starEach es X.env)).any (·.1) = false := by rfl) :
    PE X (.Call (.Attribute (.Name x p) "extend" apos) (e :: es) [] pos) (tD X.K X.mg pv W (dMutL i gExt fs)) :=
  (pe_bm PySem.F.plainAttrs_list PySem.F.slot_list_extend PySem.F.type_list_extend mt_extend (pe_var hN hv hd hcd) ha hbase hfew hline hs hplain).imp fun _ _ _ q => dMutL_rd mv_ext q
end
abbrev hLt := hCmp fun i j => decide (i < j)
abbrev hLe := hCmp fun i j => decide (i ≤ j)
abbrev hGt := hCmp fun i j => decide (j < i)
abbrev hGe := hCmp fun i j => decide (j ≤ i)
end DL
end
section
set_option maxRecDepth 100000
set_option maxHeartbeats 4000000
namespace DL
open PySem PySem.Spec PyProof.Rows L2 LamX
/-! ### a lambda is made -/
section
variable {Xc : Cx} {pinz : List (Addr × Obj)} {σz : L2.St} {Hz : Hp} {sz : Shared}
theorem lam_make3 {Tz : List (Addr × Str)} {cz Pt : Addr} {pz : Arguments} {bz : Expr} {scz : Scope} {posz : Pos} {Ez : Value → Shared → Prop} {Qk : Value → Shared → Prop} (iv : Inv Xc pinz σz Hz sz) (TBz : TabB Xc.base Xc.mg cz Pt) (hcd : Xc.env.code = .ref cz)
    (hmz : (Pt, Xc.env.qual ++ "<lambda>") ∈ Tz) (huz : ∀ p ∈ Tz, p.1 = Pt → p.2 = Xc.env.qual ++ "<lambda>") (gT : Tabs Tz Hz) (hdz : defaultsOf pz Xc.env = ([], [])) (hfz : ∀ y ∈ scz.names, y.2 = .free → ∃ c, Xc.env.cells.lookup y.1 = some c)
    (kq : ∀ (fz cq : Addr) (pmz ctz : Value) (G1 : Hp) (sq : Shared), Inv Xc pinz σz G1 sq → (∀ b o, b ≠ Pt → Hz b = some o → G1 b = some o) → Tabs Tz G1 →
      sq.heap.get? fz = some (PySem.W.kla_obj "<lambda>" (Xc.env.qual ++ "<lambda>") pz bz scz (cloFrom Xc.env.cells scz.names []) pmz cq ctz) → G1 fz = none → sz.heap.objs.size ≤ fz → G1 cq = some (CodeO cq (Xc.env.qual ++ "<lambda>")) → Qk (.ref fz) sq) :
    wpAny (model Xc.prog Xc.w) Xc.A (eval (.Lambda pz bz scz posz) Xc.env) Qk Ez sz := by
  obtain ⟨az, gP, htz, haz⟩ := gT _ hmz
  refine PySem.W.kla_eval hdz ?_
  have bPt : sz.heap.BuiltinsAt Xc.mg Pt := TBz.bm.keeps iv.bk
  have gP2 : sz.heap.get? Pt = some { cls := .none, data := .fields az } := iv.hok Pt _ gP
  cases hcz : codeAmong posz az.toList with
  | none =>
    refine PySem.W.kla_makeFunction (mg := Xc.mg) (c := cz) (P := Pt) (ps := az) (closure_ok hfz) iv.ok.glob (iv.mod.glob.keeps iv.bk) hcd (TBz.code.keeps iv.bk) gP2 htz hcz TBz.gP bPt fun cq ctz hq tq kx kge klt krec ktb => ?_
    obtain ⟨c3, oc3, vs3, t3, e3, k3, d3, v3⟩ := krec
    cases e3
    have hsq : sz.heap.objs.size ≤ hq.objs.size := Nat.le_trans kge (Nat.le_of_lt klt)
    have nc0 : Hz cq = none := iv.hok.fresh kge
    have iv1 := inv_table (t' := tq) (more := #[rawInt posz.line, rawInt posz.col, .ref cq]) (h' := hq.push (PySem.W.kla_obj "<lambda>" (Xc.env.qual ++ "<lambda>") pz bz scz (cloFrom Xc.env.cells scz.names []) ((Xc.mg "__name__").getD .none) cq ctz)) iv gP
      (fun b o hb e => Heap.get?_push_of_some _ (kx b o hb e)) (Heap.get?_push_of_some _ ktb) kge ⟨oc3, vs3, t3, Heap.get?_push_of_some _ k3, d3, v3⟩
    have hxz : ∀ b o, b ≠ Pt → Hz b = some o → (upd (upd Hz Pt (.tbl (az ++ #[rawInt posz.line, rawInt posz.col, .ref cq]))) cq (CodeO cq (Xc.env.qual ++ "<lambda>"))) b = some o := fun b o nb e => by
      rw [upd_ne (ne_of_none e nc0), upd_ne nb]
      exact e
    have nPt : ∀ {b : Addr} {q : Str}, Hz b = some (CodeO b q) → b ≠ Pt := fun {b q} e z => by
      rw [z, gP] at e
      exact codeO_ne az (Option.some.inj e).symm
    have lz : (az ++ #[rawInt posz.line, rawInt posz.col, .ref cq]).toList = az.toList ++ [rawInt posz.line, rawInt posz.col, .ref cq] := by simp
    refine kq hq.objs.size cq ((Xc.mg "__name__").getD .none) ctz _ _ iv1 hxz (fun p hp => ?_) (Heap.get?_push_size _ rfl) ?_ hsq upd_same
    · by_cases hb : p.1 = Pt
      · rw [huz p hp hb, hb]
        refine ⟨_, by rw [upd_ne (ne_of_none gP nc0), upd_same], by rw [lz]; exact PySem.TriplesOk_snoc _ _ _ _ htz, fun px cx hcx => ?_⟩
        rw [lz] at hcx
        rcases among_app _ htz hcx with q | q
        · obtain ⟨c4, e4, e5⟩ := haz px cx q
          exact ⟨c4, e4, hxz _ _ (nPt e5) e5⟩
        · exact ⟨cq, q, upd_same⟩
      · obtain ⟨aq, b1, b2, b3⟩ := gT p hp
        refine ⟨aq, by rw [upd_ne (ne_of_none b1 nc0), upd_ne hb]; exact b1, b2, fun px cx hcx => ?_⟩
        obtain ⟨c4, e4, e5⟩ := b3 px cx hcx
        exact ⟨c4, e4, hxz _ _ (nPt e5) e5⟩
    · have m1 : hq.objs.size ≠ cq := Nat.ne_of_gt klt
      have m2 : hq.objs.size ≠ Pt := Nat.ne_of_gt (Nat.lt_of_lt_of_le (Heap.lt_size gP2) hsq)
      rw [upd_ne m1, upd_ne m2]
      exact iv.hok.fresh hsq
  | some cv =>
    obtain ⟨cq, e3, k3⟩ := haz posz cv hcz
    subst e3
    refine PySem.W.kla_makeFunctionHit (mg := Xc.mg) (c := cz) (P := Pt) (ps := az) (closure_ok hfz) iv.ok.glob (iv.mod.glob.keeps iv.bk) hcd (TBz.code.keeps iv.bk) gP2 htz hcz bPt fun ctz hq tq kx hsq => ?_
    have iv1 : Inv Xc pinz σz Hz { sz with heap := hq.push (PySem.W.kla_obj "<lambda>" (Xc.env.qual ++ "<lambda>") pz bz scz (cloFrom Xc.env.cells scz.names []) ((Xc.mg "__name__").getD .none) cq ctz), toks := tq } := iv.kept fun b o e => Heap.get?_push_of_some _ (kx b o e)
    exact kq hq.objs.size cq ((Xc.mg "__name__").getD .none) ctz Hz _ iv1 (fun _ _ _ e => e) gT (Heap.get?_push_size _ rfl) (iv.hok.fresh hsq) hsq k3
end
/-! ### a lambda with one parameter, called -/
structure LamP (sc scope : Scope) (a : Str) : Prop where
  kind : scope.kind = .function
  co : scope.isCoroutine = false
  gen : scope.isGenerator = false
  own : ∀ y ∈ scope.names, y.2 ≠ .cell ∧ (y.2 = .local → y.1 = a)
  par : scope.names.lookup a = some .local
  free : ∀ y ∈ scope.names, y.2 = .free → sc.names.lookup y.1 = some .cell ∨ sc.names.lookup y.1 = some .free
def lamPB (sc scope : Scope) (a : Str) : Bool :=
  decide (scope.kind = .function) && !scope.isCoroutine && !scope.isGenerator && (scope.names.all fun y => !decide (y.2 = .cell) && (!decide (y.2 = .local) || decide (y.1 = a)) && (!decide (y.2 = .free) || decide (sc.names.lookup y.1 = some .cell) || decide (sc.names.lookup y.1 = some .free))) && decide (scope.names.lookup a = some .local)
theorem lamP_by {sc scope : Scope} {a : Str} (h : lamPB sc scope a = true) : LamP sc scope a := by
  unfold lamPB at h
  simp only [Bool.and_eq_true, Bool.or_eq_true, Bool.not_eq_true', decide_eq_true_eq, decide_eq_false_iff_not, List.all_eq_true] at h
  obtain ⟨⟨⟨⟨h1, h2⟩, h3⟩, h4⟩, h5⟩ := h
  refine ⟨h1, h2, h3, fun y hy => ⟨(h4 y hy).1.1, fun e => ?_⟩, h5, fun y hy e => ?_⟩
  · rcases (h4 y hy).1.2 with z | z
    · exact absurd e z
    · exact z
  · rcases (h4 y hy).2 with (z | z) | z
    · exact absurd e z
    · exact .inl z
    · exact .inr z
theorem LamP.has {X : Cx} {scope : Scope} {a : Str} (L : LamP X.env.scope scope a) (ok : X.Ok) : ∀ y ∈ scope.names, y.2 = .free → ∃ c, X.env.cells.lookup y.1 = some c := fun y hy e => by
  rcases L.free y hy e with k | k
  · exact ok.has _ (.inl k)
  · exact ok.has _ (.inr k)
section
variable {X : Cx} {pins : List (Addr × Obj)} {σ : L2.St} {H : Hp} {s : Shared}
/-- the lambda's state, entered: slot i holds the argument -/
theorem lam_startP {A : Around} {E : XK} {scope : Scope} {f c' : Addr} {h₁ : Heap} {tk : Nat} {a : Str} {i : Nat} {x : V} {u : Value} (I : Inv X pins σ H s) (L : LamP X.env.scope scope a) (nd : X.N.Nodup) (hi : X.N[i]? = some a) (fa : A.frames = X.A.frames) (hd : A.handled = none)
    (rx : RelV x u) (hns : h₁.Ns s.heap.objs.size fun y => ([(a, u)] : List (Str × Value)).reverse.lookup y) (kp : ∀ b o, s.heap.get? b = some o → h₁.get? b = some o) :
    Inv (lamCx X A X.stack s H E scope f c') [] (σ.set i (some x)) H { s with heap := h₁, toks := tk } := by
  have e0 := I.env0
  have hfree := L.has I.ok
  have cm : ∀ {y c}, (cloFrom X.env.cells scope.names []).lookup y = some c → X.env.cells.lookup y = some c := fun {y c} e => by
    rcases cloFrom_mem (PySem.mem_of_lookup e) with hm | ⟨g1, g2⟩
    · cases hm
    · obtain ⟨c1, hc⟩ := hfree _ g1 rfl
      have hc : X.env.cells.lookup y = some c1 := hc
      rw [hc] at g2
      have g2 : c = c1 := by simpa using g2
      rw [g2]; exact hc
  have look : ∀ {y}, scope.names.lookup y = some .free → ∃ c, (cloFrom X.env.cells scope.names []).lookup y = some c := fun {y} hl =>
    mem_lookup (cloFrom_has (cells := X.env.cells) (acc := []) (PySem.mem_of_lookup hl))
  have noA : ∀ b : Addr, b ∉ (lamCx X A X.stack s H E scope f c').ex := fun b z => nomatch (show b ∈ ([] : List Addr) from z)
  have il : i < σ.length := by rw [I.len]; exact (List.getElem?_eq_some_iff.mp hi).1
  refine ⟨⟨e0.mod, L.kind, rfl, rfl, Nat.le_refl _, fun y z c e1 e2 => I.ok.inj y z c (cm e1) (cm e2), fun y hy => ?_, fun y c z _ => (nomatch (show false = true from z)), fun _ => hd, Around.frames_deeper (fa.trans e0.frames), .inr ⟨rfl, rfl⟩, fun b z => absurd z (noA b), e0.bs, e0.bsz, fun b _ _ => noA b,
      fun b z => absurd z (noA b), e0.funs, e0.frf⟩,
    rfl, e0.bare, Un.kept kp, ⟨_, hns, fun j y v e1 e2 e3 => ?_⟩, fun y c e => ?_, e0.hok.fresh (Nat.le_refl _), fun y c e => I.freeC y c (cm e), fun q hq => (nomatch (show q ∈ ([] : List (Addr × Obj)) from hq)), e0.hok.kept kp, by rw [List.length_set]; exact I.len⟩
  · have hy : scope.names.lookup y = some .cell ∨ scope.names.lookup y = some .free := hy
    rcases hy with hy | hy
    · exact absurd rfl (L.own _ (PySem.mem_of_lookup hy)).1
    · exact look hy
  · have e1 : X.N[j]? = some y := e1
    have e3 : Vis scope y := e3
    rcases e3 with k | k | k
    · have ya : y = a := (L.own _ (PySem.mem_of_lookup k)).2 rfl
      subst ya
      have ji : j = i := by
        obtain ⟨l1, q1⟩ := List.getElem?_eq_some_iff.mp e1
        obtain ⟨l2, q2⟩ := List.getElem?_eq_some_iff.mp hi
        exact (List.getElem?_inj l1 nd).mp (e1.trans hi.symm)
      subst ji
      rw [List.getElem?_set_self il] at e2
      have e2 : x = v := by simpa using e2
      subst e2
      exact ⟨u, rx, .inl ⟨k, by simp [List.lookup]⟩⟩
    · exact absurd rfl (L.own _ (PySem.mem_of_lookup k)).1
    · have ji : i ≠ j := fun z => by
        subst z
        rw [hi] at e1
        have : a = y := Option.some.inj e1
        subst this
        rw [L.par] at k
        cases k
      rw [List.getElem?_set_ne ji] at e2
      obtain ⟨m, hn, hl⟩ := I.loc
      have hvis : Vis X.env.scope y := (L.free _ (PySem.mem_of_lookup k) rfl).elim (fun k => .inr (.inl k)) (fun k => .inr (.inr k))
      obtain ⟨w', r, q⟩ := hl j y v e1 e2 hvis
      obtain ⟨c2, g2⟩ := look k
      have c1 := cm g2
      refine ⟨w', r, .inr ⟨.inr k, c2, g2, ?_⟩⟩
      rcases q with ⟨k', _⟩ | ⟨_, c3, e', z⟩
      · have k' : X.env.scope.names.lookup y = some .local := k'
        rcases L.free _ (PySem.mem_of_lookup k) rfl with k2 | k2 <;> rw [show X.env.scope.names.lookup y = _ from k2] at k' <;> cases k'
      · rw [c1] at e'
        cases e'
        obtain ⟨o, ho, hdt⟩ := z
        exact ⟨o, kp _ _ ho, hdt⟩
  · obtain ⟨v, o, ho, hdt⟩ := I.cell y c (cm e)
    exact ⟨v, o, kp _ _ ho, hdt⟩
abbrev E00 : XK := fun _ _ _ => False
/-- f(u), f the lambda -/
theorem lam_run {scope : Scope} {f c' : Addr} {pm ctv : Value} {params : Arguments} {body : Expr} {a : Str} {i k : Nat} {x : V} {u : Value} {tb : TE} {A : Around} {Q : VK} {EE : Value → Shared → Prop} (I : Inv X pins σ H s) (L : LamP X.env.scope scope a) (nd : X.N.Nodup) (hi : X.N[i]? = some a)
    (hf : s.heap.get? f = some (PySem.W.kla_obj "<lambda>" (X.env.qual ++ "<lambda>") params body scope (cloFrom X.env.cells scope.names []) pm c' ctv)) (hc : H c' = some (CodeO c' (X.env.qual ++ "<lambda>")))
    (hbind : bindArgs (PySem.W.kla_fn "<lambda>" (X.env.qual ++ "<lambda>") params body scope (cloFrom X.env.cells scope.names []) pm (.ref c') ctv) ⟨[u], []⟩ = pure [(a, u)]) (fa : A.frames = X.A.frames) (hr : Room (k + 1) A)
    (hbody : Room k (A.deeper (lamEnv X scope s.heap.objs.size f c')) → PE (lamCx X A X.stack s H E00 scope f c') body tb) (rx : RelV x u) (h : tb (σ.set i (some x)) H Q) :
    wpAny (model X.prog X.w) A (call (.ref f) [u]) (fun kv s' => ∃ v H', Inv X pins σ H' s' ∧ RelV v kv ∧ Q v H' ∧ ∀ b o, s.heap.get? b = some o → H b = none → b ∉ frs X.stack → s'.heap.get? b = some o ∧ H' b = none) EE s := by
  obtain ⟨⟨oc, vs, t, hoc, hdc, hvc⟩, _, _⟩ := I.hok c' _ hc
  have rc : codeAny (model X.prog X.w) A (.call (.ref f) ⟨[u], []⟩) (CR (L2.CX X.prog X.w) X.stack X.prog X.w H s Q E00) s := by
    refine PySem.W.kla_callFunE hr.depth hf rfl L.co L.gen rfl ⟨c', oc, vs, t, rfl, hoc, hdc, hvc⟩ ?_
    rw [hbind]
    refine wpAny_pure (wpAny_newFunctionEnv (fun y hy => (L.own y hy).1) (fun y hy => ?_) (fun h₁ hns hsb => ⟨I.nolimit.fresh _ hsb, ?_⟩) L.kind)
    · simp only [List.mem_singleton] at hy
      subst hy
      exact L.par
    · have kp : ∀ b o, s.heap.get? b = some o → h₁.get? b = some o := fun b o e => hsb.extBut b o (Nat.ne_of_lt (Heap.lt_size e)) (Heap.get?_push_of_some _ e)
      have J := lam_startP (A := A) (E := E00) (f := f) (c' := c') (tk := s.toks + 1) I L nd hi fa hr.hd rx hns kp
      refine PySem.W.kla_codeExpr (wpAny_mono ((hbody (hr.deeper _)).run [] _ _ H Q J h) (fun v s' hq => ?_) fun e s' hq => hq)
      obtain ⟨w', H', J', rv, q⟩ := hq
      exact ⟨w', H', J'.os, J'.bare, J'.base, J'.hok, rv, q⟩
  refine wpAny_call (codeAny_mono rc fun r s' hq => ?_)
  cases r with
  | error e =>
    exfalso
    obtain ⟨_, _, _, _, _, _, _, _, _, _, _, _, _, _, _, _, z⟩ := hq
  | ok fl =>
    cases fl with
    | ret u =>
      obtain ⟨v', H', os, bare, un, hok, rv, q⟩ := hq
      obtain ⟨hh, g1, d1, t1, o1⟩ := s'
      obtain rfl : o1 = s.os := os
      exact ⟨v', H', I.call (h' := hh) (g' := g1) (d' := d1) (t' := t1) (ch := []) un hok bare (fun b z => absurd z (by simp)), rv, q, fun b o ho hn hb => ⟨un.keep b o ho hn hb (by simp), un.free b o ho hn (by simp)⟩⟩
    | next => exact False.elim hq
    | brk => exact False.elim hq
    | cont => exact False.elim hq
end
end DL
end
section
set_option maxRecDepth 100000
set_option maxHeartbeats 4000000
namespace DL
open PySem PySem.Spec PyProof.Rows L2 LamX
theorem Room.in1 {k : Nat} {A : Around} (r : Room (k + 1) A) : Room k A.in1 := ⟨r.hd, by have := r.dp; show A.depth + 3 * k + 5 < _; omega, by have := r.un; show A.units + 1 + 16 * k + 200 < _; omega⟩
variable [tb : Tb]
/-! ### max(xs, key=lambda a: ..), ints as keys -/
/-- the key of d: the lambda's body where slot i holds d; the state stays -/
noncomputable def keyV (fb : M R) (i : Nat) (e : DEnv) (d : D) : Option Int := match fb (e.set i (.own (.val d))) with
  | .ok r e' => (match resolve e' r with
    | some (.int k) => open Classical in if e' = e.set i (.own (.val d)) then some k else none
    | _ => none)
  | _ => none
noncomputable def keysV (fb : M R) (i : Nat) (e : DEnv) : List D → Option (List Int)
  | [] => some []
  | d :: ds => match keyV fb i e d, keysV fb i e ds with
    | some k, some ks => some (k :: ks)
    | _, _ => none
def betterI (big : Bool) (a b : Int) : Bool := if big then decide (a > b) else decide (a < b)
def bestIx (big : Bool) (ks : List Int) : Nat := argBest (fun i j => betterI big (ks.getD i 0) (ks.getD j 0)) (ks.length - 1)
noncomputable def dKey (big : Bool) (f : M R) (i : Nat) (fb : M R) : M R := fun env => (f env).bind fun r e => match frzI r e with
  | some (.lst ds, e') => (match e'[i]? with
    | some .un => (match keysV fb i e' ds with
      | some ks => (match ds[bestIx big ks]? with
        | some d => .ok (.val d) e'
        | none => .bad)
      | none => .bad)
    | _ => .bad)
  | _ => .bad
theorem keysV_len {fb : M R} {i : Nat} {e : DEnv} : ∀ {ds : List D} {ks : List Int}, keysV fb i e ds = some ks → ks.length = ds.length
  | [], ks, h => by simp only [keysV] at h; cases h; rfl
  | d :: ds, ks, h => by
    simp only [keysV] at h
    split at h
    · rename_i h1 h2
      cases h
      simp [keysV_len h2]
    · cases h
theorem keysV_at {fb : M R} {i : Nat} {e : DEnv} : ∀ {ds : List D} {ks : List Int} {j : Nat} {d : D}, keysV fb i e ds = some ks → ds[j]? = some d → keyV fb i e d = some (ks.getD j 0)
  | [], ks, j, d, h, hd => by simp at hd
  | d0 :: ds, ks, j, d, h, hd => by
    simp only [keysV] at h
    split at h
    · rename_i h1 h2
      cases h
      cases j with
      | zero => simp at hd; subst hd; simpa using h1
      | succ j => simpa using keysV_at h2 (by simpa using hd)
    · cases h
section
variable {K : PySem.W.Frag} {pv : Nat → Option V} {e : DEnv} {σ : L2.St} {F H : Hp} {A : Nat → List Addr}
/-- the argument's slot forgotten again -/
theorem WS.unset {i : Nat} {d : D} {x : V} (w : WS K pv (e.set i (.own (.val d))) (σ.set i (some x)) F H A) (he : e[i]? = some .un) : WS K pv e σ F H A := by
  have hl : i < e.length := (List.getElem?_eq_some_iff.mp he).1
  refine ⟨by simpa using w.len, fun j => ?_, w.nd, w.dj, w.dis, w.sub, w.tbs⟩
  have h := w.slot j
  by_cases z : i = j
  · subst z
    rw [he]
    rw [List.getElem?_set_self hl] at h
    obtain ⟨v, _, h2⟩ := h
    simp only [Own] at h2
    exact h2.1
  · rw [List.getElem?_set_ne z, List.getElem?_set_ne z] at h
    exact h
end
/-- a list walked: the values may be told anew -/
theorem walksL {prog : Program} {w : World} {A : Around} (hh : A.handled = none) {I l : Addr} (hne : l ≠ I) (xs : List V) :
    WalksS prog w A I [I, l] [I] (fun a b => b = a) xs.length (fun i v => ∃ x, xs[i]? = some x ∧ RelV x v) (fun i s => s.heap.IsListIter I l i ∧ ∃ its : List Value, Vals xs its ∧ s.heap.IsList l its.toArray) where
  sub := fun b hb => by simp at hb; simp [hb]
  grefl := fun _ => rfl
  gtrans := fun _ _ _ h1 h2 => h2.trans h1
  frame := fun i s h' tk st _ hk => by
    obtain ⟨h1, its, r, h2⟩ := st
    exact ⟨h1.at fun o e => hk I (by simp) o e, its, r, h2.at fun o e => hk l (by simp) o e⟩
  item := fun i s Q E hi st hQ => by
    obtain ⟨h1, its, r, h2⟩ := st
    have W := (Walks.list (prog := prog) (w := w) hh I l hne its.toArray).toS
    refine W.item i s Q E (by rw [List.size_toArray, ← r.length]; exact hi) ⟨h1, h2⟩ fun v s' hp st' m => hQ v s' ?_ ⟨st'.1, its, r, st'.2⟩ m
    have hp : its[i]? = some v := by simpa using hp
    have hx : xs[i]? = some xs[i] := List.getElem?_eq_getElem hi
    obtain ⟨u, e1, e2⟩ := Vals.get r hx
    rw [hp] at e1
    cases e1
    exact ⟨_, hx, e2⟩
  done := fun s Q E st hQ => by
    obtain ⟨h1, its, r, h2⟩ := st
    have W := (Walks.list (prog := prog) (w := w) hh I l hne its.toArray).toS
    refine W.done s Q E ?_ hQ
    rw [List.size_toArray, ← r.length]
    exact ⟨h1, h2⟩
  self := fun i s Q E st hQ => by
    obtain ⟨h1, its, r, h2⟩ := st
    have W := (Walks.list (prog := prog) (w := w) hh I l hne its.toArray).toS
    exact W.self i s Q E ⟨h1, h2⟩ hQ
section
variable {X : Cx} {pv : Nat → Option V} {W : WX} {f fb : M R} {i k : Nat} {a x : Str} {P c : Addr} {e : Expr} {params : Arguments} {body : Expr} {scope : Scope} {lpos kpos p pos : Pos}
/-- what stands while the greatest is sought -/
def JK (X : Cx) (pv : Nat → Option V) (pins : List (Addr × Obj)) (σ : L2.St) (e : DEnv) (F0 H0 : Hp) (A0 : Nat → List Addr) (c' S I : Addr) (q : Str) (s : Shared) : Prop :=
  ∃ F H A, Inv X pins σ H s ∧ WS X.K pv e σ F H A ∧ Step F0 H0 (UA A0) F H (UA A) ∧ H c' = some (CodeO c' q) ∧ FpOk X pins H S ∧ FpOk X pins H I
/-- one key: the lambda called -/
theorem key_turn {pins : List (Addr × Obj)} {σ : L2.St} {e0 : DEnv} {F0 H0 : Hp} {A0 : Nat → List Addr} {c' S I f' : Addr} {s : Shared} {pm ctv : Value} {d : D} {x : V} {v : Value} {kk : Int} {o oI : Obj} {A : Around} {Q : Value → Shared → Prop} {E : Value → Shared → Prop}
    (J : JK X pv pins σ e0 F0 H0 A0 c' S I (X.env.qual ++ "<lambda>") s) (hpin : (f', PySem.W.kla_obj "<lambda>" (X.env.qual ++ "<lambda>") params body scope (cloFrom X.env.cells scope.names []) pm c' ctv) ∈ pins) (L : LamP X.env.scope scope a) (nd : X.N.Nodup) (hi : X.N[i]? = some a) (hun : e0[i]? = some .un)
    (hbind : ∀ u : Value, bindArgs (PySem.W.kla_fn "<lambda>" (X.env.qual ++ "<lambda>") params body scope (cloFrom X.env.cells scope.names []) pm (.ref c') ctv) ⟨[u], []⟩ = pure [(a, u)]) (fa : A.frames = X.A.frames) (hr : Room (k + 1) A) (gd : A.guards = some [])
    (hbody : ∀ (A : Around) (outer : List Env) (s : Shared) (H : Hp) (f c' : Addr), Room k (A.deeper (lamEnv X scope s.heap.objs.size f c')) → A.guards = some [] → PE (lamCx X A outer s H E00 scope f c') body (tD X.K X.mg pv W0 fb))
    (rx : RelV x v) (rd : Rep X.K F0 d x) (hk : keyV fb i e0 d = some kk) (hS : s.heap.get? S = some o) (hI : s.heap.get? I = some oI)
    (hq : ∀ kv s', (∃ t, kv = .int kk t) → JK X pv pins σ e0 F0 H0 A0 c' S I (X.env.qual ++ "<lambda>") s' → s'.heap.get? S = some o → s'.heap.get? I = some oI → Q kv s') :
    wpAny (model X.prog X.w) A (call (.ref f') [v]) Q E s := by
  obtain ⟨F, H, A1, I1, w1, st1, hc, fS, fI⟩ := J
  have il : i < e0.length := (List.getElem?_eq_some_iff.mp hun).1
  have of' : s.heap.get? f' = some _ := (I1.pin _ (List.mem_append_right _ hpin)).1
  -- the state with the argument in its slot
  have rd1 : Rep X.K F d x := Rep.same st1.fz d rd
  have Ai : A1 i = [] := by
    have h := w1.slot i
    rw [hun] at h
    exact h
  have w2 : WS X.K pv (e0.set i (.own (.val d))) (σ.set i (some x)) F H (upA A1 i []) := w1.put (B := []) il ⟨x, rfl, Own.mkVal rd1⟩ List.nodup_nil (fun a ha => nomatch ha) (fun a ha => nomatch ha)
  unfold keyV at hk
  split at hk
  · rename_i r e' hfb
    split at hk
    · rename_i k' hres
      split at hk
      · rename_i hee
        cases hk
        subst hee
        refine wpAny_mono (lam_run (EE := E) (Q := fun v' H' => v' = .int kk ∧ H' c' = some (CodeO c' (X.env.qual ++ "<lambda>")) ∧ ∃ F' A', WS X.K pv e0 σ F' H' A' ∧ Step F0 H0 (UA A0) F' H' (UA A')) I1 L nd hi of' hc (hbind v) fa hr (fun hr' => hbody A X.stack s H f' c' hr' gd) rx ?_) (fun kv s' hs => ?_) fun _ _ z => z
        · refine ⟨_, F, upA A1 i [], w2, ?_⟩
          rw [hfb]
          intro v' F' H' A' B s2 rs2
          have hv' : v' = .int kk := rs2.rr.view rs2.ws hres
          have up : ∀ b, UA (upA A1 i []) b → UA A1 b := fun b hb => (UA_up hb).elim id fun z => nomatch z
          have nc : ¬ UA (upA A1 i []) c' := fun hb => by
            have z := w1.ndU (up _ hb)
            rw [hc] at z
            exact z.noCode
          refine ⟨hv', s2.keep _ _ hc codeO_noTb nc, F', A', rs2.ws.unset hun, st1.trans ?_⟩
          exact (step_drop s2).more up
        · obtain ⟨v', H', I3, r3, ⟨hv', hc3, F', A', w3, s3⟩, kp⟩ := hs
          subst hv'
          have nin : ∀ {b : Addr}, FpOk X pins H b → b ∉ frs X.stack := fun {b} fp hb => by
            rcases List.mem_cons.mp (I1.stkSub _ hb) with z | z
            · exact fp.2.1 z
            · exact fp.2.2.1 z
          obtain ⟨gS, nS⟩ := kp S o hS fS.1 (nin fS)
          obtain ⟨gI, nI⟩ := kp I oI hI fI.1 (nin fI)
          exact hq kv s' r3 ⟨F', H', A', I3, w3, s3, hc3, ⟨nS, fS.2⟩, ⟨nI, fI.2⟩⟩ gS gI
      · cases hk
    · cases hk
  · cases hk
theorem JK.moved {pins : List (Addr × Obj)} {σ : L2.St} {e0 : DEnv} {F0 H0 : Hp} {A0 : Nat → List Addr} {c' S I : Addr} {q : Str} {s s' : Shared} (J : JK X pv pins σ e0 F0 H0 A0 c' S I q s) (m : Moved [S, I] (fun a b => b = a) s s') : JK X pv pins σ e0 F0 H0 A0 c' S I q s' := by
  obtain ⟨F, H, A1, I1, w1, st1, hc, fS, fI⟩ := J
  have fps : ∀ b ∈ [S, I], FpOk X pins H b := fun b hb => by
    rcases List.mem_cons.mp hb with rfl | hb
    · exact fS
    · rw [List.mem_singleton.mp hb]; exact fI
  have I2 := I1.turnedL (h' := s'.heap) (t' := s'.toks) (ch := [S, I]) m.heap fps
  have e : s' = { s with heap := s'.heap, toks := s'.toks } := by
    obtain ⟨h1, g1, d1, t1, o1⟩ := s'
    have hg : g1 = s.gens := m.gens
    have hd : d1 = s.drawn := m.drawn
    have ho : o1 = s.os := m.os
    rw [hg, hd, ho]
  rw [e]
  exact ⟨F, H, A1, I2, w1, st1, hc, fS, fI⟩
/-- the lambda made, then the walk: what max and min have in common -/
theorem key_run {pins : List (Addr × Obj)} {σ : L2.St} {e0 : DEnv} {F0 H0 : Hp} {A0 : Nat → List Addr} {c' S I f' l : Addr} {pm ctv : Value} {ds : List D} {xs : List V} {ks : List Int} {big : Bool} {A : Around}
    (hpin : (f', PySem.W.kla_obj "<lambda>" (X.env.qual ++ "<lambda>") params body scope (cloFrom X.env.cells scope.names []) pm c' ctv) ∈ pins) (L : LamP X.env.scope scope a) (nd : X.N.Nodup) (hi : X.N[i]? = some a) (hun : e0[i]? = some .un)
    (hbind : ∀ u : Value, bindArgs (PySem.W.kla_fn "<lambda>" (X.env.qual ++ "<lambda>") params body scope (cloFrom X.env.cells scope.names []) pm (.ref c') ctv) ⟨[u], []⟩ = pure [(a, u)]) (fa : A.frames = X.A.frames) (hr : Room (k + 1) A) (gd : A.guards = some [])
    (hbody : ∀ (A : Around) (outer : List Env) (s : Shared) (H : Hp) (f c' : Addr), Room k (A.deeper (lamEnv X scope s.heap.objs.size f c')) → A.guards = some [] → PE (lamCx X A outer s H E00 scope f c') body (tD X.K X.mg pv W0 fb))
    (hl : F0 l = some (.lst xs)) (rp : Reps X.K F0 ds xs) (hks : keysV fb i e0 ds = some ks) (hne : S ≠ I) :
    KeyRun X.prog X.w A (.ref f') (if big then .Gt else .Lt) S [I] (fun a b => b = a) xs.length (fun i v => ∃ x, xs[i]? = some x ∧ RelV x v) (fun i s => s.heap.IsListIter I l i ∧ ∃ its : List Value, Vals xs its ∧ s.heap.IsList l its.toArray)
      (JK X pv pins σ e0 F0 H0 A0 c' S I (X.env.qual ++ "<lambda>")) (fun j kv _ => ∃ t, kv = .int (ks.getD j 0) t) (fun i j => betterI big (ks.getD i 0) (ks.getD j 0)) where
  keep := fun s s' J m => J.moved m
  keepV := fun _ _ _ _ h _ => h
  turn := fun j v s o Q E hj hP J st hS hq => by
    obtain ⟨x, hx, rx⟩ := hP
    obtain ⟨⟨oI, hI, h1, h2⟩, its, rv, hL⟩ := st
    have hj2 : j < ds.length := by rw [← rp.len]; exact hj
    have hd : ds[j]? = some ds[j] := List.getElem?_eq_getElem hj2
    obtain ⟨x', e1, e2⟩ := rp.get hd
    rw [hx] at e1
    cases e1
    refine key_turn (o := o) (oI := oI) J hpin L nd hi hun hbind fa hr gd hbody rx e2 (keysV_at hks hd) hS hI fun kv s' hk J' gS gI => ?_
    obtain ⟨F, H, A1, I1, w1, st1, _⟩ := id J'
    obtain ⟨its', rv', pl, _⟩ := I1.list (a := l) (xs := xs) (.of (w1.sub _ _ (st1.fz _ _ hl)))
    exact hq kv s' J' ⟨⟨oI, gI, h1, h2⟩, its', rv', pl.isList⟩ gS hk fun j k' h => h
  cmp := fun i j ki kj s Q E _ hi hj h => by
    cases big with
    | true => exact CmpOf.ints_gt (P := fun i v => ∃ t, v = .int (ks.getD i 0) t) (fun i => ks.getD i 0) (fun _ _ h => h) i j ki kj s Q E hi hj h
    | false => exact CmpOf.ints_lt (P := fun i v => ∃ t, v = .int (ks.getD i 0) t) (fun i => ks.getD i 0) (fun _ _ h => h) i j ki kj s Q E hi hj h
theorem argBest_le (bt : Nat → Nat → Bool) : ∀ n, argBest bt n ≤ n
  | 0 => Nat.le_refl _
  | n + 1 => by
    simp only [argBest]
    split
    · exact Nat.le_refl _
    · exact Nat.le_succ_of_le (argBest_le bt n)
def KeyK (X : Cx) (pv : Nat → Option V) (σ : L2.St) (fb : M R) (i : Nat) (big : Bool) (Q : VK) : VK := fun v H1 => ∃ ds e' ks d xs l F1 A1, v = .ref l ∧ WS X.K pv e' σ F1 H1 A1 ∧ F1 l = some (.lst xs) ∧ Reps X.K F1 ds xs ∧ e'[i]? = some .un ∧ keysV fb i e' ds = some ks ∧ ds[bestIx big ks]? = some d ∧
  ∀ v F2 H2 A2, Step F1 H1 (UA A1) F2 H2 (UA A2) → WS X.K pv e' σ F2 H2 A2 → Rep X.K F2 d v → Q v H2
theorem de_key (big : Bool) (hc : X.calm = true) {id : String} (hid : id = if big then "max" else "min") (hx : x = Str.ofString id) (hg : Gl X x) (hm : X.mg x = none) (hv : bootBuiltins x = some (.builtin id)) (TB : TabB X.base X.mg c P) (hcode : X.env.code = .ref c) (hmT : (P, X.env.qual ++ "<lambda>") ∈ tb.T)
    (hu : ∀ p ∈ tb.T, p.1 = P → p.2 = X.env.qual ++ "<lambda>") (hr : Room (k + 2) X.A) (gd : X.A.guards = some []) (hf : PE X e (tD X.K X.mg pv W f)) (L : LamP X.env.scope scope a) (nd : X.N.Nodup) (hi : X.N[i]? = some a) (hdef : defaultsOf params X.env = ([], []))
    (hbind : ∀ (q : Str) (cl : List (Str × Addr)) (pm cv ctv u : Value), bindArgs (PySem.W.kla_fn "<lambda>" q params body scope cl pm cv ctv) ⟨[u], []⟩ = pure [(a, u)])
    (hbody : ∀ (A : Around) (outer : List Env) (s : Shared) (H : Hp) (f c' : Addr), Room k (A.deeper (lamEnv X scope s.heap.objs.size f c')) → A.guards = some [] → PE (lamCx X A outer s H E00 scope f c') body (tD X.K X.mg pv W0 fb))
    (hn : x ≠ "__name__" := by decide) (hdb : (x == ("__debug__" : Str)) = false := by decide) (hs : starEach (e :: []) X.env = (false, eval e X.env) :: starEach [] X.env := by rfl) (he : backTo pos (starEach (e :: []) X.env) = (false, eval e X.env) :: backTo pos (starEach [] X.env) := by rfl)
    (hpl : (backTo pos (starEach (e :: []) X.env)).any (·.1) = false := by rfl) :
    PE X (.Call (.Name x p) [e] [⟨some "key", .Lambda params body scope lpos, kpos⟩] pos) (tD X.K X.mg pv W (dKey big f i fb)) := by
  refine ⟨fun pins s σ H Q I h => ?_⟩
  refine wpAny_Call_Name_kw (ld_blt I hg hm hv ?_ hn hdb)
  refine PyProof.Rows.callWith_kw (env := X.env) (e := e) (rest := []) (kws := [⟨some "key", .Lambda params body scope lpos, kpos⟩]) ?_ he hpl (by rfl) (by rfl)
  have hA : tD X.K X.mg pv W f σ H (KeyK X pv σ fb i big Q) := by
    obtain ⟨env, F, A, ws, q⟩ := h
    simp only [dKey] at q
    refine tD_bind ws (fun e => ?_) (fun c e1 e F1 H1 A1 s1 w1 => ?_) (fun r1 e1 e v1 F1 H1 A1 B1 s1 rs1 => ?_)
    · rw [e] at q; exact q
    · rw [e] at q; exact q F1 H1 A1 s1 w1
    · rw [e] at q
      simp only [Res.bind] at q
      cases hf : frzI r1 e1 with
      | none => simp only [hf] at q
      | some de =>
        obtain ⟨d0, e'⟩ := de
        cases d0 with
        | lst ds =>
          simp only [hf] at q
          cases hu : e'[i]? with
          | none => simp only [hu] at q
          | some sl =>
            cases sl with
            | un =>
              simp only [hu] at q
              cases hk : keysV fb i e' ds with
              | none => simp only [hk] at q
              | some ks =>
                simp only [hk] at q
                cases hd : ds[bestIx big ks]? with
                | none => simp only [hd] at q
                | some d =>
                  simp only [hd] at q
                  obtain ⟨G, A2, g1, g2, g3⟩ := frzI_rel s1 rs1 hf
                  simp only [Rep] at g3
                  obtain ⟨l, xs, rfl, h1, h2⟩ := g3
                  exact ⟨ds, e', ks, d, xs, l, G, A2, rfl, g2, h1, h2, hu, hk, hd, fun v F2 H2 A3 s2 w2 rd => q v F2 H2 A3 [] ((g1.trans s2).trans step_id) (rs_val w2 rd)⟩
            | own o => simp only [hu] at q
            | pin o => simp only [hu] at q
        | _ => simp only [hf] at q
  have pa : PA X [e] (tCons (tD X.K X.mg pv W f) tNil) := pa_cons hf pa_nil hs
  refine thn (pa.run pos pins s σ H (fun vs H1 => ∃ v, vs = [v] ∧ KeyK X pv σ fb i big Q v H1) I (show tCons _ _ σ H _ from tD_mono hA fun v H1 z => ⟨v, rfl, z⟩)) fun us s1 hh => ?_
  obtain ⟨vs, H1, I1, r1, v, rfl, ds, e', ks, d, xs, l, F1, A1, rfl, w1, hl, rp, hun, hks, hd, q⟩ := hh
  obtain ⟨u, rfl, ru⟩ := vals1 r1
  cases ru
  show wpAny _ _ (evalAll ((do let v ← eval (.Lambda params body scope lpos) X.env; standAt pos; pure v) :: [])) _ _ s1
  refine wpAny_evalAll_cons (wpAny_bind ?_)
  refine lam_make3 I1 TB hcode hmT hu w1.tbs.1 hdef (L.has I1.ok) fun f' c' pm ctv G1 s2 I2 eN T1 hof hfn hfb hco => ?_
  refine wpAny_bind (wpAny_standAt (wpAny_pure ?_))
  refine wpAny_evalAll_nil ?_
  subst hx
  show wpAny (model X.prog X.w) X.A (call (.builtin id) [.ref l] [(Str.ofString "key", .ref f')]) (EP X pins σ Q) X.xe s2
  -- the state behind the lambda
  have nP : ∀ {b : Addr} {o : HO}, F1 b = some o → b ≠ P := fun {b o} hb z => by
    rw [z, w1.tbs.2 _ hmT] at hb
    cases hb
  have sub2 : Same F1 G1 := fun b o hb => eN b o (nP hb) (w1.sub _ _ hb)
  have tq : TbsOk F1 H1 → TbsOk F1 G1 := fun t => ⟨T1, t.2⟩
  have notP : ∀ {b : Addr} {o : HO}, H1 b = some o → NoTb o → b ≠ P := fun {b o} hb nt z => by
    obtain ⟨ps, e⟩ := w1.tbs.at hmT
    rw [z] at hb
    rw [show H1 P = _ from e] at hb
    cases hb
    exact nt ps rfl
  have w2 : WS X.K pv e' σ F1 G1 A1 := w1.stay (Same.refl _) sub2 (fun b hb u hu => eN b u (notP hu (Nd.noTb (by rw [← hu]; exact w1.ndU hb))) hu) (fun b hb => w1.disU hb) tq
  have st2 : Step F1 H1 (UA A1) F1 G1 (UA A1) := by
    refine ⟨Same.refl _, fun b o hb nt _ => eN b o (notP hb nt) hb, tq, fun b hb => .inl hb, fun b hb => ?_, fun b hb => .inl hb⟩
    cases e : H1 b with
    | none => rfl
    | some o =>
      exfalso
      by_cases z : b = P
      · obtain ⟨ps, e2, _⟩ := T1 _ hmT
        rw [z, show G1 P = _ from e2] at hb
        cases hb
      · rw [eN b o z e] at hb
        cases hb
  -- the lambda's object is kept
  have nL : f' ≠ X.env.locals := Nat.ne_of_gt (Nat.lt_of_lt_of_le I1.lt hfb)
  have nF : f' ∉ X.fs := I1.nofs hfb
  have I3 : Inv X ((f', PySem.W.kla_obj "<lambda>" (X.env.qual ++ "<lambda>") params body scope (cloFrom X.env.cells scope.names []) pm c' ctv) :: pins) σ G1 s2 := I2.pins_of fun q hq => by
    rcases List.mem_cons.mp hq with rfl | hq
    · exact ⟨hof, hfn, nL, nF, fun v z => by cases z⟩
    · exact I2.pin q (List.mem_append_right _ hq)
  obtain ⟨its, rv, pl, hz⟩ := I3.list (a := l) (xs := xs) (.of (sub2 _ _ hl))
  have hls := pl.isList
  have hll : l < s2.heap.objs.size := by obtain ⟨_, e, _⟩ := hls; exact Heap.lt_size e
  have hne0 : 0 < xs.length := by
    rw [rp.len]
    have := (List.getElem?_eq_some_iff.mp hd).1
    omega
  have klen := keysV_len hks
  have fin : wpAny (model X.prog X.w) X.A.in1 (pyIter (.ref l)) (fun it s₂ => ∃ I fp wr G n P St J V bt, it = .ref I ∧ WalksS X.prog X.w X.A.in1 I fp wr G n P St ∧ St 0 s₂ ∧ (∀ b ∈ fp, b < s₂.heap.objs.size) ∧ 0 < n ∧
      KeyRun X.prog X.w X.A.in1 (.ref f') (if big then .Gt else .Lt) s₂.heap.objs.size wr G n P St J V bt ∧ J s₂ ∧ ∀ v s', P (argBest bt (n - 1)) v → J s' → EP X pins σ Q v s') X.xe s2 := by
    refine wpAny_pyIter_list hls ?_
    have hI : (s2.heap.push { cls := .type "list_iterator", data := .fields #[.ref l, .int 0 0] }).get? s2.heap.objs.size = some _ := Heap.get?_push_size _ rfl
    have sz : (s2.heap.push { cls := .type "list_iterator", data := .fields #[.ref l, .int 0 0] }).objs.size = s2.heap.objs.size + 1 := Heap.size_push ..
    have I4 : Inv X ((f', PySem.W.kla_obj "<lambda>" (X.env.qual ++ "<lambda>") params body scope (cloFrom X.env.cells scope.names []) pm c' ctv) :: pins) σ G1 { s2 with heap := s2.heap.push { cls := .type "list_iterator", data := .fields #[.ref l, .int 0 0] } } := I3.kept (t' := s2.toks) fun b o e => Heap.get?_push_of_some _ e
    have fS := I3.fpOk (H' := G1) (b := s2.heap.objs.size + 1) (Nat.le_succ _) (I3.hok.fresh (Nat.le_succ _))
    have fI := I3.fpOk (H' := G1) (b := s2.heap.objs.size) (Nat.le_refl _) (I3.hok.fresh (Nat.le_refl _))
    refine ⟨s2.heap.objs.size, [s2.heap.objs.size, l], [s2.heap.objs.size], _, xs.length, _, _, _, _, _, rfl, walksL (A := X.A.in1) (I1.ok.hd hc) (Nat.ne_of_lt hll) xs, ⟨⟨_, hI, rfl, rfl⟩, its, rv, hls.push _⟩, fun b hb => ?_, hne0,
      key_run (big := big) (l := l) (f' := f') (c' := c') (pm := pm) (ctv := ctv) (A0 := A1) (H0 := G1) (F0 := F1) (σ := σ) (e0 := e') (ks := ks) (ds := ds) (xs := xs) (List.mem_cons_self) L nd hi hun (fun u => hbind _ _ _ _ _ u) rfl (Room.in1 hr) gd hbody hl rp hks ?_, ⟨F1, G1, A1, I4, w2, Step.refl, hco, ?_, fI⟩, fun v s' hP J => ?_⟩
    · rcases List.mem_cons.mp hb with rfl | hb
      · show _ < (s2.heap.push _).objs.size
        rw [sz]; omega
      · rw [List.mem_singleton.mp hb]
        show _ < (s2.heap.push _).objs.size
        rw [sz]; exact Nat.lt_succ_of_lt hll
    · show (s2.heap.push _).objs.size ≠ _
      rw [sz]; omega
    · show FpOk X _ G1 (s2.heap.push _).objs.size
      rw [sz]; exact fS
    · obtain ⟨x, hx, rx⟩ := hP
      obtain ⟨F, H', A', I5, w5, st5, _⟩ := J
      have hb : bestIx big ks = argBest (fun i j => betterI big (ks.getD i 0) (ks.getD j 0)) (xs.length - 1) := by
        unfold bestIx
        rw [klen, rp.len]
      obtain ⟨x', e1, e2⟩ := rp.get hd
      rw [hb] at e1
      rw [hx] at e1
      cases e1
      refine ⟨x, H', I5.pins_of fun q hq => I5.pin q (List.mem_append_right _ (List.mem_cons_of_mem _ hq)), rx, q x F H' A' (st2.trans st5) w5 (Rep.same st5.fz d e2)⟩
  cases big with
  | true =>
    simp only [if_true] at hid
    subst hid
    exact call_max_walkK fin
  | false =>
    simp only [Bool.false_eq_true, if_false] at hid
    subst hid
    exact call_min_walkK fin
end
end DL
end
section
set_option maxRecDepth 100000
set_option maxHeartbeats 4000000
namespace DL
open PySem PySem.Spec PyProof.Rows L2 LamX
variable [tb : Tb]
/-! ### defs that make lambdas -/
structure TabL (base : Heap) (mg : Str → Option Value) (x : Str) (c P : Addr) : Prop where
  tab : TabB base mg c P
  mem : (P, (x ++ (".<locals>." : Str)) ++ ("<lambda>" : Str)) ∈ tb.T
  uniq : ∀ p ∈ tb.T, p.1 = P → p.2 = (x ++ (".<locals>." : Str)) ++ ("<lambda>" : Str)
structure DefL (K : PySem.W.Frag) (mg : Str → Option Value) (base : Heap) (x : Str) (st : Stmt) (ps : List Str) : Prop where
  ex : ∃ f fd c P, L2.Fun K x x st f fd ∧ BA fd ps ∧ mg x = some (.ref f) ∧ fd.code = .ref c ∧ TabL base mg x c P
theorem gv_okL {Pr : Program} {w : World} {K : PySem.W.Frag} {mg : Str → Option Value} {base : Heap} {x : Str} {st : Stmt} {N ps : List Str} {k : Nat} {body : M DL.Flow} (T : DefL K mg base x st ps) (S : FnScope N ps (defScope st)) (hn : ps.length ≤ N.length)
    (hbody : ∀ (f : Addr) (c P : Addr) (A : Around) (outer : List Env) (s : Shared) (H : Hp) (E : XK) (pv : Nat → Option V), TabL base mg x c P → Room k (A.deeper (envOfC x (defScope st) s.heap.objs.size f (.ref c))) → A.guards = some [] →
      PSs (cxOf (L2.CX Pr w) Pr w K mg base N x (defScope st) f (.ref c) A outer s H E) (defBody st) (sD K mg pv (fun c d _ H => E c d H) body)) :
    GV Pr w K mg base (k + 1) x ps (mkFn (N.length - ps.length) body) :=
  let ⟨f, fd, c, P, h1, h2, h3, h4, h5⟩ := T.ex
  ⟨f, fd, h3, h1.kp, h2, fun_lk h1, fn_ok h1 S hn fun cdv A outer s H E pv hc => by
    have e : cdv = .ref c := hc.symm.trans h4
    subst e
    exact hbody f c P A outer s H E pv h5⟩
end DL
end
section
set_option maxRecDepth 100000
set_option maxHeartbeats 4000000
namespace DL
open PySem PySem.Spec PyProof.Rows L2 LamX
/-! ### the law's end, with tables -/
/-- law_call with tables: cz, the code objects and their tables -/
theorem law_gTs {P : Program} {w : World} {K : PySem.W.Frag} {mg mbq : Str → Option Value} {CXz : CXT} {k : Nat} {fq a : Addr} {cz : List (Addr × Addr)} {fdq : FuncData} {pq : List Str} {sp : Sp} {sz : Shared} {vz : List Value} {nz : List Int}
    (kInz : K.In sz.heap) (nsMz : sz.heap.Ns mainGlobals mg) (qb : sz.heap.Ns builtinsNs mbq) (nsBq : ∀ x : Str, x ≠ "__name__" → mbq x = bootBuiltins x) (limz : sz.heap.NoLimit) (gensz : sz.gens = #[])
    (tabz : ∀ p ∈ cz, sz.heap.get? p.2 = some { cls := .none, data := .fields #[] }) (tabn : ∀ p ∈ cz, K.lookup p.2 = none) (C : ∀ p ∈ cz, PySem.W.CodeHd sz.heap p.1 p.2)
    (bmz : ∃ (bm : Addr) (ob : Obj), mg "__builtins__" = some (.ref bm) ∧ bm ≠ builtinsNs ∧ sz.heap.get? bm = some ob ∧ ob.cls = .type "module" ∧ ob.dict = some builtinsNs ∧ ob.data = .plain)
    (objz : sz.heap.get? a = some { cls := .type "list", data := .seq vz.toArray }) (intsz : IntsAre vz nz) (lenz : nz.length ≤ sizeLine) (roomz : Room k callerA)
    (Fq : ∀ base : Heap, K.In base → base.Ns mainGlobals mg → (∀ p ∈ cz, TabB base mg p.1 p.2) → GFn P w K mg base CXz k fq fdq pq sp) (bindz : ∀ (s : Shared) (u : Value), BindsTo s fdq ⟨[u], []⟩ (pq.zip [u]))
    (spz : ∀ H : Hp, (∀ p ∈ cz, H p.2 = some (.tbl #[])) → SqL K H a (nz.map V.int) → sp [.ref a] H (fun v _ => v = .bl true) fun _ _ _ => False)
    (cxz : ∀ H ez s', CXz [] H sz (fun _ _ _ => False) ez s' → False) :
    codeAny (model P w) callerA (.call (.ref fq) ⟨[.ref a], []⟩) (fun r s' => r = .ok (.ret (.bool true)) ∧ OldK sz.heap s'.heap ∧ s'.os = sz.os ∧ AllBare s'.gens) sz := by
  have rvz := vals_ints intsz
  have lenq := intsz.length
  have isTz : ∀ b : Addr, b ∈ cz.map (·.2) → sz.heap.get? b = some { cls := .none, data := .fields #[] } := fun b qb => by
    obtain ⟨p, pz, ez⟩ := List.mem_map.mp qb
    rw [← ez]
    exact tabz p pz
  have aTz : a ∉ cz.map (·.2) := fun zz => by
    have qq := isTz a zz
    rw [objz] at qq
    have z' : Data.seq vz.toArray _ = Data.fields #[] := congrArg Obj.data (Option.some.inj qq)
    cases z'
  have memz : ∀ p ∈ cz, p.2 ∈ cz.map (·.2) := fun p pz => List.mem_map.mpr ⟨p, pz, rfl⟩
  -- from an abstract heap in which nothing but the script and the tables may be tracked
  have coreq : ∀ H : Hp, (∀ p ∈ cz, H p.2 = some (.tbl #[])) → (∀ b, H b = none ∨ b ∈ cz.map (·.2) ∨ ∃ o xs, H b = some (.frz o (.lst xs))) → SqL K H a (nz.map V.int) → HOk P w H sz.heap → (∀ b, H b ≠ none → b = a ∨ b ∈ cz.map (·.2)) → (H a ≠ none → K.lookup a = none) →
      codeAny (model P w) callerA (.call (.ref fq) ⟨[.ref a], []⟩) (fun r s' => r = .ok (.ret (.bool true)) ∧ OldK sz.heap s'.heap ∧ s'.os = sz.os ∧ AllBare s'.gens) sz := by
    intro H trH onlyH sqH okH inA notK
    have baseq : ∀ {b : Addr} {o : Obj}, sz.heap.get? b = some o → H b = none → (hidT sz.heap H).get? b = some o := fun ez n => hidT_get ez n
    have noDq : ∀ {b : Addr} {o : Obj}, sz.heap.get? b = some o → (∀ vz n, o.data ≠ .seq vz n) → o.data ≠ .fields #[] → H b = none := fun {b o} ez h1 h2 => by
      cases qq : H b with
      | none => rfl
      | some u =>
        rcases inA b (by rw [qq]; simp) with e' | e'
        · rw [e', objz] at ez
          cases ez
          exact (h1 _ _ rfl).elim
        · rw [isTz b e'] at ez
          cases ez
          exact (h2 rfl).elim
    have noAq : ∀ {b : Addr} {o : Obj} {es : Array DictEntry} {ep : Nat}, sz.heap.get? b = some o → o.data = .dict es ep → H b = none := fun {b o es ep} ez d => by
      refine noDq ez (fun vz n zz => ?_) fun zz => ?_
      · rw [d] at zz
        cases zz
      · rw [d] at zz
        cases zz
    have nsq : ∀ {b : Addr} {m : Str → Option Value}, sz.heap.Ns b m → (hidT sz.heap H).Ns b m := fun {b m} ⟨o, es, ep, ez, d, r⟩ => ⟨o, es, ep, baseq ez (noAq ez d), d, r⟩
    have kbq : K.In (hidT sz.heap H) := fun b o ez => baseq (kInz b o ez) (by
      cases qq : H b with
      | none => rfl
      | some u =>
        rcases inA b (by rw [qq]; simp) with e' | e'
        · rw [e'] at ez qq
          rw [notK (by rw [qq]; simp)] at ez
          cases ez
        · obtain ⟨p, pz, ep⟩ := List.mem_map.mp e'
          rw [← ep, tabn p pz] at ez
          cases ez)
    have modq : L2.Mod K mg (hidT sz.heap H) := ⟨kbq, nsq nsMz, ⟨mbq, nsq qb, nsBq⟩, let ⟨mc, h1, h2⟩ := limz; ⟨mc, nsq h1, h2⟩⟩
    have tbq : ∀ p ∈ cz, TabB (hidT sz.heap H) mg p.1 p.2 := fun p pz => by
      have hTp := tabz p pz
      refine ⟨?_, ?_, fun zz => ?_⟩
      · obtain ⟨o, us, file, tf, flags, tg, inF, text, tt, e1, r1, r2, r3, r4, r5, r6, r7, r8, hne⟩ := C p pz
        refine ⟨o, us, file, tf, flags, tg, inF, text, tt, baseq e1 (noDq e1 (fun vz n zz => ?_) fun zz => ?_), r1, r2, r3, r4, r5, r6, r7, r8, hne⟩
        · rw [r2] at zz
          cases zz
        · rw [r2] at zz
          cases zz
          simp at r3
      · obtain ⟨bm, ob, b1, b2, b3, b4, b5, b6⟩ := bmz
        have nG : bm ≠ mainGlobals := fun qq => by
          obtain ⟨o, es, ep, ez, hd, _⟩ := nsMz
          rw [qq, ez] at b3
          cases b3
          rw [hd] at b6
          cases b6
        have nP : bm ≠ p.2 := fun qq => by
          rw [qq, hTp] at b3
          cases b3
          cases b6
        refine ⟨bm, ob, b1, b2, nG, nP, baseq b3 (noDq b3 (fun vz n zz => ?_) fun zz => ?_), b4, b5, b6⟩
        · rw [b6] at zz
          cases zz
        · rw [b6] at zz
          cases zz
      · obtain ⟨o, es, ep, ez, hd, _⟩ := nsMz
        rw [zz, hTp] at ez
        cases ez
        cases hd
    have envq : Env0 P w K mg (hidT sz.heap H) callerA [] sz H := ⟨rfl, modq, fun b o ez => of_hidT ez, Nat.le_of_eq (hidT_size _ _), trivial, fun b qb => absurd (show b ∈ ([] : List Addr) from qb) (by simp), okH, .of_eq gensz⟩
    refine codeAny_mono ((Fq _ kbq (nsq nsMz) tbq).go callerA [] sz H ⟨[.ref a], []⟩ [.ref a] [.ref a] _ _ roomz rfl envq (bindz sz (.ref a)) (.cons rfl .nil) (spz H trH sqH)) fun r s' h => ?_
    cases r with
    | error ez => exact (cxz H ez s' h).elim
    | ok fl =>
      cases fl with
      | next => exact False.elim h
      | brk => exact False.elim h
      | cont => exact False.elim h
      | ret u =>
        obtain ⟨v, H', os, bare, un, hok', r', qq⟩ := h
        have q' : v = .bl true := qq
        subst q'
        obtain rfl : u = Value.bool true := r'
        have keyq : ∀ b o, b ∉ cz.map (·.2) → sz.heap.get? b = some o → s'.heap.get? b = some o := fun b o nb ez => by
          cases qq : H b with
          | none => exact un.keep b o ez qq (by intro zz; exact absurd (show b ∈ ([] : List Addr) from zz) (by simp)) (by simp)
          | some u =>
            rcases onlyH b with zz | zz | ⟨ob, xs, zz⟩
            · rw [qq] at zz; cases zz
            · exact absurd zz nb
            · have z2 := un.frzs b ob _ zz
              obtain ⟨e1, _⟩ := okH b _ zz
              obtain ⟨e2, _⟩ := hok' b _ z2
              rw [ez] at e1; cases e1
              exact e2
        have grownq : ∀ p ∈ cz, ∃ more : Array Value, s'.heap.get? p.2 = some { cls := .none, data := .fields more } := fun p pz => by
          obtain ⟨more, zz⟩ := un.tbls p.2 #[] (trH p pz)
          exact ⟨_, hok' p.2 _ zz⟩
        refine ⟨rfl, ⟨fun b o ez => ?_, fun b o ez => ?_⟩, os, bare⟩
        · by_cases qb : b ∈ cz.map (·.2)
          · obtain ⟨p, pz, ep⟩ := List.mem_map.mp qb
            obtain ⟨more, hm⟩ := grownq p pz
            rw [← ep] at ez ⊢
            rw [tabz p pz] at ez
            cases ez
            exact .inr (.inl ⟨((C p pz).tab (tabz p pz)).isCodeTable, rfl, #[], more, rfl, by rw [Array.empty_append]; exact hm⟩)
          · exact .inl (keyq b o qb ez)
        · by_cases qb : b ∈ cz.map (·.2)
          · obtain ⟨p, pz, ep⟩ := List.mem_map.mp qb
            obtain ⟨more, hm⟩ := grownq p pz
            rw [← ep]
            exact ⟨_, hm⟩
          · exact ⟨o, keyq b o qb ez⟩
  cases hk : K.lookup a with
  | some o =>
    have ez := kInz a o hk
    rw [objz] at ez
    cases ez
    refine coreq (fun b => if b ∈ cz.map (·.2) then some (.tbl #[]) else none) (fun p pz => if_pos (memz p pz)) (fun b => ?_) (.inr ⟨_, vz.toArray, _, hk, rfl, rfl, rfl, by rw [List.size_toArray, lenq]; exact lenz, by simpa using rvz⟩) (fun b u zz => ?_) (fun b zz => ?_) fun zz => absurd (show (if a ∈ cz.map (·.2) then some (HO.tbl #[]) else none) = none from if_neg aTz) zz
    · by_cases qb : b ∈ cz.map (·.2)
      · exact .inr (.inl qb)
      · exact .inl (if_neg qb)
    · by_cases qb : b ∈ cz.map (·.2)
      · have z' := (if_pos qb).symm.trans zz
        cases z'
        exact isTz b qb
      · have z' := (if_neg qb).symm.trans zz
        cases z'
    · by_cases qb : b ∈ cz.map (·.2)
      · exact .inr qb
      · exact absurd (if_neg qb) zz
  | none =>
    refine coreq (fun b => if b = a then some (.frz { cls := .type "list", data := .seq vz.toArray } (.lst (nz.map V.int))) else if b ∈ cz.map (·.2) then some (.tbl #[]) else none) (fun p pz => (if_neg (show ¬ p.2 = a from fun zz => aTz (by rw [← zz]; exact memz p pz))).trans (if_pos (memz p pz))) (fun b => ?_)
      (.inl (.inr ⟨{ cls := .type "list", data := .seq vz.toArray }, if_pos rfl⟩)) (fun b u zz => ?_) (fun b zz => ?_) fun _ => hk
    · by_cases qb : b = a
      · exact .inr (.inr ⟨_, _, if_pos qb⟩)
      · by_cases hb2 : b ∈ cz.map (·.2)
        · exact .inr (.inl hb2)
        · exact .inl ((if_neg qb).trans (if_neg hb2))
    · by_cases qb : b = a
      · have z' := (if_pos qb).symm.trans zz
        cases z'
        rw [qb]
        exact ⟨objz, by rw [List.length_map]; exact lenz, vz, _, rvz, objz⟩
      · have z1 := (if_neg qb).symm.trans zz
        by_cases hb2 : b ∈ cz.map (·.2)
        · have z' := (if_pos hb2).symm.trans z1
          cases z'
          exact isTz b hb2
        · have z' := (if_neg hb2).symm.trans z1
          cases z'
    · by_cases qb : b = a
      · exact .inl qb
      · by_cases hb2 : b ∈ cz.map (·.2)
        · exact .inr hb2
        · exact absurd ((if_neg qb).trans (if_neg hb2)) zz
def LawG (l : PySem.W.OpenLaw) (w : World) (K : PySem.W.Frag) (CX : CXT) (k n : Nat) (mg : Str → Option Value) (fa : Addr) (h : Heap) : Prop :=
  ∃ (fd : FuncData) (pq : List Str) (cz : List (Addr × Addr)) (sp : Sp), (∀ p ∈ cz, h.get? p.2 = some { cls := .none, data := .fields #[] }) ∧ (∀ p ∈ cz, K.lookup p.2 = none) ∧ (∀ p ∈ cz, PySem.W.CodeHd h p.1 p.2) ∧ (∀ (s : Shared) (u : Value), BindsTo s fd ⟨[u], []⟩ (pq.zip [u])) ∧
    (∀ (H : Hp) (a : Addr) (nz : List Int), nz.length ≤ n → (∀ z ∈ nz, Builtin.Int.intBits z ≤ 1048576) → (∀ p ∈ cz, H p.2 = some (.tbl #[])) → SqL K H a (nz.map V.int) → sp [.ref a] H (fun v _ => v = .bl true) fun _ _ _ => False) ∧
    ∀ base : Heap, K.In base → base.Ns mainGlobals mg → (∀ p ∈ cz, TabB base mg p.1 p.2) → GFn l.prog w K mg base CX k fa fd pq sp
theorem walk_gTs {l : PySem.W.OpenLaw} {n k : Nat} {q : Program} {loose : List Str} {XP : (Str → Option Value) → Heap → Prop} {YP : World → Heap → Prop} {d : DefRec} {K : Params → PySem.W.Frag} {CX : World → CXT}
    (hn : l.most = some n) (hn2 : n ≤ sizeLine) (hdf : d.params.defaults = []) (hr : Room k callerA) (hY : ∀ (w : World) (h : Heap), YP w h → (K w.params).In h)
    (Fz : ∀ (w : World) (mg : Str → Option Value) (fa : Addr) (h : Heap), YP w h → (K w.params).In h → h.Ns mainGlobals mg → XP mg h → mg d.name = some (.ref fa) → LawG l w (K w.params) (CX w) k n mg fa h)
    (hCX : ∀ (w : World) (H : Hp) (s : Shared) (e : Value) (s' : Shared), CX w [] H s (fun _ _ _ => False) e s' → False) :
    PySem.W.WalkO q loose XP YP l.row.toRowW d [] (fun f vs => PySem.call f vs) := by
  refine Att.attach_callB hn hdf fun w s₀ sz mg mb fa o pm cd doc a vs nz G Y ho hd hcd hmg hobj hints hlen hbits hg => ?_
  have kI := hY w _ Y
  obtain ⟨fd, pq, cz, sp, t1, t2, t3, t4, t5, t6⟩ := Fz w mg fa _ Y kI G.T.g G.X hmg
  exact law_gTs kI G.T.g G.T.b G.T.builtins G.T.nolimit hg t1 t2 t3 G.T.bmain hobj hints (Nat.le_trans hlen hn2) hr t6 t4 (fun H z1 z2 => t5 H a nz hlen hbits z1 z2) fun H e s' => hCX w H sz e s'
/-- what the law's def is given: the script -/
theorem spD_law [tb : Tb] {K : PySem.W.Frag} {mg : Str → Option Value} {g : List O → RF} {H : Hp} {a : Addr} {ns : List Int} {os : List O} (ht : ∀ p ∈ tb.T, H p.1 = some (.tbl #[])) (hk : ∀ p ∈ tb.T, K.lookup p.1 = none) (hS : SqL K H a (ns.map V.int))
    (hg : g [.val (.rol (ns.map D.int))] = .ok (.val (.bl true)) os) : spD K mg 1 g [.ref a] H (fun v _ => v = .bl true) fun _ _ _ => False := by
  have ne : ∀ p ∈ tb.T, p.1 ≠ a := fun p hp z => by
    have h1 := ht p hp
    have h2 := hk p hp
    rw [z] at h1 h2
    rcases hS with (h | ⟨o, h⟩) | ⟨o, _, _, h, _⟩
    · rw [h] at h1; cases h1
    · rw [h] at h1; cases h1
    · rw [h] at h2; cases h2
  let F : Hp := fun b => if b = a then H a else none
  have Fa : F a = H a := if_pos rfl
  have sub : Same F H := fun b o e => by
    by_cases z : b = a
    · rw [z] at e ⊢; rw [Fa] at e; exact e
    · rw [show F b = none from if_neg z] at e; cases e
  have rp : Rep K F (.rol (ns.map D.int)) (.ref a) := by
    simp only [Rep]
    refine ⟨a, ns.map V.int, rfl, ?_, Reps.of_ints ns⟩
    rcases hS with (h | ⟨o, h⟩) | h
    · exact .inl (.inl (Fa.trans h))
    · exact .inl (.inr ⟨o, Fa.trans h⟩)
    · exact .inr h
  refine ⟨rfl, [.val (.rol (ns.map D.int))], F, fun _ => [], ⟨rfl, fun i => ?_, fun _ => List.nodup_nil, (fun _ _ _ h => nomatch h), (fun _ _ h => nomatch h), sub, fun p hp => TabS.nil (ht p hp), fun p hp => if_neg (ne p hp)⟩, ?_⟩
  · cases i with
    | zero => exact ⟨.ref a, rfl, rfl, Own.mkVal rp⟩
    | succ i => simp [SlotOk]
  · rw [hg]
    intro v F' H' A' B s rs
    have h : Own K F' H' (.val (.bl true)) v B := rs.rr
    simp only [Own, Rep] at h
    exact h.2
/-! ### what the top has written -/
section
variable {K : PySem.W.Frag} {h : Heap} {mg : Str → Option Value} {x : Str} {st : Stmt} {ps : List Str} {f : Addr} {oc : Value} {od an : Option Addr} {osl : Array (Option Value)} {kV doc pm cdv ct : Value}
theorem defF_mk (X : K.In h) (G : h.Ns mainGlobals mg) (a : PySem.W.nsIn K mainGlobals x = some (some (.ref f))) (l : K.lookup f = some ⟨oc, od, .func (PySem.W.fnOf x x (defArgs st) (defBody st) (defScope st) .none kV doc pm an cdv ct), osl⟩)
    (c : PySem.W.codeIn K cdv x = true) (kp : PySem.W.keepIn K (.ref f) = true) (hb : ∀ (kV doc pm : Value) (an : Option Addr) (cdv ct : Value), BA (PySem.W.fnOf x x (defArgs st) (defBody st) (defScope st) .none kV doc pm an cdv ct) ps) : DefF K mg x st ps :=
  ⟨f, _, L2.fun_mk l c kp, hb _ _ _ _ _ _, PySem.W.mg_of X G a⟩
theorem defL_mk [tb : Tb] {base : Heap} {ca P : Addr} (X : K.In h) (G : h.Ns mainGlobals mg) (T : TabL base mg x ca P) (a : PySem.W.nsIn K mainGlobals x = some (some (.ref f))) (l : K.lookup f = some ⟨oc, od, .func (PySem.W.fnOf x x (defArgs st) (defBody st) (defScope st) .none kV doc pm an (.ref ca) ct), osl⟩)
    (c : PySem.W.codeIn K (.ref ca) x = true) (kp : PySem.W.keepIn K (.ref f) = true) (hb : ∀ (kV doc pm : Value) (an : Option Addr) (cdv ct : Value), BA (PySem.W.fnOf x x (defArgs st) (defBody st) (defScope st) .none kV doc pm an cdv ct) ps) : DefL K mg base x st ps :=
  ⟨f, _, ca, P, L2.fun_mk l c kp, hb _ _ _ _ _ _, PySem.W.mg_of X G a, rfl, T⟩
theorem excCls_mk {C : Addr} (X : K.In h) (G : h.Ns mainGlobals mg) (a : PySem.W.nsIn K mainGlobals x = some (some (.ref C))) (h1 : PySem.W.excIn K C veTail4 "ValueError.__new__" = true) (h2 : PySem.W.keepIn K (.ref C) = true) (h3 : PySem.W.subIn K (.ref C) (.type "BaseException") = some true)
    (h4 : PySem.W.typeIn K (.ref C) = some (.type "type")) : ∃ C, ExcCls K mg x C := ⟨C, PySem.W.mg_of X G a, h1, h2, h3, h4⟩
theorem loose_int {n : Int} {lv : List (Str × PySem.W.WData)} (L : PySem.W.LooseAre lv mg h) (hm : (x, PySem.W.WData.int n) ∈ lv) : ∃ t, mg x = some (.int n t) := by
  obtain ⟨v, e, r⟩ := L.val _ hm
  cases r with
  | int _ t => exact ⟨t, e⟩
end
/-- a law's promise from its def's -/
theorem lawG_mk {l : PySem.W.OpenLaw} {w : World} {K : PySem.W.Frag} {k n : Nat} {mg : Str → Option Value} {fa : Addr} {h : Heap} {x : Str} {st : Stmt} {g : List O → RF} (cz : List (Addr × Addr × Str)) (hmg : mg "law" = some (.ref fa)) (D0 : DefF K mg "law" st [x])
    (h1 : ∀ p ∈ cz, h.get? p.2.1 = some { cls := .none, data := .fields #[] }) (h2 : ∀ p ∈ cz, K.lookup p.2.1 = none) (h3 : ∀ p ∈ cz, PySem.W.CodeHd h p.1 p.2.1)
    (hg : ∀ ns : List Int, ns.length ≤ n → (∀ z ∈ ns, Builtin.Int.intBits z ≤ 1048576) → ∃ os, g [.val (.rol (ns.map D.int))] = .ok (.val (.bl true)) os)
    (hG : ∀ base : Heap, K.In base → base.Ns mainGlobals mg → (∀ p ∈ cz, TabB base mg p.1 p.2.1) → @GV ⟨cz.map fun p => (p.2.1, p.2.2)⟩ l.prog w K mg base k "law" [x] g) : LawG l w K (L2.CX l.prog w) k n mg fa h := by
  letI : Tb := ⟨cz.map fun p => (p.2.1, p.2.2)⟩
  obtain ⟨f, fd, hF, hB, hm⟩ := D0.ex
  have e := hmg.symm.trans hm
  cases e
  have mem : ∀ {p : Addr × Addr}, p ∈ cz.map (fun p => (p.1, p.2.1)) → ∃ q ∈ cz, (q.1, q.2.1) = p := fun h => List.mem_map.mp h
  refine ⟨fd, [x], cz.map fun p => (p.1, p.2.1), spD K mg 1 g, fun p hp => ?_, fun p hp => ?_, fun p hp => ?_, fun s u => .of_eq (hB [u] rfl), fun H a nz hl hb ht hS => ?_, fun base kb nb tB => ?_⟩
  · obtain ⟨q, hq, rfl⟩ := mem hp; exact h1 q hq
  · obtain ⟨q, hq, rfl⟩ := mem hp; exact h2 q hq
  · obtain ⟨q, hq, rfl⟩ := mem hp; exact h3 q hq
  · obtain ⟨os, hgo⟩ := hg nz hl hb
    refine spD_law (fun p hp => ?_) (fun p hp => ?_) hS hgo
    · obtain ⟨q, hq, rfl⟩ := List.mem_map.mp hp
      exact ht (q.1, q.2.1) (List.mem_map.mpr ⟨q, hq, rfl⟩)
    · obtain ⟨q, hq, rfl⟩ := List.mem_map.mp hp
      exact h2 q hq
  · obtain ⟨f', fd', m1, _, _, ⟨oc, od, osl, lk⟩, G⟩ := (hG base kb nb fun p hp => tB (p.1, p.2.1) (List.mem_map.mpr ⟨p, hp, rfl⟩)).ex
    have e := hm.symm.trans m1
    cases e
    obtain ⟨oc2, od2, osl2, lk2⟩ := fun_lk hF
    have e := lk.symm.trans lk2
    cases e
    exact G
end DL
end
section
set_option maxRecDepth 100000
set_option maxHeartbeats 4000000
namespace DL
open PySem PySem.Spec PyProof.Rows L2
section
variable [tb : Tb]
/-! ### a list or a tuple walked -/
def dSeqA (f : M R) : M (List D) := fun env => (f env).bind fun r e => match frzI r e with
  | some (.lst ds, e') => .ok ds e'
  | some (.tup ds, e') => .ok ds e'
  | _ => .bad
theorem di_any {X : Cx} {pv : Nat → Option V} {W : WX} {f : M R} {tg e : Expr} (he : PE X e (tD X.K X.mg pv W f)) : PI X tg e (tI X.K X.mg pv W (dSeqA f)) := by
  have h1 : PI X tg e (tI X.K X.mg pv W (dSeq f)) := di_list he
  have h2 : PI X tg e (tI X.K X.mg pv W (dSeqT f)) := di_tup he
  refine ⟨fun pins s σ H R I q => ?_⟩
  obtain ⟨env, F, A, ws, q⟩ := q
  by_cases hd : dSeqT f env = dSeqA f env
  · refine h2.run pins s σ H R I ⟨env, F, A, ws, ?_⟩
    rw [hd]; exact q
  · have e2 : dSeq f env = dSeqA f env := by
      unfold dSeq dSeqA dSeqT at *
      cases hf : f env with
      | bad => rfl
      | exc c e' => rfl
      | ok r e' =>
        simp only [hf, Res.bind] at hd ⊢
        split
        · rename_i h; simp only [h]
        · rename_i hn
          split
          · rename_i ds e3 h; exact absurd h (hn ds e3)
          · rename_i ds e3 h
            exfalso
            apply hd
            simp only [h]
          · rfl
    refine h1.run pins s σ H R I ⟨env, F, A, ws, ?_⟩
    rw [e2]; exact q
end
/-! ## plain law: what a piece of code gives -/
/-- it ends well, and Q is true of what it gives -/
def Sat {α : Type} (r : Res α) (Q : α → DEnv → Prop) : Prop := match r with
  | .ok a e => Q a e
  | _ => False
section
variable {α β : Type} {Q : α → DEnv → Prop} {a : α} {e env : DEnv}
theorem sat_ok : Sat (.ok a e) Q = Q a e := rfl
theorem sat_bad : Sat (.bad : Res α) Q = False := rfl
theorem sat_exc {c : Exc} : Sat (.exc c e : Res α) Q = False := rfl
theorem sat_bind {x : Res β} {k : β → M α} : Sat (x.bind k) Q = Sat x (fun b e => Sat (k b e) Q) := by cases x <;> rfl
theorem Sat.mono {x : Res α} {Q2 : α → DEnv → Prop} (h : Sat x Q) (i : ∀ a e, Q a e → Q2 a e) : Sat x Q2 := by
  cases x with
  | ok a e => exact i _ _ h
  | bad => exact h
  | exc c e => exact h
theorem Sat.get {x : Res α} (h : Sat x Q) : ∃ a e, x = .ok a e ∧ Q a e := by
  cases x with
  | ok a e => exact ⟨a, e, rfl, h⟩
  | bad => exact h.elim
  | exc c e => exact h.elim
end
/-- what a def gives -/
def SatF (r : RF) (Q : O → List O → Prop) : Prop := match r with
  | .ok o os => Q o os
  | _ => False
theorem satF_ok {o : O} {os : List O} {Q : O → List O → Prop} : SatF (.ok o os) Q = Q o os := rfl
theorem SatF.mono {x : RF} {Q Q2 : O → List O → Prop} (h : SatF x Q) (i : ∀ a e, Q a e → Q2 a e) : SatF x Q2 := by
  cases x with
  | ok a e => exact i _ _ h
  | bad => exact h
  | exc c e => exact h
/-- what is wanted of a body's end -/
def FnPost (os : List O) (Q : O → List O → Prop) : DL.Flow → DEnv → Prop
  | .nx, e => (match outs os e with
    | some os' => Q (.val .non) os'
    | none => False)
  | .ret r, e => (match takeR e r, outs os e with
    | some o, some os' => Q o os'
    | _, _ => False)
  | _, _ => False
/-- a def by its body -/
theorem satF_fn {m : Nat} {body : M DL.Flow} {os : List O} {Q : O → List O → Prop} (h : Sat (body (initE os m)) (FnPost os Q)) : SatF (mkFn m body os) Q := by
  obtain ⟨fl, e, he, h⟩ := h.get
  unfold mkFn
  rw [he]
  cases fl with
  | nx =>
    simp only [finFn, FnPost] at h ⊢
    cases ho : outs os e with
    | none => simp only [ho] at h
    | some os' => simp only [ho] at h; exact h
  | ret r =>
    simp only [finFn, FnPost] at h ⊢
    cases ht : takeR e r with
    | none => simp only [ht] at h
    | some o =>
      cases ho : outs os e with
      | none => simp only [ht, ho] at h
      | some os' => simp only [ht, ho] at h; exact h
  | brk => exact h.elim
  | cont => exact h.elim
/-! ### loops -/
theorem forL_sat {tg : Tgt} {body : M DL.Flow} {ds : List D} {env : DEnv} {Q : DL.Flow → DEnv → Prop} (P : Nat → DEnv → Prop) (h0 : P 0 env)
    (step : ∀ i d env, ds[i]? = some d → P i env → ∃ e1, asg tg d env = some e1 ∧ Sat (body e1) (fun fl e => match fl with
      | .nx => P (i + 1) e
      | .cont => P (i + 1) e
      | .brk => Q .nx e
      | .ret r => Q (.ret r) e)) (he : ∀ env, P ds.length env → Q .nx env) : Sat (forL tg body ds env) Q := by
  induction ds generalizing env P with
  | nil => exact he env h0
  | cons d ds ih =>
    obtain ⟨e1, h1, h2⟩ := step 0 d env rfl h0
    simp only [forL, h1]
    rw [sat_bind]
    refine h2.mono fun fl e h => ?_
    cases fl with
    | nx => exact ih (fun i e => P (i + 1) e) h (fun i d' env' hd hp => step (i + 1) d' env' (by simpa using hd) hp) fun env' hp => he env' (by simpa using hp)
    | cont => exact ih (fun i e => P (i + 1) e) h (fun i d' env' hd hp => step (i + 1) d' env' (by simpa using hd) hp) fun env' hp => he env' (by simpa using hp)
    | brk => exact h
    | ret r => exact h
theorem compL_sat {tg : Tgt} {vs : List Nat} {test : M Bool} {elt : M R} {ds acc : List D} {env : DEnv} {Q : List D → DEnv → Prop} (P : Nat → List D → DEnv → Prop) (h0 : P 0 acc env)
    (step : ∀ i d acc env, ds[i]? = some d → P i acc env → ∃ e1, asg tg d env = some e1 ∧ Sat (test e1) (fun b e2 => if b = true then Sat (elt e2) (fun r e3 => ∃ x, frzR r = some x ∧ acc.length < sizeLine ∧ P (i + 1) (acc ++ [x]) (unE e3 vs)) else P (i + 1) acc (unE e2 vs)))
    (he : ∀ acc env, P ds.length acc env → Q acc env) : Sat (compL tg vs test elt ds acc env) Q := by
  induction ds generalizing acc env P with
  | nil => exact he acc env h0
  | cons d ds ih =>
    obtain ⟨e1, h1, h2⟩ := step 0 d acc env rfl h0
    simp only [compL, h1]
    have nx : ∀ acc env, P 1 acc env → Sat (compL tg vs test elt ds acc env) Q := fun acc env hp =>
      ih (fun i a e => P (i + 1) a e) hp (fun i d' acc' env' hd hp => step (i + 1) d' acc' env' (by simpa using hd) hp) fun acc' env' hp => he acc' env' (by simpa using hp)
    obtain ⟨b, e2, ht, h3⟩ := h2.get
    rw [ht]
    simp only [noX, Res.bind]
    cases b with
    | false =>
      simp only [Bool.false_eq_true, if_false] at h3 ⊢
      exact nx _ _ h3
    | true =>
      simp only [if_true] at h3 ⊢
      obtain ⟨r, e3, hr, x, h4, h5, h6⟩ := h3.get
      rw [hr]
      simp only [h4]
      rw [if_pos h5]
      exact nx _ _ h6
section
variable [tb : Tb]
theorem set_un {env : DEnv} {i : Nat} {s : Slot} (h : env[i]? = some .un) : (env.set i s).set i .un = env := by
  rw [List.set_set]
  apply List.ext_getElem?
  intro j
  by_cases e : i = j
  · subst e
    rw [List.getElem?_set_self (List.getElem?_eq_some_iff.mp h).1, h]
  · rw [List.getElem?_set_ne e]
theorem free_un {env : DEnv} {i : Nat} (h : env[i]? = some .un) : free env i = true := by unfold free; rw [h]
/-- a comprehension whose parts leave the state alone: what it makes -/
theorem compL_map {i : Nat} {elt : M R} {env : DEnv} (g : D → D) (hun : env[i]? = some .un) : ∀ {ds acc : List D}, (∀ d ∈ ds, ∃ r, elt (env.set i (.own (.val d))) = .ok r (env.set i (.own (.val d))) ∧ frzR r = some (g d)) → acc.length + ds.length ≤ sizeLine →
    compL (.nm i) [i] tTrue elt ds acc env = .ok (acc ++ ds.map g) env
  | [], acc, _, _ => by simp [compL]
  | d :: ds, acc, he, hz => by
    obtain ⟨r, h1, h2⟩ := he d List.mem_cons_self
    simp only [List.length_cons] at hz
    simp only [compL, asg, free_un hun, if_true, tTrue, noX, Res.bind, h1, h2]
    rw [if_pos (by omega)]
    simp only [unE, set_un hun]
    rw [compL_map g hun (fun d hd => he d (List.mem_cons_of_mem _ hd)) (by simp; omega)]
    simp
/-- .. with a test -/
theorem compL_filter {i : Nat} {elt : M R} {test : M Bool} {env : DEnv} (g : D → D) (t : D → Bool) (hun : env[i]? = some .un) : ∀ {ds acc : List D}, (∀ d ∈ ds, test (env.set i (.own (.val d))) = .ok (t d) (env.set i (.own (.val d))) ∧ (t d = true → ∃ r, elt (env.set i (.own (.val d))) = .ok r (env.set i (.own (.val d))) ∧ frzR r = some (g d))) → acc.length + ds.length ≤ sizeLine →
    compL (.nm i) [i] test elt ds acc env = .ok (acc ++ (ds.filter t).map g) env
  | [], acc, _, _ => by simp [compL]
  | d :: ds, acc, he, hz => by
    obtain ⟨h0, h⟩ := he d List.mem_cons_self
    simp only [List.length_cons] at hz
    simp only [compL, asg, free_un hun, if_true, h0, noX, Res.bind]
    cases ht : t d with
    | false =>
      simp only [Bool.false_eq_true, if_false, unE, set_un hun]
      rw [compL_filter g t hun (fun d hd => he d (List.mem_cons_of_mem _ hd)) (by omega)]
      simp [ht]
    | true =>
      obtain ⟨r, h1, h2⟩ := h ht
      simp only [if_true, h1, h2]
      rw [if_pos (by omega)]
      simp only [unE, set_un hun]
      rw [compL_filter g t hun (fun d hd => he d (List.mem_cons_of_mem _ hd)) (by simp; omega)]
      simp [ht]
end
end DL
end
section
set_option maxRecDepth 100000
set_option maxHeartbeats 4000000
namespace DL
open PySem PySem.Spec PyProof.Rows L2
section
variable [tb : Tb] {f g k fk fe : M R} {fs ks : M (List R)} {a b : M DL.Flow} {c d : M Bool} {env : DEnv} {i : Nat} {α β : Type}
@[simp] theorem ev_bok {a : α} {e : DEnv} {k : α → M β} : (Res.ok a e).bind k = k a e := rfl
@[simp] theorem ev_bbad {k : α → M β} : (Res.bad : Res α).bind k = .bad := rfl
@[simp] theorem ev_bexc {c : Exc} {e : DEnv} {k : α → M β} : (Res.exc c e : Res α).bind k = .exc c e := rfl
@[simp] theorem ev_set {h : How} : sSet h i f env = (f env).bind (setR h i) := rfl
@[simp] theorem ev_seq : sSeq a b env = (a env).bind fun fl e => match fl with
  | .nx => b e
  | fl => .ok fl e := rfl
@[simp] theorem ev_nx : sNx env = .ok .nx env := rfl
@[simp] theorem ev_brk : sBrk env = .ok .brk env := rfl
@[simp] theorem ev_cont : sCont env = .ok .cont env := rfl
@[simp] theorem ev_expr : sExpr f env = (f env).bind fun _ e => .ok .nx e := rfl
@[simp] theorem ev_ret : sRet f env = (f env).bind fun r e => .ok (.ret r) e := rfl
@[simp] theorem ev_retN : sRetN env = .ok (.ret (.val .non)) env := rfl
@[simp] theorem ev_if : sIf c a b env = (c env).bind fun k e => if k = true then a e else b e := rfl
@[simp] theorem ev_raise {x : Exc} : sRaise x env = .exc x env := rfl
@[simp] theorem ev_c {d : D} : dC d env = .ok (.val d) env := rfl
@[simp] theorem ev_nil : dNil env = .ok [] env := rfl
@[simp] theorem ev_cons : dCons f fs env = (f env).bind fun r e1 => (fs e1).bind fun rs e2 => .ok (r :: rs) e2 := rfl
@[simp] theorem ev_op2 {h : D → D → Option R} : op2 h f g env = (f env).bind fun r1 e1 => (g e1).bind fun r2 e2 => fin2 h r1 r2 e2 := rfl
@[simp] theorem ev_op1 {h : D → Option R} : op1 h f env = (f env).bind fun r e => match resolve e r with
  | some d => (match h d with
    | some ro => .ok ro e
    | none => .bad)
  | none => .bad := rfl
@[simp] theorem ev_and : dAnd f g env = (f env).bind fun r e => (fin1b r e).bind fun b e' => if b = true then g e' else .ok (.val (.bl false)) e' := rfl
@[simp] theorem ev_or : dOr f g env = (f env).bind fun r e => (fin1b r e).bind fun b e' => if b = true then .ok (.val (.bl true)) e' else g e' := rfl
@[simp] theorem ev_not : dNot f env = (f env).bind fun r e => (fin1b r e).bind fun b e' => .ok (.val (.bl (!b))) e' := rfl
@[simp] theorem ev_dif : dIf c f g env = (c env).bind fun b e => if b = true then f e else g e := rfl
@[simp] theorem ev_tst : tst f env = (f env).bind fin1b := rfl
@[simp] theorem ev_tnot : tNot' c env = (c env).bind fun b e => .ok (!b) e := rfl
@[simp] theorem ev_tand : tAnd' c d env = (c env).bind fun b e => if b = true then d e else .ok false e := rfl
@[simp] theorem ev_tor : tOr' c d env = (c env).bind fun b e => if b = true then .ok true e else d e := rfl
@[simp] theorem ev_ttrue : tTrue env = .ok true env := rfl
@[simp] theorem ev_b {h : List D → Option R} : dB h fs env = (fs env).bind (finB h) := rfl
@[simp] theorem ev_bk {h : List D → List D → Option R} : dBK h fs ks env = (fs env).bind fun rs e1 => (ks e1).bind fun ws e2 => match resolves e2 rs, resolves e2 ws with
  | some ds, some zs => (match h ds zs with
    | some ro => .ok ro e2
    | none => .bad)
  | _, _ => .bad := rfl
@[simp] theorem ev_call {g : List O → RF} {ms : List Mode} : dCall g ms fs env = (fs env).bind fun rs e1 => finCall g ms rs e1 := rfl
@[simp] theorem ev_call0 {g : List O → RF} : dCall0 g env = finCall g [] [] env := rfl
@[simp] theorem ev_tup : dTup fs env = (fs env).bind fun rs e => match frzRs rs with
  | some ds => if ds.length ≤ sizeLine then .ok (.val (.tup ds)) e else .bad
  | none => .bad := rfl
@[simp] theorem ev_lst : dLst fs env = (fs env).bind fun rs e => match frzRs rs with
  | some ds => if ds.length ≤ sizeLine then .ok (.own (.lst ds)) e else .bad
  | none => .bad := rfl
@[simp] theorem ev_part : dPart f env = (f env).bind fun r e => match resolve e r with
  | some (.int i) => .ok (some i) e
  | _ => .bad := rfl
@[simp] theorem ev_nopart : dNoPart env = .ok none env := rfl
@[simp] theorem ev_sl {lo hi : M (Option Int)} : dSl f lo hi env = (f env).bind fun r e => (lo e).bind fun l e1 => (hi e1).bind fun h e2 => match resolve e2 r with
  | some d => (match hSl d l h with
    | some ro => .ok ro e2
    | none => .bad)
  | none => .bad := rfl
@[simp] theorem ev_comp {g : M (List D)} {tg : Tgt} {vs : List Nat} {test : M Bool} {elt : M R} : dComp g tg vs test elt env = (g env).bind fun ds e => (compL tg vs test elt ds [] (unE e vs)).bind fun acc e2 => .ok (.own (.lst acc)) (unE e2 vs) := rfl
@[simp] theorem ev_seqA : dSeqA f env = (f env).bind fun r e => match frzI r e with
  | some (.lst ds, e') => .ok ds e'
  | some (.tup ds, e') => .ok ds e'
  | _ => .bad := rfl
@[simp] theorem ev_seqT : dSeqT f env = (f env).bind fun r e => match frzI r e with
  | some (.tup ds, e') => .ok ds e'
  | _ => .bad := rfl
@[simp] theorem ev_enum : dEnum f env = (f env).bind fun r e => match frzI r e with
  | some (.lst ds, e') => .ok (ds.mapIdx fun i d => .tup [.int (i : Nat), d]) e'
  | _ => .bad := rfl
@[simp] theorem ev_rng1 : dRng1 f env = (f env).bind fun r e => match resolve e r with
  | some (.int j) => if -(2 ^ 62) ≤ j ∧ j < 2 ^ 62 then .ok ((List.range j.toNat).map fun i => .int (i : Nat)) e else .bad
  | _ => .bad := rfl
@[simp] theorem ev_for {g : M (List D)} {tg : Tgt} : sFor g tg a env = (g env).bind fun ds e => forL tg a ds e := rfl
@[simp] theorem ev_par {ts : List (How × Nat)} : sPar ts fs env = (fs env).bind (setRs ts) := rfl
@[simp] theorem ev_asg {tg : Tgt} : sAsg tg f env = (f env).bind fun r e => match frzR r with
  | some d => (match asg tg d e with
    | some e' => .ok .nx e'
    | none => .bad)
  | none => .bad := rfl
@[simp] theorem ev_chain {h1 h2 : D → D → Option R} : dChain h1 h2 f g k env = (f env).bind fun r1 e1 => (g e1).bind fun r2 e2 => match resolve e2 r1, resolve e2 r2 with
  | some d1, some (.int j) => (match h1 d1 (.int j) with
    | some (.val (.bl true)) => (k e2).bind fun r3 e3 => fin1 h2 (some (.int j)) (resolve e3 r3) e3
    | some (.val (.bl false)) => .ok (.val (.bl false)) e2
    | _ => .bad)
  | _, _ => .bad := rfl
@[simp] theorem ev_disp0 : dDisp0 env = .ok (.own (.dK [] [])) env := rfl
@[simp] theorem ev_disp {l : List (M R × M R)} : dDisp l env = (flatM l env).bind fun rs e => match (frzRs rs).bind unflat with
  | some (ks, ds) => if ks.Nodup ∧ ks.length ≤ 15 then .ok (.own (.dK ks ds)) e else .bad
  | none => .bad := rfl
@[simp] theorem ev_flat0 : flatM [] = dNil := rfl
@[simp] theorem ev_flat1 {l : List (M R × M R)} : flatM ((f, g) :: l) = dCons f (dCons g (flatM l)) := rfl
end
/-! what is behind them -/
section
variable [tb : Tb] {env : DEnv} {i j : Nat} {d d' : D} {o o' : O} {l : List D} {r r1 r2 : R} {rs : List R} {ms : List Mode} {os : List O} {ts : List Tgt} {t : Tgt} {h : D → D → Option R} {hb : List D → Option R} {g : List O → RF}
@[simp] theorem ev_var : dVar i env = match env[i]? with
  | some (.own (.val d)) => .ok (.val d) env
  | some (.pin (.val d)) => .ok (.val d) env
  | some (.own _) => .ok (.bor i) env
  | some (.pin _) => .ok (.bor i) env
  | _ => .bad := rfl
@[simp] theorem ev_rv : resolve env (.val d) = some d := rfl
@[simp] theorem ev_ro : resolve env (.own o) = o.view := rfl
@[simp] theorem ev_rb : resolve env (.bor i) = match env[i]?.bind Slot.o with
  | some o => o.view
  | none => none := rfl
@[simp] theorem ev_vv : (O.val d).view = some d := rfl
@[simp] theorem ev_vl : (O.lst l).view = some (.lst l) := rfl
@[simp] theorem ev_so : (Slot.own o).o = some o := rfl
@[simp] theorem ev_sp : (Slot.pin o).o = some o := rfl
@[simp] theorem ev_su : Slot.un.o = none := rfl
@[simp] theorem ev_rs0 : resolves env [] = some [] := rfl
@[simp] theorem ev_rs1 : resolves env (r :: rs) = match resolve env r, resolves env rs with
  | some d, some ds => some (d :: ds)
  | _, _ => none := rfl
@[simp] theorem ev_finB : finB hb rs env = match resolves env rs with
  | some ds => (match hb ds with
    | some ro => .ok ro env
    | none => .bad)
  | none => .bad := rfl
@[simp] theorem ev_fin2 : fin2 h r1 r2 env = match resolve env r1, resolve env r2 with
  | some d1, some d2 => (match h d1 d2 with
    | some ro => .ok ro env
    | none => .bad)
  | _, _ => .bad := rfl
@[simp] theorem ev_fin1 : fin1 h (some d) (some d') env = match h d d' with
  | some ro => .ok ro env
  | none => .bad := rfl
@[simp] theorem ev_fin1b : fin1b r env = match resolve env r with
  | some (.bl b) => .ok b env
  | _ => .bad := rfl
@[simp] theorem ev_frv : frzR (.val d) = some d := rfl
@[simp] theorem ev_fro : frzR (.own o) = o.frz := rfl
@[simp] theorem ev_frb : frzR (.bor i) = none := rfl
@[simp] theorem ev_ofv : (O.val d).frz = some d := rfl
@[simp] theorem ev_ofl : (O.lst l).frz = some (.lst l) := rfl
@[simp] theorem ev_ofd {ks : List Key} : (O.dK ks l).frz = some (.dct ks l) := rfl
@[simp] theorem ev_frs0 : frzRs [] = some [] := rfl
@[simp] theorem ev_frs1 : frzRs (r :: rs) = match frzR r, frzRs rs with
  | some d, some ds => some (d :: ds)
  | _, _ => none := rfl
@[simp] theorem ev_fiv : frzI (.val d) env = some (d, env) := rfl
@[simp] theorem ev_fio : frzI (.own o) env = o.frz.map fun d => (d, env) := rfl
@[simp] theorem ev_fib : frzI (.bor i) env = match env[i]?.bind Slot.o with
  | some o => o.frz.map fun d => (d, putO env i (.val d))
  | none => none := rfl
@[simp] theorem ev_ao0 : argOs env [] [] = some [] := rfl
@[simp] theorem ev_ao1 {m : Mode} : argOs env (m :: ms) (r :: rs) = match argO env m r, argOs env ms rs with
  | some o, some os => some (o :: os)
  | _, _ => none := rfl
@[simp] theorem ev_aov {m : Mode} : argO env m (.val d) = some (.val d) := by cases m <;> rfl
@[simp] theorem ev_aoo : argO env .v (.own o) = o.frz.map .val := rfl
@[simp] theorem ev_aob : argO env .v (.bor i) = ((env[i]?.bind Slot.o).bind O.frz).map .val := rfl
@[simp] theorem ev_aoi : argO env .io (.bor i) = env[i]?.bind Slot.o := rfl
@[simp] theorem ev_tov : (O.val d).toR = .val d := rfl
@[simp] theorem ev_tol : (O.lst l).toR = .own (.lst l) := rfl
@[simp] theorem ev_bk0 : back [] rs os env = env := by simp [back]
@[simp] theorem ev_bkv {m : Mode} : back (m :: ms) (.val d :: rs) (o :: os) env = back ms rs os env := by cases m <;> simp [back]
@[simp] theorem ev_bko {m : Mode} : back (m :: ms) (.own o' :: rs) (o :: os) env = back ms rs os env := by cases m <;> simp [back]
@[simp] theorem ev_bkb : back (.v :: ms) (.bor i :: rs) (o :: os) env = back ms rs os env := by simp [back]
@[simp] theorem ev_bki : back (.io :: ms) (.bor i :: rs) (o :: os) env = back ms rs os (putO env i o) := by simp [back]
@[simp] theorem ev_tm0 : tmps [] rs = [] := by simp [tmps]
@[simp] theorem ev_tmv {m : Mode} : tmps (m :: ms) (.val d :: rs) = tmps ms rs := by cases m <;> simp [tmps]
@[simp] theorem ev_tmo {m : Mode} : tmps (m :: ms) (.own o :: rs) = tmps ms rs := by cases m <;> simp [tmps]
@[simp] theorem ev_tmb : tmps (.v :: ms) (.bor i :: rs) = i :: tmps ms rs := by simp [tmps]
@[simp] theorem ev_tmi : tmps (.io :: ms) (.bor i :: rs) = tmps ms rs := by simp [tmps]
@[simp] theorem ev_io0 : ios [] rs = [] := by simp [ios]
@[simp] theorem ev_iov {m : Mode} : ios (m :: ms) (.val d :: rs) = ios ms rs := by cases m <;> simp [ios]
@[simp] theorem ev_ioo {m : Mode} : ios (m :: ms) (.own o :: rs) = ios ms rs := by cases m <;> simp [ios]
@[simp] theorem ev_iob : ios (.v :: ms) (.bor i :: rs) = ios ms rs := by simp [ios]
@[simp] theorem ev_ioi : ios (.io :: ms) (.bor i :: rs) = i :: ios ms rs := by simp [ios]
@[simp] theorem ev_chk : chk ms rs = (decide (ios ms rs).Nodup && (ios ms rs).all fun i => !(tmps ms rs).contains i) := rfl
@[simp] theorem ev_iof0 {os : List O} : iofree [] rs os = true := by cases rs <;> cases os <;> rfl
@[simp] theorem ev_iofv {o : O} {os : List O} : iofree (.v :: ms) (r :: rs) (o :: os) = iofree ms rs os := by cases r <;> rfl
@[simp] theorem ev_iofb {o : O} {os : List O} : iofree (.io :: ms) (.bor i :: rs) (o :: os) = (o.lfree && iofree ms rs os) := rfl
@[simp] theorem ev_iofd {o : O} {os : List O} : iofree (.io :: ms) (.val d :: rs) (o :: os) = iofree ms rs os := rfl
@[simp] theorem ev_iofo {o o2 : O} {os : List O} : iofree (.io :: ms) (.own o2 :: rs) (o :: os) = iofree ms rs os := rfl
@[simp] theorem ev_fcall : finCall g ms rs env = match argOs env ms rs with
  | none => .bad
  | some os => if chk ms rs = true then (match g os with
    | .bad => .bad
    | .ok o os' => if (tmps ms rs).isEmpty = true ∨ (o.lfree = true ∧ iofree ms rs os' = true) then .ok o.toR (back ms rs os' env) else .bad
    | .exc c os' => if (tmps ms rs).isEmpty = true ∨ iofree ms rs os' = true then .exc c (back ms rs os' env) else .bad) else .bad := rfl
@[simp] theorem ev_puto {s : Slot} : putO (s :: env) 0 o = s.put o :: env := rfl
@[simp] theorem ev_puts {s : Slot} : putO (s :: env) (i + 1) o = s :: putO env i o := by
  unfold putO
  simp only [List.getElem?_cons_succ]
  cases env[i]? <;> rfl
@[simp] theorem ev_puow : (Slot.own o).put o' = .own o' := rfl
@[simp] theorem ev_pupi : (Slot.pin o).put o' = .pin o' := rfl
@[simp] theorem ev_setv {hw : How} : setR hw i (.val d) env = if free env i = true then .ok .nx (env.set i (.own (.val d))) else .bad := by cases hw <;> rfl
@[simp] theorem ev_setk : setR .keep i (.own o) env = if free env i = true then .ok .nx (env.set i (.own o)) else .bad := rfl
@[simp] theorem ev_setf : setR .frz i (.own o) env = if free env i = true then (match o.frz with
  | some d => .ok .nx (env.set i (.own (.val d)))
  | none => .bad) else .bad := rfl
@[simp] theorem ev_setfb : setR .frz i (.bor j) env = if free env i = true then (match env[j]?.bind Slot.o with
  | some o => (match o.frz with
    | some d => .ok .nx ((putO env j (.val d)).set i (.own (.val d)))
    | none => .bad)
  | none => .bad) else .bad := rfl
@[simp] theorem ev_fr0 {s : Slot} : free (s :: env) 0 = match s with
  | .pin _ => false
  | _ => true := by cases s <;> rfl
@[simp] theorem ev_fr1 {s : Slot} : free (s :: env) (i + 1) = free env i := by unfold free; simp only [List.getElem?_cons_succ]
@[simp] theorem ev_srs0 : setRs [] [] env = .ok .nx env := rfl
@[simp] theorem ev_srs1 {hw : How} {tt : List (How × Nat)} : setRs ((hw, i) :: tt) (.val d :: rs) env = (setR hw i (.val d) env).bind fun _ e => setRs tt rs e := rfl
@[simp] theorem ev_srs2 {hw : How} {tt : List (How × Nat)} : setRs ((hw, i) :: tt) (.own o :: rs) env = (setR hw i (.own o) env).bind fun _ e => setRs tt rs e := rfl
@[simp] theorem ev_asn : asg (.nm i) d env = if free env i = true then some (env.set i (.own (.val d))) else none := by simp [asg]
@[simp] theorem ev_ast {tt : List Tgt} : asg (.tp tt) (.tup l) env = asgs tt l env := by simp [asg]
@[simp] theorem ev_as0 : asgs [] [] env = some env := by simp [asgs]
@[simp] theorem ev_as1 : asgs (t :: ts) (d :: l) env = match asg t d env with
  | some e => asgs ts l e
  | none => none := by first | (simp [asgs]; done) | (simp [asgs]; rfl)
@[simp] theorem ev_un0 : unE env [] = env := rfl
@[simp] theorem ev_un1 {js : List Nat} : unE env (j :: js) = (unE env js).set j .un := rfl
@[simp] theorem ev_init {m : Nat} : initE os m = os.map slotOf ++ List.replicate m .un := rfl
@[simp] theorem ev_slv : slotOf (.val d) = .own (.val d) := rfl
@[simp] theorem ev_sll : slotOf (.lst l) = .pin (.lst l) := rfl
@[simp] theorem ev_out0 : outs [] env = some [] := rfl
@[simp] theorem ev_outv {s : Slot} : outs (.val d :: os) (s :: env) = (outs os env).map (.val d :: ·) := rfl
@[simp] theorem ev_outl : outs (.lst l :: os) (.pin o :: env) = (outs os env).map (o :: ·) := rfl
@[simp] theorem ev_tkv : takeR env (.val d) = some (.val d) := rfl
@[simp] theorem ev_tko : takeR env (.own o) = some o := rfl
@[simp] theorem ev_tkb : takeR env (.bor i) = match env[i]? with
  | some (.own o) => some o
  | _ => none := rfl
@[simp] theorem ev_fp1 {Q : O → List O → Prop} {e : DEnv} : FnPost os Q .nx e = match outs os e with
  | some os' => Q (.val .non) os'
  | none => False := rfl
@[simp] theorem ev_fp2 {Q : O → List O → Prop} {e : DEnv} : FnPost os Q (.ret r) e = match takeR e r, outs os e with
  | some o, some os' => Q o os'
  | _, _ => False := rfl
@[simp] theorem ev_ff1 {e : DEnv} : finFn os (.ok .nx e) = match outs os e with
  | some os' => .ok (.val .non) os'
  | none => .bad := rfl
@[simp] theorem ev_ff2 {e : DEnv} : finFn os (.ok (.ret r) e) = match takeR e r, outs os e with
  | some o, some os' => .ok o os'
  | _, _ => .bad := rfl
@[simp] theorem ev_mk {m : Nat} {body : M DL.Flow} : mkFn m body os = finFn os (body (initE os m)) := rfl
@[simp] theorem ev_lat : lstAt env i = match env[i]?.bind Slot.o with
  | some (.lst ds) => some ds
  | _ => none := rfl
@[simp] theorem ev_mut {hm : List D → List D → Option (List D × D)} {fs : M (List R)} : dMutL i hm fs env = match lstAt env i with
  | none => .bad
  | some _ => (fs env).bind fun rs e => match lstAt e i, frzRs rs with
    | some ds, some xs => (match hm ds xs with
      | some (ds', d) => .ok (.val d) (putO e i (.lst ds'))
      | none => .bad)
    | _, _ => .bad := rfl
@[simp] theorem ev_app : gApp l [d] = if l.length < sizeLine then some (l ++ [d], .non) else none := rfl
@[simp] theorem ev_ext {l2 : List D} : gExt l [.lst l2] = if l.length + l2.length ≤ sizeLine then some (l ++ l2, .non) else none := rfl
@[simp] theorem ev_six {fk fe : M R} : sSetIx i fk fe env = (fe env).bind fun r e => match lstAt e i with
  | none => .bad
  | some _ => (fk e).bind fun rk e1 => match lstAt e1 i, frzR r, resolve e1 rk with
    | some ds, some d, some (.int k) => (match ixN ds.length k with
      | some j => .ok .nx (putO e1 i (.lst (ds.set j d)))
      | none => .bad)
    | _, _, _ => .bad := rfl
@[simp] theorem ev_sat {α : Type} {a : α} {e : DEnv} {Q : α → DEnv → Prop} : Sat (.ok a e) Q ↔ Q a e := Iff.rfl
@[simp] theorem ev_satb {α : Type} {Q : α → DEnv → Prop} : Sat (.bad : Res α) Q ↔ False := Iff.rfl
@[simp] theorem ev_sate {α : Type} {c : Exc} {e : DEnv} {Q : α → DEnv → Prop} : Sat (.exc c e : Res α) Q ↔ False := Iff.rfl
@[simp] theorem ev_lf1 : O.lfrees [] = true := by simp [O.lfrees]
@[simp] theorem ev_lf2 : O.lfrees (o :: os) = (o.lfree && O.lfrees os) := by simp [O.lfrees]
end
/-! operators on values -/
section
variable [tb : Tb] {i j : Int} {l l2 : List D} {x y : Str}
@[simp] theorem ev_add : hAdd (.int i) (.int j) = some (.val (.int (i + j))) := rfl
@[simp] theorem ev_addl : hAdd (.lst l) (.lst l2) = if l.length + l2.length ≤ sizeLine then some (.own (.lst (l ++ l2))) else none := by
  simp only [hAdd, hOr, hI, hCatS, hCatL, hCatT]
  split <;> simp_all
@[simp] theorem ev_addt : hAdd (.tup l) (.tup l2) = if l.length + l2.length ≤ sizeLine then some (.val (.tup (l ++ l2))) else none := rfl
@[simp] theorem ev_adds : hAdd (.str x) (.str y) = if x.length + y.length ≤ sizeLine then some (.val (.str (x ++ y))) else none := by
  simp only [hAdd, hOr, hI, hCatS, hCatL, hCatT]
  by_cases h : x.length + y.length ≤ sizeLine <;> simp [h]
@[simp] theorem ev_sub : hSub (.int i) (.int j) = some (.val (.int (i - j))) := rfl
@[simp] theorem ev_mul : hMul (.int i) (.int j) = if cMul i j = true then some (.val (.int (i * j))) else none := by
  simp only [hMul, hOr, hI, hRepL, hRepT]
  by_cases h : cMul i j = true <;> simp [h]
@[simp] theorem ev_div : hDiv (.int i) (.int j) = if cDiv i j = true then some (.val (.int (i / j))) else none := rfl
@[simp] theorem ev_mod : hMod (.int i) (.int j) = if cMod i j = true then some (.val (.int (i % j))) else none := rfl
@[simp] theorem ev_pow : hPow (.int i) (.int j) = if cPow i j = true then some (.val (.int (i ^ j.toNat))) else none := rfl
@[simp] theorem ev_neg : hNeg (.int i) = some (.val (.int (-i))) := rfl
@[simp] theorem ev_cmp {p : Int → Int → Bool} : hCmp p (.int i) (.int j) = some (.val (.bl (p i j))) := rfl
@[simp] theorem ev_ixl : hIx (.lst l) (.int i) = (atI l i).map .val := rfl
@[simp] theorem ev_ixt : hIx (.tup l) (.int i) = (atI l i).map .val := rfl
@[simp] theorem ev_lenl : hLen [.lst l] = some (.val (.int l.length)) := rfl
@[simp] theorem ev_lent : hLen [.tup l] = some (.val (.int l.length)) := rfl
@[simp] theorem ev_int : hInt [.int i] = some (.val (.int i)) := rfl
@[simp] theorem ev_intb {b : Bool} : hInt [.bl b] = some (.val (.int (if b then 1 else 0))) := rfl
@[simp] theorem ev_ll : hList [.lst l] = some (.own (.lst l)) := rfl
@[simp] theorem ev_lt : hList [.tup l] = some (.own (.lst l)) := rfl
@[simp] theorem ev_tl : hTuple [.lst l] = some (.val (.tup l)) := rfl
@[simp] theorem ev_tt : hTuple [.tup l] = some (.val (.tup l)) := rfl
@[simp] theorem ev_sll' {lo hi : Option Int} : hSl (.lst l) lo hi = some (.own (.lst (cut' l lo hi))) := rfl
@[simp] theorem ev_slr {lo hi : Option Int} : hSl (.rol l) lo hi = some (.own (.lst (cut' l lo hi))) := rfl
@[simp] theorem ev_slt {lo hi : Option Int} : hSl (.tup l) lo hi = some (.val (.tup (cut' l lo hi))) := rfl
@[simp] theorem ev_max2 : hMax2 [.int i, .int j] = some (.val (.int (max i j))) := rfl
@[simp] theorem ev_min2 : hMin2 [.int i, .int j] = some (.val (.int (min i j))) := rfl
@[simp] theorem ev_revl : hRev (.lst l) = some (.own (.lst l.reverse)) := rfl
@[simp] theorem ev_revt : hRev (.tup l) = some (.val (.tup l.reverse)) := rfl
@[simp] theorem ev_isn {d : D} {n : Bool} : hIs n d .non = some (.val (.bl (if n then !isNon d else isNon d))) := by simp [hIs, hOr, hIsN]
@[simp] theorem ev_isb {b c n : Bool} : hIs n (.bl b) (.bl c) = some (.val (.bl (if n then !decide (b = c) else decide (b = c)))) := rfl
@[simp] theorem ev_at0 {d : D} : atI (d :: l) 0 = some d := by simp [atI, ixN]
@[simp] theorem ev_at1 {d e : D} : atI (d :: e :: l) 1 = some e := by
  have h : (1 : Int) < l.length + 1 + 1 := by omega
  simp [atI, ixN, h]
@[simp] theorem ev_at2 {d e f : D} : atI (d :: e :: f :: l) 2 = some f := by
  have h : (2 : Int) < l.length + 1 + 1 + 1 := by omega
  simp [atI, ixN, h]
@[simp] theorem ev_sum {ns : List Int} : hSum [.lst (ns.map D.int)] = some (.val (.int ns.sum)) := by simp [hSum, overInts]
@[simp] theorem ev_all {ns : List Bool} : hAll [.lst (ns.map D.bl)] = some (.val (.bl (ns.all id))) := by simp [hAll, overBls]
@[simp] theorem ev_any {ns : List Bool} : hAny [.lst (ns.map D.bl)] = some (.val (.bl (ns.any id))) := by simp [hAny, overBls]
end
/-! lists against the empty list -/
section
variable [tb : Tb]
theorem pys_ints (ns : List Int) : D.pys (ns.map D.int) = some (ns.map PyData.int) := by
  induction ns with
  | nil => rfl
  | cons n ns ih => simp [D.pys, D.py, ih]
theorem lay_ints (ns : List Int) : PyData.canLayAll0 (ns.map PyData.int) = true := by
  induction ns with
  | nil => rfl
  | cons n ns ih => simp [PyData.canLayAll0, PyData.canLay0, ih]
theorem shp_ints (ns : List Int) : SeqAt.shaped (.list (ns.map PyData.int)) = true := by
  simp [SeqAt.shaped, PyData.canLay0, lay_ints, PyData.depth, PySem.W.depth_ints]
theorem heq_nil {l : List D} {ps : List PyData} (h : D.pys l = some ps) (hs : SeqAt.shaped (.list ps) = true) (n : Bool) : hEq n (.lst l) (.lst []) = some (.val (.bl (if n then !decide (l = []) else decide (l = [])))) := by
  have h0 : SeqAt.shaped (.list []) = true := by decide +kernel
  simp only [hEq, D.py, h, D.pys, hs, h0, and_self, if_true]
  have e : PyData.eqv (.list ps) (.list []) = decide (l = []) := by
    cases l with
    | nil => simp only [D.pys] at h; cases h; simp [PyData.eqv, PyData.eqvAll]
    | cons d l =>
      cases ps with
      | nil => have := pys_len h; simp at this
      | cons p ps => simp [PyData.eqv, PyData.eqvAll]
  rw [e]
@[simp] theorem ev_ints_nil {ns : List Int} {n : Bool} : hEq n (.lst (ns.map D.int)) (.lst []) = some (.val (.bl (if n then !decide (ns = []) else decide (ns = [])))) := by
  rw [heq_nil (pys_ints ns) (shp_ints ns)]
  simp
@[simp] theorem ev_nil_nil {n : Bool} : hEq n (.lst []) (.lst []) = some (.val (.bl (!n))) := by
  rw [heq_nil (ps := []) rfl (by decide +kernel)]
  cases n <;> rfl
@[simp] theorem ev_ix_ints {ns : List Int} {i : Int} : atI (ns.map D.int) i = (atI ns i).map D.int := by
  unfold atI
  simp only [List.length_map]
  cases ixN ns.length i with
  | none => rfl
  | some j => simp
theorem atI_mod {α : Type} {xs : List α} (h : xs ≠ []) (i : Int) : ∃ x, atI xs (i % xs.length) = some x ∧ xs[(i % xs.length).toNat]? = some x := by
  have hl : 0 < xs.length := List.length_pos_iff.mpr h
  have h1 : 0 ≤ i % xs.length := Int.emod_nonneg _ (by omega)
  have h2 : i % xs.length < xs.length := Int.emod_lt_of_pos _ (by omega)
  have h3 : (i % xs.length).toNat < xs.length := by omega
  refine ⟨xs[(i % xs.length).toNat], ?_, List.getElem?_eq_getElem h3⟩
  unfold atI ixN
  rw [if_pos h1, if_pos h2]
  simp [h3]
theorem cMul_l {i j : Int} (h : -(2 ^ 64) < i) (h2 : i < 2 ^ 64) : cMul i j = true := by unfold cMul small64; simp; left; exact ⟨h, h2⟩
theorem cMul_r {i j : Int} (h : -(2 ^ 64) < j) (h2 : j < 2 ^ 64) : cMul i j = true := by unfold cMul small64; simp; right; exact ⟨h, h2⟩
theorem cMod_p {i j : Int} (h : 0 < j) : cMod i j = true := by unfold cMod; simpa using h
end
end DL
end
section
set_option maxRecDepth 100000
set_option maxHeartbeats 1000000
namespace DL
open PySem PySem.Spec PyProof.Rows L2
/-! a shown thing is text -/
theorem strOk_app (a b : Str) : PyData.strOk (a ++ b) = (PyData.strOk a && PyData.strOk b) := by
  show (a.cps ++ b.cps).all _ = (a.cps.all _ && b.cps.all _)
  rw [Array.all_append]
theorem strOk_of (s : String) : PyData.strOk (Str.ofString s) = true := by
  rw [Str.ofString_eq_toList]
  show Array.all _ _ = true
  rw [List.all_toArray, List.all_eq_true]
  intro c hc
  obtain ⟨d, _, rfl⟩ := List.mem_map.mp hc
  have := d.valid
  simp only [decide_eq_true_eq]
  have h2 : d.toNat < 0xd800 ∨ (0xdfff < d.toNat ∧ d.toNat < 0x110000) := this
  omega
theorem strOk_join : ∀ (ts : List Str), (∀ t ∈ ts, PyData.strOk t = true) → PyData.strOk (Str.join ", " ts) = true
  | [], _ => by decide +kernel
  | [x], h => h x (by simp)
  | x :: y :: r, h => by
    have ih := strOk_join (y :: r) fun t ht => h t (List.mem_cons_of_mem _ ht)
    show PyData.strOk (x ++ ", " ++ Str.join ", " (y :: r)) = true
    rw [strOk_app, strOk_app, ih, h x (by simp)]
    decide +kernel
theorem strOk_from : ∀ (ts : List Str) (k : Nat) (acc : Str), PyData.strOk acc = true → (∀ t ∈ ts, PyData.strOk t = true) → PyData.strOk (textFrom k acc ts) = true
  | [], k, acc, h, _ => h
  | t :: ts, k, acc, h, ht => by
    show PyData.strOk (textFrom (k + 1) _ ts) = true
    refine strOk_from ts (k + 1) _ ?_ fun t h => ht t (List.mem_cons_of_mem _ h)
    rw [strOk_app, strOk_app, h, ht t (by simp)]
    by_cases c : k > 0
    · simp only [c, if_true]; decide +kernel
    · simp only [c, if_false]; decide +kernel
mutual
def leafOk : PyData → Bool
  | .str x => PyData.strOk (reprText x)
  | .list xs | .tuple xs => leafOkAll xs
  | .dict kvs => leafOkKv kvs
  | _ => true
def leafOkAll : List PyData → Bool
  | [] => true
  | x :: xs => leafOk x && leafOkAll xs
def leafOkKv : List (PyData × PyData) → Bool
  | [] => true
  | (k, v) :: r => leafOk k && leafOk v && leafOkKv r
end
mutual
theorem shown_ok : ∀ (p : PyData), leafOk p = true → PyData.strOk p.shown = true
  | .none, _ => by decide +kernel
  | .bool b, _ => by cases b <;> decide +kernel
  | .int i, _ => strOk_of _
  | .str x, h => h
  | .list xs, h => by
    show PyData.strOk (textFrom 0 "[" (PyData.shownAll xs) ++ "]") = true
    rw [strOk_app, strOk_from _ _ _ (by decide +kernel) (shownAll_ok xs (by simpa only [leafOk] using h))]
    decide +kernel
  | .tuple xs, h => by
    show PyData.strOk (("(" : Str) ++ Str.join ", " (PyData.shownAll xs) ++ (if (PyData.shownAll xs).length == 1 then ",)" else ")" : String)) = true
    rw [strOk_app, strOk_app, strOk_join _ (shownAll_ok xs (by simpa only [leafOk] using h))]
    cases (PyData.shownAll xs).length == 1 <;> decide +kernel
  | .dict kvs, h => by
    show PyData.strOk (("{" : Str) ++ Str.join ", " (PyData.shownKv kvs) ++ "}") = true
    rw [strOk_app, strOk_app, strOk_join _ (shownKv_ok kvs (by simpa only [leafOk] using h))]
    decide +kernel
theorem shownAll_ok : ∀ (ps : List PyData), leafOkAll ps = true → ∀ t ∈ PyData.shownAll ps, PyData.strOk t = true
  | [], _, t, h => nomatch h
  | p :: ps, h, t, ht => by
    simp only [leafOkAll, Bool.and_eq_true] at h
    simp only [PyData.shownAll] at ht
    rcases List.mem_cons.mp ht with rfl | ht
    · exact shown_ok p h.1
    · exact shownAll_ok ps h.2 t ht
theorem shownKv_ok : ∀ (ps : List (PyData × PyData)), leafOkKv ps = true → ∀ t ∈ PyData.shownKv ps, PyData.strOk t = true
  | [], _, t, h => nomatch h
  | (k, v) :: ps, h, t, ht => by
    simp only [leafOkKv, Bool.and_eq_true] at h
    simp only [PyData.shownKv] at ht
    rcases List.mem_cons.mp ht with rfl | ht
    · rw [strOk_app, strOk_app, shown_ok k h.1.1, shown_ok v h.1.2]
      decide +kernel
    · exact shownKv_ok ps h.2 t ht
end
/-- a shown thing against itself -/
theorem heq_shown {p q : PyData} (hp : leafOk p = true) (hq : leafOk q = true) (n : Bool) : hEq n (.str p.shown) (.str q.shown) = some (.val (.bl (if n then !decide (p.shown = q.shown) else decide (p.shown = q.shown)))) := by
  have h : ∀ z : Str, PyData.strOk z = true → SeqAt.shaped (.str z) = true := fun z hz => by simp [SeqAt.shaped, PyData.canLay0, PyData.depth, hz]
  have e : ∀ i j : Str, PyData.eqv (.str i) (.str j) = decide (i = j) := fun i j => by simp [PyData.eqv]; rw [Bool.eq_iff_iff]; simp
  simp only [hEq, D.py, h _ (shown_ok p hp), h _ (shown_ok q hq), and_self, if_true, e]
end DL
end
section
set_option maxRecDepth 100000
set_option maxHeartbeats 1000000
namespace DL
open PySem PySem.Spec PyProof.Rows L2
/-! what repr shows -/
structure DispP (w n : Nat) (p : PyData) : Prop where
  sh : p.showable = true
  lv : p.leavesShort 13 = true
  wt : p.weight ≤ w
  dp : p.depth ≤ n
  lf : leafOk p = true
structure DispPs (w n : Nat) (ps : List PyData) : Prop where
  sh : PyData.showableAll ps = true
  lv : PyData.leavesShortAll 13 ps = true
  wt : PyData.weightAll ps ≤ w
  dp : PyData.depthAll ps ≤ n
  lf : leafOkAll ps = true
def Disp (w n : Nat) (d : D) : Prop := ∃ p, d.py = some p ∧ DispP w n p
def Disps (w n : Nat) (ds : List D) : Prop := ∃ ps, D.pys ds = some ps ∧ DispPs w n ps
theorem Disp.up {w n w2 n2 : Nat} {d : D} (h : Disp w n d) (h1 : w ≤ w2) (h2 : n ≤ n2) : Disp w2 n2 d := by
  obtain ⟨p, e, a, b, c, f, g⟩ := h
  exact ⟨p, e, a, b, by omega, by omega, g⟩
theorem disps_nil {w n : Nat} : Disps w n [] := ⟨[], rfl, rfl, rfl, by simp [PyData.weightAll], by simp [PyData.depthAll], rfl⟩
theorem disps_cons {w w2 n : Nat} {d : D} {ds : List D} (h : Disp w n d) (hs : Disps w2 n ds) : Disps (w + 1 + w2) n (d :: ds) := by
  obtain ⟨p, e, a, b, c, f, g⟩ := h
  obtain ⟨ps, e2, a2, b2, c2, f2, g2⟩ := hs
  refine ⟨p :: ps, by simp only [D.pys, e, e2], ?_, ?_, ?_, ?_, ?_⟩
  · simp only [PyData.showableAll, a, a2, Bool.and_self]
  · simp only [PyData.leavesShortAll, b, b2, Bool.and_self]
  · simp only [PyData.weightAll]; omega
  · simp only [PyData.depthAll]; omega
  · simp only [leafOkAll, g, g2, Bool.and_self]
theorem disps_all {w n : Nat} : ∀ {ds : List D}, (∀ d ∈ ds, Disp w n d) → Disps (ds.length * (w + 1)) n ds
  | [], _ => by simpa using disps_nil
  | d :: ds, h => by
    have := disps_cons (h d (by simp)) (disps_all fun d hd => h d (List.mem_cons_of_mem _ hd))
    have e : (d :: ds).length * (w + 1) = w + 1 + ds.length * (w + 1) := by simp only [List.length_cons, Nat.succ_mul]; omega
    rw [e]
    exact this
theorem disp_lst {w n : Nat} {ds : List D} (h : Disps w n ds) : Disp w (n + 1) (.lst ds) := by
  obtain ⟨ps, e, a, b, c, f, g⟩ := h
  exact ⟨.list ps, by simp only [D.py, e], by simp only [PyData.showable, a], by simp only [PyData.leavesShort, b], by simpa only [PyData.weight] using c, by simp only [PyData.depth]; omega, by simp only [leafOk, g]⟩
theorem disp_tup {w n : Nat} {ds : List D} (h : Disps w n ds) : Disp w (n + 1) (.tup ds) := by
  obtain ⟨ps, e, a, b, c, f, g⟩ := h
  exact ⟨.tuple ps, by simp only [D.py, e], by simp only [PyData.showable, a], by simp only [PyData.leavesShort, b], by simpa only [PyData.weight] using c, by simp only [PyData.depth]; omega, by simp only [leafOk, g]⟩
theorem disp_int {n : Nat} {i : Int} (h : i.natAbs < 10 ^ 12) : Disp 50 n (.int i) := by
  have hl : i.natAbs.log2 < 49 := by
    by_cases c : i.natAbs = 0
    · rw [c]; decide
    · exact (Nat.log2_lt c).mpr (by omega)
  refine ⟨.int i, rfl, ?_, ?_, ?_, by simp [PyData.depth], rfl⟩
  · simp only [PyData.showable, decide_eq_true_eq]; omega
  · simp only [PyData.leavesShort, decide_eq_true_eq]; exact PyData.shown_int_le h
  · simp only [PyData.weight]; split <;> omega
theorem disp_bl {n : Nat} {b : Bool} : Disp 50 n (.bl b) := ⟨.bool b, rfl, rfl, rfl, by simp [PyData.weight], by simp [PyData.depth], rfl⟩
theorem disp_non {n : Nat} : Disp 50 n .non := ⟨.none, rfl, rfl, rfl, by simp [PyData.weight], by simp [PyData.depth], rfl⟩
theorem repr_ok {w n : Nat} {d : D} (h : Disp w n d) (hw : w ≤ 2 ^ 20) (hn : n ≤ 64) (hd : isDisp d = true) : ∃ p, hRepr [d] = some (.val (.str p.shown)) ∧ leafOk p = true := by
  obtain ⟨p, e, a, b, c, f, g⟩ := h
  refine ⟨p, ?_, g⟩
  simp only [hRepr, e]
  rw [if_pos ⟨hd, a, PyData.shown_fits (B := 13) (by omega) (by omega) b (by omega), by omega⟩]
end DL
end
section
set_option maxRecDepth 100000
set_option maxHeartbeats 1000000
/-! zip(xs, ys, strict=True) over two lists of one length -/
namespace PySem
namespace ZS
open Sem (wp)
open F
abbrev Zo (h : Heap) (z TI TO : Addr) (f0 : Value) : Prop :=
  h.get? z = some { cls := .type "zip", dict := none, data := .fields #[f0, .bool false, .bool true, .ref TI, .ref TO], slots := #[] }
theorem tcheck (a b : Value) : checkTypeCall "zip" ⟨[a, b], [(Str.ofString "strict", .bool true)]⟩ = pure () := by kernel_rfl
theorem ncheck (a b : Value) : checkBuiltinCall "zip.__new__" ⟨[.type "zip", a, b], [(Str.ofString "strict", .bool true)]⟩ = pure () := by kernel_rfl
theorem icheck (a b c : Value) : argsOk "object.__init__" ⟨[a, b, c], [(Str.ofString "strict", .bool true)]⟩ := by
  unfold argsOk
  rw [signature?_of (id := "object.__init__") (n := ['_', '_', 't', 'i', 'n', 'i', '_', '_']) (o := ['t', 'c', 'e', 'j', 'b', 'o']) (by kernel_rfl) owner_object]
  kernel_rfl
section
variable {prog : Program} {w : World} {A : Around} {E : Value → Shared → Prop} {s : Shared}
theorem draw_item {it l : Addr} {i : Nat} {items : Array Value} {x : Value} {Q : Option Value → Shared → Prop} (hit : s.heap.IsListIter it l i) (hl : s.heap.IsList l items) (hx : items[i]? = some x)
    (hQ : ∀ h', h'.IsListIter it l (i + 1) → Heap.SameBut it s.heap h' → Q (some x) { s with heap := h' }) :
    wpAny (model prog w) A (Builtin.SmallTypes.nextOrEnd (.ref it)) Q E s := by
  unfold Builtin.SmallTypes.nextOrEnd
  exact wpAny_bind (wpAny_attempt (wpAny_nextOf_list_item hit hl hx fun h' a b => wpAny_pure (hQ h' a b)))
theorem draw_end {it l : Addr} {i : Nat} {items : Array Value} {Q : Option Value → Shared → Prop} (hh : A.handled = none) (hit : s.heap.IsListIter it l i) (hl : s.heap.IsList l items) (hx : items[i]? = none)
    (hQ : ∀ h', Heap.ExtBut it s.heap h' → Q none { s with heap := h' }) :
    wpAny (model prog w) A (Builtin.SmallTypes.nextOrEnd (.ref it)) Q E s := by
  unfold Builtin.SmallTypes.nextOrEnd
  refine wpAny_bind (wpAny_attempt (wpAny_nextOf_list_end hh hit hl hx fun h' e hs he => ?_))
  obtain ⟨o, ho, hc⟩ := he
  refine wpAny_bind (wpAny_isInstance (T := "StopIteration") (b := true) ⟨o, ho, hc⟩ isSubtype_stop ?_)
  exact wpAny_pure (hQ _ hs)
end
theorem meets_new (l1 l2 : Addr) (xs ys : Array Value) :
    Meets (Builtin.«zip.__new__» ⟨[.type "zip", .ref l1, .ref l2], [(Str.ofString "strict", .bool true)]⟩) (fun _ R s => s.heap.IsList l1 xs ∧ s.heap.IsList l2 ys ∧
      R (.ok (.ret (.ref (zipH4 s.heap l1 l2).objs.size))) { s with heap := (zipH4 s.heap l1 l2).push { cls := .type "zip", data := .fields #[.none, .bool false, .bool true, .ref (zipH2 s.heap l1 l2).objs.size, .ref (zipH3 s.heap l1 l2).objs.size] } }) :=
  .of_wp fun prog w A R s h => by
    obtain ⟨hp, g, d, tk, os⟩ := s
    obtain ⟨q1, q2, h⟩ := h
    have hsub := sub_zip
    have m1 : Heap.IsList (Shared.heap ⟨hp, g, d, tk, os⟩) l1 xs := q1
    have m2 : Heap.IsList (Shared.heap ⟨hp.push { cls := .type "list_iterator", data := .fields #[.ref l1, .int 0 0] }, g, d, tk, os⟩) l2 ys := Heap.IsList.push q2 _
    wp_walk using wpAny_pyIter_list m1, wpAny_pyIter_list m2
    exact ⟨_, rfl, h⟩
section
variable {prog : Program} {w : World} {A : Around} {E : Value → Shared → Prop} {s : Shared}
theorem next_item {z ti to j1 j2 l1 l2 : Addr} {k1 k2 : Nat} {xs ys : Array Value} {x y a b : Value} {Q : Value → Shared → Prop} (D : ZipApart z ti to j1 j2 l1 l2)
    (oz : Zo s.heap z ti to .none) (oti : IsPair s.heap ti (.ref j1) (.ref j2)) (oto : IsPair s.heap to a b) (o1 : s.heap.IsListIter j1 l1 k1) (o2 : s.heap.IsListIter j2 l2 k2)
    (q1 : s.heap.IsList l1 xs) (q2 : s.heap.IsList l2 ys) (hx : xs[k1]? = some x) (hy : ys[k2]? = some y)
    (hQ : ∀ h', Zo h' z ti to (rawInt s.heap.objs.size) → IsPair h' to x y → h'.IsListIter j1 l1 (k1 + 1) → h'.IsListIter j2 l2 (k2 + 1) → IsPair h' s.heap.objs.size x y → h'.objs.size = s.heap.objs.size + 1 →
      (∀ c o, c ≠ z → c ≠ to → c ≠ j1 → c ≠ j2 → s.heap.get? c = some o → h'.get? c = some o) → Q (.ref s.heap.objs.size) { s with heap := h' }) :
    wpAny (model prog w) A (Builtin.«zip.__next__» ⟨[.ref z], []⟩) (fun fin t => ∃ v, fin = .done (.ret v) ∧ Q v t) E s := by
  show wpAny _ _ (field (.ref z) 2 >>= _) _ E _
  refine wpAny_bind (wpAny_field oz rfl (x := .bool true) rfl ?_)
  show wpAny _ _ (field (.ref z) 3 >>= _) _ E _
  refine wpAny_bind (wpAny_field oz rfl (x := .ref ti) rfl (wpAny_bind (wpAny_seqItems oti rfl ?_)))
  show wpAny _ _ (Builtin.SmallTypes.ownedTupleIsFree (.ref z) >>= _) _ E _
  refine wpAny_bind ?_
  unfold Builtin.SmallTypes.ownedTupleIsFree
  refine wpAny_bind (wpAny_field oz rfl (x := .none) rfl (wpAny_pure ?_))
  simp only [if_true]
  refine wpAny_bind (wpAny_rule (wpAny_bind (wpAny_field oz rfl (x := .ref to) rfl ?_)))
  refine wpAny_bind (wpAny_setField_rec oz (by simp) fun g1 z1 s1 => ?_)
  replace z1 : Zo g1 z ti to .ellipsis := z1
  refine wpAny_bind ?_
  simp only [List.zipIdx_nil, List.zipIdx_cons, List.forIn_nil, List.forIn_cons]
  refine wpAny_bind (wpAny_bind (wpAny_onRaise ?_))
  show wpAny _ _ (Builtin.SmallTypes.nextOrEnd (.ref j1)) _ _ _
  refine draw_item (o1.extBut s1.extBut D.i1z) (q1.extBut s1.extBut D.l1z) hx fun g2 a1 s2 => ?_
  have t2 : IsPair g2 to a b := s2.extBut _ _ D.TOi1 (s1.extBut _ _ D.TOz oto)
  refine wpAny_bind (wpAny_seqItems t2 rfl (wpAny_bind (wpAny_updateSeq_pair t2 fun g3 t3 s3 => ?_)))
  replace t3 : IsPair g3 to x b := t3
  refine wpAny_bind (wpAny_letGo (wpAny_pure (wpAny_bind (wpAny_bind (wpAny_onRaise ?_)))))
  show wpAny _ _ (Builtin.SmallTypes.nextOrEnd (.ref j2)) _ _ _
  refine draw_item (((o2.extBut s1.extBut D.i2z).extBut s2.extBut D.i12.symm).extBut s3.extBut D.TOi2.symm) (((q2.extBut s1.extBut D.l2z).extBut s2.extBut D.l2i1).extBut s3.extBut D.l2TO) hy fun g4 a2 s4 => ?_
  have t4 : IsPair g4 to x b := s4.extBut _ _ D.TOi2 t3
  refine wpAny_bind (wpAny_seqItems t4 rfl (wpAny_bind (wpAny_updateSeq_pair t4 fun g5 t5 s5 => ?_)))
  replace t5 : IsPair g5 to x y := t5
  refine wpAny_bind (wpAny_letGo (wpAny_pure (wpAny_pure (wpAny_bind (wpAny_seqItems t5 rfl (wpAny_bind (wpAny_newTuple ?_)))))))
  have sz : g5.objs.size = s.heap.objs.size := by rw [s5.1, s4.1, s3.1, s2.1, s1.1]
  have z5 : Zo g5 z ti to .ellipsis := s5.extBut _ _ D.TOz.symm (s4.extBut _ _ D.i2z.symm (s3.extBut _ _ D.TOz.symm (s2.extBut _ _ D.i1z.symm z1)))
  have kp : ∀ c o, c ≠ z → c ≠ to → c ≠ j1 → c ≠ j2 → s.heap.get? c = some o → g5.get? c = some o := fun c o c1 c2 c3 c4 e => s5.extBut _ _ c2 (s4.extBut _ _ c4 (s3.extBut _ _ c2 (s2.extBut _ _ c3 (s1.extBut _ _ c1 e))))
  have b1 : g5.IsListIter j1 l1 (k1 + 1) := ((a1.extBut s3.extBut D.TOi1.symm).extBut s4.extBut D.i12).extBut s5.extBut D.TOi1.symm
  have b2 : g5.IsListIter j2 l2 (k2 + 1) := a2.extBut s5.extBut D.TOi2.symm
  have zlt : z < g5.objs.size := Heap.lt_size z5
  show wpAny _ _ (Builtin.SmallTypes.ownedTupleHandOut (.ref z) (.ref g5.objs.size) >>= _) _ E _
  refine wpAny_bind ?_
  unfold Builtin.SmallTypes.ownedTupleHandOut
  have z6 : Zo (g5.push { cls := .type "tuple", data := .seq #[x, y] }) z ti to .ellipsis := Heap.get?_push_of_some _ z5
  refine wpAny_bind (wpAny_setField_rec z6 (by simp) fun g7 z7 s7 => ?_)
  replace z7 : Zo g7 z ti to (rawInt g5.objs.size) := z7
  refine wpAny_setField_rec z7 (by simp) fun g8 z8 s8 => ?_
  replace z8 : Zo g8 z ti to (rawInt g5.objs.size) := z8
  have up : ∀ c o, c ≠ z → g5.get? c = some o → g8.get? c = some o := fun c o c1 e => s8.extBut _ _ c1 (s7.extBut _ _ c1 (Heap.get?_push_of_some _ e))
  have t8 : IsPair g8 g5.objs.size x y := s8.extBut _ _ (Nat.ne_of_gt zlt) (s7.extBut _ _ (Nat.ne_of_gt zlt) (Heap.get?_push_size _ rfl))
  have n8 : g8.objs.size = g5.objs.size + 1 := by rw [s8.1, s7.1, Heap.size_push]
  rw [sz] at z8 t8 n8
  refine wpAny_pure ⟨_, rfl, ?_⟩
  show Q (.ref g5.objs.size) _
  rw [sz]
  exact hQ g8 z8 (up _ _ D.TOz t5) (b1.at fun o e => up _ o D.i1z e) (b2.at fun o e => up _ o D.i2z e) t8 n8 fun c o c1 c2 c3 c4 e => up c o c1 (kp c o c1 c2 c3 c4 e)
theorem next_end {z ti to j1 j2 l1 l2 : Addr} {k1 k2 : Nat} {xs ys : Array Value} {Q : Fin → Shared → Prop} (hh : A.handled = none) (D : ZipApart z ti to j1 j2 l1 l2)
    (oz : Zo s.heap z ti to .none) (oti : IsPair s.heap ti (.ref j1) (.ref j2)) (o1 : s.heap.IsListIter j1 l1 k1) (o2 : s.heap.IsListIter j2 l2 k2)
    (q1 : s.heap.IsList l1 xs) (q2 : s.heap.IsList l2 ys) (hx : xs[k1]? = none) (hy : ys[k2]? = none)
    (hE : ∀ h' e, (∀ c o, c ≠ z → c ≠ to → c ≠ j1 → c ≠ j2 → s.heap.get? c = some o → h'.get? c = some o) → (∃ o, h'.get? e = some o ∧ o.cls = .type "StopIteration") → E (.ref e) { s with heap := h' }) :
    wpAny (model prog w) A (Builtin.«zip.__next__» ⟨[.ref z], []⟩) Q E s := by
  show wpAny _ _ (field (.ref z) 2 >>= _) Q E _
  refine wpAny_bind (wpAny_field oz rfl (x := .bool true) rfl ?_)
  show wpAny _ _ (field (.ref z) 3 >>= _) Q E _
  refine wpAny_bind (wpAny_field oz rfl (x := .ref ti) rfl (wpAny_bind (wpAny_seqItems oti rfl ?_)))
  show wpAny _ _ (Builtin.SmallTypes.ownedTupleIsFree (.ref z) >>= _) Q E _
  refine wpAny_bind ?_
  unfold Builtin.SmallTypes.ownedTupleIsFree
  refine wpAny_bind (wpAny_field oz rfl (x := .none) rfl (wpAny_pure ?_))
  simp only [if_true]
  refine wpAny_bind (wpAny_rule (wpAny_bind (wpAny_field oz rfl (x := .ref to) rfl ?_)))
  refine wpAny_bind (wpAny_setField_rec oz (by simp) fun g1 z1 s1 => ?_)
  replace z1 : Zo g1 z ti to .ellipsis := z1
  refine wpAny_bind ?_
  simp only [List.zipIdx_nil, List.zipIdx_cons, List.forIn_nil, List.forIn_cons]
  refine wpAny_bind (wpAny_bind (wpAny_onRaise ?_))
  show wpAny _ _ (Builtin.SmallTypes.nextOrEnd (.ref j1)) _ _ _
  refine draw_end hh (o1.extBut s1.extBut D.i1z) (q1.extBut s1.extBut D.l1z) hx fun g2 s2 => ?_
  have z2 : Zo g2 z ti to .ellipsis := s2 _ _ D.i1z.symm z1
  refine wpAny_bind (wpAny_setField_rec z2 (by simp) fun g3 z3 s3 => ?_)
  refine wpAny_bind ?_
  show wpAny _ _ (((Builtin.SmallTypes.nextOrEnd (.ref j2) >>= _) >>= _) >>= _) _ _ _
  refine wpAny_bind (wpAny_bind (wpAny_bind (draw_end hh (((o2.extBut s1.extBut D.i2z).extBut s2 D.i12.symm).extBut s3.extBut D.i2z) (((q2.extBut s1.extBut D.l2z).extBut s2 D.l2i1).extBut s3.extBut D.l2z) hy fun g4 s4 => ?_)))
  simp only [Option.isSome_none, Bool.false_eq_true, if_false]
  refine wpAny_pure (wpAny_pure ?_)
  refine wpAny_bind (wpAny_rule ?_)
  show wpAny _ _ (newExc (.type "StopIteration") [] >>= _) _ _ _
  refine wpAny_bind ?_
  simp only [newTuple, newExc]
  refine wpAny_bind (wpAny_newObj_type (wpAny_bind (m := firstArgMember _ _) (wpAny_of_eq (a := Value.none) (by first | rfl | (simp only [firstArgMember]; rfl)) (wpAny_newObj_type ?_ (by size_fits)))) (by size_fits))
  simp only [raiseNew]
  refine wpAny_bind (wpAny_handled ?_)
  first | rw [show A.in1.handled = none from hh] | rw [hh]
  refine wpAny_bind (wpAny_pure (wpAny_throw ?_))
  refine hE _ _ (fun c o c1 _ c3 c4 e => ?_) ⟨_, Heap.get?_push_size _ rfl, rfl⟩
  exact Heap.get?_push_of_some _ (Heap.get?_push_of_some _ (s4 _ _ c4 (s3.extBut _ _ c1 (s2 _ _ c3 (s1.extBut _ _ c1 e)))))
end
end ZS
end PySem
end
section
set_option maxRecDepth 100000
set_option maxHeartbeats 1000000
namespace PySem
namespace ZS
open Sem (wp)
section
variable {prog : Program} {w : World} {A : Around} {E : Value → Shared → Prop} {s : Shared}
theorem step_item {z ti to j1 j2 l1 l2 : Addr} {k1 k2 : Nat} {xs ys : Array Value} {x y a b : Value} {Q : Option Value → Shared → Prop} (D : ZipApart z ti to j1 j2 l1 l2)
    (oz : Zo s.heap z ti to .none) (oti : IsPair s.heap ti (.ref j1) (.ref j2)) (oto : IsPair s.heap to a b) (o1 : s.heap.IsListIter j1 l1 k1) (o2 : s.heap.IsListIter j2 l2 k2)
    (q1 : s.heap.IsList l1 xs) (q2 : s.heap.IsList l2 ys) (hx : xs[k1]? = some x) (hy : ys[k2]? = some y)
    (hQ : ∀ h', Zo h' z ti to (rawInt s.heap.objs.size) → IsPair h' to x y → h'.IsListIter j1 l1 (k1 + 1) → h'.IsListIter j2 l2 (k2 + 1) → IsPair h' s.heap.objs.size x y → h'.objs.size = s.heap.objs.size + 1 →
      (∀ c o, c ≠ z → c ≠ to → c ≠ j1 → c ≠ j2 → s.heap.get? c = some o → h'.get? c = some o) → Q (some (.ref s.heap.objs.size)) { s with heap := h' }) :
    wpAny (model prog w) A (pyNext (.ref z)) Q E s := by
  have ty : s.TypeIs (.ref z) "zip" := ⟨_, oz, rfl⟩
  unfold pyNext
  exact wpAny_bind (wpAny_attempt (wpAny_callSpecial?_slot (name := Str.ofString "__next__") ty F.slot_zip_next (wpAny_call_entry F.slot_zip_next ty F.entry_zip_next
    (next_item D oz oti oto o1 o2 q1 q2 hx hy fun h' b1 b2 b3 b4 b5 b6 b7 => wpAny_pure (hQ h' b1 b2 b3 b4 b5 b6 b7)) (F.args_zip_next_1 _))))
theorem step_end {z ti to j1 j2 l1 l2 : Addr} {k1 k2 : Nat} {xs ys : Array Value} {Q : Option Value → Shared → Prop} (hh : A.handled = none) (D : ZipApart z ti to j1 j2 l1 l2)
    (oz : Zo s.heap z ti to .none) (oti : IsPair s.heap ti (.ref j1) (.ref j2)) (o1 : s.heap.IsListIter j1 l1 k1) (o2 : s.heap.IsListIter j2 l2 k2)
    (q1 : s.heap.IsList l1 xs) (q2 : s.heap.IsList l2 ys) (hx : xs[k1]? = none) (hy : ys[k2]? = none)
    (hQ : ∀ h', (∀ c o, c ≠ z → c ≠ to → c ≠ j1 → c ≠ j2 → s.heap.get? c = some o → h'.get? c = some o) → Q none { s with heap := h' }) : wpAny (model prog w) A (pyNext (.ref z)) Q E s := by
  have ty : s.TypeIs (.ref z) "zip" := ⟨_, oz, rfl⟩
  unfold pyNext
  refine wpAny_bind (wpAny_attempt (wpAny_callSpecial?_slot (name := Str.ofString "__next__") ty F.slot_zip_next (wpAny_call_entry F.slot_zip_next ty F.entry_zip_next
    (next_end hh D oz oti o1 o2 q1 q2 hx hy fun h' e kp he => ?_) (F.args_zip_next_1 _))))
  obtain ⟨o, ho, hc⟩ := he
  exact wpAny_bind (wpAny_isInstance (T := "StopIteration") (b := true) ⟨o, ho, hc⟩ isSubtype_stop (wpAny_pure (hQ _ kp)))
theorem own_go {elts : List Expr} {x1} {pos : Pos} {z ti to T : Addr} {Q : Unit → Shared → Prop} (oz : Zo s.heap z ti to (rawInt T))
    (hQ : ∀ h', Zo h' z ti to .none → Heap.SameBut z s.heap h' → Q () { s with heap := h' }) :
    wpAny (model prog w) A (letOwnedTupleGo (.Tuple elts x1 pos) (.ref z) (.ref T)) Q E s := by
  unfold letOwnedTupleGo
  refine wpAny_bind (wpAny_load oz ?_)
  show wpAny _ _ (if (["enumerate", "zip", "dict_itemiterator", "dict_reverseitemiterator", "odict_iterator", "itertools.zip_longest", "itertools.pairwise"].contains "zip" && (#[rawInt T, .bool false, .bool true, .ref ti, .ref to] : Array Value)[0]? == some (rawInt T)) = true then _ else _) Q E s
  rw [if_pos (by simp)]
  refine wpAny_bind (wpAny_rule ?_)
  show wpAny _ _ (setField (.ref z) 0 .none) Q E _
  exact wpAny_setField_rec oz (by simp) fun g oz' sb => hQ g oz' sb
theorem self_iter {z ti to : Addr} {f0 : Value} {Q : Value → Shared → Prop} (oz : Zo s.heap z ti to f0) (h : Q (.ref z) s) : wpAny (model prog w) A (pyIter (.ref z)) Q E s := by
  have ty : s.TypeIs (.ref z) "zip" := ⟨_, oz, rfl⟩
  refine wpAny_pyIter_slot ty F.slot_zip_iter (wpAny_call_entry F.slot_zip_iter ty F.entry_zip_iter ?_ (F.args_zip_iter_1 _))
  show wpAny _ _ (ret (.ref z)) _ E s
  exact wpAny_pure ⟨_, rfl, "zip", _, ty, F.slot_zip_next.lookup, h⟩
theorem call_new {l1 l2 : Addr} {xs ys : Array Value} {Q : Value → Shared → Prop} (q1 : s.heap.IsList l1 xs) (q2 : s.heap.IsList l2 ys)
    (h : ∀ h', Zo h' (s.heap.objs.size + 4) (s.heap.objs.size + 2) (s.heap.objs.size + 3) .none → IsPair h' (s.heap.objs.size + 2) (.ref s.heap.objs.size) (.ref (s.heap.objs.size + 1)) →
      IsPair h' (s.heap.objs.size + 3) .none .none → h'.IsListIter s.heap.objs.size l1 0 → h'.IsListIter (s.heap.objs.size + 1) l2 0 → h'.objs.size = s.heap.objs.size + 5 →
      (∀ c o, s.heap.get? c = some o → h'.get? c = some o) → Q (.ref (s.heap.objs.size + 4)) { s with heap := h' }) :
    wpAny (model prog w) A (call (.type "zip") [.ref l1, .ref l2] [(Str.ofString "strict", .bool true)]) Q E s := by
  refine callType_newKw F.called_zip (by decide) (tcheck _ _) (ncheck _ _) (fun obj => icheck obj _ _) F.entry_zip_new (meets_new l1 l2 xs ys) ⟨q1, q2, ?_⟩
  have n1 : (zipH1 s.heap l1).objs.size = s.heap.objs.size + 1 := Heap.size_push ..
  have n2 : (zipH2 s.heap l1 l2).objs.size = s.heap.objs.size + 2 := by rw [Heap.size_push, n1]
  have n3 : (zipH3 s.heap l1 l2).objs.size = s.heap.objs.size + 3 := by rw [Heap.size_push, n2]
  have n4 : (zipH4 s.heap l1 l2).objs.size = s.heap.objs.size + 4 := by rw [Heap.size_push, n3]
  generalize hG : (zipH4 s.heap l1 l2).push { cls := .type "zip", data := .fields #[.none, .bool false, .bool true, .ref (zipH2 s.heap l1 l2).objs.size, .ref (zipH3 s.heap l1 l2).objs.size] } = G
  have n5 : G.objs.size = s.heap.objs.size + 5 := by rw [← hG, Heap.size_push, n4]
  have p5 : G.get? (zipH4 s.heap l1 l2).objs.size = some _ := hG ▸ Heap.get?_push_size _ rfl
  have p4 : G.get? (zipH3 s.heap l1 l2).objs.size = some _ := hG ▸ Heap.get?_push_of_some _ (Heap.get?_push_size _ rfl)
  have p3 : G.get? (zipH2 s.heap l1 l2).objs.size = some _ := hG ▸ Heap.get?_push_of_some _ (Heap.get?_push_of_some _ (Heap.get?_push_size _ rfl))
  have p2 : G.get? (zipH1 s.heap l1).objs.size = some _ := hG ▸ Heap.get?_push_of_some _ (Heap.get?_push_of_some _ (Heap.get?_push_of_some _ (Heap.get?_push_size _ rfl)))
  have p1 : G.get? s.heap.objs.size = some _ := hG ▸ Heap.get?_push_of_some _ (Heap.get?_push_of_some _ (Heap.get?_push_of_some _ (Heap.get?_push_of_some _ (Heap.get?_push_size _ rfl))))
  show _ ∧ _
  rw [n2, n3, n4] at p5
  rw [n1, n2] at p3
  rw [n3] at p4
  rw [n1] at p2
  rw [n4]
  exact ⟨⟨_, p5, rfl⟩, h _ p5 p3 p4 ⟨_, p1, rfl, rfl⟩ ⟨_, p2, rfl, rfl⟩ n5 fun c o e => hG ▸ Heap.get?_push_of_some _ (Heap.get?_push_of_some _ (Heap.get?_push_of_some _ (Heap.get?_push_of_some _ (Heap.get?_push_of_some _ e))))⟩
end
end ZS
end PySem
namespace L2
open PySem PySem.Spec PyProof.Rows PySem.ZS
/-- two lists of one length, the items in new pairs -/
def Izs (K : PySem.W.Frag) (a b : Addr) : It :=
  ⟨fun i H => ∃ (xs ys : List V) (x y : V), SqL K H a xs ∧ SqL K H b ys ∧ xs[i]? = some x ∧ ys[i]? = some y,
    fun i H v H' => ∃ T x y, v = .ref T ∧ H T = none ∧ H' = upd H T (.tup [x, y]) ∧ (∀ us, SqL K H a us → us[i]? = some x) ∧ ∀ us, SqL K H b us → us[i]? = some y,
    fun i H => ∃ xs ys : List V, SqL K H a xs ∧ SqL K H b ys ∧ xs.length ≤ i ∧ ys.length ≤ i⟩
theorem turn_zs {P : Program} {w : World} {K : PySem.W.Frag} {elts : List Expr} {kk : Nat} {tpos : Pos} {a b z ti to j1 j2 : Addr} (D : ZipApart z ti to j1 j2 a b) :
    Turn P w K (.Tuple elts kk tpos) (Izs K a b) [z, ti, to, j1, j2] z (fun i h => Zo h z ti to .none ∧ IsPair h ti (.ref j1) (.ref j2) ∧ (∃ x y, IsPair h to x y) ∧ h.IsListIter j1 a i ∧ h.IsListIter j2 b i) where
  mem := by simp
  obj := fun i h st c hc => by
    obtain ⟨oz, oti, ⟨x, y, oto⟩, ⟨o1, e1, _, d1⟩, ⟨o2, e2, _, d2⟩⟩ := st
    have e' : c = z ∨ c = ti ∨ c = to ∨ c = j1 ∨ c = j2 := by simpa using hc
    rcases e' with rfl | rfl | rfl | rfl | rfl
    · exact ⟨_, oz, fun v q => nomatch q⟩
    · exact ⟨_, oti, fun v q => nomatch q⟩
    · exact ⟨_, oto, fun v q => nomatch q⟩
    · exact ⟨o1, e1, fun v q => by rw [d1] at q; cases q⟩
    · exact ⟨o2, e2, fun v q => by rw [d2] at q; cases q⟩
  keep := fun i h h' st k => by
    obtain ⟨oz, oti, ⟨x, y, oto⟩, o1, o2⟩ := st
    exact ⟨k z (by simp) _ oz, k ti (by simp) _ oti, ⟨x, y, k to (by simp) _ oto⟩, o1.at fun o q => k j1 (by simp) o q, o2.at fun o q => k j2 (by simp) o q⟩
  item := by
    intro X hP hw hK hc i pins s σ H E I hf st hg
    subst hP hw hK
    obtain ⟨oz, oti, ⟨x0, y0, oto⟩, o1, o2⟩ := st
    obtain ⟨xs, ys, x, y, hqx, hqy, hx, hy⟩ := hg
    obtain ⟨its, rv, p, _⟩ := I.list hqx
    obtain ⟨its2, rv2, p2, _⟩ := I.list hqy
    obtain ⟨u, hu, ru⟩ := rv.get hx
    obtain ⟨u2, hu2, ru2⟩ := rv2.get hy
    have zlt : z < s.heap.objs.size := Heap.lt_size oz
    refine step_item D oz oti oto o1 o2 p.isList p2.isList (x := u) (y := u2) (by simpa using hu) (by simpa using hu2) fun h' z' to' o1' o2' hT hsz hk => ⟨_, rfl, own_go (s := { s with heap := h' }) z' fun h'' z'' sb => ?_⟩
    have hT2 : h''.get? s.heap.objs.size = some { cls := .type "tuple", data := .seq #[u, u2] } := (sb.2 _ (Nat.ne_of_gt zlt)).trans hT
    have new : ObjOk X.prog X.w (upd H s.heap.objs.size (.tup [x, y])) h'' s.heap.objs.size (.tup [x, y]) := ⟨by show 2 ≤ sizeLine; decide, [u, u2], .cons ru (.cons ru2 .nil), ⟨_, hT2, rfl, _, rfl⟩⟩
    have I1 : Inv X pins σ (upd H s.heap.objs.size (.tup [x, y])) { s with heap := h'' } :=
      I.turnedNew (t' := s.toks) (ch := [z, ti, to, j1, j2]) (fun c o hb q => (sb.2 c (fun q' => hb (by simp [q']))).trans (hk c o (fun q' => hb (by simp [q'])) (fun q' => hb (by simp [q'])) (fun q' => hb (by simp [q'])) (fun q' => hb (by simp [q'])) q)) hf (Nat.le_refl _) new
    refine ⟨.ref s.heap.objs.size, _, I1, rfl, ⟨_, x, y, rfl, I.hok.fresh (Nat.le_refl _), rfl, fun l hl => by rw [I.list_inj hl hqx]; exact hx, fun l hl => by rw [I.list_inj hl hqy]; exact hy⟩,
      ⟨z'', (sb.2 _ D.TIz).trans (hk _ _ D.TIz D.TITO D.TIi1 D.TIi2 oti), ⟨u, u2, (sb.2 _ D.TOz).trans to'⟩, o1'.at fun o q => (sb.2 _ D.i1z).trans q, o2'.at fun o q => (sb.2 _ D.i2z).trans q⟩, fun c hcm => ?_⟩
    have hlt : c < s.heap.objs.size := by
      have e' : c = z ∨ c = ti ∨ c = to ∨ c = j1 ∨ c = j2 := by simpa using hcm
      rcases e' with rfl | rfl | rfl | rfl | rfl
      · exact zlt
      · exact Heap.lt_size oti
      · exact Heap.lt_size oto
      · obtain ⟨_, e1, _⟩ := o1; exact Heap.lt_size e1
      · obtain ⟨_, e2, _⟩ := o2; exact Heap.lt_size e2
    rw [upd_ne (Nat.ne_of_lt hlt)]
    exact (hf c hcm).1
  done := by
    intro X hP hw hK hc i pins s σ H E I hf st hg
    subst hP hw hK
    obtain ⟨oz, oti, ⟨x0, y0, oto⟩, o1, o2⟩ := st
    obtain ⟨xs, ys, hqx, hqy, n1, n2⟩ := hg
    obtain ⟨its, rv, p, _⟩ := I.list hqx
    obtain ⟨its2, rv2, p2, _⟩ := I.list hqy
    have m1 := rv.length
    have m2 := rv2.length
    exact step_end (to := to) (I.ok.hd hc) D oz oti o1 o2 p.isList p2.isList (by simp; omega) (by simp; omega) fun h' hk => ⟨rfl, I.turnedL (t' := s.toks) (ch := [z, ti, to, j1, j2]) (fun c o hb q =>
      hk c o (fun q' => hb (by simp [q'])) (fun q' => hb (by simp [q'])) (fun q' => hb (by simp [q'])) (fun q' => hb (by simp [q'])) q) hf⟩
  self := fun A i s Q E st h => self_iter st.1 h
def iZs (K : PySem.W.Frag) (ta : TA) : TI := fun σ H R => ta σ H fun vs H1 => ∃ a b xs ys, vs = [.ref a, .ref b] ∧ SqL K H1 a xs ∧ SqL K H1 b ys ∧ R (Izs K a b) H1
end L2
end
section
set_option maxRecDepth 100000
set_option maxHeartbeats 1000000
namespace L2
open PySem PySem.Spec PyProof.Rows PySem.ZS
section
variable {M : Model} {A : Around} {E : Value → Shared → Prop} {s : Shared} {env : Env}
theorem callWith_tyK {pos : Pos} {T : String} {args : List (Bool × Sem Value)} {kws : List (Option Str × Sem Value)} {Q : Value → Shared → Prop} (hplain : args.any (·.1) = false) (hkw : kws.any (·.1.isNone) = false)
    (h : wpAny M A (evalArgs (.type T) true args kws) (fun a s₁ => wpAny M A (call (.type T) ([] ++ a.pos) a.kw) Q E s₁) E s) : wpAny M A (callWith pos (.type T) [] args kws) Q E s := by
  unfold callWith
  refine wpAny_bind (wpAny_holding (wpAny_mono h (fun a s1 h1 => wpAny_bind (wpAny_standAt ?_)) fun _ _ z => z))
  simp only [hkw, hplain, Bool.or_false]
  exact wpAny_bind (wpAny_pure (wpAny_bind (wpAny_mono h1 (fun r s2 hr => wpAny_bind (wpAny_holding (wpAny_point (wpAny_pure hr)))) fun _ _ z => z)))
theorem callTyK {pos : Pos} {T : String} {e : Expr} {rest : List Expr} {kws : List Keyword} {Q : Value → Shared → Prop}
    (h : wpAny M A (spliced (backTo pos (starEach (e :: rest) env))) (fun vs s1 => wpAny M A (evalAll ((backToKw pos (keywordEach kws env)).map (·.2))) (fun ks s2 => wpAny M A (call (.type T) vs (((backToKw pos (keywordEach kws env)).filterMap (·.1)).zip ks)) Q E s2) E s1) E s)
    (he : backTo pos (starEach (e :: rest) env) = (false, eval e env) :: backTo pos (starEach rest env)) (hplain : (backTo pos (starEach (e :: rest) env)).any (·.1) = false)
    (hall : (backToKw pos (keywordEach kws env)).all (·.1.isSome) = true) (hkw : (backToKw pos (keywordEach kws env)).any (·.1.isNone) = false) :
    wpAny M A (callWith pos (.type T) [] (backTo pos (starEach (e :: rest) env)) (backToKw pos (keywordEach kws env))) Q E s := by
  refine callWith_tyK hplain hkw ?_
  rw [he] at h ⊢
  exact evalArgs_kwB hall h
end
theorem pi_zs {X : Cx} {e e2 : Expr} {ta : TA} {p pos tpos kp cp : Pos} {elts : List Expr} {kk cj : Nat} (hg : Gl X "zip") (hm : X.mg "zip" = none) (ha : PA X [e, e2] ta)
    (hs : backTo pos (starEach [e, e2] X.env) = (false, eval e X.env) :: backTo pos (starEach [e2] X.env) := by rfl) (hpl : (backTo pos (starEach [e, e2] X.env)).any (·.1) = false := by rfl) :
    PI X (.Tuple elts kk tpos) (.Call (.Name "zip" p) [e, e2] [⟨some "strict", .Constant (.bool true) cj cp, kp⟩] pos) (iZs X.K ta) := by
  refine ⟨fun pins s σ H R I h => ?_⟩
  refine wpAny_Call_Name_kw (ld_blt I hg hm PyProof.Rows.boot_zip (callTyK (thn (ha.run pos pins s σ H _ I h) fun us s1 ⟨vs, H1, I1, r1, q1⟩ => thn ((pk_cons (nm := some "strict") (kpos := kp) pe_bl pk_nil).run pos pins s1 σ H1 (fun zs H2 => zs = [.bl true] ∧ H2 = H1) I1 ⟨rfl, rfl⟩) fun ws s2 ⟨zs, H2, I2, r2, q2⟩ => ?_) hs hpl rfl rfl))
  obtain ⟨rfl, rfl⟩ := q2
  obtain ⟨a, b, xs, ys, ex, hqx, hqy, q⟩ := q1
  subst ex
  cases r2 with
  | cons r rr =>
    cases rr
    cases r
    cases r1 with
    | cons r rr =>
      cases rr with
      | cons r' rr =>
        cases rr
        cases r
        cases r'
        obtain ⟨its, rv, p1, _⟩ := I2.list hqx
        obtain ⟨its2, rv2, p2, _⟩ := I2.list hqy
        refine call_new p1.isList p2.isList fun h' hz hti hto h1 h2 hsz hk => self_iter hz ?_
        refine ⟨s2.heap.objs.size + 4, [s2.heap.objs.size + 4, s2.heap.objs.size + 2, s2.heap.objs.size + 3, s2.heap.objs.size, s2.heap.objs.size + 1], _, _, H2, rfl, I2.kept (t' := s2.toks) hk, turn_zs (PySem.W.ktu_apart s2.heap.objs.size a b p1.lt p2.lt), ⟨hz, hti, ⟨_, _, hto⟩, h1, h2⟩, fun c hcm => ?_, q⟩
        have hle : s2.heap.objs.size ≤ c := by
          have e' : c = s2.heap.objs.size + 4 ∨ c = s2.heap.objs.size + 2 ∨ c = s2.heap.objs.size + 3 ∨ c = s2.heap.objs.size ∨ c = s2.heap.objs.size + 1 := by simpa using hcm
          show (s2.heap.objs.size : Nat) ≤ (c : Nat)
          rcases e' with z | z | z | z | z <;> (rw [z]; first | exact Nat.le_refl _ | exact Nat.le_add_right _ _)
        exact I2.fpOk hle (I2.hok.fresh hle)
end L2
namespace DL
open PySem PySem.Spec PyProof.Rows L2
variable [tb : Tb]
def dZip (fs : M (List R)) : M (List D) := fun env => (fs env).bind fun rs e => match frzRs rs with
  | some [.lst xs, .lst ys] => if xs.length = ys.length then .ok (List.zipWith (fun x y => .tup [x, y]) xs ys) e else .bad
  | _ => .bad
theorem good_zip {K : PySem.W.Frag} {F0 : Hp} {a b : Addr} {vs ws : List V} {xs ys : List D} (h1 : F0 a = some (.lst vs)) (h2 : F0 b = some (.lst ws)) (r1 : Reps K F0 xs vs) (r2 : Reps K F0 ys ws) (hl : xs.length = ys.length) :
    GoodL K F0 (Izs K a b) (List.zipWith (fun x y => .tup [x, y]) xs ys) where
  item := fun F H i d s1 s2 e => by
    have q1 : SqL K H a vs := .of (s2 _ _ (s1 _ _ h1))
    have q2 : SqL K H b ws := .of (s2 _ _ (s1 _ _ h2))
    rw [List.getElem?_zipWith] at e
    cases ex : xs[i]? with
    | none => rw [ex] at e; simp at e
    | some x =>
      cases ey : ys[i]? with
      | none => rw [ex, ey] at e; simp at e
      | some y =>
        rw [ex, ey] at e
        simp only [Option.some.injEq] at e
        subst e
        obtain ⟨v, g1, g2⟩ := (Reps.same s1 xs r1).get ex
        obtain ⟨w, g3, g4⟩ := (Reps.same s1 ys r2).get ey
        refine ⟨⟨vs, ws, v, w, q1, q2, g1, g3⟩, ?_⟩
        rintro x' H' ⟨T, v', w', rfl, hT, rfl, m1, m2⟩
        have := m1 _ q1
        rw [g1] at this; cases this
        have := m2 _ q2
        rw [g3] at this; cases this
        refine ⟨upd F T (.tup [v, w]), Nw.frz hT s2, same_frz s2, ?_⟩
        simp only [Rep]
        exact ⟨T, _, rfl, .of upd_same, _, _, rfl, Rep.same (Nw.frz hT s2).fz _ g2, _, _, rfl, Rep.same (Nw.frz hT s2).fz _ g4, rfl⟩
  stop := fun F H i s1 s2 e => by
    simp only [List.length_zipWith] at e
    refine ⟨vs, ws, .of (s2 _ _ (s1 _ _ h1)), .of (s2 _ _ (s1 _ _ h2)), ?_, ?_⟩
    · rw [r1.len]; omega
    · rw [r2.len]; omega
theorem di_zip {X : Cx} {pv : Nat → Option V} {W : WX} {fs : M (List R)} {a b : Expr} {pos p tpos kp cp : Pos} {elts : List Expr} {kk cj : Nat} (hg : Gl X "zip") (hm : X.mg "zip" = none) (ha : PA X [a, b] (tDA X.K X.mg pv W fs))
    (hs : backTo pos (starEach [a, b] X.env) = (false, eval a X.env) :: backTo pos (starEach [b] X.env) := by rfl) (hpl : (backTo pos (starEach [a, b] X.env)).any (·.1) = false := by rfl) :
    PI X (.Tuple elts kk tpos) (.Call (.Name "zip" p) [a, b] [⟨some "strict", .Constant (.bool true) cj cp, kp⟩] pos) (tI X.K X.mg pv W (dZip fs)) := (pi_zs hg hm ha hs hpl).imp fun σ H R q => by
  obtain ⟨env, F, A, ws, q⟩ := q
  simp only [dZip] at q
  refine tDA_bind ws (fun e => ?_) (fun c e1 e F1 H1 A1 s1 w1 => ?_) (fun r1 e1 e v1 F1 H1 A1 B1 s1 rs1 => ?_)
  · rw [e] at q; exact q
  · rw [e] at q; exact q F1 H1 A1 s1 w1
  · rw [e] at q
    simp only [Res.bind] at q
    split at q
    · exact q.elim
    · rename_i ds' e' hq
      split at hq
      · rename_i xs ys hd
        split at hq
        · rename_i hl
          cases hq
          obtain ⟨G, s2, w2, rp⟩ := all_frz (mg := X.mg) s1 rs1 hd
          simp only [Reps, Rep] at rp
          obtain ⟨v, vs, rfl, ⟨l, us, rfl, m1, m2⟩, v', vs', rfl, ⟨l', us', rfl, m3, m4⟩, rfl⟩ := rp
          exact ⟨l, l', us, us', rfl, .of (w2.sub _ _ m1), .of (w2.sub _ _ m3), q _ G H1 A1 s2 w2 (good_zip m1 m3 m2 m4 hl)⟩
        · cases hq
      · cases hq
    · rename_i hq
      split at hq
      · split at hq <;> cases hq
      · cases hq
end DL
end
section
set_option maxRecDepth 100000
set_option maxHeartbeats 4000000
/-! dict comprehensions -/
namespace DL
open PySem PySem.Spec PyProof.Rows L2
variable [tb : Tb]
def putD (acc : List (Key × D)) (k : Key) (d : D) : List (Key × D) :=
  if (acc.any fun p => decide (p.1 = k)) = true then acc.map (fun p => if p.1 = k then (p.1, d) else p) else acc ++ [(k, d)]
def keyR (e : DEnv) (r : R) : Option Key := match resolve e r with
  | some (.int i) => some (.inl i)
  | some (.str s) => some (.inr s)
  | _ => none
def compD (tg : Tgt) (vs : List Nat) (test : M Bool) (fk elt : M R) : List D → List (Key × D) → M (List (Key × D))
  | [], acc => fun env => .ok acc env
  | d :: ds, acc => fun env => match asg tg d env with
    | none => .bad
    | some e1 => (noX (test e1)).bind fun b e2 => if b = true then (noX (fk e2)).bind fun rk e3 => (match keyR e3 rk with
        | some k => (noX (elt e3)).bind fun r e4 => (match frzR r with
          | some x => if acc.length < sizeLine then compD tg vs test fk elt ds (putD acc k x) (unE e4 vs) else .bad
          | none => .bad)
        | none => .bad)
      else compD tg vs test fk elt ds acc (unE e2 vs)
def dDc (g : M (List D)) (tg : Tgt) (vs : List Nat) (test : M Bool) (fk elt : M R) : M R := fun env => (g env).bind fun ds e => (compD tg vs test fk elt ds [] (unE e vs)).bind fun acc e2 => .ok (.own (.dK (acc.map (·.1)) (acc.map (·.2)))) (unE e2 vs)
def DRep (K : PySem.W.Frag) (F : Hp) : List (Key × D) → List (Key × V) → Prop
  | [], kvs => kvs = []
  | p :: r, kvs => ∃ v rest, kvs = (p.1, v) :: rest ∧ Rep K F p.2 v ∧ DRep K F r rest
section
variable {K : PySem.W.Frag} {F F' : Hp}
theorem DRep.same (s : Same F F') : ∀ (acc : List (Key × D)) (kvs : List (Key × V)), DRep K F acc kvs → DRep K F' acc kvs
  | [], _, h => h
  | p :: r, kvs, ⟨v, rest, e, h1, h2⟩ => ⟨v, rest, e, Rep.same s _ h1, DRep.same s r rest h2⟩
theorem DRep.len : ∀ {acc : List (Key × D)} {kvs : List (Key × V)}, DRep K F acc kvs → kvs.length = acc.length
  | [], _, h => by rw [show _ = [] from h]; rfl
  | p :: r, kvs, ⟨v, rest, e, h1, h2⟩ => by rw [e]; simp [DRep.len h2]
theorem DRep.split : ∀ {acc : List (Key × D)} {kvs : List (Key × V)}, DRep K F acc kvs → kvs = (acc.map (·.1)).zip (kvs.map (·.2)) ∧ Reps K F (acc.map (·.2)) (kvs.map (·.2))
  | [], _, h => by rw [show _ = [] from h]; exact ⟨rfl, rfl⟩
  | p :: r, kvs, ⟨v, rest, e, h1, h2⟩ => by
    subst e
    obtain ⟨a, b⟩ := DRep.split h2
    refine ⟨?_, ?_⟩
    · simp only [List.map_cons, List.zip_cons_cons]
      rw [← a]
    · simp only [List.map_cons, Reps]
      exact ⟨v, _, rfl, h1, b⟩
theorem DRep.any (k : Key) : ∀ {acc : List (Key × D)} {kvs : List (Key × V)}, DRep K F acc kvs → (kvs.any fun p => decide (p.1 = k)) = (acc.any fun p => decide (p.1 = k))
  | [], _, h => by rw [show _ = [] from h]; rfl
  | p :: r, kvs, ⟨v, rest, e, h1, h2⟩ => by
    subst e
    simp only [List.any_cons, DRep.any k h2]
theorem DRep.snoc {k : Key} {d : D} {v : V} (h : Rep K F d v) : ∀ {acc : List (Key × D)} {kvs : List (Key × V)}, DRep K F acc kvs → DRep K F (acc ++ [(k, d)]) (kvs ++ [(k, v)])
  | [], _, q => by rw [show _ = [] from q]; exact ⟨v, [], rfl, h, rfl⟩
  | p :: r, kvs, ⟨w, rest, e, h1, h2⟩ => by
    subst e
    exact ⟨w, _, rfl, h1, DRep.snoc h h2⟩
theorem DRep.upd {k : Key} {d : D} {v : V} (h : Rep K F d v) : ∀ {acc : List (Key × D)} {kvs : List (Key × V)}, DRep K F acc kvs → DRep K F (acc.map fun p => if p.1 = k then (p.1, d) else p) (kvs.map fun p => if p.1 = k then (p.1, v) else p)
  | [], _, q => by rw [show _ = [] from q]; rfl
  | p :: r, kvs, ⟨w, rest, e, h1, h2⟩ => by
    subst e
    simp only [List.map_cons]
    by_cases c : p.1 = k
    · rw [if_pos c, if_pos c]
      exact ⟨v, _, rfl, h, DRep.upd h h2⟩
    · rw [if_neg c, if_neg c]
      exact ⟨w, _, rfl, h1, DRep.upd h h2⟩
theorem DRep.put (k : Key) {d : D} {v : V} {acc : List (Key × D)} {kvs : List (Key × V)} (q : DRep K F acc kvs) (h : Rep K F d v) : DRep K F (putD acc k d) (putK kvs k v) := by
  unfold putD putK
  rw [q.any k]
  split
  · exact q.upd h
  · exact q.snoc h
theorem keyR_v {pv : Nat → Option V} {e : DEnv} {σ : L2.St} {r : R} {v : V} {H : Hp} {A : Nat → List Addr} {B : List Addr} {k : Key} (rs : RS K pv e σ r v F H A B) (h : keyR e r = some k) : v = kV k := by
  unfold keyR at h
  split at h
  · rename_i i hi
    cases h
    have hv : v = .int i := rs.rr.view rs.ws hi
    exact hv
  · rename_i s hi
    cases h
    have hv : v = .str s := rs.rr.view rs.ws hi
    exact hv
  · cases h
end
section
variable {K : PySem.W.Frag} {mg : Str → Option Value} {pv : Nat → Option V} {W : WX}
/-- the state between two turns -/
structure CSd (K : PySem.W.Frag) (pv : Nat → Option V) (σ : L2.St) (F0 H0 : Hp) (A0 : Nat → List Addr) (F1 : Hp) (Dd : Addr) (acc : List (Key × D)) (e : DEnv) (H : Hp) (F : Hp) (A : Nat → List Addr) (vs : List (Key × V)) : Prop where
  ws : WS K pv e σ F H A
  st : Step F0 H0 (UA A0) F H (fun a => UA A a ∨ a = Dd)
  sm : Same F1 F
  lst : H Dd = some (.dK vs)
  rp : DRep K F acc vs
  nA : ¬ UA A Dd
  nF : F Dd = none
theorem dDc_rd {g : M (List D)} {tg : Tgt} {vs : List Nat} {test : M Bool} {fk elt : M R} {σ : L2.St} {H : Hp} {Q : VK} (hv : ∀ j ∈ tg.vars, j ∈ vs) (q : tD K mg pv W (dDc g tg vs test fk elt) σ H Q) :
    tDc (tI K mg pv W g) (gD K pv tg) (tDT K mg pv W0 test) (tD K mg pv W0 fk) (tD K mg pv W0 elt) vs σ H Q := by
  obtain ⟨env, F, A, ws, q⟩ := tD_iff.mp q
  simp only [dDc] at q
  refine ⟨env, F, A, ws, ?_⟩
  cases e : g env with
  | bad => rw [e] at q; exact q
  | exc c e1 => rw [e] at q; exact q
  | ok ds e1 =>
    rw [e] at q
    simp only [Res.bind] at q
    intro J F1 H1 A1 s1 w1 gl Dd hD
    have wl : (wipe σ vs).length = σ.length := wipe_length σ vs
    have w1' : WS K pv (unE e1 vs) (wipe σ vs) F1 H1 (hidA A1 vs) := w1.hide wl fun i hi => wipe_out hi
    let Post : Res (List (Key × D)) → Prop := fun r => RPost K mg pv W σ Q F H A (r.bind fun acc e2 => .ok (.own (.dK (acc.map (·.1)) (acc.map (·.2)))) (unE e2 vs))
    have nDF : F1 Dd = none := Same.free w1.sub hD
    have start : CSd K pv (wipe σ vs) F H A F1 Dd [] (unE e1 vs) (upd H1 Dd (.dK [])) F1 (hidA A1 vs) [] := by
      have nw : Nw F1 H1 F1 (upd H1 Dd (.dK [])) [Dd] := Nw.put hD w1.sub
      refine ⟨w1'.nw nw (same_put hD w1.sub), ?_, Same.refl _, upd_same, rfl, fun h => ?_, nDF⟩
      · have n3 : Step F1 H1 (UA A1) F1 (upd H1 Dd (.dK [])) (fun a => a ∈ [Dd] ∨ UA A1 a) := (nw.frame (UA A1)).more (P2 := UA A1) fun x hx => hx.elim False.elim id
        exact (s1.trans n3).less fun a ha => ha.elim (fun h => .inr (hidA_sub h)) fun h => .inl (by simp [h])
      · exact w1.there (hidA_sub h) hD
    refine ⟨fun i m H2 => m = ds.length - i ∧ i ≤ ds.length ∧ ∃ acc e2 F2 A2 us, CSd K pv (wipe σ vs) F H A F1 Dd acc e2 H2 F2 A2 us ∧ Post (compD tg vs test fk elt (ds.drop i) acc e2), ⟨ds.length, rfl, Nat.zero_le _, [], _, _, _, _, start, q⟩, ?_⟩
    rintro i m H2 ⟨rfl, hi, acc, e2, F2, A2, us, c2, q2⟩
    by_cases hlt : i < ds.length
    · have hd : ds[i]? = some ds[i] := List.getElem?_eq_getElem hlt
      rw [List.drop_eq_getElem_cons hlt] at q2
      simp only [compD] at q2
      obtain ⟨go, yl⟩ := gl.item F2 H2 i _ c2.sm c2.ws.sub hd
      let Nx : Hp → Prop := fun H' => ds.length - (i + 1) < ds.length - i ∧ i + 1 ≤ ds.length ∧ ∃ acc e2 F2 A2 us, CSd K pv (wipe σ vs) F H A F1 Dd acc e2 H' F2 A2 us ∧ Post (compD tg vs test fk elt (ds.drop (i + 1)) acc e2)
      refine .inr ⟨go, Nx, fun H' ⟨h1, h2, h3⟩ => ⟨_, h1, rfl, h2, h3⟩, fun x H3 y => ?_⟩
      obtain ⟨F3, n3, sub3, r3⟩ := yl x H3 y
      have w3 := c2.ws.nw n3 sub3
      have hD3 : H3 Dd = some (.dK us) := n3.keep _ _ c2.lst (fun ps z => by cases z) fun z => z
      have nF3 : F3 Dd = none := by
        apply Classical.byContradiction
        intro z
        rcases n3.new Dd z with h | h | h
        · exact h c2.nF
        · rw [c2.lst] at h; cases h
        · exact h
      have st3 : Step F H (UA A) F3 H3 (fun a => UA A2 a ∨ a = Dd) :=
        c2.st.trans ((n3.frame (fun a => UA A2 a ∨ a = Dd)).more (P2 := fun a => UA A2 a ∨ a = Dd) (fun x hx => hx.elim False.elim id) |>.less fun x hx => .inr hx)
      refine ⟨e2, F3, A2, ds[i], w3, r3, ?_⟩
      cases ea : asg tg ds[i] e2 with
      | none => rw [ea] at q2; exact q2.elim
      | some e3 =>
        rw [ea] at q2
        simp only at q2
        intro σ4 A4 w4 u4 k4
        have l4 : σ4.length = σ.length := by
          have := w4.len
          have h2 := c2.ws.len
          have : e3.length = e2.length := by
            clear q2 w4
            have key : ∀ (t : Tgt) (d : D) (e e' : DEnv), asg t d e = some e' → e'.length = e.length := by
              intro t
              apply Tgt.rec (motive_1 := fun t => ∀ (d : D) (e e' : DEnv), asg t d e = some e' → e'.length = e.length) (motive_2 := fun ts => ∀ (ds : List D) (e e' : DEnv), asgs ts ds e = some e' → e'.length = e.length)
              · intro i d e e' h
                simp only [asg] at h
                split at h
                · cases h; simp
                · cases h
              · intro l ih d e e' h
                cases d <;> simp only [asg] at h <;> first | contradiction | exact ih _ _ _ h
              · intro ds e e' h
                cases ds with
                | nil => simp only [asgs] at h; cases h; rfl
                | cons _ _ => simp [asgs] at h
              · intro t ts ih1 ih2 ds e e' h
                cases ds with
                | nil => simp [asgs] at h
                | cons d ds =>
                  simp only [asgs] at h
                  split at h
                  · rename_i e1 h1
                    rw [ih2 _ _ _ h, ih1 _ _ _ h1]
                  · cases h
            exact key _ _ _ _ ea
          omega
        have k4' : ∀ j, j ∉ vs → σ4[j]? = σ[j]? := fun j hj => by rw [k4 j fun h => hj (hv j h), wipe_out hj]
        have hw : wipe σ4 vs = wipe σ vs := wipe_eq l4 k4'
        refine ⟨hw, ?_⟩
        have keepD : ∀ {F5 H5 : Hp} {A5 : Nat → List Addr} {P5 : Addr → Prop}, Step F3 H3 (UA A4) F5 H5 P5 → (∀ a, UA A5 a → P5 a) → H5 Dd = some (.dK us) ∧ F5 Dd = none ∧ ¬ UA A5 Dd := fun {F5 H5 A5 P5} s5 sub5 => by
          have n4 : ¬ UA A4 Dd := fun h => c2.nA (u4 _ h)
          refine ⟨s5.keep _ _ hD3 (fun ps z => by cases z) n4, ?_, fun h => ?_⟩
          · apply Classical.byContradiction
            intro z
            rcases s5.new Dd z with h | h | h
            · exact h nF3
            · rw [hD3] at h; cases h
            · exact n4 h
          · rcases s5.own Dd (sub5 _ h) with h | h
            · exact n4 h
            · rw [hD3] at h; cases h
        have stW : ∀ {F5 H5 : Hp} {A5 : Nat → List Addr}, Step F3 H3 (UA A4) F5 H5 (UA A5) → Step F H (UA A) F5 H5 (fun a => UA A5 a ∨ a = Dd) := fun {F5 H5 A5} s5 =>
          (st3.less fun a ha => ha.imp_left (u4 a)).trans (s5.frame fun a => a = Dd)
        have usl : ∀ {F5 : Hp}, Same F3 F5 → DRep K F5 acc us := fun {F5} s5 => DRep.same s5 _ _ (DRep.same n3.fz _ _ c2.rp)
        refine tDT_bind w4 (fun e => ?_) (fun c e5 e F5 H5 A5 s5 w5 => ?_) (fun b e5 e F5 H5 A5 s5 w5 => ?_)
        · rw [e] at q2; exact q2
        · rw [e] at q2; exact q2.elim
        · rw [e] at q2
          simp only [noX, Res.bind] at q2
          cases b with
          | false =>
            simp only [Bool.false_eq_true, if_false] at q2 ⊢
            obtain ⟨h1, h2, h3⟩ := keepD s5 fun _ h => h
            refine ⟨by omega, hlt, acc, unE e5 vs, F5, hidA A5 vs, us, ⟨w5.hide (by rw [l4, wl]) fun j hj => by rw [wipe_out hj, k4' j hj], (stW s5).less fun a ha => ha.imp_left hidA_sub, c2.sm.trans (n3.fz.trans s5.fz), h1, usl s5.fz, fun h => h3 (hidA_sub h), h2⟩, q2⟩
          | true =>
            simp only [if_true] at q2 ⊢
            refine tD_bind w5 (fun e => ?_) (fun c e6 e F6 H6 A6 s6 w6 => ?_) (fun rk ek e vk Fk Hk Ak Bk sk rsk => ?_)
            · rw [e] at q2; exact q2
            · rw [e] at q2; exact q2.elim
            · rw [e] at q2
              simp only [noX] at q2
              cases hk : keyR ek rk with
              | none => simp only [hk] at q2; exact q2.elim
              | some k =>
                simp only [hk] at q2
                have hvk := keyR_v rsk hk
                have s5k := s5.trans sk
                refine tD_bind rsk.ws (fun e => ?_) (fun c e6 e F6 H6 A6 s6 w6 => ?_) (fun r e6 e v6 F6 H6 A6 B6 s6 rs6 => ?_)
                · rw [e] at q2; exact q2
                · rw [e] at q2; exact q2.elim
                · rw [e] at q2
                  simp only [noX] at q2
                  cases hf : frzR r with
                  | none => simp only [hf] at q2; exact q2.elim
                  | some x =>
                    simp only [hf] at q2
                    have s56 := (s5k.trans (s6.frame fun a => a ∈ Bk)).less (P2 := fun a => UA A6 a ∨ a ∈ B6) fun x hx => .inl hx
                    obtain ⟨G, g1, g2, g3⟩ := frz_one s56 rs6 hf
                    obtain ⟨h1, h2, h3⟩ := keepD g1 fun _ h => h
                    by_cases hz : acc.length < sizeLine
                    · rw [if_pos hz] at q2
                      have ul : us.length = acc.length := (usl (Same.refl _)).len
                      refine ⟨us, k, hvk, h1, by rw [ul]; exact hz, by omega, hlt, putD acc k x, unE e6 vs, G, hidA A6 vs, putK us k v6, ?_, q2⟩
                      have hne : ∀ a o, G a = some o → a ≠ Dd := fun a o h z => by rw [z, h2] at h; cases h
                      have sub' : Same G (upd H6 Dd (.dK (putK us k v6))) := fun a o h => by rw [upd_ne (hne a o h)]; exact g2.sub _ _ h
                      refine ⟨?_, ?_, c2.sm.trans (n3.fz.trans g1.fz), upd_same, (usl g1.fz).put k g3, fun h => h3 (hidA_sub h), h2⟩
                      · refine WS.hide (σ := σ4) (g2.stay (Same.refl _) sub' (fun b hb u hu => ?_) (fun b hb => g2.disU hb) (TbsOk.mut (by rw [h1]; exact trivial))) (by rw [l4, wl]) fun j hj => by rw [wipe_out hj, k4' j hj]
                        rw [upd_ne (fun (z : b = Dd) => h3 (by rw [← z]; exact hb))]; exact hu
                      · refine (stW g1).trans (P2 := fun a => UA (hidA A6 vs) a ∨ a = Dd) ⟨Same.refl _, fun a o h _ n => ?_, TbsOk.mut (by rw [h1]; exact trivial), fun a h => .inl h, fun a h => ?_, fun a ha => .inl (ha.imp_left hidA_sub)⟩
                        · rw [upd_ne fun z => n (.inr z)]; exact h
                        · by_cases z : a = Dd
                          · subst z; rw [upd_same] at h; cases h
                          · rw [upd_ne z] at h; exact h
                    · rw [if_neg hz] at q2
                      exact q2.elim
    · have : ds.drop i = [] := List.drop_eq_nil_of_le (by omega)
      rw [this] at q2
      simp only [compD] at q2
      refine .inl ⟨gl.stop F2 H2 i c2.sm c2.ws.sub (by omega), ?_⟩
      have w5 : WS K pv (unE e2 vs) σ F2 H2 (hidA A2 vs) := c2.ws.hide (by rw [wl]) fun j hj => by rw [wipe_out hj]
      refine q2 (.ref Dd) F2 H2 (hidA A2 vs) [Dd] (c2.st.less fun a ha => ha.elim (fun h => .inl (hidA_sub h)) fun h => .inr (by simpa using h)) ⟨w5, ?_, by simp, fun a ha hu => ?_, fun a ha => ?_⟩
      · show Own K F2 H2 (.dK (acc.map (·.1)) (acc.map (·.2))) (.ref Dd) [Dd]
        unfold Own
        obtain ⟨p1, p2⟩ := c2.rp.split
        exact ⟨Dd, us.map (·.2), rfl, rfl, by rw [← p1]; exact c2.lst, by simp, p2⟩
      · simp only [List.mem_singleton] at ha
        subst ha
        exact c2.nA (hidA_sub hu)
      · simp only [List.mem_singleton] at ha
        subst ha
        exact c2.nF
end
section
variable {X : Cx} {pv : Nat → Option V} {W : WX} {g : M (List D)} {tg : Tgt} {test : M Bool} {fk f : M R} {kx vx t iter : Expr} {ifs : List Expr} {scope : Scope} {own : List (Str × Nat)} {pos : Pos}
theorem de_dc (hc : X.calm = true) (hN : X.N.Nodup) (hi : PI X t iter (tI X.K X.mg pv W g)) (ok : BlkOk X.N X.env.scope scope own) (hv : ∀ j ∈ tg.vars, j ∈ own.map (·.2))
    (hg : ∀ (s : Shared) (H : Hp) (C : Addr) (cl : List (Str × Addr)) (fp : List Addr), PG (X.blk s H scope (compEnvC scope cl C X.env) fp) t (gD X.K pv tg))
    (ht : ∀ (s : Shared) (H : Hp) (C : Addr) (cl : List (Str × Addr)) (fp : List Addr), PTs (X.blk s H scope (compEnvC scope cl C X.env) fp) ifs (tDT X.K X.mg pv W0 test))
    (hk : ∀ (s : Shared) (H : Hp) (C : Addr) (cl : List (Str × Addr)) (fp : List Addr), PE (X.blk s H scope (compEnvC scope cl C X.env) fp) kx (tD X.K X.mg pv W0 fk))
    (he : ∀ (s : Shared) (H : Hp) (C : Addr) (cl : List (Str × Addr)) (fp : List Addr), PE (X.blk s H scope (compEnvC scope cl C X.env) fp) vx (tD X.K X.mg pv W0 f)) (hs : ∀ x, foldedSetIterable iter X.env x = pure x := by intro _; rfl) :
    PE X (.DictComp kx vx [⟨t, iter, ifs, 0⟩] scope pos) (tD X.K X.mg pv W (dDc g tg (own.map (·.2)) test fk f)) :=
  (pe_dc hc hN hi ok hg ht hk he hs).imp fun _ _ _ q => dDc_rd hv q
end
end DL
end
section
set_option maxRecDepth 100000
set_option maxHeartbeats 4000000
namespace L2
open PySem PySem.Spec PyProof.Rows
section
variable {X : Cx}
/-- y = {k: v for ..} -/
theorem ps_setDc {i : Nat} {y : Str} {py : Pos} {kx vx tg iter : Expr} {ifs : List Expr} {scope : Scope} {own : List (Str × Nat)} {pos spos : Pos} {wi : TI} {g : TG} {tt : TT} {tk tv : TE} (hc : X.calm = true) (hN : X.N.Nodup) (hy : X.N[i]? = some y) (hyl : X.env.scope.names.lookup y = some .local)
    (hsw : swapsWith (.DictComp kx vx [⟨tg, iter, ifs, 0⟩] scope pos) (some (.Name y py)) spos.line X.env = pure true) (hi : PI X tg iter wi) (ok : BlkOk X.N X.env.scope scope own)
    (hg : ∀ (s : Shared) (H : Hp) (C : Addr) (cl : List (Str × Addr)) (fp : List Addr), PG (X.blk s H scope (compEnvC scope cl C X.env) fp) tg g)
    (ht : ∀ (s : Shared) (H : Hp) (C : Addr) (cl : List (Str × Addr)) (fp : List Addr), PTs (X.blk s H scope (compEnvC scope cl C X.env) fp) ifs tt)
    (hk : ∀ (s : Shared) (H : Hp) (C : Addr) (cl : List (Str × Addr)) (fp : List Addr), PE (X.blk s H scope (compEnvC scope cl C X.env) fp) kx tk)
    (he : ∀ (s : Shared) (H : Hp) (C : Addr) (cl : List (Str × Addr)) (fp : List Addr), PE (X.blk s H scope (compEnvC scope cl C X.env) fp) vx tv) (hs : ∀ x, foldedSetIterable iter X.env x = pure x) :
    PS X (.Assign [.Name y py] (.DictComp kx vx [⟨tg, iter, ifs, 0⟩] scope pos) spos) (tAsg (tDc wi g tt tk tv (own.map (·.2))) (gName i)) := by
  refine ⟨fun pins s σ H E I h => ?_⟩
  rw [exec_Assign_Name_used _ _ _ _ hsw]
  refine wpAny_bind (wpAny_standAt (wpAny_bind ?_))
  show wpAny _ X.A (do let _ ← comprehension (.DictComp kx vx [⟨tg, iter, ifs, 0⟩] scope pos) scope X.env (firstIterPos [⟨tg, iter, ifs, 0⟩] pos) newDict false (eval iter X.env) (some (assign (.Name y py) X.env))) _ _ s
  have h : tDc wi g tt tk tv (own.map (·.2)) σ H (fun x H1 => gName i x σ H1 E.nx) := h
  refine wpAny_bind (thn (dc_core (Qf := fun _ s' => SP X pins E .next s') hc hN I hi ok hg ht hk he hs h fun L C s' m H' I' q hn f => ?_) fun _ s' hq => wpAny_pure (wpAny_pure hq))
  show wpAny _ _ (assign (.Name y py) X.env (.ref L)) _ _ _
  refine wpAny_assign_Name (store_ok2 (v := V.ref L) I' hN hy (.inl hyl) rfl (fun s2 I2 ⟨a, sb, ha⟩ => ?_) (.inr hyl))
  obtain ⟨g0, g1, g2, g3, g4, g5⟩ := f
  have ne : C ≠ a := by
    rcases ha with z | z
    · rw [z]; exact g1
    · exact fun e => g4 y a z e.symm
  exact ⟨m, hn.sameBut sb ne, fun h3 sb3 => ⟨_, H', I2.turned (t' := s2.toks) (fun b o hb e => (sb3.2 b hb).trans e) g0 g1 g3 g4 g5, q⟩⟩
end
end L2
namespace DL
open PySem PySem.Spec PyProof.Rows L2
variable [tb : Tb]
section
variable {X : Cx} {pv : Nat → Option V} {W : WX} {g : M (List D)} {tg : Tgt} {test : M Bool} {fk f : M R} {kx vx t iter : Expr} {ifs : List Expr} {scope : Scope} {own : List (Str × Nat)} {pos : Pos}
theorem ds_setDc (h : How) {i : Nat} {y : Str} {py spos : Pos} (hc : X.calm = true) (hN : X.N.Nodup) (hy : X.N[i]? = some y) (hyl : X.env.scope.names.lookup y = some .local)
    (hsw : swapsWith (.DictComp kx vx [⟨t, iter, ifs, 0⟩] scope pos) (some (.Name y py)) spos.line X.env = pure true) (hi : PI X t iter (tI X.K X.mg pv W g)) (ok : BlkOk X.N X.env.scope scope own) (hv : ∀ j ∈ tg.vars, j ∈ own.map (·.2))
    (hg : ∀ (s : Shared) (H : Hp) (C : Addr) (cl : List (Str × Addr)) (fp : List Addr), PG (X.blk s H scope (compEnvC scope cl C X.env) fp) t (gD X.K pv tg))
    (ht : ∀ (s : Shared) (H : Hp) (C : Addr) (cl : List (Str × Addr)) (fp : List Addr), PTs (X.blk s H scope (compEnvC scope cl C X.env) fp) ifs (tDT X.K X.mg pv W0 test))
    (hk : ∀ (s : Shared) (H : Hp) (C : Addr) (cl : List (Str × Addr)) (fp : List Addr), PE (X.blk s H scope (compEnvC scope cl C X.env) fp) kx (tD X.K X.mg pv W0 fk))
    (he : ∀ (s : Shared) (H : Hp) (C : Addr) (cl : List (Str × Addr)) (fp : List Addr), PE (X.blk s H scope (compEnvC scope cl C X.env) fp) vx (tD X.K X.mg pv W0 f)) (hs : ∀ x, foldedSetIterable iter X.env x = pure x := by intro _; rfl) :
    PS X (.Assign [.Name y py] (.DictComp kx vx [⟨t, iter, ifs, 0⟩] scope pos) spos) (sD X.K X.mg pv W (sSet h i (dDc g tg (own.map (·.2)) test fk f))) :=
  (ps_setDc hc hN hy hyl hsw hi ok hg ht hk he hs).imp fun _ _ _ q => dDc_rd hv (sSet_rd q)
end
end DL
end
section
set_option maxRecDepth 100000
set_option maxHeartbeats 1000000
namespace DL
open PySem PySem.Spec PyProof.Rows L2
variable [tb : Tb]
/-! ### in: a dict -/
def rInK (neg : Bool) : R2 := fun x y H Q => ∃ a kvs k, x = kV k ∧ y = .ref a ∧ H a = some (.dK kvs) ∧ Q (.bl (if neg then !(valV kvs k).isSome else (valV kvs k).isSome)) H
theorem op_inK {X : Cx} (hu : X.A.units + 1 < cLine) : OpR X (compareOp .In) (rInK false) := by
  rintro pins s σ H x y v u Q I rx ry ⟨a, kvs, k, rfl, rfl, h, q⟩
  obtain rfl : u = Value.ref a := ry
  exact d_in hu I (DGet.k h) rx fun s' I' => ⟨.bl _, H, I', rfl, q⟩
theorem op_notInK {X : Cx} (hu : X.A.units + 1 < cLine) : OpR X (compareOp .NotIn) (rInK true) := by
  rintro pins s σ H x y v u Q I rx ry ⟨a, kvs, k, rfl, rfl, h, q⟩
  obtain rfl : u = Value.ref a := ry
  exact d_notIn hu I (DGet.k h) rx fun s' I' => ⟨.bl _, H, I', rfl, q⟩
def keyD : D → Option Key
  | .int i => some (.inl i)
  | .str s => some (.inr s)
  | _ => none
def hasK (ks : List Key) (k : Key) : Bool := ks.any fun z => decide (z = k)
def hInK (neg : Bool) : D → D → Option R := fun d e => match keyD d, e with
  | some k, .dct ks _ => some (.val (.bl (if neg then !hasK ks k else hasK ks k)))
  | _, _ => none
theorem zip_any (k : Key) {ks : List Key} {vs : List V} (h : ks.length = vs.length) : (valV (ks.zip vs) k).isSome = hasK ks k := by
  rw [← valV_any]
  unfold hasK
  induction ks generalizing vs with
  | nil => simp
  | cons a ks ih =>
    cases vs with
    | nil => cases h
    | cons v vs =>
      simp only [List.zip_cons_cons, List.any_cons]
      rw [ih (by simpa using h)]
theorem ov_inK {K : PySem.W.Frag} (neg : Bool) : OpV K (rInK neg) (hInK neg) := fun F H d1 d2 v1 v2 ro Q s a b e q => by
  unfold hInK at e
  split at e
  · rename_i k ks ds hk
    cases e
    obtain ⟨c, vs, rfl, h1, h2, h3⟩ := b
    have hv : v1 = kV k := by
      cases d1 <;> simp [keyD] at hk <;> subst hk <;> exact a
    refine ⟨c, _, k, hv, rfl, h1, ?_⟩
    rw [zip_any k (by rw [h2, ← h3.len])]
    exact q.flat s rfl
  · cases e
def hIn2 (neg : Bool) : D → D → Option R := hOr (hIn neg) (hInK neg)
theorem cr_in2 {X : Cx} {k : Nat} (hr : Room k X.A) : CmpR X .In (hIn2 false) := ⟨_, ((op_inD (by have := hr.un; omega)).or (op_inT (by have := hr.un; omega)) |>.or op_in_sign).or (op_inK (by have := hr.un; omega)), ((ov_inL.or (ov_inT false)).or ov_inS).or (ov_inK false)⟩
theorem cr_notin2 {X : Cx} {k : Nat} (hr : Room k X.A) : CmpR X .NotIn (hIn2 true) := ⟨_, ((op_notInD (by have := hr.un; omega)).or (op_notInT (by have := hr.un; omega)) |>.or op_notIn_sign).or (op_notInK (by have := hr.un; omega)), ((ov_notInL.or (ov_inT true)).or ov_notInS).or (ov_inK true)⟩
@[simp] theorem ev_in2l {n : Bool} {d : D} {l : List D} : hIn2 n d (.lst l) = hIn n d (.lst l) := by
  unfold hIn2 hOr
  split
  · rename_i h; exact h.symm
  · rename_i h
    rw [h]
    unfold hInK
    split
    · rename_i h2; cases h2
    · rfl
@[simp] theorem ev_in2k {n : Bool} {i : Int} {ks : List Key} {ds : List D} : hIn2 n (.int i) (.dct ks ds) = some (.val (.bl (if n then !hasK ks (.inl i) else hasK ks (.inl i)))) := by
  have e : hIn n (.int i) (.dct ks ds) = none := by
    unfold hIn hOr hInL hInT hInS
    cases h : D.pys ds with
    | none => simp [D.py, h]
    | some p => simp [D.py, h]
  unfold hIn2 hOr
  rw [e]
  rfl
end DL
end
section
set_option maxRecDepth 100000
set_option maxHeartbeats 3200000
namespace L2
open PySem PySem.Spec PyProof.Rows
/-! ### set(xs) of a list of ints -/
abbrev fsO (w : World) : Obj := { cls := .type "set", dict := none, data := .set #[] 0 (.fresh 0 0 (!w.params.followText "set-order")) }
section
variable {P : Program} {w : World} {A : Around} {E : Value → Shared → Prop} {s : Shared}
theorem set_init {l : Addr} {items : Array Value} (ns : List Int) (hh : A.handled = none) (hl : s.heap.IsList l items) (hit : IntsAre items.toList ns) (hb : ns.length + 1 < scanBound) {R : Fin → Shared → Prop}
    (h : ∀ (h' : Heap) (tk c : Nat), SetR w h' s.heap.objs.size (fun j => decide (j ∈ ns)) c → c ≤ ns.length → (∀ b o, s.heap.get? b = some o → h'.get? b = some o) → R (.done (.ret .none)) { s with heap := h', toks := tk }) :
    wpAny (model P w) A.in1.in1 (Builtin.«set.__init__» ⟨[.ref s.heap.objs.size, .ref l], []⟩) R E { s with heap := s.heap.push (fsO w) } := by
  have n1 : items.size = ns.length := by simpa [Array.length_toList] using IntsAre.length hit
  obtain ⟨ol, hol, hcl, nl, hdl⟩ := hl
  obtain ⟨ocls, odict, odata, oslots⟩ := ol
  simp only at hcl hdl
  subst hcl hdl
  have ho2 : (s.heap.push (fsO w)).get? l = some { cls := .type "list", dict := odict, data := .seq items nl, slots := oslots } := Heap.get?_push_of_some _ hol
  have c1 := F.sub_list_set
  have c2 := F.sub_list_frozenset
  have c3 : (Value.type "list" == Value.type "dict") = false := by decide
  have hl1 : (s.heap.push (fsO w)).IsList l items := ⟨_, ho2, rfl, nl, rfl⟩
  have hS : (s.heap.push (fsO w)).get? s.heap.objs.size = some (fsO w) := Heap.get?_push_size _ rfl
  have lS : l < s.heap.objs.size := Heap.lt_size hol
  have sz : (s.heap.push (fsO w)).objs.size = s.heap.objs.size + 1 := Heap.size_push ..
  unfold Builtin.«set.__init__» noKeywords Builtin.Frozenset.updateFrom
  generalize hPI : pyIter = PI
  wp_walk
  subst hPI
  refine wpAny_pyIter_list hl1 (wpAny_bind (wpAny_runValue ?_))
  have h3 : A.in1.in1.in1.handled = none := by simp [hh]
  have nI : l ≠ (s.heap.push (fsO w)).objs.size := by rw [sz]; exact Nat.ne_of_lt (Nat.lt_succ_of_lt lS)
  have nS : s.heap.objs.size ∉ [(s.heap.push (fsO w)).objs.size, l] := by
    rw [sz]
    simp only [List.mem_cons, List.not_mem_nil, or_false, not_or]
    exact ⟨Nat.ne_of_lt (Nat.lt_succ_self _), Nat.ne_of_gt lS⟩
  have val : ∀ (i : Nat) (v : Value), items[i]? = some v → ∃ k t, ns[i]? = some k ∧ v = .int k t := fun i v hv => by
    have hi : i < ns.length := by rw [← n1]; exact (Array.getElem?_eq_some_iff.mp hv).1
    obtain ⟨t, e⟩ := PyProof.Rows.IntsAre.int_at hit i v (by rw [Array.getElem?_toList]; exact hv)
    exact ⟨ns[i], t, List.getElem?_eq_getElem hi, by rw [e, List.getD_eq_getElem?_getD, List.getElem?_eq_getElem hi]; rfl⟩
  refine set_update_ints ((Walks.list h3 _ l nI items).toS) s.heap.objs.size nS ns n1 hb val (items.size - 0) 0 _ (by omega) (Nat.zero_le _) ⟨⟨_, Heap.get?_push_size _ rfl, rfl, rfl⟩, hl1.push _⟩ ⟨0, Nat.le_refl 0, setR_new_at (Heap.get?_push_of_some _ hS)⟩ ?_
  intro s' c' hm hc' hS'
  obtain ⟨h', g2, d', tk', os'⟩ := s'
  obtain rfl : g2 = s.gens := hm.gens
  obtain rfl : d' = s.drawn := hm.drawn
  obtain rfl : os' = s.os := hm.os
  show wpAny _ _ _ _ E _
  refine wpAny_pure ?_
  show wpAny _ _ (ret Value.none) _ E _
  rw [n1] at hc'
  refine wpAny_pure (h h' tk' c' hS' hc' fun b o e => ?_)
  have b0 : b < s.heap.objs.size := Heap.lt_size e
  refine hm.heap b o ?_ (Heap.get?_push_of_some _ (Heap.get?_push_of_some _ e))
  rw [sz]
  simp only [List.mem_cons, List.not_mem_nil, or_false, not_or]
  exact ⟨Nat.ne_of_lt b0, Nat.ne_of_lt (Nat.lt_succ_of_lt b0)⟩
end
end L2
end
section
set_option maxRecDepth 100000
set_option maxHeartbeats 3200000
namespace L2
open PySem PySem.Spec PyProof.Rows
section
variable {P : Program} {w : World} {A : Around} {E : Value → Shared → Prop} {s : Shared}
theorem set_of_list {l : Addr} {items : Array Value} (ns : List Int) {Q : Value → Shared → Prop} (hh : A.handled = none) (hl : s.heap.IsList l items) (hit : IntsAre items.toList ns) (hb : ns.length + 1 < scanBound)
    (h : ∀ (h' : Heap) (tk c : Nat), SetR w h' s.heap.objs.size (fun j => decide (j ∈ ns)) c → c ≤ ns.length → (∀ b o, s.heap.get? b = some o → h'.get? b = some o) → Q (.ref s.heap.objs.size) { s with heap := h', toks := tk }) :
    wpAny (model P w) A (call (.type "set") [.ref l]) Q E s := by
  obtain ⟨cc, tl, hmro⟩ := F.called_set.mro
  have k1 := F.called_set.made
  have k2 := F.called_set.sub
  have k3 := F.called_set.notType
  have k4 := F.called_set.canCreate
  have k5 := F.typeCall_set_1 (.ref l)
  have k6 := F.called_set.init.lookup
  have k7 := F.called_set.init.bind (.ref s.heap.objs.size)
  refine wpAny_call (codeAny_of_tree ?_)
  show wpAny _ _ (callAny (.type "set") _) _ E s
  refine wpAny_pure ⟨Code.quiet_builtin _ (by decide +kernel), codeAny_builtin F.entry_type_call ?_⟩
  rw [Around.under_plain (weight_type_call_type "set" [.ref l] []) rfl]
  repeat (any_goals (first | wp_step | assumption))
  refine codeAny_mono (code_set_led1 (.ref l) (E := E) (Q₁ := fun obj t => obj = .ref s.heap.objs.size ∧ t = { s with heap := s.heap.push (fsO w) }) ⟨rfl, rfl⟩) fun r t hr => ?_
  cases r with
  | error e => exact hr
  | ok fl =>
    cases fl with
    | ret obj =>
      obtain ⟨rfl, rfl⟩ := hr
      have hT : Shared.TypeIs { s with heap := s.heap.push (fsO w) } (.ref s.heap.objs.size) "set" := ⟨_, Heap.get?_push_size _ rfl, rfl⟩
      repeat (any_goals (first | wp_step | assumption))
      refine codeAny_mono (codeAny_call_builtin (R := wants (fun r t => r = .none ∧ ∃ h' tk c, t = { s with heap := h', toks := tk } ∧ SetR w h' s.heap.objs.size (fun j => decide (j ∈ ns)) c ∧ c ≤ ns.length ∧ (∀ b o, s.heap.get? b = some o → h'.get? b = some o)) E)
        F.called_set.init.plain F.entry_set_init (check_set_init_1 hT (set_init ns hh hl hit hb fun h' tk c a1 a2 a3 => ⟨rfl, h', tk, c, rfl, a1, a2, a3⟩))) fun r2 t2 hr2 => ?_
      cases r2 with
      | error e => exact hr2
      | ok fl2 =>
        cases fl2 with
        | ret r =>
          obtain ⟨rfl, h', tk, c', rfl, a1, a2, a3⟩ := hr2
          repeat (any_goals (first | wp_step | assumption))
          exact h _ _ _ a1 a2 a3
        | _ => exact hr2.elim
    | _ => exact hr.elim
end
end L2
end
section
set_option maxRecDepth 100000
set_option maxHeartbeats 1000000
namespace DL
open PySem PySem.Spec PyProof.Rows L2
variable [tb : Tb]
/-! ### len(set(xs)), sorted(set(xs)): xs a list of ints -/
def dd : List Int → List Int
  | [] => []
  | x :: l => if x ∈ dd l then dd l else x :: dd l
theorem dd_mem {k : Int} : ∀ {l : List Int}, k ∈ dd l ↔ k ∈ l
  | [] => Iff.rfl
  | x :: l => by
    unfold dd
    have ih := dd_mem (k := k) (l := l)
    split
    · rename_i h
      rw [ih, List.mem_cons]
      refine ⟨.inr, fun q => q.elim (fun e => ?_) id⟩
      subst e
      exact dd_mem.mp h
    · rw [List.mem_cons, List.mem_cons, ih]
theorem dd_nodup : ∀ l : List Int, (dd l).Nodup
  | [] => List.nodup_nil
  | x :: l => by
    unfold dd
    split
    · exact dd_nodup l
    · rename_i h
      exact List.nodup_cons.mpr ⟨h, dd_nodup l⟩
def sdd (l : List Int) : List Int := (dd l).mergeSort fun a b => decide (a ≤ b)
theorem sdd_perm (l : List Int) : (sdd l).Perm (dd l) := List.mergeSort_perm _ _
theorem sdd_mem {k : Int} {l : List Int} : k ∈ sdd l ↔ k ∈ l := by rw [(sdd_perm l).mem_iff, dd_mem]
theorem sdd_sorted (l : List Int) : (sdd l).Pairwise (· < ·) := by
  refine L2.lt_of_le_nodup _ ?_ ((sdd_perm l).nodup_iff.mpr (dd_nodup l))
  have h := List.pairwise_mergeSort (le := fun a b : Int => decide (a ≤ b)) (fun a b c h1 h2 => by simp at h1 h2 ⊢; omega) (fun a b => by simp; omega) (dd l)
  exact h.imp fun h => by simpa using h
theorem inc_eq : ∀ {l m : List Int}, l.Pairwise (· < ·) → m.Pairwise (· < ·) → (∀ k, k ∈ l ↔ k ∈ m) → l = m
  | [], [], _, _, _ => rfl
  | [], y :: m, _, _, h => nomatch (h y).mpr List.mem_cons_self
  | x :: l, [], _, _, h => nomatch (h x).mp List.mem_cons_self
  | x :: l, y :: m, h1, h2, h => by
    obtain ⟨a1, a2⟩ := List.pairwise_cons.mp h1
    obtain ⟨b1, b2⟩ := List.pairwise_cons.mp h2
    have e : x = y := by
      rcases List.mem_cons.mp ((h x).mp List.mem_cons_self) with z | z
      · exact z
      · rcases List.mem_cons.mp ((h y).mpr List.mem_cons_self) with w | w
        · exact w.symm
        · have := a1 _ w
          have := b1 _ z
          omega
    subst e
    rw [inc_eq a2 b2 fun k => ⟨fun hk => ?_, fun hk => ?_⟩]
    · rcases List.mem_cons.mp ((h k).mp (List.mem_cons_of_mem _ hk)) with z | z
      · have := a1 _ hk
        omega
      · exact z
    · rcases List.mem_cons.mp ((h k).mpr (List.mem_cons_of_mem _ hk)) with z | z
      · have := b1 _ hk
        omega
      · exact z
theorem len_of_mem {l m : List Int} (h1 : l.Nodup) (h2 : m.Nodup) (h : ∀ k, k ∈ l ↔ k ∈ m) : l.length = m.length := ((List.perm_ext_iff_of_nodup h1 h2).mpr h).length_eq
def rLenSet (K : PySem.W.Frag) : V → Hp → VK → Prop := fun x H Q => ∃ (l : Addr) (ns : List Int), x = .ref l ∧ SqL K H l (ns.map V.int) ∧ ns.length ≤ 1000 ∧ Q (.int ((dd ns).length : Nat)) H
def rSortSet (K : PySem.W.Frag) : V → Hp → VK → Prop := fun x H Q => ∃ (l : Addr) (ns : List Int), x = .ref l ∧ SqL K H l (ns.map V.int) ∧ ns.length < 64 ∧ ∀ p, H p = none → Q (.ref p) (upd H p (.lst ((sdd ns).map V.int)))
section
variable {X : Cx} {a : Expr} {ta : TE} {p p2 q pos : Pos}
theorem pe_lenSet (hg : Gl X "len") (hm : X.mg "len" = none) (hg2 : Gl X "set") (hm2 : X.mg "set" = none) (ha : PE X a ta) (hc : X.calm = true := by rfl) (na : starEach [a] X.env = (false, eval a X.env) :: starEach [] X.env := by rfl) :
    PE X (.Call (.Name "len" p) [.Call (.Name "set" p2) [a] [] q] [] pos) (fun σ H Q => ta σ H fun x H1 => rLenSet X.K x H1 Q) := by
  refine ⟨fun pins s σ H Q I h => Call_ (ld_blt I hg hm boot_len (PyProof.Rows.callWith_builtin1 (PyProof.Rows.args_cons ?_ rfl) rfl rfl))⟩
  refine Call_ (ld_blt I hg2 hm2 boot_set (PyProof.Rows.callWith_type1 (PyProof.Rows.args_cons (thn (ha.run pins s σ H _ I h) fun v s1 ⟨x, H1, I1, r1, q1⟩ => PyProof.Rows.args_nil ?_) na) na rfl))
  obtain ⟨l, ns, rfl, hq, hl, q1⟩ := q1
  cases r1
  obtain ⟨its, r, pl, hz⟩ := I1.list hq
  refine set_of_list ns (I1.ok.hd hc) pl.isList (ints_of_vals r) (by unfold scanBound; omega) fun h' tk c hS hcn hk => PyProof.Rows.args_nil ?_
  obtain ⟨o, es, ep, t, ho, hex, hd, gd, nd, mm, hb, hf, hn, _, _⟩ := hS
  have I2 : Inv X pins σ H1 { s1 with heap := h', toks := tk } := I1.kept fun b o e => hk b o e
  have e : es.size = (dd ns).length := by
    have := len_of_mem nd (dd_nodup ns) fun k => by rw [← mm k, dd_mem, decide_eq_true_eq]
    rw [List.length_map, Array.length_toList] at this
    exact this
  refine call_len_set ho hex hd hf ?_ ⟨.int (dd ns).length, H1, I2.tok _, ⟨_, by rw [e]⟩, q1⟩
  unfold scanBound at hb
  omega
theorem pe_sortSet (hg : Gl X "sorted") (hm : X.mg "sorted" = none) (hg2 : Gl X "set") (hm2 : X.mg "set" = none) (ha : PE X a ta) (hc : X.calm = true := by rfl) (na : starEach [a] X.env = (false, eval a X.env) :: starEach [] X.env := by rfl) :
    PE X (.Call (.Name "sorted" p) [.Call (.Name "set" p2) [a] [] q] [] pos) (fun σ H Q => ta σ H fun x H1 => rSortSet X.K x H1 Q) := by
  refine ⟨fun pins s σ H Q I h => Call_ (ld_blt I hg hm PyProof.Rows.boot_sorted (PyProof.Rows.callWith_builtin1 (PyProof.Rows.args_cons ?_ rfl) rfl rfl))⟩
  refine Call_ (ld_blt I hg2 hm2 boot_set (PyProof.Rows.callWith_type1 (PyProof.Rows.args_cons (thn (ha.run pins s σ H _ I h) fun v s1 ⟨x, H1, I1, r1, q1⟩ => PyProof.Rows.args_nil ?_) na) na rfl))
  obtain ⟨l, ns, rfl, hq, hl, q1⟩ := q1
  cases r1
  obtain ⟨its, r, pl, hz⟩ := I1.list hq
  refine set_of_list ns (I1.ok.hd hc) pl.isList (ints_of_vals r) (by unfold scanBound; omega) fun h' tk c hS hcn hk => PyProof.Rows.args_nil ?_
  have I2 : Inv X pins σ H1 { s1 with heap := h', toks := tk } := I1.kept fun b o e => hk b o e
  refine L2.sorted_set (s := { s1 with heap := h', toks := tk }) hS (I1.ok.hd hc) (by omega) fun s2 b out cc ms k2 g2 o2 hb ho hi hinc hmem hlen => ?_
  have e : ms = sdd ns := inc_eq hinc (sdd_sorted ns) fun k => by rw [hmem k, sdd_mem, decide_eq_true_eq]
  subst e
  have new : ObjOk X.prog X.w (upd H1 b (.lst ((sdd ns).map V.int))) s2.heap b (.lst ((sdd ns).map V.int)) := by
    refine ⟨?_, out.toList, cc, ?_, ?_⟩
    · rw [List.length_map, hlen, sizeLine_eq]; omega
    · clear ho hlen hmem hinc
      generalize sdd ns = ms at hi
      generalize out.toList = us at hi
      induction hi with
      | nil => exact .nil
      | cons n t _ ih => exact .cons ⟨t, rfl⟩ ih
    · rw [Array.toArray_toList]; exact ho
  have I3 : Inv X pins σ (upd H1 b (.lst ((sdd ns).map V.int))) s2 := I2.call' (ch := []) o2 (Un.laid k2 hb (I2.hok.fresh hb)) (I2.hok.laid k2 hb new) (by rw [g2]; exact I2.bare) (fun _ z => nomatch z)
  exact ⟨.ref b, _, I3, rfl, q1 b (I2.hok.fresh hb)⟩
end
def intsD : List D → Option (List Int)
  | [] => some []
  | .int i :: l => (intsD l).map (i :: ·)
  | _ :: _ => none
theorem intsD_map : ∀ {ds : List D} {ns : List Int}, intsD ds = some ns → ds = ns.map D.int
  | [], ns, h => by cases h; rfl
  | .int i :: l, ns, h => by
    simp only [intsD, Option.map_eq_some_iff] at h
    obtain ⟨ms, h, rfl⟩ := h
    rw [intsD_map h]; rfl
  | .non :: _, _, h | .bl _ :: _, _, h | .str _ :: _, _, h | .tup _ :: _, _, h | .lst _ :: _, _, h | .dct _ _ :: _, _, h | .rol _ :: _, _, h | .ty _ :: _, _, h => by cases h
theorem intsD_ints (ns : List Int) : intsD (ns.map D.int) = some ns := by
  induction ns with
  | nil => rfl
  | cons n ns ih => simp [intsD, ih]
theorem reps_ints {K : PySem.W.Frag} {F : Hp} : ∀ {ns : List Int} {vs : List V}, Reps K F (ns.map D.int) vs → vs = ns.map V.int
  | [], vs, h => by simpa [Reps] using h
  | n :: ns, vs, h => by
    simp only [List.map_cons, Reps] at h
    obtain ⟨v, t, rfl, h1, h2⟩ := h
    rw [reps_ints h2]
    have : v = .int n := h1
    rw [this]; rfl
theorem ints_reps {K : PySem.W.Frag} {F : Hp} : ∀ (ns : List Int), Reps K F (ns.map D.int) (ns.map V.int)
  | [] => rfl
  | n :: ns => ⟨_, _, rfl, rfl, ints_reps ns⟩
def hLenSet : D → Option R
  | .lst ds => match intsD ds with
    | some ns => if ns.length ≤ 1000 then some (.val (.int (dd ns).length)) else none
    | none => none
  | _ => none
def hSortSet : D → Option R
  | .lst ds => match intsD ds with
    | some ns => if ns.length < 64 then some (.own (.lst ((sdd ns).map D.int))) else none
    | none => none
  | _ => none
theorem ov_lenSet {K : PySem.W.Frag} : Op1V K (rLenSet K) hLenSet := fun F H d v ro Q s a e q => by
  unfold hLenSet at e
  split at e
  · rename_i ds
    split at e
    · rename_i ns hn
      split at e
      · rename_i hl
        cases e
        obtain ⟨l, vs, rfl, h1, h2⟩ := a
        rw [intsD_map hn] at h2
        rw [reps_ints h2] at h1
        exact ⟨l, ns, rfl, .of h1, hl, q.flat s rfl⟩
      · cases e
    · cases e
  · cases e
theorem ov_sortSet {K : PySem.W.Frag} : Op1V K (rSortSet K) hSortSet := fun F H d v ro Q s a e q => by
  unfold hSortSet at e
  split at e
  · rename_i ds
    split at e
    · rename_i ns hn
      split at e
      · rename_i hl
        cases e
        obtain ⟨l, vs, rfl, h1, h2⟩ := a
        rw [intsD_map hn] at h2
        rw [reps_ints h2] at h1
        exact ⟨l, ns, rfl, .of h1, hl, fun p n => q.lst s (ints_reps _) n⟩
      · cases e
    · cases e
  · cases e
section
variable {X : Cx} {pv : Nat → Option V} {W : WX} {f : M R} {a : Expr} {p p2 q pos : Pos}
theorem de_lenSet (hg : Gl X "len") (hm : X.mg "len" = none) (hg2 : Gl X "set") (hm2 : X.mg "set" = none) (ha : PE X a (tD X.K X.mg pv W f)) (hc : X.calm = true := by rfl) (na : starEach [a] X.env = (false, eval a X.env) :: starEach [] X.env := by rfl) :
    PE X (.Call (.Name "len" p) [.Call (.Name "set" p2) [a] [] q] [] pos) (tD X.K X.mg pv W (op1 hLenSet f)) := (pe_lenSet hg hm hg2 hm2 ha hc na).imp fun _ _ _ q => op1_rd ov_lenSet q
theorem de_sortSet (hg : Gl X "sorted") (hm : X.mg "sorted" = none) (hg2 : Gl X "set") (hm2 : X.mg "set" = none) (ha : PE X a (tD X.K X.mg pv W f)) (hc : X.calm = true := by rfl) (na : starEach [a] X.env = (false, eval a X.env) :: starEach [] X.env := by rfl) :
    PE X (.Call (.Name "sorted" p) [.Call (.Name "set" p2) [a] [] q] [] pos) (tD X.K X.mg pv W (op1 hSortSet f)) := (pe_sortSet hg hm hg2 hm2 ha hc na).imp fun _ _ _ q => op1_rd ov_sortSet q
end
@[simp] theorem ev_lenSet {ns : List Int} : hLenSet (.lst (ns.map D.int)) = if ns.length ≤ 1000 then some (.val (.int (dd ns).length)) else none := by simp [hLenSet, intsD_ints]
@[simp] theorem ev_sortSet {ns : List Int} : hSortSet (.lst (ns.map D.int)) = if ns.length < 64 then some (.own (.lst ((sdd ns).map D.int))) else none := by simp [hSortSet, intsD_ints]
end DL
end
section
set_option maxRecDepth 100000
set_option maxHeartbeats 1000000
/-! sorting by a key whose calls keep a state of one's own -/
namespace SJ
open PySem PySem.W PySem.Calls PyProof.Rows
section
variable {prog : Program} {w : World} {A : Around} {E : Value → Shared → Prop} {s : Shared} {a kS : Addr} {b : Bool} {vs : List Value} {kz : List PyData} {e1 : Nat} {P : PySem.Fin → Shared → Prop} {J : List Value → Shared → Prop} {f : Value}
/-- what is asked of the state J (the keys so far told by its list) -/
structure Keeps (J : List Value → Shared → Prop) (kS a : Addr) (kz : List PyData) : Prop where
  keep : ∀ ks (t : Shared) (g : Heap) (tk : Nat), J ks t → (∀ c o, c ≠ kS → c ≠ a → t.heap.get? c = some o → g.get? c = some o) → J ks { t with heap := g, toks := tk }
  rd : ∀ ks t, J ks t → ks.length = kz.length → EachIs (fun v k => ∃ as, Reads t.heap v k as) ks kz
def Turns (prog : Program) (w : World) (A : Around) (f : Value) (J : List Value → Shared → Prop) (kS a : Addr) (vs : List Value) : Prop :=
  ∀ i v ks (t : Shared) oS oa, vs[i]? = some v → ks.length = i → J ks t → t.heap.get? kS = some oS → t.heap.get? a = some oa →
    wpAny (model prog w) A (call f [v]) (fun kv t' => J (ks ++ [kv]) t' ∧ t'.heap.get? kS = some oS ∧ t'.heap.get? a = some oa) (fun _ _ => False) t
theorem rest (K : Keeps J kS a kz) (T : Turns prog w A f J kS a vs) (hka : kS ≠ a) (hlen : kz.length = vs.length) (hZ : vs.length ≤ sizeLine) (hal : AllAlike kz) (hsk : Sortable kz) (hu : ∀ d, d ∈ kz → A.units + d.depth < cLine)
    (h : ∀ ks (t : Shared) (g : Heap) tk out c, J ks t → (∀ x o, x ≠ kS → x ≠ a → t.heap.get? x = some o → g.get? x = some o) → g.get? a = some (seqObj "list" (List.toArray out) c) → KeyedOut b kz vs out → P (.done (.ret .none)) { t with heap := g, toks := tk })
    (j0 : J [] s) (nk : s.heap.get? kS = some (seqObj "list" #[] 0)) (na : s.heap.get? a = some (seqObj "list" #[] e1)) :
    wpAny (model prog w) A (ksk_rest a f b vs.toArray e1 (.ref kS)) P E s := by
  unfold ksk_rest
  refine wpAny_bind (wpAny_rule ?_)
  first
    | rw [List.forIn_toArray]
    | (rw [← Array.forIn_toList]; simp only [List.toList_toArray])
  refine wpAny_bind (ksk_fold (fun i t => ∃ (ks : List Value) (e : Nat), ks.length = i ∧ J ks t ∧ t.heap.get? kS = some (seqObj "list" ks.toArray e) ∧ t.heap.get? a = some (seqObj "list" #[] e1)) vs 0 s ⟨[], 0, rfl, j0, nk, na⟩ ?st ?dn)
  case st =>
    rintro j x t hx ⟨ks, e, hl, jt, nk', na'⟩
    simp only [Nat.zero_add] at hl ⊢
    have hj : j < vs.length := (List.getElem?_eq_some_iff.mp hx).1
    have hz : ks.toArray.size ≤ vs.length := by simp; omega
    refine wpAny_bind (wpAny_attempt (wpAny_mono (T j x ks t _ _ hx hl jt nk' na') (fun kv t' he => ?_) fun _ _ z => z.elim))
    obtain ⟨jt', nk2, na2⟩ := he
    try dsimp only
    have sb := Heap.SameBut.update t'.heap kS (Obj.mapSeq (·.push kv))
    obtain ⟨c2, hc2⟩ : ∃ c2, (t'.heap.update kS (Obj.mapSeq (·.push kv))).get? kS = some (seqObj "list" (ks.toArray.push kv) c2) := ⟨_, get?_update_seq nk2 (·.push kv)⟩
    refine wpAny_bind (listUpdate_at nk2 rfl ?_ (Nat.le_trans hz hZ) (Nat.le_trans (Nat.le_of_eq (Array.size_push ..)) (Nat.succ_le_succ (Nat.le_trans hz hZ))))
    exact wpAny_pure ⟨rfl, ks ++ [kv], c2, by simp [hl], K.keep _ _ _ t'.toks jt' fun c o n1 _ q => (sb.2 c n1).trans q, by simpa using hc2, (sb.2 a hka.symm).trans na2⟩
  case dn =>
    rintro t ⟨ks, e, hl, jt, nk', na'⟩
    rw [Nat.zero_add] at hl
    have hk := K.rd ks t jt (by omega)
    try dsimp only
    refine wpAny_bind (listItems_at nk' rfl ?_)
    obtain ⟨G, g1, g2⟩ := L2.restrict t.heap fun x => decide (x ≠ kS)
    have gk : G.get? kS = none := g2 kS (decide_eq_false fun z => z rfl)
    have gs : ∀ x o, G.get? x = some o → t.heap.get? x = some o := fun x o q => by
      by_cases hx : x = kS
      · rw [hx, gk] at q; cases q
      · rw [← g1 x (decide_eq_true hx)]; exact q
    refine keyH_end (κ := dataKind t.heap kz) (h₁ := G) (fun x o _ q => gs x o q) gk nk' na' hka (SortsAt.data (by simpa using hk) hal hsk hu) (by simp; omega) hZ fun g tk c k3 n3 => ?_
    refine h ks t g tk _ c jt (fun x o n1 n2 q => k3 x o n2 (by rw [g1 x (decide_eq_true n1)]; exact q)) n3 ⟨t.heap, ks, hal, ?_, hk⟩
    simp
theorem tree {n : Nat} (ho : s.heap.get? a = some (seqObj "list" vs.toArray n)) (K : Keeps J (s.heap.objs.size + 1) a kz) (T : Turns prog w A f J (s.heap.objs.size + 1) a vs) (hlen : kz.length = vs.length) (hZ : vs.length ≤ sizeLine) (hal : AllAlike kz) (hsk : Sortable kz) (hu : ∀ d, d ∈ kz → A.units + d.depth < cLine)
    (h : ∀ ks (t : Shared) (g : Heap) tk out c, J ks t → (∀ x o, x ≠ s.heap.objs.size + 1 → x ≠ a → t.heap.get? x = some o → g.get? x = some o) → g.get? a = some (seqObj "list" (List.toArray out) c) → KeyedOut b kz vs out → P (.done (.ret .none)) { t with heap := g, toks := tk })
    (j0 : J [] s) : wpAny (model prog w) A (ksk_tree a f b) P E s := by
  have ha : a < s.heap.objs.size := Heap.lt_size ho
  obtain ⟨e1, ho1⟩ : ∃ e1, (s.heap.update a (Obj.mapSeq fun _ => (#[] : Array Value))).get? a = some (seqObj "list" #[] e1) := ⟨_, get?_update_seq ho fun _ => #[]⟩
  have sb := Heap.SameBut.update s.heap a (Obj.mapSeq fun _ => (#[] : Array Value))
  have hkS : ((s.heap.update a (Obj.mapSeq fun _ => (#[] : Array Value))).push (seqObj "tuple" vs.toArray 0)).objs.size = s.heap.objs.size + 1 := by rw [size_push', Heap.size_update]
  unfold ksk_tree
  refine wpAny_bind (listItems_at ho rfl (wpAny_bind (listUpdate_at ho rfl ?_ (by rw [List.size_toArray]; exact hZ) (Nat.zero_le _))))
  refine wpAny_bind (seqEpoch_at ho1 rfl (wpAny_bind (wpAny_newTuple ?_ (by show vs.length ≤ _; exact hZ))))
  refine wpAny_bind (wpAny_newList (wpAny_holding ?_) (Nat.zero_le _))
  show wpAny _ _ (ksk_rest a f b vs.toArray _ (.ref ((s.heap.update a (Obj.mapSeq fun _ => (#[] : Array Value))).push (seqObj "tuple" vs.toArray 0)).objs.size)) _ _ { s with heap := ((s.heap.update a (Obj.mapSeq fun _ => (#[] : Array Value))).push (seqObj "tuple" vs.toArray 0)).push (seqObj "list" #[] 0) }
  have nk : (((s.heap.update a (Obj.mapSeq fun _ => (#[] : Array Value))).push (seqObj "tuple" vs.toArray 0)).push (seqObj "list" #[] 0)).get? (s.heap.objs.size + 1) = some (seqObj "list" #[] 0) := by
    rw [← hkS]; exact Heap.get?_push_size _ rfl
  rw [hkS]
  refine rest K T (Nat.ne_of_gt (Nat.lt_succ_of_lt ha)) hlen hZ hal hsk hu h ?_ nk (Heap.get?_push_of_some _ (Heap.get?_push_of_some _ ho1))
  exact K.keep [] s _ s.toks j0 fun c o _ n2 q => Heap.get?_push_of_some _ (Heap.get?_push_of_some _ ((sb.2 c n2).trans q))
end
end SJ
end
section
set_option maxRecDepth 100000
set_option maxHeartbeats 4000000
namespace DL
open PySem PySem.Spec PyProof.Rows L2 LamX
variable [tb : Tb]
/-! ### sorted(range(n), key=lambda a: ..), data as keys -/
noncomputable def keyF (fb : M R) (i : Nat) (e : DEnv) (d : D) : Option D := match fb (e.set i (.own (.val d))) with
  | .ok r e' => (match frzR r with
    | some k => open Classical in if e' = e.set i (.own (.val d)) then some k else none
    | _ => none)
  | _ => none
noncomputable def keysF (fb : M R) (i : Nat) (e : DEnv) : List D → Option (List D)
  | [] => some []
  | d :: ds => match keyF fb i e d, keysF fb i e ds with
    | some k, some ks => some (k :: ks)
    | _, _ => none
theorem keysF_len {fb : M R} {i : Nat} {e : DEnv} : ∀ {ds ks : List D}, keysF fb i e ds = some ks → ks.length = ds.length
  | [], ks, h => by simp only [keysF] at h; cases h; rfl
  | d :: ds, ks, h => by
    simp only [keysF] at h
    split at h
    · rename_i h1 h2
      cases h
      simp [keysF_len h2]
    · cases h
theorem keysF_at {fb : M R} {i : Nat} {e : DEnv} : ∀ {ds ks : List D} {j : Nat} {d : D}, keysF fb i e ds = some ks → ds[j]? = some d → ∃ k, ks[j]? = some k ∧ keyF fb i e d = some k
  | [], ks, j, d, h, hd => by simp at hd
  | d0 :: ds, ks, j, d, h, hd => by
    simp only [keysF] at h
    split at h
    · rename_i h1 h2
      cases h
      cases j with
      | zero => simp at hd; subst hd; exact ⟨_, rfl, h1⟩
      | succ j =>
        have hd' : ds[j]? = some d := by simpa using hd
        obtain ⟨k, h3, h4⟩ := keysF_at h2 hd'
        exact ⟨k, by simpa using h3, h4⟩
    · cases h
/-- ds in the order of the keys -/
def sortK (ds ks : List D) : List D := ((ds.zip ks).mergeSort (PySem.W.dataLe false fun p => pyD p.2)).map (·.1)
noncomputable def dSortR (f : M R) (i : Nat) (fb : M R) : M R := fun env => (f env).bind fun r e => match resolve e r with
  | some (.int n) => if 0 ≤ n ∧ n ≤ 1000 then (match e[i]? with
      | some .un => (match keysF fb i e ((List.range n.toNat).map fun j => .int (j : Nat)) with
        | some ks => (match D.pys ks with
          | some ps => open Classical in if Srtbl ps then .ok (.own (.lst (sortK ((List.range n.toNat).map fun j => .int (j : Nat)) ks))) e else .bad
          | none => .bad)
        | none => .bad)
      | _ => .bad) else .bad
  | _ => .bad
theorem each_get {α β : Type} {R : α → β → Prop} : ∀ {as : List α} {bs : List β}, as.length = bs.length → (∀ (j : Nat) x y, as[j]? = some x → bs[j]? = some y → R x y) → PySem.W.EachIs R as bs
  | [], [], _, _ => .nil
  | [], _ :: _, h, _ => by simp at h
  | _ :: _, [], h, _ => by simp at h
  | x :: as, y :: bs, h, f => .cons (f 0 x y rfl rfl) (each_get (by simpa using h) fun j a b h1 h2 => f (j + 1) a b (by simpa using h1) (by simpa using h2))
theorem each_img {α β γ : Type} {R : α → γ → Prop} (g : β → γ) : ∀ {as : List α} {bs : List β}, PySem.W.EachIs (fun a b => R a (g b)) as bs → PySem.W.EachIs R as (bs.map g)
  | [], [], .nil => .nil
  | _ :: _, _ :: _, .cons h t => .cons h (each_img g t)
section
variable {X : Cx} {pv : Nat → Option V} {W : WX} {f fb : M R} {i k : Nat} {a x : Str} {P c : Addr} {e : Expr} {params : Arguments} {body : Expr} {scope : Scope} {lpos kpos p p2 q pos : Pos}
/-- what stands while the keys are made -/
def JS (X : Cx) (pv : Nat → Option V) (pins : List (Addr × Obj)) (σ : L2.St) (e : DEnv) (F0 H0 : Hp) (A0 : Nat → List Addr) (c' S I : Addr) (q : Str) (kds : List D) (ks : List Value) (s : Shared) : Prop :=
  ∃ F H A kvs, Inv X pins σ H s ∧ WS X.K pv e σ F H A ∧ Step F0 H0 (UA A0) F H (UA A) ∧ H c' = some (CodeO c' q) ∧ FpOk X pins H S ∧ FpOk X pins H I ∧ Vals kvs ks ∧ Reps X.K F (kds.take ks.length) kvs
theorem js_turn {pins : List (Addr × Obj)} {σ : L2.St} {e0 : DEnv} {F0 H0 : Hp} {A0 : Nat → List Addr} {c' S I f' : Addr} {s : Shared} {pm ctv : Value} {d kd : D} {x : V} {v : Value} {kds : List D} {ks : List Value} {o oI : Obj} {A : Around}
    (J : JS X pv pins σ e0 F0 H0 A0 c' S I (X.env.qual ++ "<lambda>") kds ks s) (hpin : (f', PySem.W.kla_obj "<lambda>" (X.env.qual ++ "<lambda>") params body scope (cloFrom X.env.cells scope.names []) pm c' ctv) ∈ pins) (L : LamP X.env.scope scope a) (nd : X.N.Nodup) (hi : X.N[i]? = some a) (hun : e0[i]? = some .un)
    (hbind : ∀ u : Value, bindArgs (PySem.W.kla_fn "<lambda>" (X.env.qual ++ "<lambda>") params body scope (cloFrom X.env.cells scope.names []) pm (.ref c') ctv) ⟨[u], []⟩ = pure [(a, u)]) (fa : A.frames = X.A.frames) (hr : Room (k + 1) A) (gd : A.guards = some [])
    (hbody : ∀ (A : Around) (outer : List Env) (s : Shared) (H : Hp) (f c' : Addr), Room k (A.deeper (lamEnv X scope s.heap.objs.size f c')) → A.guards = some [] → PE (lamCx X A outer s H E00 scope f c') body (tD X.K X.mg pv W0 fb))
    (rx : RelV x v) (rd : Rep X.K F0 d x) (hk : keyF fb i e0 d = some kd) (hkd : kds[ks.length]? = some kd) (hS : s.heap.get? S = some o) (hI : s.heap.get? I = some oI) :
    wpAny (model X.prog X.w) A (call (.ref f') [v]) (fun kv s' => JS X pv pins σ e0 F0 H0 A0 c' S I (X.env.qual ++ "<lambda>") kds (ks ++ [kv]) s' ∧ s'.heap.get? S = some o ∧ s'.heap.get? I = some oI) (fun _ _ => False) s := by
  obtain ⟨F, H, A1, kvs, I1, w1, st1, hc, fS, fI, vk, rk⟩ := J
  have il : i < e0.length := (List.getElem?_eq_some_iff.mp hun).1
  have of' : s.heap.get? f' = some _ := (I1.pin _ (List.mem_append_right _ hpin)).1
  have rd1 : Rep X.K F d x := Rep.same st1.fz d rd
  have Ai : A1 i = [] := by
    have h := w1.slot i
    rw [hun] at h
    exact h
  have w2 : WS X.K pv (e0.set i (.own (.val d))) (σ.set i (some x)) F H (upA A1 i []) := w1.put (B := []) il ⟨x, rfl, Own.mkVal rd1⟩ List.nodup_nil (fun a ha => nomatch ha) (fun a ha => nomatch ha)
  unfold keyF at hk
  split at hk
  · rename_i r e' hfb
    split at hk
    · rename_i k' hres
      split at hk
      · rename_i hee
        cases hk
        subst hee
        refine wpAny_mono (lam_run (EE := fun _ _ => False) (Q := fun v' H' => H' c' = some (CodeO c' (X.env.qual ++ "<lambda>")) ∧ ∃ F' A', WS X.K pv e0 σ F' H' A' ∧ Step F H (UA A1) F' H' (UA A') ∧ Rep X.K F' kd v') I1 L nd hi of' hc (hbind v) fa hr (fun hr' => hbody A X.stack s H f' c' hr' gd) rx ?_) (fun kv s' hs => ?_) fun _ _ z => z
        · refine ⟨_, F, upA A1 i [], w2, ?_⟩
          rw [hfb]
          intro v' F' H' A' B s2 rs2
          have up : ∀ b, UA (upA A1 i []) b → UA A1 b := fun b hb => (UA_up hb).elim id fun z => nomatch z
          have nc : ¬ UA (upA A1 i []) c' := fun hb => by
            have z := w1.ndU (up _ hb)
            rw [hc] at z
            exact z.noCode
          obtain ⟨G, g1, g2, g3⟩ := frz_one s2 rs2 hres
          exact ⟨s2.keep _ _ hc codeO_noTb nc, G, A', g2.unset hun, g1.more up, g3⟩
        · obtain ⟨v', H', I3, r3, ⟨hc3, F', A', w3, s3, rp3⟩, kp⟩ := hs
          have nin : ∀ {b : Addr}, FpOk X pins H b → b ∉ frs X.stack := fun {b} fp hb => by
            rcases List.mem_cons.mp (I1.stkSub _ hb) with z | z
            · exact fp.2.1 z
            · exact fp.2.2.1 z
          obtain ⟨gS, nS⟩ := kp S o hS fS.1 (nin fS)
          obtain ⟨gI, nI⟩ := kp I oI hI fI.1 (nin fI)
          refine ⟨⟨F', H', A', kvs ++ [v'], I3, w3, st1.trans s3, hc3, ⟨nS, fS.2⟩, ⟨nI, fI.2⟩, vk.append (.cons r3 .nil), ?_⟩, gS, gI⟩
          have e1 : kds.take (ks ++ [kv]).length = kds.take ks.length ++ [kd] := by
            rw [List.length_append, List.length_singleton, List.take_add_one, hkd]; rfl
          rw [e1]
          exact (Reps.same s3.fz _ rk).append (.one rp3)
      · cases hk
    · cases hk
  · cases hk
theorem js_keeps {pins : List (Addr × Obj)} {σ : L2.St} {e0 : DEnv} {F0 H0 : Hp} {A0 : Nat → List Addr} {c' S I : Addr} {q : Str} {kds : List D} {ps : List PyData} (hp : D.pys kds = some ps) (hc : PyData.canLayAll0 ps = true) :
    SJ.Keeps (JS X pv pins σ e0 F0 H0 A0 c' S I q kds) S I (kds.map pyD) where
  keep := fun ks t g tk J h => by
    obtain ⟨F, H, A1, kvs, I1, w1, st1, hc, fS, fI, vk, rk⟩ := J
    refine ⟨F, H, A1, kvs, I1.turnedL (ch := [S, I]) (fun b o hb e => h b o (fun z => hb (by simp [z])) (fun z => hb (by simp [z])) e) (fun b hb => ?_), w1, st1, hc, fS, fI, vk, rk⟩
    rcases List.mem_cons.mp hb with rfl | hb
    · exact fS
    · rw [List.mem_singleton.mp hb]; exact fI
  rd := fun ks t J hl => by
    obtain ⟨F, H, A1, kvs, I1, w1, st1, _, fS, fI, vk, rk⟩ := J
    rw [List.length_map] at hl
    rw [hl, List.take_length] at rk
    exact each_img pyD (each_reads I1 w1.sub rk vk hp hc)
end
end DL
end
section
set_option maxRecDepth 100000
set_option maxHeartbeats 4000000
namespace DL
open PySem PySem.Spec PyProof.Rows L2 LamX
variable [tb : Tb]
section
variable {X : Cx} {pins : List (Addr × Obj)} {σ : L2.St} {H : Hp} {s : Shared}
/-- an untracked object of ours is tracked from now on -/
theorem track {a : Addr} {o : HO} (I : Inv X pins σ H s) (fa : FpOk X pins H a) (nt : ∀ q, o ≠ .own q) (new : ObjOk X.prog X.w (upd H a o) s.heap a o) : Inv X pins σ (upd H a o) s := by
  have hn := fa.1
  refine I.call' (ch := [a]) rfl ⟨fun b u e _ _ _ => e, fun b u e _ _ _ => ⟨u.slots, e⟩, fun b u e n nb => ?_, fun b u e _ => ⟨u, e⟩, fun b xs e => ?_, fun b u1 u2 e => ?_, fun b ps e => ⟨#[], ?_⟩⟩ (I.hok.laidN (fun _ _ e => e) hn new) I.bare (fun b hb => ?_)
  · rw [upd_ne (fun z => nb (by simp [z]))]; exact n
  · rw [upd_ne (fun z => by rw [z, hn] at e; cases e)]; exact e
  · rw [upd_ne (fun z => by rw [z, hn] at e; cases e)]; exact e
  · rw [upd_ne (fun z => by rw [z, hn] at e; cases e)]; simpa using e
  · rw [List.mem_singleton.mp hb]
    exact ⟨fa.2.2.2.1, fa.2.1, fa.2.2.2.2.1, fa.2.2.2.2.2⟩
end
section
variable {X : Cx} {pv : Nat → Option V} {W : WX} {f fb : M R} {i k : Nat} {a x : Str} {P c : Addr} {e : Expr} {params : Arguments} {body : Expr} {scope : Scope} {lpos kpos p p2 q pos : Pos}
def SortQ (X : Cx) (pv : Nat → Option V) (σ : L2.St) (fb : M R) (i : Nat) (Q : VK) : V → Hp → Prop := fun v H1 => ∃ n e' ks ps F1 A1, v = .int n ∧ 0 ≤ n ∧ n ≤ 1000 ∧ WS X.K pv e' σ F1 H1 A1 ∧ e'[i]? = some .un ∧ keysF fb i e' ((List.range n.toNat).map fun j => .int (j : Nat)) = some ks ∧ D.pys ks = some ps ∧ Srtbl ps ∧
  ∀ v F2 H2 A2 B2, Step F1 H1 (UA A1) F2 H2 (fun a => UA A2 a ∨ a ∈ B2) → RS X.K pv e' σ (.own (.lst (sortK ((List.range n.toNat).map fun j => .int (j : Nat)) ks))) v F2 H2 A2 B2 → Q v H2
theorem de_sortR (hc : X.calm = true) (hg : Gl X "sorted") (hm : X.mg "sorted" = none) (hg2 : Gl X "range") (hm2 : X.mg "range" = none) (TB : TabB X.base X.mg c P) (hcode : X.env.code = .ref c) (hmT : (P, X.env.qual ++ "<lambda>") ∈ tb.T)
    (hu : ∀ p ∈ tb.T, p.1 = P → p.2 = X.env.qual ++ "<lambda>") (hr : Room (k + 3) X.A) (gd : X.A.guards = some []) (hf : PE X e (tD X.K X.mg pv W f)) (L : LamP X.env.scope scope a) (nd : X.N.Nodup) (hi : X.N[i]? = some a) (hdef : defaultsOf params X.env = ([], []))
    (hbind : ∀ (q : Str) (cl : List (Str × Addr)) (pm cv ctv u : Value), bindArgs (PySem.W.kla_fn "<lambda>" q params body scope cl pm cv ctv) ⟨[u], []⟩ = pure [(a, u)])
    (hbody : ∀ (A : Around) (outer : List Env) (s : Shared) (H : Hp) (f c' : Addr), Room k (A.deeper (lamEnv X scope s.heap.objs.size f c')) → A.guards = some [] → PE (lamCx X A outer s H E00 scope f c') body (tD X.K X.mg pv W0 fb))
    (ns : starEach [e] X.env = (false, eval e X.env) :: starEach [] X.env := by rfl) (hs : starEach ((.Call (.Name "range" p2) [e] [] q) :: []) X.env = (false, eval (.Call (.Name "range" p2) [e] [] q) X.env) :: starEach [] X.env := by rfl)
    (he : backTo pos (starEach ((.Call (.Name "range" p2) [e] [] q) :: []) X.env) = (false, eval (.Call (.Name "range" p2) [e] [] q) X.env) :: backTo pos (starEach [] X.env) := by rfl) (hpl : (backTo pos (starEach ((.Call (.Name "range" p2) [e] [] q) :: []) X.env)).any (·.1) = false := by rfl) :
    PE X (.Call (.Name "sorted" p) [.Call (.Name "range" p2) [e] [] q] [⟨some "key", .Lambda params body scope lpos, kpos⟩] pos) (tD X.K X.mg pv W (dSortR f i fb)) := by
  refine ⟨fun pins s σ H Q I h => ?_⟩
  refine wpAny_Call_Name_kw (ld_blt I hg hm PyProof.Rows.boot_sorted ?_)
  refine PyProof.Rows.callWith_kw (env := X.env) (e := .Call (.Name "range" p2) [e] [] q) (rest := []) (kws := [⟨some "key", .Lambda params body scope lpos, kpos⟩]) ?_ he hpl (by rfl) (by rfl)
  have hA : tD X.K X.mg pv W f σ H (SortQ X pv σ fb i Q) := by
    obtain ⟨env, F, A, ws, q⟩ := h
    simp only [dSortR] at q
    refine tD_bind ws (fun e => ?_) (fun c e1 e F1 H1 A1 s1 w1 => ?_) (fun r1 e1 e v1 F1 H1 A1 B1 s1 rs1 => ?_)
    · rw [e] at q; exact q
    · rw [e] at q; exact q F1 H1 A1 s1 w1
    · rw [e] at q
      simp only [Res.bind] at q
      cases hr : resolve e1 r1 with
      | none => simp only [hr] at q
      | some d0 =>
        cases d0 with
        | int n =>
          simp only [hr] at q
          by_cases hn : 0 ≤ n ∧ n ≤ 1000
          · rw [if_pos hn] at q
            cases hu : e1[i]? with
            | none => simp only [hu] at q
            | some sl =>
              cases sl with
              | un =>
                simp only [hu] at q
                cases hk : keysF fb i e1 ((List.range n.toNat).map fun j => .int (j : Nat)) with
                | none => simp only [hk] at q
                | some ks =>
                  simp only [hk] at q
                  cases hp : D.pys ks with
                  | none => simp only [hp] at q
                  | some ps =>
                    simp only [hp] at q
                    by_cases hsr : Srtbl ps
                    · rw [if_pos hsr] at q
                      have hv : v1 = .int n := rs1.rr.view rs1.ws hr
                      exact ⟨n, e1, ks, ps, F1, A1, hv, hn.1, hn.2, rs1.ws, hu, hk, hp, hsr, fun v F2 H2 A3 B3 s2 r2 => q v F2 H2 A3 B3 ((step_drop s1).trans s2) r2⟩
                    · rw [if_neg hsr] at q; exact q.elim
              | own o => simp only [hu] at q
              | pin o => simp only [hu] at q
          · rw [if_neg hn] at q; exact q.elim
        | _ => simp only [hr] at q
  refine args_cons (Call_ (ld_blt I hg2 hm2 boot_range (PyProof.Rows.callWith_type1 (one_arg hf I hA (fun v s1 x H1 I1 r1 qq => ?_) ns) ns))) hs
  obtain ⟨n, e', ks, ps, F1, A1, rfl, n1, n2, w1, hun, hks, hps, hsr, qf⟩ := qq
  obtain ⟨tk0, rfl⟩ := r1
  refine call_range_1 (args_nil ?_)
  -- the range object stands, pinned
  have hR : (s1.heap.push { cls := .type "range", data := .fields #[.int 0 s1.toks, .int n tk0, .int 1 (s1.toks + 1)] }).get? s1.heap.objs.size = some { cls := .type "range", data := .fields #[.int 0 s1.toks, .int n tk0, .int 1 (s1.toks + 1)] } := Heap.get?_push_size _ rfl
  have nR : H1 s1.heap.objs.size = none := I1.hok.fresh (Nat.le_refl _)
  have I2 : Inv X ((s1.heap.objs.size, { cls := .type "range", data := .fields #[.int 0 s1.toks, .int n tk0, .int 1 (s1.toks + 1)] }) :: pins) σ H1 { s1 with heap := s1.heap.push { cls := .type "range", data := .fields #[.int 0 s1.toks, .int n tk0, .int 1 (s1.toks + 1)] }, toks := s1.toks + 1 + 1 } := (I1.kept (t' := s1.toks + 1 + 1) fun b u e => Heap.get?_push_of_some _ e).pins_of fun z hz => by
    rcases List.mem_cons.mp hz with rfl | hz
    · exact ⟨hR, nR, Nat.ne_of_gt I1.lt, I1.nofs (Nat.le_refl _), fun v z => by cases z⟩
    · exact (I1.kept (t' := s1.toks + 1 + 1) fun b u e => Heap.get?_push_of_some _ e).pin z (List.mem_append_right _ hz)
  generalize hro : ({ cls := .type "range", data := .fields #[.int 0 s1.toks, .int n tk0, .int 1 (s1.toks + 1)] } : Obj) = ro at hR I2 ⊢
  generalize hsr0 : ({ s1 with heap := s1.heap.push ro, toks := s1.toks + 1 + 1 } : Shared) = s1' at I2 ⊢
  generalize hra : s1.heap.objs.size = ra at hR nR I2 ⊢
  show wpAny _ _ (evalAll ((do let v ← eval (.Lambda params body scope lpos) X.env; standAt pos; pure v) :: [])) _ _ s1'
  refine wpAny_evalAll_cons (wpAny_bind ?_)
  refine lam_make3 I2 TB hcode hmT hu w1.tbs.1 hdef (L.has I2.ok) fun f' c' pm ctv G1 s2 I3 eN T1 hof hfn hfb hco => ?_
  refine wpAny_bind (wpAny_standAt (wpAny_pure (wpAny_evalAll_nil ?_)))
  show wpAny (model X.prog X.w) X.A (call (.builtin "sorted") [.ref ra] [(Str.ofString "key", .ref f')]) (EP X pins σ Q) X.xe s2
  have nP : ∀ {b : Addr} {o : HO}, F1 b = some o → b ≠ P := fun {b o} hb z => by
    rw [z, w1.tbs.2 _ hmT] at hb
    cases hb
  have sub2 : Same F1 G1 := fun b o hb => eN b o (nP hb) (w1.sub _ _ hb)
  have tq : TbsOk F1 H1 → TbsOk F1 G1 := fun t => ⟨T1, t.2⟩
  have notP : ∀ {b : Addr} {o : HO}, H1 b = some o → NoTb o → b ≠ P := fun {b o} hb nt z => by
    obtain ⟨ps, e⟩ := w1.tbs.at hmT
    rw [z] at hb
    rw [show H1 P = _ from e] at hb
    cases hb
    exact nt ps rfl
  have w2 : WS X.K pv e' σ F1 G1 A1 := w1.stay (Same.refl _) sub2 (fun b hb u hu => eN b u (notP hu (Nd.noTb (by rw [← hu]; exact w1.ndU hb))) hu) (fun b hb => w1.disU hb) tq
  have st2 : Step F1 H1 (UA A1) F1 G1 (UA A1) := by
    refine ⟨Same.refl _, fun b o hb nt _ => eN b o (notP hb nt) hb, tq, fun b hb => .inl hb, fun b hb => ?_, fun b hb => .inl hb⟩
    cases e : H1 b with
    | none => rfl
    | some o =>
      exfalso
      by_cases z : b = P
      · obtain ⟨ps, e2, _⟩ := T1 _ hmT
        rw [z, show G1 P = _ from e2] at hb
        cases hb
      · rw [eN b o z e] at hb
        cases hb
  have nL : f' ≠ X.env.locals := Nat.ne_of_gt (Nat.lt_of_lt_of_le I2.lt hfb)
  have nF : f' ∉ X.fs := I2.nofs hfb
  have I4 : Inv X ((f', PySem.W.kla_obj "<lambda>" (X.env.qual ++ "<lambda>") params body scope (cloFrom X.env.cells scope.names []) pm c' ctv) :: (ra, ro) :: pins) σ G1 s2 := I3.pins_of fun q hq => by
    rcases List.mem_cons.mp hq with rfl | hq
    · exact ⟨hof, hfn, nL, nF, fun v z => by cases z⟩
    · exact I3.pin q (List.mem_append_right _ hq)
  have hR2 : s2.heap.get? ra = some ro := (I3.pin (ra, ro) (List.mem_append_right _ List.mem_cons_self)).1
  have hR3 : IsRange s2.heap ra 0 n 1 s1.toks tk0 (s1.toks + 1) := by rw [← hro] at hR2; exact hR2
  have hun' := hr.un
  have e0 : (n - 0).toNat = n.toNat := by rw [Int.sub_zero]
  refine call_function_entry_kw kind_sorted plain_sorted entry_sorted (ksk_s1 _ _) ?_
  unfold Builtin.«sorted»
  refine wpAny_bind (m := checkCount "sorted" 1 1 _) (wpAny_pure ?_)
  refine wpAny_bind (collect_range (n := (n - 0).toNat) (I1.ok.hd hc) hR3 (small_one (by omega) (by omega) (by omega) (by omega)) (rangeSize_nat 0 n) (by omega) fun h3 tk3 acc k3 hi3 => ?_)
  have hal : acc.toList.length = n.toNat := by rw [Array.length_toList, hi3.1, e0]
  refine wpAny_bind (wpAny_newList ?_ (by rw [hal, sizeLine_eq]; omega))
  obtain ⟨c1, c2, c3, c4⟩ := hsr
  have ep := pys_eq hps
  have lk := keysF_len hks
  have lr : ((List.range n.toNat).map fun j => (D.int (j : Nat))).length = n.toNat := by simp
  have I5 : Inv X ((f', PySem.W.kla_obj "<lambda>" (X.env.qual ++ "<lambda>") params body scope (cloFrom X.env.cells scope.names []) pm c' ctv) :: (ra, ro) :: pins) σ G1 { s2 with heap := h3, toks := tk3 } := I4.kept (t' := tk3) k3
  have fa := I5.fpOk (b := h3.objs.size) (Nat.le_refl _) (I5.hok.fresh (Nat.le_refl _))
  have fk := I5.fpOk (b := h3.objs.size + 1 + 1) (Nat.le_succ_of_le (Nat.le_succ _)) (I5.hok.fresh (Nat.le_succ_of_le (Nat.le_succ _)))
  have I6 : Inv X ((f', PySem.W.kla_obj "<lambda>" (X.env.qual ++ "<lambda>") params body scope (cloFrom X.env.cells scope.names []) pm c' ctv) :: (ra, ro) :: pins) σ G1 { s2 with heap := h3.push (seqObj "list" acc.toList.toArray 0), toks := tk3 } := I5.kept (t' := tk3) fun b o q => Heap.get?_push_of_some _ q
  show wpAny _ _ _ _ _ { s2 with heap := h3.push (seqObj "list" acc.toList.toArray 0), toks := tk3 }
  generalize hs3 : ({ s2 with heap := h3.push (seqObj "list" acc.toList.toArray 0), toks := tk3 } : Shared) = s3 at I6 ⊢
  have hL : s3.heap.get? h3.objs.size = some (seqObj "list" acc.toList.toArray 0) := by rw [← hs3]; exact Heap.get?_push_size _ rfl
  have sz3 : s3.heap.objs.size = h3.objs.size + 1 := by rw [← hs3]; exact size_push' ..
  rw [← sz3] at fk
  generalize h3.objs.size = a3 at hL sz3 fa fk ⊢
  have item : ∀ (j : Nat) (v : Value), acc.toList[j]? = some v → ∃ t, v = .int (j : Nat) t := fun j v hv => by
    obtain ⟨t, e⟩ := hi3.2 j v (by rw [← hv, Array.getElem?_toList])
    exact ⟨t, by rw [e]; congr 1; omega⟩
  refine wpAny_bind (wpAny_holding (wpAny_call_entry_kw slot_list_sort ⟨_, hL, rfl⟩ entry_list_sort ?bd (ksk_l1 _ _)))
  case bd =>
    show wpAny (model X.prog X.w) X.A.in1.in1 (Builtin.«list.sort» ⟨[.ref a3], [(Str.ofString "key", .ref f')]⟩) _ _ _
    rw [ksk_t1]
    refine SJ.tree (J := JS X pv ((f', PySem.W.kla_obj "<lambda>" (X.env.qual ++ "<lambda>") params body scope (cloFrom X.env.cells scope.names []) pm c' ctv) :: (ra, ro) :: pins) σ e' F1 G1 A1 c' (s3.heap.objs.size + 1) a3 (X.env.qual ++ "<lambda>") ks) (kz := ks.map pyD) hL
      (js_keeps hps c3) (fun j v ks' t oS oa hv hl jt hS hI => ?_) (by rw [List.length_map, lk, lr, hal]) (by rw [hal, sizeLine_eq]; omega) (by rw [ep]; exact c1) (by rw [ep]; exact c2) (fun d hd => ?_) (fun ks' t g tk out cc jt hk hout ko => ?_) ?_
    · obtain ⟨tt, rfl⟩ := item j v hv
      have hj : j < n.toNat := by rw [← hal]; exact (List.getElem?_eq_some_iff.mp hv).1
      have hd : ((List.range n.toNat).map fun j => (D.int (j : Nat)))[j]? = some (.int (j : Nat)) := by simp [hj]
      obtain ⟨kd, g1, g2⟩ := keysF_at hks hd
      exact js_turn (x := .int (j : Nat)) (d := .int (j : Nat)) jt List.mem_cons_self L nd hi hun (fun u => hbind _ _ _ _ _ u) rfl (Room.in1 (Room.in1 hr)) gd hbody ⟨tt, rfl⟩ (by simp only [Rep]) g2 (by rw [hl]; exact g1) hS hI
    · rw [ep] at hd
      have := c4 _ hd
      show X.A.units + 1 + 1 + d.depth < cLine
      omega
    · obtain ⟨F, H', A', kvs, J1, J2, J3, _, fS, fI, _, _⟩ := jt
      have hz : (((List.range n.toNat).map fun j => (D.int (j : Nat))).zip ks).map (fun p => pyD p.2) = ks.map pyD := by
        have : (fun p : D × D => pyD p.2) = pyD ∘ Prod.snd := rfl
        rw [this, ← List.map_map, List.map_snd_zip (by rw [lk]; exact Nat.le_refl _)]
      rw [← hz] at ko
      have es := PySem.W.keyedOut_each (R := fun v (p : D × D) => Stand X.K F v p.1) (fun p : D × D => pyD p.2) ko (each_get (by rw [List.length_zip, lk, lr, hal]; simp) fun j v p hv hp => by
        obtain ⟨tt, rfl⟩ := item j v hv
        obtain ⟨h1, h2⟩ := List.getElem?_zip_eq_some.mp hp
        have hj : j < n.toNat := by rw [← hal]; exact (List.getElem?_eq_some_iff.mp hv).1
        have hd : ((List.range n.toNat).map fun j => (D.int (j : Nat)))[j]? = some (.int (j : Nat)) := by simp [hj]
        rw [hd] at h1
        have : p.1 = .int (j : Nat) := (Option.some.inj h1).symm
        rw [this]
        exact ⟨.int (j : Nat), ⟨tt, rfl⟩, rfl⟩)
      obtain ⟨ys, r1, r2⟩ := stand_each (X := X) (each_img Prod.fst es)
      have J4 := J1.turnedL (h' := g) (t' := tk) (ch := [s3.heap.objs.size + 1, a3]) (fun b o hb e => hk b o (fun z => hb (by simp [z])) (fun z => hb (by simp [z])) e) (fun b hb => by
        rcases List.mem_cons.mp hb with rfl | hb
        · exact fS
        · rw [List.mem_singleton.mp hb]; exact fI)
      have ly : ys.length ≤ sizeLine := by
        rw [r2.len, List.length_map, List.length_mergeSort, List.length_zip, lk, lr, sizeLine_eq]; omega
      have J5 := track (o := .lst ys) J4 fI (fun q z => by cases z) ⟨ly, out, cc, r1, hout⟩
      have vk : VOk X.K F H' (.own (.lst (sortK ((List.range n.toNat).map fun j => .int (j : Nat)) ks))) Q := fun v F3 H3 B3 nw sm rv => by
        obtain ⟨z1, z2⟩ := fin_op (st2.trans J3) (fun a ha => ha) J2 nw sm rv
        exact qf v F3 H3 A' B3 z1 z2
      refine ⟨_, rfl, wpAny_pure ⟨_, rfl, .ref a3, upd H' a3 (.lst ys), J5.pins_of fun q hq => J5.pin q (List.mem_append_right _ (List.mem_cons_of_mem _ (List.mem_cons_of_mem _ hq))), rfl, vk.lst J2.sub r2 fI.1⟩⟩
    · exact ⟨F1, G1, A1, [], I6, w2, Step.refl, hco, fk, fa, .nil, rfl⟩
end
end DL
end
section
set_option maxRecDepth 100000
set_option maxHeartbeats 1000000
namespace DL
open PySem PySem.Spec PyProof.Rows L2
variable [tb : Tb]
/-! ### x += e, ints -/
def hInc : D → D → Option R := hI (fun _ _ => true) fun i j => .int (i + j)
section
variable {X : Cx} {pv : Nat → Option V} {W : WX} {i : Nat} {f : M R}
theorem dVar_rd {K : PySem.W.Frag} {mg : Str → Option Value} {σ : L2.St} {H : Hp} {Q : VK} (q : tD K mg pv W (dVar i) σ H Q) : ∃ v, σ[i]? = some (some v) ∧ Q v H := by
  obtain ⟨env, F, A, ws, q⟩ := q
  unfold dVar at q
  cases es : env[i]? with
  | none => simp only [es] at q
  | some s =>
    simp only [es] at q
    cases s with
    | un => exact q.elim
    | own o =>
      obtain ⟨v, hv, ho⟩ := ws.has (i := i) (o := o) (by rw [es]; rfl)
      refine ⟨v, hv, ?_⟩
      cases o <;> first | exact q v F H A [] step_id (rs_bor ws hv) | (simp only [Own] at ho; exact q v F H A [] step_id (rs_val ws ho.2))
    | pin o =>
      obtain ⟨v, hv, ho⟩ := ws.has (i := i) (o := o) (by rw [es]; rfl)
      refine ⟨v, hv, ?_⟩
      cases o <;> first | exact q v F H A [] step_id (rs_bor ws hv) | (simp only [Own] at ho; exact q v F H A [] step_id (rs_val ws ho.2))
theorem ds_inc {x : Str} {e : Expr} {pos pos' : Pos} (hN : X.N.Nodup) (hi : X.N[i]? = some x) (hx : Loc X.env.scope x) (he : PE X e (tD X.K X.mg pv W f)) (hf : X.fn x = true ∨ X.env.scope.names.lookup x = some .local := by first | exact .inl rfl | exact .inr rfl | assumption) :
    PS X (.AugAssign (.Name x pos') .Add e pos) (sD X.K X.mg pv W (sSet .frz i (op2 hInc (dVar i) f))) := (ps_aug hN hi hx he ip_add hf).imp fun D σ H q => by
  have q1 := sSet_rd q
  have q2 : tOp (rI0 fun i j => .int (i + j)) (tD X.K X.mg pv W (dVar i)) (tD X.K X.mg pv W f) σ H (fun z H1 => gName i z σ H1 D.nx) := op2_rd (ov_int0 (g := fun i j => .int (i + j)) (gv := fun i j => .int (i + j)) fun _ _ _ => rfl) q1
  obtain ⟨v, h1, h2⟩ := dVar_rd q2
  exact ⟨v, h1, h2⟩
end
@[simp] theorem ev_inc {i j : Int} : hInc (.int i) (.int j) = some (.val (.int (i + j))) := rfl
/-! ### list(range(a, b)) -/
def hListRg : D → D → Option R
  | .int a, .int b => if 0 ≤ a ∧ a ≤ 1000 ∧ 0 ≤ b ∧ b ≤ 1000 then some (.own (.lst ((List.range (b - a).toNat).map fun i => .int (a + (i : Nat))))) else none
  | _, _ => none
def rListRg : R2 := fun x y H Q => ∃ a b, x = .int a ∧ y = .int b ∧ RgOk a b ∧ ∀ p, H p = none → Q (.ref p) (upd H p (.lst (rgV a b)))
theorem ov_listRg {K : PySem.W.Frag} : OpV K rListRg hListRg := fun F H d1 d2 v1 v2 ro Q s a b e q => by
  unfold hListRg at e
  split at e
  · rename_i i j
    split at e
    · rename_i hb
      cases e
      have h1 : v1 = .int i := a
      have h2 : v2 = .int j := b
      refine ⟨i, j, h1, h2, .of_le hb.1 (by omega) (by omega) hb.2.2.1, fun p n => q.lst s ?_ n⟩
      unfold rgV
      generalize (j - i).toNat = m
      have : ∀ l : List Nat, Reps K F (l.map fun k => (D.int (i + (k : Nat)))) (l.map fun k => V.int (i + (k : Nat))) := fun l => by
        induction l with
        | nil => rfl
        | cons k l ih => exact ⟨_, _, rfl, rfl, ih⟩
      exact this _
    · cases e
  · cases e
section
variable {X : Cx} {pv : Nat → Option V} {W : WX} {f g : M R} {a b : Expr} {p p2 q pos : Pos}
theorem de_listRg (hc : X.calm = true) (hg : Gl X "list") (hm : X.mg "list" = none) (hg2 : Gl X "range") (hm2 : X.mg "range" = none) (ha : PE X a (tD X.K X.mg pv W f)) (hb : PE X b (tD X.K X.mg pv W g))
    (na : starEach [a, b] X.env = (false, eval a X.env) :: starEach [b] X.env := by rfl) (nb : starEach [b] X.env = (false, eval b X.env) :: starEach [] X.env := by rfl) (hp : (backTo q (starEach [b] X.env)).any (·.1) = false := by rfl)
    (nr : starEach [.Call (.Name "range" p2) [a, b] [] q] X.env = (false, eval (.Call (.Name "range" p2) [a, b] [] q) X.env) :: starEach [] X.env := by rfl) :
    PE X (.Call (.Name "list" p) [.Call (.Name "range" p2) [a, b] [] q] [] pos) (tD X.K X.mg pv W (op2 hListRg f g)) :=
  (pe_listRg hc hg hm (prg_2 hg2 hm2 ha hb na nb hp) nr).imp fun σ H Q q => by
    have h : tOp rListRg (tD X.K X.mg pv W f) (tD X.K X.mg pv W g) σ H Q := op2_rd ov_listRg q
    refine tD_mono h fun x H1 h1 => tD_mono h1 fun y H2 h2 => ?_
    obtain ⟨i, j, rfl, rfl, h3, h4⟩ := h2
    exact ⟨i, j, rfl, rfl, h3, h4⟩
end
/-! ### what they compute -/
section
variable {env : DEnv} {f g fb fk fv : M R} {fs : M (List R)} {gi : M (List D)} {tg : Tgt} {vs : List Nat} {test : M Bool} {i : Nat}
@[simp] theorem ev_zip : dZip fs env = (fs env).bind fun rs e => match frzRs rs with
  | some [.lst xs, .lst ys] => if xs.length = ys.length then .ok (List.zipWith (fun x y => .tup [x, y]) xs ys) e else .bad
  | _ => .bad := rfl
@[simp] theorem ev_dc : dDc gi tg vs test fk fv env = (gi env).bind fun ds e => (compD tg vs test fk fv ds [] (unE e vs)).bind fun acc e2 => .ok (.own (.dK (acc.map (·.1)) (acc.map (·.2)))) (unE e2 vs) := rfl
@[simp] theorem ev_sortR : dSortR f i fb env = (f env).bind fun r e => match resolve e r with
  | some (.int n) => if 0 ≤ n ∧ n ≤ 1000 then (match e[i]? with
      | some .un => (match keysF fb i e ((List.range n.toNat).map fun j => .int (j : Nat)) with
        | some ks => (match D.pys ks with
          | some ps => open Classical in if Srtbl ps then .ok (.own (.lst (sortK ((List.range n.toNat).map fun j => .int (j : Nat)) ks))) e else .bad
          | none => .bad)
        | none => .bad)
      | _ => .bad) else .bad
  | _ => .bad := rfl
end
end DL
end
section
set_option maxRecDepth 100000
set_option maxHeartbeats 1000000
namespace DL
open PySem PySem.Spec PyProof.Rows L2
variable [tb : Tb]
/-! ### repr of an int too -/
def hReprI : List D → Option R
  | [.int i] => if i.natAbs.log2 < 1920 then some (.val (.str (PyData.int i).shown)) else none
  | _ => none
def rReprI : List V → Hp → VK → Prop := fun xs H Q => ∃ i, xs = [.int i] ∧ i.natAbs.log2 < 1920 ∧ Q (.str (toString i)) H
def hRepr2 : List D → Option R := fun ds => match hRepr ds with
  | some r => some r
  | none => hReprI ds
theorem blt_repr2 {X : Cx} {k : Nat} (hr : Room k X.A) (gd : X.A.guards = some []) : BltR X "repr" hRepr2 := by
  obtain ⟨r1, c1, h1⟩ := blt_repr (X := X) hr gd
  refine ⟨fun vs H Q => r1 vs H Q ∨ rReprI vs H Q, fun pins s σ H vs us Q I rl h => ?_, fun F H ds vs ro Q s a e q => ?_⟩
  · rcases h with h | h
    · exact c1 pins s σ H vs us Q I rl h
    · exact SkE.call_repr_int pins s σ H vs us Q I rl h
  · unfold hRepr2 at e
    split at e
    · rename_i r hr'
      cases e
      exact .inl (h1 F H ds vs _ Q s a hr' q)
    · unfold hReprI at e
      split at e
      · rename_i i h0
        split at e
        · rename_i hl
          cases e
          obtain ⟨v, rfl, hv⟩ := Vws.one a
          have hv2 : v = .int i := hv
          subst hv2
          exact .inr ⟨i, rfl, hl, q.flat s (by simp only [Rep]; rfl)⟩
        · cases e
      · cases e
theorem repr2_of {ds : List D} {r : R} (h : hRepr ds = some r) : hRepr2 ds = some r := by
  unfold hRepr2; rw [h]
theorem repr2_int {i : Int} (h : i.natAbs.log2 < 1920) : hRepr2 [.int i] = some (.val (.str (PyData.int i).shown)) := by
  unfold hRepr2
  rw [show hRepr [.int i] = none from by simp [hRepr, D.py, isDisp]]
  simp only [hReprI]
  rw [if_pos h]
end DL
end
section
set_option maxRecDepth 100000
set_option maxHeartbeats 1000000
namespace DL
open PySem PySem.Spec PyProof.Rows L2
namespace DB
structure DispP (w n : Nat) (p : PyData) : Prop where
  sh : p.showable = true
  lv : p.leavesShort 40 = true
  wt : p.weight ≤ w
  dp : p.depth ≤ n
  lf : leafOk p = true
structure DispPs (w n : Nat) (ps : List PyData) : Prop where
  sh : PyData.showableAll ps = true
  lv : PyData.leavesShortAll 40 ps = true
  wt : PyData.weightAll ps ≤ w
  dp : PyData.depthAll ps ≤ n
  lf : leafOkAll ps = true
def Disp (w n : Nat) (d : D) : Prop := ∃ p, d.py = some p ∧ DispP w n p
def Disps (w n : Nat) (ds : List D) : Prop := ∃ ps, D.pys ds = some ps ∧ DispPs w n ps
theorem Disp.up {w n w2 n2 : Nat} {d : D} (h : Disp w n d) (h1 : w ≤ w2) (h2 : n ≤ n2) : Disp w2 n2 d := by
  obtain ⟨p, e, a, b, c, f, g⟩ := h
  exact ⟨p, e, a, b, by omega, by omega, g⟩
theorem disps_nil {w n : Nat} : Disps w n [] := ⟨[], rfl, rfl, rfl, by simp [PyData.weightAll], by simp [PyData.depthAll], rfl⟩
theorem disps_cons {w w2 n : Nat} {d : D} {ds : List D} (h : Disp w n d) (hs : Disps w2 n ds) : Disps (w + 1 + w2) n (d :: ds) := by
  obtain ⟨p, e, a, b, c, f, g⟩ := h
  obtain ⟨ps, e2, a2, b2, c2, f2, g2⟩ := hs
  refine ⟨p :: ps, by simp only [D.pys, e, e2], ?_, ?_, ?_, ?_, ?_⟩
  · simp only [PyData.showableAll, a, a2, Bool.and_self]
  · simp only [PyData.leavesShortAll, b, b2, Bool.and_self]
  · simp only [PyData.weightAll]; omega
  · simp only [PyData.depthAll]; omega
  · simp only [leafOkAll, g, g2, Bool.and_self]
theorem disps_all {w n : Nat} : ∀ {ds : List D}, (∀ d ∈ ds, Disp w n d) → Disps (ds.length * (w + 1)) n ds
  | [], _ => by simpa using disps_nil
  | d :: ds, h => by
    have := disps_cons (h d (by simp)) (disps_all fun d hd => h d (List.mem_cons_of_mem _ hd))
    have e : (d :: ds).length * (w + 1) = w + 1 + ds.length * (w + 1) := by simp only [List.length_cons, Nat.succ_mul]; omega
    rw [e]
    exact this
theorem disp_lst {w n : Nat} {ds : List D} (h : Disps w n ds) : Disp w (n + 1) (.lst ds) := by
  obtain ⟨ps, e, a, b, c, f, g⟩ := h
  exact ⟨.list ps, by simp only [D.py, e], by simp only [PyData.showable, a], by simp only [PyData.leavesShort, b], by simpa only [PyData.weight] using c, by simp only [PyData.depth]; omega, by simp only [leafOk, g]⟩
theorem disp_tup {w n : Nat} {ds : List D} (h : Disps w n ds) : Disp w (n + 1) (.tup ds) := by
  obtain ⟨ps, e, a, b, c, f, g⟩ := h
  exact ⟨.tuple ps, by simp only [D.py, e], by simp only [PyData.showable, a], by simp only [PyData.leavesShort, b], by simpa only [PyData.weight] using c, by simp only [PyData.depth]; omega, by simp only [leafOk, g]⟩
theorem disp_int {n : Nat} {i : Int} (h : i.natAbs < 10 ^ 12) : Disp 50 n (.int i) := by
  have hl : i.natAbs.log2 < 49 := by
    by_cases c : i.natAbs = 0
    · rw [c]; decide
    · exact (Nat.log2_lt c).mpr (by omega)
  refine ⟨.int i, rfl, ?_, ?_, ?_, by simp [PyData.depth], rfl⟩
  · simp only [PyData.showable, decide_eq_true_eq]; omega
  · simp only [PyData.leavesShort, decide_eq_true_eq]; exact Nat.le_trans (PyData.shown_int_le h) (by omega)
  · simp only [PyData.weight]; split <;> omega
theorem disp_bl {n : Nat} {b : Bool} : Disp 50 n (.bl b) := ⟨.bool b, rfl, rfl, rfl, by simp [PyData.weight], by simp [PyData.depth], rfl⟩
theorem disp_non {n : Nat} : Disp 50 n .non := ⟨.none, rfl, rfl, rfl, by simp [PyData.weight], by simp [PyData.depth], rfl⟩
theorem repr_ok {w n : Nat} {d : D} (h : Disp w n d) (hw : w ≤ 2 ^ 18) (hn : n ≤ 64) (hd : isDisp d = true) : ∃ p, hRepr [d] = some (.val (.str p.shown)) ∧ leafOk p = true := by
  obtain ⟨p, e, a, b, c, f, g⟩ := h
  refine ⟨p, ?_, g⟩
  simp only [hRepr, e]
  rw [if_pos ⟨hd, a, (by have := PyData.shown_le 40 (by omega) p b; have z : (40 + 2) * p.weight ≤ 42 * 2 ^ 18 := Nat.mul_le_mul_left _ (by omega); rw [sizeLine_eq]; omega), by omega⟩]

end DB
end DL
end
section
set_option maxRecDepth 100000
set_option maxHeartbeats 1000000
namespace DL
open PySem PySem.Spec PyProof.Rows L2
variable [tb : Tb]
/-! ### repr of a truth value too -/
def hReprB : List D → Option R
  | [.bl b] => some (.val (.str (PyData.bool b).shown))
  | _ => none
def rReprB : List V → Hp → VK → Prop := fun xs H Q => ∃ b, xs = [.bl b] ∧ Q (.str (if b then "True" else "False")) H
def hRepr3 : List D → Option R := fun ds => match hRepr2 ds with
  | some r => some r
  | none => hReprB ds
theorem shown_bool (b : Bool) : (PyData.bool b).shown = (if b then ("True" : Str) else "False") := by cases b <;> rfl
theorem call_repr_bl {X : Cx} : CallR X (.builtin "repr") rReprB := by
  intro pins s σ H xs us Q I r h
  obtain ⟨i, rfl, q⟩ := h
  obtain ⟨u, rfl, ru⟩ := vals1 r
  cases ru
  exact PySem.P.repr_of_bool ⟨.str _, H, I.tok _, ⟨_, rfl⟩, q⟩
theorem blt_repr3 {X : Cx} {k : Nat} (hr : Room k X.A) (gd : X.A.guards = some []) : BltR X "repr" hRepr3 := by
  obtain ⟨r1, c1, h1⟩ := blt_repr2 (X := X) hr gd
  refine ⟨fun vs H Q => r1 vs H Q ∨ rReprB vs H Q, fun pins s σ H vs us Q I rl h => ?_, fun F H ds vs ro Q s a e q => ?_⟩
  · rcases h with h | h
    · exact c1 pins s σ H vs us Q I rl h
    · exact call_repr_bl pins s σ H vs us Q I rl h
  · unfold hRepr3 at e
    split at e
    · rename_i r hr'
      cases e
      exact .inl (h1 F H ds vs _ Q s a hr' q)
    · unfold hReprB at e
      split at e
      · rename_i b0 _
        cases e
        obtain ⟨v, rfl, hv⟩ := Vws.one a
        have hv2 : v = .bl b0 := hv
        subst hv2
        exact .inr ⟨_, rfl, by rw [← shown_bool]; exact q.flat s (by simp only [Rep])⟩
      · cases e
theorem repr3_of {ds : List D} {r : R} (h : hRepr2 ds = some r) : hRepr3 ds = some r := by
  unfold hRepr3; rw [h]
theorem repr3_bl {b : Bool} : hRepr3 [.bl b] = some (.val (.str (PyData.bool b).shown)) := by
  unfold hRepr3
  rw [show hRepr2 [.bl b] = none from by simp [hRepr2, hRepr, hReprI, D.py, isDisp]]
  rfl

/-! ### starred parts of a display -/
def dStar (f : M R) (fs : M (List R)) : M (List R) := fun env => (f env).bind fun r e1 => match frzR r with
  | some (.lst ds) => (fs e1).bind fun rs e2 => .ok (ds.map R.val ++ rs) e2
  | _ => .bad
theorem rreps_vals {K : PySem.W.Frag} {env : DEnv} {σ : L2.St} {F H : Hp} {rs : List R} {vs : List V} {B : List Addr} (h : RReps K env σ F H rs vs B) : ∀ {ds : List D} {us : List V}, Reps K F ds us → RReps K env σ F H (ds.map R.val ++ rs) (us ++ vs) B
  | [], us, r => by
    simp only [Reps] at r
    subst r; exact h
  | d :: ds, us, r => by
    simp only [Reps] at r
    obtain ⟨v, t, rfl, r1, r2⟩ := r
    exact ⟨v, t ++ vs, [], B, rfl, rfl, ⟨rfl, r1⟩, rreps_vals h r2⟩
section
variable {X : Cx} {pv : Nat → Option V} {W : WX} {f : M R} {fs : M (List R)} {e : Expr} {es : List Expr} {p : Pos}
theorem dStar_rd {K : PySem.W.Frag} {mg : Str → Option Value} {σ : L2.St} {H : Hp} {Q : List V → Hp → Prop} (q : tDA K mg pv W (dStar f fs) σ H Q) : StX.tStar K (tD K mg pv W f) (tDA K mg pv W fs) σ H Q := by
  obtain ⟨env, F, A, ws, q⟩ := q
  simp only [dStar] at q
  refine tD_bind ws (fun e => ?_) (fun c e1 e F1 H1 A1 s1 w1 => ?_) (fun r1 e1 e v1 F1 H1 A1 B1 s1 rs1 => ?_)
  · rw [e] at q; exact q
  · rw [e] at q; exact q F1 H1 A1 s1 w1
  · rw [e] at q
    simp only [Res.bind] at q
    cases hf : frzR r1 with
    | none => simp only [hf] at q
    | some d =>
      cases d with
      | lst ds =>
        simp only [hf] at q
        obtain ⟨G, g1, g2, g3⟩ := frz_one s1 rs1 hf
        simp only [Rep] at g3
        obtain ⟨a, us, rfl, h1, h2⟩ := g3
        refine ⟨a, us, rfl, .inr (.of (g2.sub _ _ h1)), ?_⟩
        refine tDA_bind g2 (fun z => ?_) (fun c e2 z F2 H2 A2 s2 w2 => ?_) (fun r2 e2 z v2 F2 H2 A2 B2 s2 rs2 => ?_)
        · rw [z] at q; exact q
        · rw [z] at q; exact q F2 H2 A2 (g1.trans s2) w2
        · rw [z] at q
          simp only at q
          exact q (us ++ v2) F2 H2 A2 B2 (g1.trans s2) ⟨rs2.ws, rreps_vals rs2.rr (Reps.same s2.fz ds h2), rs2.nd, rs2.dj, rs2.dis⟩
      | _ => simp only [hf] at q
theorem da_star (he : PE X e (tD X.K X.mg pv W f)) (hr : PA X es (tDA X.K X.mg pv W fs)) (hs : starEach (.Starred e p :: es) X.env = (true, eval e X.env) :: starEach es X.env := by rfl) : PA X (.Starred e p :: es) (tDA X.K X.mg pv W (dStar f fs)) :=
  (StX.pa_star he hr hs).imp fun _ _ _ q => dStar_rd q
end

/-! ### a list of lists of one's own -/
def ownR : R → Option O
  | .own o => some o
  | .val d => some (.val d)
  | .bor _ => none
def ownRs : List R → Option (List O)
  | [] => some []
  | r :: rs => match ownR r, ownRs rs with
    | some o, some os => some (o :: os)
    | _, _ => none
def dLstO (fs : M (List R)) : M R := fun env => (fs env).bind fun rs e => match ownRs rs with
  | some os => if os.length ≤ sizeLine then .ok (.own (.lo os)) e else .bad
  | none => .bad
theorem own_rel {K : PySem.W.Frag} {env : DEnv} {σ : L2.St} {F H : Hp} : ∀ {rs : List R} {vs : List V} {B : List Addr} {os : List O}, RReps K env σ F H rs vs B → ownRs rs = some os → Owns K F H os vs B ∧ vs.length = os.length
  | [], _, _, _, h, e => by
    simp only [ownRs] at e; cases e
    obtain ⟨rfl, rfl⟩ := h
    exact ⟨⟨rfl, rfl⟩, rfl⟩
  | r :: rs, _, _, _, h, e => by
    simp only [ownRs] at e
    split at e
    · rename_i o os h1 h2
      cases e
      obtain ⟨v, t, B1, B2, rfl, rfl, r1, r2⟩ := h
      obtain ⟨i1, i2⟩ := own_rel r2 h2
      refine ⟨?_, by simp [i2]⟩
      simp only [Owns]
      refine ⟨v, t, B1, B2, rfl, rfl, ?_, i1⟩
      cases r with
      | val d => simp only [ownR] at h1; cases h1; simp only [Own]; exact r1
      | own o => simp only [ownR] at h1; cases h1; exact r1
      | bor i => simp [ownR] at h1
    · cases e
section
variable {X : Cx} {pv : Nat → Option V} {W : WX} {fs : M (List R)} {es : List Expr} {pos : Pos}
theorem de_lstO (h : PA X es (tDA X.K X.mg pv W fs)) : PE X (.List es pos) (tD X.K X.mg pv W (dLstO fs)) := (pe_lst h).imp fun σ H Q q => by
  obtain ⟨env, F, A, ws, q⟩ := q
  simp only [dLstO] at q
  refine tDA_bind ws (fun e => ?_) (fun c e1 e F1 H1 A1 s1 w1 => ?_) (fun r1 e1 e v1 F1 H1 A1 B1 s1 rs1 => ?_)
  · rw [e] at q; exact q
  · rw [e] at q; exact q F1 H1 A1 s1 w1
  · rw [e] at q
    simp only [Res.bind] at q
    cases hd : ownRs r1 with
    | none => simp only [hd] at q
    | some os =>
      simp only [hd] at q
      by_cases hz : os.length ≤ sizeLine
      · rw [if_pos hz] at q
        obtain ⟨i1, i2⟩ := own_rel rs1.rr hd
        refine ⟨by rw [i2]; exact hz, fun p n => ?_⟩
        have nw := Nw.put (o := .lst v1) n rs1.ws.sub
        have sm := same_put (o := .lst v1) n rs1.ws.sub
        have ws' := rs1.ws.nw nw sm
        have hB : ∀ b ∈ B1, H1 b ≠ none := fun b hb => Owns.there os i1 b hb
        have hp : p ∉ B1 := fun h => hB p h n
        have st2 : Step F1 H1 (fun a => UA A1 a ∨ a ∈ B1) F1 (upd H1 p (.lst v1)) (fun a => UA A1 a ∨ a ∈ p :: B1) :=
          ((nw.frame (fun a => UA A1 a ∨ a ∈ B1)).more fun x hx => hx.elim False.elim id).less fun x hx => by
            rcases hx with hx | hx
            · exact .inr (.inl hx)
            · rcases List.mem_cons.mp hx with hx | hx
              · exact .inl (by rw [hx]; simp)
              · exact .inr (.inr hx)
        refine q (.ref p) F1 _ A1 (p :: B1) (s1.trans st2) ⟨ws', ?_, List.nodup_cons.mpr ⟨hp, rs1.nd⟩, fun a ha hu => ?_, fun a ha => ?_⟩
        · simp only [RRep, Own]
          exact ⟨p, v1, B1, rfl, rfl, upd_same, Owns.stay (Same.refl _) os i1 fun b hb u hu => by rw [upd_ne fun z => hp (by rw [← z]; exact hb)]; exact hu⟩
        · rcases List.mem_cons.mp ha with h | h
          · rw [h] at hu; exact rs1.ws.there hu n
          · exact rs1.dj a h hu
        · rcases List.mem_cons.mp ha with h | h
          · rw [h]; exact Same.free rs1.ws.sub n
          · exact rs1.dis a h
      · rw [if_neg hz] at q; exact q.elim
end
/-- the owned trees that slot i holds in a list -/
def loAt (env : DEnv) (i : Nat) : Option (List O) := match env[i]?.bind Slot.o with
  | some (.lo os) => some os
  | _ => none
theorem loAt_o {env : DEnv} {i : Nat} {os : List O} (h : loAt env i = some os) : env[i]?.bind Slot.o = some (.lo os) := by
  unfold loAt at h
  split at h
  · rename_i ds' e
    cases h; exact e
  · cases h
/-- repr of a list of one's own lists: read as if frozen -/
def dReprLo (i : Nat) : M R := fun env => match loAt env i with
  | some os => (match O.frzs os with
    | some ds => (match hRepr3 [.lst ds] with
      | some (.val (.str x)) => .ok (.val (.str x)) env
      | _ => .bad)
    | none => .bad)
  | none => .bad
section
variable {X : Cx} {pv : Nat → Option V} {W : WX} {i : Nat} {x y : Str} {p p2 pos apos : Pos}
theorem de_reprLo (b : BltR X "repr" hRepr3) (hg : Gl X y) (hm : X.mg y = none) (hv : bootBuiltins y = some (.builtin "repr")) (hN : X.N[i]? = some x) (hvs : Vis X.env.scope x) (hn : y ≠ "__name__" := by decide) (hdb : (y == ("__debug__" : Str)) = false := by decide) (hd : (x == ("__debug__" : Str)) = false := by decide) (hcd : (x == ("__classdict__" : Str)) = false := by decide)
    (hs : starEach [.Name x p2] X.env = (false, eval (.Name x p2) X.env) :: starEach [] X.env := by rfl) (hpl : (backTo pos (starEach [] X.env)).any (·.1) = false := by rfl) :
    PE X (.Call (.Name y p) [.Name x p2] [] pos) (tD X.K X.mg pv W (dReprLo i)) := by
  obtain ⟨r, c, v⟩ := b.ex
  refine (pe_callB c hg hm hv (pa_cons (pe_var hN hvs hd hcd) pa_nil hs) hn hdb hs hpl).imp fun σ H Q q => ?_
  obtain ⟨env, F, A, ws, q⟩ := q
  unfold dReprLo at q
  cases h0 : loAt env i with
  | none => simp only [h0] at q
  | some os =>
    cases h1 : O.frzs os with
    | none => simp only [h0, h1] at q
    | some ds =>
      simp only [h0, h1] at q
      split at q
      · exact q.elim
      · rename_i r' e' hq
        split at hq
        · rename_i z hr
          cases hq
          obtain ⟨v0, hv0, own0⟩ := ws.has (loAt_o h0)
          refine ⟨v0, hv0, ?_⟩
          have nd0 := Own.nd _ own0
          have sG : Same F (ext F H fun a => a ∈ A i) := ext_same ws.sub
          have sH : Same (ext F H fun a => a ∈ A i) H := ext_sub ws.sub
          have rp : Rep X.K (ext F H fun a => a ∈ A i) (.lst ds) v0 := Own.frz sG _ own0 (fun a ha => ext_in ha) (by simp only [O.frz, h1])
          have tb0 : TbsOk (ext F H fun a => a ∈ A i) H := ws.tbs.frz (ext_tb1 fun a ha => nd0 a ha)
          refine v _ H [.lst ds] [v0] _ Q sH ⟨v0, [], rfl, Vw.of sH rp, rfl⟩ hr fun v1 F2 H2 B2 nw sm rv => ?_
          obtain ⟨rfl, rv⟩ := rv
          have hv1 : v1 = .str z := rv
          subst hv1
          have t2 : TbsOk F2 H2 := nw.tabs tb0
          have t3 : TbsOk F H2 := ⟨t2.1, ws.tbs.2⟩
          have s2 : Same F H2 := fun a o e => sm a o (nw.fz a o (sG a o e))
          refine q (.str z) F H2 A [] ⟨Same.refl _, fun a o e nt _ => nw.keep a o e nt fun z => z, fun _ => t3, fun a e => .inl e, nw.dom, fun a e => .inl (e.elim id fun z => nomatch z)⟩ (rs_val (ws.stay (Same.refl _) s2 (fun b hb u e => nw.keep b u e (Nd.noTb (by rw [← e]; exact ws.ndU hb)) fun z => z) (fun b hb => ws.disU hb) fun _ => t3) ?_)
          simp only [Rep]
        · cases hq
      · rename_i hq
        split at hq <;> cases hq
end
theorem owns_set {K : PySem.W.Frag} {F H : Hp} : ∀ {os : List O} {vs : List V} {B : List Addr} {k : Nat} {ds : List D}, Owns K F H os vs B → B.Nodup → os[k]? = some (.lst ds) → ∃ b us, vs[k]? = some (.ref b) ∧ b ∈ B ∧ H b = some (.lst us) ∧ Reps K F ds us ∧ ∀ ds' us', Reps K F ds' us' → Owns K F (upd H b (.lst us')) (os.set k (.lst ds')) vs B
  | [], _, _, _, _, _, _, e => by simp at e
  | o :: os, _, _, 0, ds, h, nd, e => by
    simp only [Owns] at h
    obtain ⟨v, t, B1, B2, rfl, rfl, h1, h2⟩ := h
    simp at e; subst e
    simp only [Own] at h1
    obtain ⟨b, us, rfl, rfl, e1, e2⟩ := h1
    refine ⟨b, us, rfl, by simp, e1, e2, fun ds' us' r => ?_⟩
    simp only [List.set_cons_zero, Owns, Own]
    refine ⟨.ref b, t, [b], B2, rfl, rfl, ⟨b, us', rfl, rfl, upd_same, r⟩, Owns.stay (Same.refl _) os h2 fun c hc u hu => ?_⟩
    rw [upd_ne fun z => by rw [z] at hc; simp at nd; exact nd.1 hc]; exact hu
  | o :: os, _, _, k + 1, ds, h, nd, e => by
    simp only [Owns] at h
    obtain ⟨v, t, B1, B2, rfl, rfl, h1, h2⟩ := h
    simp at e
    obtain ⟨n1, n2, n3⟩ := List.nodup_append.mp nd
    obtain ⟨b, us, e1, e2, e3, e4, e5⟩ := owns_set h2 n2 e
    refine ⟨b, us, by simpa using e1, List.mem_append_right _ e2, e3, e4, fun ds' us' r => ?_⟩
    simp only [List.set_cons_succ, Owns]
    refine ⟨v, t, B1, B2, rfl, rfl, Own.stay (Same.refl _) o h1 fun c hc u hu => ?_, e5 ds' us' r⟩
    rw [upd_ne fun z => n3 c hc b e2 z]; exact hu
/-- x[k].append(None), x a list of lists of one's own -/
def dApp2 (i k : Nat) : M R := fun env => match loAt env i with
  | some os => (match os[k]? with
    | some (.lst ds) => if ds.length < sizeLine then .ok (.val .non) (putO env i (.lo (os.set k (.lst (ds ++ [.non]))))) else .bad
    | _ => .bad)
  | none => .bad
section
variable {X : Cx} {pv : Nat → Option V} {W : WX} {i k j j2 : Nat} {x : Str} {p p2 p3 p4 pos apos : Pos}
theorem de_app2 (hN : X.N[i]? = some x) (hv : Vis X.env.scope x) (hd : (x == ("__debug__" : Str)) = false := by decide) (hcd : (x == ("__classdict__" : Str)) = false := by decide)
    (hs : PlainIx (.Constant (.int (k : Nat)) j p2) := by exact fun _ _ => rfl)
    (hb : attributeBase (.Subscript (.Name x p) (.Constant (.int (k : Nat)) j p2) p3) "append" X.env (eval (.Subscript (.Name x p) (.Constant (.int (k : Nat)) j p2) p3) X.env) = eval (.Subscript (.Name x p) (.Constant (.int (k : Nat)) j p2) p3) X.env := by rfl)
    (hl : (apos.endLine == pos.line) = true := by rfl) (hf : ((backTo pos (starEach [.Constant .none j2 p4] X.env)).all (fun x => !x.1) && (backToKw pos (keywordEach [] X.env)).all (fun x => x.1.isSome) && decide ([Expr.Constant .none j2 p4].length + ([] : List Keyword).length + (if ([] : List Keyword).isEmpty then 0 else 1) < 30)) = true := by rfl) :
    PE X (.Call (.Attribute (.Subscript (.Name x p) (.Constant (.int (k : Nat)) j p2) p3) "append" apos) [.Constant .none j2 p4] [] pos) (tD X.K X.mg pv W (dApp2 i k)) := by
  refine (pe_bm PySem.F.plainAttrs_list PySem.F.slot_list_append PySem.F.type_list_append mt_append (pe_ix ix_seq (pe_var hN hv hd hcd) pe_int hs) (pa_cons pe_non pa_nil) hb hf hl).imp fun σ H Q q => ?_
  obtain ⟨env, F, A, ws, q⟩ := q
  unfold dApp2 at q
  cases h0 : loAt env i with
  | none => simp only [h0] at q
  | some os =>
    simp only [h0] at q
    cases h1 : os[k]? with
    | none => simp only [h1] at q
    | some o =>
      cases o with
      | lst ds =>
        simp only [h1] at q
        by_cases hz : ds.length < sizeLine
        · rw [if_pos hz] at q
          obtain ⟨v0, hv0, own0⟩ := ws.has (loAt_o h0)
          have own1 := own0
          simp only [Own] at own1
          obtain ⟨a, vs, B', rfl, hA, hH, ow⟩ := own1
          have nd := ws.nd i
          rw [hA] at nd
          obtain ⟨na, nb⟩ := List.nodup_cons.mp nd
          obtain ⟨b, us, e1, e2, e3, e4, e5⟩ := owns_set ow nb h1
          have hk : k < vs.length := (List.getElem?_eq_some_iff.mp e1).1
          have hat : atI vs (k : Nat) = some (.ref b) := by
            unfold atI ixN
            rw [if_pos (by omega), if_pos (by omega)]
            simpa using e1
          refine ⟨.ref a, hv0, .inl ⟨a, vs, k, .ref b, rfl, rfl, .of hH, hat, .inl ⟨rfl, us, .of e3⟩, ⟨b, us, .non, rfl, rfl, e3, by rw [e4.len]; exact hz, ?_⟩⟩⟩
          obtain ⟨m1, m2⟩ := ws.mut (a := b) (o' := .lo (os.set k (.lst (ds ++ [.non])))) (ho := .lst (us ++ [.non])) (loAt_o h0) hv0 (by rw [hA]; exact List.mem_cons_of_mem _ e2) (by
            rw [hA]
            simp only [Own]
            exact ⟨a, vs, B', rfl, rfl, by rw [upd_ne fun z => na (by rw [z]; exact e2)]; exact hH, e5 _ _ (e4.append (.one (by simp only [Rep])))⟩)
          exact q .non F _ A [] (m2.trans step_id) (rs_val m1 (by simp only [Rep]))
        · rw [if_neg hz] at q; exact q.elim
      | _ => simp only [h1] at q
end
end DL
end
section
set_option maxRecDepth 100000
set_option maxHeartbeats 4000000
namespace Gk07
open PySem PySem.Spec PyProof.Rows L2 DL
variable [tb : Tb]
def topS (i : Nat) : Stmt := PySem.Challenge.rw_stretchhues_k07_layers.prog.main.body.getD i (.Pass ⟨0, 0, 0, 0⟩)
abbrev s__law_pen : Stmt := topS 30
abbrev s__law_next : Stmt := topS 31
abbrev s__law_draw : Stmt := topS 32
abbrev s__law_stretch : Stmt := topS 33
abbrev s__law_row : Stmt := topS 34
abbrev s__law_over : Stmt := topS 36
abbrev s__law_is_full : Stmt := topS 40
abbrev s__law_layers : Stmt := topS 41
abbrev s__law_touch : Stmt := topS 35
abbrev s__law_least : Stmt := topS 39
abbrev s__law_hues : Stmt := topS 42
abbrev s_is_integer : Stmt := topS 5
abbrev s_is_within : Stmt := topS 6
abbrev s_is_point : Stmt := topS 9
abbrev s_is_stretch : Stmt := topS 10
abbrev s_is_row : Stmt := topS 11
abbrev s_check_row : Stmt := topS 12
abbrev s_covers : Stmt := topS 15
abbrev s_load_over : Stmt := topS 16
abbrev s_points_of : Stmt := topS 17
abbrev s_next_layer : Stmt := topS 21
abbrev s_depths_of : Stmt := topS 23
abbrev s_layers : Stmt := topS 24
abbrev s_is_touching : Stmt := topS 14
abbrev s_least_free : Stmt := topS 19
abbrev s_next_colour : Stmt := topS 22
abbrev s_layered : Stmt := topS 28
abbrev s__law_is_right : Stmt := topS 38
abbrev s__law_load : Stmt := topS 37
abbrev s__law_shows : Stmt := topS 43
abbrev s_check_index : Stmt := topS 13
abbrev s_shows : Stmt := topS 25
abbrev s_witness : Stmt := topS 26
abbrev s_is_witness : Stmt := topS 27
abbrev s_law : Stmt := topS 44
/-- what the top has written -/
structure Tops (K : PySem.W.Frag) (mg : Str → Option Value) (base : Heap) : Prop where
  d__law_pen : DefF K mg "_law_pen" s__law_pen ["_law_script"]
  d__law_next : DefF K mg "_law_next" s__law_next ["_law_pen_here"]
  d__law_draw : DefF K mg "_law_draw" s__law_draw ["_law_pen_here", "_law_under"]
  d__law_stretch : DefF K mg "_law_stretch" s__law_stretch ["_law_pen_here", "_law_wide"]
  d__law_row : DefF K mg "_law_row" s__law_row ["_law_pen_here", "_law_many"]
  d__law_over : DefF K mg "_law_over" s__law_over ["_law_row_here", "_law_point"]
  d__law_is_full : DefF K mg "_law_is_full" s__law_is_full ["_law_row_here", "_law_depths", "_law_layer", "_law_points"]
  d__law_layers : DefF K mg "_law_layers" s__law_layers ["_law_row_here"]
  d__law_touch : DefF K mg "_law_touch" s__law_touch ["_law_one", "_law_other"]
  d__law_least : DefF K mg "_law_least" s__law_least ["_law_bars", "_law_first"]
  d__law_hues : DefF K mg "_law_hues" s__law_hues ["_law_row_here"]
  d_is_integer : DefF K mg "is_integer" s_is_integer ["thing"]
  d_is_within : DefF K mg "is_within" s_is_within ["thing", "least", "most"]
  d_is_point : DefF K mg "is_point" s_is_point ["thing"]
  d_is_stretch : DefF K mg "is_stretch" s_is_stretch ["thing"]
  d_is_row : DefF K mg "is_row" s_is_row ["thing"]
  d_check_row : DefF K mg "check_row" s_check_row ["thing"]
  d_covers : DefF K mg "covers" s_covers ["stretch", "point"]
  d_load_over : DefF K mg "load_over" s_load_over ["row", "point"]
  d_points_of : DefF K mg "points_of" s_points_of ["row", "stretch"]
  d_next_layer : DefF K mg "next_layer" s_next_layer ["row", "depths", "stretch"]
  d_depths_of : DefF K mg "depths_of" s_depths_of ["row"]
  d_layers : DefF K mg "layers" s_layers ["row"]
  d_is_touching : DefF K mg "is_touching" s_is_touching ["one", "other"]
  d_least_free : DefF K mg "least_free" s_least_free ["row", "colours", "stretch", "first"]
  d_next_colour : DefF K mg "next_colour" s_next_colour ["row", "depths", "colours", "stretch", "layer"]
  d_layered : DefF K mg "layered" s_layered ["row"]
  d__law_is_right : DefF K mg "_law_is_right" s__law_is_right ["_law_row_here", "_law_colours"]
  d__law_load : DefF K mg "_law_load" s__law_load ["_law_row_here"]
  d__law_shows : DefF K mg "_law_shows" s__law_shows ["_law_row_here", "_law_depths", "_law_k", "_law_point"]
  d_check_index : DefF K mg "check_index" s_check_index ["row", "thing"]
  d_shows : DefF K mg "shows" s_shows ["row", "depths", "index", "point"]
  d_witness : DefF K mg "witness" s_witness ["row", "index"]
  d_is_witness : DefF K mg "is_witness" s_is_witness ["row", "index", "thing"]
  d_law : DefF K mg "law" s_law ["_law_script"]
  n_all : mg "all" = none
  n_any : mg "any" = none
  n_bool : mg "bool" = none
  n_enumerate : mg "enumerate" = none
  n_int : mg "int" = none
  n_isinstance : mg "isinstance" = none
  n_len : mg "len" = none
  n_list : mg "list" = none
  n_max : mg "max" = none
  n_min : mg "min" = none
  n_range : mg "range" = none
  n_repr : mg "repr" = none
  n_sorted : mg "sorted" = none
  n_sum : mg "sum" = none
  n_tuple : mg "tuple" = none
  n_zip : mg "zip" = none
  g_FARTHEST : ∃ t, mg "FARTHEST" = some (.int 1000000000 t)
  x_InvalidIndex : ∃ C, ExcCls K mg "InvalidIndex" C
  x_InvalidRow : ∃ C, ExcCls K mg "InvalidRow" C
section
variable {P : Program} {w : World} {K : PySem.W.Frag} {mg : Str → Option Value} {base : Heap} {k : Nat}
/-! ### _law_pen -/
theorem sc__law_pen : FnScope ["_law_script"] ["_law_script"] (defScope s__law_pen) := ⟨rfl, rfl, rfl, by decide +kernel, rfl, by decide +kernel, by decide +kernel⟩
noncomputable def b__law_pen : M DL.Flow :=
  (sRet (dLst (dCons (dB hList (dCons (dSl (dVar 0) dNoPart (dPart (dC (.int 60)))) dNil)) (dCons (dC (.int 0)) (dCons (dC (.int 0)) dNil)))))
noncomputable def f__law_pen : List O → RF := mkFn 0 b__law_pen
theorem ok__law_pen (T : Tops K mg base) : GV P w K mg base (k + 1) "_law_pen" ["_law_script"] f__law_pen :=
  gv_ok T.d__law_pen sc__law_pen (by decide) fun f cdv A outer s H E pv hr gd =>
  (dss_one (ds_ret (de_lst (da_cons (de_typ typ_list (by rfl) T.n_list rfl (da_cons (de_sl (de_var (i := 0) rfl (.inl rfl)) do_none (do_some de_int)) da_nil)) (da_cons de_int (da_cons de_int da_nil))))))
/-! ### _law_next -/
theorem sc__law_next : FnScope ["_law_pen_here", "_law_index", "_law_cell_here", "_law_some", "_law_more", "_law_high"] ["_law_pen_here"] (defScope s__law_next) := ⟨rfl, rfl, rfl, by decide +kernel, rfl, by decide +kernel, by decide +kernel⟩
noncomputable def b__law_next : M DL.Flow :=
  (sSeq (sSet .frz 1 (op2 hIx (dVar 0) (dC (.int 1))))
  (sSeq (sSetIx 0 (dC (.int 1)) (op2 hAdd (dVar 1) (dC (.int 1))))
  (sSeq (sSet .frz 2 (op2 hAdd (op2 hMul (dVar 1) (dC (.int 1051))) (dC (.int 53))))
  (sSeq (sIf (tst (op2 (hEq true) (op2 hIx (dVar 0) (dC (.int 0))) (dLst dNil)))
  (sSet .frz 2 (op2 hIx (op2 hIx (dVar 0) (dC (.int 0))) (op2 hMod (dB hInt (dCons (dVar 1) dNil)) (dB hLen (dCons (op2 hIx (dVar 0) (dC (.int 0))) dNil)))))
  sNx)
  (sSeq (sIf (tAnd' (tst (op2 hLt (dVar 1) (dB hLen (dCons (op2 hIx (dVar 0) (dC (.int 0))) dNil)))) (tst (op2 hGe (dVar 2) (op2 hPow (dC (.int 10)) (dC (.int 18))))))
  (sRet (dVar 2))
  sNx)
  (sSeq (sSet .frz 3 (op2 hMod (dB hInt (dCons (op2 hAdd (op2 hAdd (op2 hMod (dB hInt (dCons (dVar 2) dNil)) (dC (.int 2147483587))) (op2 hMul (dVar 1) (dC (.int 30103)))) (dC (.int 79))) dNil)) (dC (.int 2147483587))))
  (sSeq (sSet .frz 4 (op2 hMod (dB hInt (dCons (op2 hAdd (op2 hAdd (op2 hMul (dVar 3) (dVar 3)) (op2 hMul (dVar 1) (dC (.int 70039)))) (dC (.int 61))) dNil)) (dC (.int 2147483563))))
  (sSeq (sSet .frz 5 (op2 hMod (dB hInt (dCons (op2 hAdd (op2 hAdd (op2 hMul (dVar 4) (dVar 4)) (dVar 3)) (op2 hMul (op2 hMul (dVar 1) (dVar 1)) (dC (.int 37)))) dNil)) (dC (.int 2147483549))))
  (sRet (op2 hAdd (op2 hMul (op2 hAdd (op2 hMul (dVar 5) (dC (.int 2147483587))) (dVar 4)) (dC (.int 2147483563))) (dVar 3)))))))))))
noncomputable def f__law_next : List O → RF := mkFn 5 b__law_next
theorem ok__law_next (T : Tops K mg base) : GV P w K mg base (k + 1) "_law_next" ["_law_pen_here"] f__law_next :=
  gv_ok T.d__law_next sc__law_next (by decide) fun f cdv A outer s H E pv hr gd =>
  (dss_cons (ds_set .frz (i := 1) sc__law_next.nd rfl (.inl rfl) (de_ix (de_var (i := 0) rfl (.inl rfl)) de_int))
  (dss_cons (ds_setIx (i := 0) rfl (.inl rfl) de_int (de_add (de_var (i := 1) rfl (.inl rfl)) de_int))
  (dss_cons (ds_set .frz (i := 2) sc__law_next.nd rfl (.inl rfl) (de_add (de_mul (de_var (i := 1) rfl (.inl rfl)) de_int) de_int))
  (dss_cons (ds_if (dt_cmpR (cr_ne hr) (de_ix (de_var (i := 0) rfl (.inl rfl)) de_int) (de_lst da_nil))
  (dss_one (ds_set .frz (i := 2) sc__law_next.nd rfl (.inl rfl) (de_ix (de_ix (de_var (i := 0) rfl (.inl rfl)) de_int) (de_mod (de_typ typ_int (by rfl) T.n_int rfl (da_cons (de_var (i := 1) rfl (.inl rfl)) da_nil)) (de_blt blt_len (by rfl) T.n_len rfl (da_cons (de_ix (de_var (i := 0) rfl (.inl rfl)) de_int) da_nil))))))
  dss_nil)
  (dss_cons (ds_if (L2.PW.pt (dw_and (dt_cmpR cr_lt (de_var (i := 1) rfl (.inl rfl)) (de_blt blt_len (by rfl) T.n_len rfl (da_cons (de_ix (de_var (i := 0) rfl (.inl rfl)) de_int) da_nil))) (dw_and1 (dt_cmpR cr_ge (de_var (i := 2) rfl (.inl rfl)) (de_pow de_int de_int)))))
  (dss_one (ds_ret (de_var (i := 2) rfl (.inl rfl))))
  dss_nil)
  (dss_cons (ds_set .frz (i := 3) sc__law_next.nd rfl (.inl rfl) (de_mod (de_typ typ_int (by rfl) T.n_int rfl (da_cons (de_add (de_add (de_mod (de_typ typ_int (by rfl) T.n_int rfl (da_cons (de_var (i := 2) rfl (.inl rfl)) da_nil)) de_int) (de_mul (de_var (i := 1) rfl (.inl rfl)) de_int)) de_int) da_nil)) de_int))
  (dss_cons (ds_set .frz (i := 4) sc__law_next.nd rfl (.inl rfl) (de_mod (de_typ typ_int (by rfl) T.n_int rfl (da_cons (de_add (de_add (de_mul (de_var (i := 3) rfl (.inl rfl)) (de_var (i := 3) rfl (.inl rfl))) (de_mul (de_var (i := 1) rfl (.inl rfl)) de_int)) de_int) da_nil)) de_int))
  (dss_cons (ds_set .frz (i := 5) sc__law_next.nd rfl (.inl rfl) (de_mod (de_typ typ_int (by rfl) T.n_int rfl (da_cons (de_add (de_add (de_mul (de_var (i := 4) rfl (.inl rfl)) (de_var (i := 4) rfl (.inl rfl))) (de_var (i := 3) rfl (.inl rfl))) (de_mul (de_mul (de_var (i := 1) rfl (.inl rfl)) (de_var (i := 1) rfl (.inl rfl))) de_int)) da_nil)) de_int))
  (dss_one (ds_ret (de_add (de_mul (de_add (de_mul (de_var (i := 5) rfl (.inl rfl)) de_int) (de_var (i := 4) rfl (.inl rfl))) de_int) (de_var (i := 3) rfl (.inl rfl)))))))))))))
/-! ### _law_draw -/
theorem sc__law_draw : FnScope ["_law_pen_here", "_law_under", "_law_digit"] ["_law_pen_here", "_law_under"] (defScope s__law_draw) := ⟨rfl, rfl, rfl, by decide +kernel, rfl, by decide +kernel, by decide +kernel⟩
noncomputable def b__law_draw : M DL.Flow :=
  (sSeq (sIf (tst (op2 hLt (op2 hIx (dVar 0) (dC (.int 2))) (dVar 1)))
  (sSetIx 0 (dC (.int 2)) (dCall f__law_next [.io] (dCons (dVar 0) dNil)))
  sNx)
  (sSeq (sSet .frz 2 (op2 hMod (dB hInt (dCons (op2 hIx (dVar 0) (dC (.int 2))) dNil)) (dVar 1)))
  (sSeq (sSetIx 0 (dC (.int 2)) (op2 hDiv (op2 hIx (dVar 0) (dC (.int 2))) (dVar 1)))
  (sRet (dVar 2)))))
noncomputable def f__law_draw : List O → RF := mkFn 1 b__law_draw
theorem ok__law_draw (T : Tops K mg base) (G__law_next : GV P w K mg base k "_law_next" ["_law_pen_here"] f__law_next) : GV P w K mg base (k + 1) "_law_draw" ["_law_pen_here", "_law_under"] f__law_draw :=
  gv_ok T.d__law_draw sc__law_draw (by decide) fun f cdv A outer s H E pv hr gd =>
  (dss_cons (ds_if (dt_cmpR cr_lt (de_ix (de_var (i := 0) rfl (.inl rfl)) de_int) (de_var (i := 1) rfl (.inl rfl)))
  (dss_one (ds_setIx (i := 0) rfl (.inl rfl) de_int (de_callV (ms := [.io]) (L2.takes_of rfl rfl rfl rfl) G__law_next hr gd (by rfl) (da_cons (de_var (i := 0) rfl (.inl rfl)) da_nil))))
  dss_nil)
  (dss_cons (ds_set .frz (i := 2) sc__law_draw.nd rfl (.inl rfl) (de_mod (de_typ typ_int (by rfl) T.n_int rfl (da_cons (de_ix (de_var (i := 0) rfl (.inl rfl)) de_int) da_nil)) (de_var (i := 1) rfl (.inl rfl))))
  (dss_cons (ds_setIx (i := 0) rfl (.inl rfl) de_int (de_div (de_ix (de_var (i := 0) rfl (.inl rfl)) de_int) (de_var (i := 1) rfl (.inl rfl))))
  (dss_one (ds_ret (de_var (i := 2) rfl (.inl rfl)))))))
/-! ### _law_stretch -/
theorem sc__law_stretch : FnScope ["_law_pen_here", "_law_wide", "_law_first"] ["_law_pen_here", "_law_wide"] (defScope s__law_stretch) := ⟨rfl, rfl, rfl, by decide +kernel, rfl, by decide +kernel, by decide +kernel⟩
noncomputable def b__law_stretch : M DL.Flow :=
  (sSeq (sSet .frz 2 (op2 hSub (dCall f__law_draw [.io, .v] (dCons (dVar 0) (dCons (dVar 1) dNil))) (op2 hDiv (dVar 1) (dC (.int 3)))))
  (sRet (dTup (dCons (dVar 2) (dCons (op2 hAdd (dVar 2) (dCall f__law_draw [.io, .v] (dCons (dVar 0) (dCons (op2 hAdd (dC (.int 1)) (op2 hDiv (dVar 1) (dC (.int 2)))) dNil)))) dNil)))))
noncomputable def f__law_stretch : List O → RF := mkFn 1 b__law_stretch
theorem ok__law_stretch (T : Tops K mg base) (G__law_draw : GV P w K mg base k "_law_draw" ["_law_pen_here", "_law_under"] f__law_draw) : GV P w K mg base (k + 1) "_law_stretch" ["_law_pen_here", "_law_wide"] f__law_stretch :=
  gv_ok T.d__law_stretch sc__law_stretch (by decide) fun f cdv A outer s H E pv hr gd =>
  (dss_cons (ds_set .frz (i := 2) sc__law_stretch.nd rfl (.inl rfl) (de_sub (de_callV (ms := [.io, .v]) (L2.takes_of rfl rfl rfl rfl) G__law_draw hr gd (by rfl) (da_cons (de_var (i := 0) rfl (.inl rfl)) (da_cons (de_var (i := 1) rfl (.inl rfl)) da_nil))) (de_div (de_var (i := 1) rfl (.inl rfl)) de_int)))
  (dss_one (ds_ret (de_tup (da_cons (de_var (i := 2) rfl (.inl rfl)) (da_cons (de_add (de_var (i := 2) rfl (.inl rfl)) (de_callV (ms := [.io, .v]) (L2.takes_of rfl rfl rfl rfl) G__law_draw hr gd (by rfl) (da_cons (de_var (i := 0) rfl (.inl rfl)) (da_cons (de_add de_int (de_div (de_var (i := 1) rfl (.inl rfl)) de_int)) da_nil)))) da_nil))))))
/-! ### _law_row -/
theorem sc__law_row : FnScope ["_law_pen_here", "_law_many", "_law_road", "_law_row_here", "_law_lap", "_law_one"] ["_law_pen_here", "_law_many"] (defScope s__law_row) := ⟨rfl, rfl, rfl, by decide +kernel, rfl, by decide +kernel, by decide +kernel⟩
noncomputable def b__law_row : M DL.Flow :=
  (sSeq (sPar [(.frz, 2), (.keep, 3)] (dCons (dCall f__law_draw [.io, .v] (dCons (dVar 0) (dCons (dC (.int 6)) dNil))) (dCons (dLst dNil) dNil)))
  (sSeq (sFor (dRng1 (dCall f__law_draw [.io, .v] (dCons (dVar 0) (dCons (op2 hAdd (dVar 1) (dC (.int 1))) dNil)))) (.nm 4)
  (sSeq (sSet .frz 5 (dCall f__law_stretch [.io, .v] (dCons (dVar 0) (dCons (op2 hIx (dLst (dCons (dC (.int 6)) (dCons (dC (.int 12)) (dCons (dC (.int 30)) dNil)))) (dCall f__law_draw [.io, .v] (dCons (dVar 0) (dCons (dC (.int 3)) dNil)))) dNil))))
  (sSeq (sIf (tst (op2 (hEq false) (dVar 2) (dC (.int 1))))
  (sSet .frz 5 (dTup (dCons (op2 hMul (op2 hIx (dVar 5) (dC (.int 0))) (op2 hPow (dC (.int 10)) (dC (.int 7)))) (dCons (op2 hMul (op2 hIx (dVar 5) (dC (.int 1))) (op2 hPow (dC (.int 10)) (dC (.int 7)))) dNil))))
  sNx)
  (sSeq (sIf (tst (op2 (hEq false) (dVar 2) (dC (.int 2))))
  (sSet .frz 5 (dTup (dCons (op2 hIx (dVar 5) (dC (.int 0))) (dCons (op2 hAdd (op2 hIx (dVar 5) (dC (.int 0))) (dC (.int 2))) dNil))))
  sNx)
  (sSeq (sIf (tAnd' (tst (op2 (hEq false) (dVar 2) (dC (.int 3)))) (tst (op2 (hEq true) (dVar 3) (dLst dNil))))
  (sSet .frz 5 (op2 hIx (dVar 3) (dCall f__law_draw [.io, .v] (dCons (dVar 0) (dCons (dB hLen (dCons (dVar 3) dNil)) dNil)))))
  sNx)
  (sExpr (dMutL 3 gApp (dCons (dVar 5) dNil))))))))
  (sRet (dIf (tst (op2 (hEq false) (dVar 2) (dC (.int 4)))) (dB hSorted (dCons (dVar 3) dNil)) (dVar 3)))))
noncomputable def f__law_row : List O → RF := mkFn 4 b__law_row
theorem ok__law_row (T : Tops K mg base) (G__law_draw : GV P w K mg base k "_law_draw" ["_law_pen_here", "_law_under"] f__law_draw) (G__law_stretch : GV P w K mg base k "_law_stretch" ["_law_pen_here", "_law_wide"] f__law_stretch) : GV P w K mg base (k + 1) "_law_row" ["_law_pen_here", "_law_many"] f__law_row :=
  gv_ok T.d__law_row sc__law_row (by decide) fun f cdv A outer s H E pv hr gd =>
  (dss_cons (ds_par (h1 := .frz) (h2 := .keep) (i := 2) (j := 3) rfl sc__law_row.nd rfl rfl (by decide) rfl rfl (da_cons (de_callV (ms := [.io, .v]) (L2.takes_of rfl rfl rfl rfl) G__law_draw hr gd (by rfl) (da_cons (de_var (i := 0) rfl (.inl rfl)) (da_cons de_int da_nil))) (da_cons (de_lst da_nil) da_nil)) rfl)
  (dss_cons (ds_for (L2.passes_of rfl) rfl (di_rng1 (by rfl) T.n_range (de_callV (ms := [.io, .v]) (L2.takes_of rfl rfl rfl rfl) G__law_draw hr gd (by rfl) (da_cons (de_var (i := 0) rfl (.inl rfl)) (da_cons (de_add (de_var (i := 1) rfl (.inl rfl)) de_int) da_nil)))) (dg_nm (i := 4) sc__law_row.nd rfl (.inl rfl))
  (dss_cons (ds_set .frz (i := 5) sc__law_row.nd rfl (.inl rfl) (de_callV (ms := [.io, .v]) (L2.takes_of rfl rfl rfl rfl) G__law_stretch hr gd (by rfl) (da_cons (de_var (i := 0) rfl (.inl rfl)) (da_cons (de_ix (de_lst (da_cons de_int (da_cons de_int (da_cons de_int da_nil)))) (de_callV (ms := [.io, .v]) (L2.takes_of rfl rfl rfl rfl) G__law_draw hr gd (by rfl) (da_cons (de_var (i := 0) rfl (.inl rfl)) (da_cons de_int da_nil)))) da_nil))))
  (dss_cons (ds_if (dt_cmpR (cr_eq hr) (de_var (i := 2) rfl (.inl rfl)) de_int)
  (dss_one (ds_set .frz (i := 5) sc__law_row.nd rfl (.inl rfl) (de_tup (da_cons (de_mul (de_ix (de_var (i := 5) rfl (.inl rfl)) de_int) (de_pow de_int de_int)) (da_cons (de_mul (de_ix (de_var (i := 5) rfl (.inl rfl)) de_int) (de_pow de_int de_int)) da_nil)))))
  dss_nil)
  (dss_cons (ds_if (dt_cmpR (cr_eq hr) (de_var (i := 2) rfl (.inl rfl)) de_int)
  (dss_one (ds_set .frz (i := 5) sc__law_row.nd rfl (.inl rfl) (de_tup (da_cons (de_ix (de_var (i := 5) rfl (.inl rfl)) de_int) (da_cons (de_add (de_ix (de_var (i := 5) rfl (.inl rfl)) de_int) de_int) da_nil)))))
  dss_nil)
  (dss_cons (ds_if (L2.PW.pt (dw_and (dt_cmpR (cr_eq hr) (de_var (i := 2) rfl (.inl rfl)) de_int) (dw_and1 (dt_cmpR (cr_ne hr) (de_var (i := 3) rfl (.inl rfl)) (de_lst da_nil)))))
  (dss_one (ds_set .frz (i := 5) sc__law_row.nd rfl (.inl rfl) (de_ix (de_var (i := 3) rfl (.inl rfl)) (de_callV (ms := [.io, .v]) (L2.takes_of rfl rfl rfl rfl) G__law_draw hr gd (by rfl) (da_cons (de_var (i := 0) rfl (.inl rfl)) (da_cons (de_blt blt_len (by rfl) T.n_len rfl (da_cons (de_var (i := 3) rfl (.inl rfl)) da_nil)) da_nil))))))
  dss_nil)
  (dss_one (ds_expr (de_appV (i := 3) rfl (.inl rfl) (da_cons (de_var (i := 5) rfl (.inl rfl)) da_nil)))))))))
  (dss_one (ds_ret (de_if (dt_cmpR (cr_eq hr) (de_var (i := 2) rfl (.inl rfl)) de_int) (de_blt (blt_sorted hr) (by rfl) T.n_sorted rfl (da_cons (de_var (i := 3) rfl (.inl rfl)) da_nil)) (de_var (i := 3) rfl (.inl rfl)))))))
/-! ### _law_over -/
theorem sc__law_over : FnScope ["_law_row_here", "_law_point", "_law_one"] ["_law_row_here", "_law_point"] (defScope s__law_over) := ⟨rfl, rfl, rfl, by decide +kernel, rfl, by decide +kernel, by decide +kernel⟩
noncomputable def b__law_over : M DL.Flow :=
  (sRet (dB hSum (dCons (dComp (dSeqA (dVar 0)) (.nm 2) [2] tTrue (dB hInt (dCons (dChain hLe hLe (op2 hIx (dVar 2) (dC (.int 0))) (dVar 1) (op2 hIx (dVar 2) (dC (.int 1)))) dNil))) dNil)))
noncomputable def f__law_over : List O → RF := mkFn 1 b__law_over
theorem ok__law_over (T : Tops K mg base) : GV P w K mg base (k + 1) "_law_over" ["_law_row_here", "_law_point"] f__law_over :=
  gv_ok T.d__law_over sc__law_over (by decide) fun f cdv A outer s H E pv hr gd =>
  (dss_one (ds_ret (de_blt (blt_sum rfl) (by rfl) T.n_sum rfl (da_cons (de_comp (own := [("_law_one", 2)]) rfl sc__law_over.nd (di_any (de_var (i := 0) rfl (.inl rfl))) (by exact blkOk_by (N := ["_law_row_here", "_law_point", "_law_one"]) (sc := defScope s__law_over) (own := [("_law_one", 2)]) (by decide +kernel)) (by decide) (fun _ _ _ _ _ => (dg_nm (i := 2) sc__law_over.nd rfl (.inl rfl))) (fun _ _ _ _ _ => dts_nil) (fun _ _ _ _ _ => (de_typ typ_int (by rfl) T.n_int rfl (da_cons (de_chain cr_le cr_le (de_ix (de_var (i := 2) rfl (.inl rfl)) de_int) (de_var (i := 1) rfl (.inr (.inl rfl))) (de_ix (de_var (i := 2) rfl (.inl rfl)) de_int)) da_nil)))) da_nil))))
/-! ### _law_is_full -/
theorem sc__law_is_full : FnScope ["_law_row_here", "_law_depths", "_law_layer", "_law_points", "_law_some", "_law_j", "_law_depth", "_law_point"] ["_law_row_here", "_law_depths", "_law_layer", "_law_points"] (defScope s__law_is_full) := ⟨rfl, rfl, rfl, by decide +kernel, rfl, by decide +kernel, by decide +kernel⟩
noncomputable def b__law_is_full : M DL.Flow :=
  (sSeq (sSet .frz 4 (dComp (dEnum (dVar 1)) (.tp [(.nm 5), (.nm 6)]) [5, 6] (tst (op2 hLe (dVar 6) (dVar 2))) (op2 hIx (dVar 0) (dVar 5))))
  (sRet (dB hAny (dCons (dComp (dSeqA (dVar 3)) (.nm 7) [7] tTrue (op2 hGe (dCall f__law_over [.v, .v] (dCons (dVar 4) (dCons (dVar 7) dNil))) (dVar 2))) dNil))))
noncomputable def f__law_is_full : List O → RF := mkFn 4 b__law_is_full
theorem ok__law_is_full (T : Tops K mg base) (G__law_over : GV P w K mg base k "_law_over" ["_law_row_here", "_law_point"] f__law_over) : GV P w K mg base (k + 1) "_law_is_full" ["_law_row_here", "_law_depths", "_law_layer", "_law_points"] f__law_is_full :=
  gv_ok T.d__law_is_full sc__law_is_full (by decide) fun f cdv A outer s H E pv hr gd =>
  (dss_cons (ds_set .frz (i := 4) sc__law_is_full.nd rfl (.inr rfl) (de_comp (own := [("_law_j", 5), ("_law_depth", 6)]) rfl sc__law_is_full.nd (di_enum (by rfl) T.n_enumerate (de_var (i := 1) rfl (.inl rfl))) (by exact blkOk_by (N := ["_law_row_here", "_law_depths", "_law_layer", "_law_points", "_law_some", "_law_j", "_law_depth", "_law_point"]) (sc := defScope s__law_is_full) (own := [("_law_j", 5), ("_law_depth", 6)]) (by decide +kernel)) (by decide) (fun _ _ _ _ _ => (dg_tp rfl (dgs_cons (dg_nm (i := 5) sc__law_is_full.nd rfl (.inl rfl)) (dgs_cons (dg_nm (i := 6) sc__law_is_full.nd rfl (.inl rfl)) dgs_nil)))) (fun _ _ _ _ _ => (dts_one (dt_cmpR cr_le (de_var (i := 6) rfl (.inl rfl)) (de_var (i := 2) rfl (.inr (.inl rfl)))))) (fun _ _ _ _ _ => (de_ix (de_var (i := 0) rfl (.inr (.inl rfl))) (de_var (i := 5) rfl (.inl rfl))))))
  (dss_one (ds_ret (de_blt (blt_any rfl) (by rfl) T.n_any rfl (da_cons (de_comp (own := [("_law_point", 7)]) rfl sc__law_is_full.nd (di_any (de_var (i := 3) rfl (.inl rfl))) (by exact blkOk_by (N := ["_law_row_here", "_law_depths", "_law_layer", "_law_points", "_law_some", "_law_j", "_law_depth", "_law_point"]) (sc := defScope s__law_is_full) (own := [("_law_point", 7)]) (by decide +kernel)) (by decide) (fun _ _ _ _ _ => (dg_nm (i := 7) sc__law_is_full.nd rfl (.inl rfl))) (fun _ _ _ _ _ => dts_nil) (fun _ _ _ _ _ => (de_cmpR cr_ge (de_callV (ms := [.v, .v]) LamX.takes0 G__law_over hr gd (by rfl) (da_cons (de_var (i := 4) rfl (.inr (.inl rfl))) (da_cons (de_var (i := 7) rfl (.inl rfl)) da_nil))) (de_var (i := 2) rfl (.inr (.inl rfl)))))) da_nil)))))
/-! ### _law_layers -/
theorem sc__law_layers : FnScope ["_law_row_here", "_law_ends", "_law_found", "_law_k", "_law_low", "_law_high", "_law_layer", "_law_points", "_law_point", "_law_one"] ["_law_row_here"] (defScope s__law_layers) := ⟨rfl, rfl, rfl, by decide +kernel, rfl, by decide +kernel, by decide +kernel⟩
noncomputable def b__law_layers : M DL.Flow :=
  (sSeq (sPar [(.frz, 1), (.keep, 2)] (dCons (op2 hAdd (dComp (dSeqA (dVar 0)) (.nm 9) [9] tTrue (op2 hIx (dVar 9) (dC (.int 0)))) (dComp (dSeqA (dVar 0)) (.nm 9) [9] tTrue (op2 hIx (dVar 9) (dC (.int 1))))) (dCons (dLst dNil) dNil)))
  (sSeq (sFor (dRng1 (dB hLen (dCons (dVar 0) dNil))) (.nm 3)
  (sSeq (sAsg (.tp [(.nm 4), (.nm 5), (.nm 6)]) (dTup (dCons (op2 hIx (op2 hIx (dVar 0) (dVar 3)) (dC (.int 0))) (dCons (op2 hIx (op2 hIx (dVar 0) (dVar 3)) (dC (.int 1))) (dCons (dC (.int 1)) dNil)))))
  (sSeq (sSet .frz 7 (dComp (dSeqA (dVar 1)) (.nm 8) [8] (tst (dChain hLe hLe (dVar 4) (dVar 8) (dVar 5))) (dVar 8)))
  (sSeq (whL (tst (dCall f__law_is_full [.v, .v, .v, .v] (dCons (dVar 0) (dCons (dVar 2) (dCons (dVar 6) (dCons (dVar 7) dNil))))))
  (sSet .frz 6 (op2 hAdd (dVar 6) (dC (.int 1)))) 100)
  (sExpr (dMutL 2 gApp (dCons (dVar 6) dNil)))))))
  (sRet (dVar 2))))
noncomputable def f__law_layers : List O → RF := mkFn 9 b__law_layers
theorem ok__law_layers (T : Tops K mg base) (G__law_is_full : GV P w K mg base k "_law_is_full" ["_law_row_here", "_law_depths", "_law_layer", "_law_points"] f__law_is_full) : GV P w K mg base (k + 1) "_law_layers" ["_law_row_here"] f__law_layers :=
  gv_ok T.d__law_layers sc__law_layers (by decide) fun f cdv A outer s H E pv hr gd =>
  (dss_cons (ds_par (h1 := .frz) (h2 := .keep) (i := 1) (j := 2) rfl sc__law_layers.nd rfl rfl (by decide) rfl rfl (da_cons (de_add (de_comp (own := [("_law_one", 9)]) rfl sc__law_layers.nd (di_any (de_var (i := 0) rfl (.inl rfl))) (by exact blkOk_by (N := ["_law_row_here", "_law_ends", "_law_found", "_law_k", "_law_low", "_law_high", "_law_layer", "_law_points", "_law_point", "_law_one"]) (sc := defScope s__law_layers) (own := [("_law_one", 9)]) (by decide +kernel)) (by decide) (fun _ _ _ _ _ => (dg_nm (i := 9) sc__law_layers.nd rfl (.inl rfl))) (fun _ _ _ _ _ => dts_nil) (fun _ _ _ _ _ => (de_ix (de_var (i := 9) rfl (.inl rfl)) de_int))) (de_comp (own := [("_law_one", 9)]) rfl sc__law_layers.nd (di_any (de_var (i := 0) rfl (.inl rfl))) (by exact blkOk_by (N := ["_law_row_here", "_law_ends", "_law_found", "_law_k", "_law_low", "_law_high", "_law_layer", "_law_points", "_law_point", "_law_one"]) (sc := defScope s__law_layers) (own := [("_law_one", 9)]) (by decide +kernel)) (by decide) (fun _ _ _ _ _ => (dg_nm (i := 9) sc__law_layers.nd rfl (.inl rfl))) (fun _ _ _ _ _ => dts_nil) (fun _ _ _ _ _ => (de_ix (de_var (i := 9) rfl (.inl rfl)) de_int)))) (da_cons (de_lst da_nil) da_nil)) rfl)
  (dss_cons (ds_for (L2.passes_of rfl) rfl (di_rng1 (by rfl) T.n_range (de_blt blt_len (by rfl) T.n_len rfl (da_cons (de_var (i := 0) rfl (.inl rfl)) da_nil))) (dg_nm (i := 3) sc__law_layers.nd rfl (.inl rfl))
  (dss_cons (ds_asg (de_tup (da_cons (de_ix (de_ix (de_var (i := 0) rfl (.inl rfl)) (de_var (i := 3) rfl (.inl rfl))) de_int) (da_cons (de_ix (de_ix (de_var (i := 0) rfl (.inl rfl)) (de_var (i := 3) rfl (.inl rfl))) de_int) (da_cons de_int da_nil)))) (dg_tp rfl (dgs_cons (dg_nm (i := 4) sc__law_layers.nd rfl (.inr rfl)) (dgs_cons (dg_nm (i := 5) sc__law_layers.nd rfl (.inr rfl)) (dgs_cons (dg_nm (i := 6) sc__law_layers.nd rfl (.inl rfl)) dgs_nil)))))
  (dss_cons (ds_setComp (own := [("_law_point", 8)]) .frz (i := 7) rfl sc__law_layers.nd rfl rfl rfl (di_any (de_var (i := 1) rfl (.inl rfl))) (by exact blkOk_by (N := ["_law_row_here", "_law_ends", "_law_found", "_law_k", "_law_low", "_law_high", "_law_layer", "_law_points", "_law_point", "_law_one"]) (sc := defScope s__law_layers) (own := [("_law_point", 8)]) (by decide +kernel)) (by decide) (fun _ _ _ _ _ => (dg_nm (i := 8) sc__law_layers.nd rfl (.inl rfl))) (fun _ _ _ _ _ => (dts_one (dt_chain cr_le cr_le (de_var (i := 4) rfl (.inr (.inl rfl))) (de_var (i := 8) rfl (.inl rfl)) (de_var (i := 5) rfl (.inr (.inl rfl)))))) (fun _ _ _ _ _ => (de_var (i := 8) rfl (.inl rfl))))
  (dss_cons (ds_while (100) (L2.passes_of rfl) (dt_val (de_callV (ms := [.v, .v, .v, .v]) (L2.takes_of rfl rfl rfl rfl) G__law_is_full hr gd (by rfl) (da_cons (de_var (i := 0) rfl (.inl rfl)) (da_cons (de_var (i := 2) rfl (.inl rfl)) (da_cons (de_var (i := 6) rfl (.inl rfl)) (da_cons (de_var (i := 7) rfl (.inl rfl)) da_nil))))))
  (dss_one (ds_set .frz (i := 6) sc__law_layers.nd rfl (.inl rfl) (de_add (de_var (i := 6) rfl (.inl rfl)) de_int))))
  (dss_one (ds_expr (de_appV (i := 2) rfl (.inl rfl) (da_cons (de_var (i := 6) rfl (.inl rfl)) da_nil))))))))
  (dss_one (ds_ret (de_var (i := 2) rfl (.inl rfl))))))
/-! ### _law_touch -/
theorem sc__law_touch : FnScope ["_law_one", "_law_other"] ["_law_one", "_law_other"] (defScope s__law_touch) := ⟨rfl, rfl, rfl, by decide +kernel, rfl, by decide +kernel, by decide +kernel⟩
noncomputable def b__law_touch : M DL.Flow :=
  (sRet (op2 hLe (dB hMax2 (dCons (op2 hIx (dVar 0) (dC (.int 0))) (dCons (op2 hIx (dVar 1) (dC (.int 0))) dNil))) (dB hMin2 (dCons (op2 hIx (dVar 0) (dC (.int 1))) (dCons (op2 hIx (dVar 1) (dC (.int 1))) dNil)))))
noncomputable def f__law_touch : List O → RF := mkFn 0 b__law_touch
theorem ok__law_touch (T : Tops K mg base) : GV P w K mg base (k + 1) "_law_touch" ["_law_one", "_law_other"] f__law_touch :=
  gv_ok T.d__law_touch sc__law_touch (by decide) fun f cdv A outer s H E pv hr gd =>
  (dss_one (ds_ret (de_cmpR cr_le (de_blt (blt_max2 rfl) (by rfl) T.n_max rfl (da_cons (de_ix (de_var (i := 0) rfl (.inl rfl)) de_int) (da_cons (de_ix (de_var (i := 1) rfl (.inl rfl)) de_int) da_nil))) (de_blt (blt_min2 rfl) (by rfl) T.n_min rfl (da_cons (de_ix (de_var (i := 0) rfl (.inl rfl)) de_int) (da_cons (de_ix (de_var (i := 1) rfl (.inl rfl)) de_int) da_nil))))))
/-! ### _law_least -/
theorem sc__law_least : FnScope ["_law_bars", "_law_first", "_law_colour"] ["_law_bars", "_law_first"] (defScope s__law_least) := ⟨rfl, rfl, rfl, by decide +kernel, rfl, by decide +kernel, by decide +kernel⟩
noncomputable def b__law_least : M DL.Flow :=
  (sSeq (sSet .frz 2 (dVar 1))
  (sSeq (whL (tst (op2 (hIn2 false) (dVar 2) (dVar 0)))
  (sSet .frz 2 (op2 hAdd (dVar 2) (dC (.int 1)))) 100)
  (sRet (dVar 2))))
noncomputable def f__law_least : List O → RF := mkFn 1 b__law_least
theorem ok__law_least (T : Tops K mg base) : GV P w K mg base (k + 1) "_law_least" ["_law_bars", "_law_first"] f__law_least :=
  gv_ok T.d__law_least sc__law_least (by decide) fun f cdv A outer s H E pv hr gd =>
  (dss_cons (ds_set .frz (i := 2) sc__law_least.nd rfl (.inl rfl) (de_var (i := 1) rfl (.inl rfl)))
  (dss_cons (ds_while (100) (L2.passes_of rfl) (dt_cmpR (cr_in2 hr) (de_var (i := 2) rfl (.inl rfl)) (de_var (i := 0) rfl (.inl rfl)) (by with_unfolding_all rfl))
  (dss_one (ds_set .frz (i := 2) sc__law_least.nd rfl (.inl rfl) (de_add (de_var (i := 2) rfl (.inl rfl)) de_int))))
  (dss_one (ds_ret (de_var (i := 2) rfl (.inl rfl))))))
/-! ### _law_hues -/
theorem sc__law_hues : FnScope ["_law_row_here", "_law_depths", "_law_found", "_law_k", "_law_layer", "_law_bars", "_law_j"] ["_law_row_here"] (defScope s__law_hues) := ⟨rfl, rfl, rfl, by decide +kernel, rfl, by decide +kernel, by decide +kernel⟩
noncomputable def b__law_hues : M DL.Flow :=
  (sSeq (sPar [(.frz, 1), (.keep, 2)] (dCons (dCall f__law_layers [.v] (dCons (dVar 0) dNil)) (dCons (dLst dNil) dNil)))
  (sSeq (sFor (dRng1 (dB hLen (dCons (dVar 0) dNil))) (.nm 3)
  (sSeq (sPar [(.frz, 4), (.keep, 5)] (dCons (op2 hIx (dVar 1) (dVar 3)) (dCons (dLst dNil) dNil)))
  (sSeq (sFor (dRng1 (dVar 3)) (.nm 6)
  (sIf (tAnd' (tst (op2 (hEq false) (op2 hIx (dVar 1) (dVar 6)) (dVar 4))) (tst (dCall f__law_touch [.v, .v] (dCons (op2 hIx (dVar 0) (dVar 6)) (dCons (op2 hIx (dVar 0) (dVar 3)) dNil)))))
  (sExpr (dMutL 5 gApp (dCons (op2 hIx (dVar 2) (dVar 6)) dNil)))
  sNx))
  (sExpr (dMutL 2 gApp (dCons (dIf (tst (op2 (hEq false) (dVar 4) (dC (.int 1)))) (dC (.int 1)) (dCall f__law_least [.v, .v] (dCons (dVar 5) (dCons (op2 hSub (op2 hMul (dC (.int 3)) (dVar 4)) (dC (.int 4))) dNil)))) dNil))))))
  (sRet (dVar 2))))
noncomputable def f__law_hues : List O → RF := mkFn 6 b__law_hues
theorem ok__law_hues (T : Tops K mg base) (G__law_touch : GV P w K mg base k "_law_touch" ["_law_one", "_law_other"] f__law_touch) (G__law_least : GV P w K mg base k "_law_least" ["_law_bars", "_law_first"] f__law_least) (G__law_layers : GV P w K mg base k "_law_layers" ["_law_row_here"] f__law_layers) : GV P w K mg base (k + 1) "_law_hues" ["_law_row_here"] f__law_hues :=
  gv_ok T.d__law_hues sc__law_hues (by decide) fun f cdv A outer s H E pv hr gd =>
  (dss_cons (ds_par (h1 := .frz) (h2 := .keep) (i := 1) (j := 2) rfl sc__law_hues.nd rfl rfl (by decide) rfl rfl (da_cons (de_callV (ms := [.v]) (L2.takes_of rfl rfl rfl rfl) G__law_layers hr gd (by rfl) (da_cons (de_var (i := 0) rfl (.inl rfl)) da_nil)) (da_cons (de_lst da_nil) da_nil)) rfl)
  (dss_cons (ds_for (L2.passes_of rfl) rfl (di_rng1 (by rfl) T.n_range (de_blt blt_len (by rfl) T.n_len rfl (da_cons (de_var (i := 0) rfl (.inl rfl)) da_nil))) (dg_nm (i := 3) sc__law_hues.nd rfl (.inl rfl))
  (dss_cons (ds_par (h1 := .frz) (h2 := .keep) (i := 4) (j := 5) rfl sc__law_hues.nd rfl rfl (by decide) rfl rfl (da_cons (de_ix (de_var (i := 1) rfl (.inl rfl)) (de_var (i := 3) rfl (.inl rfl))) (da_cons (de_lst da_nil) da_nil)) rfl)
  (dss_cons (ds_for (L2.passes_of rfl) rfl (di_rng1 (by rfl) T.n_range (de_var (i := 3) rfl (.inl rfl))) (dg_nm (i := 6) sc__law_hues.nd rfl (.inl rfl))
  (dss_one (ds_if (L2.PW.pt (dw_and (dt_cmpR (cr_eq hr) (de_ix (de_var (i := 1) rfl (.inl rfl)) (de_var (i := 6) rfl (.inl rfl))) (de_var (i := 4) rfl (.inl rfl))) (dw_and1 (dt_val (de_callV (ms := [.v, .v]) (L2.takes_of rfl rfl rfl rfl) G__law_touch hr gd (by rfl) (da_cons (de_ix (de_var (i := 0) rfl (.inl rfl)) (de_var (i := 6) rfl (.inl rfl))) (da_cons (de_ix (de_var (i := 0) rfl (.inl rfl)) (de_var (i := 3) rfl (.inl rfl))) da_nil)))))))
  (dss_one (ds_expr (de_appV (i := 5) rfl (.inl rfl) (da_cons (de_ix (de_var (i := 2) rfl (.inl rfl)) (de_var (i := 6) rfl (.inl rfl))) da_nil))))
  dss_nil)))
  (dss_one (ds_expr (de_appV (i := 2) rfl (.inl rfl) (da_cons (de_if (dt_cmpR (cr_eq hr) (de_var (i := 4) rfl (.inl rfl)) de_int) de_int (de_callV (ms := [.v, .v]) (L2.takes_of rfl rfl rfl rfl) G__law_least hr gd (by rfl) (da_cons (de_var (i := 5) rfl (.inl rfl)) (da_cons (de_sub (de_mul de_int (de_var (i := 4) rfl (.inl rfl))) de_int) da_nil)))) da_nil)))))))
  (dss_one (ds_ret (de_var (i := 2) rfl (.inl rfl))))))
/-! ### is_integer -/
theorem sc_is_integer : FnScope ["thing"] ["thing"] (defScope s_is_integer) := ⟨rfl, rfl, rfl, by decide +kernel, rfl, by decide +kernel, by decide +kernel⟩
noncomputable def b_is_integer : M DL.Flow :=
  (sRet (dAnd (dB hIsi (dCons (dVar 0) (dCons (dC (.ty "int")) dNil))) (dNot (dB hIsi (dCons (dVar 0) (dCons (dC (.ty "bool")) dNil))))))
noncomputable def f_is_integer : List O → RF := mkFn 0 b_is_integer
theorem ok_is_integer (T : Tops K mg base) : GV P w K mg base (k + 1) "is_integer" ["thing"] f_is_integer :=
  gv_ok T.d_is_integer sc_is_integer (by decide) fun f cdv A outer s H E pv hr gd =>
  (dss_one (ds_ret (de_and (de_blt blt_isi (by rfl) T.n_isinstance rfl (da_cons (de_var (i := 0) rfl (.inl rfl)) (da_cons (de_ty (by rfl) T.n_int rfl) da_nil))) (de_one (de_not (de_blt blt_isi (by rfl) T.n_isinstance rfl (da_cons (de_var (i := 0) rfl (.inl rfl)) (da_cons (de_ty (by rfl) T.n_bool rfl) da_nil))))))))
/-! ### is_within -/
theorem sc_is_within : FnScope ["thing", "least", "most"] ["thing", "least", "most"] (defScope s_is_within) := ⟨rfl, rfl, rfl, by decide +kernel, rfl, by decide +kernel, by decide +kernel⟩
noncomputable def b_is_within : M DL.Flow :=
  (sRet (dAnd (dCall f_is_integer [.v] (dCons (dVar 0) dNil)) (dChain hLe hLe (dVar 1) (dVar 0) (dVar 2))))
noncomputable def f_is_within : List O → RF := mkFn 0 b_is_within
theorem ok_is_within (T : Tops K mg base) (G_is_integer : GV P w K mg base k "is_integer" ["thing"] f_is_integer) : GV P w K mg base (k + 1) "is_within" ["thing", "least", "most"] f_is_within :=
  gv_ok T.d_is_within sc_is_within (by decide) fun f cdv A outer s H E pv hr gd =>
  (dss_one (ds_ret (de_and (de_callV (ms := [.v]) (L2.takes_of rfl rfl rfl rfl) G_is_integer hr gd (by rfl) (da_cons (de_var (i := 0) rfl (.inl rfl)) da_nil)) (de_one (de_chain cr_le cr_le (de_var (i := 1) rfl (.inl rfl)) (de_var (i := 0) rfl (.inl rfl)) (de_var (i := 2) rfl (.inl rfl)))))))
/-! ### is_point -/
theorem sc_is_point : FnScope ["thing"] ["thing"] (defScope s_is_point) := ⟨rfl, rfl, rfl, by decide +kernel, rfl, by decide +kernel, by decide +kernel⟩
noncomputable def b_is_point : M DL.Flow :=
  (sRet (dCall f_is_within [.v, .v, .v] (dCons (dVar 0) (dCons (op1 hNeg (dC (.int 1000000000))) (dCons (dC (.int 1000000000)) dNil)))))
noncomputable def f_is_point : List O → RF := mkFn 0 b_is_point
theorem ok_is_point (T : Tops K mg base) (G_is_within : GV P w K mg base k "is_within" ["thing", "least", "most"] f_is_within) : GV P w K mg base (k + 1) "is_point" ["thing"] f_is_point :=
  gv_ok T.d_is_point sc_is_point (by decide) fun f cdv A outer s H E pv hr gd =>
  (dss_one (ds_ret (de_callV (ms := [.v, .v, .v]) (L2.takes_of rfl rfl rfl rfl) G_is_within hr gd (by rfl) (da_cons (de_var (i := 0) rfl (.inl rfl)) (da_cons (de_neg (de_globI T.g_FARTHEST (by rfl))) (da_cons (de_globI T.g_FARTHEST (by rfl)) da_nil))))))
/-! ### is_stretch -/
theorem sc_is_stretch : FnScope ["thing", "end"] ["thing"] (defScope s_is_stretch) := ⟨rfl, rfl, rfl, by decide +kernel, rfl, by decide +kernel, by decide +kernel⟩
noncomputable def b_is_stretch : M DL.Flow :=
  (sSeq (sIf (tOr' (tNot' (tst (dB hIsi (dCons (dVar 0) (dCons (dC (.ty "tuple")) dNil))))) (tOr' (tst (op2 (hEq true) (dB hLen (dCons (dVar 0) dNil)) (dC (.int 2)))) (tNot' (tst (dB hAll (dCons (dComp (dSeqA (dVar 0)) (.nm 1) [1] tTrue (dCall f_is_point [.v] (dCons (dVar 1) dNil))) dNil))))))
  (sRet (dC (.bl false)))
  sNx)
  (sRet (op2 hLe (op2 hIx (dVar 0) (dC (.int 0))) (op2 hIx (dVar 0) (dC (.int 1))))))
noncomputable def f_is_stretch : List O → RF := mkFn 1 b_is_stretch
theorem ok_is_stretch (T : Tops K mg base) (G_is_point : GV P w K mg base k "is_point" ["thing"] f_is_point) : GV P w K mg base (k + 1) "is_stretch" ["thing"] f_is_stretch :=
  gv_ok T.d_is_stretch sc_is_stretch (by decide) fun f cdv A outer s H E pv hr gd =>
  (dss_cons (ds_if (L2.PW.pt (dw_or (dt_not (dt_val (de_blt blt_isi (by rfl) T.n_isinstance rfl (da_cons (de_var (i := 0) rfl (.inl rfl)) (da_cons (de_ty (by rfl) T.n_tuple rfl) da_nil))))) (dw_or (dt_cmpR (cr_ne hr) (de_blt blt_len (by rfl) T.n_len rfl (da_cons (de_var (i := 0) rfl (.inl rfl)) da_nil)) de_int) (dw_or1 (dt_not (dt_val (de_blt (blt_all rfl) (by rfl) T.n_all rfl (da_cons (de_comp (own := [("end", 1)]) rfl sc_is_stretch.nd (di_any (de_var (i := 0) rfl (.inl rfl))) (by exact blkOk_by (N := ["thing", "end"]) (sc := defScope s_is_stretch) (own := [("end", 1)]) (by decide +kernel)) (by decide) (fun _ _ _ _ _ => (dg_nm (i := 1) sc_is_stretch.nd rfl (.inl rfl))) (fun _ _ _ _ _ => dts_nil) (fun _ _ _ _ _ => (de_callV (ms := [.v]) LamX.takes0 G_is_point hr gd (by rfl) (da_cons (de_var (i := 1) rfl (.inl rfl)) da_nil)))) da_nil))))))))
  (dss_one (ds_ret de_bl))
  dss_nil)
  (dss_one (ds_ret (de_cmpR cr_le (de_ix (de_var (i := 0) rfl (.inl rfl)) de_int) (de_ix (de_var (i := 0) rfl (.inl rfl)) de_int)))))
/-! ### is_row -/
theorem sc_is_row : FnScope ["thing", "one"] ["thing"] (defScope s_is_row) := ⟨rfl, rfl, rfl, by decide +kernel, rfl, by decide +kernel, by decide +kernel⟩
noncomputable def b_is_row : M DL.Flow :=
  (sRet (dAnd (dB hIsi (dCons (dVar 0) (dCons (dC (.ty "list")) dNil))) (dB hAll (dCons (dComp (dSeqA (dVar 0)) (.nm 1) [1] tTrue (dCall f_is_stretch [.v] (dCons (dVar 1) dNil))) dNil))))
noncomputable def f_is_row : List O → RF := mkFn 1 b_is_row
theorem ok_is_row (T : Tops K mg base) (G_is_stretch : GV P w K mg base k "is_stretch" ["thing"] f_is_stretch) : GV P w K mg base (k + 1) "is_row" ["thing"] f_is_row :=
  gv_ok T.d_is_row sc_is_row (by decide) fun f cdv A outer s H E pv hr gd =>
  (dss_one (ds_ret (de_and (de_blt blt_isi (by rfl) T.n_isinstance rfl (da_cons (de_var (i := 0) rfl (.inl rfl)) (da_cons (de_ty (by rfl) T.n_list rfl) da_nil))) (de_one (de_blt (blt_all rfl) (by rfl) T.n_all rfl (da_cons (de_comp (own := [("one", 1)]) rfl sc_is_row.nd (di_any (de_var (i := 0) rfl (.inl rfl))) (by exact blkOk_by (N := ["thing", "one"]) (sc := defScope s_is_row) (own := [("one", 1)]) (by decide +kernel)) (by decide) (fun _ _ _ _ _ => (dg_nm (i := 1) sc_is_row.nd rfl (.inl rfl))) (fun _ _ _ _ _ => dts_nil) (fun _ _ _ _ _ => (de_callV (ms := [.v]) LamX.takes0 G_is_stretch hr gd (by rfl) (da_cons (de_var (i := 1) rfl (.inl rfl)) da_nil)))) da_nil))))))
/-! ### check_row -/
theorem sc_check_row : FnScope ["thing"] ["thing"] (defScope s_check_row) := ⟨rfl, rfl, rfl, by decide +kernel, rfl, by decide +kernel, by decide +kernel⟩
noncomputable def b_check_row : M DL.Flow :=
  (sIf (tNot' (tst (dCall f_is_row [.v] (dCons (dVar 0) dNil))))
  (sRaise "InvalidRow")
  sNx)
noncomputable def f_check_row : List O → RF := mkFn 0 b_check_row
theorem ok_check_row (T : Tops K mg base) (G_is_row : GV P w K mg base k "is_row" ["thing"] f_is_row) : GV P w K mg base (k + 1) "check_row" ["thing"] f_check_row :=
  gv_ok T.d_check_row sc_check_row (by decide) fun f cdv A outer s H E pv hr gd =>
  (dss_one (ds_if (dt_not (dt_val (de_callV (ms := [.v]) (L2.takes_of rfl rfl rfl rfl) G_is_row hr gd (by rfl) (da_cons (de_var (i := 0) rfl (.inl rfl)) da_nil))))
  (dss_one (ds_raise rfl (L2.takes_of rfl rfl rfl rfl) T.x_InvalidRow.choose_spec (by rfl)))
  dss_nil))
/-! ### covers -/
theorem sc_covers : FnScope ["stretch", "point"] ["stretch", "point"] (defScope s_covers) := ⟨rfl, rfl, rfl, by decide +kernel, rfl, by decide +kernel, by decide +kernel⟩
noncomputable def b_covers : M DL.Flow :=
  (sRet (dChain hLe hLe (op2 hIx (dVar 0) (dC (.int 0))) (dVar 1) (op2 hIx (dVar 0) (dC (.int 1)))))
noncomputable def f_covers : List O → RF := mkFn 0 b_covers
theorem ok_covers (T : Tops K mg base) : GV P w K mg base (k + 1) "covers" ["stretch", "point"] f_covers :=
  gv_ok T.d_covers sc_covers (by decide) fun f cdv A outer s H E pv hr gd =>
  (dss_one (ds_ret (de_chain cr_le cr_le (de_ix (de_var (i := 0) rfl (.inl rfl)) de_int) (de_var (i := 1) rfl (.inl rfl)) (de_ix (de_var (i := 0) rfl (.inl rfl)) de_int))))
/-! ### load_over -/
theorem sc_load_over : FnScope ["row", "point", "one"] ["row", "point"] (defScope s_load_over) := ⟨rfl, rfl, rfl, by decide +kernel, rfl, by decide +kernel, by decide +kernel⟩
noncomputable def b_load_over : M DL.Flow :=
  (sRet (dB hLen (dCons (dComp (dSeqA (dVar 0)) (.nm 2) [2] (tst (dCall f_covers [.v, .v] (dCons (dVar 2) (dCons (dVar 1) dNil)))) (dVar 2)) dNil)))
noncomputable def f_load_over : List O → RF := mkFn 1 b_load_over
theorem ok_load_over (T : Tops K mg base) (G_covers : GV P w K mg base k "covers" ["stretch", "point"] f_covers) : GV P w K mg base (k + 1) "load_over" ["row", "point"] f_load_over :=
  gv_ok T.d_load_over sc_load_over (by decide) fun f cdv A outer s H E pv hr gd =>
  (dss_one (ds_ret (de_blt blt_len (by rfl) T.n_len rfl (da_cons (de_comp (own := [("one", 2)]) rfl sc_load_over.nd (di_any (de_var (i := 0) rfl (.inl rfl))) (by exact blkOk_by (N := ["row", "point", "one"]) (sc := defScope s_load_over) (own := [("one", 2)]) (by decide +kernel)) (by decide) (fun _ _ _ _ _ => (dg_nm (i := 2) sc_load_over.nd rfl (.inl rfl))) (fun _ _ _ _ _ => (dts_one (dt_val (de_callV (ms := [.v, .v]) LamX.takes0 G_covers hr gd (by rfl) (da_cons (de_var (i := 2) rfl (.inl rfl)) (da_cons (de_var (i := 1) rfl (.inr (.inl rfl))) da_nil)))))) (fun _ _ _ _ _ => (de_var (i := 2) rfl (.inl rfl)))) da_nil))))
/-! ### points_of -/
theorem sc_points_of : FnScope ["row", "stretch", "one"] ["row", "stretch"] (defScope s_points_of) := ⟨rfl, rfl, rfl, by decide +kernel, rfl, by decide +kernel, by decide +kernel⟩
noncomputable def b_points_of : M DL.Flow :=
  (sRet (op2 hAdd (dLst (dCons (op2 hIx (dVar 1) (dC (.int 0))) dNil)) (dComp (dSeqA (dVar 0)) (.nm 2) [2] (tst (dCall f_covers [.v, .v] (dCons (dVar 1) (dCons (op2 hIx (dVar 2) (dC (.int 0))) dNil)))) (op2 hIx (dVar 2) (dC (.int 0))))))
noncomputable def f_points_of : List O → RF := mkFn 1 b_points_of
theorem ok_points_of (T : Tops K mg base) (G_covers : GV P w K mg base k "covers" ["stretch", "point"] f_covers) : GV P w K mg base (k + 1) "points_of" ["row", "stretch"] f_points_of :=
  gv_ok T.d_points_of sc_points_of (by decide) fun f cdv A outer s H E pv hr gd =>
  (dss_one (ds_ret (de_add (de_lst (da_cons (de_ix (de_var (i := 1) rfl (.inr (.inl rfl))) de_int) da_nil)) (de_comp (own := [("one", 2)]) rfl sc_points_of.nd (di_any (de_var (i := 0) rfl (.inl rfl))) (by exact blkOk_by (N := ["row", "stretch", "one"]) (sc := defScope s_points_of) (own := [("one", 2)]) (by decide +kernel)) (by decide) (fun _ _ _ _ _ => (dg_nm (i := 2) sc_points_of.nd rfl (.inl rfl))) (fun _ _ _ _ _ => (dts_one (dt_val (de_callV (ms := [.v, .v]) LamX.takes0 G_covers hr gd (by rfl) (da_cons (de_var (i := 1) rfl (.inr (.inl rfl))) (da_cons (de_ix (de_var (i := 2) rfl (.inl rfl)) de_int) da_nil)))))) (fun _ _ _ _ _ => (de_ix (de_var (i := 2) rfl (.inl rfl)) de_int))))))
/-! ### next_layer -/
theorem sc_next_layer : FnScope ["row", "depths", "stretch", "layer", "lower", "one", "depth", "point"] ["row", "depths", "stretch"] (defScope s_next_layer) := ⟨rfl, rfl, rfl, by decide +kernel, rfl, by decide +kernel, by decide +kernel⟩
noncomputable def b_next_layer : M DL.Flow :=
  (sSeq (sSet .frz 3 (dC (.int 1)))
  (whL (tst (dC (.bl true)))
  (sSeq (sSet .frz 4 (dComp (dZip (dCons (dVar 0) (dCons (dVar 1) dNil))) (.tp [(.nm 5), (.nm 6)]) [5, 6] (tst (op2 hLe (dVar 6) (dVar 3))) (dVar 5)))
  (sSeq (sIf (tst (op2 hLt (dB (overInts gMax) (dCons (dComp (dSeqA (dCall f_points_of [.v, .v] (dCons (dVar 4) (dCons (dVar 2) dNil)))) (.nm 7) [7] tTrue (dCall f_load_over [.v, .v] (dCons (dVar 4) (dCons (dVar 7) dNil)))) dNil)) (dVar 3)))
  (sRet (dVar 3))
  sNx)
  (sSet .frz 3 (op2 hInc (dVar 3) (dC (.int 1)))))) 100))
noncomputable def f_next_layer : List O → RF := mkFn 5 b_next_layer
theorem ok_next_layer (T : Tops K mg base) (G_load_over : GV P w K mg base k "load_over" ["row", "point"] f_load_over) (G_points_of : GV P w K mg base k "points_of" ["row", "stretch"] f_points_of) : GV P w K mg base (k + 1) "next_layer" ["row", "depths", "stretch"] f_next_layer :=
  gv_ok T.d_next_layer sc_next_layer (by decide) fun f cdv A outer s H E pv hr gd =>
  (dss_cons (ds_set .frz (i := 3) sc_next_layer.nd rfl (.inr rfl) de_int)
  (dss_one (ds_while (100) (L2.passes_of rfl) (dt_val de_bl)
  (dss_cons (ds_set .frz (i := 4) sc_next_layer.nd rfl (.inr rfl) (de_comp (own := [("one", 5), ("depth", 6)]) rfl sc_next_layer.nd (di_zip (by rfl) T.n_zip (da_cons (de_var (i := 0) rfl (.inl rfl)) (da_cons (de_var (i := 1) rfl (.inl rfl)) da_nil))) (by exact blkOk_by (N := ["row", "depths", "stretch", "layer", "lower", "one", "depth", "point"]) (sc := defScope s_next_layer) (own := [("one", 5), ("depth", 6)]) (by decide +kernel)) (by decide) (fun _ _ _ _ _ => (dg_tp rfl (dgs_cons (dg_nm (i := 5) sc_next_layer.nd rfl (.inl rfl)) (dgs_cons (dg_nm (i := 6) sc_next_layer.nd rfl (.inl rfl)) dgs_nil)))) (fun _ _ _ _ _ => (dts_one (dt_cmpR cr_le (de_var (i := 6) rfl (.inl rfl)) (de_var (i := 3) rfl (.inr (.inl rfl)))))) (fun _ _ _ _ _ => (de_var (i := 5) rfl (.inl rfl)))))
  (dss_cons (ds_if (dt_cmpR cr_lt (de_blt (blt_max1 rfl) (by rfl) T.n_max rfl (da_cons (de_comp (own := [("point", 7)]) rfl sc_next_layer.nd (di_any (de_callV (ms := [.v, .v]) (L2.takes_of rfl rfl rfl rfl) G_points_of hr gd (by rfl) (da_cons (de_var (i := 4) rfl (.inr (.inl rfl))) (da_cons (de_var (i := 2) rfl (.inl rfl)) da_nil)))) (by exact blkOk_by (N := ["row", "depths", "stretch", "layer", "lower", "one", "depth", "point"]) (sc := defScope s_next_layer) (own := [("point", 7)]) (by decide +kernel)) (by decide) (fun _ _ _ _ _ => (dg_nm (i := 7) sc_next_layer.nd rfl (.inl rfl))) (fun _ _ _ _ _ => dts_nil) (fun _ _ _ _ _ => (de_callV (ms := [.v, .v]) LamX.takes0 G_load_over hr gd (by rfl) (da_cons (de_var (i := 4) rfl (.inr (.inl rfl))) (da_cons (de_var (i := 7) rfl (.inl rfl)) da_nil))))) da_nil)) (de_var (i := 3) rfl (.inr (.inl rfl))))
  (dss_one (ds_ret (de_var (i := 3) rfl (.inr (.inl rfl)))))
  dss_nil)
  (dss_one (ds_inc (i := 3) sc_next_layer.nd rfl (.inr rfl) de_int)))))))
/-! ### depths_of -/
theorem sc_depths_of : FnScope ["row", "found", "index", "stretch"] ["row"] (defScope s_depths_of) := ⟨rfl, rfl, rfl, by decide +kernel, rfl, by decide +kernel, by decide +kernel⟩
noncomputable def b_depths_of : M DL.Flow :=
  (sSeq (sSet .keep 1 (dLst dNil))
  (sSeq (sFor (dEnum (dVar 0)) (.tp [(.nm 2), (.nm 3)])
  (sExpr (dMutL 1 gApp (dCons (dCall f_next_layer [.v, .v, .v] (dCons (dSl (dVar 0) dNoPart (dPart (dVar 2))) (dCons (dVar 1) (dCons (dVar 3) dNil)))) dNil))))
  (sRet (dVar 1))))
noncomputable def f_depths_of : List O → RF := mkFn 3 b_depths_of
theorem ok_depths_of (T : Tops K mg base) (G_next_layer : GV P w K mg base k "next_layer" ["row", "depths", "stretch"] f_next_layer) : GV P w K mg base (k + 1) "depths_of" ["row"] f_depths_of :=
  gv_ok T.d_depths_of sc_depths_of (by decide) fun f cdv A outer s H E pv hr gd =>
  (dss_cons (ds_set .keep (i := 1) sc_depths_of.nd rfl (.inl rfl) (de_lst da_nil))
  (dss_cons (ds_for (L2.passes_of rfl) rfl (di_enum (by rfl) T.n_enumerate (de_var (i := 0) rfl (.inl rfl))) (dg_tp rfl (dgs_cons (dg_nm (i := 2) sc_depths_of.nd rfl (.inl rfl)) (dgs_cons (dg_nm (i := 3) sc_depths_of.nd rfl (.inl rfl)) dgs_nil)))
  (dss_one (ds_expr (de_appV (i := 1) rfl (.inl rfl) (da_cons (de_callV (ms := [.v, .v, .v]) (L2.takes_of rfl rfl rfl rfl) G_next_layer hr gd (by rfl) (da_cons (de_sl (de_var (i := 0) rfl (.inl rfl)) do_none (do_some (de_var (i := 2) rfl (.inl rfl)))) (da_cons (de_var (i := 1) rfl (.inl rfl)) (da_cons (de_var (i := 3) rfl (.inl rfl)) da_nil)))) da_nil)))))
  (dss_one (ds_ret (de_var (i := 1) rfl (.inl rfl))))))
/-! ### layers -/
theorem sc_layers : FnScope ["row"] ["row"] (defScope s_layers) := ⟨rfl, rfl, rfl, by decide +kernel, rfl, by decide +kernel, by decide +kernel⟩
noncomputable def b_layers : M DL.Flow :=
  (sSeq (sExpr (dCall f_check_row [.v] (dCons (dVar 0) dNil)))
  (sRet (dCall f_depths_of [.v] (dCons (dVar 0) dNil))))
noncomputable def f_layers : List O → RF := mkFn 0 b_layers
theorem ok_layers (T : Tops K mg base) (G_check_row : GV P w K mg base k "check_row" ["thing"] f_check_row) (G_depths_of : GV P w K mg base k "depths_of" ["row"] f_depths_of) : GV P w K mg base (k + 1) "layers" ["row"] f_layers :=
  gv_ok T.d_layers sc_layers (by decide) fun f cdv A outer s H E pv hr gd =>
  (dss_cons (ds_expr (de_callV (ms := [.v]) (L2.takes_of rfl rfl rfl rfl) G_check_row hr gd (by rfl) (da_cons (de_var (i := 0) rfl (.inl rfl)) da_nil)))
  (dss_one (ds_ret (de_callV (ms := [.v]) (L2.takes_of rfl rfl rfl rfl) G_depths_of hr gd (by rfl) (da_cons (de_var (i := 0) rfl (.inl rfl)) da_nil)))))
/-! ### is_touching -/
theorem sc_is_touching : FnScope ["one", "other"] ["one", "other"] (defScope s_is_touching) := ⟨rfl, rfl, rfl, by decide +kernel, rfl, by decide +kernel, by decide +kernel⟩
noncomputable def b_is_touching : M DL.Flow :=
  (sRet (dAnd (op2 hLe (op2 hIx (dVar 0) (dC (.int 0))) (op2 hIx (dVar 1) (dC (.int 1)))) (op2 hLe (op2 hIx (dVar 1) (dC (.int 0))) (op2 hIx (dVar 0) (dC (.int 1))))))
noncomputable def f_is_touching : List O → RF := mkFn 0 b_is_touching
theorem ok_is_touching (T : Tops K mg base) : GV P w K mg base (k + 1) "is_touching" ["one", "other"] f_is_touching :=
  gv_ok T.d_is_touching sc_is_touching (by decide) fun f cdv A outer s H E pv hr gd =>
  (dss_one (ds_ret (de_and (de_cmpR cr_le (de_ix (de_var (i := 0) rfl (.inl rfl)) de_int) (de_ix (de_var (i := 1) rfl (.inl rfl)) de_int)) (de_one (de_cmpR cr_le (de_ix (de_var (i := 1) rfl (.inl rfl)) de_int) (de_ix (de_var (i := 0) rfl (.inl rfl)) de_int))))))
/-! ### least_free -/
theorem sc_least_free : FnScope ["row", "colours", "stretch", "first", "bars", "colour", "one"] ["row", "colours", "stretch", "first"] (defScope s_least_free) := ⟨rfl, rfl, rfl, by decide +kernel, rfl, by decide +kernel, by decide +kernel⟩
noncomputable def b_least_free : M DL.Flow :=
  (sSeq (sSet .frz 4 (dDc (dZip (dCons (dVar 0) (dCons (dVar 1) dNil))) (.tp [(.nm 6), (.nm 5)]) [6, 5] (tst (dCall f_is_touching [.v, .v] (dCons (dVar 6) (dCons (dVar 2) dNil)))) (dVar 5) (dC (.bl true))))
  (sSeq (sSet .frz 5 (dVar 3))
  (sSeq (whL (tst (op2 (hIn2 false) (dVar 5) (dVar 4)))
  (sSet .frz 5 (op2 hInc (dVar 5) (dC (.int 1)))) 100)
  (sRet (dVar 5)))))
noncomputable def f_least_free : List O → RF := mkFn 3 b_least_free
theorem ok_least_free (T : Tops K mg base) (G_is_touching : GV P w K mg base k "is_touching" ["one", "other"] f_is_touching) : GV P w K mg base (k + 1) "least_free" ["row", "colours", "stretch", "first"] f_least_free :=
  gv_ok T.d_least_free sc_least_free (by decide) fun f cdv A outer s H E pv hr gd =>
  (dss_cons (ds_setDc (own := [("one", 6), ("colour", 5)]) .frz (i := 4) rfl sc_least_free.nd rfl rfl rfl (di_zip (by rfl) T.n_zip (da_cons (de_var (i := 0) rfl (.inl rfl)) (da_cons (de_var (i := 1) rfl (.inl rfl)) da_nil))) (by exact blkOk_by (N := ["row", "colours", "stretch", "first", "bars", "colour", "one"]) (sc := defScope s_least_free) (own := [("one", 6), ("colour", 5)]) (by decide +kernel)) (by decide) (fun _ _ _ _ _ => (dg_tp rfl (dgs_cons (dg_nm (i := 6) sc_least_free.nd rfl (.inl rfl)) (dgs_cons (dg_nm (i := 5) sc_least_free.nd rfl (.inl rfl)) dgs_nil)))) (fun _ _ _ _ _ => (dts_one (dt_val (de_callV (ms := [.v, .v]) LamX.takes0 G_is_touching hr gd (by rfl) (da_cons (de_var (i := 6) rfl (.inl rfl)) (da_cons (de_var (i := 2) rfl (.inr (.inl rfl))) da_nil)))))) (fun _ _ _ _ _ => (de_var (i := 5) rfl (.inl rfl))) (fun _ _ _ _ _ => de_bl))
  (dss_cons (ds_set .frz (i := 5) sc_least_free.nd rfl (.inl rfl) (de_var (i := 3) rfl (.inl rfl)))
  (dss_cons (ds_while (100) (L2.passes_of rfl) (dt_cmpR (cr_in2 hr) (de_var (i := 5) rfl (.inl rfl)) (de_var (i := 4) rfl (.inl rfl)) (by with_unfolding_all rfl))
  (dss_one (ds_inc (i := 5) sc_least_free.nd rfl (.inl rfl) de_int)))
  (dss_one (ds_ret (de_var (i := 5) rfl (.inl rfl)))))))
/-! ### next_colour -/
theorem sc_next_colour : FnScope ["row", "depths", "colours", "stretch", "layer", "mates", "place", "depth"] ["row", "depths", "colours", "stretch", "layer"] (defScope s_next_colour) := ⟨rfl, rfl, rfl, by decide +kernel, rfl, by decide +kernel, by decide +kernel⟩
noncomputable def b_next_colour : M DL.Flow :=
  (sSeq (sIf (tst (op2 (hEq false) (dVar 4) (dC (.int 1))))
  (sRet (dC (.int 1)))
  sNx)
  (sSeq (sSet .frz 5 (dComp (dEnum (dVar 1)) (.tp [(.nm 6), (.nm 7)]) [6, 7] (tst (op2 (hEq false) (dVar 7) (dVar 4))) (dVar 6)))
  (sRet (dCall f_least_free [.v, .v, .v, .v] (dCons (dComp (dSeqA (dVar 5)) (.nm 6) [6] tTrue (op2 hIx (dVar 0) (dVar 6))) (dCons (dComp (dSeqA (dVar 5)) (.nm 6) [6] tTrue (op2 hIx (dVar 2) (dVar 6))) (dCons (dVar 3) (dCons (op2 hSub (op2 hMul (dC (.int 3)) (dVar 4)) (dC (.int 4))) dNil))))))))
noncomputable def f_next_colour : List O → RF := mkFn 3 b_next_colour
theorem ok_next_colour (T : Tops K mg base) (G_least_free : GV P w K mg base k "least_free" ["row", "colours", "stretch", "first"] f_least_free) : GV P w K mg base (k + 1) "next_colour" ["row", "depths", "colours", "stretch", "layer"] f_next_colour :=
  gv_ok T.d_next_colour sc_next_colour (by decide) fun f cdv A outer s H E pv hr gd =>
  (dss_cons (ds_if (dt_cmpR (cr_eq hr) (de_var (i := 4) rfl (.inr (.inl rfl))) de_int)
  (dss_one (ds_ret de_int))
  dss_nil)
  (dss_cons (ds_setComp (own := [("place", 6), ("depth", 7)]) .frz (i := 5) rfl sc_next_colour.nd rfl rfl rfl (di_enum (by rfl) T.n_enumerate (de_var (i := 1) rfl (.inl rfl))) (by exact blkOk_by (N := ["row", "depths", "colours", "stretch", "layer", "mates", "place", "depth"]) (sc := defScope s_next_colour) (own := [("place", 6), ("depth", 7)]) (by decide +kernel)) (by decide) (fun _ _ _ _ _ => (dg_tp rfl (dgs_cons (dg_nm (i := 6) sc_next_colour.nd rfl (.inl rfl)) (dgs_cons (dg_nm (i := 7) sc_next_colour.nd rfl (.inl rfl)) dgs_nil)))) (fun _ _ _ _ _ => (dts_one (dt_cmpR (cr_eq hr) (de_var (i := 7) rfl (.inl rfl)) (de_var (i := 4) rfl (.inr (.inl rfl)))))) (fun _ _ _ _ _ => (de_var (i := 6) rfl (.inl rfl))))
  (dss_one (ds_ret (de_callV (ms := [.v, .v, .v, .v]) (L2.takes_of rfl rfl rfl rfl) G_least_free hr gd (by rfl) (da_cons (de_comp (own := [("place", 6)]) rfl sc_next_colour.nd (di_any (de_var (i := 5) rfl (.inl rfl))) (by exact blkOk_by (N := ["row", "depths", "colours", "stretch", "layer", "mates", "place", "depth"]) (sc := defScope s_next_colour) (own := [("place", 6)]) (by decide +kernel)) (by decide) (fun _ _ _ _ _ => (dg_nm (i := 6) sc_next_colour.nd rfl (.inl rfl))) (fun _ _ _ _ _ => dts_nil) (fun _ _ _ _ _ => (de_ix (de_var (i := 0) rfl (.inr (.inl rfl))) (de_var (i := 6) rfl (.inl rfl))))) (da_cons (de_comp (own := [("place", 6)]) rfl sc_next_colour.nd (di_any (de_var (i := 5) rfl (.inl rfl))) (by exact blkOk_by (N := ["row", "depths", "colours", "stretch", "layer", "mates", "place", "depth"]) (sc := defScope s_next_colour) (own := [("place", 6)]) (by decide +kernel)) (by decide) (fun _ _ _ _ _ => (dg_nm (i := 6) sc_next_colour.nd rfl (.inl rfl))) (fun _ _ _ _ _ => dts_nil) (fun _ _ _ _ _ => (de_ix (de_var (i := 2) rfl (.inr (.inl rfl))) (de_var (i := 6) rfl (.inl rfl))))) (da_cons (de_var (i := 3) rfl (.inl rfl)) (da_cons (de_sub (de_mul de_int (de_var (i := 4) rfl (.inr (.inl rfl)))) de_int) da_nil)))))))))
/-! ### layered -/
theorem sc_layered : FnScope ["row", "depths", "found", "index", "stretch"] ["row"] (defScope s_layered) := ⟨rfl, rfl, rfl, by decide +kernel, rfl, by decide +kernel, by decide +kernel⟩
noncomputable def b_layered : M DL.Flow :=
  (sSeq (sExpr (dCall f_check_row [.v] (dCons (dVar 0) dNil)))
  (sSeq (sPar [(.frz, 1), (.keep, 2)] (dCons (dCall f_depths_of [.v] (dCons (dVar 0) dNil)) (dCons (dLst dNil) dNil)))
  (sSeq (sFor (dEnum (dVar 0)) (.tp [(.nm 3), (.nm 4)])
  (sExpr (dMutL 2 gApp (dCons (dCall f_next_colour [.v, .v, .v, .v, .v] (dCons (dSl (dVar 0) dNoPart (dPart (dVar 3))) (dCons (dSl (dVar 1) dNoPart (dPart (dVar 3))) (dCons (dVar 2) (dCons (dVar 4) (dCons (op2 hIx (dVar 1) (dVar 3)) dNil)))))) dNil))))
  (sRet (dVar 2)))))
noncomputable def f_layered : List O → RF := mkFn 4 b_layered
theorem ok_layered (T : Tops K mg base) (G_check_row : GV P w K mg base k "check_row" ["thing"] f_check_row) (G_next_colour : GV P w K mg base k "next_colour" ["row", "depths", "colours", "stretch", "layer"] f_next_colour) (G_depths_of : GV P w K mg base k "depths_of" ["row"] f_depths_of) : GV P w K mg base (k + 1) "layered" ["row"] f_layered :=
  gv_ok T.d_layered sc_layered (by decide) fun f cdv A outer s H E pv hr gd =>
  (dss_cons (ds_expr (de_callV (ms := [.v]) (L2.takes_of rfl rfl rfl rfl) G_check_row hr gd (by rfl) (da_cons (de_var (i := 0) rfl (.inl rfl)) da_nil)))
  (dss_cons (ds_par (h1 := .frz) (h2 := .keep) (i := 1) (j := 2) rfl sc_layered.nd rfl rfl (by decide) rfl rfl (da_cons (de_callV (ms := [.v]) (L2.takes_of rfl rfl rfl rfl) G_depths_of hr gd (by rfl) (da_cons (de_var (i := 0) rfl (.inl rfl)) da_nil)) (da_cons (de_lst da_nil) da_nil)) rfl)
  (dss_cons (ds_for (L2.passes_of rfl) rfl (di_enum (by rfl) T.n_enumerate (de_var (i := 0) rfl (.inl rfl))) (dg_tp rfl (dgs_cons (dg_nm (i := 3) sc_layered.nd rfl (.inl rfl)) (dgs_cons (dg_nm (i := 4) sc_layered.nd rfl (.inl rfl)) dgs_nil)))
  (dss_one (ds_expr (de_appV (i := 2) rfl (.inl rfl) (da_cons (de_callV (ms := [.v, .v, .v, .v, .v]) (L2.takes_of rfl rfl rfl rfl) G_next_colour hr gd (by rfl) (da_cons (de_sl (de_var (i := 0) rfl (.inl rfl)) do_none (do_some (de_var (i := 3) rfl (.inl rfl)))) (da_cons (de_sl (de_var (i := 1) rfl (.inl rfl)) do_none (do_some (de_var (i := 3) rfl (.inl rfl)))) (da_cons (de_var (i := 2) rfl (.inl rfl)) (da_cons (de_var (i := 4) rfl (.inl rfl)) (da_cons (de_ix (de_var (i := 1) rfl (.inl rfl)) (de_var (i := 3) rfl (.inl rfl))) da_nil)))))) da_nil)))))
  (dss_one (ds_ret (de_var (i := 2) rfl (.inl rfl)))))))
/-! ### _law_is_right -/
theorem sc__law_is_right : FnScope ["_law_row_here", "_law_colours", "_law_one", "_law_k", "_law_j"] ["_law_row_here", "_law_colours"] (defScope s__law_is_right) := ⟨rfl, rfl, rfl, by decide +kernel, rfl, by decide +kernel, by decide +kernel⟩
noncomputable def b__law_is_right : M DL.Flow :=
  (sSeq (sIf (tOr' (tNot' (tst (dB hIsi (dCons (dVar 1) (dCons (dC (.ty "list")) dNil))))) (tst (op2 (hEq true) (dB hLen (dCons (dVar 1) dNil)) (dB hLen (dCons (dVar 0) dNil)))))
  (sRet (dC (.bl false)))
  sNx)
  (sSeq (sFor (dSeqA (dVar 1)) (.nm 2)
  (sIf (tOr' (tst (dB hIsi (dCons (dVar 2) (dCons (dC (.ty "bool")) dNil)))) (tOr' (tNot' (tst (dB hIsi (dCons (dVar 2) (dCons (dC (.ty "int")) dNil))))) (tNot' (tst (dChain hLe hLe (dC (.int 1)) (dVar 2) (op2 hPow (dC (.int 10)) (dC (.int 9))))))))
  (sRet (dC (.bl false)))
  sNx))
  (sSeq (sFor (dRng1 (dB hLen (dCons (dVar 0) dNil))) (.nm 3)
  (sFor (dRng1 (dVar 3)) (.nm 4)
  (sIf (tAnd' (tst (op2 (hEq false) (op2 hIx (dVar 1) (dVar 4)) (op2 hIx (dVar 1) (dVar 3)))) (tst (dCall f__law_touch [.v, .v] (dCons (op2 hIx (dVar 0) (dVar 4)) (dCons (op2 hIx (dVar 0) (dVar 3)) dNil)))))
  (sRet (dC (.bl false)))
  sNx)))
  (sRet (dC (.bl true))))))
noncomputable def f__law_is_right : List O → RF := mkFn 3 b__law_is_right
theorem ok__law_is_right (T : Tops K mg base) (G__law_touch : GV P w K mg base k "_law_touch" ["_law_one", "_law_other"] f__law_touch) : GV P w K mg base (k + 1) "_law_is_right" ["_law_row_here", "_law_colours"] f__law_is_right :=
  gv_ok T.d__law_is_right sc__law_is_right (by decide) fun f cdv A outer s H E pv hr gd =>
  (dss_cons (ds_if (L2.PW.pt (dw_or (dt_not (dt_val (de_blt blt_isi (by rfl) T.n_isinstance rfl (da_cons (de_var (i := 1) rfl (.inl rfl)) (da_cons (de_ty (by rfl) T.n_list rfl) da_nil))))) (dw_or1 (dt_cmpR (cr_ne hr) (de_blt blt_len (by rfl) T.n_len rfl (da_cons (de_var (i := 1) rfl (.inl rfl)) da_nil)) (de_blt blt_len (by rfl) T.n_len rfl (da_cons (de_var (i := 0) rfl (.inl rfl)) da_nil))))))
  (dss_one (ds_ret de_bl))
  dss_nil)
  (dss_cons (ds_for (L2.passes_of rfl) rfl (di_any (de_var (i := 1) rfl (.inl rfl))) (dg_nm (i := 2) sc__law_is_right.nd rfl (.inl rfl))
  (dss_one (ds_if (L2.PW.pt (dw_or (dt_val (de_blt blt_isi (by rfl) T.n_isinstance rfl (da_cons (de_var (i := 2) rfl (.inl rfl)) (da_cons (de_ty (by rfl) T.n_bool rfl) da_nil)))) (dw_or (dt_not (dt_val (de_blt blt_isi (by rfl) T.n_isinstance rfl (da_cons (de_var (i := 2) rfl (.inl rfl)) (da_cons (de_ty (by rfl) T.n_int rfl) da_nil))))) (dw_or1 (dt_not (dt_chain cr_le cr_le de_int (de_var (i := 2) rfl (.inl rfl)) (de_pow de_int de_int)))))))
  (dss_one (ds_ret de_bl))
  dss_nil)))
  (dss_cons (ds_for (L2.passes_of rfl) rfl (di_rng1 (by rfl) T.n_range (de_blt blt_len (by rfl) T.n_len rfl (da_cons (de_var (i := 0) rfl (.inl rfl)) da_nil))) (dg_nm (i := 3) sc__law_is_right.nd rfl (.inl rfl))
  (dss_one (ds_for (L2.passes_of rfl) rfl (di_rng1 (by rfl) T.n_range (de_var (i := 3) rfl (.inl rfl))) (dg_nm (i := 4) sc__law_is_right.nd rfl (.inl rfl))
  (dss_one (ds_if (L2.PW.pt (dw_and (dt_cmpR (cr_eq hr) (de_ix (de_var (i := 1) rfl (.inl rfl)) (de_var (i := 4) rfl (.inl rfl))) (de_ix (de_var (i := 1) rfl (.inl rfl)) (de_var (i := 3) rfl (.inl rfl)))) (dw_and1 (dt_val (de_callV (ms := [.v, .v]) (L2.takes_of rfl rfl rfl rfl) G__law_touch hr gd (by rfl) (da_cons (de_ix (de_var (i := 0) rfl (.inl rfl)) (de_var (i := 4) rfl (.inl rfl))) (da_cons (de_ix (de_var (i := 0) rfl (.inl rfl)) (de_var (i := 3) rfl (.inl rfl))) da_nil)))))))
  (dss_one (ds_ret de_bl))
  dss_nil)))))
  (dss_one (ds_ret de_bl)))))
/-! ### _law_load -/
theorem sc__law_load : FnScope ["_law_row_here", "_law_one"] ["_law_row_here"] (defScope s__law_load) := ⟨rfl, rfl, rfl, by decide +kernel, rfl, by decide +kernel, by decide +kernel⟩
noncomputable def b__law_load : M DL.Flow :=
  (sRet (dB (overInts gMax) (dCons (op2 hAdd (dLst (dCons (dC (.int 0)) dNil)) (dComp (dSeqA (dVar 0)) (.nm 1) [1] tTrue (dCall f__law_over [.v, .v] (dCons (dVar 0) (dCons (op2 hIx (dVar 1) (dC (.int 1))) dNil))))) dNil)))
noncomputable def f__law_load : List O → RF := mkFn 1 b__law_load
theorem ok__law_load (T : Tops K mg base) (G__law_over : GV P w K mg base k "_law_over" ["_law_row_here", "_law_point"] f__law_over) : GV P w K mg base (k + 1) "_law_load" ["_law_row_here"] f__law_load :=
  gv_ok T.d__law_load sc__law_load (by decide) fun f cdv A outer s H E pv hr gd =>
  (dss_one (ds_ret (de_blt (blt_max1 rfl) (by rfl) T.n_max rfl (da_cons (de_add (de_lst (da_cons de_int da_nil)) (de_comp (own := [("_law_one", 1)]) rfl sc__law_load.nd (di_any (de_var (i := 0) rfl (.inr (.inl rfl)))) (by exact blkOk_by (N := ["_law_row_here", "_law_one"]) (sc := defScope s__law_load) (own := [("_law_one", 1)]) (by decide +kernel)) (by decide) (fun _ _ _ _ _ => (dg_nm (i := 1) sc__law_load.nd rfl (.inl rfl))) (fun _ _ _ _ _ => dts_nil) (fun _ _ _ _ _ => (de_callV (ms := [.v, .v]) LamX.takes0 G__law_over hr gd (by rfl) (da_cons (de_var (i := 0) rfl (.inr (.inl rfl))) (da_cons (de_ix (de_var (i := 1) rfl (.inl rfl)) de_int) da_nil)))))) da_nil))))
/-! ### _law_shows -/
theorem sc__law_shows : FnScope ["_law_row_here", "_law_depths", "_law_k", "_law_point", "_law_layer", "_law_lower", "_law_mates", "_law_j"] ["_law_row_here", "_law_depths", "_law_k", "_law_point"] (defScope s__law_shows) := ⟨rfl, rfl, rfl, by decide +kernel, rfl, by decide +kernel, by decide +kernel⟩
noncomputable def b__law_shows : M DL.Flow :=
  (sSeq (sIf (tOr' (tst (dB hIsi (dCons (dVar 3) (dCons (dC (.ty "bool")) dNil)))) (tNot' (tst (dB hIsi (dCons (dVar 3) (dCons (dC (.ty "int")) dNil))))))
  (sRet (dC (.bl false)))
  sNx)
  (sSeq (sIf (tNot' (tst (dChain hLe hLe (op2 hIx (op2 hIx (dVar 0) (dVar 2)) (dC (.int 0))) (dVar 3) (op2 hIx (op2 hIx (dVar 0) (dVar 2)) (dC (.int 1))))))
  (sRet (dC (.bl false)))
  sNx)
  (sSeq (sSet .frz 4 (op2 hIx (dVar 1) (dVar 2)))
  (sSeq (sSet .frz 5 (dComp (dRng1 (dVar 2)) (.nm 7) [7] (tst (op2 hLt (op2 hIx (dVar 1) (dVar 7)) (dVar 4))) (op2 hIx (dVar 0) (dVar 7))))
  (sSeq (sSet .frz 6 (dComp (dRng1 (dVar 2)) (.nm 7) [7] (tst (op2 (hEq false) (op2 hIx (dVar 1) (dVar 7)) (dVar 4))) (op2 hIx (dVar 0) (dVar 7))))
  (sSeq (sIf (tst (op2 hGt (dCall f__law_over [.v, .v] (dCons (dVar 6) (dCons (dVar 3) dNil))) (dC (.int 0))))
  (sRet (dC (.bl false)))
  sNx)
  (sRet (op2 (hEq false) (dCall f__law_over [.v, .v] (dCons (dVar 5) (dCons (dVar 3) dNil))) (op2 hSub (dVar 4) (dC (.int 1)))))))))))
noncomputable def f__law_shows : List O → RF := mkFn 4 b__law_shows
theorem ok__law_shows (T : Tops K mg base) (G__law_over : GV P w K mg base k "_law_over" ["_law_row_here", "_law_point"] f__law_over) : GV P w K mg base (k + 1) "_law_shows" ["_law_row_here", "_law_depths", "_law_k", "_law_point"] f__law_shows :=
  gv_ok T.d__law_shows sc__law_shows (by decide) fun f cdv A outer s H E pv hr gd =>
  (dss_cons (ds_if (L2.PW.pt (dw_or (dt_val (de_blt blt_isi (by rfl) T.n_isinstance rfl (da_cons (de_var (i := 3) rfl (.inl rfl)) (da_cons (de_ty (by rfl) T.n_bool rfl) da_nil)))) (dw_or1 (dt_not (dt_val (de_blt blt_isi (by rfl) T.n_isinstance rfl (da_cons (de_var (i := 3) rfl (.inl rfl)) (da_cons (de_ty (by rfl) T.n_int rfl) da_nil))))))))
  (dss_one (ds_ret de_bl))
  dss_nil)
  (dss_cons (ds_if (dt_not (dt_chain cr_le cr_le (de_ix (de_ix (de_var (i := 0) rfl (.inr (.inl rfl))) (de_var (i := 2) rfl (.inl rfl))) de_int) (de_var (i := 3) rfl (.inl rfl)) (de_ix (de_ix (de_var (i := 0) rfl (.inr (.inl rfl))) (de_var (i := 2) rfl (.inl rfl))) de_int)))
  (dss_one (ds_ret de_bl))
  dss_nil)
  (dss_cons (ds_set .frz (i := 4) sc__law_shows.nd rfl (.inr rfl) (de_ix (de_var (i := 1) rfl (.inr (.inl rfl))) (de_var (i := 2) rfl (.inl rfl))))
  (dss_cons (ds_setComp (own := [("_law_j", 7)]) .frz (i := 5) rfl sc__law_shows.nd rfl rfl rfl (di_rng1 (by rfl) T.n_range (de_var (i := 2) rfl (.inl rfl))) (by exact blkOk_by (N := ["_law_row_here", "_law_depths", "_law_k", "_law_point", "_law_layer", "_law_lower", "_law_mates", "_law_j"]) (sc := defScope s__law_shows) (own := [("_law_j", 7)]) (by decide +kernel)) (by decide) (fun _ _ _ _ _ => (dg_nm (i := 7) sc__law_shows.nd rfl (.inl rfl))) (fun _ _ _ _ _ => (dts_one (dt_cmpR cr_lt (de_ix (de_var (i := 1) rfl (.inr (.inl rfl))) (de_var (i := 7) rfl (.inl rfl))) (de_var (i := 4) rfl (.inr (.inl rfl)))))) (fun _ _ _ _ _ => (de_ix (de_var (i := 0) rfl (.inr (.inl rfl))) (de_var (i := 7) rfl (.inl rfl)))))
  (dss_cons (ds_setComp (own := [("_law_j", 7)]) .frz (i := 6) rfl sc__law_shows.nd rfl rfl rfl (di_rng1 (by rfl) T.n_range (de_var (i := 2) rfl (.inl rfl))) (by exact blkOk_by (N := ["_law_row_here", "_law_depths", "_law_k", "_law_point", "_law_layer", "_law_lower", "_law_mates", "_law_j"]) (sc := defScope s__law_shows) (own := [("_law_j", 7)]) (by decide +kernel)) (by decide) (fun _ _ _ _ _ => (dg_nm (i := 7) sc__law_shows.nd rfl (.inl rfl))) (fun _ _ _ _ _ => (dts_one (dt_cmpR (cr_eq hr) (de_ix (de_var (i := 1) rfl (.inr (.inl rfl))) (de_var (i := 7) rfl (.inl rfl))) (de_var (i := 4) rfl (.inr (.inl rfl)))))) (fun _ _ _ _ _ => (de_ix (de_var (i := 0) rfl (.inr (.inl rfl))) (de_var (i := 7) rfl (.inl rfl)))))
  (dss_cons (ds_if (dt_cmpR cr_gt (de_callV (ms := [.v, .v]) (L2.takes_of rfl rfl rfl rfl) G__law_over hr gd (by rfl) (da_cons (de_var (i := 6) rfl (.inl rfl)) (da_cons (de_var (i := 3) rfl (.inl rfl)) da_nil))) de_int)
  (dss_one (ds_ret de_bl))
  dss_nil)
  (dss_one (ds_ret (de_cmpR (cr_eq hr) (de_callV (ms := [.v, .v]) (L2.takes_of rfl rfl rfl rfl) G__law_over hr gd (by rfl) (da_cons (de_var (i := 5) rfl (.inl rfl)) (da_cons (de_var (i := 3) rfl (.inl rfl)) da_nil))) (de_sub (de_var (i := 4) rfl (.inr (.inl rfl))) de_int))))))))))
/-! ### check_index -/
theorem sc_check_index : FnScope ["row", "thing"] ["row", "thing"] (defScope s_check_index) := ⟨rfl, rfl, rfl, by decide +kernel, rfl, by decide +kernel, by decide +kernel⟩
noncomputable def b_check_index : M DL.Flow :=
  (sIf (tNot' (tst (dCall f_is_within [.v, .v, .v] (dCons (dVar 1) (dCons (dC (.int 0)) (dCons (op2 hSub (dB hLen (dCons (dVar 0) dNil)) (dC (.int 1))) dNil))))))
  (sRaise "InvalidIndex")
  sNx)
noncomputable def f_check_index : List O → RF := mkFn 0 b_check_index
theorem ok_check_index (T : Tops K mg base) (G_is_within : GV P w K mg base k "is_within" ["thing", "least", "most"] f_is_within) : GV P w K mg base (k + 1) "check_index" ["row", "thing"] f_check_index :=
  gv_ok T.d_check_index sc_check_index (by decide) fun f cdv A outer s H E pv hr gd =>
  (dss_one (ds_if (dt_not (dt_val (de_callV (ms := [.v, .v, .v]) (L2.takes_of rfl rfl rfl rfl) G_is_within hr gd (by rfl) (da_cons (de_var (i := 1) rfl (.inl rfl)) (da_cons de_int (da_cons (de_sub (de_blt blt_len (by rfl) T.n_len rfl (da_cons (de_var (i := 0) rfl (.inl rfl)) da_nil)) de_int) da_nil))))))
  (dss_one (ds_raise rfl (L2.takes_of rfl rfl rfl rfl) T.x_InvalidIndex.choose_spec (by rfl)))
  dss_nil))
/-! ### shows -/
theorem sc_shows : FnScope ["row", "depths", "index", "point", "lower", "mates", "one", "depth"] ["row", "depths", "index", "point"] (defScope s_shows) := ⟨rfl, rfl, rfl, by decide +kernel, rfl, by decide +kernel, by decide +kernel⟩
noncomputable def b_shows : M DL.Flow :=
  (sSeq (sSet .frz 4 (dComp (dZip (dCons (dSl (dVar 0) dNoPart (dPart (dVar 2))) (dCons (dSl (dVar 1) dNoPart (dPart (dVar 2))) dNil))) (.tp [(.nm 6), (.nm 7)]) [6, 7] (tst (op2 hLt (dVar 7) (op2 hIx (dVar 1) (dVar 2)))) (dVar 6)))
  (sSeq (sSet .frz 5 (dComp (dZip (dCons (dSl (dVar 0) dNoPart (dPart (dVar 2))) (dCons (dSl (dVar 1) dNoPart (dPart (dVar 2))) dNil))) (.tp [(.nm 6), (.nm 7)]) [6, 7] (tst (op2 (hEq false) (dVar 7) (op2 hIx (dVar 1) (dVar 2)))) (dVar 6)))
  (sSeq (sIf (tOr' (tNot' (tst (dCall f_covers [.v, .v] (dCons (op2 hIx (dVar 0) (dVar 2)) (dCons (dVar 3) dNil))))) (tst (op2 hGt (dCall f_load_over [.v, .v] (dCons (dVar 5) (dCons (dVar 3) dNil))) (dC (.int 0)))))
  (sRet (dC (.bl false)))
  sNx)
  (sRet (op2 (hEq false) (dCall f_load_over [.v, .v] (dCons (dVar 4) (dCons (dVar 3) dNil))) (op2 hSub (op2 hIx (dVar 1) (dVar 2)) (dC (.int 1))))))))
noncomputable def f_shows : List O → RF := mkFn 4 b_shows
theorem ok_shows (T : Tops K mg base) (G_covers : GV P w K mg base k "covers" ["stretch", "point"] f_covers) (G_load_over : GV P w K mg base k "load_over" ["row", "point"] f_load_over) : GV P w K mg base (k + 1) "shows" ["row", "depths", "index", "point"] f_shows :=
  gv_ok T.d_shows sc_shows (by decide) fun f cdv A outer s H E pv hr gd =>
  (dss_cons (ds_setComp (own := [("one", 6), ("depth", 7)]) .frz (i := 4) rfl sc_shows.nd rfl rfl rfl (di_zip (by rfl) T.n_zip (da_cons (de_sl (de_var (i := 0) rfl (.inl rfl)) do_none (do_some (de_var (i := 2) rfl (.inr (.inl rfl))))) (da_cons (de_sl (de_var (i := 1) rfl (.inr (.inl rfl))) do_none (do_some (de_var (i := 2) rfl (.inr (.inl rfl))))) da_nil))) (by exact blkOk_by (N := ["row", "depths", "index", "point", "lower", "mates", "one", "depth"]) (sc := defScope s_shows) (own := [("one", 6), ("depth", 7)]) (by decide +kernel)) (by decide) (fun _ _ _ _ _ => (dg_tp rfl (dgs_cons (dg_nm (i := 6) sc_shows.nd rfl (.inl rfl)) (dgs_cons (dg_nm (i := 7) sc_shows.nd rfl (.inl rfl)) dgs_nil)))) (fun _ _ _ _ _ => (dts_one (dt_cmpR cr_lt (de_var (i := 7) rfl (.inl rfl)) (de_ix (de_var (i := 1) rfl (.inr (.inl rfl))) (de_var (i := 2) rfl (.inr (.inl rfl))))))) (fun _ _ _ _ _ => (de_var (i := 6) rfl (.inl rfl))))
  (dss_cons (ds_setComp (own := [("one", 6), ("depth", 7)]) .frz (i := 5) rfl sc_shows.nd rfl rfl rfl (di_zip (by rfl) T.n_zip (da_cons (de_sl (de_var (i := 0) rfl (.inl rfl)) do_none (do_some (de_var (i := 2) rfl (.inr (.inl rfl))))) (da_cons (de_sl (de_var (i := 1) rfl (.inr (.inl rfl))) do_none (do_some (de_var (i := 2) rfl (.inr (.inl rfl))))) da_nil))) (by exact blkOk_by (N := ["row", "depths", "index", "point", "lower", "mates", "one", "depth"]) (sc := defScope s_shows) (own := [("one", 6), ("depth", 7)]) (by decide +kernel)) (by decide) (fun _ _ _ _ _ => (dg_tp rfl (dgs_cons (dg_nm (i := 6) sc_shows.nd rfl (.inl rfl)) (dgs_cons (dg_nm (i := 7) sc_shows.nd rfl (.inl rfl)) dgs_nil)))) (fun _ _ _ _ _ => (dts_one (dt_cmpR (cr_eq hr) (de_var (i := 7) rfl (.inl rfl)) (de_ix (de_var (i := 1) rfl (.inr (.inl rfl))) (de_var (i := 2) rfl (.inr (.inl rfl))))))) (fun _ _ _ _ _ => (de_var (i := 6) rfl (.inl rfl))))
  (dss_cons (ds_if (L2.PW.pt (dw_or (dt_not (dt_val (de_callV (ms := [.v, .v]) (L2.takes_of rfl rfl rfl rfl) G_covers hr gd (by rfl) (da_cons (de_ix (de_var (i := 0) rfl (.inl rfl)) (de_var (i := 2) rfl (.inr (.inl rfl)))) (da_cons (de_var (i := 3) rfl (.inl rfl)) da_nil))))) (dw_or1 (dt_cmpR cr_gt (de_callV (ms := [.v, .v]) (L2.takes_of rfl rfl rfl rfl) G_load_over hr gd (by rfl) (da_cons (de_var (i := 5) rfl (.inl rfl)) (da_cons (de_var (i := 3) rfl (.inl rfl)) da_nil))) de_int))))
  (dss_one (ds_ret de_bl))
  dss_nil)
  (dss_one (ds_ret (de_cmpR (cr_eq hr) (de_callV (ms := [.v, .v]) (L2.takes_of rfl rfl rfl rfl) G_load_over hr gd (by rfl) (da_cons (de_var (i := 4) rfl (.inl rfl)) (da_cons (de_var (i := 3) rfl (.inl rfl)) da_nil))) (de_sub (de_ix (de_var (i := 1) rfl (.inr (.inl rfl))) (de_var (i := 2) rfl (.inr (.inl rfl)))) de_int)))))))
/-! ### witness -/
theorem sc_witness : FnScope ["row", "index", "depths", "stretch", "ends", "point", "one"] ["row", "index"] (defScope s_witness) := ⟨rfl, rfl, rfl, by decide +kernel, rfl, by decide +kernel, by decide +kernel⟩
noncomputable def b_witness : M DL.Flow :=
  (sSeq (sExpr (dCall f_check_row [.v] (dCons (dVar 0) dNil)))
  (sSeq (sExpr (dCall f_check_index [.v, .v] (dCons (dVar 0) (dCons (dVar 1) dNil))))
  (sSeq (sAsg (.tp [(.nm 2), (.nm 3)]) (dTup (dCons (dCall f_depths_of [.v] (dCons (dVar 0) dNil)) (dCons (op2 hIx (dVar 0) (dVar 1)) dNil))))
  (sSeq (sSet .frz 4 (dLst (dCons (op2 hIx (dVar 3) (dC (.int 0))) (dStar (dComp (dSeqA (dSl (dVar 0) dNoPart (dPart (dVar 1)))) (.nm 6) [6] tTrue (op2 hIx (dVar 6) (dC (.int 0)))) (dStar (dComp (dSeqA (dSl (dVar 0) dNoPart (dPart (dVar 1)))) (.nm 6) [6] tTrue (op2 hAdd (op2 hIx (dVar 6) (dC (.int 1))) (dC (.int 1)))) dNil)))))
  (sRet (op2 hIx (dComp (dSeqA (dVar 4)) (.nm 5) [5] (tst (dCall f_shows [.v, .v, .v, .v] (dCons (dVar 0) (dCons (dVar 2) (dCons (dVar 1) (dCons (dVar 5) dNil)))))) (dVar 5)) (dC (.int 0))))))))
noncomputable def f_witness : List O → RF := mkFn 5 b_witness
theorem ok_witness (T : Tops K mg base) (G_check_row : GV P w K mg base k "check_row" ["thing"] f_check_row) (G_check_index : GV P w K mg base k "check_index" ["row", "thing"] f_check_index) (G_depths_of : GV P w K mg base k "depths_of" ["row"] f_depths_of) (G_shows : GV P w K mg base k "shows" ["row", "depths", "index", "point"] f_shows) : GV P w K mg base (k + 1) "witness" ["row", "index"] f_witness :=
  gv_ok T.d_witness sc_witness (by decide) fun f cdv A outer s H E pv hr gd =>
  (dss_cons (ds_expr (de_callV (ms := [.v]) (L2.takes_of rfl rfl rfl rfl) G_check_row hr gd (by rfl) (da_cons (de_var (i := 0) rfl (.inr (.inl rfl))) da_nil)))
  (dss_cons (ds_expr (de_callV (ms := [.v, .v]) (L2.takes_of rfl rfl rfl rfl) G_check_index hr gd (by rfl) (da_cons (de_var (i := 0) rfl (.inr (.inl rfl))) (da_cons (de_var (i := 1) rfl (.inr (.inl rfl))) da_nil))))
  (dss_cons (ds_asg (de_tup (da_cons (de_callV (ms := [.v]) (L2.takes_of rfl rfl rfl rfl) G_depths_of hr gd (by rfl) (da_cons (de_var (i := 0) rfl (.inr (.inl rfl))) da_nil)) (da_cons (de_ix (de_var (i := 0) rfl (.inr (.inl rfl))) (de_var (i := 1) rfl (.inr (.inl rfl)))) da_nil))) (dg_tp rfl (dgs_cons (dg_nm (i := 2) sc_witness.nd rfl (.inr rfl)) (dgs_cons (dg_nm (i := 3) sc_witness.nd rfl (.inl rfl)) dgs_nil))))
  (dss_cons (ds_set .frz (i := 4) sc_witness.nd rfl (.inl rfl) (de_lst (da_cons (de_ix (de_var (i := 3) rfl (.inl rfl)) de_int) (da_star (de_comp (own := [("one", 6)]) rfl sc_witness.nd (di_any (de_sl (de_var (i := 0) rfl (.inr (.inl rfl))) do_none (do_some (de_var (i := 1) rfl (.inr (.inl rfl)))))) (by exact blkOk_by (N := ["row", "index", "depths", "stretch", "ends", "point", "one"]) (sc := defScope s_witness) (own := [("one", 6)]) (by decide +kernel)) (by decide) (fun _ _ _ _ _ => (dg_nm (i := 6) sc_witness.nd rfl (.inl rfl))) (fun _ _ _ _ _ => dts_nil) (fun _ _ _ _ _ => (de_ix (de_var (i := 6) rfl (.inl rfl)) de_int))) (da_star (de_comp (own := [("one", 6)]) rfl sc_witness.nd (di_any (de_sl (de_var (i := 0) rfl (.inr (.inl rfl))) do_none (do_some (de_var (i := 1) rfl (.inr (.inl rfl)))))) (by exact blkOk_by (N := ["row", "index", "depths", "stretch", "ends", "point", "one"]) (sc := defScope s_witness) (own := [("one", 6)]) (by decide +kernel)) (by decide) (fun _ _ _ _ _ => (dg_nm (i := 6) sc_witness.nd rfl (.inl rfl))) (fun _ _ _ _ _ => dts_nil) (fun _ _ _ _ _ => (de_add (de_ix (de_var (i := 6) rfl (.inl rfl)) de_int) de_int))) da_nil)))))
  (dss_one (ds_ret (de_ix (de_comp (own := [("point", 5)]) rfl sc_witness.nd (di_any (de_var (i := 4) rfl (.inl rfl))) (by exact blkOk_by (N := ["row", "index", "depths", "stretch", "ends", "point", "one"]) (sc := defScope s_witness) (own := [("point", 5)]) (by decide +kernel)) (by decide) (fun _ _ _ _ _ => (dg_nm (i := 5) sc_witness.nd rfl (.inl rfl))) (fun _ _ _ _ _ => (dts_one (dt_val (de_callV (ms := [.v, .v, .v, .v]) LamX.takes0 G_shows hr gd (by rfl) (da_cons (de_var (i := 0) rfl (.inr (.inl rfl))) (da_cons (de_var (i := 2) rfl (.inr (.inl rfl))) (da_cons (de_var (i := 1) rfl (.inr (.inl rfl))) (da_cons (de_var (i := 5) rfl (.inl rfl)) da_nil)))))))) (fun _ _ _ _ _ => (de_var (i := 5) rfl (.inl rfl)))) de_int)))))))
/-! ### is_witness -/
theorem sc_is_witness : FnScope ["row", "index", "thing"] ["row", "index", "thing"] (defScope s_is_witness) := ⟨rfl, rfl, rfl, by decide +kernel, rfl, by decide +kernel, by decide +kernel⟩
noncomputable def b_is_witness : M DL.Flow :=
  (sSeq (sExpr (dCall f_check_row [.v] (dCons (dVar 0) dNil)))
  (sSeq (sExpr (dCall f_check_index [.v, .v] (dCons (dVar 0) (dCons (dVar 1) dNil))))
  (sRet (dAnd (dCall f_is_integer [.v] (dCons (dVar 2) dNil)) (dCall f_shows [.v, .v, .v, .v] (dCons (dVar 0) (dCons (dCall f_depths_of [.v] (dCons (dVar 0) dNil)) (dCons (dVar 1) (dCons (dVar 2) dNil)))))))))
noncomputable def f_is_witness : List O → RF := mkFn 0 b_is_witness
theorem ok_is_witness (T : Tops K mg base) (G_is_integer : GV P w K mg base k "is_integer" ["thing"] f_is_integer) (G_check_row : GV P w K mg base k "check_row" ["thing"] f_check_row) (G_check_index : GV P w K mg base k "check_index" ["row", "thing"] f_check_index) (G_depths_of : GV P w K mg base k "depths_of" ["row"] f_depths_of) (G_shows : GV P w K mg base k "shows" ["row", "depths", "index", "point"] f_shows) : GV P w K mg base (k + 1) "is_witness" ["row", "index", "thing"] f_is_witness :=
  gv_ok T.d_is_witness sc_is_witness (by decide) fun f cdv A outer s H E pv hr gd =>
  (dss_cons (ds_expr (de_callV (ms := [.v]) (L2.takes_of rfl rfl rfl rfl) G_check_row hr gd (by rfl) (da_cons (de_var (i := 0) rfl (.inl rfl)) da_nil)))
  (dss_cons (ds_expr (de_callV (ms := [.v, .v]) (L2.takes_of rfl rfl rfl rfl) G_check_index hr gd (by rfl) (da_cons (de_var (i := 0) rfl (.inl rfl)) (da_cons (de_var (i := 1) rfl (.inl rfl)) da_nil))))
  (dss_one (ds_ret (de_and (de_callV (ms := [.v]) (L2.takes_of rfl rfl rfl rfl) G_is_integer hr gd (by rfl) (da_cons (de_var (i := 2) rfl (.inl rfl)) da_nil)) (de_one (de_callV (ms := [.v, .v, .v, .v]) (L2.takes_of rfl rfl rfl rfl) G_shows hr gd (by rfl) (da_cons (de_var (i := 0) rfl (.inl rfl)) (da_cons (de_callV (ms := [.v]) (L2.takes_of rfl rfl rfl rfl) G_depths_of hr gd (by rfl) (da_cons (de_var (i := 0) rfl (.inl rfl)) da_nil)) (da_cons (de_var (i := 1) rfl (.inl rfl)) (da_cons (de_var (i := 2) rfl (.inl rfl)) da_nil)))))))))))
/-! ### law -/
theorem sc_law : FnScope ["_law_script", "_law_pen_here", "_law_lap", "_law_row_here", "_law_kept", "_law_depths", "_law_hues_here", "_law_again", "_law_found", "_law_bound", "_law_k", "_law_one", "_law_layer", "_law_near", "_law_many", "_law_ends", "_law_odd", "_law_thing", "_law_due", "_law_j", "_law_other"] ["_law_script"] (defScope s_law) := ⟨rfl, rfl, rfl, by decide +kernel, rfl, by decide +kernel, by decide +kernel⟩
noncomputable def b_law : M DL.Flow :=
  (sSeq (sSet .keep 1 (dCall f__law_pen [.v] (dCons (dVar 0) dNil)))
  (sSeq (sFor (dRng1 (dC (.int 10))) (.nm 2)
  (sSeq (sSet .frz 3 (dCall f__law_row [.io, .v] (dCons (dVar 1) (dCons (dC (.int 12)) dNil))))
  (sSeq (sAsg (.tp [(.nm 4), (.nm 5)]) (dTup (dCons (dB hRepr3 (dCons (dVar 3) dNil)) (dCons (dCall f__law_layers [.v] (dCons (dVar 3) dNil)) dNil))))
  (sSeq (sSet .frz 6 (dCall f__law_hues [.v] (dCons (dVar 3) dNil)))
  (sSeq (sFor (dRng1 (dC (.int 2))) (.nm 7)
  (sSeq (sSet .keep 8 (dLstO (dCons (dCall f_layers [.v] (dCons (dVar 3) dNil)) (dCons (dCall f_layered [.v] (dCons (dVar 3) dNil)) dNil))))
  (sSeq (sIf (tst (op2 (hEq true) (dReprLo 8) (dB hRepr3 (dCons (dLst (dCons (dVar 5) (dCons (dVar 6) dNil))) dNil))))
  (sRet (dC (.bl false)))
  sNx)
  (sSeq (sExpr (dApp2 8 0))
  (sExpr (dApp2 8 1))))))
  (sSeq (sSet .frz 9 (dB hMax2 (dCons (dC (.int 0)) (dCons (op2 hSub (op2 hMul (dC (.int 3)) (dCall f__law_load [.v] (dCons (dVar 3) dNil))) (dC (.int 2))) dNil))))
  (sSeq (sIf (tOr' (tNot' (tst (dCall f__law_is_right [.v, .v] (dCons (dVar 3) (dCons (dVar 6) dNil))))) (tst (op2 hGt (dB (overInts gMax) (dCons (op2 hAdd (dLst (dCons (dC (.int 0)) dNil)) (dVar 6)) dNil)) (dVar 9))))
  (sRet (dC (.bl false)))
  sNx)
  (sSeq (sFor (dRng1 (dB hLen (dCons (dVar 3) dNil))) (.nm 10)
  (sSeq (sAsg (.tp [(.nm 11), (.nm 12)]) (dTup (dCons (op2 hIx (dVar 3) (dVar 10)) (dCons (op2 hIx (dVar 5) (dVar 10)) dNil))))
  (sSeq (sSet .frz 13 (dComp (dRng1 (dB hLen (dCons (dVar 3) dNil))) (.nm 19) [19] (tst (op2 (hEq false) (op2 hIx (dVar 5) (dVar 19)) (dVar 12))) (op2 hIx (dVar 3) (dVar 19))))
  (sSeq (sSet .frz 14 (op2 hSub (dB hSum (dCons (dComp (dSeqA (dVar 13)) (.nm 20) [20] tTrue (dB hInt (dCons (dCall f__law_touch [.v, .v] (dCons (dVar 20) (dCons (dVar 11) dNil))) dNil))) dNil)) (dC (.int 1))))
  (sSeq (sIf (tOr' (tst (op2 hGt (dVar 14) (dC (.int 2)))) (tAnd' (tst (op2 (hEq false) (dVar 12) (dC (.int 1)))) (tst (op2 hGt (dVar 14) (dC (.int 0))))))
  (sRet (dC (.bl false)))
  sNx)
  (sSeq (sIf (tst (op2 hGt (dVar 12) (dCall f__law_load [.v] (dCons (dSl (dVar 3) dNoPart (dPart (op2 hAdd (dVar 10) (dC (.int 1))))) dNil))))
  (sRet (dC (.bl false)))
  sNx)
  (sIf (tNot' (tst (dCall f__law_shows [.v, .v, .v, .v] (dCons (dVar 3) (dCons (dVar 5) (dCons (dVar 10) (dCons (dCall f_witness [.v, .v] (dCons (dVar 3) (dCons (dVar 10) dNil))) dNil)))))))
  (sRet (dC (.bl false)))
  sNx)))))))
  (sSeq (sIf (tst (op2 (hEq true) (dVar 3) (dLst dNil)))
  (sSeq (sSet .frz 10 (dCall f__law_draw [.io, .v] (dCons (dVar 1) (dCons (dB hLen (dCons (dVar 3) dNil)) dNil))))
  (sSeq (sSet .keep 15 (dLst (dCons (op2 hSub (op2 hIx (op2 hIx (dVar 3) (dVar 10)) (dC (.int 0))) (dC (.int 1))) dNil)))
  (sSeq (sFor (dSeqA (dVar 3)) (.nm 11)
  (sExpr (dMutL 15 gExt (dCons (dLst (dCons (op2 hIx (dVar 11) (dC (.int 0))) (dCons (op2 hIx (dVar 11) (dC (.int 1))) (dCons (op2 hAdd (op2 hIx (dVar 11) (dC (.int 1))) (dC (.int 1))) dNil)))) dNil))))
  (sSeq (sSet .frz 16 (dLst (dCons (dC .non) (dCons (dC (.str "0")) (dCons (dC (.bl true)) (dCons (dTup (dCons (op2 hIx (op2 hIx (dVar 3) (dVar 10)) (dC (.int 0))) dNil)) (dCons (dLst (dCons (op2 hIx (op2 hIx (dVar 3) (dVar 10)) (dC (.int 0))) dNil)) (dCons (op2 hPow (dC (.int 10)) (dC (.int 30))) (dCons dDisp0 dNil)))))))))
  (sFor (dSeqA (op2 hAdd (dVar 15) (dVar 16))) (.nm 17)
  (sSeq (sSet .frz 18 (dCall f__law_shows [.v, .v, .v, .v] (dCons (dVar 3) (dCons (dVar 5) (dCons (dVar 10) (dCons (dVar 17) dNil))))))
  (sIf (tst (op2 (hEq true) (dB hRepr3 (dCons (dCall f_is_witness [.v, .v, .v] (dCons (dVar 3) (dCons (dVar 10) (dCons (dVar 17) dNil)))) dNil)) (dB hRepr3 (dCons (dVar 18) dNil))))
  (sRet (dC (.bl false)))
  sNx)))))))
  sNx)
  (sIf (tst (op2 (hEq true) (dB hRepr3 (dCons (dVar 3) dNil)) (dVar 4)))
  (sRet (dC (.bl false)))
  sNx))))))))))
  (sRet (dC (.bl true)))))
noncomputable def f_law : List O → RF := mkFn 20 b_law
theorem ok_law (T : Tops K mg base) (G_layers : GV P w K mg base k "layers" ["row"] f_layers) (G_witness : GV P w K mg base k "witness" ["row", "index"] f_witness) (G_is_witness : GV P w K mg base k "is_witness" ["row", "index", "thing"] f_is_witness) (G_layered : GV P w K mg base k "layered" ["row"] f_layered) (G__law_pen : GV P w K mg base k "_law_pen" ["_law_script"] f__law_pen) (G__law_draw : GV P w K mg base k "_law_draw" ["_law_pen_here", "_law_under"] f__law_draw) (G__law_row : GV P w K mg base k "_law_row" ["_law_pen_here", "_law_many"] f__law_row) (G__law_touch : GV P w K mg base k "_law_touch" ["_law_one", "_law_other"] f__law_touch) (G__law_load : GV P w K mg base k "_law_load" ["_law_row_here"] f__law_load) (G__law_is_right : GV P w K mg base k "_law_is_right" ["_law_row_here", "_law_colours"] f__law_is_right) (G__law_layers : GV P w K mg base k "_law_layers" ["_law_row_here"] f__law_layers) (G__law_hues : GV P w K mg base k "_law_hues" ["_law_row_here"] f__law_hues) (G__law_shows : GV P w K mg base k "_law_shows" ["_law_row_here", "_law_depths", "_law_k", "_law_point"] f__law_shows) : GV P w K mg base (k + 1) "law" ["_law_script"] f_law :=
  gv_ok T.d_law sc_law (by decide) fun f cdv A outer s H E pv hr gd =>
  (dss_cons (ds_set .keep (i := 1) sc_law.nd rfl (.inl rfl) (de_callV (ms := [.v]) (L2.takes_of rfl rfl rfl rfl) G__law_pen hr gd (by rfl) (da_cons (de_var (i := 0) rfl (.inl rfl)) da_nil)))
  (dss_cons (ds_for (L2.passes_of rfl) rfl (di_rng1 (by rfl) T.n_range de_int) (dg_nm (i := 2) sc_law.nd rfl (.inl rfl))
  (dss_cons (ds_set .frz (i := 3) sc_law.nd rfl (.inr rfl) (de_callV (ms := [.io, .v]) (L2.takes_of rfl rfl rfl rfl) G__law_row hr gd (by rfl) (da_cons (de_var (i := 1) rfl (.inl rfl)) (da_cons de_int da_nil))))
  (dss_cons (ds_asg (de_tup (da_cons (de_blt (blt_repr3 hr gd) (by rfl) T.n_repr rfl (da_cons (de_var (i := 3) rfl (.inr (.inl rfl))) da_nil)) (da_cons (de_callV (ms := [.v]) (L2.takes_of rfl rfl rfl rfl) G__law_layers hr gd (by rfl) (da_cons (de_var (i := 3) rfl (.inr (.inl rfl))) da_nil)) da_nil))) (dg_tp rfl (dgs_cons (dg_nm (i := 4) sc_law.nd rfl (.inl rfl)) (dgs_cons (dg_nm (i := 5) sc_law.nd rfl (.inr rfl)) dgs_nil))))
  (dss_cons (ds_set .frz (i := 6) sc_law.nd rfl (.inl rfl) (de_callV (ms := [.v]) (L2.takes_of rfl rfl rfl rfl) G__law_hues hr gd (by rfl) (da_cons (de_var (i := 3) rfl (.inr (.inl rfl))) da_nil)))
  (dss_cons (ds_for (L2.passes_of rfl) rfl (di_rng1 (by rfl) T.n_range de_int) (dg_nm (i := 7) sc_law.nd rfl (.inl rfl))
  (dss_cons (ds_set .keep (i := 8) sc_law.nd rfl (.inl rfl) (de_lstO (da_cons (de_callV (ms := [.v]) (L2.takes_of rfl rfl rfl rfl) G_layers hr gd (by rfl) (da_cons (de_var (i := 3) rfl (.inr (.inl rfl))) da_nil)) (da_cons (de_callV (ms := [.v]) (L2.takes_of rfl rfl rfl rfl) G_layered hr gd (by rfl) (da_cons (de_var (i := 3) rfl (.inr (.inl rfl))) da_nil)) da_nil))))
  (dss_cons (ds_if (dt_cmpR (cr_ne hr) (de_reprLo (i := 8) (blt_repr3 hr gd) (by rfl) T.n_repr rfl rfl (.inl rfl)) (de_blt (blt_repr3 hr gd) (by rfl) T.n_repr rfl (da_cons (de_lst (da_cons (de_var (i := 5) rfl (.inr (.inl rfl))) (da_cons (de_var (i := 6) rfl (.inl rfl)) da_nil))) da_nil)))
  (dss_one (ds_ret de_bl))
  dss_nil)
  (dss_cons (ds_expr (de_app2 (i := 8) (k := 0) rfl (.inl rfl)))
  (dss_one (ds_expr (de_app2 (i := 8) (k := 1) rfl (.inl rfl))))))))
  (dss_cons (ds_set .frz (i := 9) sc_law.nd rfl (.inl rfl) (de_blt (blt_max2 rfl) (by rfl) T.n_max rfl (da_cons de_int (da_cons (de_sub (de_mul de_int (de_callV (ms := [.v]) (L2.takes_of rfl rfl rfl rfl) G__law_load hr gd (by rfl) (da_cons (de_var (i := 3) rfl (.inr (.inl rfl))) da_nil))) de_int) da_nil))))
  (dss_cons (ds_if (L2.PW.pt (dw_or (dt_not (dt_val (de_callV (ms := [.v, .v]) (L2.takes_of rfl rfl rfl rfl) G__law_is_right hr gd (by rfl) (da_cons (de_var (i := 3) rfl (.inr (.inl rfl))) (da_cons (de_var (i := 6) rfl (.inl rfl)) da_nil))))) (dw_or1 (dt_cmpR cr_gt (de_blt (blt_max1 rfl) (by rfl) T.n_max rfl (da_cons (de_add (de_lst (da_cons de_int da_nil)) (de_var (i := 6) rfl (.inl rfl))) da_nil)) (de_var (i := 9) rfl (.inl rfl))))))
  (dss_one (ds_ret de_bl))
  dss_nil)
  (dss_cons (ds_for (L2.passes_of rfl) rfl (di_rng1 (by rfl) T.n_range (de_blt blt_len (by rfl) T.n_len rfl (da_cons (de_var (i := 3) rfl (.inr (.inl rfl))) da_nil))) (dg_nm (i := 10) sc_law.nd rfl (.inl rfl))
  (dss_cons (ds_asg (de_tup (da_cons (de_ix (de_var (i := 3) rfl (.inr (.inl rfl))) (de_var (i := 10) rfl (.inl rfl))) (da_cons (de_ix (de_var (i := 5) rfl (.inr (.inl rfl))) (de_var (i := 10) rfl (.inl rfl))) da_nil))) (dg_tp rfl (dgs_cons (dg_nm (i := 11) sc_law.nd rfl (.inr rfl)) (dgs_cons (dg_nm (i := 12) sc_law.nd rfl (.inr rfl)) dgs_nil))))
  (dss_cons (ds_setComp (own := [("_law_j", 19)]) .frz (i := 13) rfl sc_law.nd rfl rfl rfl (di_rng1 (by rfl) T.n_range (de_blt blt_len (by rfl) T.n_len rfl (da_cons (de_var (i := 3) rfl (.inr (.inl rfl))) da_nil))) (by exact blkOk_by (N := ["_law_script", "_law_pen_here", "_law_lap", "_law_row_here", "_law_kept", "_law_depths", "_law_hues_here", "_law_again", "_law_found", "_law_bound", "_law_k", "_law_one", "_law_layer", "_law_near", "_law_many", "_law_ends", "_law_odd", "_law_thing", "_law_due", "_law_j", "_law_other"]) (sc := defScope s_law) (own := [("_law_j", 19)]) (by decide +kernel)) (by decide) (fun _ _ _ _ _ => (dg_nm (i := 19) sc_law.nd rfl (.inl rfl))) (fun _ _ _ _ _ => (dts_one (dt_cmpR (cr_eq hr) (de_ix (de_var (i := 5) rfl (.inr (.inl rfl))) (de_var (i := 19) rfl (.inl rfl))) (de_var (i := 12) rfl (.inr (.inl rfl)))))) (fun _ _ _ _ _ => (de_ix (de_var (i := 3) rfl (.inr (.inl rfl))) (de_var (i := 19) rfl (.inl rfl)))))
  (dss_cons (ds_set .frz (i := 14) sc_law.nd rfl (.inl rfl) (de_sub (de_blt (blt_sum rfl) (by rfl) T.n_sum rfl (da_cons (de_comp (own := [("_law_other", 20)]) rfl sc_law.nd (di_any (de_var (i := 13) rfl (.inl rfl))) (by exact blkOk_by (N := ["_law_script", "_law_pen_here", "_law_lap", "_law_row_here", "_law_kept", "_law_depths", "_law_hues_here", "_law_again", "_law_found", "_law_bound", "_law_k", "_law_one", "_law_layer", "_law_near", "_law_many", "_law_ends", "_law_odd", "_law_thing", "_law_due", "_law_j", "_law_other"]) (sc := defScope s_law) (own := [("_law_other", 20)]) (by decide +kernel)) (by decide) (fun _ _ _ _ _ => (dg_nm (i := 20) sc_law.nd rfl (.inl rfl))) (fun _ _ _ _ _ => dts_nil) (fun _ _ _ _ _ => (de_typ typ_int (by rfl) T.n_int rfl (da_cons (de_callV (ms := [.v, .v]) LamX.takes0 G__law_touch hr gd (by rfl) (da_cons (de_var (i := 20) rfl (.inl rfl)) (da_cons (de_var (i := 11) rfl (.inr (.inl rfl))) da_nil))) da_nil)))) da_nil)) de_int))
  (dss_cons (ds_if (L2.PW.pt (dw_or (dt_cmpR cr_gt (de_var (i := 14) rfl (.inl rfl)) de_int) (dw_or1 (L2.PW.pt (dw_and (dt_cmpR (cr_eq hr) (de_var (i := 12) rfl (.inr (.inl rfl))) de_int) (dw_and1 (dt_cmpR cr_gt (de_var (i := 14) rfl (.inl rfl)) de_int)))))))
  (dss_one (ds_ret de_bl))
  dss_nil)
  (dss_cons (ds_if (dt_cmpR cr_gt (de_var (i := 12) rfl (.inr (.inl rfl))) (de_callV (ms := [.v]) (L2.takes_of rfl rfl rfl rfl) G__law_load hr gd (by rfl) (da_cons (de_sl (de_var (i := 3) rfl (.inr (.inl rfl))) do_none (do_some (de_add (de_var (i := 10) rfl (.inl rfl)) de_int))) da_nil)))
  (dss_one (ds_ret de_bl))
  dss_nil)
  (dss_one (ds_if (dt_not (dt_val (de_callV (ms := [.v, .v, .v, .v]) (L2.takes_of rfl rfl rfl rfl) G__law_shows hr gd (by rfl) (da_cons (de_var (i := 3) rfl (.inr (.inl rfl))) (da_cons (de_var (i := 5) rfl (.inr (.inl rfl))) (da_cons (de_var (i := 10) rfl (.inl rfl)) (da_cons (de_callV (ms := [.v, .v]) (L2.takes_of rfl rfl rfl rfl) G_witness hr gd (by rfl) (da_cons (de_var (i := 3) rfl (.inr (.inl rfl))) (da_cons (de_var (i := 10) rfl (.inl rfl)) da_nil))) da_nil)))))))
  (dss_one (ds_ret de_bl))
  dss_nil))))))))
  (dss_cons (ds_if (dt_cmpR (cr_ne hr) (de_var (i := 3) rfl (.inr (.inl rfl))) (de_lst da_nil))
  (dss_cons (ds_set .frz (i := 10) sc_law.nd rfl (.inl rfl) (de_callV (ms := [.io, .v]) (L2.takes_of rfl rfl rfl rfl) G__law_draw hr gd (by rfl) (da_cons (de_var (i := 1) rfl (.inl rfl)) (da_cons (de_blt blt_len (by rfl) T.n_len rfl (da_cons (de_var (i := 3) rfl (.inr (.inl rfl))) da_nil)) da_nil))))
  (dss_cons (ds_set .keep (i := 15) sc_law.nd rfl (.inl rfl) (de_lst (da_cons (de_sub (de_ix (de_ix (de_var (i := 3) rfl (.inr (.inl rfl))) (de_var (i := 10) rfl (.inl rfl))) de_int) de_int) da_nil)))
  (dss_cons (ds_for (L2.passes_of rfl) rfl (di_any (de_var (i := 3) rfl (.inr (.inl rfl)))) (dg_nm (i := 11) sc_law.nd rfl (.inr rfl))
  (dss_one (ds_expr (de_extV (i := 15) rfl (.inl rfl) (da_cons (de_lst (da_cons (de_ix (de_var (i := 11) rfl (.inr (.inl rfl))) de_int) (da_cons (de_ix (de_var (i := 11) rfl (.inr (.inl rfl))) de_int) (da_cons (de_add (de_ix (de_var (i := 11) rfl (.inr (.inl rfl))) de_int) de_int) da_nil)))) da_nil)))))
  (dss_cons (ds_set .frz (i := 16) sc_law.nd rfl (.inl rfl) (de_lst (da_cons de_non (da_cons de_str (da_cons de_bl (da_cons (de_tup (da_cons (de_ix (de_ix (de_var (i := 3) rfl (.inr (.inl rfl))) (de_var (i := 10) rfl (.inl rfl))) de_int) da_nil)) (da_cons (de_lst (da_cons (de_ix (de_ix (de_var (i := 3) rfl (.inr (.inl rfl))) (de_var (i := 10) rfl (.inl rfl))) de_int) da_nil)) (da_cons (de_pow de_int de_int) (da_cons de_disp0 da_nil)))))))))
  (dss_one (ds_for (L2.passes_of rfl) rfl (di_any (de_add (de_var (i := 15) rfl (.inl rfl)) (de_var (i := 16) rfl (.inl rfl)))) (dg_nm (i := 17) sc_law.nd rfl (.inl rfl))
  (dss_cons (ds_set .frz (i := 18) sc_law.nd rfl (.inl rfl) (de_callV (ms := [.v, .v, .v, .v]) (L2.takes_of rfl rfl rfl rfl) G__law_shows hr gd (by rfl) (da_cons (de_var (i := 3) rfl (.inr (.inl rfl))) (da_cons (de_var (i := 5) rfl (.inr (.inl rfl))) (da_cons (de_var (i := 10) rfl (.inl rfl)) (da_cons (de_var (i := 17) rfl (.inl rfl)) da_nil))))))
  (dss_one (ds_if (dt_cmpR (cr_ne hr) (de_blt (blt_repr3 hr gd) (by rfl) T.n_repr rfl (da_cons (de_callV (ms := [.v, .v, .v]) (L2.takes_of rfl rfl rfl rfl) G_is_witness hr gd (by rfl) (da_cons (de_var (i := 3) rfl (.inr (.inl rfl))) (da_cons (de_var (i := 10) rfl (.inl rfl)) (da_cons (de_var (i := 17) rfl (.inl rfl)) da_nil)))) da_nil)) (de_blt (blt_repr3 hr gd) (by rfl) T.n_repr rfl (da_cons (de_var (i := 18) rfl (.inl rfl)) da_nil)))
  (dss_one (ds_ret de_bl))
  dss_nil)))))))))
  dss_nil)
  (dss_one (ds_if (dt_cmpR (cr_ne hr) (de_blt (blt_repr3 hr gd) (by rfl) T.n_repr rfl (da_cons (de_var (i := 3) rfl (.inr (.inl rfl))) da_nil)) (de_var (i := 4) rfl (.inl rfl)))
  (dss_one (ds_ret de_bl))
  dss_nil)))))))))))
  (dss_one (ds_ret de_bl))))
/-! ### all -/
theorem go__law_pen (T : Tops K mg base) : GV P w K mg base 1 "_law_pen" ["_law_script"] f__law_pen := ok__law_pen T
theorem go__law_next (T : Tops K mg base) : GV P w K mg base 1 "_law_next" ["_law_pen_here"] f__law_next := ok__law_next T
theorem go__law_draw (T : Tops K mg base) : GV P w K mg base 2 "_law_draw" ["_law_pen_here", "_law_under"] f__law_draw := ok__law_draw T ((go__law_next T).up (by decide))
theorem go__law_stretch (T : Tops K mg base) : GV P w K mg base 3 "_law_stretch" ["_law_pen_here", "_law_wide"] f__law_stretch := ok__law_stretch T ((go__law_draw T).up (by decide))
theorem go__law_row (T : Tops K mg base) : GV P w K mg base 4 "_law_row" ["_law_pen_here", "_law_many"] f__law_row := ok__law_row T ((go__law_draw T).up (by decide)) ((go__law_stretch T).up (by decide))
theorem go__law_over (T : Tops K mg base) : GV P w K mg base 1 "_law_over" ["_law_row_here", "_law_point"] f__law_over := ok__law_over T
theorem go__law_is_full (T : Tops K mg base) : GV P w K mg base 2 "_law_is_full" ["_law_row_here", "_law_depths", "_law_layer", "_law_points"] f__law_is_full := ok__law_is_full T ((go__law_over T).up (by decide))
theorem go__law_layers (T : Tops K mg base) : GV P w K mg base 3 "_law_layers" ["_law_row_here"] f__law_layers := ok__law_layers T ((go__law_is_full T).up (by decide))
theorem go__law_touch (T : Tops K mg base) : GV P w K mg base 1 "_law_touch" ["_law_one", "_law_other"] f__law_touch := ok__law_touch T
theorem go__law_least (T : Tops K mg base) : GV P w K mg base 1 "_law_least" ["_law_bars", "_law_first"] f__law_least := ok__law_least T
theorem go__law_hues (T : Tops K mg base) : GV P w K mg base 4 "_law_hues" ["_law_row_here"] f__law_hues := ok__law_hues T ((go__law_touch T).up (by decide)) ((go__law_least T).up (by decide)) ((go__law_layers T).up (by decide))
theorem go_is_integer (T : Tops K mg base) : GV P w K mg base 1 "is_integer" ["thing"] f_is_integer := ok_is_integer T
theorem go_is_within (T : Tops K mg base) : GV P w K mg base 2 "is_within" ["thing", "least", "most"] f_is_within := ok_is_within T ((go_is_integer T).up (by decide))
theorem go_is_point (T : Tops K mg base) : GV P w K mg base 3 "is_point" ["thing"] f_is_point := ok_is_point T ((go_is_within T).up (by decide))
theorem go_is_stretch (T : Tops K mg base) : GV P w K mg base 4 "is_stretch" ["thing"] f_is_stretch := ok_is_stretch T ((go_is_point T).up (by decide))
theorem go_is_row (T : Tops K mg base) : GV P w K mg base 5 "is_row" ["thing"] f_is_row := ok_is_row T ((go_is_stretch T).up (by decide))
theorem go_check_row (T : Tops K mg base) : GV P w K mg base 6 "check_row" ["thing"] f_check_row := ok_check_row T ((go_is_row T).up (by decide))
theorem go_covers (T : Tops K mg base) : GV P w K mg base 1 "covers" ["stretch", "point"] f_covers := ok_covers T
theorem go_load_over (T : Tops K mg base) : GV P w K mg base 2 "load_over" ["row", "point"] f_load_over := ok_load_over T ((go_covers T).up (by decide))
theorem go_points_of (T : Tops K mg base) : GV P w K mg base 2 "points_of" ["row", "stretch"] f_points_of := ok_points_of T ((go_covers T).up (by decide))
theorem go_next_layer (T : Tops K mg base) : GV P w K mg base 3 "next_layer" ["row", "depths", "stretch"] f_next_layer := ok_next_layer T ((go_load_over T).up (by decide)) ((go_points_of T).up (by decide))
theorem go_depths_of (T : Tops K mg base) : GV P w K mg base 4 "depths_of" ["row"] f_depths_of := ok_depths_of T ((go_next_layer T).up (by decide))
theorem go_layers (T : Tops K mg base) : GV P w K mg base 7 "layers" ["row"] f_layers := ok_layers T ((go_check_row T).up (by decide)) ((go_depths_of T).up (by decide))
theorem go_is_touching (T : Tops K mg base) : GV P w K mg base 1 "is_touching" ["one", "other"] f_is_touching := ok_is_touching T
theorem go_least_free (T : Tops K mg base) : GV P w K mg base 2 "least_free" ["row", "colours", "stretch", "first"] f_least_free := ok_least_free T ((go_is_touching T).up (by decide))
theorem go_next_colour (T : Tops K mg base) : GV P w K mg base 3 "next_colour" ["row", "depths", "colours", "stretch", "layer"] f_next_colour := ok_next_colour T ((go_least_free T).up (by decide))
theorem go_layered (T : Tops K mg base) : GV P w K mg base 7 "layered" ["row"] f_layered := ok_layered T ((go_check_row T).up (by decide)) ((go_next_colour T).up (by decide)) ((go_depths_of T).up (by decide))
theorem go__law_is_right (T : Tops K mg base) : GV P w K mg base 2 "_law_is_right" ["_law_row_here", "_law_colours"] f__law_is_right := ok__law_is_right T ((go__law_touch T).up (by decide))
theorem go__law_load (T : Tops K mg base) : GV P w K mg base 2 "_law_load" ["_law_row_here"] f__law_load := ok__law_load T ((go__law_over T).up (by decide))
theorem go__law_shows (T : Tops K mg base) : GV P w K mg base 2 "_law_shows" ["_law_row_here", "_law_depths", "_law_k", "_law_point"] f__law_shows := ok__law_shows T ((go__law_over T).up (by decide))
theorem go_check_index (T : Tops K mg base) : GV P w K mg base 3 "check_index" ["row", "thing"] f_check_index := ok_check_index T ((go_is_within T).up (by decide))
theorem go_shows (T : Tops K mg base) : GV P w K mg base 3 "shows" ["row", "depths", "index", "point"] f_shows := ok_shows T ((go_covers T).up (by decide)) ((go_load_over T).up (by decide))
theorem go_witness (T : Tops K mg base) : GV P w K mg base 7 "witness" ["row", "index"] f_witness := ok_witness T ((go_check_row T).up (by decide)) ((go_check_index T).up (by decide)) ((go_depths_of T).up (by decide)) ((go_shows T).up (by decide))
theorem go_is_witness (T : Tops K mg base) : GV P w K mg base 7 "is_witness" ["row", "index", "thing"] f_is_witness := ok_is_witness T ((go_is_integer T).up (by decide)) ((go_check_row T).up (by decide)) ((go_check_index T).up (by decide)) ((go_depths_of T).up (by decide)) ((go_shows T).up (by decide))
theorem go_law (T : Tops K mg base) : GV P w K mg base 8 "law" ["_law_script"] f_law := ok_law T ((go_layers T).up (by decide)) ((go_witness T).up (by decide)) ((go_is_witness T).up (by decide)) ((go_layered T).up (by decide)) ((go__law_pen T).up (by decide)) ((go__law_draw T).up (by decide)) ((go__law_row T).up (by decide)) ((go__law_touch T).up (by decide)) ((go__law_load T).up (by decide)) ((go__law_is_right T).up (by decide)) ((go__law_layers T).up (by decide)) ((go__law_hues T).up (by decide)) ((go__law_shows T).up (by decide))
end
end Gk07
end
section
set_option maxRecDepth 100000
set_option maxHeartbeats 4000000
namespace Gk07
open PySem PySem.Spec PyProof.Rows L2 DL
variable [tb : Tb]
def isIntD : D → Bool
  | .int _ => true
  | _ => false
def plainD : D → Bool
  | .non | .bl _ | .int _ | .str _ | .tup _ | .lst _ | .dct _ _ => true
  | _ => false
theorem f_is_integer_eq (d : D) (h : plainD d = true) : f_is_integer [.val d] = .ok (.val (.bl (isIntD d))) [.val d] := by
  cases d <;> simp [plainD] at h <;> simp [f_is_integer, b_is_integer, hIsi, isTyD, isIntD]
def inD (d : D) (a b : Int) : Bool := match d with
  | .int i => decide (a ≤ i) && decide (i ≤ b)
  | _ => false
theorem f_is_within_eq (d : D) (a b : Int) (h : plainD d = true) : f_is_within [.val d, .val (.int a), .val (.int b)] = .ok (.val (.bl (inD d a b))) [.val d, .val (.int a), .val (.int b)] := by
  have e := f_is_integer_eq d h
  cases d <;> simp [plainD] at h <;> simp [isIntD] at e <;> simp [f_is_within, b_is_within, e, inD]
  rename_i i
  by_cases h1 : a ≤ i <;> simp [h1]
theorem f_is_point_eq (d : D) (h : plainD d = true) : f_is_point [.val d] = .ok (.val (.bl (inD d (-1000000000) 1000000000))) [.val d] := by
  simp [f_is_point, b_is_point, f_is_within_eq _ _ _ h]
def Pen (cells : List Int) (i r : Int) : O := .lst [.lst (cells.map D.int), .int i, .int r]
def nxt (cells : List Int) (i : Int) : Int :=
  let c0 := i * 1051 + 53
  let c := if cells = [] then c0 else (cells[(i % cells.length).toNat]?).getD 0
  if i < cells.length ∧ c ≥ 10 ^ 18 then c else
  let s := (c % 2147483587 + i * 30103 + 79) % 2147483587
  let m := (s * s + i * 70039 + 61) % 2147483563
  let h := (m * m + s + i * i * 37) % 2147483549
  (h * 2147483587 + m) * 2147483563 + s
theorem f_law_next_eq (cells : List Int) (i r : Int) (h0 : 0 ≤ i) (h1 : i < 2 ^ 62) : f__law_next [Pen cells i r] = .ok (.val (.int (nxt cells i))) [Pen cells (i + 1) r] := by
  have c1 : cMul i 1051 = true := cMul_r (by decide) (by decide)
  have c2 : cMul i 30103 = true := cMul_r (by decide) (by decide)
  have c3 : cPow 10 18 = true := by decide
  have c4 : cMul i 70039 = true := cMul_r (by decide) (by decide)
  have c5 : cMul i i = true := cMul_r (by omega) (by omega)
  have c6 : cMul (i * i) 37 = true := cMul_r (by decide) (by decide)
  have c7 : ∀ x : Int, cMul x 2147483587 = true := fun x => cMul_r (by decide) (by decide)
  have c8 : ∀ x : Int, cMul x 2147483563 = true := fun x => cMul_r (by decide) (by decide)
  have c9 : ∀ x : Int, cMul (x % 2147483587) (x % 2147483587) = true := fun x => cMul_r (by omega) (by omega)
  have c10 : ∀ x : Int, cMul (x % 2147483563) (x % 2147483563) = true := fun x => cMul_r (by omega) (by omega)
  have m1 : ∀ x : Int, cMod x 2147483587 = true := fun x => cMod_p (by decide)
  have m2 : ∀ x : Int, cMod x 2147483563 = true := fun x => cMod_p (by decide)
  have m3 : ∀ x : Int, cMod x 2147483549 = true := fun x => cMod_p (by decide)
  have n0 : ¬ i < 0 := by omega
  by_cases hc : cells = []
  · subst hc
    simp [f__law_next, b__law_next, Pen, ixN, c1, c2, c3, c4, c5, c6, c7, c8, c9, c10, m1, m2, m3, nxt, n0]
  · obtain ⟨x, hx, hx2⟩ := atI_mod hc i
    have ml : cMod i cells.length = true := cMod_p (by have := List.length_pos_iff.mpr hc; omega)
    by_cases h3 : i < cells.length
    · by_cases h4 : (1000000000000000000 : Int) ≤ x
      · simp [f__law_next, b__law_next, Pen, ixN, c1, c2, c3, c4, c5, c6, c7, c8, c9, c10, m1, m2, m3, nxt, n0, hc, ml, hx, hx2, h3, h4]
      · simp [f__law_next, b__law_next, Pen, ixN, c1, c2, c3, c4, c5, c6, c7, c8, c9, c10, m1, m2, m3, nxt, n0, hc, ml, hx, hx2, h3, h4]
    · simp [f__law_next, b__law_next, Pen, ixN, c1, c2, c3, c4, c5, c6, c7, c8, c9, c10, m1, m2, m3, nxt, n0, hc, ml, hx, hx2, h3]
def PenOk (b : Int) (o : O) : Prop := ∃ cells i r, o = Pen cells i r ∧ 0 ≤ i ∧ i ≤ b
theorem f_law_draw_eq (cells : List Int) (i r u : Int) (h0 : 0 ≤ i) (h1 : i < 2 ^ 62) (hu : 0 < u) (hu2 : u.natAbs.log2 < 9000) : ∃ i2 r2 k, f__law_draw [Pen cells i r, .val (.int u)] = .ok (.val (.int k)) [Pen cells i2 r2, .val (.int u)] ∧ i ≤ i2 ∧ i2 ≤ i + 1 ∧ 0 ≤ k ∧ k < u := by
  have e := f_law_next_eq cells i r h0 h1
  have d1 : ∀ x : Int, cDiv x u = true := fun x => by unfold cDiv; simp [hu, hu2]
  have m1 : ∀ x : Int, cMod x u = true := fun x => cMod_p hu
  simp only [Pen] at e
  by_cases h3 : r < u
  · refine ⟨i + 1, nxt cells i / u, nxt cells i % u, ?_, by omega, by omega, Int.emod_nonneg _ (by omega), Int.emod_lt_of_pos _ hu⟩
    simp [f__law_draw, b__law_draw, Pen, ixN, d1, m1, h3, e]
  · refine ⟨i, r / u, r % u, ?_, by omega, by omega, Int.emod_nonneg _ (by omega), Int.emod_lt_of_pos _ hu⟩
    simp [f__law_draw, b__law_draw, Pen, ixN, d1, m1, h3]
theorem draw_ok {b u : Int} {o : O} (h : PenOk b o) (hb : b < 2 ^ 62) (hu : 0 < u) (hu2 : u.natAbs.log2 < 9000) : ∃ o2 k, f__law_draw [o, .val (.int u)] = .ok (.val (.int k)) [o2, .val (.int u)] ∧ PenOk (b + 1) o2 ∧ 0 ≤ k ∧ k < u := by
  obtain ⟨cells, i, r, rfl, h1, h2⟩ := h
  obtain ⟨i2, r2, k, e, h3, h4, h5, h6⟩ := f_law_draw_eq cells i r u h1 (by omega) hu hu2
  exact ⟨_, k, e, ⟨cells, i2, r2, rfl, by omega, by omega⟩, h5, h6⟩
theorem PenOk.up {b c : Int} {o : O} (h : PenOk b o) (hc : b ≤ c) : PenOk c o := by
  obtain ⟨cells, i, r, rfl, h1, h2⟩ := h
  exact ⟨cells, i, r, rfl, h1, by omega⟩
theorem PenOk.lst {b : Int} {o : O} (h : PenOk b o) : ∃ l, o = .lst l := by
  obtain ⟨cells, i, r, rfl, h1, h2⟩ := h
  exact ⟨_, rfl⟩
def st (a b : Int) : D := .tup [.int a, .int b]
@[simp] theorem heq_int (i j : Int) (n : Bool) : hEq n (.int i) (.int j) = some (.val (.bl (if n then !decide (i = j) else decide (i = j)))) := by
  have h : ∀ z : Int, SeqAt.shaped (.int z) = true := fun z => by simp [SeqAt.shaped, PyData.canLay0, PyData.depth]
  have e : PyData.eqv (.int i) (.int j) = decide (i = j) := by simp [PyData.eqv]; rw [Bool.eq_iff_iff]; simp
  simp only [hEq, D.py, h, and_self, if_true, e]
@[simp] theorem all2 (a b : Bool) : hAll [.lst [.bl a, .bl b]] = some (.val (.bl (a && b))) := by
  have := ev_all (ns := [a, b])
  simpa using this
theorem all_map (t : D → Bool) (ds : List D) : hAll [.lst (ds.map fun d => .bl (t d))] = some (.val (.bl (ds.all t))) := by
  have := ev_all (ns := ds.map t)
  simpa [List.map_map, Function.comp_def, List.all_map] using this
def isStr : D → Bool
  | .tup [a, b] => inD a (-1000000000) 1000000000 && inD b (-1000000000) 1000000000 && (match a, b with
    | .int a, .int b => decide (a ≤ b)
    | _, _ => false)
  | _ => false
def plain2 : D → Bool
  | .tup l => l.all plainD && decide (l.length ≤ 100)
  | d => plainD d
theorem hundred : 100 ≤ sizeLine := by decide +kernel
theorem f_is_stretch_eq (d : D) (h : plain2 d = true) : f_is_stretch [.val d] = .ok (.val (.bl (isStr d))) [.val d] := by
  have hz := hundred
  cases d <;> simp [plain2, plainD] at h
  case tup l =>
    obtain ⟨h1, h2⟩ := h
    have e : ∀ {env : DEnv}, env[1]? = some .un → compL (.nm 1) [1] tTrue (dCall f_is_point [.v] (dCons (dVar 1) dNil)) l [] env = .ok ([] ++ l.map fun d => .bl (inD d (-1000000000) 1000000000)) env := fun {env} he => by
      refine compL_map (fun d => .bl (inD d (-1000000000) 1000000000)) he (fun d hd => ⟨.val (.bl _), ?_, rfl⟩) (by simp; omega)
      have hn : 1 < env.length := (List.getElem?_eq_some_iff.mp he).1
      simp [f_is_point_eq _ (h1 d hd), hn]
    rcases l with _ | ⟨x, _ | ⟨y, _ | ⟨z, l⟩⟩⟩
    · simp [f_is_stretch, b_is_stretch, hIsi, isTyD, isStr]
    · simp [f_is_stretch, b_is_stretch, hIsi, isTyD, isStr]
    · have e2 := all_map (fun d => inD d (-1000000000) 1000000000) [x, y]
      simp only [List.map_cons, List.map_nil, List.all_cons, List.all_nil, Bool.and_true] at e2
      by_cases hx : inD x (-1000000000) 1000000000 = true
      · by_cases hy : inD y (-1000000000) 1000000000 = true
        · cases x <;> simp [inD] at hx
          cases y <;> simp [inD] at hy
          simp [f_is_stretch, b_is_stretch, hIsi, isTyD, isStr, e, e2, hx, hy, inD]
        · simp [f_is_stretch, b_is_stretch, hIsi, isTyD, isStr, e, e2, hx, hy]
      · simp [f_is_stretch, b_is_stretch, hIsi, isTyD, isStr, e, e2, hx]
    · have : ¬ ((l.length : Int) + 1 + 1 + 1 = 2) := by omega
      simp [f_is_stretch, b_is_stretch, hIsi, isTyD, isStr, this]
  all_goals simp [f_is_stretch, b_is_stretch, hIsi, isTyD, isStr]
def isRowD : D → Bool
  | .lst l => l.all isStr
  | _ => false
def plain3 : D → Prop
  | .lst l => (∀ x ∈ l, plain2 x = true) ∧ l.length ≤ 100
  | d => plainD d = true
theorem f_is_row_eq (d : D) (h : plain3 d) : f_is_row [.val d] = .ok (.val (.bl (isRowD d))) [.val d] := by
  have hz := hundred
  cases d <;> simp [plain3, plainD] at h
  case lst l =>
    obtain ⟨h1, h2⟩ := h
    have e : ∀ {env : DEnv}, env[1]? = some .un → compL (.nm 1) [1] tTrue (dCall f_is_stretch [.v] (dCons (dVar 1) dNil)) l [] env = .ok ([] ++ l.map fun d => .bl (isStr d)) env := fun {env} he => by
      refine compL_map (fun d => .bl (isStr d)) he (fun d hd => ⟨.val (.bl _), ?_, rfl⟩) (by simp; omega)
      have hn : 1 < env.length := (List.getElem?_eq_some_iff.mp he).1
      simp [f_is_stretch_eq _ (h1 d hd), hn]
    simp [f_is_row, b_is_row, hIsi, isTyD, isRowD, e, all_map]
  all_goals simp [f_is_row, b_is_row, hIsi, isTyD, isRowD]
theorem f_check_row_eq (d : D) (h : plain3 d) (hr : isRowD d = true) : f_check_row [.val d] = .ok (.val .non) [.val d] := by
  simp [f_check_row, b_check_row, f_is_row_eq d h, hr]
theorem plain2_st (a b : Int) : plain2 (st a b) = true := by simp [plain2, st, plainD]
theorem f_is_touching_eq (a b c d : Int) : f_is_touching [.val (st a b), .val (st c d)] = .ok (.val (.bl (decide (a ≤ d) && decide (c ≤ b)))) [.val (st a b), .val (st c d)] := by
  by_cases h1 : a ≤ d <;> simp [f_is_touching, b_is_touching, st, h1]
theorem f_law_touch_eq (a b c d : Int) (h1 : a ≤ b) (h2 : c ≤ d) : f__law_touch [.val (st a b), .val (st c d)] = .ok (.val (.bl (decide (a ≤ d) && decide (c ≤ b)))) [.val (st a b), .val (st c d)] := by
  have e : decide (max a c ≤ min b d) = (decide (a ≤ d) && decide (c ≤ b)) := by
    rw [Bool.eq_iff_iff]; simp; omega
  simp [f__law_touch, b__law_touch, st, e]
  done
def over (ps : List (Int × Int)) (z : Int) : Nat := (ps.filter fun p => decide (p.1 ≤ z) && decide (z ≤ p.2)).length
def row (ps : List (Int × Int)) : List D := ps.map fun p => st p.1 p.2
theorem f_covers_eq (a b z : Int) : f_covers [.val (st a b), .val (.int z)] = .ok (.val (.bl (decide (a ≤ z) && decide (z ≤ b)))) [.val (st a b), .val (.int z)] := by
  by_cases h1 : a ≤ z <;> simp [f_covers, b_covers, st, h1]
def covD (z : Int) : D → Bool
  | .tup [.int a, .int b] => decide (a ≤ z) && decide (z ≤ b)
  | _ => false
theorem f_load_over_eq (ps : List (Int × Int)) (z : Int) (hl : ps.length ≤ 100) : f_load_over [.val (.lst (row ps)), .val (.int z)] = .ok (.val (.int (over ps z))) [.val (.lst (row ps)), .val (.int z)] := by
  have hz := hundred
  have e : ∀ {env : DEnv}, env[2]? = some .un → env[1]? = some (.own (.val (.int z))) → compL (.nm 2) [2] (tst (dCall f_covers [.v, .v] (dCons (dVar 2) (dCons (dVar 1) dNil)))) (dVar 2) (row ps) [] env = .ok ([] ++ ((row ps).filter (covD z)).map id) env := fun {env} he h1 => by
    refine compL_filter id (covD z) he (fun d hd => ?_) (by simp [row]; omega)
    obtain ⟨p, hp, rfl⟩ := List.mem_map.mp hd
    have hn : 2 < env.length := (List.getElem?_eq_some_iff.mp he).1
    refine ⟨?_, fun _ => ⟨.val (st p.1 p.2), ?_, rfl⟩⟩
    · simp [f_covers_eq, hn, h1]
      simp [covD, st]
    · simp [hn]
  have e2 : ((row ps).filter (covD z)).length = over ps z := by
    simp only [row, List.filter_map, List.length_map, over]
    rfl
  simp [f_load_over, b_load_over, e, e2]
theorem compL_mapx {α : Type} {i : Nat} {elt : M R} {env : DEnv} (h g : α → D) (hun : env[i]? = some .un) : ∀ {xs : List α} {acc : List D}, (∀ x ∈ xs, ∃ r, elt (env.set i (.own (.val (h x)))) = .ok r (env.set i (.own (.val (h x)))) ∧ frzR r = some (g x)) → acc.length + xs.length ≤ sizeLine →
    compL (.nm i) [i] tTrue elt (xs.map h) acc env = .ok (acc ++ xs.map g) env
  | [], acc, _, _ => by simp [compL]
  | d :: ds, acc, he, hz => by
    obtain ⟨r, h1, h2⟩ := he d List.mem_cons_self
    simp only [List.length_cons] at hz
    simp only [List.map_cons, compL, asg, free_un hun, if_true, tTrue, noX, Res.bind, h1, h2]
    rw [if_pos (by omega)]
    simp only [unE, set_un hun]
    rw [compL_mapx h g hun (fun d hd => he d (List.mem_cons_of_mem _ hd)) (by simp; omega)]
    simp
theorem maxL_mem : ∀ {l : List Int}, l ≠ [] → maxL l ∈ l
  | [], h => (h rfl).elim
  | [x], _ => by simp [maxL]
  | x :: y :: r, _ => by
    have := maxL_mem (l := y :: r) (by simp)
    simp only [maxL]
    rcases Int.le_total x (maxL (y :: r)) with h | h
    · rw [Int.max_eq_right h]; exact List.mem_cons_of_mem _ this
    · rw [Int.max_eq_left h]; exact List.mem_cons_self
theorem maxL_le : ∀ {l : List Int} {z : Int}, z ∈ l → z ≤ maxL l
  | [], z, h => nomatch h
  | [x], z, h => by simp at h; simp [maxL, h]
  | x :: y :: r, z, h => by
    simp only [maxL]
    rcases List.mem_cons.mp h with rfl | h
    · omega
    · have := maxL_le h
      omega
def load (ps : List (Int × Int)) : Int := maxL (0 :: ps.map fun p => (over ps p.1 : Int))
theorem over_mono {ps : List (Int × Int)} {y z : Int} (h : ∀ p ∈ ps, p.1 ≤ y ∧ y ≤ p.2 → p.1 ≤ z ∧ z ≤ p.2) : over ps y ≤ over ps z := by
  unfold over
  rw [← List.countP_eq_length_filter, ← List.countP_eq_length_filter]
  exact List.countP_mono_left fun p hp hq => by
    have := h p hp (by simpa using hq)
    simpa using this
theorem least_end : ∀ {qs : List (Int × Int)}, qs ≠ [] → ∃ q ∈ qs, ∀ p ∈ qs, q.2 ≤ p.2
  | [], h => (h rfl).elim
  | [x], _ => ⟨x, by simp, fun p hp => by simp at hp; subst hp; omega⟩
  | x :: y :: r, _ => by
    obtain ⟨q, hq, h⟩ := least_end (qs := y :: r) (by simp)
    by_cases c : x.2 ≤ q.2
    · exact ⟨x, by simp, fun p hp => by
        rcases List.mem_cons.mp hp with rfl | hp
        · omega
        · have := h p hp; omega⟩
    · exact ⟨q, List.mem_cons_of_mem _ hq, fun p hp => by
        rcases List.mem_cons.mp hp with rfl | hp
        · omega
        · exact h p hp⟩
theorem most_begin : ∀ {qs : List (Int × Int)}, qs ≠ [] → ∃ q ∈ qs, ∀ p ∈ qs, p.1 ≤ q.1
  | [], h => (h rfl).elim
  | [x], _ => ⟨x, by simp, fun p hp => by simp at hp; subst hp; omega⟩
  | x :: y :: r, _ => by
    obtain ⟨q, hq, h⟩ := most_begin (qs := y :: r) (by simp)
    by_cases c : q.1 ≤ x.1
    · exact ⟨x, by simp, fun p hp => by
        rcases List.mem_cons.mp hp with rfl | hp
        · omega
        · have := h p hp; omega⟩
    · exact ⟨q, List.mem_cons_of_mem _ hq, fun p hp => by
        rcases List.mem_cons.mp hp with rfl | hp
        · omega
        · exact h p hp⟩
theorem over_begin {ps : List (Int × Int)} (z : Int) : over ps z = 0 ∨ ∃ q ∈ ps, over ps z ≤ over ps q.1 := by
  by_cases h : ps.filter (fun p => decide (p.1 ≤ z) && decide (z ≤ p.2)) = []
  · left; unfold over; rw [h]; rfl
  · right
    obtain ⟨q, hq, h2⟩ := most_begin h
    have hq2 := List.mem_filter.mp hq
    refine ⟨q, hq2.1, over_mono fun p hp hc => ?_⟩
    have := h2 p (List.mem_filter.mpr ⟨hp, by simp [hc]⟩)
    have hz := hq2.2
    simp at hz
    omega
theorem over_end {ps : List (Int × Int)} (z : Int) : over ps z = 0 ∨ ∃ q ∈ ps, over ps z ≤ over ps q.2 := by
  by_cases h : ps.filter (fun p => decide (p.1 ≤ z) && decide (z ≤ p.2)) = []
  · left; unfold over; rw [h]; rfl
  · right
    obtain ⟨q, hq, h2⟩ := least_end h
    have hq2 := List.mem_filter.mp hq
    refine ⟨q, hq2.1, over_mono fun p hp hc => ?_⟩
    have := h2 p (List.mem_filter.mpr ⟨hp, by simp [hc]⟩)
    have hz := hq2.2
    simp at hz
    omega
theorem maxL_eq {l m : List Int} (h0 : l ≠ []) (h1 : m ≠ []) (h2 : ∀ x ∈ l, ∃ y ∈ m, x ≤ y) (h3 : ∀ x ∈ m, ∃ y ∈ l, x ≤ y) : maxL l = maxL m := by
  obtain ⟨y, hy, h4⟩ := h2 _ (maxL_mem h0)
  obtain ⟨z, hz, h5⟩ := h3 _ (maxL_mem h1)
  have := maxL_le hy
  have := maxL_le hz
  omega
theorem load_ends (ps : List (Int × Int)) : maxL (0 :: ps.map fun p => (over ps p.2 : Int)) = load ps := by
  refine maxL_eq (by simp) (by simp) (fun x hx => ?_) (fun x hx => ?_)
  · rcases List.mem_cons.mp hx with rfl | hx
    · exact ⟨0, by simp, by omega⟩
    · obtain ⟨p, hp, rfl⟩ := List.mem_map.mp hx
      rcases over_begin (ps := ps) p.2 with h | ⟨q, hq, h⟩
      · exact ⟨0, by simp, by omega⟩
      · exact ⟨over ps q.1, List.mem_cons_of_mem _ (List.mem_map.mpr ⟨q, hq, rfl⟩), by omega⟩
  · rcases List.mem_cons.mp hx with rfl | hx
    · exact ⟨0, by simp, by omega⟩
    · obtain ⟨p, hp, rfl⟩ := List.mem_map.mp hx
      rcases over_end (ps := ps) p.1 with h | ⟨q, hq, h⟩
      · exact ⟨0, by simp, by omega⟩
      · exact ⟨over ps q.2, List.mem_cons_of_mem _ (List.mem_map.mpr ⟨q, hq, rfl⟩), by omega⟩
theorem load_cons (ps : List (Int × Int)) (h : ps ≠ []) : maxL (ps.map fun p => (over ps p.1 : Int)) = load ps := by
  refine maxL_eq (by simpa using h) (by simp) (fun x hx => ⟨x, List.mem_cons_of_mem _ hx, by omega⟩) (fun x hx => ?_)
  rcases List.mem_cons.mp hx with rfl | hx
  · obtain ⟨p, hp⟩ := List.exists_mem_of_ne_nil _ h
    exact ⟨over ps p.1, List.mem_map.mpr ⟨p, hp, rfl⟩, by omega⟩
  · exact ⟨x, hx, by omega⟩
theorem inD_int {z : Int} : inD (.int z) (-1000000000) 1000000000 = (decide (-1000000000 ≤ z) && decide (z ≤ 1000000000)) := rfl
def RowOk (ps : List (Int × Int)) : Prop := ps.length ≤ 20 ∧ ∀ p ∈ ps, -1000000000 ≤ p.1 ∧ p.1 ≤ p.2 ∧ p.2 ≤ 1000000000
theorem isStr_st {a b : Int} (h1 : -1000000000 ≤ a) (h2 : a ≤ b) (h3 : b ≤ 1000000000) : isStr (st a b) = true := by
  simp [isStr, st, inD]
  omega
theorem RowOk.plain {ps : List (Int × Int)} (h : RowOk ps) : plain3 (.lst (row ps)) := by
  refine ⟨fun x hx => ?_, by simp [row]; have := h.1; omega⟩
  obtain ⟨p, hp, rfl⟩ := List.mem_map.mp hx
  exact plain2_st _ _
theorem RowOk.good {ps : List (Int × Int)} (h : RowOk ps) : isRowD (.lst (row ps)) = true := by
  simp only [isRowD, List.all_eq_true]
  intro x hx
  obtain ⟨p, hp, rfl⟩ := List.mem_map.mp hx
  obtain ⟨h1, h2, h3⟩ := h.2 p hp
  exact isStr_st h1 h2 h3
theorem sum_over (ps : List (Int × Int)) (z : Int) : (ps.map fun p => if p.1 ≤ z ∧ z ≤ p.2 then (1 : Int) else 0).sum = over ps z := by
  induction ps with
  | nil => rfl
  | cons p ps ih =>
    simp only [List.map_cons, List.sum_cons, ih]
    unfold over
    by_cases h : p.1 ≤ z ∧ z ≤ p.2
    · have h2 : (decide (p.1 ≤ z) && decide (z ≤ p.2)) = true := by simpa using h
      simp only [if_pos h, List.filter_cons, h2, if_true, List.length_cons]; omega
    · have h2 : ¬ (decide (p.1 ≤ z) && decide (z ≤ p.2)) = true := by simpa using h
      rw [if_neg h, List.filter_cons, if_neg h2]; omega
theorem f_law_over_eq (ps : List (Int × Int)) (z : Int) (hl : ps.length ≤ 100) : f__law_over [.val (.lst (row ps)), .val (.int z)] = .ok (.val (.int (over ps z))) [.val (.lst (row ps)), .val (.int z)] := by
  have hz := hundred
  have e : ∀ {env : DEnv}, env[2]? = some .un → env[1]? = some (.own (.val (.int z))) → compL (.nm 2) [2] tTrue (dB hInt (dCons (dChain hLe hLe (op2 hIx (dVar 2) (dC (.int 0))) (dVar 1) (op2 hIx (dVar 2) (dC (.int 1)))) dNil)) (row ps) [] env = .ok ([] ++ ps.map fun p => .int (if p.1 ≤ z ∧ z ≤ p.2 then 1 else 0)) env := fun {env} he h1 => by
    refine compL_mapx (fun p : Int × Int => st p.1 p.2) (fun p => .int (if p.1 ≤ z ∧ z ≤ p.2 then 1 else 0)) he (fun p hp => ⟨.val (.int (if p.1 ≤ z ∧ z ≤ p.2 then 1 else 0)), ?_, rfl⟩) (by simp; omega)
    have hn : 2 < env.length := (List.getElem?_eq_some_iff.mp he).1
    by_cases c : p.1 ≤ z <;> simp [hn, h1, st, c]
  have e2 : hSum [.lst (ps.map fun p => .int (if p.1 ≤ z ∧ z ≤ p.2 then 1 else 0))] = some (.val (.int (over ps z))) := by
    have := ev_sum (ns := ps.map fun p => if p.1 ≤ z ∧ z ≤ p.2 then (1 : Int) else 0)
    rw [sum_over] at this
    simpa [List.map_map, Function.comp_def] using this
  simp only [List.nil_append] at e
  simp [f__law_over, b__law_over, e, e2]
theorem f_law_load_eq (ps : List (Int × Int)) (hl : ps.length ≤ 90) : f__law_load [.val (.lst (row ps))] = .ok (.val (.int (load ps))) [.val (.lst (row ps))] := by
  have hz := hundred
  have e : ∀ {env : DEnv}, env[1]? = some .un → env[0]? = some (.own (.val (.lst (row ps)))) → compL (.nm 1) [1] tTrue (dCall f__law_over [.v, .v] (dCons (dVar 0) (dCons (op2 hIx (dVar 1) (dC (.int 1))) dNil))) (row ps) [] env = .ok ([] ++ ps.map fun p => .int (over ps p.2)) env := fun {env} he h1 => by
    refine compL_mapx (fun p : Int × Int => st p.1 p.2) (fun p => .int (over ps p.2)) he (fun p hp => ⟨.val (.int (over ps p.2)), ?_, rfl⟩) (by simp; omega)
    have hn : 1 < env.length := (List.getElem?_eq_some_iff.mp he).1
    have e := f_law_over_eq ps p.2 (by omega)
    simp [hn, h1, st, e]
  have e2 : overInts gMax [.lst (.int 0 :: ps.map fun p => .int (over ps p.2))] = some (.val (.int (load ps))) := by
    have h4 : D.ints (.int 0 :: ps.map fun q => .int (over ps q.2)) = some (0 :: ps.map fun q => (over ps q.2 : Int)) := by
      have := D.ints_map (0 :: ps.map fun q => (over ps q.2 : Int))
      simpa [List.map_map, Function.comp_def] using this
    simp only [overInts, h4, gMax, List.length_cons, load_ends]
    simp
  have z1 : 1 ≤ sizeLine := by omega
  have z2 : 1 + ps.length ≤ sizeLine := by omega
  simp [f__law_load, b__law_load, e, e2, z1, z2]
theorem getD_of {l : List Int} {i : Nat} {d : Int} (h : i < l.length) : l.getD i d = l[i] := by
  rw [List.getD_eq_getElem?_getD, List.getElem?_eq_getElem h]; rfl
theorem keysV_map {α : Type} {fb : M R} {i : Nat} {e : DEnv} (h : α → D) (g : α → Int) : ∀ {xs : List α}, (∀ x ∈ xs, keyV fb i e (h x) = some (g x)) → keysV fb i e (xs.map h) = some (xs.map g)
  | [], _ => rfl
  | x :: xs, hx => by
    simp only [List.map_cons, keysV, hx x List.mem_cons_self, keysV_map h g (xs := xs) fun y hy => hx y (List.mem_cons_of_mem _ hy)]
theorem betterI_t (a b : Int) : betterI true a b = true ↔ b < a := by simp [betterI]
theorem argBest_best (f : Nat → Int) : ∀ (n j : Nat), j ≤ n → f j ≤ f (argBest (fun i j => betterI true (f i) (f j)) n)
  | 0, j, h => by
    have : j = 0 := by omega
    subst this
    simp [argBest]
  | n + 1, j, h => by
    simp only [argBest]
    by_cases c : betterI true (f (n + 1)) (f (argBest (fun i j => betterI true (f i) (f j)) n)) = true
    · rw [if_pos c]
      rw [betterI_t] at c
      by_cases hj : j = n + 1
      · subst hj; omega
      · have := argBest_best f n j (by omega); omega
    · rw [if_neg c]
      rw [betterI_t] at c
      by_cases hj : j = n + 1
      · subst hj; omega
      · exact argBest_best f n j (by omega)
theorem bestIx_lt {ks : List Int} (h : ks ≠ []) : bestIx true ks < ks.length := by
  have := argBest_le (fun i j => betterI true (ks.getD i 0) (ks.getD j 0)) (ks.length - 1)
  have h2 := List.length_pos_iff.mpr h
  unfold bestIx
  omega
theorem bestIx_max {ks : List Int} (h : ks ≠ []) : ks.getD (bestIx true ks) 0 = maxL ks := by
  have h1 := bestIx_lt h
  have h2 : ks.getD (bestIx true ks) 0 ∈ ks := by
    rw [getD_of h1]
    exact List.getElem_mem _
  have h3 := maxL_le h2
  obtain ⟨j, hj, e⟩ := List.getElem_of_mem (maxL_mem h)
  have h4 := argBest_best (fun i => ks.getD i 0) (ks.length - 1) j (by omega)
  have h5 : ks.getD j 0 = maxL ks := by rw [getD_of hj]; exact e
  simp only [h5] at h4
  change maxL ks ≤ ks.getD (bestIx true ks) 0 at h4
  omega
theorem heq_ints_nil' (ps : List (Int × Int)) (n : Bool) : hEq n (.lst (ps.map fun p => .int p.1)) (.lst []) = some (.val (.bl (if n then !decide (ps = []) else decide (ps = [])))) := by
  have := ev_ints_nil (ns := ps.map fun p => p.1) (n := n)
  simpa [List.map_map, Function.comp_def] using this
theorem compL_gen {α : Type} {tg : Tgt} {vs : List Nat} {test : M Bool} {elt : M R} {env : DEnv} (h g : α → D) (t : α → Bool) (E : α → DEnv) (hu : ∀ x, unE (E x) vs = env) : ∀ {xs : List α} {acc : List D},
    (∀ x ∈ xs, asg tg (h x) env = some (E x) ∧ test (E x) = .ok (t x) (E x) ∧ (t x = true → ∃ r, elt (E x) = .ok r (E x) ∧ frzR r = some (g x))) → acc.length + xs.length ≤ sizeLine →
    compL tg vs test elt (xs.map h) acc env = .ok (acc ++ (xs.filter t).map g) env
  | [], acc, _, _ => by simp [compL]
  | d :: ds, acc, he, hz => by
    obtain ⟨h1, h2, h3⟩ := he d List.mem_cons_self
    simp only [List.length_cons] at hz
    have nx : ∀ {acc : List D}, acc.length + ds.length ≤ sizeLine → _ := fun {acc} hz => compL_gen h g t E hu (xs := ds) (acc := acc) (fun x hx => he x (List.mem_cons_of_mem _ hx)) hz
    simp only [List.map_cons, compL, h1, h2, noX, Res.bind]
    cases ht : t d with
    | false =>
      simp only [Bool.false_eq_true, if_false, hu]
      rw [nx (by omega)]
      simp [ht]
    | true =>
      obtain ⟨r, h4, h5⟩ := h3 ht
      simp only [if_true, h4, h5]
      rw [if_pos (by omega)]
      simp only [hu]
      rw [nx (by simp; omega)]
      simp [ht]
def atP (ps : List (Int × Int)) (k : Nat) : Int × Int := ps.getD k (0, 0)
def touches (ps : List (Int × Int)) (k j : Nat) : Bool := !decide (j = k) && (decide ((atP ps j).1 ≤ (atP ps k).2) && decide ((atP ps k).1 ≤ (atP ps j).2))
def tlist (ps : List (Int × Int)) (k : Nat) : List D := ((List.range ps.length).filter (touches ps k)).map fun j => .int (j : Nat)
theorem enum_row (ps : List (Int × Int)) : (row ps).mapIdx (fun i d => D.tup [.int (i : Nat), d]) = (List.range ps.length).map fun i => .tup [.int (i : Nat), st (atP ps i).1 (atP ps i).2] := by
  apply List.ext_getElem
  · simp [row]
  · intro i h1 h2
    simp only [row, List.length_mapIdx, List.length_map] at h1
    simp [row, h1, atP, List.getD_eq_getElem?_getD]
theorem at_row {ps : List (Int × Int)} {k : Nat} (h : k < ps.length) : atI (row ps) (k : Int) = some (st (atP ps k).1 (atP ps k).2) := by
  unfold atI ixN
  have h2 : (0 : Int) ≤ k := by omega
  have h3 : (k : Int) < (row ps).length := by simp [row]; omega
  rw [if_pos h2, if_pos h3]
  simp [row, h, atP, List.getD_eq_getElem?_getD]
theorem lg {z : Int} (h1 : 0 < z) (h2 : z ≤ 100) : z.natAbs.log2 < 9000 := by
  have : z.natAbs < 2 ^ 9000 := Nat.lt_of_le_of_lt (show z.natAbs ≤ 100 by omega) (by decide +kernel)
  exact (Nat.log2_lt (by omega)).mpr this
theorem stretch_ok2 {b wd : Int} {o : O} (h : PenOk b o) (hb : b < 2 ^ 60) (hw : 0 < wd) (hw2 : wd ≤ 30) : ∃ o2 x y, f__law_stretch [o, .val (.int wd)] = .ok (.val (st x y)) [o2, .val (.int wd)] ∧ PenOk (b + 2) o2 ∧ x ≤ y ∧ -10 ≤ x ∧ y ≤ 50 := by
  obtain ⟨l, rfl⟩ := h.lst
  obtain ⟨o2, k, e1, p1, k1, k2⟩ := draw_ok h (by omega) hw (lg hw (by omega))
  obtain ⟨l2, rfl⟩ := p1.lst
  obtain ⟨o3, k', e2, p2, k3, k4⟩ := draw_ok p1 (by omega) (show 0 < 1 + wd / 2 by omega) (lg (by omega) (by omega))
  obtain ⟨l3, rfl⟩ := p2.lst
  have d3 : cDiv wd 3 = true := by unfold cDiv; decide
  have d2 : cDiv wd 2 = true := by unfold cDiv; decide
  have z2 : 2 ≤ sizeLine := by decide +kernel
  refine ⟨_, k - wd / 3, k - wd / 3 + k', ?_, p2.up (by omega), by omega, by omega, by omega⟩
  simp [f__law_stretch, b__law_stretch, e1, e2, d2, d3, z2, st]
theorem row_app (ps : List (Int × Int)) (a b : Int) : row ps ++ [st a b] = row (ps ++ [(a, b)]) := by simp [row]
def NP (s : Slot) : Prop := free [s] 0 = true
theorem NP.un : NP .un := rfl
theorem NP.val {d : D} : NP (.own (.val d)) := rfl
theorem pys_row : ∀ (ps : List (Int × Int)), D.pys (row ps) = some (ps.map fun p => .tuple [.int p.1, .int p.2])
  | [] => rfl
  | p :: ps => by
    have := pys_row ps
    simp only [row] at this
    have e : (st p.1 p.2).py = some (.tuple [.int p.1, .int p.2]) := rfl
    simp only [row, List.map_cons, D.pys, e, this]
theorem lay_row : ∀ (ps : List (Int × Int)), PyData.canLayAll0 (ps.map fun p => .tuple [.int p.1, .int p.2]) = true
  | [] => rfl
  | p :: ps => by simp [PyData.canLayAll0, PyData.canLay0, lay_row ps]
theorem dep_row : ∀ (ps : List (Int × Int)), PyData.depthAll (ps.map fun p => .tuple [.int p.1, .int p.2]) ≤ 1
  | [] => by simp [PyData.depthAll]
  | p :: ps => by
    have := dep_row ps
    simp [PyData.depthAll, PyData.depth, this]
theorem shp_row (ps : List (Int × Int)) : SeqAt.shaped (.list (ps.map fun p => .tuple [.int p.1, .int p.2])) = true := by
  have := dep_row ps
  simp [SeqAt.shaped, PyData.canLay0, lay_row, PyData.depth]
  omega
theorem heq_row (ps : List (Int × Int)) (n : Bool) : hEq n (.lst (row ps)) (.lst []) = some (.val (.bl (if n then !decide (ps = []) else decide (ps = [])))) := by
  rw [heq_nil (pys_row ps) (shp_row ps)]
  simp [row]
theorem srtbl_row (ps : List (Int × Int)) : Srtbl (ps.map fun p => .tuple [.int p.1, .int p.2]) := by
  refine ⟨?_, .inl ?_, lay_row ps, ?_⟩
  · intro d hd e he
    obtain ⟨p, _, rfl⟩ := List.mem_map.mp hd
    obtain ⟨q, _, rfl⟩ := List.mem_map.mp he
    rfl
  · intro d hd
    obtain ⟨p, _, rfl⟩ := List.mem_map.mp hd
    exact ⟨_, _, rfl⟩
  · intro d hd
    obtain ⟨p, _, rfl⟩ := List.mem_map.mp hd
    simp [PyData.depth, PyData.depthAll]
theorem srt_row {ps : List (Int × Int)} (h : RowOk ps) : ∃ qs, RowOk qs ∧ hSorted [.lst (row ps)] = some (.own (.lst (row qs))) := by
  have hz := hundred
  have hl : (row ps).length ≤ sizeLine := by simp [row]; have := h.1; omega
  have e : hSorted [.lst (row ps)] = some (.own (.lst (srtD (row ps)))) := by
    simp only [hSorted, pys_row]
    rw [if_pos ⟨srtbl_row ps, hl⟩]
  have pm : (srtD (row ps)).Perm (row ps) := List.mergeSort_perm _ _
  let un : D → Int × Int := fun d => match d with
    | .tup [.int a, .int b] => (a, b)
    | _ => (0, 0)
  have hu : (row ps).map un = ps := by
    simp only [row, List.map_map]
    rw [List.map_congr_left (g := id), List.map_id]
    intro p hp
    rfl
  have hr : row ((srtD (row ps)).map un) = srtD (row ps) := by
    simp only [row, List.map_map]
    rw [List.map_congr_left (g := id), List.map_id]
    intro d hd
    have := pm.mem_iff.mp hd
    obtain ⟨p, _, rfl⟩ := List.mem_map.mp this
    rfl
  have pm2 : ((srtD (row ps)).map un).Perm ps := by
    have := pm.map un
    rwa [hu] at this
  refine ⟨_, ⟨?_, ?_⟩, e.trans (by rw [hr])⟩
  · rw [pm2.length_eq]; exact h.1
  · intro p hp
    exact h.2 p (pm2.mem_iff.mp hp)
theorem np0 {s : Slot} {env : DEnv} (h : NP s) : free (s :: env) 0 = true := by simpa only [NP, ev_fr0] using h
theorem fr_own {o : O} {env : DEnv} : free (.own o :: env) 0 = true := rfl
def Near (p : Int × Int) : Prop := -1000000000 ≤ p.1 ∧ p.1 ≤ p.2 ∧ p.2 ≤ 1000000000
def RowP (b r : Int) (i : Nat) (env : DEnv) : Prop := ∃ l ps s4 s5, env = [.pin (.lst l), .own (.val (.int 12)), .own (.val (.int r)), .own (.lst (row ps)), s4, s5] ∧ NP s4 ∧ NP s5 ∧ PenOk (b + 2 + 4 * i) (.lst l) ∧ ps.length = i ∧ ∀ p ∈ ps, Near p
theorem row_ok {b : Int} {o : O} (h : PenOk b o) (hb : b < 2 ^ 50) : ∃ o2 ps, f__law_row [o, .val (.int 12)] = .ok (.lst (row ps)) [o2, .val (.int 12)] ∧ PenOk (b + 60) o2 ∧ RowOk ps := by
  have hz := hundred
  obtain ⟨l, rfl⟩ := h.lst
  obtain ⟨o1, r, e1, p1, r1, r2⟩ := draw_ok h (by omega) (show (0 : Int) < 6 by omega) (lg (by omega) (by omega))
  obtain ⟨l1, rfl⟩ := p1.lst
  obtain ⟨o2, n, e2, p2, n1, n2⟩ := draw_ok p1 (by omega) (show (0 : Int) < 13 by omega) (lg (by omega) (by omega))
  obtain ⟨l2, rfl⟩ := p2.lst
  have key : SatF (f__law_row [.lst l, .val (.int 12)]) (fun q os => ∃ o2 ps, q = .lst (row ps) ∧ os = [o2, .val (.int 12)] ∧ PenOk (b + 60) o2 ∧ RowOk ps) := by
    refine satF_fn ?_
    have g1 : -4611686018427387904 ≤ n := by omega
    have g2 : n < 4611686018427387904 := by omega
    simp [b__law_row, e1, e2, g1, g2, sat_bind]
    refine forL_sat (RowP b r) ⟨l2, [], .un, .un, rfl, NP.un, NP.un, p2.up (by omega), rfl, fun _ h => nomatch h⟩ ?_ ?_
    · intro i d env hd hp
      obtain ⟨l3, ps, s4, s5, rfl, q4, q5, p3, hl, hps⟩ := hp
      have hi : i < n.toNat := by
        have := (List.getElem?_eq_some_iff.mp hd).1
        simpa using this
      have f4 : ∀ env, free (s4 :: env) 0 = true := fun env => np0 q4
      have f5 : ∀ env, free (s5 :: env) 0 = true := fun env => np0 q5
      obtain ⟨o4, k, e4, p4, k1, k2⟩ := draw_ok p3 (by omega) (show (0 : Int) < 3 by omega) (lg (by omega) (by omega))
      obtain ⟨l4, rfl⟩ := p4.lst
      obtain ⟨wd, hw, w1, w2⟩ : ∃ wd : Int, atI [D.int 6, .int 12, .int 30] k = some (.int wd) ∧ 0 < wd ∧ wd ≤ 30 := by
        have : k = 0 ∨ k = 1 ∨ k = 2 := by omega
        rcases this with rfl | rfl | rfl
        · exact ⟨6, by simp, by omega, by omega⟩
        · exact ⟨12, by simp, by omega, by omega⟩
        · exact ⟨30, by simp, by omega, by omega⟩
      obtain ⟨o5, x, y, e5, p5, x1, x2, x3⟩ := stretch_ok2 p4 (by omega) w1 w2
      obtain ⟨l5, rfl⟩ := p5.lst
      have z2 : 2 ≤ sizeLine := by omega
      have z3 : 3 ≤ sizeLine := by omega
      have zl : (row ps).length < sizeLine := by simp [row]; omega
      have p7 : cPow 10 7 = true := by decide
      have m7 : ∀ z : Int, cMul z 10000000 = true := fun z => cMul_r (by decide) (by decide)
      have fin : ∀ (l6 : List D) (a c : Int), PenOk (b + 2 + 4 * (i + 1)) (.lst l6) → Near (a, c) → RowP b r (i + 1) [.pin (.lst l6), .own (.val (.int 12)), .own (.val (.int r)), .own (.lst (row ps ++ [st a c])), .own (.val d), .own (.val (st a c))] := fun l6 a c hp hn => by
        refine ⟨l6, ps ++ [(a, c)], _, _, by rw [row_app], NP.val, NP.val, hp.up (by omega), by simp [hl], fun p hp => ?_⟩
        rcases List.mem_append.mp hp with hp | hp
        · exact hps p hp
        · simp at hp
          subst hp
          exact hn
      refine ⟨[.pin (.lst l3), .own (.val (.int 12)), .own (.val (.int r)), .own (.lst (row ps)), .own (.val d), s5], by simp [-ev_fr0, f4], ?_⟩
      by_cases c1 : r = 1
      · subst c1
        have := fin l5 (x * 10000000) (y * 10000000) (p5.up (by omega)) ⟨by simp only; omega, by simp only; omega, by simp only; omega⟩
        simp only [st] at this e5
        simp [sat_bind, e4, hw, e5, z2, z3, zl, p7, m7, f5, fr_own, -ev_fr0, st]
        exact this
      by_cases c2 : r = 2
      · subst c2
        have := fin l5 x (x + 2) (p5.up (by omega)) ⟨by simp only; omega, by simp only; omega, by simp only; omega⟩
        simp only [st] at this e5
        simp [sat_bind, e4, hw, e5, z2, z3, zl, p7, m7, f5, fr_own, -ev_fr0, st]
        exact this
      by_cases c3 : r = 3
      · subst c3
        by_cases c0 : ps = []
        · have := fin l5 x y (p5.up (by omega)) ⟨by simp only; omega, by simp only; omega, by simp only; omega⟩
          have e0 := heq_row ps true
          simp only [st] at this e5
          simp [sat_bind, e4, hw, e5, z2, z3, zl, p7, m7, f5, fr_own, -ev_fr0, st, e0, c0]
          simp only [c0] at this
          exact this
        · have hpos := List.length_pos_iff.mpr c0
          have rl : (row ps).length = ps.length := by simp [row]
          obtain ⟨o6, j, e6, p6, j1, j2⟩ := draw_ok p5 (by omega) (show (0 : Int) < ((row ps).length : Int) by omega) (lg (by omega) (by omega))
          obtain ⟨l6, rfl⟩ := p6.lst
          obtain ⟨jn, rfl⟩ := Int.eq_ofNat_of_zero_le j1
          have hj : jn < ps.length := by omega
          have ha := at_row hj
          have hn : Near (atP ps jn) := hps _ (by
            simp only [atP, List.getD_eq_getElem?_getD, List.getElem?_eq_getElem hj]
            exact List.getElem_mem hj)
          have := fin l6 (atP ps jn).1 (atP ps jn).2 (p6.up (by omega)) hn
          have e0 := heq_row ps true
          simp only [st] at this e5 ha
          simp [sat_bind, e4, hw, e5, z2, z3, zl, p7, m7, f5, fr_own, -ev_fr0, st, e0, c0, e6, ha]
          exact this
      · have := fin l5 x y (p5.up (by omega)) ⟨by simp only; omega, by simp only; omega, by simp only; omega⟩
        simp only [st] at this e5
        simp [sat_bind, e4, hw, e5, z2, z3, zl, p7, m7, f5, fr_own, -ev_fr0, st, c1, c2, c3]
        exact this
    · intro env hp
      obtain ⟨l3, ps, s4, s5, rfl, q4, q5, p3, hl, hps⟩ := hp
      simp at hl
      have ok : RowOk ps := ⟨by omega, hps⟩
      by_cases c : r = 4
      · obtain ⟨qs, hq, e3⟩ := srt_row ok
        simp [c, e3]
        exact ⟨.lst l3, qs, rfl, rfl, p3.up (by simp only [List.length_map, List.length_range]; omega), hq⟩
      · simp [c]
        exact ⟨.lst l3, ps, rfl, rfl, p3.up (by simp only [List.length_map, List.length_range]; omega), ok⟩
  cases hf : f__law_row [.lst l, .val (.int 12)] with
  | bad => rw [hf] at key; exact key.elim
  | exc c os => rw [hf] at key; exact key.elim
  | ok q os =>
    rw [hf] at key
    obtain ⟨o2, ps, rfl, rfl, h1, h2⟩ := key
    exact ⟨o2, ps, rfl, h1, h2⟩
theorem sz {k : Nat} (h : k ≤ 100) : k ≤ sizeLine := Nat.le_trans h hundred
def odds : List D := [.non, .tup [], .tup [.int 1], .tup [.int 2, .int 1], .lst [.int 1, .int 2], .tup [.int 1, .int 2, .int 3], .tup [.bl true, .int 1], .tup [.int 0, .bl false], .tup [.str "1", .int 2], .dct [] [], .int 0, .str "1..2"] ++ [.tup [.int 1000000000, .int 1000000001], .tup [.int (-1000000001), .int 0], .tup [.non, .int 1], .tup [.tup [.int 1, .int 2]], .tup [.lst [], .int 1], .tup [.dct [] [], .int 1]]
def bents (a b : Int) : List D := ((odds ++ [.tup [.int b, .int a], .tup [.int a, .int b, .int 0], .lst [.int a, .int b], .tup [st a b], .tup [.int a], .tup [.int a, .non]]) ++ [st (-1000000000) 1000000000, st 1000000000 1000000000, st (-1000000000) (-1000000000), st (-1000000001) 1000000000, st 1000000001 1000000001]) ++ [st a a, .tup [.int a, .bl true]]
def ThingOk (d : D) : Prop := plain2 d = true ∧ plain3 d ∧ Disp 500 4 d
theorem cut_mem {xs : List D} {lo hi : Option Int} {d : D} (h : d ∈ cut' xs lo hi) : d ∈ xs := List.mem_of_mem_drop (List.mem_of_mem_take h)
theorem cut_len {xs : List D} {lo hi : Option Int} : (cut' xs lo hi).length ≤ xs.length := by
  simp only [cut', List.length_take, List.length_drop]; omega
theorem some_lst {ds : List D} (h : ∀ d ∈ ds, ThingOk d) (hl : ds.length ≤ 41) : Disp 30000 8 (.lst ds) ∧ plain3 (.lst ds) :=
  ⟨(disp_lst (disps_all fun d hd => (h d hd).2.2)).up (by have := Nat.mul_le_mul_right 501 hl; omega) (by omega), fun x hx => (h x hx).1, by omega⟩
theorem NP.lst {l : List D} : NP (.own (.lst l)) := rfl
theorem atP_mem {ps : List (Int × Int)} {j : Nat} (h : j < ps.length) : atP ps j ∈ ps := by
  simp only [atP, List.getD_eq_getElem?_getD, List.getElem?_eq_getElem h]
  exact List.getElem_mem h
theorem rng_gen {env : DEnv} {f : M R} {n : Int} (e : f env = .ok (.val (.int n)) env) (g1 : -4611686018427387904 ≤ n) (g2 : n < 4611686018427387904) : dRng1 f env = .ok ((List.range n.toNat).map fun i => .int (i : Nat)) env := by
  simp [e, g1, g2]
theorem for2 {tg : Tgt} {B : M DL.Flow} {x y : D} {E0 F0 E1 F1 E2 : DEnv} (h1 : asg tg x E0 = some F0) (h2 : B F0 = .ok .nx E1) (h3 : asg tg y E1 = some F1) (h4 : B F1 = .ok .nx E2) : forL tg B [x, y] E0 = .ok .nx E2 := by
  simp only [forL, h1, h2, h3, h4, Res.bind]
theorem for_cons {tg : Tgt} {B : M DL.Flow} {x : D} {xs : List D} {E0 F0 E1 E2 : DEnv} (h1 : asg tg x E0 = some F0) (h2 : B F0 = .ok .nx E1) (h3 : forL tg B xs E1 = .ok .nx E2) : forL tg B (x :: xs) E0 = .ok .nx E2 := by
  simp only [forL, h1, h2, Res.bind, h3]
theorem rng2 {env : DEnv} : dRng1 (dC (.int 2)) env = .ok [.int 0, .int 1] env := by
  simp [List.range_succ]
theorem rng5 {env : DEnv} : dRng1 (dC (.int 5)) env = .ok [.int 0, .int 1, .int 2, .int 3, .int 4] env := by
  simp [List.range_succ]
theorem bools_ok (b : Bool) : ∃ p, hRepr [.lst [.bl true, .bl false, .bl b, .bl true]] = some (.val (.str (PyData.shown p))) ∧ leafOk p = true :=
  repr_ok (disp_lst (n := 4) (disps_cons (w := 50) disp_bl (disps_cons (w := 50) disp_bl (disps_cons (w := 50) disp_bl (disps_cons (w := 50) disp_bl (disps_nil (w := 0))))))) (by omega) (by omega) rfl
theorem over_le (ps : List (Int × Int)) (z : Int) : over ps z ≤ ps.length := by
  simp only [over]; exact List.length_filter_le _ _
theorem load_le (ps : List (Int × Int)) : 0 ≤ load ps ∧ load ps ≤ ps.length := by
  rw [← load_ends ps]
  refine ⟨maxL_le (by simp), ?_⟩
  have := maxL_mem (l := 0 :: ps.map fun p => (over ps p.2 : Int)) (by simp)
  rcases List.mem_cons.mp this with h | h
  · rw [h]; omega
  · obtain ⟨p, _, h⟩ := List.mem_map.mp h
    rw [← h]
    have := over_le ps p.2
    omega
theorem ints_ok {a b c : Int} (h1 : a.natAbs < 10 ^ 12) (h2 : b.natAbs < 10 ^ 12) (h3 : c.natAbs < 10 ^ 12) : ∃ p, hRepr [.lst [.int a, .int b, .int c]] = some (.val (.str (PyData.shown p))) ∧ leafOk p = true :=
  repr_ok (disp_lst (n := 4) (disps_cons (w := 50) (disp_int h1) (disps_cons (w := 50) (disp_int h2) (disps_cons (w := 50) (disp_int h3) (disps_nil (w := 0)))))) (by omega) (by omega) rfl
theorem seq_nx {a b : M DL.Flow} {E F : DEnv} {r : Res DL.Flow} (h1 : a E = .ok .nx F) (h2 : b F = r) : sSeq a b E = r := by
  rw [ev_seq, h1, ev_bok]; exact h2
theorem seq_as {a b c : M DL.Flow} {E : DEnv} : sSeq a (sSeq b c) E = sSeq (sSeq a b) c E := by
  simp only [ev_seq]
  cases a E with
  | bad => rfl
  | exc x e => rfl
  | ok fl e => cases fl <;> rfl
theorem seq_nx2 {a b c : M DL.Flow} {E F : DEnv} {r : Res DL.Flow} (h1 : sSeq a b E = .ok .nx F) (h2 : c F = r) : sSeq a (sSeq b c) E = r := by
  rw [seq_as]; exact seq_nx h1 h2
theorem cut_map {l : List Int} {lo hi : Option Int} : ∃ cs : List Int, cut' (l.map D.int) lo hi = cs.map D.int := ⟨_, by unfold cut'; rw [← List.map_drop, ← List.map_take]⟩
theorem f_pen_eq (ns : List Int) : ∃ cs : List Int, f__law_pen [.val (.rol (ns.map D.int))] = .ok (Pen cs 0 0) [.val (.rol (ns.map D.int))] := by
  have y3 : 3 ≤ sizeLine := sz (by omega)
  obtain ⟨cs, hc⟩ := cut_map (l := ns) (lo := none) (hi := some 60)
  refine ⟨cs, ?_⟩
  simp [f__law_pen, b__law_pen, Pen, y3, hc, hList]
end Gk07
end
section
set_option maxRecDepth 100000
set_option maxHeartbeats 1000000
namespace Gk07
open PySem PySem.Spec PyProof.Rows L2 DL
variable [tb : Tb]
theorem sup_len : ∀ (n : Nat) (bs : List Int), (∀ x : Int, 1 ≤ x → x ≤ n → x ∈ bs) → n ≤ bs.length
  | 0, _, _ => Nat.zero_le _
  | n + 1, bs, h => by
    have hm : ((n : Int) + 1) ∈ bs := h _ (by omega) (by omega)
    have ih := sup_len n (bs.erase ((n : Int) + 1)) fun x h1 h2 => (List.mem_erase_of_ne (by omega)).mpr (h x h1 (by omega))
    rw [List.length_erase_of_mem hm] at ih
    have : 0 < bs.length := List.length_pos_of_mem hm
    omega
def tch (p q : Int × Int) : Bool := decide (p.1 ≤ q.2) && decide (q.1 ≤ p.2)
theorem tch_symm (p q : Int × Int) : tch p q = tch q p := by simp [tch, Bool.and_comm]
def lfN (bs : List Int) : Nat → Int → Int
  | 0, c => c
  | n + 1, c => if c ∈ bs then lfN bs n (c + 1) else c
theorem lfN_spec (bs : List Int) : ∀ (n : Nat) (c : Int), (bs.filter fun x => decide (c ≤ x)).length ≤ n → lfN bs n c ∉ bs ∧ c ≤ lfN bs n c ∧ ∀ x, c ≤ x → x < lfN bs n c → x ∈ bs
  | 0, c, h => by
    refine ⟨fun hc => ?_, Int.le_refl _, fun x h1 h2 => ?_⟩
    · have : c ∈ bs.filter fun x => decide (c ≤ x) := List.mem_filter.mpr ⟨hc, by simp⟩
      have := List.length_pos_of_mem this
      omega
    · simp only [lfN] at h2; omega
  | n + 1, c, h => by
    simp only [lfN]
    split
    · rename_i hc
      have hlt : (bs.filter fun x => decide (c + 1 ≤ x)).length < (bs.filter fun x => decide (c ≤ x)).length := by
        have e : (bs.filter fun x => decide (c + 1 ≤ x)) = (bs.filter fun x => decide (c ≤ x)).filter fun x => decide (x ≠ c) := by
          rw [List.filter_filter]
          apply List.filter_congr
          intro x _
          by_cases h1 : c + 1 ≤ x <;> by_cases h2 : c ≤ x <;> by_cases h3 : x = c <;> simp [h1, h2, h3] <;> omega
        rw [e]
        apply List.length_filter_lt_length_iff_exists.mpr
        exact ⟨c, List.mem_filter.mpr ⟨hc, by simp⟩, by simp⟩
      obtain ⟨h1, h2, h3⟩ := lfN_spec bs n (c + 1) (by omega)
      refine ⟨h1, by omega, fun x g1 g2 => ?_⟩
      by_cases e : x = c
      · rw [e]; exact hc
      · exact h3 x (by omega) g2
    · rename_i hc
      exact ⟨hc, Int.le_refl _, fun x h1 h2 => by omega⟩
def lf (bs : List Int) (c : Int) : Int := lfN bs bs.length c
theorem lf_spec (bs : List Int) (c : Int) : lf bs c ∉ bs ∧ c ≤ lf bs c ∧ ∀ x, c ≤ x → x < lf bs c → x ∈ bs := lfN_spec bs _ c (List.length_filter_le _ _)
theorem lf_le (bs : List Int) : lf bs 1 ≤ bs.length + 1 := by
  obtain ⟨_, h2, h3⟩ := lf_spec bs 1
  have := sup_len (lf bs 1 - 1).toNat bs fun x h1 h4 => h3 x h1 (by omega)
  omega
def covB (z : Int) (p : Int × Int) : Bool := decide (p.1 ≤ z) && decide (z ≤ p.2)
theorem mapix {α β : Type} (f : α → β) (t : β → Bool) (l : List α) : ((l.map f).filter t).length = (l.filter fun a => t (f a)).length := by
  rw [List.filter_map, List.length_map]; rfl
theorem map_atP (ps : List (Int × Int)) : (List.range ps.length).map (atP ps) = ps := by
  apply List.ext_getElem?
  intro k
  rw [List.getElem?_map]
  by_cases h : k < ps.length
  · simp [h, atP, List.getD_eq_getElem?_getD]
  · simp [h]
theorem over_ix (ps : List (Int × Int)) (z : Int) : over ps z = ((List.range ps.length).filter fun j => covB z (atP ps j)).length := by
  conv => lhs; rw [← map_atP ps]
  unfold over
  exact mapix (atP ps) (covB z) _
theorem load_at' (ps : List (Int × Int)) : load ps = 0 ∨ ∃ z, (over ps z : Int) = load ps := by
  have := maxL_mem (l := 0 :: ps.map fun p => (over ps p.1 : Int)) (by simp)
  rcases List.mem_cons.mp this with h | h
  · exact .inl h
  · obtain ⟨p, _, e⟩ := List.mem_map.mp h
    exact .inr ⟨p.1, e⟩
theorem over_load (ps : List (Int × Int)) (z : Int) : (over ps z : Int) ≤ load ps := by
  rcases over_begin (ps := ps) z with h | ⟨q, hq, h⟩
  · rw [h]; exact (load_le ps).1
  · have : (over ps q.1 : Int) ≤ load ps := maxL_le (List.mem_cons_of_mem _ (List.mem_map.mpr ⟨q, hq, rfl⟩))
    omega
def isCol (d : D) : Bool := inD d 1 1000000000
def isColsD : D → Bool
  | .lst l => l.all isCol
  | _ => false
def plainL : D → Prop
  | .lst l => (∀ x ∈ l, plainD x = true) ∧ l.length ≤ 100
  | d => plainD d = true
def cl (cs : List Int) : D := .lst (cs.map D.int)
def Cols (cs : List Int) : Prop := ∀ c ∈ cs, 1 ≤ c ∧ c ≤ 1000000000
theorem cl_plain {cs : List Int} (h : cs.length ≤ 100) : plainL (cl cs) := ⟨fun x hx => by obtain ⟨c, _, rfl⟩ := List.mem_map.mp hx; rfl, by simpa using h⟩
theorem cl_cols {cs : List Int} (h : Cols cs) : isColsD (cl cs) = true := by
  simp only [cl, isColsD, List.all_map, List.all_eq_true, Function.comp]
  intro c hc
  have := h c hc
  simp [isCol, inD, this]
theorem forL_any {α : Type} {tg : Tgt} {B : M DL.Flow} (h : α → D) (t : α → Bool) (P : DEnv → Prop) (R : α → R → DEnv → Prop) : ∀ {xs : List α},
    (∀ x ∈ xs, ∀ env, P env → ∃ env1, asg tg (h x) env = some env1 ∧ ((t x = false ∧ ∃ env2, B env1 = .ok .nx env2 ∧ P env2) ∨ (t x = true ∧ ∃ r env2, B env1 = .ok (.ret r) env2 ∧ R x r env2))) →
    ∀ env, P env → ((∀ x ∈ xs, t x = false) ∧ ∃ env2, forL tg B (xs.map h) env = .ok .nx env2 ∧ P env2) ∨ (∃ x ∈ xs, t x = true ∧ ∃ r env2, forL tg B (xs.map h) env = .ok (.ret r) env2 ∧ R x r env2)
  | [], _, env, hp => .inl ⟨fun _ h => (nomatch h), env, rfl, hp⟩
  | x :: xs, st, env, hp => by
    obtain ⟨env1, h1, h2⟩ := st x List.mem_cons_self env hp
    rcases h2 with ⟨h3, env2, h4, h5⟩ | ⟨h3, r, env2, h4, h5⟩
    · rcases forL_any h t P R (fun y hy => st y (List.mem_cons_of_mem _ hy)) env2 h5 with ⟨g1, env3, g2, g3⟩ | ⟨y, hy, g1, r, env3, g2, g3⟩
      · refine .inl ⟨fun y hy => ?_, env3, ?_, g3⟩
        · rcases List.mem_cons.mp hy with rfl | hy
          · exact h3
          · exact g1 y hy
        · simp only [List.map_cons, forL, h1, h4, Res.bind]; exact g2
      · refine .inr ⟨y, List.mem_cons_of_mem _ hy, g1, r, env3, ?_, g3⟩
        simp only [List.map_cons, forL, h1, h4, Res.bind]; exact g2
    · refine .inr ⟨x, List.mem_cons_self, h3, r, env2, ?_, h5⟩
      simp only [List.map_cons, forL, h1, h4, Res.bind]
def cAt (cs : List Int) (k : Nat) : Int := cs.getD k 0
theorem at_cl {cs : List Int} {k : Nat} (h : k < cs.length) : atI (cs.map D.int) (k : Int) = some (.int (cAt cs k)) := by
  have e : atI (cs.map D.int) (k : Int) = (cs.map D.int)[k]? := by
    simp [atI, ixN, h]
  rw [e, List.getElem?_map, List.getElem?_eq_getElem h]
  simp [cAt, List.getD_eq_getElem?_getD, h]
def cls (ps : List (Int × Int)) (cs : List Int) (k j : Nat) : Bool := decide (cAt cs j = cAt cs k) && tch (atP ps j) (atP ps k)
def clsK (ps : List (Int × Int)) (cs : List Int) (k : Nat) : Bool := (List.range k).any (cls ps cs k)
def rightC (ps : List (Int × Int)) (cs : List Int) : Bool := (List.range ps.length).all fun k => !clsK ps cs k
theorem touch_eq {ps : List (Int × Int)} (j k : Nat) : f_is_touching [.val (st (atP ps j).1 (atP ps j).2), .val (st (atP ps k).1 (atP ps k).2)] = .ok (.val (.bl (tch (atP ps j) (atP ps k)))) [.val (st (atP ps j).1 (atP ps j).2), .val (st (atP ps k).1 (atP ps k).2)] := f_is_touching_eq _ _ _ _
theorem cut_row (ps : List (Int × Int)) {k : Nat} (hk : k ≤ ps.length) : cut' (row ps) none (some (k : Int)) = row (ps.take k) := by
  have e1 : HT.sIx (row ps).length 0 none = 0 := rfl
  have e2 : HT.sIx (row ps).length (row ps).length (some (k : Int)) = k := by
    have : (row ps).length = ps.length := by simp [row]
    simp only [HT.sIx]
    rw [if_neg (by omega)]; omega
  unfold cut'
  rw [e1, e2]
  simp [row, List.map_take]
theorem atP_take (ps : List (Int × Int)) {j k : Nat} (h : j < k) : atP (ps.take k) j = atP ps j := by
  simp [atP, List.getD_eq_getElem?_getD, List.getElem?_take, h]
theorem enum_take (ps : List (Int × Int)) {k : Nat} (hk : k ≤ ps.length) : (row (ps.take k)).mapIdx (fun i d => D.tup [.int (i : Nat), d]) = (List.range k).map fun i => .tup [.int (i : Nat), st (atP ps i).1 (atP ps i).2] := by
  rw [enum_row]
  have : (ps.take k).length = k := by simp; omega
  rw [this]
  apply List.map_congr_left
  intro i hi
  rw [atP_take ps (List.mem_range.mp hi)]
def intV : D → Int
  | .int i => i
  | _ => 0
theorem cols_of : ∀ {l : List D}, l.all isCol = true → l = (l.map intV).map D.int ∧ Cols (l.map intV)
  | [], _ => ⟨rfl, fun _ h => (nomatch h)⟩
  | d :: l, h => by
    simp only [List.all_cons, Bool.and_eq_true] at h
    obtain ⟨a, b⟩ := cols_of h.2
    cases d <;> simp [isCol, inD] at h
    rename_i i
    refine ⟨by simp only [List.map_cons, intV]; rw [← a], ?_⟩
    intro c hc
    simp only [List.map_cons, List.mem_cons, intV] at hc
    rcases hc with rfl | hc
    · exact h.1
    · exact b c hc
def isRightD (ps : List (Int × Int)) : D → Bool
  | .lst l => l.all isCol && (decide (l.length = ps.length) && rightC ps (l.map intV))
  | _ => false
theorem right_cl {ps : List (Int × Int)} {cs : List Int} (h : Cols cs) (hl : cs.length = ps.length) : isRightD ps (cl cs) = rightC ps cs := by
  have e := cl_cols h
  have e2 : (cs.map D.int).map intV = cs := by rw [List.map_map]; exact (List.map_congr_left fun _ _ => rfl).trans (List.map_id cs)
  simp only [cl, isColsD] at e
  simp only [isRightD, cl, e, e2, List.length_map, hl, decide_true, Bool.true_and]
theorem isNon_tup {l : List D} : DL.isNon (.tup l) = false := rfl
noncomputable def lrE : M DL.Flow := (sIf (tOr' (tst (dB hIsi (dCons (dVar 2) (dCons (dC (.ty "bool")) dNil)))) (tOr' (tNot' (tst (dB hIsi (dCons (dVar 2) (dCons (dC (.ty "int")) dNil))))) (tNot' (tst (dChain hLe hLe (dC (.int 1)) (dVar 2) (op2 hPow (dC (.int 10)) (dC (.int 9))))))))
  (sRet (dC (.bl false)))
  sNx)
theorem lrE_eq {x : D} (hx : plainD x = true) {a0 a1 a3 a4 : Slot} : lrE [a0, a1, .own (.val x), a3, a4] = if isCol x = true then .ok .nx [a0, a1, .own (.val x), a3, a4] else .ok (.ret (.val (.bl false))) [a0, a1, .own (.val x), a3, a4] := by
  have p9 : cPow 10 9 = true := by decide
  cases x <;> simp [plainD] at hx
  case int i =>
    by_cases h1 : 1 ≤ i
    · by_cases h2 : i ≤ 1000000000
      · simp [lrE, hIsi, isTyD, isCol, inD, h1, h2, p9]
      · simp [lrE, hIsi, isTyD, isCol, inD, h1, h2, p9]
    · simp [lrE, hIsi, isTyD, isCol, inD, h1, p9]
  all_goals simp [lrE, hIsi, isTyD, isCol, inD]
def LrP (ps : List (Int × Int)) (l : List D) (env : DEnv) : Prop := ∃ s2 s3 s4, env = [.own (.val (.lst (row ps))), .own (.val (.lst l)), s2, s3, s4] ∧ NP s2 ∧ NP s3 ∧ NP s4
def LrR (ps : List (Int × Int)) (l : List D) (r : R) (env : DEnv) : Prop := r = .val (.bl false) ∧ ∃ s2 s3 s4, env = [.own (.val (.lst (row ps))), .own (.val (.lst l)), s2, s3, s4]
theorem lr_els {ps : List (Int × Int)} {l : List D} (hp : ∀ x ∈ l, plainD x = true) (env : DEnv) (h : LrP ps l env) :
    (l.all isCol = true ∧ ∃ env2, forL (.nm 2) lrE l env = .ok .nx env2 ∧ LrP ps l env2) ∨ (l.all isCol = false ∧ ∃ r env2, forL (.nm 2) lrE l env = .ok (.ret r) env2 ∧ LrR ps l r env2) := by
  have := forL_any (tg := .nm 2) (B := lrE) (fun x : D => x) (fun x => !isCol x) (LrP ps l) (fun _ => LrR ps l) (xs := l) (fun x hx env hp' => ?_) env h
  · rw [List.map_id'] at this
    rcases this with ⟨g1, g2⟩ | ⟨x, hx, g1, g2⟩
    · exact .inl ⟨List.all_eq_true.mpr fun x hx => by simpa using g1 x hx, g2⟩
    · exact .inr ⟨List.all_eq_false.mpr ⟨x, hx, by simpa using g1⟩, g2⟩
  · obtain ⟨s2, s3, s4, rfl, h2, h3, h4⟩ := hp'
    have f2 : ∀ env, free (s2 :: env) 0 = true := fun env => np0 h2
    refine ⟨[.own (.val (.lst (row ps))), .own (.val (.lst l)), .own (.val x), s3, s4], by simp [-ev_fr0, f2], ?_⟩
    rw [lrE_eq (hp x hx)]
    by_cases c : isCol x = true
    · exact .inl ⟨by simp [c], _, if_pos c, .own (.val x), s3, s4, rfl, NP.val, h3, h4⟩
    · exact .inr ⟨by simpa using c, _, _, if_neg c, rfl, .own (.val x), s3, s4, rfl⟩
noncomputable def lrI : M DL.Flow := (sIf (tAnd' (tst (op2 (hEq false) (op2 hIx (dVar 1) (dVar 4)) (op2 hIx (dVar 1) (dVar 3)))) (tst (dCall f__law_touch [.v, .v] (dCons (op2 hIx (dVar 0) (dVar 4)) (dCons (op2 hIx (dVar 0) (dVar 3)) dNil)))))
  (sRet (dC (.bl false)))
  sNx)
noncomputable def lrO : M DL.Flow := sFor (dRng1 (dVar 3)) (.nm 4) lrI
def LrK (ps : List (Int × Int)) (cs : List Int) (k : Nat) (env : DEnv) : Prop := ∃ s2 s4, env = [.own (.val (.lst (row ps))), .own (.val (cl cs)), s2, .own (.val (.int k)), s4] ∧ NP s2 ∧ NP s4
theorem law_touch_at {ps : List (Int × Int)} (hr : RowOk ps) {j k : Nat} (hj : j < ps.length) (hk : k < ps.length) : f__law_touch [.val (st (atP ps j).1 (atP ps j).2), .val (st (atP ps k).1 (atP ps k).2)] = .ok (.val (.bl (tch (atP ps j) (atP ps k)))) [.val (st (atP ps j).1 (atP ps j).2), .val (st (atP ps k).1 (atP ps k).2)] :=
  f_law_touch_eq _ _ _ _ (hr.2 _ (atP_mem hj)).2.1 (hr.2 _ (atP_mem hk)).2.1
theorem lr_in {ps : List (Int × Int)} (hr : RowOk ps) {cs : List Int} (hl : cs.length = ps.length) {k : Nat} (hk : k < ps.length) (env : DEnv) (hp : LrK ps cs k env) :
    (clsK ps cs k = false ∧ ∃ env2, forL (.nm 4) lrI ((List.range k).map fun i => .int (i : Nat)) env = .ok .nx env2 ∧ LrK ps cs k env2) ∨ (clsK ps cs k = true ∧ ∃ r env2, forL (.nm 4) lrI ((List.range k).map fun i => .int (i : Nat)) env = .ok (.ret r) env2 ∧ LrR ps (cs.map D.int) r env2) := by
  have := forL_any (tg := .nm 4) (B := lrI) (fun i : Nat => D.int (i : Nat)) (cls ps cs k) (LrK ps cs k) (fun _ => LrR ps (cs.map D.int)) (xs := List.range k) (fun j hj env hp => ?_) env hp
  · rcases this with ⟨g1, g2⟩ | ⟨j, hj, g1, g2⟩
    · exact .inl ⟨by simp only [clsK, List.any_eq_false]; exact fun j hj => by simp [g1 j hj], g2⟩
    · exact .inr ⟨by simp only [clsK, List.any_eq_true]; exact ⟨j, hj, g1⟩, g2⟩
  · obtain ⟨s2, s4, rfl, h2, h4⟩ := hp
    have f4 : ∀ env, free (s4 :: env) 0 = true := fun env => np0 h4
    have hj := List.mem_range.mp hj
    have a1 := at_cl (cs := cs) (k := j) (by omega)
    have a2 := at_cl (cs := cs) (k := k) (by omega)
    have b1 := at_row (ps := ps) (k := j) (by omega)
    have b2 := at_row (ps := ps) (k := k) hk
    have te := law_touch_at hr (j := j) (k := k) (by omega) hk
    refine ⟨[.own (.val (.lst (row ps))), .own (.val (cl cs)), s2, .own (.val (.int k)), .own (.val (.int (j : Nat)))], by simp [-ev_fr0, f4], ?_⟩
    by_cases c1 : cAt cs j = cAt cs k
    · by_cases c2 : tch (atP ps j) (atP ps k) = true
      · refine .inr ⟨by simp [cls, c1, c2], _, _, ?_, rfl, s2, .own (.val (.int k)), .own (.val (.int (j : Nat))), rfl⟩
        simp [lrI, cl, a1, a2, b1, b2, c1, te, c2]
      · have c2 : tch (atP ps j) (atP ps k) = false := by simpa using c2
        refine .inl ⟨by simp [cls, c2], _, ?_, s2, .own (.val (.int (j : Nat))), rfl, h2, NP.val⟩
        simp [lrI, cl, a1, a2, b1, b2, c1, te, c2]
    · refine .inl ⟨by simp [cls, c1], _, ?_, s2, .own (.val (.int (j : Nat))), rfl, h2, NP.val⟩
      simp [lrI, cl, a1, a2, b1, b2, c1]
theorem lr_out {ps : List (Int × Int)} (hr : RowOk ps) {cs : List Int} (hl : cs.length = ps.length) (env : DEnv) (hp : LrP ps (cs.map D.int) env) :
    (rightC ps cs = true ∧ ∃ env2, forL (.nm 3) lrO ((List.range ps.length).map fun i => .int (i : Nat)) env = .ok .nx env2 ∧ LrP ps (cs.map D.int) env2) ∨ (rightC ps cs = false ∧ ∃ r env2, forL (.nm 3) lrO ((List.range ps.length).map fun i => .int (i : Nat)) env = .ok (.ret r) env2 ∧ LrR ps (cs.map D.int) r env2) := by
  have hz := hr.1
  have := forL_any (tg := .nm 3) (B := lrO) (fun i : Nat => D.int (i : Nat)) (clsK ps cs) (LrP ps (cs.map D.int)) (fun _ => LrR ps (cs.map D.int)) (xs := List.range ps.length) (fun k hk env hp => ?_) env hp
  · rcases this with ⟨g1, g2⟩ | ⟨j, hj, g1, g2⟩
    · exact .inl ⟨by simp only [rightC, List.all_eq_true]; exact fun k hk => by simp [g1 k hk], g2⟩
    · exact .inr ⟨by simp only [rightC, List.all_eq_false]; exact ⟨j, hj, by simp [g1]⟩, g2⟩
  · obtain ⟨s2, s3, s4, rfl, h2, h3, h4⟩ := hp
    have f3 : ∀ env, free (s3 :: env) 0 = true := fun env => np0 h3
    have hk := List.mem_range.mp hk
    refine ⟨[.own (.val (.lst (row ps))), .own (.val (cl cs)), s2, .own (.val (.int k)), s4], by simp [-ev_fr0, f3, cl], ?_⟩
    have eb : lrO [.own (.val (.lst (row ps))), .own (.val (cl cs)), s2, .own (.val (.int (k : Nat))), s4] = forL (.nm 4) lrI ((List.range k).map fun i => .int (i : Nat)) [.own (.val (.lst (row ps))), .own (.val (cl cs)), s2, .own (.val (.int (k : Nat))), s4] := by
      unfold lrO
      rw [ev_for, rng_gen (f := dVar 3) (n := (k : Int)) (by simp) (by omega) (by omega), Int.toNat_natCast, ev_bok]
    rw [eb]
    rcases lr_in hr hl hk _ ⟨s2, s4, rfl, h2, h4⟩ with ⟨g1, env2, g2, t2, t4, rfl, g4, g5⟩ | ⟨g1, r, env2, g2, g3⟩
    · exact .inl ⟨g1, _, g2, t2, .own (.val (.int k)), t4, rfl, g4, NP.val, g5⟩
    · exact .inr ⟨g1, r, env2, g2, g3⟩
theorem b_lr : b__law_is_right = sSeq (sIf (tOr' (tNot' (tst (dB hIsi (dCons (dVar 1) (dCons (dC (.ty "list")) dNil))))) (tst (op2 (hEq true) (dB hLen (dCons (dVar 1) dNil)) (dB hLen (dCons (dVar 0) dNil))))) (sRet (dC (.bl false))) sNx)
  (sSeq (sFor (dSeqA (dVar 1)) (.nm 2) lrE) (sSeq (sFor (dRng1 (dB hLen (dCons (dVar 0) dNil))) (.nm 3) lrO) (sRet (dC (.bl true))))) := rfl
theorem f_law_is_right_eq {ps : List (Int × Int)} (hr : RowOk ps) (d : D) (h : plainL d) : f__law_is_right [.val (.lst (row ps)), .val d] = .ok (.val (.bl (isRightD ps d))) [.val (.lst (row ps)), .val d] := by
  have hz := hr.1
  have rl : (row ps).length = ps.length := by simp [row]
  have ei : initE [.val (.lst (row ps)), .val d] 3 = [.own (.val (.lst (row ps))), .own (.val d), .un, .un, .un] := rfl
  unfold f__law_is_right
  rw [ev_mk, ei, b_lr]
  cases d <;> simp [plainL, plainD] at h
  case lst l =>
    obtain ⟨h1, h2⟩ := h
    by_cases hl : l.length = ps.length
    · have s1 : (sIf (tOr' (tNot' (tst (dB hIsi (dCons (dVar 1) (dCons (dC (.ty "list")) dNil))))) (tst (op2 (hEq true) (dB hLen (dCons (dVar 1) dNil)) (dB hLen (dCons (dVar 0) dNil))))) (sRet (dC (.bl false))) sNx) [.own (.val (.lst (row ps))), .own (.val (.lst l)), .un, .un, .un] = .ok .nx [.own (.val (.lst (row ps))), .own (.val (.lst l)), .un, .un, .un] := by
        simp [hIsi, isTyD, hl, rl]
      rw [seq_nx s1 rfl, ev_seq]
      have s2 : (sFor (dSeqA (dVar 1)) (.nm 2) lrE) [.own (.val (.lst (row ps))), .own (.val (.lst l)), .un, .un, .un] = forL (.nm 2) lrE l [.own (.val (.lst (row ps))), .own (.val (.lst l)), .un, .un, .un] := by simp
      rw [s2]
      rcases lr_els h1 _ ⟨.un, .un, .un, rfl, NP.un, NP.un, NP.un⟩ with ⟨g1, env2, g2, g3⟩ | ⟨g1, r, env2, g2, rfl, t2, t3, t4, rfl⟩
      · rw [g2, ev_bok]
        show finFn _ (sSeq (sFor (dRng1 (dB hLen (dCons (dVar 0) dNil))) (.nm 3) lrO) (sRet (dC (.bl true))) env2) = _
        obtain ⟨a, b⟩ := cols_of g1
        have e3 : isRightD ps (.lst l) = rightC ps (l.map intV) := by simp [isRightD, g1, hl]
        rw [e3, ev_seq]
        rw [a] at g3
        have s3 : (sFor (dRng1 (dB hLen (dCons (dVar 0) dNil))) (.nm 3) lrO) env2 = forL (.nm 3) lrO ((List.range ps.length).map fun i => .int (i : Nat)) env2 := by
          obtain ⟨t2, t3, t4, rfl, _⟩ := g3
          rw [ev_for, rng_gen (n := ((row ps).length : Int)) (by simp) (by omega) (by omega), Int.toNat_natCast, ev_bok, rl]
        rw [s3]
        rcases lr_out hr (cs := l.map intV) (by rw [List.length_map]; exact hl) env2 g3 with ⟨q1, env3, q2, t2, t3, t4, rfl, _⟩ | ⟨q1, r, env3, q2, rfl, t2, t3, t4, rfl⟩
        · rw [q1, q2, ← a]; rfl
        · rw [q1, q2, ← a]; rfl
      · rw [g2]
        have e3 : isRightD ps (.lst l) = false := by simp only [isRightD, g1, Bool.false_and]
        rw [e3]; rfl
    · have e3 : isRightD ps (.lst l) = false := by simp [isRightD, hl]
      have hl2 : ¬ ((l.length : Int) = (ps.length : Int)) := by omega
      rw [e3, ev_seq]
      simp [hIsi, isTyD, hl2, rl]
  all_goals (rw [ev_seq]; simp [hIsi, isTyD, isRightD])
theorem putD_len (acc : List (Key × D)) (k : Key) (d : D) : (putD acc k d).length ≤ acc.length + 1 := by
  unfold putD
  split <;> simp
theorem putD_has (acc : List (Key × D)) (k k2 : Key) (d : D) : hasK ((putD acc k d).map (·.1)) k2 = (hasK (acc.map (·.1)) k2 || decide (k = k2)) := by
  unfold putD
  split
  · rename_i h
    have e : (acc.map fun p => if p.1 = k then (p.1, d) else p).map (·.1) = acc.map (·.1) := by
      rw [List.map_map]
      apply List.map_congr_left
      intro p _
      simp only [Function.comp]
      split <;> rfl
    rw [e]
    by_cases c : k = k2
    · subst c
      simp only [decide_true, Bool.or_true]
      unfold hasK
      rw [List.any_map]
      exact h
    · simp [c]
  · simp [hasK, List.any_append]
theorem compD_gen {α : Type} {tg : Tgt} {vs : List Nat} {test : M Bool} {fk elt : M R} {env : DEnv} (h : α → D) (kx : α → Key) (g : α → D) (t : α → Bool) (E : α → DEnv) (hu : ∀ x, unE (E x) vs = env) : ∀ {xs : List α} {acc : List (Key × D)},
    (∀ x ∈ xs, asg tg (h x) env = some (E x) ∧ test (E x) = .ok (t x) (E x) ∧ (t x = true → ∃ rk r, fk (E x) = .ok rk (E x) ∧ keyR (E x) rk = some (kx x) ∧ elt (E x) = .ok r (E x) ∧ frzR r = some (g x))) → acc.length + xs.length ≤ sizeLine →
    compD tg vs test fk elt (xs.map h) acc env = .ok ((xs.filter t).foldl (fun a x => putD a (kx x) (g x)) acc) env
  | [], acc, _, _ => by simp [compD]
  | d :: ds, acc, he, hz => by
    obtain ⟨h1, h2, h3⟩ := he d List.mem_cons_self
    simp only [List.length_cons] at hz
    have nx : ∀ {acc : List (Key × D)}, acc.length + ds.length ≤ sizeLine → _ := fun {acc} hz => compD_gen h kx g t E hu (xs := ds) (acc := acc) (fun x hx => he x (List.mem_cons_of_mem _ hx)) hz
    simp only [List.map_cons, compD, h1, h2, noX, Res.bind]
    cases ht : t d with
    | false =>
      simp only [Bool.false_eq_true, if_false, hu]
      rw [nx (by omega)]
      simp [ht]
    | true =>
      obtain ⟨rk, r, h4, h5, h6, h7⟩ := h3 ht
      simp only [if_true, h4, h5, h6, h7]
      rw [if_pos (by omega)]
      simp only [hu]
      rw [nx (by have := putD_len acc (kx d) (g d); omega)]
      simp [ht]
theorem fold_has {α : Type} (kx : α → Key) (g : α → D) (k2 : Key) : ∀ (xs : List α) (acc : List (Key × D)), hasK ((xs.foldl (fun a x => putD a (kx x) (g x)) acc).map (·.1)) k2 = (hasK (acc.map (·.1)) k2 || xs.any fun x => decide (kx x = k2))
  | [], acc => by simp
  | x :: xs, acc => by
    rw [List.foldl_cons, fold_has kx g k2 xs, putD_has]
    simp [Bool.or_assoc]
def bars2 (ds : List (Int × Int)) (cs : List Int) (q : Int × Int) : List Int := ((ds.zip cs).filter fun p => tch p.1 q).map (·.2)
theorem keyR_eq {env : DEnv} {c : Int} : keyR env (.val (.int c)) = some (.inl c) := rfl
theorem wh_lf {bs : List Int} {T : M Bool} {B : M DL.Flow} {E : Int → DEnv} (hT : ∀ c, T (E c) = .ok (decide (c ∈ bs)) (E c)) (hB : ∀ c, B (E c) = .ok .nx (E (c + 1))) : ∀ (m n : Nat) (c : Int), (bs.filter fun x => decide (c ≤ x)).length ≤ m → m < n → whL T B n (E c) = .ok .nx (E (lfN bs m c))
  | m, 0, c, _, h => by omega
  | 0, n + 1, c, h, _ => by
    have hc : c ∉ bs := fun hc => by
      have : c ∈ bs.filter fun x => decide (c ≤ x) := List.mem_filter.mpr ⟨hc, by simp⟩
      have := List.length_pos_of_mem this
      omega
    simp [whL, hT, hc, Res.bind, lfN]
  | m + 1, n + 1, c, h, hn => by
    by_cases hc : c ∈ bs
    · have ih := wh_lf hT hB m n (c + 1) (by
        have hlt : (bs.filter fun x => decide (c + 1 ≤ x)).length < (bs.filter fun x => decide (c ≤ x)).length := by
          have e : (bs.filter fun x => decide (c + 1 ≤ x)) = (bs.filter fun x => decide (c ≤ x)).filter fun x => decide (x ≠ c) := by
            rw [List.filter_filter]
            apply List.filter_congr
            intro x _
            by_cases h1 : c + 1 ≤ x <;> by_cases h2 : c ≤ x <;> by_cases h3 : x = c <;> simp [h1, h2, h3] <;> omega
          rw [e]
          apply List.length_filter_lt_length_iff_exists.mpr
          exact ⟨c, List.mem_filter.mpr ⟨hc, by simp⟩, by simp⟩
        omega) (by omega)
      simp [whL, hT, hc, Res.bind, hB, lfN, ih]
    · simp [whL, hT, hc, Res.bind, lfN]
@[simp] theorem lf_int {c : Int} : (O.val (.int c)).lfree = true := by simp [O.lfree, D.lfree]
@[simp] theorem lf_bl {c : Bool} : (O.val (.bl c)).lfree = true := by simp [O.lfree, D.lfree]
@[simp] theorem lf_non : (O.val .non).lfree = true := by simp [O.lfree, D.lfree]
@[simp] theorem lf_pair {a b : Int} : (O.val (.tup [.int a, .int b])).lfree = true := by simp [O.lfree, D.lfree, D.lfrees]
theorem pys_cs : ∀ (cs : List Int), D.pys (cs.map D.int) = some (cs.map PyData.int)
  | [] => rfl
  | c :: cs => by simp only [List.map_cons, D.pys, D.py, pys_cs cs]
theorem lay_cs : ∀ (cs : List Int), PyData.canLayAll0 (cs.map PyData.int) = true
  | [] => rfl
  | c :: cs => by simp only [List.map_cons, PyData.canLayAll0, PyData.canLay0, lay_cs cs, Bool.and_self]
theorem dep_cs : ∀ (cs : List Int), PyData.depthAll (cs.map PyData.int) ≤ 0
  | [] => by simp [PyData.depthAll]
  | c :: cs => by
    have := dep_cs cs
    simp only [List.map_cons, PyData.depthAll, PyData.depth]
    omega
theorem shp_cs (cs : List Int) : SeqAt.shaped (.list (cs.map PyData.int)) = true := by
  have := dep_cs cs
  simp [SeqAt.shaped, PyData.canLay0, lay_cs, PyData.depth]
  omega
theorem heq_cs (cs : List Int) (n : Bool) : hEq n (.lst (cs.map D.int)) (.lst (cs.map D.int)) = some (.val (.bl (!n))) := by
  have hq : PyData.eqv (.list (cs.map PyData.int)) (.list (cs.map PyData.int)) = true := PySem.SeqAt.eqv_refl _ (by simp [PyData.canLay0, lay_cs])
  simp only [hEq, D.py, pys_cs, shp_cs, and_self, if_true, hq]
  cases n <;> rfl
theorem repr_py {w n : Nat} {d : D} {p : PyData} (h : DB.Disp w n d) (e : d.py = some p) (hw : w ≤ 2 ^ 18) (hn : n ≤ 64) (hd : isDisp d = true) : hRepr2 [d] = some (.val (.str p.shown)) ∧ leafOk p = true := by
  obtain ⟨q, r1, r2⟩ := DB.repr_ok h hw hn hd
  obtain ⟨q', e1, dp⟩ := h
  rw [e] at e1
  cases e1
  refine ⟨?_, dp.lf⟩
  rw [repr2_of r1]
  simp only [hRepr, e] at r1
  split at r1
  · exact r1.symm
  · cases r1
theorem heq_bl (n a b : Bool) : hEq n (.bl a) (.bl b) = some (.val (.bl (if n then !decide (a = b) else decide (a = b)))) := by
  cases n <;> cases a <;> cases b <;> rfl
def Nice (d : D) : Prop := plainD d = true ∧ DB.Disp 200 2 d
theorem nice_int {i : Int} (h : i.natAbs < 10 ^ 12) : Nice (.int i) := ⟨rfl, (DB.disp_int (n := 2) h).up (by omega) (by omega)⟩
end Gk07
end
section
set_option maxRecDepth 100000
set_option maxHeartbeats 1000000
namespace Gk07
open PySem PySem.Spec PyProof.Rows L2 DL
variable [tb : Tb]
/-! ### counting -/
def cnt (k : Nat) (p : Nat → Bool) : Nat := ((List.range k).filter p).length
theorem cnt_succ (k : Nat) (p : Nat → Bool) : cnt (k + 1) p = cnt k p + (if p k = true then 1 else 0) := by
  unfold cnt
  rw [List.range_succ, List.filter_append, List.length_append]
  by_cases h : p k = true <;> simp [h]
theorem cnt_up {a b : Nat} (h : a ≤ b) (p : Nat → Bool) : cnt a p ≤ cnt b p := by
  induction b with
  | zero => rw [show a = 0 by omega]; exact Nat.le_refl _
  | succ b ih =>
    by_cases c : a = b + 1
    · rw [c]; exact Nat.le_refl _
    · have := ih (by omega)
      rw [cnt_succ]; omega
theorem cnt_mono {k : Nat} {p q : Nat → Bool} (h : ∀ j, j < k → p j = true → q j = true) : cnt k p ≤ cnt k q := by
  unfold cnt
  rw [← List.countP_eq_length_filter, ← List.countP_eq_length_filter]
  exact List.countP_mono_left fun j hj hp => h j (List.mem_range.mp hj) hp
theorem cnt_cong {k : Nat} {p q : Nat → Bool} (h : ∀ j, j < k → p j = q j) : cnt k p = cnt k q := by
  unfold cnt
  rw [List.filter_congr fun j hj => h j (List.mem_range.mp hj)]
theorem cnt_le (k : Nat) (p : Nat → Bool) : cnt k p ≤ k := by
  unfold cnt
  exact Nat.le_trans (List.length_filter_le _ _) (by simp)
theorem cnt_zero {k : Nat} {p : Nat → Bool} (h : cnt k p = 0) {j : Nat} (hj : j < k) : p j = false := by
  unfold cnt at h
  cases e : p j with
  | false => rfl
  | true =>
    have : j ∈ (List.range k).filter p := List.mem_filter.mpr ⟨List.mem_range.mpr hj, e⟩
    rw [List.length_eq_zero_iff.mp h] at this
    cases this
theorem cnt_pos {k : Nat} {p : Nat → Bool} {j : Nat} (hj : j < k) (h : p j = true) : 1 ≤ cnt k p := by
  rcases Nat.eq_zero_or_pos (cnt k p) with e | e
  · rw [cnt_zero e hj] at h; cases h
  · exact e
theorem cnt_split (k : Nat) (p q r : Nat → Bool) (h : ∀ j, j < k → (p j = true ↔ q j = true ∨ r j = true) ∧ ¬ (q j = true ∧ r j = true)) : cnt k p = cnt k q + cnt k r := by
  induction k with
  | zero => rfl
  | succ k ih =>
    rw [cnt_succ, cnt_succ, cnt_succ, ih fun j hj => h j (by omega)]
    obtain ⟨h1, h2⟩ := h k (by omega)
    by_cases a : p k = true <;> by_cases b : q k = true <;> by_cases c : r k = true <;> simp [a, b, c] at h1 h2 ⊢ <;> omega
theorem cnt_one {k : Nat} {p : Nat → Bool} (h : ∀ i j, i < k → j < k → p i = true → p j = true → i = j) : cnt k p ≤ 1 := by
  induction k with
  | zero => simp [cnt]
  | succ k ih =>
    rw [cnt_succ]
    by_cases c : p k = true
    · have : cnt k p = 0 := by
        rcases Nat.eq_zero_or_pos (cnt k p) with e | e
        · exact e
        · exfalso
          unfold cnt at e
          obtain ⟨j, hj⟩ := List.exists_mem_of_length_pos e
          obtain ⟨h1, h2⟩ := List.mem_filter.mp hj
          have h1 := List.mem_range.mp h1
          have := h j k (by omega) (by omega) h2 c
          omega
      rw [this]; simp [c]
    · have := ih fun i j hi hj => h i j (by omega) (by omega)
      simp [c]; omega
/-- at most one on each of two sides -/
theorem cnt_two {k : Nat} {p q r : Nat → Bool} (h : ∀ j, j < k → p j = true → q j = true ∨ r j = true) (hq : cnt k q ≤ 1) (hr : cnt k r ≤ 1) : cnt k p ≤ 2 := by
  have : cnt k p ≤ cnt k q + cnt k r := by
    clear hq hr
    induction k with
    | zero => simp [cnt]
    | succ k ih =>
      rw [cnt_succ, cnt_succ, cnt_succ]
      have := ih fun j hj => h j (by omega)
      have := h k (by omega)
      by_cases a : p k = true <;> by_cases b : q k = true <;> by_cases c : r k = true <;> simp [a, b, c] at this ⊢ <;> omega
  omega
/-! ### the least number that is not full -/
def look (t : Int → Bool) : Nat → Int → Int
  | 0, L => L
  | f + 1, L => if t L = true then look t f (L + 1) else L
theorem look_spec (t : Int → Bool) : ∀ (f : Nat) (L : Int), t (L + f) = false → t (look t f L) = false ∧ L ≤ look t f L ∧ look t f L ≤ L + f ∧ ∀ x, L ≤ x → x < look t f L → t x = true := by
  intro f
  induction f with
  | zero => intro L h; simp only [look]; exact ⟨by simpa using h, by omega, by omega, fun x _ _ => by omega⟩
  | succ f ih =>
    intro L h
    simp only [look]
    by_cases c : t L = true
    · rw [if_pos c]
      obtain ⟨h1, h2, h3, h4⟩ := ih (L + 1) (by rw [← h]; congr 1; omega)
      refine ⟨h1, by omega, by omega, fun x hx hx2 => ?_⟩
      by_cases e : x = L
      · rw [e]; exact c
      · exact h4 x (by omega) hx2
    · rw [if_neg c]
      exact ⟨by simpa using c, by omega, by omega, fun x _ _ => by omega⟩
theorem look_cong {t u : Int → Bool} : ∀ (f : Nat) (L : Int), (∀ x, L ≤ x → t x = u x) → look t f L = look u f L := by
  intro f
  induction f with
  | zero => intro L _; rfl
  | succ f ih =>
    intro L h
    simp only [look, h L (Int.le_refl _)]
    rw [ih (L + 1) fun x hx => h x (by omega)]
/-! ### depths -/
def pickI (t : Int → Bool) (ps : List (Int × Int)) (ds : List Int) (k : Nat) : List (Int × Int) := ((List.range k).filter fun j => t (cAt ds j)).map (atP ps)
theorem over_pick (t : Int → Bool) (ps : List (Int × Int)) (ds : List Int) (k : Nat) (z : Int) : over (pickI t ps ds k) z = cnt k fun j => t (cAt ds j) && covB z (atP ps j) := by
  unfold over pickI cnt
  rw [show (fun p : Int × Int => decide (p.1 ≤ z) && decide (z ≤ p.2)) = covB z from rfl, mapix, List.filter_filter]
  congr 1
  apply List.filter_congr
  intro j _
  rw [Bool.and_comm]
theorem pick_len (t : Int → Bool) (ps : List (Int × Int)) (ds : List Int) (k : Nat) : (pickI t ps ds k).length ≤ k := by
  unfold pickI
  rw [List.length_map]
  exact Nat.le_trans (List.length_filter_le _ _) (by simp)
/-- the greatest load of qs over x and over the begins of qs from x to y -/
def pts (qs : List (Int × Int)) (x y : Int) : List Int := x :: (qs.filter fun q => decide (x ≤ q.1) && decide (q.1 ≤ y)).map (·.1)
def under (qs : List (Int × Int)) (x y : Int) : Int := maxL ((pts qs x y).map fun z => (over qs z : Int))
theorem best_pt (qs : List (Int × Int)) {x y z : Int} (h1 : x ≤ z) (h2 : z ≤ y) : ∃ w ∈ pts qs x y, over qs z ≤ over qs w := by
  by_cases h : qs.filter (fun p => decide (p.1 ≤ z) && decide (z ≤ p.2)) = []
  · refine ⟨x, List.mem_cons_self, ?_⟩
    have : over qs z = 0 := by unfold over; rw [h]; rfl
    omega
  · obtain ⟨q, hq, hm⟩ := most_begin h
    have hq2 := List.mem_filter.mp hq
    have hz := hq2.2
    simp at hz
    by_cases c : x ≤ q.1
    · refine ⟨q.1, List.mem_cons_of_mem _ (List.mem_map.mpr ⟨q, List.mem_filter.mpr ⟨hq2.1, by simp; omega⟩, rfl⟩), over_mono fun p hp hc => ?_⟩
      have := hm p (List.mem_filter.mpr ⟨hp, by simp [hc]⟩)
      omega
    · refine ⟨x, List.mem_cons_self, over_mono fun p hp hc => ?_⟩
      have := hm p (List.mem_filter.mpr ⟨hp, by simp [hc]⟩)
      omega
theorem pts_in {qs : List (Int × Int)} {x y w : Int} (hxy : x ≤ y) (h : w ∈ pts qs x y) : x ≤ w ∧ w ≤ y := by
  rcases List.mem_cons.mp h with rfl | h
  · omega
  · obtain ⟨q, hq, rfl⟩ := List.mem_map.mp h
    have := (List.mem_filter.mp hq).2
    simp at this
    exact this
theorem under_ge {qs : List (Int × Int)} {x y : Int} (hxy : x ≤ y) (L : Int) : L ≤ under qs x y ↔ ∃ z, x ≤ z ∧ z ≤ y ∧ L ≤ (over qs z : Int) := by
  constructor
  · intro h
    have := maxL_mem (l := (pts qs x y).map fun z => (over qs z : Int)) (by simp [pts])
    obtain ⟨w, hw, e⟩ := List.mem_map.mp this
    obtain ⟨h1, h2⟩ := pts_in hxy hw
    exact ⟨w, h1, h2, by rw [e]; exact h⟩
  · rintro ⟨z, h1, h2, h3⟩
    obtain ⟨w, hw, h4⟩ := best_pt qs h1 h2
    have : (over qs w : Int) ≤ under qs x y := maxL_le (List.mem_map.mpr ⟨w, hw, rfl⟩)
    omega
def fullB (ps : List (Int × Int)) (ds : List Int) (k : Nat) (x y : Int) (L : Int) : Bool := decide (L ≤ under (pickI (fun d => decide (d ≤ L)) ps ds k) x y)
def lay (ps : List (Int × Int)) (ds : List Int) (k : Nat) : Int := look (fullB ps ds k (atP ps k).1 (atP ps k).2) k 1
def dep (ps : List (Int × Int)) : Nat → List Int
  | 0 => []
  | k + 1 => dep ps k ++ [lay ps (dep ps k) k]
theorem dep_len (ps : List (Int × Int)) : ∀ k, (dep ps k).length = k
  | 0 => rfl
  | k + 1 => by simp [dep, dep_len ps k]
theorem dep_at (ps : List (Int × Int)) : ∀ (k n : Nat), k < n → cAt (dep ps n) k = lay ps (dep ps k) k
  | k, 0, h => by omega
  | k, n + 1, h => by
    by_cases c : k < n
    · have := dep_at ps k n c
      rw [← this]
      have hl := dep_len ps n
      simp [dep, cAt, List.getD_eq_getElem?_getD, List.getElem?_append_left (show k < (dep ps n).length by omega)]
    · have e : k = n := by omega
      subst e
      have hl := dep_len ps k
      simp [dep, cAt, List.getD_eq_getElem?_getD, List.getElem?_append_right (show (dep ps k).length ≤ k by omega), hl]
theorem dep_pre (ps : List (Int × Int)) {k n j : Nat} (hj : j < k) (hk : k ≤ n) : cAt (dep ps k) j = cAt (dep ps n) j := by
  rw [dep_at ps j k hj, dep_at ps j n (by omega)]
theorem pick_pre (t : Int → Bool) (ps : List (Int × Int)) {k n : Nat} (hk : k ≤ n) : pickI t ps (dep ps k) k = pickI t ps (dep ps n) k := by
  unfold pickI
  congr 1
  apply List.filter_congr
  intro j hj
  rw [dep_pre ps (List.mem_range.mp hj) hk]
theorem lay_spec {ps : List (Int × Int)} {k n : Nat} (hk : k < n) (hp : (atP ps k).1 ≤ (atP ps k).2) : 1 ≤ cAt (dep ps n) k ∧ cAt (dep ps n) k ≤ k + 1 ∧
    (∀ z, (atP ps k).1 ≤ z → z ≤ (atP ps k).2 → ((cnt k fun j => decide (cAt (dep ps n) j ≤ cAt (dep ps n) k) && covB z (atP ps j) : Nat) : Int) < cAt (dep ps n) k) ∧
    (2 ≤ cAt (dep ps n) k → ∃ z, (z = (atP ps k).1 ∨ ∃ j, j < k ∧ z = (atP ps j).1) ∧ (atP ps k).1 ≤ z ∧ z ≤ (atP ps k).2 ∧ cAt (dep ps n) k - 1 ≤ ((cnt k fun j => decide (cAt (dep ps n) j ≤ cAt (dep ps n) k - 1) && covB z (atP ps j) : Nat) : Int)) := by
  rw [dep_at ps k n hk]
  have term : fullB ps (dep ps k) k (atP ps k).1 (atP ps k).2 (1 + (k : Nat)) = false := by
    cases e : fullB ps (dep ps k) k (atP ps k).1 (atP ps k).2 (1 + (k : Nat)) with
    | false => rfl
    | true =>
      unfold fullB at e
      obtain ⟨z, _, _, h⟩ := (under_ge hp _).mp (of_decide_eq_true e)
      rw [over_pick] at h
      have := cnt_le k fun j => decide (cAt (dep ps k) j ≤ 1 + (k : Int)) && covB z (atP ps j)
      omega
  obtain ⟨h1, h2, h3, h4⟩ := look_spec _ k 1 term
  rw [show look (fullB ps (dep ps k) k (atP ps k).1 (atP ps k).2) k 1 = lay ps (dep ps k) k from rfl] at h1 h2 h3 h4
  generalize lay ps (dep ps k) k = L at h1 h2 h3 h4
  have full (x : Int) (z : Int) : over (pickI (fun d => decide (d ≤ x)) ps (dep ps k) k) z = cnt k fun j => decide (cAt (dep ps n) j ≤ x) && covB z (atP ps j) := by
    rw [pick_pre _ ps (show k ≤ n by omega), over_pick]
  refine ⟨h2, by omega, fun z hz1 hz2 => ?_, fun hL => ?_⟩
  · rw [← full]
    unfold fullB at h1
    have h1 := of_decide_eq_false h1
    apply Classical.byContradiction
    intro c
    exact h1 ((under_ge hp _).mpr ⟨z, hz1, hz2, by omega⟩)
  · have h5 := h4 (L - 1) (by omega) (by omega)
    unfold fullB at h5
    have h5 := of_decide_eq_true h5
    have := maxL_mem (l := (pts (pickI (fun d => decide (d ≤ L - 1)) ps (dep ps k) k) (atP ps k).1 (atP ps k).2).map fun z => (over (pickI (fun d => decide (d ≤ L - 1)) ps (dep ps k) k) z : Int)) (by simp [pts])
    obtain ⟨w, hw, e⟩ := List.mem_map.mp this
    obtain ⟨g1, g2⟩ := pts_in hp hw
    refine ⟨w, ?_, g1, g2, by rw [← full, e]; exact h5⟩
    rcases List.mem_cons.mp hw with h | h
    · exact .inl h
    · obtain ⟨q, hq, rfl⟩ := List.mem_map.mp h
      obtain ⟨j, hj, rfl⟩ := List.mem_map.mp (List.mem_filter.mp hq).1
      exact .inr ⟨j, List.mem_range.mp (List.mem_filter.mp hj).1, rfl⟩
/-- k's witness -/
theorem wit_ex {ps : List (Int × Int)} {k n : Nat} (hk : k < n) (hp : (atP ps k).1 ≤ (atP ps k).2) : ∃ z, (z = (atP ps k).1 ∨ ∃ j, j < k ∧ z = (atP ps j).1) ∧ covB z (atP ps k) = true ∧
    (cnt k fun j => decide (cAt (dep ps n) j = cAt (dep ps n) k) && covB z (atP ps j)) = 0 ∧ ((cnt k fun j => decide (cAt (dep ps n) j < cAt (dep ps n) k) && covB z (atP ps j) : Nat) : Int) = cAt (dep ps n) k - 1 := by
  obtain ⟨h1, h2, h3, h4⟩ := lay_spec (n := n) hk hp
  generalize cAt (dep ps n) k = d at *
  have sp (z : Int) : (cnt k fun j => decide (cAt (dep ps n) j ≤ d) && covB z (atP ps j)) = (cnt k fun j => decide (cAt (dep ps n) j = d) && covB z (atP ps j)) + (cnt k fun j => decide (cAt (dep ps n) j < d) && covB z (atP ps j)) :=
    cnt_split k _ _ _ fun j _ => by
      simp only [Bool.and_eq_true, decide_eq_true_eq]
      refine ⟨⟨fun ⟨a, b⟩ => ?_, fun h => ?_⟩, fun ⟨⟨a, _⟩, b, _⟩ => by omega⟩
      · by_cases c : cAt (dep ps n) j = d
        · exact .inl ⟨c, b⟩
        · exact .inr ⟨by omega, b⟩
      · rcases h with ⟨a, b⟩ | ⟨a, b⟩
        · exact ⟨by omega, b⟩
        · exact ⟨by omega, b⟩
  by_cases c : 2 ≤ d
  · obtain ⟨z, hz, g1, g2, g3⟩ := h4 c
    have e1 := h3 z g1 g2
    have e2 := sp z
    have e3 : (cnt k fun j => decide (cAt (dep ps n) j ≤ d - 1) && covB z (atP ps j)) = (cnt k fun j => decide (cAt (dep ps n) j < d) && covB z (atP ps j)) := cnt_cong fun j _ => by
      congr 1
      rw [decide_eq_decide]; omega
    rw [e3] at g3
    exact ⟨z, hz, by simp [covB]; omega, by omega, by omega⟩
  · have hd : d = 1 := by omega
    have e1 := h3 (atP ps k).1 (by omega) hp
    have e2 := sp (atP ps k).1
    exact ⟨(atP ps k).1, .inl rfl, by simp [covB]; omega, by omega, by omega⟩
/-- a point of k's that no other of its layer covers -/
theorem priv_ex {ps : List (Int × Int)} {n : Nat} (hp : ∀ k, (atP ps k).1 ≤ (atP ps k).2) {k : Nat} (hk : k < n) : ∃ z, covB z (atP ps k) = true ∧ (∀ j, j < n → j ≠ k → cAt (dep ps n) j = cAt (dep ps n) k → covB z (atP ps j) = false) ∧
    cAt (dep ps n) k ≤ ((cnt (k + 1) fun j => covB z (atP ps j) : Nat) : Int) := by
  obtain ⟨z, _, h1, h2, h3⟩ := wit_ex (n := n) hk (hp k)
  refine ⟨z, h1, fun j hj hne he => ?_, ?_⟩
  · rcases Nat.lt_or_gt_of_ne hne with c | c
    · have := cnt_zero h2 c
      simpa [he] using this
    · cases e : covB z (atP ps j) with
      | false => rfl
      | true =>
        exfalso
        obtain ⟨g1, g2, g3, _⟩ := lay_spec (n := n) hj (hp j)
        have e' := e
        simp only [covB, Bool.and_eq_true, decide_eq_true_eq] at e'
        have g4 := g3 z e'.1 e'.2
        rw [he] at g4
        have : cnt (k + 1) (fun i => decide (cAt (dep ps n) i ≤ cAt (dep ps n) k) && covB z (atP ps i)) ≤ cnt j (fun i => decide (cAt (dep ps n) i ≤ cAt (dep ps n) k) && covB z (atP ps i)) := by
          exact cnt_up (by omega) _
        have e5 := cnt_succ k fun i => decide (cAt (dep ps n) i ≤ cAt (dep ps n) k) && covB z (atP ps i)
        have e6 : cnt k (fun i => decide (cAt (dep ps n) i < cAt (dep ps n) k) && covB z (atP ps i)) ≤ cnt k (fun i => decide (cAt (dep ps n) i ≤ cAt (dep ps n) k) && covB z (atP ps i)) := cnt_mono fun i _ hi => by
          simp only [Bool.and_eq_true, decide_eq_true_eq] at hi ⊢
          exact ⟨by omega, hi.2⟩
        simp [h1] at e5
        omega
  · rw [cnt_succ, h1]
    have e6 : cnt k (fun i => decide (cAt (dep ps n) i < cAt (dep ps n) k) && covB z (atP ps i)) ≤ cnt k (fun i => covB z (atP ps i)) := cnt_mono fun i _ hi => by
      simp only [Bool.and_eq_true] at hi
      exact hi.2
    simp
    omega
/-- each touches at most two of its layer -/
theorem touch_two {ps : List (Int × Int)} {n : Nat} (hp : ∀ k, (atP ps k).1 ≤ (atP ps k).2) {k : Nat} (hk : k < n) : (cnt n fun j => decide (cAt (dep ps n) j = cAt (dep ps n) k) && (!decide (j = k) && tch (atP ps j) (atP ps k))) ≤ 2 := by
  obtain ⟨z, hz, hz2, _⟩ := priv_ex hp hk
  have one : ∀ (left : Bool) (i j : Nat), i < n → j < n → i ≠ k → j ≠ k → cAt (dep ps n) i = cAt (dep ps n) k → cAt (dep ps n) j = cAt (dep ps n) k → tch (atP ps i) (atP ps k) = true → tch (atP ps j) (atP ps k) = true →
      (if left then (atP ps i).2 < z ∧ (atP ps j).2 < z else z < (atP ps i).1 ∧ z < (atP ps j).1) → i = j := by
    intro left i j hi hj nik njk di dj ti tj hs
    apply Classical.byContradiction
    intro hne
    obtain ⟨p, hp1, hp2, _⟩ := priv_ex hp hi
    obtain ⟨q, hq1, hq2, _⟩ := priv_ex hp hj
    have a1 := hp2 j hj (Ne.symm hne) (by rw [di, dj])
    have a2 := hp2 k hk (Ne.symm nik) (by rw [di])
    have b1 := hq2 i hi hne (by rw [di, dj])
    have b2 := hq2 k hk (Ne.symm njk) (by rw [dj])
    have := hp i
    have := hp j
    have := hp k
    simp only [covB, tch, Bool.and_eq_true, decide_eq_true_eq, Bool.and_eq_false_iff, decide_eq_false_iff_not] at a1 a2 b1 b2 hp1 hq1 ti tj hz
    cases left with
    | true => simp only [if_true] at hs; omega
    | false => simp only [Bool.false_eq_true, if_false] at hs; omega
  refine cnt_two (q := fun j => decide (cAt (dep ps n) j = cAt (dep ps n) k) && (!decide (j = k) && tch (atP ps j) (atP ps k)) && decide ((atP ps j).2 < z)) (r := fun j => decide (cAt (dep ps n) j = cAt (dep ps n) k) && (!decide (j = k) && tch (atP ps j) (atP ps k)) && decide (z < (atP ps j).1)) (fun j hj h => ?_) (cnt_one fun i j hi hj h1 h2 => ?_) (cnt_one fun i j hi hj h1 h2 => ?_)
  · have h' := h
    simp only [Bool.and_eq_true, decide_eq_true_eq, Bool.not_eq_true', decide_eq_false_iff_not] at h'
    have := hz2 j hj h'.2.1 h'.1
    simp only [covB, Bool.and_eq_false_iff, decide_eq_false_iff_not] at this
    rcases this with c | c
    · exact .inr (by simp only [h, Bool.true_and, decide_eq_true_eq]; omega)
    · exact .inl (by simp only [h, Bool.true_and, decide_eq_true_eq]; omega)
  · simp only [Bool.and_eq_true, decide_eq_true_eq, Bool.not_eq_true', decide_eq_false_iff_not] at h1 h2
    exact one true i j hi hj h1.1.2.1 h2.1.2.1 h1.1.1 h2.1.1 h1.1.2.2 h2.1.2.2 (by simp only [if_true]; exact ⟨h1.2, h2.2⟩)
  · simp only [Bool.and_eq_true, decide_eq_true_eq, Bool.not_eq_true', decide_eq_false_iff_not] at h1 h2
    exact one false i j hi hj h1.1.2.1 h2.1.2.1 h1.1.1 h2.1.1 h1.1.2.2 h2.1.2.2 (by simp only [Bool.false_eq_true, if_false]; exact ⟨h1.2, h2.2⟩)
/-- none of the first layer touches another of it -/
theorem touch_one {ps : List (Int × Int)} {n : Nat} (hp : ∀ k, (atP ps k).1 ≤ (atP ps k).2) {j k : Nat} (hj : j < k) (hk : k < n) (d1 : cAt (dep ps n) j = 1) (d2 : cAt (dep ps n) k = 1) : tch (atP ps j) (atP ps k) = false := by
  cases e : tch (atP ps j) (atP ps k) with
  | false => rfl
  | true =>
    exfalso
    obtain ⟨_, _, h3, _⟩ := lay_spec (n := n) hk (hp k)
    have := hp j
    have := hp k
    simp only [tch, Bool.and_eq_true, decide_eq_true_eq] at e
    have key : ∀ z, (atP ps k).1 ≤ z → z ≤ (atP ps k).2 → covB z (atP ps j) = true → False := fun z g1 g2 g3 => by
      have h := h3 z g1 g2
      have := cnt_pos (k := k) (p := fun j => decide (cAt (dep ps n) j ≤ cAt (dep ps n) k) && covB z (atP ps j)) hj (by simp [d1, d2, g3])
      omega
    by_cases c : (atP ps j).1 ≤ (atP ps k).1
    · exact key (atP ps k).1 (by omega) (by omega) (by simp [covB]; omega)
    · exact key (atP ps j).1 (by omega) (by omega) (by simp [covB]; omega)
/-- a layer is at most the load so far -/
theorem dep_load {ps : List (Int × Int)} (hp : ∀ k, (atP ps k).1 ≤ (atP ps k).2) {k : Nat} (hk : k < ps.length) : cAt (dep ps ps.length) k ≤ load (ps.take (k + 1)) := by
  obtain ⟨z, _, _, h⟩ := priv_ex (n := ps.length) hp hk
  have e : over (ps.take (k + 1)) z = cnt (k + 1) fun j => covB z (atP ps j) := by
    rw [over_ix, List.length_take, Nat.min_eq_left (by omega)]
    exact cnt_cong fun j hj => by rw [atP_take ps hj]
  have := over_load (ps.take (k + 1)) z
  omega
/-! ### colours -/
def barsL (ps : List (Int × Int)) (ds hs : List Int) (k : Nat) : List Int := ((List.range k).filter fun j => decide (cAt ds j = cAt ds k) && tch (atP ps j) (atP ps k)).map (cAt hs)
def hueL (ps : List (Int × Int)) (ds : List Int) : Nat → List Int
  | 0 => []
  | k + 1 => hueL ps ds k ++ [if cAt ds k = 1 then 1 else lf (barsL ps ds (hueL ps ds k) k) (3 * cAt ds k - 4)]
theorem hue_len (ps : List (Int × Int)) (ds : List Int) : ∀ k, (hueL ps ds k).length = k
  | 0 => rfl
  | k + 1 => by simp [hueL, hue_len ps ds k]
theorem cAt_app {l : List Int} {x : Int} {j : Nat} (h : j < l.length) : cAt (l ++ [x]) j = cAt l j := by
  simp [cAt, List.getD_eq_getElem?_getD, List.getElem?_append_left h]
theorem cAt_last {l : List Int} {x : Int} {k : Nat} (h : l.length = k) : cAt (l ++ [x]) k = x := by
  subst h; simp [cAt, List.getD_eq_getElem?_getD]
theorem hue_at (ps : List (Int × Int)) (ds : List Int) : ∀ (k n : Nat), k < n → cAt (hueL ps ds n) k = if cAt ds k = 1 then 1 else lf (barsL ps ds (hueL ps ds k) k) (3 * cAt ds k - 4)
  | k, 0, h => by omega
  | k, n + 1, h => by
    by_cases c : k < n
    · rw [← hue_at ps ds k n c, hueL, cAt_app (by rw [hue_len]; exact c)]
    · have e : k = n := by omega
      subst e
      rw [hueL, cAt_last (hue_len ps ds k)]
theorem hue_pre (ps : List (Int × Int)) (ds : List Int) {k n j : Nat} (hj : j < k) (hk : k ≤ n) : cAt (hueL ps ds k) j = cAt (hueL ps ds n) j := by
  rw [hue_at ps ds j k hj, hue_at ps ds j n (by omega)]
theorem lf_up (bs : List Int) (c : Int) : lf bs c ≤ c + bs.length := by
  obtain ⟨_, h2, h3⟩ := lf_spec bs c
  have := sup_len (lf bs c - c).toNat (bs.map fun x => x - c + 1) (fun x h1 h4 => List.mem_map.mpr ⟨x + c - 1, h3 _ (by omega) (by omega), by omega⟩)
  simp at this
  omega
theorem hue_rng {ps : List (Int × Int)} {n : Nat} (hp : ∀ k, (atP ps k).1 ≤ (atP ps k).2) {k : Nat} (hk : k < n) : (cAt (dep ps n) k = 1 ∧ cAt (hueL ps (dep ps n) n) k = 1) ∨ (2 ≤ cAt (dep ps n) k ∧ 3 * cAt (dep ps n) k - 4 ≤ cAt (hueL ps (dep ps n) n) k ∧ cAt (hueL ps (dep ps n) n) k ≤ 3 * cAt (dep ps n) k - 2) := by
  obtain ⟨h1, _, _, _⟩ := lay_spec (n := n) hk (hp k)
  rw [hue_at ps _ k n hk]
  by_cases c : cAt (dep ps n) k = 1
  · exact .inl ⟨c, by rw [if_pos c]⟩
  · rw [if_neg c]
    refine .inr ⟨by omega, (lf_spec _ _).2.1, ?_⟩
    have h2 := lf_up (barsL ps (dep ps n) (hueL ps (dep ps n) k) k) (3 * cAt (dep ps n) k - 4)
    have h3 : (barsL ps (dep ps n) (hueL ps (dep ps n) k) k).length ≤ 2 := by
      unfold barsL
      rw [List.length_map]
      refine Nat.le_trans ?_ (touch_two (n := n) hp hk)
      refine Nat.le_trans ?_ (cnt_up (show k ≤ n by omega) _)
      exact cnt_mono fun j hj h => by
        simp only [Bool.and_eq_true, decide_eq_true_eq] at h ⊢
        exact ⟨h.1, by simp; omega, h.2⟩
    omega
theorem hue_right {ps : List (Int × Int)} (hp : ∀ k, (atP ps k).1 ≤ (atP ps k).2) : rightC ps (hueL ps (dep ps ps.length) ps.length) = true := by
  unfold rightC clsK
  rw [List.all_eq_true]
  intro k hk
  have hk := List.mem_range.mp hk
  rw [Bool.not_eq_true', ← Bool.not_eq_true]
  intro h
  obtain ⟨j, hj, h⟩ := List.any_eq_true.mp h
  have hj := List.mem_range.mp hj
  simp only [cls, Bool.and_eq_true, decide_eq_true_eq] at h
  obtain ⟨he, ht⟩ := h
  have r1 := hue_rng (n := ps.length) hp hk
  have r2 := hue_rng (n := ps.length) hp (show j < ps.length by omega)
  by_cases c : cAt (dep ps ps.length) j = cAt (dep ps ps.length) k
  · by_cases c1 : cAt (dep ps ps.length) k = 1
    · rw [touch_one hp hj hk (by omega) c1] at ht; cases ht
    · have e := hue_at ps (dep ps ps.length) k ps.length hk
      rw [if_neg c1] at e
      have n1 := (lf_spec (barsL ps (dep ps ps.length) (hueL ps (dep ps ps.length) k) k) (3 * cAt (dep ps ps.length) k - 4)).1
      rw [← e] at n1
      apply n1
      unfold barsL
      refine List.mem_map.mpr ⟨j, List.mem_filter.mpr ⟨List.mem_range.mpr hj, by simp [c, ht]⟩, ?_⟩
      rw [hue_pre ps _ hj (show k ≤ ps.length by omega)]
      exact he
  · omega
end Gk07
end
section
set_option maxRecDepth 100000
set_option maxHeartbeats 1000000
namespace Gk07
open PySem PySem.Spec PyProof.Rows L2 DL
variable [tb : Tb]
theorem covers_eq (x y z : Int) : f_covers [.val (st x y), .val (.int z)] = .ok (.val (.bl (covB z (x, y)))) [.val (st x y), .val (.int z)] := f_covers_eq x y z
theorem pts_len (qs : List (Int × Int)) (x y : Int) : (pts qs x y).length ≤ qs.length + 1 := by
  have := List.length_filter_le (fun q : Int × Int => decide (x ≤ q.1) && decide (q.1 ≤ y)) qs
  simp only [pts, List.length_cons, List.length_map]
  omega
theorem f_points_of_eq (qs : List (Int × Int)) (x y : Int) (hl : qs.length ≤ 80) : f_points_of [.val (.lst (row qs)), .val (st x y)] = .ok (.lst ((pts qs x y).map D.int)) [.val (.lst (row qs)), .val (st x y)] := by
  have hz := hundred
  have e := compL_gen (tg := .nm 2) (vs := [2]) (test := tst (dCall f_covers [.v, .v] (dCons (dVar 1) (dCons (op2 hIx (dVar 2) (dC (.int 0))) dNil)))) (elt := op2 hIx (dVar 2) (dC (.int 0))) (env := [.own (.val (.lst (row qs))), .own (.val (st x y)), .un])
    (fun q : Int × Int => st q.1 q.2) (fun q => .int q.1) (fun q => decide (x ≤ q.1) && decide (q.1 ≤ y)) (fun q => [.own (.val (.lst (row qs))), .own (.val (st x y)), .own (.val (st q.1 q.2))]) (fun q => rfl) (xs := qs) (acc := [])
    (fun q hq => by
      have h1 := covers_eq x y q.1
      simp only [covB] at h1
      simp only [st] at h1
      exact ⟨by simp, by simp [st, h1], fun _ => ⟨.val (.int q.1), by simp [st], rfl⟩⟩)
    (by simp; omega)
  have z1 : 1 ≤ sizeLine := sz (by omega)
  have hp := pts_len qs x y
  have z2 : 1 + ((qs.filter fun q => decide (x ≤ q.1) && decide (q.1 ≤ y)).map fun q => D.int q.1).length ≤ sizeLine := by
    have : (pts qs x y).length = 1 + ((qs.filter fun q => decide (x ≤ q.1) && decide (q.1 ≤ y)).map fun q => D.int q.1).length := by simp [pts]; omega
    omega
  simp only [List.nil_append] at e
  have e' : compL (.nm 2) [2] (tst (dCall f_covers [.v, .v] (dCons (dVar 1) (dCons (op2 hIx (dVar 2) (dC (.int 0))) dNil)))) (op2 hIx (dVar 2) (dC (.int 0))) (row qs) [] [.own (.val (.lst (row qs))), .own (.val (st x y)), .un] = _ := e
  have e3 : (pts qs x y).map D.int = .int x :: (qs.filter fun q => decide (x ≤ q.1) && decide (q.1 ≤ y)).map fun q => D.int q.1 := by simp [pts]
  rw [e3]
  generalize ((qs.filter fun q => decide (x ≤ q.1) && decide (q.1 ≤ y)).map fun q => D.int q.1) = cs at *
  simp only [st] at e'
  have z2' : cs.length + 1 ≤ sizeLine := by omega
  simp [f_points_of, b_points_of, st, e', z1, z2, z2']
/-- zip of rows and numbers -/
def zipD (ps : List (Int × Int)) (ds : List Int) (k : Nat) : List D := (List.range k).map fun j => .tup [st (atP ps j).1 (atP ps j).2, .int (cAt ds j)]
theorem row_ix (ps : List (Int × Int)) : row ps = (List.range ps.length).map fun j => st (atP ps j).1 (atP ps j).2 := by
  conv => lhs; rw [← map_atP ps]
  simp [row]
theorem cs_ix (cs : List Int) : cs.map D.int = (List.range cs.length).map fun j => D.int (cAt cs j) := by
  apply List.ext_getElem
  · simp
  · intro i h1 h2
    simp only [List.length_map] at h1
    simp [cAt, List.getD_eq_getElem?_getD, h1]
theorem zip_ix {ps : List (Int × Int)} {ds : List Int} (h : ps.length = ds.length) : List.zipWith (fun x y => D.tup [x, y]) (row ps) (ds.map D.int) = zipD ps ds ps.length := by
  rw [row_ix, cs_ix, ← h, List.zipWith_map, List.zipWith_self]
  rfl
theorem pick_row (t : Int → Bool) (ps : List (Int × Int)) (ds : List Int) (k : Nat) : ((List.range k).filter fun j => t (cAt ds j)).map (fun j => st (atP ps j).1 (atP ps j).2) = row (pickI t ps ds k) := by
  simp [pickI, row]
noncomputable def nlLow : M R := (dComp (dZip (dCons (dVar 0) (dCons (dVar 1) dNil))) (.tp [(.nm 5), (.nm 6)]) [5, 6] (tst (op2 hLe (dVar 6) (dVar 3))) (dVar 5))
noncomputable def nlMax : M R := (dB (overInts gMax) (dCons (dComp (dSeqA (dCall f_points_of [.v, .v] (dCons (dVar 4) (dCons (dVar 2) dNil)))) (.nm 7) [7] tTrue (dCall f_load_over [.v, .v] (dCons (dVar 4) (dCons (dVar 7) dNil)))) dNil))
def NlE (qs : List (Int × Int)) (ds : List Int) (x y L : Int) (s4 : Slot) : DEnv := [.own (.val (.lst (row qs))), .own (.val (cl ds)), .own (.val (st x y)), .own (.val (.int L)), s4, .un, .un, .un]
theorem nlLow_eq {qs : List (Int × Int)} {ds : List Int} (h : qs.length = ds.length) (hl : qs.length ≤ 80) (x y L : Int) (s4 : Slot) : nlLow (NlE qs ds x y L s4) = .ok (.own (.lst (row (pickI (fun d => decide (d ≤ L)) qs ds qs.length)))) (NlE qs ds x y L s4) := by
  have hz := hundred
  have e := compL_gen (tg := .tp [(.nm 5), (.nm 6)]) (vs := [5, 6]) (test := tst (op2 hLe (dVar 6) (dVar 3))) (elt := dVar 5) (env := NlE qs ds x y L s4)
    (fun j : Nat => .tup [st (atP qs j).1 (atP qs j).2, .int (cAt ds j)]) (fun j => st (atP qs j).1 (atP qs j).2) (fun j => decide (cAt ds j ≤ L)) (fun j => [.own (.val (.lst (row qs))), .own (.val (cl ds)), .own (.val (st x y)), .own (.val (.int L)), s4, .own (.val (st (atP qs j).1 (atP qs j).2)), .own (.val (.int (cAt ds j))), .un]) (fun q => rfl) (xs := List.range qs.length) (acc := [])
    (fun q hq => ⟨by simp [NlE], by simp, fun _ => ⟨.val (st (atP qs q).1 (atP qs q).2), by simp, rfl⟩⟩)
    (by simp; omega)
  simp only [List.nil_append] at e
  rw [pick_row (fun d => decide (d ≤ L))] at e
  have ez : dZip (dCons (dVar 0) (dCons (dVar 1) dNil)) (NlE qs ds x y L s4) = .ok (zipD qs ds qs.length) (NlE qs ds x y L s4) := by
    have h1 : (row qs).length = (ds.map D.int).length := by simp [row, h]
    simp [NlE, cl, h1, zip_ix h]
  unfold nlLow
  rw [ev_comp, ez, ev_bok]
  show (compL _ _ _ _ _ _ (NlE qs ds x y L s4)).bind _ = _
  rw [zipD, e, ev_bok]
  rfl
theorem nlMax_eq {qs : List (Int × Int)} {rs : List (Int × Int)} {ds : List Int} (hl : qs.length ≤ 80) (x y L : Int) : nlMax (NlE rs ds x y L (.own (.val (.lst (row qs))))) = .ok (.val (.int (under qs x y))) (NlE rs ds x y L (.own (.val (.lst (row qs))))) := by
  have hz := hundred
  have hp := pts_len qs x y
  have e1 := f_points_of_eq qs x y hl
  have e := compL_mapx (i := 7) (elt := dCall f_load_over [.v, .v] (dCons (dVar 4) (dCons (dVar 7) dNil))) (env := NlE rs ds x y L (.own (.val (.lst (row qs))))) (fun z : Int => D.int z) (fun z => .int (over qs z : Nat)) rfl (xs := pts qs x y) (acc := [])
    (fun z hz => by
      have e2 := f_load_over_eq qs z (by omega)
      exact ⟨.val (.int (over qs z : Nat)), by simp [NlE, e2], rfl⟩) (by simp; omega)
  simp only [List.nil_append] at e
  have e3 : overInts gMax [.lst ((pts qs x y).map fun z => .int (over qs z : Nat))] = some (.val (.int (under qs x y))) := by
    have h4 : D.ints ((pts qs x y).map fun z => .int (over qs z : Nat)) = some ((pts qs x y).map fun z => (over qs z : Int)) := by
      have := D.ints_map ((pts qs x y).map fun z => (over qs z : Int))
      simpa [List.map_map, Function.comp_def] using this
    simp only [overInts, h4, gMax, under]
    simp [pts]
  have es : dSeqA (dCall f_points_of [.v, .v] (dCons (dVar 4) (dCons (dVar 2) dNil))) (NlE rs ds x y L (.own (.val (.lst (row qs))))) = .ok ((pts qs x y).map D.int) (NlE rs ds x y L (.own (.val (.lst (row qs))))) := by
    simp [NlE, e1]
  have ec : dComp (dSeqA (dCall f_points_of [.v, .v] (dCons (dVar 4) (dCons (dVar 2) dNil)))) (.nm 7) [7] tTrue (dCall f_load_over [.v, .v] (dCons (dVar 4) (dCons (dVar 7) dNil))) (NlE rs ds x y L (.own (.val (.lst (row qs))))) = .ok (.own (.lst ((pts qs x y).map fun z => .int (over qs z : Nat)))) (NlE rs ds x y L (.own (.val (.lst (row qs))))) := by
    rw [ev_comp, es, ev_bok]
    show (compL _ _ _ _ _ _ (NlE rs ds x y L (.own (.val (.lst (row qs)))))).bind _ = _
    rw [e, ev_bok]
    rfl
  unfold nlMax
  rw [ev_b, ev_cons, ec, ev_bok, ev_nil, ev_bok, ev_bok]
  simp [e3]
end Gk07
end
section
set_option maxRecDepth 100000
set_option maxHeartbeats 1000000
namespace Gk07
open PySem PySem.Spec PyProof.Rows L2 DL
variable [tb : Tb]
/-- a loop over the numbers below n, with what holds ahead of each turn -/
theorem forL_rg {tg : Tgt} {B : M DL.Flow} (h : Nat → D) (P : Nat → DEnv → Prop) : ∀ (n k0 : Nat) (env : DEnv), P k0 env → (∀ k, k0 ≤ k → k < k0 + n → ∀ env, P k env → ∃ F E2, asg tg (h k) env = some F ∧ B F = .ok .nx E2 ∧ P (k + 1) E2) →
    ∃ E, forL tg B ((List.range' k0 n).map h) env = .ok .nx E ∧ P (k0 + n) E
  | 0, k0, env, hp, _ => ⟨env, rfl, hp⟩
  | n + 1, k0, env, hp, st => by
    obtain ⟨F, E2, h1, h2, h3⟩ := st k0 (Nat.le_refl _) (by omega) env hp
    obtain ⟨E, h4, h5⟩ := forL_rg h P n (k0 + 1) E2 h3 fun k g1 g2 => st k (by omega) (by omega)
    refine ⟨E, ?_, by rw [show k0 + (n + 1) = k0 + 1 + n by omega]; exact h5⟩
    rw [List.range'_succ, List.map_cons]
    exact for_cons h1 h2 h4
theorem forL_r {tg : Tgt} {B : M DL.Flow} (h : Nat → D) (P : Nat → DEnv → Prop) (n : Nat) (env : DEnv) (hp : P 0 env) (st : ∀ k, k < n → ∀ env, P k env → ∃ F E2, asg tg (h k) env = some F ∧ B F = .ok .nx E2 ∧ P (k + 1) E2) :
    ∃ E, forL tg B ((List.range n).map h) env = .ok .nx E ∧ P n E := by
  have := forL_rg h P n 0 env hp fun k _ hk => st k (by omega)
  rwa [Nat.zero_add, ← List.range_eq_range'] at this
theorem for_eq {it : M (List D)} {tg : Tgt} {B : M DL.Flow} {E E' : DEnv} {ds : List D} {r : Res DL.Flow} (h1 : it E = .ok ds E') (h2 : forL tg B ds E' = r) : sFor it tg B E = r := by
  rw [ev_for, h1, ev_bok]; exact h2
noncomputable def nlB : M DL.Flow := (sSeq (sSet .frz 4 nlLow)
  (sSeq (sIf (tst (op2 hLt nlMax (dVar 3)))
  (sRet (dVar 3))
  sNx)
  (sSet .frz 3 (op2 hInc (dVar 3) (dC (.int 1))))))
def tNl (qs : List (Int × Int)) (ds : List Int) (x y : Int) (L : Int) : Bool := decide (L ≤ under (pickI (fun d => decide (d ≤ L)) qs ds qs.length) x y)
theorem nlB_eq {qs : List (Int × Int)} {ds : List Int} (h : qs.length = ds.length) (hl : qs.length ≤ 80) (x y L : Int) {s4 : Slot} (h4 : NP s4) :
    ∃ s, NP s ∧ nlB (NlE qs ds x y L s4) = if tNl qs ds x y L = true then .ok .nx (NlE qs ds x y (L + 1) s) else .ok (.ret (.val (.int L))) (NlE qs ds x y L s) := by
  have f4 : ∀ env, free (s4 :: env) 0 = true := fun env => np0 h4
  have e1 := nlLow_eq h hl x y L s4
  have e2 := nlMax_eq (qs := pickI (fun d => decide (d ≤ L)) qs ds qs.length) (rs := qs) (ds := ds) (Nat.le_trans (pick_len _ _ _ _) hl) x y L
  refine ⟨.own (.val (.lst (row (pickI (fun d => decide (d ≤ L)) qs ds qs.length)))), NP.val, ?_⟩
  have s1 : (sSet .frz 4 nlLow) (NlE qs ds x y L s4) = .ok .nx (NlE qs ds x y L (.own (.val (.lst (row (pickI (fun d => decide (d ≤ L)) qs ds qs.length)))))) := by
    rw [ev_set, e1, ev_bok]
    simp [NlE, -ev_fr0, f4]
  unfold nlB
  rw [ev_seq, s1, ev_bok]
  show sSeq _ _ _ = _
  rw [ev_seq, ev_if, ev_tst, ev_op2, e2, ev_bok]
  by_cases c : tNl qs ds x y L = true
  · rw [if_pos c]
    have c' : ¬ (under (pickI (fun d => decide (d ≤ L)) qs ds qs.length) x y < L) := by
      have := of_decide_eq_true c
      omega
    simp [NlE, c']
  · rw [if_neg c]
    have c' : under (pickI (fun d => decide (d ≤ L)) qs ds qs.length) x y < L := by
      have := of_decide_eq_false (by simpa [tNl] using c : decide (L ≤ under (pickI (fun d => decide (d ≤ L)) qs ds qs.length) x y) = false)
      omega
    simp [NlE, c']
theorem nl_loop {qs : List (Int × Int)} {ds : List Int} (h : qs.length = ds.length) (hl : qs.length ≤ 80) (x y : Int) : ∀ (f n : Nat) (L : Int) (s4 : Slot), NP s4 → f < n → tNl qs ds x y (L + f) = false →
    ∃ s L2, whL (tst (dC (.bl true))) nlB n (NlE qs ds x y L s4) = .ok (.ret (.val (.int (look (tNl qs ds x y) f L)))) (NlE qs ds x y L2 s)
  | f, 0, L, s4, _, hn, _ => by omega
  | 0, n + 1, L, s4, h4, _, ht => by
    obtain ⟨s, _, e⟩ := nlB_eq h hl x y L h4
    have ht : tNl qs ds x y L = false := by simpa using ht
    rw [ht] at e
    refine ⟨s, L, ?_⟩
    simp only [Bool.false_eq_true, if_false] at e
    simp [whL, e, look]
  | f + 1, n + 1, L, s4, h4, hn, ht => by
    obtain ⟨s, hs, e⟩ := nlB_eq h hl x y L h4
    by_cases c : tNl qs ds x y L = true
    · rw [if_pos c] at e
      obtain ⟨s2, L2, e2⟩ := nl_loop h hl x y f n (L + 1) s hs (by omega) (by rw [← ht]; congr 1; omega)
      refine ⟨s2, L2, ?_⟩
      simp [whL, e, look, c, e2]
    · rw [if_neg c] at e
      refine ⟨s, L, ?_⟩
      simp [whL, e, look, c]
theorem b_nl : b_next_layer = sSeq (sSet .frz 3 (dC (.int 1))) (whL (tst (dC (.bl true))) nlB 100) := rfl
theorem f_next_layer_eq {qs : List (Int × Int)} {ds : List Int} (h : qs.length = ds.length) (hl : qs.length ≤ 80) {x y : Int} (hxy : x ≤ y) : f_next_layer [.val (.lst (row qs)), .val (cl ds), .val (st x y)] = .ok (.val (.int (look (tNl qs ds x y) qs.length 1))) [.val (.lst (row qs)), .val (cl ds), .val (st x y)] := by
  have term : tNl qs ds x y (1 + (qs.length : Nat)) = false := by
    cases e : tNl qs ds x y (1 + (qs.length : Nat)) with
    | false => rfl
    | true =>
      obtain ⟨z, _, _, h⟩ := (under_ge hxy _).mp (of_decide_eq_true e)
      rw [over_pick] at h
      have := cnt_le qs.length fun j => decide (cAt ds j ≤ 1 + (qs.length : Int)) && covB z (atP qs j)
      omega
  obtain ⟨s, L2, e⟩ := nl_loop h hl x y qs.length 100 1 .un NP.un (by omega) term
  unfold f_next_layer
  rw [ev_mk, b_nl]
  have s1 : sSet .frz 3 (dC (.int 1)) (initE [.val (.lst (row qs)), .val (cl ds), .val (st x y)] 5) = .ok .nx (NlE qs ds x y 1 .un) := by
    simp [NlE]
  rw [seq_nx s1 e]
  rfl
theorem pick_take (t : Int → Bool) (ps : List (Int × Int)) (ds : List Int) (k : Nat) : pickI t (ps.take k) ds k = pickI t ps ds k := by
  unfold pickI
  apply List.map_congr_left
  intro j hj
  exact atP_take ps (List.mem_range.mp (List.mem_filter.mp hj).1)
theorem tNl_take {ps : List (Int × Int)} {k : Nat} (hk : k ≤ ps.length) (ds : List Int) (x y : Int) : tNl (ps.take k) ds x y = fullB ps ds k x y := by
  funext L
  unfold tNl fullB
  rw [List.length_take, Nat.min_eq_left hk, pick_take]
theorem atP_ok {ps : List (Int × Int)} (hr : RowOk ps) (k : Nat) : (atP ps k).1 ≤ (atP ps k).2 := by
  by_cases h : k < ps.length
  · exact (hr.2 _ (atP_mem h)).2.1
  · simp [atP, List.getD_eq_getElem?_getD, List.getElem?_eq_none (show ps.length ≤ k by omega)]
noncomputable def dpB : M DL.Flow := (sExpr (dMutL 1 gApp (dCons (dCall f_next_layer [.v, .v, .v] (dCons (dSl (dVar 0) dNoPart (dPart (dVar 2))) (dCons (dVar 1) (dCons (dVar 3) dNil)))) dNil)))
theorem b_dp : b_depths_of = sSeq (sSet .keep 1 (dLst dNil)) (sSeq (sFor (dEnum (dVar 0)) (.tp [(.nm 2), (.nm 3)]) dpB) (sRet (dVar 1))) := rfl
theorem f_depths_of_eq {ps : List (Int × Int)} (hr : RowOk ps) : f_depths_of [.val (.lst (row ps))] = .ok (.lst ((dep ps ps.length).map D.int)) [.val (.lst (row ps))] := by
  have hz := hundred
  have hl := hr.1
  have z0 : 0 ≤ sizeLine := sz (by omega)
  obtain ⟨E, e, s2, s3, rfl, _, _⟩ := forL_r (tg := .tp [(.nm 2), (.nm 3)]) (B := dpB) (fun i : Nat => .tup [.int (i : Nat), st (atP ps i).1 (atP ps i).2]) (fun k env => ∃ s2 s3, env = [.own (.val (.lst (row ps))), .own (.lst ((dep ps k).map D.int)), s2, s3] ∧ NP s2 ∧ NP s3) ps.length [.own (.val (.lst (row ps))), .own (.lst []), .un, .un] ⟨.un, .un, rfl, NP.un, NP.un⟩ (fun k hk env hp => by
    obtain ⟨s2, s3, rfl, h2, h3⟩ := hp
    have f2 : ∀ env, free (s2 :: env) 0 = true := fun env => np0 h2
    have f3 : ∀ env, free (s3 :: env) 0 = true := fun env => np0 h3
    refine ⟨[.own (.val (.lst (row ps))), .own (.lst ((dep ps k).map D.int)), .own (.val (.int (k : Nat))), .own (.val (st (atP ps k).1 (atP ps k).2))], _, by simp [-ev_fr0, f2, f3], ?_, .own (.val (.int (k : Nat))), .own (.val (st (atP ps k).1 (atP ps k).2)), rfl, NP.val, NP.val⟩
    have e1 := f_next_layer_eq (qs := ps.take k) (ds := dep ps k) (by rw [dep_len, List.length_take]; omega) (by rw [List.length_take]; omega) (atP_ok hr k)
    rw [tNl_take (by omega), List.length_take, Nat.min_eq_left (by omega)] at e1
    have e2 := cut_row ps (k := k) (by omega)
    have e3 : (dep ps (k + 1)).map D.int = (dep ps k).map D.int ++ [.int (lay ps (dep ps k) k)] := by simp [dep]
    have l1 : ((dep ps k).map D.int).length < sizeLine := by rw [List.length_map, dep_len]; omega
    rw [e3]
    simp only [cl] at e1
    change f_next_layer _ = .ok (.val (.int (lay ps (dep ps k) k))) _ at e1
    have l2 : (dep ps k).length < sizeLine := by rw [dep_len]; omega
    simp [dpB, e1, e2, l2])
  have s1 : sSet .keep 1 (dLst dNil) (initE [.val (.lst (row ps))] 3) = .ok .nx [.own (.val (.lst (row ps))), .own (.lst []), .un, .un] := by simp [z0]
  have s2' := for_eq (it := dEnum (dVar 0)) (show dEnum (dVar 0) [.own (.val (.lst (row ps))), .own (.lst []), .un, .un] = .ok ((List.range ps.length).map fun i => .tup [.int (i : Nat), st (atP ps i).1 (atP ps i).2]) [.own (.val (.lst (row ps))), .own (.lst []), .un, .un] by simp [enum_row]) e
  have s3' : sRet (dVar 1) [.own (.val (.lst (row ps))), .own (.lst ((dep ps ps.length).map D.int)), s2, s3] = .ok (.ret (.bor 1)) [.own (.val (.lst (row ps))), .own (.lst ((dep ps ps.length).map D.int)), s2, s3] := rfl
  unfold f_depths_of
  rw [ev_mk, b_dp, seq_nx s1 (seq_nx s2' s3')]
  rfl
theorem f_layers_eq {ps : List (Int × Int)} (hr : RowOk ps) : f_layers [.val (.lst (row ps))] = .ok (.lst ((dep ps ps.length).map D.int)) [.val (.lst (row ps))] := by
  have e1 := f_check_row_eq _ hr.plain hr.good
  have e2 := f_depths_of_eq hr
  simp [f_layers, b_layers, e1, e2]
end Gk07
end
section
set_option maxRecDepth 100000
set_option maxHeartbeats 1000000
namespace Gk07
open PySem PySem.Spec PyProof.Rows L2 DL
variable [tb : Tb]
theorem mk_ret {n : Nat} {b : M DL.Flow} {os : List O} {E E2 : DEnv} {r : R} {q : RF} (h0 : initE os n = E) (h1 : b E = .ok (.ret r) E2) (h2 : finFn os (.ok (.ret r) E2) = q) : mkFn n b os = q := by
  rw [ev_mk, h0, h1]; exact h2
theorem enum_cs (ds : List Int) : (ds.map D.int).mapIdx (fun i d => D.tup [.int (i : Nat), d]) = (List.range ds.length).map fun i => .tup [.int (i : Nat), .int (cAt ds i)] := by
  apply List.ext_getElem
  · simp
  · intro i h1 h2
    simp only [List.length_mapIdx, List.length_map] at h1
    simp [h1, cAt, List.getD_eq_getElem?_getD]
theorem any_map {α : Type} (t : α → Bool) (ds : List α) : hAny [.lst (ds.map fun d => .bl (t d))] = some (.val (.bl (ds.any t))) := by
  have := ev_any (ns := ds.map t)
  simpa [List.map_map, Function.comp_def, List.any_map] using this
noncomputable def lfA : M DL.Flow := (sSet .frz 4 (dComp (dEnum (dVar 1)) (.tp [(.nm 5), (.nm 6)]) [5, 6] (tst (op2 hLe (dVar 6) (dVar 2))) (op2 hIx (dVar 0) (dVar 5))))
noncomputable def lfB : M R := (dB hAny (dCons (dComp (dSeqA (dVar 3)) (.nm 7) [7] tTrue (op2 hGe (dCall f__law_over [.v, .v] (dCons (dVar 4) (dCons (dVar 7) dNil))) (dVar 2))) dNil))
theorem b_lfull : b__law_is_full = sSeq lfA (sRet lfB) := rfl
def anyF (qs : List (Int × Int)) (L : Int) (zs : List Int) : Bool := zs.any fun z => decide (L ≤ (over qs z : Int))
theorem f_law_is_full_eq {ps : List (Int × Int)} {ds : List Int} (hd : ds.length ≤ ps.length) (hl : ps.length ≤ 80) (L : Int) {zs : List Int} (hz : zs.length ≤ 100) : f__law_is_full [.val (.lst (row ps)), .val (cl ds), .val (.int L), .val (.lst (zs.map D.int))] = .ok (.val (.bl (anyF (pickI (fun d => decide (d ≤ L)) ps ds ds.length) L zs))) [.val (.lst (row ps)), .val (cl ds), .val (.int L), .val (.lst (zs.map D.int))] := by
  have hu := hundred
  obtain ⟨qs, hqs⟩ : ∃ qs, qs = pickI (fun d => decide (d ≤ L)) ps ds ds.length := ⟨_, rfl⟩
  have e := compL_gen (tg := .tp [(.nm 5), (.nm 6)]) (vs := [5, 6]) (test := tst (op2 hLe (dVar 6) (dVar 2))) (elt := op2 hIx (dVar 0) (dVar 5)) (env := [.own (.val (.lst (row ps))), .own (.val (cl ds)), .own (.val (.int L)), .own (.val (.lst (zs.map D.int))), .un, .un, .un, .un])
    (fun j : Nat => .tup [.int (j : Nat), .int (cAt ds j)]) (fun j => st (atP ps j).1 (atP ps j).2) (fun j => decide (cAt ds j ≤ L)) (fun j => [.own (.val (.lst (row ps))), .own (.val (cl ds)), .own (.val (.int L)), .own (.val (.lst (zs.map D.int))), .un, .own (.val (.int (j : Nat))), .own (.val (.int (cAt ds j))), .un]) (fun q => rfl) (xs := List.range ds.length) (acc := [])
    (fun q hq => by
      have := List.mem_range.mp hq
      exact ⟨by simp, by simp, fun _ => ⟨.val (st (atP ps q).1 (atP ps q).2), by simp [at_row (show q < ps.length by omega)], rfl⟩⟩)
    (by simp; omega)
  simp only [List.nil_append] at e
  rw [pick_row (fun d => decide (d ≤ L)), ← hqs] at e
  have ql : qs.length ≤ 80 := by rw [hqs]; exact Nat.le_trans (pick_len _ _ _ _) (by omega)
  have s1 : lfA [.own (.val (.lst (row ps))), .own (.val (cl ds)), .own (.val (.int L)), .own (.val (.lst (zs.map D.int))), .un, .un, .un, .un] = .ok .nx [.own (.val (.lst (row ps))), .own (.val (cl ds)), .own (.val (.int L)), .own (.val (.lst (zs.map D.int))), .own (.val (.lst (row qs))), .un, .un, .un] := by
    unfold lfA
    rw [ev_set, ev_comp, show dEnum (dVar 1) [.own (.val (.lst (row ps))), .own (.val (cl ds)), .own (.val (.int L)), .own (.val (.lst (zs.map D.int))), .un, .un, .un, .un] = .ok ((List.range ds.length).map fun i => .tup [.int (i : Nat), .int (cAt ds i)]) [.own (.val (.lst (row ps))), .own (.val (cl ds)), .own (.val (.int L)), .own (.val (.lst (zs.map D.int))), .un, .un, .un, .un] by simp [cl, enum_cs], ev_bok]
    show ((compL _ _ _ _ _ _ [.own (.val (.lst (row ps))), .own (.val (cl ds)), .own (.val (.int L)), .own (.val (.lst (zs.map D.int))), .un, .un, .un, .un]).bind _).bind _ = _
    rw [e, ev_bok, ev_bok]
    rfl
  have e2 := compL_mapx (i := 7) (elt := op2 hGe (dCall f__law_over [.v, .v] (dCons (dVar 4) (dCons (dVar 7) dNil))) (dVar 2)) (env := [.own (.val (.lst (row ps))), .own (.val (cl ds)), .own (.val (.int L)), .own (.val (.lst (zs.map D.int))), .own (.val (.lst (row qs))), .un, .un, .un]) (fun z : Int => D.int z) (fun z => .bl (decide (L ≤ (over qs z : Int)))) rfl (xs := zs) (acc := [])
    (fun z hz => by
      have e2 := f_law_over_eq qs z (by omega)
      exact ⟨.val (.bl (decide (L ≤ (over qs z : Int)))), by simp [e2], rfl⟩) (by simp; omega)
  simp only [List.nil_append] at e2
  have s2 : lfB [.own (.val (.lst (row ps))), .own (.val (cl ds)), .own (.val (.int L)), .own (.val (.lst (zs.map D.int))), .own (.val (.lst (row qs))), .un, .un, .un] = .ok (.val (.bl (anyF qs L zs))) [.own (.val (.lst (row ps))), .own (.val (cl ds)), .own (.val (.int L)), .own (.val (.lst (zs.map D.int))), .own (.val (.lst (row qs))), .un, .un, .un] := by
    have ec : (dComp (dSeqA (dVar 3)) (.nm 7) [7] tTrue (op2 hGe (dCall f__law_over [.v, .v] (dCons (dVar 4) (dCons (dVar 7) dNil))) (dVar 2))) [.own (.val (.lst (row ps))), .own (.val (cl ds)), .own (.val (.int L)), .own (.val (.lst (zs.map D.int))), .own (.val (.lst (row qs))), .un, .un, .un] = .ok (.own (.lst (zs.map fun z => .bl (decide (L ≤ (over qs z : Int)))))) [.own (.val (.lst (row ps))), .own (.val (cl ds)), .own (.val (.int L)), .own (.val (.lst (zs.map D.int))), .own (.val (.lst (row qs))), .un, .un, .un] := by
      rw [ev_comp, show dSeqA (dVar 3) [.own (.val (.lst (row ps))), .own (.val (cl ds)), .own (.val (.int L)), .own (.val (.lst (zs.map D.int))), .own (.val (.lst (row qs))), .un, .un, .un] = .ok (zs.map D.int) [.own (.val (.lst (row ps))), .own (.val (cl ds)), .own (.val (.int L)), .own (.val (.lst (zs.map D.int))), .own (.val (.lst (row qs))), .un, .un, .un] by simp, ev_bok]
      show (compL _ _ _ _ _ _ [.own (.val (.lst (row ps))), .own (.val (cl ds)), .own (.val (.int L)), .own (.val (.lst (zs.map D.int))), .own (.val (.lst (row qs))), .un, .un, .un]).bind _ = _
      rw [e2, ev_bok]
      rfl
    have e3 := any_map (fun z : Int => decide (L ≤ (over qs z : Int))) zs
    unfold lfB
    rw [ev_b, ev_cons, ec, ev_bok, ev_nil, ev_bok, ev_bok]
    simp [e3, anyF]
  rw [← hqs]
  exact mk_ret rfl (by rw [b_lfull]; exact seq_nx s1 (by rw [ev_ret, s2]; rfl)) rfl
end Gk07
end
section
set_option maxRecDepth 100000
set_option maxHeartbeats 1000000
namespace Gk07
open PySem PySem.Spec PyProof.Rows L2 DL
variable [tb : Tb]
theorem wh_look {t : Int → Bool} {T : M Bool} {B : M DL.Flow} {E : Int → DEnv} (hT : ∀ c, T (E c) = .ok (t c) (E c)) (hB : ∀ c, B (E c) = .ok .nx (E (c + 1))) : ∀ (f n : Nat) (c : Int), f < n → t (c + f) = false → whL T B n (E c) = .ok .nx (E (look t f c))
  | f, 0, c, h, _ => by omega
  | 0, n + 1, c, _, h => by
    have h : t c = false := by simpa using h
    simp [whL, hT, h, Res.bind, look]
  | f + 1, n + 1, c, hn, h => by
    by_cases hc : t c = true
    · have ih := wh_look hT hB f n (c + 1) (by omega) (by rw [← h]; congr 1; omega)
      simp [whL, hT, hc, Res.bind, hB, look, ih]
    · have hc : t c = false := by simpa using hc
      simp [whL, hT, hc, Res.bind, look]
def endsL (ps : List (Int × Int)) : List Int := ps.map (·.1) ++ ps.map (·.2)
def zsK (ps : List (Int × Int)) (k : Nat) : List Int := (endsL ps).filter fun z => decide ((atP ps k).1 ≤ z) && decide (z ≤ (atP ps k).2)
theorem ends_len (ps : List (Int × Int)) : (endsL ps).length = 2 * ps.length := by simp [endsL]; omega
theorem full_any {ps : List (Int × Int)} (hr : RowOk ps) {k : Nat} (hk : k < ps.length) (L : Int) : anyF (pickI (fun d => decide (d ≤ L)) ps (dep ps k) k) L (zsK ps k) = fullB ps (dep ps k) k (atP ps k).1 (atP ps k).2 L := by
  have hp := atP_ok hr k
  rw [Bool.eq_iff_iff]
  simp only [anyF, List.any_eq_true, decide_eq_true_eq, fullB]
  constructor
  · rintro ⟨z, hz, h⟩
    have := (List.mem_filter.mp hz).2
    simp at this
    exact (under_ge hp L).mpr ⟨z, this.1, this.2, h⟩
  · intro h
    have := maxL_mem (l := (pts (pickI (fun d => decide (d ≤ L)) ps (dep ps k) k) (atP ps k).1 (atP ps k).2).map fun z => (over (pickI (fun d => decide (d ≤ L)) ps (dep ps k) k) z : Int)) (by simp [pts])
    obtain ⟨w, hw, e⟩ := List.mem_map.mp this
    obtain ⟨g1, g2⟩ := pts_in hp hw
    refine ⟨w, List.mem_filter.mpr ⟨?_, by simp [g1, g2]⟩, by rw [e]; exact h⟩
    rcases List.mem_cons.mp hw with h | h
    · rw [h]; exact List.mem_append_left _ (List.mem_map.mpr ⟨_, atP_mem hk, rfl⟩)
    · obtain ⟨q, hq, rfl⟩ := List.mem_map.mp h
      obtain ⟨j, hj, rfl⟩ := List.mem_map.mp (List.mem_filter.mp hq).1
      have := List.mem_range.mp (List.mem_filter.mp hj).1
      exact List.mem_append_left _ (List.mem_map.mpr ⟨_, atP_mem (show j < ps.length by omega), rfl⟩)
noncomputable def llA : M DL.Flow := (sPar [(.frz, 1), (.keep, 2)] (dCons (op2 hAdd (dComp (dSeqA (dVar 0)) (.nm 9) [9] tTrue (op2 hIx (dVar 9) (dC (.int 0)))) (dComp (dSeqA (dVar 0)) (.nm 9) [9] tTrue (op2 hIx (dVar 9) (dC (.int 1))))) (dCons (dLst dNil) dNil)))
noncomputable def llB1 : M DL.Flow := (sAsg (.tp [(.nm 4), (.nm 5), (.nm 6)]) (dTup (dCons (op2 hIx (op2 hIx (dVar 0) (dVar 3)) (dC (.int 0))) (dCons (op2 hIx (op2 hIx (dVar 0) (dVar 3)) (dC (.int 1))) (dCons (dC (.int 1)) dNil)))))
noncomputable def llB2 : M DL.Flow := (sSet .frz 7 (dComp (dSeqA (dVar 1)) (.nm 8) [8] (tst (dChain hLe hLe (dVar 4) (dVar 8) (dVar 5))) (dVar 8)))
noncomputable def llB3 : M DL.Flow := (whL (tst (dCall f__law_is_full [.v, .v, .v, .v] (dCons (dVar 0) (dCons (dVar 2) (dCons (dVar 6) (dCons (dVar 7) dNil))))))
  (sSet .frz 6 (op2 hAdd (dVar 6) (dC (.int 1)))) 100)
noncomputable def llB4 : M DL.Flow := (sExpr (dMutL 2 gApp (dCons (dVar 6) dNil)))
noncomputable def llB : M DL.Flow := sSeq llB1 (sSeq llB2 (sSeq llB3 llB4))
theorem b_ll : b__law_layers = sSeq llA (sSeq (sFor (dRng1 (dB hLen (dCons (dVar 0) dNil))) (.nm 3) llB) (sRet (dVar 2))) := rfl
def LlE (ps : List (Int × Int)) (l : List Int) (s3 s4 s5 s6 s7 : Slot) : DEnv := [.own (.val (.lst (row ps))), .own (.val (.lst ((endsL ps).map D.int))), .own (.lst (l.map D.int)), s3, s4, s5, s6, s7, .un, .un]
section
variable {ps : List (Int × Int)}
theorem llA_eq (hr : RowOk ps) : llA (initE [.val (.lst (row ps))] 9) = .ok .nx (LlE ps [] .un .un .un .un .un) := by
  have hz := hundred
  have hl := hr.1
  have z0 : 0 ≤ sizeLine := sz (by omega)
  have e1 := compL_mapx (i := 9) (elt := op2 hIx (dVar 9) (dC (.int 0))) (env := initE [.val (.lst (row ps))] 9) (fun p : Int × Int => st p.1 p.2) (fun p => .int p.1) rfl (xs := ps) (acc := [])
    (fun p hp => ⟨.val (.int p.1), by simp [st], rfl⟩) (by simp; omega)
  have e2 := compL_mapx (i := 9) (elt := op2 hIx (dVar 9) (dC (.int 1))) (env := initE [.val (.lst (row ps))] 9) (fun p : Int × Int => st p.1 p.2) (fun p => .int p.2) rfl (xs := ps) (acc := [])
    (fun p hp => ⟨.val (.int p.2), by simp [st], rfl⟩) (by simp; omega)
  simp only [List.nil_append] at e1 e2
  have c1 : dComp (dSeqA (dVar 0)) (.nm 9) [9] tTrue (op2 hIx (dVar 9) (dC (.int 0))) (initE [.val (.lst (row ps))] 9) = .ok (.own (.lst (ps.map fun p => .int p.1))) (initE [.val (.lst (row ps))] 9) := by
    rw [ev_comp, show dSeqA (dVar 0) (initE [.val (.lst (row ps))] 9) = .ok (row ps) (initE [.val (.lst (row ps))] 9) by simp, ev_bok]
    show (compL _ _ _ _ _ _ (initE [.val (.lst (row ps))] 9)).bind _ = _
    rw [show row ps = ps.map fun p => st p.1 p.2 from rfl] at *
    rw [e1, ev_bok]
    rfl
  have c2 : dComp (dSeqA (dVar 0)) (.nm 9) [9] tTrue (op2 hIx (dVar 9) (dC (.int 1))) (initE [.val (.lst (row ps))] 9) = .ok (.own (.lst (ps.map fun p => .int p.2))) (initE [.val (.lst (row ps))] 9) := by
    rw [ev_comp, show dSeqA (dVar 0) (initE [.val (.lst (row ps))] 9) = .ok (row ps) (initE [.val (.lst (row ps))] 9) by simp, ev_bok]
    show (compL _ _ _ _ _ _ (initE [.val (.lst (row ps))] 9)).bind _ = _
    rw [show row ps = ps.map fun p => st p.1 p.2 from rfl] at *
    rw [e2, ev_bok]
    rfl
  have z2 : ps.length + ps.length ≤ sizeLine := by omega
  have e3 : (endsL ps).map D.int = (ps.map fun p => D.int p.1) ++ (ps.map fun p => D.int p.2) := by simp only [endsL, List.map_append, List.map_map]; rfl
  unfold llA
  rw [ev_par, ev_cons, ev_op2, c1, ev_bok, c2, ev_bok]
  simp only [LlE, e3]
  simp [z2, z0]
theorem llB_eq (hr : RowOk ps) {k : Nat} (hk : k < ps.length) {s4 s5 s6 s7 : Slot} (h4 : NP s4) (h5 : NP s5) (h6 : NP s6) (h7 : NP s7) : ∃ t4 t5 t6 t7, llB (LlE ps (dep ps k) (.own (.val (.int (k : Nat)))) s4 s5 s6 s7) = .ok .nx (LlE ps (dep ps (k + 1)) (.own (.val (.int (k : Nat)))) t4 t5 t6 t7) ∧ NP t4 ∧ NP t5 ∧ NP t6 ∧ NP t7 := by
  have hz := hundred
  have hl := hr.1
  have z3 : 3 ≤ sizeLine := sz (by omega)
  have f4 : ∀ env, free (s4 :: env) 0 = true := fun env => np0 h4
  have f5 : ∀ env, free (s5 :: env) 0 = true := fun env => np0 h5
  have f6 : ∀ env, free (s6 :: env) 0 = true := fun env => np0 h6
  have f7 : ∀ env, free (s7 :: env) 0 = true := fun env => np0 h7
  have a1 := at_row hk
  have s1 : llB1 (LlE ps (dep ps k) (.own (.val (.int (k : Nat)))) s4 s5 s6 s7) = .ok .nx (LlE ps (dep ps k) (.own (.val (.int (k : Nat)))) (.own (.val (.int (atP ps k).1))) (.own (.val (.int (atP ps k).2))) (.own (.val (.int 1))) s7) := by
    simp only [st] at a1
    simp [llB1, LlE, -ev_fr0, f4, f5, f6, a1, z3]
  have e2 := compL_gen (tg := .nm 8) (vs := [8]) (test := tst (dChain hLe hLe (dVar 4) (dVar 8) (dVar 5))) (elt := dVar 8) (env := LlE ps (dep ps k) (.own (.val (.int (k : Nat)))) (.own (.val (.int (atP ps k).1))) (.own (.val (.int (atP ps k).2))) (.own (.val (.int 1))) s7)
    (fun z : Int => D.int z) (fun z => D.int z) (fun z => decide ((atP ps k).1 ≤ z) && decide (z ≤ (atP ps k).2)) (fun z => [.own (.val (.lst (row ps))), .own (.val (.lst ((endsL ps).map D.int))), .own (.lst ((dep ps k).map D.int)), .own (.val (.int (k : Nat))), .own (.val (.int (atP ps k).1)), .own (.val (.int (atP ps k).2)), .own (.val (.int 1)), s7, .own (.val (.int z)), .un]) (fun q => rfl) (xs := endsL ps) (acc := [])
    (fun z _ => ⟨by simp [LlE], by by_cases c : (atP ps k).1 ≤ z <;> simp [c], fun _ => ⟨.val (.int z), by simp, rfl⟩⟩)
    (by simp only [List.length_nil, Nat.zero_add, ends_len]; omega)
  simp only [List.nil_append] at e2
  have s2 : llB2 (LlE ps (dep ps k) (.own (.val (.int (k : Nat)))) (.own (.val (.int (atP ps k).1))) (.own (.val (.int (atP ps k).2))) (.own (.val (.int 1))) s7) = .ok .nx (LlE ps (dep ps k) (.own (.val (.int (k : Nat)))) (.own (.val (.int (atP ps k).1))) (.own (.val (.int (atP ps k).2))) (.own (.val (.int 1))) (.own (.val (.lst ((zsK ps k).map D.int))))) := by
    unfold llB2
    rw [ev_set, ev_comp, show dSeqA (dVar 1) (LlE ps (dep ps k) (.own (.val (.int (k : Nat)))) (.own (.val (.int (atP ps k).1))) (.own (.val (.int (atP ps k).2))) (.own (.val (.int 1))) s7) = .ok ((endsL ps).map D.int) (LlE ps (dep ps k) (.own (.val (.int (k : Nat)))) (.own (.val (.int (atP ps k).1))) (.own (.val (.int (atP ps k).2))) (.own (.val (.int 1))) s7) by simp [LlE], ev_bok]
    show ((compL _ _ _ _ _ _ (LlE ps (dep ps k) (.own (.val (.int (k : Nat)))) (.own (.val (.int (atP ps k).1))) (.own (.val (.int (atP ps k).2))) (.own (.val (.int 1))) s7)).bind _).bind _ = _
    rw [show (endsL ps).map D.int = (endsL ps).map fun z => D.int z from rfl, e2, ev_bok, ev_bok]
    simp [LlE, -ev_fr0, f7, zsK]
  let E : Int → DEnv := fun c => LlE ps (dep ps k) (.own (.val (.int (k : Nat)))) (.own (.val (.int (atP ps k).1))) (.own (.val (.int (atP ps k).2))) (.own (.val (.int c))) (.own (.val (.lst ((zsK ps k).map D.int))))
  have hT : ∀ c, (tst (dCall f__law_is_full [.v, .v, .v, .v] (dCons (dVar 0) (dCons (dVar 2) (dCons (dVar 6) (dCons (dVar 7) dNil)))))) (E c) = .ok (fullB ps (dep ps k) k (atP ps k).1 (atP ps k).2 c) (E c) := fun c => by
    have zl : (zsK ps k).length ≤ 100 := Nat.le_trans (List.length_filter_le _ _) (by rw [ends_len]; omega)
    have e3 := f_law_is_full_eq (ps := ps) (ds := dep ps k) (by rw [dep_len]; omega) (by omega) c zl
    rw [dep_len, full_any hr hk c] at e3
    simp only [cl] at e3
    simp [E, LlE, e3]
  have hB : ∀ c, (sSet .frz 6 (op2 hAdd (dVar 6) (dC (.int 1)))) (E c) = .ok .nx (E (c + 1)) := fun c => by simp [E, LlE]
  have term : fullB ps (dep ps k) k (atP ps k).1 (atP ps k).2 (1 + (k : Nat)) = false := by
    cases e : fullB ps (dep ps k) k (atP ps k).1 (atP ps k).2 (1 + (k : Nat)) with
    | false => rfl
    | true =>
      unfold fullB at e
      obtain ⟨z, _, _, h⟩ := (under_ge (atP_ok hr k) _).mp (of_decide_eq_true e)
      rw [over_pick] at h
      have := cnt_le k fun j => decide (cAt (dep ps k) j ≤ 1 + (k : Int)) && covB z (atP ps j)
      omega
  have s3 : llB3 (E 1) = .ok .nx (E (lay ps (dep ps k) k)) := wh_look hT hB k 100 1 (by omega) term
  have l2 : (dep ps k).length < sizeLine := by rw [dep_len]; omega
  have s4 : llB4 (E (lay ps (dep ps k) k)) = .ok .nx (LlE ps (dep ps (k + 1)) (.own (.val (.int (k : Nat)))) (.own (.val (.int (atP ps k).1))) (.own (.val (.int (atP ps k).2))) (.own (.val (.int (lay ps (dep ps k) k)))) (.own (.val (.lst ((zsK ps k).map D.int))))) := by
    have e3 : (dep ps (k + 1)).map D.int = (dep ps k).map D.int ++ [.int (lay ps (dep ps k) k)] := by simp [dep]
    simp only [LlE, e3]
    simp [llB4, E, LlE, l2]
  exact ⟨_, _, _, _, seq_nx s1 (seq_nx s2 (seq_nx s3 s4)), NP.val, NP.val, NP.val, NP.val⟩
theorem f_law_layers_eq (hr : RowOk ps) : f__law_layers [.val (.lst (row ps))] = .ok (.lst ((dep ps ps.length).map D.int)) [.val (.lst (row ps))] := by
  have hz := hundred
  have hl := hr.1
  have rl : (row ps).length = ps.length := by simp [row]
  obtain ⟨E, e, s3, s4, s5, s6, s7, rfl, _⟩ := forL_r (tg := .nm 3) (B := llB) (fun i : Nat => .int (i : Nat)) (fun k env => ∃ s3 s4 s5 s6 s7, env = LlE ps (dep ps k) s3 s4 s5 s6 s7 ∧ NP s3 ∧ NP s4 ∧ NP s5 ∧ NP s6 ∧ NP s7) ps.length (LlE ps [] .un .un .un .un .un) ⟨.un, .un, .un, .un, .un, rfl, NP.un, NP.un, NP.un, NP.un, NP.un⟩ (fun k hk env hp => by
    obtain ⟨s3, s4, s5, s6, s7, rfl, h3, h4, h5, h6, h7⟩ := hp
    have f3 : ∀ env, free (s3 :: env) 0 = true := fun env => np0 h3
    obtain ⟨t4, t5, t6, t7, e, g4, g5, g6, g7⟩ := llB_eq hr hk h4 h5 h6 h7
    exact ⟨_, _, by simp [LlE, -ev_fr0, f3], e, _, t4, t5, t6, t7, rfl, NP.val, g4, g5, g6, g7⟩)
  have e1 := for_eq (it := dRng1 (dB hLen (dCons (dVar 0) dNil))) (rng_gen (n := (ps.length : Nat)) (env := LlE ps [] .un .un .un .un .un) (f := dB hLen (dCons (dVar 0) dNil)) (by simp [LlE, rl]) (by omega) (by omega)) (by simpa using e)
  have e2 : sRet (dVar 2) (LlE ps (dep ps ps.length) s3 s4 s5 s6 s7) = .ok (.ret (.bor 2)) (LlE ps (dep ps ps.length) s3 s4 s5 s6 s7) := rfl
  exact mk_ret (E := initE [.val (.lst (row ps))] 9) (E2 := LlE ps (dep ps ps.length) s3 s4 s5 s6 s7) (r := .bor 2) rfl (by rw [b_ll]; exact seq_nx (llA_eq hr) (seq_nx e1 e2)) (by simp [LlE])
end
end Gk07
end
section
set_option maxRecDepth 100000
set_option maxHeartbeats 1000000
namespace Gk07
open PySem PySem.Spec PyProof.Rows L2 DL
variable [tb : Tb]
noncomputable def lfD : M R := (dDc (dZip (dCons (dVar 0) (dCons (dVar 1) dNil))) (.tp [(.nm 6), (.nm 5)]) [6, 5] (tst (dCall f_is_touching [.v, .v] (dCons (dVar 6) (dCons (dVar 2) dNil)))) (dVar 5) (dC (.bl true)))
theorem bars_dict {ds : List (Int × Int)} {cs : List Int} (hl : ds.length = cs.length) (hz : ds.length ≤ 100) (q : Int × Int) (f0 : Int) : ∃ ks vs, lfD [.own (.val (.lst (row ds))), .own (.val (cl cs)), .own (.val (st q.1 q.2)), .own (.val (.int f0)), .un, .un, .un] = .ok (.own (.dK ks vs)) [.own (.val (.lst (row ds))), .own (.val (cl cs)), .own (.val (st q.1 q.2)), .own (.val (.int f0)), .un, .un, .un] ∧ ∀ c : Int, hasK ks (.inl c) = decide (c ∈ bars2 ds cs q) := by
  have e0 : dZip (dCons (dVar 0) (dCons (dVar 1) dNil)) [.own (.val (.lst (row ds))), .own (.val (cl cs)), .own (.val (st q.1 q.2)), .own (.val (.int f0)), .un, .un, .un] = .ok ((ds.zip cs).map fun p => .tup [st p.1.1 p.1.2, .int p.2]) [.own (.val (.lst (row ds))), .own (.val (cl cs)), .own (.val (st q.1 q.2)), .own (.val (.int f0)), .un, .un, .un] := by
    have e : List.zipWith (fun x y => D.tup [x, y]) (row ds) (cs.map D.int) = (ds.zip cs).map fun p => .tup [st p.1.1 p.1.2, .int p.2] := by
      rw [row, List.zipWith_map, List.zip_eq_zipWith, List.map_zipWith]
    have h1 : (row ds).length = (cs.map D.int).length := by simp [row, hl]
    simp [cl, h1, e]
  have e1 := compD_gen (tg := .tp [.nm 6, .nm 5]) (vs := [6, 5]) (test := tst (dCall f_is_touching [.v, .v] (dCons (dVar 6) (dCons (dVar 2) dNil)))) (fk := dVar 5) (elt := dC (.bl true)) (env := [.own (.val (.lst (row ds))), .own (.val (cl cs)), .own (.val (st q.1 q.2)), .own (.val (.int f0)), .un, .un, .un])
    (fun p : (Int × Int) × Int => D.tup [st p.1.1 p.1.2, .int p.2]) (fun p => .inl p.2) (fun _ => .bl true) (fun p => tch p.1 q)
    (fun p => [.own (.val (.lst (row ds))), .own (.val (cl cs)), .own (.val (st q.1 q.2)), .own (.val (.int f0)), .un, .own (.val (.int p.2)), .own (.val (st p.1.1 p.1.2))]) (fun p => rfl) (xs := ds.zip cs) (acc := [])
    (fun p hp => by
      have te := f_is_touching_eq p.1.1 p.1.2 q.1 q.2
      refine ⟨by simp, ?_, fun _ => ⟨.val (.int p.2), .val (.bl true), by simp, rfl, by simp, rfl⟩⟩
      simp [te, tch])
    (by simp only [List.length_nil, Nat.zero_add, List.length_zip]; have := hundred; omega)
  generalize hacc : List.foldl (fun a x => putD a (Sum.inl x.snd) (D.bl true)) [] (List.filter (fun p => tch p.fst q) (ds.zip cs)) = acc at e1
  refine ⟨acc.map (·.1), acc.map (·.2), ?_, ?_⟩
  · unfold lfD
    rw [ev_dc, e0, ev_bok]
    show (compD _ _ _ _ _ ((ds.zip cs).map _) [] [.own (.val (.lst (row ds))), .own (.val (cl cs)), .own (.val (st q.1 q.2)), .own (.val (.int f0)), .un, .un, .un]).bind _ = _
    rw [e1, ev_bok]
    rfl
  · intro c
    rw [← hacc, fold_has (fun p : (Int × Int) × Int => .inl p.2) (fun _ => .bl true)]
    rw [Bool.eq_iff_iff]
    simp only [hasK, List.map_nil, List.any_nil, Bool.false_or, List.any_eq_true, decide_eq_true_eq, bars2, List.mem_map]
    constructor
    · rintro ⟨p, hp, e⟩
      cases e
      exact ⟨p, hp, rfl⟩
    · rintro ⟨p, hp, rfl⟩
      exact ⟨p, hp, rfl⟩
theorem b_lf : b_least_free = sSeq (sSet .frz 4 lfD) (sSeq (sSet .frz 5 (dVar 3)) (sSeq (whL (tst (op2 (hIn2 false) (dVar 5) (dVar 4))) (sSet .frz 5 (op2 hInc (dVar 5) (dC (.int 1)))) 100) (sRet (dVar 5)))) := rfl
theorem f_least_free_eq {ds : List (Int × Int)} {cs : List Int} (hl : ds.length = cs.length) (hz : ds.length ≤ 90) (q : Int × Int) (f0 : Int) :
    f_least_free [.val (.lst (row ds)), .val (cl cs), .val (st q.1 q.2), .val (.int f0)] = .ok (.val (.int (lf (bars2 ds cs q) f0))) [.val (.lst (row ds)), .val (cl cs), .val (st q.1 q.2), .val (.int f0)] := by
  obtain ⟨ks, vs, e1, e2⟩ := bars_dict hl (by omega) q f0
  have lb : (bars2 ds cs q).length ≤ 90 := by
    unfold bars2
    rw [List.length_map]
    exact Nat.le_trans (List.length_filter_le _ _) (by rw [List.length_zip]; omega)
  let E : Int → DEnv := fun c => [.own (.val (.lst (row ds))), .own (.val (cl cs)), .own (.val (st q.1 q.2)), .own (.val (.int f0)), .own (.val (.dct ks vs)), .own (.val (.int c)), .un]
  have hT : ∀ c, (tst (op2 (hIn2 false) (dVar 5) (dVar 4))) (E c) = .ok (decide (c ∈ bars2 ds cs q)) (E c) := fun c => by
    simp [E, e2 c]
  have hB : ∀ c, (sSet .frz 5 (op2 hInc (dVar 5) (dC (.int 1)))) (E c) = .ok .nx (E (c + 1)) := fun c => by
    simp [E]
  have e3 := wh_lf hT hB (bars2 ds cs q).length 100 f0 (List.length_filter_le _ _) (by omega)
  have s1 : (sSet .frz 4 lfD) [.own (.val (.lst (row ds))), .own (.val (cl cs)), .own (.val (st q.1 q.2)), .own (.val (.int f0)), .un, .un, .un] = .ok .nx [.own (.val (.lst (row ds))), .own (.val (cl cs)), .own (.val (st q.1 q.2)), .own (.val (.int f0)), .own (.val (.dct ks vs)), .un, .un] := by
    rw [ev_set, e1, ev_bok]
    simp
  have s2 : (sSet .frz 5 (dVar 3)) [.own (.val (.lst (row ds))), .own (.val (cl cs)), .own (.val (st q.1 q.2)), .own (.val (.int f0)), .own (.val (.dct ks vs)), .un, .un] = .ok .nx (E f0) := by
    simp [E]
  have s4 : sRet (dVar 5) (E (lfN (bars2 ds cs q) (bars2 ds cs q).length f0)) = .ok (.ret (.val (.int (lf (bars2 ds cs q) f0)))) (E (lfN (bars2 ds cs q) (bars2 ds cs q).length f0)) := by
    simp [E, lf]
  unfold f_least_free
  rw [ev_mk, b_lf]
  show finFn _ (sSeq _ _ [.own (.val (.lst (row ds))), .own (.val (cl cs)), .own (.val (st q.1 q.2)), .own (.val (.int f0)), .un, .un, .un]) = _
  rw [seq_nx s1 (seq_nx s2 (seq_nx e3 s4))]
  rfl
end Gk07
end
section
set_option maxRecDepth 100000
set_option maxHeartbeats 1000000
namespace Gk07
open PySem PySem.Spec PyProof.Rows L2 DL
variable [tb : Tb]
noncomputable def ncA : M DL.Flow := (sIf (tst (op2 (hEq false) (dVar 4) (dC (.int 1))))
  (sRet (dC (.int 1)))
  sNx)
noncomputable def ncB : M DL.Flow := (sSet .frz 5 (dComp (dEnum (dVar 1)) (.tp [(.nm 6), (.nm 7)]) [6, 7] (tst (op2 (hEq false) (dVar 7) (dVar 4))) (dVar 6)))
noncomputable def ncR1 : M R := (dComp (dSeqA (dVar 5)) (.nm 6) [6] tTrue (op2 hIx (dVar 0) (dVar 6)))
noncomputable def ncR2 : M R := (dComp (dSeqA (dVar 5)) (.nm 6) [6] tTrue (op2 hIx (dVar 2) (dVar 6)))
noncomputable def ncC : M DL.Flow := (sRet (dCall f_least_free [.v, .v, .v, .v] (dCons ncR1 (dCons ncR2 (dCons (dVar 3) (dCons (op2 hSub (op2 hMul (dC (.int 3)) (dVar 4)) (dC (.int 4))) dNil))))))
theorem b_nc : b_next_colour = sSeq ncA (sSeq ncB ncC) := rfl
def mates (ds : List Int) (m : Nat) (L : Int) : List Nat := (List.range m).filter fun j => decide (cAt ds j = L)
def barsM (qs : List (Int × Int)) (ds hs : List Int) (m : Nat) (q : Int × Int) (L : Int) : List Int := ((mates ds m L).filter fun j => tch (atP qs j) q).map (cAt hs)
theorem bars2_ix (qs : List (Int × Int)) (hs : List Int) (M : List Nat) (q : Int × Int) : bars2 (M.map (atP qs)) (M.map (cAt hs)) q = (M.filter fun j => tch (atP qs j) q).map (cAt hs) := by
  unfold bars2
  rw [List.zip_map', List.filter_map, List.map_map]
  rfl
def NcE (qs : List (Int × Int)) (ds hs : List Int) (q : Int × Int) (L : Int) (s5 : Slot) : DEnv := [.own (.val (.lst (row qs))), .own (.val (cl ds)), .own (.val (cl hs)), .own (.val (st q.1 q.2)), .own (.val (.int L)), s5, .un, .un]
theorem f_next_colour_eq {qs : List (Int × Int)} {ds hs : List Int} {m : Nat} (h1 : qs.length = m) (h2 : ds.length = m) (h3 : hs.length = m) (hm : m ≤ 80) (q : Int × Int) (L : Int) : f_next_colour [.val (.lst (row qs)), .val (cl ds), .val (cl hs), .val (st q.1 q.2), .val (.int L)] = .ok (.val (.int (if L = 1 then 1 else lf (barsM qs ds hs m q L) (3 * L - 4)))) [.val (.lst (row qs)), .val (cl ds), .val (cl hs), .val (st q.1 q.2), .val (.int L)] := by
  have hz := hundred
  have i0 : initE [.val (.lst (row qs)), .val (cl ds), .val (cl hs), .val (st q.1 q.2), .val (.int L)] 3 = NcE qs ds hs q L .un := rfl
  by_cases c : L = 1
  · subst c
    have s1 : ncA (NcE qs ds hs q 1 .un) = .ok (.ret (.val (.int 1))) (NcE qs ds hs q 1 .un) := by simp [ncA, NcE]
    refine mk_ret i0 (E2 := NcE qs ds hs q 1 .un) (r := .val (.int 1)) ?_ (by simp [NcE])
    rw [b_nc, ev_seq, s1]; rfl
  · have s1 : ncA (NcE qs ds hs q L .un) = .ok .nx (NcE qs ds hs q L .un) := by simp [ncA, NcE, c]
    have e := compL_gen (tg := .tp [(.nm 6), (.nm 7)]) (vs := [6, 7]) (test := tst (op2 (hEq false) (dVar 7) (dVar 4))) (elt := dVar 6) (env := NcE qs ds hs q L .un)
      (fun j : Nat => .tup [.int (j : Nat), .int (cAt ds j)]) (fun j => .int (j : Nat)) (fun j => decide (cAt ds j = L)) (fun j => [.own (.val (.lst (row qs))), .own (.val (cl ds)), .own (.val (cl hs)), .own (.val (st q.1 q.2)), .own (.val (.int L)), .un, .own (.val (.int (j : Nat))), .own (.val (.int (cAt ds j)))]) (fun q => rfl) (xs := List.range m) (acc := [])
      (fun j hj => ⟨by simp [NcE], by simp, fun _ => ⟨.val (.int (j : Nat)), by simp, rfl⟩⟩) (by simp; omega)
    simp only [List.nil_append] at e
    have s2 : ncB (NcE qs ds hs q L .un) = .ok .nx (NcE qs ds hs q L (.own (.val (.lst ((mates ds m L).map fun j => .int (j : Nat)))))) := by
      unfold ncB
      rw [ev_set, ev_comp, show dEnum (dVar 1) (NcE qs ds hs q L .un) = .ok ((List.range m).map fun i => .tup [.int (i : Nat), .int (cAt ds i)]) (NcE qs ds hs q L .un) by simp [NcE, cl, enum_cs, h2], ev_bok]
      show ((compL _ _ _ _ _ _ (NcE qs ds hs q L .un)).bind _).bind _ = _
      rw [e, ev_bok, ev_bok]
      rfl
    have ml : (mates ds m L).length ≤ 80 := Nat.le_trans (List.length_filter_le _ _) (by simpa using hm)
    have mm : ∀ j ∈ mates ds m L, j < m := fun j hj => List.mem_range.mp (List.mem_filter.mp hj).1
    have e1 := compL_mapx (i := 6) (elt := op2 hIx (dVar 0) (dVar 6)) (env := NcE qs ds hs q L (.own (.val (.lst ((mates ds m L).map fun j => .int (j : Nat)))))) (fun j : Nat => D.int (j : Nat)) (fun j => st (atP qs j).1 (atP qs j).2) rfl (xs := mates ds m L) (acc := [])
      (fun j hj => ⟨.val (st (atP qs j).1 (atP qs j).2), by simp [NcE, at_row (show j < qs.length by rw [h1]; exact mm j hj)], rfl⟩) (by simp; omega)
    have e2 := compL_mapx (i := 6) (elt := op2 hIx (dVar 2) (dVar 6)) (env := NcE qs ds hs q L (.own (.val (.lst ((mates ds m L).map fun j => .int (j : Nat)))))) (fun j : Nat => D.int (j : Nat)) (fun j => .int (cAt hs j)) rfl (xs := mates ds m L) (acc := [])
      (fun j hj => ⟨.val (.int (cAt hs j)), by simp [NcE, cl, at_cl (show j < hs.length by rw [h3]; exact mm j hj)], rfl⟩) (by simp; omega)
    simp only [List.nil_append] at e1 e2
    have r1 : ncR1 (NcE qs ds hs q L (.own (.val (.lst ((mates ds m L).map fun j => .int (j : Nat)))))) = .ok (.own (.lst (row ((mates ds m L).map (atP qs))))) (NcE qs ds hs q L (.own (.val (.lst ((mates ds m L).map fun j => .int (j : Nat)))))) := by
      unfold ncR1
      rw [ev_comp, show dSeqA (dVar 5) (NcE qs ds hs q L (.own (.val (.lst ((mates ds m L).map fun j => .int (j : Nat)))))) = .ok ((mates ds m L).map fun j => .int (j : Nat)) (NcE qs ds hs q L (.own (.val (.lst ((mates ds m L).map fun j => .int (j : Nat)))))) by simp [NcE], ev_bok]
      show (compL _ _ _ _ _ _ (NcE qs ds hs q L (.own (.val (.lst ((mates ds m L).map fun j => .int (j : Nat))))))).bind _ = _
      rw [e1, ev_bok]
      simp only [row, List.map_map]
      rfl
    have r2 : ncR2 (NcE qs ds hs q L (.own (.val (.lst ((mates ds m L).map fun j => .int (j : Nat)))))) = .ok (.own (.lst (((mates ds m L).map (cAt hs)).map D.int))) (NcE qs ds hs q L (.own (.val (.lst ((mates ds m L).map fun j => .int (j : Nat)))))) := by
      unfold ncR2
      rw [ev_comp, show dSeqA (dVar 5) (NcE qs ds hs q L (.own (.val (.lst ((mates ds m L).map fun j => .int (j : Nat)))))) = .ok ((mates ds m L).map fun j => .int (j : Nat)) (NcE qs ds hs q L (.own (.val (.lst ((mates ds m L).map fun j => .int (j : Nat)))))) by simp [NcE], ev_bok]
      show (compL _ _ _ _ _ _ (NcE qs ds hs q L (.own (.val (.lst ((mates ds m L).map fun j => .int (j : Nat))))))).bind _ = _
      rw [e2, ev_bok]
      simp only [List.map_map]
      rfl
    have e3 := f_least_free_eq (ds := (mates ds m L).map (atP qs)) (cs := (mates ds m L).map (cAt hs)) (by simp) (by simp; omega) q (3 * L - 4)
    rw [bars2_ix, show ((mates ds m L).filter fun j => tch (atP qs j) q).map (cAt hs) = barsM qs ds hs m q L from rfl] at e3
    have m3 : cMul 3 L = true := cMul_l (by decide) (by decide)
    have s3 : ncC (NcE qs ds hs q L (.own (.val (.lst ((mates ds m L).map fun j => .int (j : Nat)))))) = .ok (.ret (.val (.int (lf (barsM qs ds hs m q L) (3 * L - 4))))) (NcE qs ds hs q L (.own (.val (.lst ((mates ds m L).map fun j => .int (j : Nat)))))) := by
      unfold ncC
      rw [ev_ret, ev_call, ev_cons, r1, ev_bok, ev_cons, r2, ev_bok]
      simp only [cl] at e3
      simp [NcE, m3, -List.map_map, e3]
    rw [if_neg c]
    exact mk_ret i0 (by rw [b_nc]; exact seq_nx s1 (seq_nx s2 s3)) (by simp [NcE])
end Gk07
end
section
set_option maxRecDepth 100000
set_option maxHeartbeats 1000000
namespace Gk07
open PySem PySem.Spec PyProof.Rows L2 DL
variable [tb : Tb]
theorem cut_cs (cs : List Int) {k : Nat} (hk : k ≤ cs.length) : cut' (cs.map D.int) none (some (k : Int)) = (cs.take k).map D.int := by
  have := cut_row (cs.map fun c => (c, c)) (k := k) (by simpa using hk)
  unfold cut' at this ⊢
  simp only [row, List.length_map] at this ⊢
  rw [← List.map_take] at this
  simp only [← List.map_drop, ← List.map_take, List.map_map] at this ⊢
  have h2 := congrArg (List.map fun d : D => match d with | .tup (x :: _) => x | d => d) this
  simp only [List.map_map] at h2
  exact h2
theorem cAt_take (cs : List Int) {j k : Nat} (h : j < k) : cAt (cs.take k) j = cAt cs j := by
  simp [cAt, List.getD_eq_getElem?_getD, List.getElem?_take, h]
theorem bars_take (ps : List (Int × Int)) (ds hs : List Int) (k : Nat) : barsM (ps.take k) (ds.take k) hs k (atP ps k) (cAt ds k) = barsL ps ds hs k := by
  unfold barsM barsL mates
  rw [List.filter_filter]
  congr 1
  apply List.filter_congr
  intro j hj
  have hj := List.mem_range.mp hj
  rw [cAt_take ds hj, atP_take ps hj, Bool.and_comm]
noncomputable def lyA : M DL.Flow := (sPar [(.frz, 1), (.keep, 2)] (dCons (dCall f_depths_of [.v] (dCons (dVar 0) dNil)) (dCons (dLst dNil) dNil)))
noncomputable def lyB : M DL.Flow := (sExpr (dMutL 2 gApp (dCons (dCall f_next_colour [.v, .v, .v, .v, .v] (dCons (dSl (dVar 0) dNoPart (dPart (dVar 3))) (dCons (dSl (dVar 1) dNoPart (dPart (dVar 3))) (dCons (dVar 2) (dCons (dVar 4) (dCons (op2 hIx (dVar 1) (dVar 3)) dNil)))))) dNil)))
theorem b_ly : b_layered = sSeq (sExpr (dCall f_check_row [.v] (dCons (dVar 0) dNil))) (sSeq lyA (sSeq (sFor (dEnum (dVar 0)) (.tp [(.nm 3), (.nm 4)]) lyB) (sRet (dVar 2)))) := rfl
def LyE (ps : List (Int × Int)) (k : Nat) (s3 s4 : Slot) : DEnv := [.own (.val (.lst (row ps))), .own (.val (cl (dep ps ps.length))), .own (.lst ((hueL ps (dep ps ps.length) k).map D.int)), s3, s4]
theorem f_layered_eq {ps : List (Int × Int)} (hr : RowOk ps) : f_layered [.val (.lst (row ps))] = .ok (.lst ((hueL ps (dep ps ps.length) ps.length).map D.int)) [.val (.lst (row ps))] := by
  have hz := hundred
  have hl := hr.1
  have z0 : 0 ≤ sizeLine := sz (by omega)
  have dl := dep_len ps ps.length
  obtain ⟨E, e, s3, s4, rfl, _, _⟩ := forL_r (tg := .tp [(.nm 3), (.nm 4)]) (B := lyB) (fun i : Nat => .tup [.int (i : Nat), st (atP ps i).1 (atP ps i).2]) (fun k env => ∃ s3 s4, env = LyE ps k s3 s4 ∧ NP s3 ∧ NP s4) ps.length (LyE ps 0 .un .un) ⟨.un, .un, rfl, NP.un, NP.un⟩ (fun k hk env hp => by
    obtain ⟨s3, s4, rfl, h3, h4⟩ := hp
    have f3 : ∀ env, free (s3 :: env) 0 = true := fun env => np0 h3
    have f4 : ∀ env, free (s4 :: env) 0 = true := fun env => np0 h4
    refine ⟨LyE ps k (.own (.val (.int (k : Nat)))) (.own (.val (st (atP ps k).1 (atP ps k).2))), LyE ps (k + 1) (.own (.val (.int (k : Nat)))) (.own (.val (st (atP ps k).1 (atP ps k).2))), by simp [LyE, -ev_fr0, f3, f4], ?_, .own (.val (.int (k : Nat))), .own (.val (st (atP ps k).1 (atP ps k).2)), rfl, NP.val, NP.val⟩
    have hl' := hue_len ps (dep ps ps.length) k
    have e1 := f_next_colour_eq (qs := ps.take k) (ds := (dep ps ps.length).take k) (hs := hueL ps (dep ps ps.length) k) (m := k) (by rw [List.length_take]; omega) (by rw [List.length_take]; omega) hl' (by omega) (atP ps k) (cAt (dep ps ps.length) k)
    rw [bars_take] at e1
    have e2 := cut_row ps (k := k) (by omega)
    have e3 := cut_cs (dep ps ps.length) (k := k) (by omega)
    have a1 := at_cl (cs := dep ps ps.length) (k := k) (by omega)
    have l2 : (hueL ps (dep ps ps.length) k).length < sizeLine := by omega
    have e4 : (hueL ps (dep ps ps.length) (k + 1)).map D.int = (hueL ps (dep ps ps.length) k).map D.int ++ [.int (if cAt (dep ps ps.length) k = 1 then 1 else lf (barsL ps (dep ps ps.length) (hueL ps (dep ps ps.length) k) k) (3 * cAt (dep ps ps.length) k - 4))] := by simp [hueL]
    simp only [LyE, e4]
    generalize (if cAt (dep ps ps.length) k = 1 then 1 else lf (barsL ps (dep ps ps.length) (hueL ps (dep ps ps.length) k) k) (3 * cAt (dep ps ps.length) k - 4)) = c at e1
    simp only [cl] at e1 ⊢
    simp [-List.map_take, lyB, e1, e2, e3, a1, l2])
  have e1 := f_check_row_eq _ hr.plain hr.good
  have e2 := f_depths_of_eq hr
  have s0 : sExpr (dCall f_check_row [.v] (dCons (dVar 0) dNil)) (initE [.val (.lst (row ps))] 4) = .ok .nx (initE [.val (.lst (row ps))] 4) := by simp [e1]
  have s1 : lyA (initE [.val (.lst (row ps))] 4) = .ok .nx (LyE ps 0 .un .un) := by simp [lyA, LyE, e2, z0, cl, hueL]
  have s2 := for_eq (it := dEnum (dVar 0)) (show dEnum (dVar 0) (LyE ps 0 .un .un) = .ok ((List.range ps.length).map fun i => .tup [.int (i : Nat), st (atP ps i).1 (atP ps i).2]) (LyE ps 0 .un .un) by simp [LyE, enum_row]) e
  have s5 : sRet (dVar 2) (LyE ps ps.length s3 s4) = .ok (.ret (.bor 2)) (LyE ps ps.length s3 s4) := rfl
  exact mk_ret (E := initE [.val (.lst (row ps))] 4) (E2 := LyE ps ps.length s3 s4) (r := .bor 2) rfl (by rw [b_ly]; exact seq_nx s0 (seq_nx s1 (seq_nx s2 s5))) (by simp [LyE])
end Gk07
end
section
set_option maxRecDepth 100000
set_option maxHeartbeats 1000000
namespace Gk07
open PySem PySem.Spec PyProof.Rows L2 DL
variable [tb : Tb]
theorem eqv_int (a b : Int) : PyData.eqv (.int a) (.int b) = decide (a = b) := by
  by_cases h : a = b <;> simp [PyData.eqv, h]
theorem in_ints (c : Int) (cs : List Int) : hIn2 false (.int c) (.lst (cs.map D.int)) = some (.val (.bl (decide (c ∈ cs)))) := by
  have h1 : SeqAt.shaped (.int c) = true := rfl
  have h2 := shp_cs cs
  have h3 : (cs.map PyData.int).any (fun z => PyData.eqv z (.int c)) = decide (c ∈ cs) := by
    rw [Bool.eq_iff_iff, List.any_eq_true, decide_eq_true_eq]
    constructor
    · rintro ⟨z, hz, he⟩
      obtain ⟨x, hx, rfl⟩ := List.mem_map.mp hz
      rw [eqv_int, decide_eq_true_eq] at he
      subst he; exact hx
    · intro h
      exact ⟨.int c, List.mem_map.mpr ⟨c, h, rfl⟩, by rw [eqv_int]; simp⟩
  rw [ev_in2l]
  unfold hIn hOr hInL
  simp only [D.py, pys_cs, h1, h2, and_self, if_true, h3]
  rfl
theorem f_law_least_eq (bs : List Int) (hl : bs.length ≤ 90) (f0 : Int) : f__law_least [.val (cl bs), .val (.int f0)] = .ok (.val (.int (lf bs f0))) [.val (cl bs), .val (.int f0)] := by
  let E : Int → DEnv := fun c => [.own (.val (cl bs)), .own (.val (.int f0)), .own (.val (.int c))]
  have hT : ∀ c, (tst (op2 (hIn2 false) (dVar 2) (dVar 0))) (E c) = .ok (decide (c ∈ bs)) (E c) := fun c => by
    have := in_ints c bs
    simp [-ev_in2l, E, cl, this]
  have hB : ∀ c, (sSet .frz 2 (op2 hAdd (dVar 2) (dC (.int 1)))) (E c) = .ok .nx (E (c + 1)) := fun c => by
    simp [E]
  have e3 := wh_lf hT hB bs.length 100 f0 (List.length_filter_le _ _) (by omega)
  have s1 : (sSet .frz 2 (dVar 1)) (initE [.val (cl bs), .val (.int f0)] 1) = .ok .nx (E f0) := by simp [E]
  have s3 : sRet (dVar 2) (E (lfN bs bs.length f0)) = .ok (.ret (.val (.int (lf bs f0)))) (E (lfN bs bs.length f0)) := rfl
  exact mk_ret rfl (seq_nx s1 (seq_nx e3 s3)) rfl
noncomputable def lhA : M DL.Flow := (sPar [(.frz, 1), (.keep, 2)] (dCons (dCall f__law_layers [.v] (dCons (dVar 0) dNil)) (dCons (dLst dNil) dNil)))
noncomputable def lhB1 : M DL.Flow := (sPar [(.frz, 4), (.keep, 5)] (dCons (op2 hIx (dVar 1) (dVar 3)) (dCons (dLst dNil) dNil)))
noncomputable def lhI : M DL.Flow := (sIf (tAnd' (tst (op2 (hEq false) (op2 hIx (dVar 1) (dVar 6)) (dVar 4))) (tst (dCall f__law_touch [.v, .v] (dCons (op2 hIx (dVar 0) (dVar 6)) (dCons (op2 hIx (dVar 0) (dVar 3)) dNil)))))
  (sExpr (dMutL 5 gApp (dCons (op2 hIx (dVar 2) (dVar 6)) dNil)))
  sNx)
noncomputable def lhB2 : M DL.Flow := (sFor (dRng1 (dVar 3)) (.nm 6) lhI)
noncomputable def lhB3 : M DL.Flow := (sExpr (dMutL 2 gApp (dCons (dIf (tst (op2 (hEq false) (dVar 4) (dC (.int 1)))) (dC (.int 1)) (dCall f__law_least [.v, .v] (dCons (dVar 5) (dCons (op2 hSub (op2 hMul (dC (.int 3)) (dVar 4)) (dC (.int 4))) dNil)))) dNil)))
noncomputable def lhB : M DL.Flow := sSeq lhB1 (sSeq lhB2 lhB3)
theorem b_lh : b__law_hues = sSeq lhA (sSeq (sFor (dRng1 (dB hLen (dCons (dVar 0) dNil))) (.nm 3) lhB) (sRet (dVar 2))) := rfl
def LhE (ps : List (Int × Int)) (k : Nat) (s3 s4 s5 s6 : Slot) : DEnv := [.own (.val (.lst (row ps))), .own (.val (cl (dep ps ps.length))), .own (.lst ((hueL ps (dep ps ps.length) k).map D.int)), s3, s4, s5, s6]
def barsU (ps : List (Int × Int)) (ds hs : List Int) (k j : Nat) : List Int := ((List.range j).filter fun j => decide (cAt ds j = cAt ds k) && tch (atP ps j) (atP ps k)).map (cAt hs)
theorem barsU_succ (ps : List (Int × Int)) (ds hs : List Int) (k j : Nat) : barsU ps ds hs k (j + 1) = barsU ps ds hs k j ++ (if (decide (cAt ds j = cAt ds k) && tch (atP ps j) (atP ps k)) = true then [cAt hs j] else []) := by
  unfold barsU
  rw [List.range_succ, List.filter_append, List.map_append]
  congr 1
  by_cases h : (decide (cAt ds j = cAt ds k) && tch (atP ps j) (atP ps k)) = true
  · rw [if_pos h, List.filter_cons, if_pos h]; rfl
  · rw [if_neg h, List.filter_cons, if_neg h]; rfl
section
variable {ps : List (Int × Int)}
theorem lhI_loop (hr : RowOk ps) {k : Nat} (hk : k < ps.length) {s6 : Slot} (h6 : NP s6) : ∃ t6, lhB2 (LhE ps k (.own (.val (.int (k : Nat)))) (.own (.val (.int (cAt (dep ps ps.length) k)))) (.own (.lst [])) s6) = .ok .nx (LhE ps k (.own (.val (.int (k : Nat)))) (.own (.val (.int (cAt (dep ps ps.length) k)))) (.own (.lst ((barsL ps (dep ps ps.length) (hueL ps (dep ps ps.length) k) k).map D.int))) t6) ∧ NP t6 := by
  have hz := hundred
  have hl := hr.1
  have dl := dep_len ps ps.length
  have hul := hue_len ps (dep ps ps.length) k
  obtain ⟨E, e, t6, rfl, g6⟩ := forL_r (tg := .nm 6) (B := lhI) (fun i : Nat => .int (i : Nat)) (fun j env => ∃ s6, env = LhE ps k (.own (.val (.int (k : Nat)))) (.own (.val (.int (cAt (dep ps ps.length) k)))) (.own (.lst ((barsU ps (dep ps ps.length) (hueL ps (dep ps ps.length) k) k j).map D.int))) s6 ∧ NP s6) k (LhE ps k (.own (.val (.int (k : Nat)))) (.own (.val (.int (cAt (dep ps ps.length) k)))) (.own (.lst [])) s6) ⟨s6, rfl, h6⟩ (fun j hj env hp => by
    obtain ⟨s6, rfl, h6⟩ := hp
    have f6 : ∀ env, free (s6 :: env) 0 = true := fun env => np0 h6
    refine ⟨LhE ps k (.own (.val (.int (k : Nat)))) (.own (.val (.int (cAt (dep ps ps.length) k)))) (.own (.lst ((barsU ps (dep ps ps.length) (hueL ps (dep ps ps.length) k) k j).map D.int))) (.own (.val (.int (j : Nat)))), _, by simp [LhE, -ev_fr0, f6], ?_, .own (.val (.int (j : Nat))), rfl, NP.val⟩
    have a1 := at_cl (cs := dep ps ps.length) (k := j) (by omega)
    have a2 := at_row (show j < ps.length by omega)
    have a3 := at_row hk
    have a4 := at_cl (cs := hueL ps (dep ps ps.length) k) (k := j) (by omega)
    have e1 := law_touch_at hr (show j < ps.length by omega) hk
    have bl : (barsU ps (dep ps ps.length) (hueL ps (dep ps ps.length) k) k j).length < sizeLine := by
      unfold barsU
      rw [List.length_map]
      exact Nat.lt_of_le_of_lt (List.length_filter_le _ _) (by simp; omega)
    rw [barsU_succ]
    generalize barsU ps (dep ps ps.length) (hueL ps (dep ps ps.length) k) k j = B at bl
    by_cases c : cAt (dep ps ps.length) j = cAt (dep ps ps.length) k
    · by_cases c2 : tch (atP ps j) (atP ps k) = true
      · simp [lhI, LhE, cl, a1, a2, a3, a4, e1, c, c2, bl]
      · simp [lhI, LhE, cl, a1, a2, a3, a4, e1, c, c2, bl]
    · simp [lhI, LhE, cl, a1, a2, a3, a4, e1, c, bl])
  refine ⟨t6, ?_, g6⟩
  unfold lhB2
  refine for_eq (rng_gen (n := (k : Nat)) (by simp [LhE]) (by omega) (by omega)) ?_
  rw [Int.toNat_natCast]
  exact e
theorem lhB_eq (hr : RowOk ps) {k : Nat} (hk : k < ps.length) {s4 s5 s6 : Slot} (h4 : NP s4) (h5 : NP s5) (h6 : NP s6) : ∃ t4 t5 t6, lhB (LhE ps k (.own (.val (.int (k : Nat)))) s4 s5 s6) = .ok .nx (LhE ps (k + 1) (.own (.val (.int (k : Nat)))) t4 t5 t6) ∧ NP t4 ∧ NP t5 ∧ NP t6 := by
  have hz := hundred
  have hl := hr.1
  have z0 : 0 ≤ sizeLine := sz (by omega)
  have dl := dep_len ps ps.length
  have hul := hue_len ps (dep ps ps.length) k
  have f4 : ∀ env, free (s4 :: env) 0 = true := fun env => np0 h4
  have f5 : ∀ env, free (s5 :: env) 0 = true := fun env => np0 h5
  have a1 := at_cl (cs := dep ps ps.length) (k := k) (by omega)
  have s1 : lhB1 (LhE ps k (.own (.val (.int (k : Nat)))) s4 s5 s6) = .ok .nx (LhE ps k (.own (.val (.int (k : Nat)))) (.own (.val (.int (cAt (dep ps ps.length) k)))) (.own (.lst [])) s6) := by
    simp [lhB1, LhE, cl, a1, z0, -ev_fr0, f4, f5]
  obtain ⟨t6, s2, g6⟩ := lhI_loop hr hk h6
  have bl : (barsL ps (dep ps ps.length) (hueL ps (dep ps ps.length) k) k).length ≤ 90 := by
    unfold barsL
    rw [List.length_map]
    exact Nat.le_trans (List.length_filter_le _ _) (by simp; omega)
  have e4 : (hueL ps (dep ps ps.length) (k + 1)).map D.int = (hueL ps (dep ps ps.length) k).map D.int ++ [.int (if cAt (dep ps ps.length) k = 1 then 1 else lf (barsL ps (dep ps ps.length) (hueL ps (dep ps ps.length) k) k) (3 * cAt (dep ps ps.length) k - 4))] := by simp [hueL]
  have e1 := f_law_least_eq _ bl (3 * cAt (dep ps ps.length) k - 4)
  have m3 : cMul 3 (cAt (dep ps ps.length) k) = true := cMul_l (by decide) (by decide)
  have l2 : (hueL ps (dep ps ps.length) k).length < sizeLine := by omega
  have s3 : lhB3 (LhE ps k (.own (.val (.int (k : Nat)))) (.own (.val (.int (cAt (dep ps ps.length) k)))) (.own (.lst ((barsL ps (dep ps ps.length) (hueL ps (dep ps ps.length) k) k).map D.int))) t6) = .ok .nx (LhE ps (k + 1) (.own (.val (.int (k : Nat)))) (.own (.val (.int (cAt (dep ps ps.length) k)))) (.own (.lst ((barsL ps (dep ps ps.length) (hueL ps (dep ps ps.length) k) k).map D.int))) t6) := by
    simp only [LhE, e4]
    generalize barsL ps (dep ps ps.length) (hueL ps (dep ps ps.length) k) k = B at *
    simp only [cl] at e1 ⊢
    by_cases c : cAt (dep ps ps.length) k = 1
    · simp [lhB3, c, l2]
    · simp [lhB3, c, l2, m3, e1]
  exact ⟨_, _, t6, seq_nx s1 (seq_nx s2 s3), NP.val, NP.lst, g6⟩
theorem f_law_hues_eq (hr : RowOk ps) : f__law_hues [.val (.lst (row ps))] = .ok (.lst ((hueL ps (dep ps ps.length) ps.length).map D.int)) [.val (.lst (row ps))] := by
  have hz := hundred
  have hl := hr.1
  have z0 : 0 ≤ sizeLine := sz (by omega)
  have rl : (row ps).length = ps.length := by simp [row]
  obtain ⟨E, e, s3, s4, s5, s6, rfl, _⟩ := forL_r (tg := .nm 3) (B := lhB) (fun i : Nat => .int (i : Nat)) (fun k env => ∃ s3 s4 s5 s6, env = LhE ps k s3 s4 s5 s6 ∧ NP s3 ∧ NP s4 ∧ NP s5 ∧ NP s6) ps.length (LhE ps 0 .un .un .un .un) ⟨.un, .un, .un, .un, rfl, NP.un, NP.un, NP.un, NP.un⟩ (fun k hk env hp => by
    obtain ⟨s3, s4, s5, s6, rfl, h3, h4, h5, h6⟩ := hp
    have f3 : ∀ env, free (s3 :: env) 0 = true := fun env => np0 h3
    obtain ⟨t4, t5, t6, e, g4, g5, g6⟩ := lhB_eq hr hk h4 h5 h6
    exact ⟨_, _, by simp [LhE, -ev_fr0, f3], e, _, t4, t5, t6, rfl, NP.val, g4, g5, g6⟩)
  have e1 := f_law_layers_eq hr
  have s1 : lhA (initE [.val (.lst (row ps))] 6) = .ok .nx (LhE ps 0 .un .un .un .un) := by simp [lhA, LhE, e1, z0, cl, hueL]
  have s2 := for_eq (it := dRng1 (dB hLen (dCons (dVar 0) dNil))) (rng_gen (n := (ps.length : Nat)) (env := LhE ps 0 .un .un .un .un) (f := dB hLen (dCons (dVar 0) dNil)) (by simp [LhE, rl]) (by omega) (by omega)) (by simpa using e)
  have e2 : sRet (dVar 2) (LhE ps ps.length s3 s4 s5 s6) = .ok (.ret (.bor 2)) (LhE ps ps.length s3 s4 s5 s6) := rfl
  exact mk_ret (E := initE [.val (.lst (row ps))] 6) (E2 := LhE ps ps.length s3 s4 s5 s6) (r := .bor 2) rfl (by rw [b_lh]; exact seq_nx s1 (seq_nx s2 e2)) (by simp [LhE])
end
end Gk07
end
section
set_option maxRecDepth 100000
set_option maxHeartbeats 1000000
namespace Gk07
open PySem PySem.Spec PyProof.Rows L2 DL
variable [tb : Tb]
def lowK (ps : List (Int × Int)) (ds : List Int) (k : Nat) : List (Int × Int) := pickI (fun d => decide (d < cAt ds k)) ps ds k
def matK (ps : List (Int × Int)) (ds : List Int) (k : Nat) : List (Int × Int) := pickI (fun d => decide (d = cAt ds k)) ps ds k
def showB (ps : List (Int × Int)) (ds : List Int) (k : Nat) (z : Int) : Bool := covB z (atP ps k) && (!decide ((0 : Int) < over (matK ps ds k) z) && decide ((over (lowK ps ds k) z : Int) = cAt ds k - 1))
def showD (ps : List (Int × Int)) (ds : List Int) (k : Nat) : D → Bool
  | .int z => showB ps ds k z
  | _ => false
noncomputable def lsA : M DL.Flow := (sIf (tOr' (tst (dB hIsi (dCons (dVar 3) (dCons (dC (.ty "bool")) dNil)))) (tNot' (tst (dB hIsi (dCons (dVar 3) (dCons (dC (.ty "int")) dNil))))))
  (sRet (dC (.bl false)))
  sNx)
noncomputable def lsB : M DL.Flow := (sIf (tNot' (tst (dChain hLe hLe (op2 hIx (op2 hIx (dVar 0) (dVar 2)) (dC (.int 0))) (dVar 3) (op2 hIx (op2 hIx (dVar 0) (dVar 2)) (dC (.int 1))))))
  (sRet (dC (.bl false)))
  sNx)
noncomputable def lsC : M DL.Flow := (sSet .frz 4 (op2 hIx (dVar 1) (dVar 2)))
noncomputable def lsD : M DL.Flow := (sSet .frz 5 (dComp (dRng1 (dVar 2)) (.nm 7) [7] (tst (op2 hLt (op2 hIx (dVar 1) (dVar 7)) (dVar 4))) (op2 hIx (dVar 0) (dVar 7))))
noncomputable def lsE : M DL.Flow := (sSet .frz 6 (dComp (dRng1 (dVar 2)) (.nm 7) [7] (tst (op2 (hEq false) (op2 hIx (dVar 1) (dVar 7)) (dVar 4))) (op2 hIx (dVar 0) (dVar 7))))
noncomputable def lsF : M DL.Flow := (sIf (tst (op2 hGt (dCall f__law_over [.v, .v] (dCons (dVar 6) (dCons (dVar 3) dNil))) (dC (.int 0))))
  (sRet (dC (.bl false)))
  sNx)
noncomputable def lsG : M DL.Flow := (sRet (op2 (hEq false) (dCall f__law_over [.v, .v] (dCons (dVar 5) (dCons (dVar 3) dNil))) (op2 hSub (dVar 4) (dC (.int 1)))))
theorem b_ls : b__law_shows = sSeq lsA (sSeq lsB (sSeq lsC (sSeq lsD (sSeq lsE (sSeq lsF lsG))))) := rfl
def LsE (ps : List (Int × Int)) (ds : List Int) (k : Nat) (d : D) (s4 s5 s6 : Slot) : DEnv := [.own (.val (.lst (row ps))), .own (.val (cl ds)), .own (.val (.int (k : Nat))), .own (.val d), s4, s5, s6, .un]
theorem seq_ret {a b : M DL.Flow} {E F : DEnv} {r : R} (h1 : a E = .ok (.ret r) F) : sSeq a b E = .ok (.ret r) F := by
  rw [ev_seq, h1, ev_bok]
theorem comp_pick (t : Int → Bool) {ps : List (Int × Int)} {ds : List Int} (hl : ds.length = ps.length) {k : Nat} (hk : k < ps.length) (hz : ps.length ≤ 80) {test : M Bool} (d : D) (s4 s5 s6 : Slot)
    (ht : ∀ j, j < k → test [.own (.val (.lst (row ps))), .own (.val (cl ds)), .own (.val (.int (k : Nat))), .own (.val d), s4, s5, s6, .own (.val (.int (j : Nat)))] = .ok (t (cAt ds j)) [.own (.val (.lst (row ps))), .own (.val (cl ds)), .own (.val (.int (k : Nat))), .own (.val d), s4, s5, s6, .own (.val (.int (j : Nat)))]) :
    dComp (dRng1 (dVar 2)) (.nm 7) [7] test (op2 hIx (dVar 0) (dVar 7)) (LsE ps ds k d s4 s5 s6) = .ok (.own (.lst (row (pickI t ps ds k)))) (LsE ps ds k d s4 s5 s6) := by
  have hu := hundred
  have e := compL_gen (tg := .nm 7) (vs := [7]) (test := test) (elt := op2 hIx (dVar 0) (dVar 7)) (env := LsE ps ds k d s4 s5 s6)
    (fun j : Nat => .int (j : Nat)) (fun j => st (atP ps j).1 (atP ps j).2) (fun j => t (cAt ds j)) (fun j => [.own (.val (.lst (row ps))), .own (.val (cl ds)), .own (.val (.int (k : Nat))), .own (.val d), s4, s5, s6, .own (.val (.int (j : Nat)))]) (fun q => rfl) (xs := List.range k) (acc := [])
    (fun j hj => by
      have hj := List.mem_range.mp hj
      exact ⟨by simp [LsE], ht j hj, fun _ => ⟨.val (st (atP ps j).1 (atP ps j).2), by simp [at_row (show j < ps.length by omega)], rfl⟩⟩)
    (by simp; omega)
  simp only [List.nil_append] at e
  rw [pick_row] at e
  rw [ev_comp, rng_gen (n := (k : Nat)) (env := LsE ps ds k d s4 s5 s6) (f := dVar 2) (by simp [LsE]) (by omega) (by omega), ev_bok, Int.toNat_natCast]
  show (compL _ _ _ _ _ _ (LsE ps ds k d s4 s5 s6)).bind _ = _
  rw [e, ev_bok]
  rfl
theorem f_law_shows_eq {ps : List (Int × Int)} {ds : List Int} (hl : ds.length = ps.length) {k : Nat} (hk : k < ps.length) (hz : ps.length ≤ 80) (d : D) (hd : plainD d = true) : f__law_shows [.val (.lst (row ps)), .val (cl ds), .val (.int (k : Nat)), .val d] = .ok (.val (.bl (showD ps ds k d))) [.val (.lst (row ps)), .val (cl ds), .val (.int (k : Nat)), .val d] := by
  have hu := hundred
  have i0 : initE [.val (.lst (row ps)), .val (cl ds), .val (.int (k : Nat)), .val d] 4 = LsE ps ds k d .un .un .un := rfl
  cases h : isIntD d with
  | false =>
    have s1 : lsA (LsE ps ds k d .un .un .un) = .ok (.ret (.val (.bl false))) (LsE ps ds k d .un .un .un) := by
      cases d <;> simp [plainD] at hd <;> simp [isIntD] at h <;> simp [lsA, LsE, hIsi, isTyD]
    have e : showD ps ds k d = false := by cases d <;> simp [isIntD] at h <;> rfl
    rw [e]
    exact mk_ret i0 (by rw [b_ls]; exact seq_ret s1) (by simp [LsE])
  | true =>
    cases d <;> simp [isIntD] at h
    rename_i z
    have s1 : lsA (LsE ps ds k (.int z) .un .un .un) = .ok .nx (LsE ps ds k (.int z) .un .un .un) := by simp [lsA, LsE, hIsi, isTyD]
    have a1 := at_row hk
    have a2 := at_cl (cs := ds) (k := k) (by omega)
    simp only [st] at a1
    show _ = RF.ok (.val (.bl (showB ps ds k z))) _
    by_cases c : covB z (atP ps k) = true
    · have c' : (atP ps k).1 ≤ z ∧ z ≤ (atP ps k).2 := by simpa [covB] using c
      have s2 : lsB (LsE ps ds k (.int z) .un .un .un) = .ok .nx (LsE ps ds k (.int z) .un .un .un) := by simp [lsB, LsE, a1, c'.1, c'.2]
      have s3 : lsC (LsE ps ds k (.int z) .un .un .un) = .ok .nx (LsE ps ds k (.int z) (.own (.val (.int (cAt ds k)))) .un .un) := by simp [lsC, LsE, cl, a2]
      have e4 := comp_pick (fun d => decide (d < cAt ds k)) hl hk hz (test := tst (op2 hLt (op2 hIx (dVar 1) (dVar 7)) (dVar 4))) (.int z) (.own (.val (.int (cAt ds k)))) .un .un (fun j hj => by
        have a3 := at_cl (cs := ds) (k := j) (by omega)
        simp [cl, a3])
      have s4 : lsD (LsE ps ds k (.int z) (.own (.val (.int (cAt ds k)))) .un .un) = .ok .nx (LsE ps ds k (.int z) (.own (.val (.int (cAt ds k)))) (.own (.val (.lst (row (lowK ps ds k))))) .un) := by
        unfold lsD
        rw [ev_set, e4, ev_bok]
        simp [LsE, lowK]
      have e5 := comp_pick (fun d => decide (d = cAt ds k)) hl hk hz (test := tst (op2 (hEq false) (op2 hIx (dVar 1) (dVar 7)) (dVar 4))) (.int z) (.own (.val (.int (cAt ds k)))) (.own (.val (.lst (row (lowK ps ds k))))) .un (fun j hj => by
        have a3 := at_cl (cs := ds) (k := j) (by omega)
        simp [cl, a3])
      have s5 : lsE (LsE ps ds k (.int z) (.own (.val (.int (cAt ds k)))) (.own (.val (.lst (row (lowK ps ds k))))) .un) = .ok .nx (LsE ps ds k (.int z) (.own (.val (.int (cAt ds k)))) (.own (.val (.lst (row (lowK ps ds k))))) (.own (.val (.lst (row (matK ps ds k)))))) := by
        unfold lsE
        rw [ev_set, e5, ev_bok]
        simp [LsE, matK]
      have l1 : (lowK ps ds k).length ≤ 100 := Nat.le_trans (pick_len _ _ _ _) (by omega)
      have l2 : (matK ps ds k).length ≤ 100 := Nat.le_trans (pick_len _ _ _ _) (by omega)
      have e6 := f_law_over_eq (matK ps ds k) z l2
      have e7 := f_law_over_eq (lowK ps ds k) z l1
      by_cases c2 : (0 : Int) < over (matK ps ds k) z
      · have s6 : lsF (LsE ps ds k (.int z) (.own (.val (.int (cAt ds k)))) (.own (.val (.lst (row (lowK ps ds k))))) (.own (.val (.lst (row (matK ps ds k)))))) = .ok (.ret (.val (.bl false))) (LsE ps ds k (.int z) (.own (.val (.int (cAt ds k)))) (.own (.val (.lst (row (lowK ps ds k))))) (.own (.val (.lst (row (matK ps ds k)))))) := by
          generalize ((over (matK ps ds k) z : Nat) : Int) = n at *
          simp [lsF, LsE, e6, c2]
        have e : showB ps ds k z = false := by simp only [showB, c2, decide_true, Bool.not_true, Bool.false_and, Bool.and_false]
        rw [e]
        exact mk_ret i0 (by rw [b_ls]; exact seq_nx s1 (seq_nx s2 (seq_nx s3 (seq_nx s4 (seq_nx s5 (seq_ret s6)))))) (by simp [LsE])
      · have s6 : lsF (LsE ps ds k (.int z) (.own (.val (.int (cAt ds k)))) (.own (.val (.lst (row (lowK ps ds k))))) (.own (.val (.lst (row (matK ps ds k)))))) = .ok .nx (LsE ps ds k (.int z) (.own (.val (.int (cAt ds k)))) (.own (.val (.lst (row (lowK ps ds k))))) (.own (.val (.lst (row (matK ps ds k)))))) := by
          generalize ((over (matK ps ds k) z : Nat) : Int) = n at *
          simp [lsF, LsE, e6, c2]
        have s7 : lsG (LsE ps ds k (.int z) (.own (.val (.int (cAt ds k)))) (.own (.val (.lst (row (lowK ps ds k))))) (.own (.val (.lst (row (matK ps ds k)))))) = .ok (.ret (.val (.bl (showB ps ds k z)))) (LsE ps ds k (.int z) (.own (.val (.int (cAt ds k)))) (.own (.val (.lst (row (lowK ps ds k))))) (.own (.val (.lst (row (matK ps ds k)))))) := by
          have e : showB ps ds k z = decide ((over (lowK ps ds k) z : Int) = cAt ds k - 1) := by simp only [showB, c, c2, decide_false, Bool.not_false, Bool.true_and]
          rw [e]
          generalize ((over (lowK ps ds k) z : Nat) : Int) = n at *
          simp [lsG, LsE, e7]
        exact mk_ret i0 (by rw [b_ls]; exact seq_nx s1 (seq_nx s2 (seq_nx s3 (seq_nx s4 (seq_nx s5 (seq_nx s6 s7)))))) (by simp [LsE])
    · have e : showB ps ds k z = false := by simp only [showB, c, Bool.false_and]
      have s2 : lsB (LsE ps ds k (.int z) .un .un .un) = .ok (.ret (.val (.bl false))) (LsE ps ds k (.int z) .un .un .un) := by
        simp [covB] at c
        by_cases c1 : (atP ps k).1 ≤ z
        · have := c c1
          have c3 : ¬ z ≤ (atP ps k).2 := by omega
          simp [lsB, LsE, a1, c1, c3]
        · simp [lsB, LsE, a1, c1]
      rw [e]
      exact mk_ret i0 (by rw [b_ls]; exact seq_nx s1 (seq_ret s2)) (by simp [LsE])
end Gk07
end
section
set_option maxRecDepth 100000
set_option maxHeartbeats 1000000
namespace Gk07
open PySem PySem.Spec PyProof.Rows L2 DL
variable [tb : Tb]
noncomputable def shZ : M (List D) := (dZip (dCons (dSl (dVar 0) dNoPart (dPart (dVar 2))) (dCons (dSl (dVar 1) dNoPart (dPart (dVar 2))) dNil)))
noncomputable def shA : M DL.Flow := (sSet .frz 4 (dComp shZ (.tp [(.nm 6), (.nm 7)]) [6, 7] (tst (op2 hLt (dVar 7) (op2 hIx (dVar 1) (dVar 2)))) (dVar 6)))
noncomputable def shB : M DL.Flow := (sSet .frz 5 (dComp shZ (.tp [(.nm 6), (.nm 7)]) [6, 7] (tst (op2 (hEq false) (dVar 7) (op2 hIx (dVar 1) (dVar 2)))) (dVar 6)))
noncomputable def shC : M DL.Flow := (sIf (tOr' (tNot' (tst (dCall f_covers [.v, .v] (dCons (op2 hIx (dVar 0) (dVar 2)) (dCons (dVar 3) dNil))))) (tst (op2 hGt (dCall f_load_over [.v, .v] (dCons (dVar 5) (dCons (dVar 3) dNil))) (dC (.int 0)))))
  (sRet (dC (.bl false)))
  sNx)
noncomputable def shD : M DL.Flow := (sRet (op2 (hEq false) (dCall f_load_over [.v, .v] (dCons (dVar 4) (dCons (dVar 3) dNil))) (op2 hSub (op2 hIx (dVar 1) (dVar 2)) (dC (.int 1)))))
theorem b_sh : b_shows = sSeq shA (sSeq shB (sSeq shC shD)) := rfl
def ShE (ps : List (Int × Int)) (ds : List Int) (k : Nat) (z : Int) (s4 s5 : Slot) : DEnv := [.own (.val (.lst (row ps))), .own (.val (cl ds)), .own (.val (.int (k : Nat))), .own (.val (.int z)), s4, s5, .un, .un]
theorem zipD_take (ps : List (Int × Int)) (ds : List Int) (k : Nat) : zipD (ps.take k) (ds.take k) k = zipD ps ds k := by
  unfold zipD
  apply List.map_congr_left
  intro j hj
  have hj := List.mem_range.mp hj
  rw [atP_take ps hj, cAt_take ds hj]
theorem comp_zip (t : Int → Bool) {ps : List (Int × Int)} {ds : List Int} (hl : ds.length = ps.length) {k : Nat} (hk : k < ps.length) (hz : ps.length ≤ 80) {test : M Bool} (z : Int) (s4 s5 : Slot)
    (ht : ∀ j, j < k → test [.own (.val (.lst (row ps))), .own (.val (cl ds)), .own (.val (.int (k : Nat))), .own (.val (.int z)), s4, s5, .own (.val (st (atP ps j).1 (atP ps j).2)), .own (.val (.int (cAt ds j)))] = .ok (t (cAt ds j)) [.own (.val (.lst (row ps))), .own (.val (cl ds)), .own (.val (.int (k : Nat))), .own (.val (.int z)), s4, s5, .own (.val (st (atP ps j).1 (atP ps j).2)), .own (.val (.int (cAt ds j)))]) :
    dComp shZ (.tp [(.nm 6), (.nm 7)]) [6, 7] test (dVar 6) (ShE ps ds k z s4 s5) = .ok (.own (.lst (row (pickI t ps ds k)))) (ShE ps ds k z s4 s5) := by
  have hu := hundred
  have e := compL_gen (tg := .tp [(.nm 6), (.nm 7)]) (vs := [6, 7]) (test := test) (elt := dVar 6) (env := ShE ps ds k z s4 s5)
    (fun j : Nat => .tup [st (atP ps j).1 (atP ps j).2, .int (cAt ds j)]) (fun j => st (atP ps j).1 (atP ps j).2) (fun j => t (cAt ds j)) (fun j => [.own (.val (.lst (row ps))), .own (.val (cl ds)), .own (.val (.int (k : Nat))), .own (.val (.int z)), s4, s5, .own (.val (st (atP ps j).1 (atP ps j).2)), .own (.val (.int (cAt ds j)))]) (fun q => rfl) (xs := List.range k) (acc := [])
    (fun j hj => by
      have hj := List.mem_range.mp hj
      exact ⟨by simp [ShE], ht j hj, fun _ => ⟨.val (st (atP ps j).1 (atP ps j).2), by simp, rfl⟩⟩)
    (by simp; omega)
  simp only [List.nil_append] at e
  rw [pick_row] at e
  have ez : shZ (ShE ps ds k z s4 s5) = .ok (zipD ps ds k) (ShE ps ds k z s4 s5) := by
    have e2 := cut_row ps (k := k) (by omega)
    have e3 := cut_cs ds (k := k) (by omega)
    have h1 : (row (ps.take k)).length = ((ds.take k).map D.int).length := by simp [row, hl]
    have h2 := zip_ix (ps := ps.take k) (ds := ds.take k) (by rw [List.length_take, List.length_take, hl])
    rw [List.length_take, Nat.min_eq_left (by omega), zipD_take] at h2
    simp [-List.map_take, shZ, ShE, cl, e2, e3, h1, h2]
  rw [ev_comp, ez, ev_bok]
  show (compL _ _ _ _ _ _ (ShE ps ds k z s4 s5)).bind _ = _
  rw [zipD, e, ev_bok]
  rfl
theorem f_shows_eq {ps : List (Int × Int)} {ds : List Int} (hl : ds.length = ps.length) {k : Nat} (hk : k < ps.length) (hz : ps.length ≤ 80) (z : Int) : f_shows [.val (.lst (row ps)), .val (cl ds), .val (.int (k : Nat)), .val (.int z)] = .ok (.val (.bl (showB ps ds k z))) [.val (.lst (row ps)), .val (cl ds), .val (.int (k : Nat)), .val (.int z)] := by
  have hu := hundred
  have i0 : initE [.val (.lst (row ps)), .val (cl ds), .val (.int (k : Nat)), .val (.int z)] 4 = ShE ps ds k z .un .un := rfl
  have a1 := at_row hk
  have a2 := at_cl (cs := ds) (k := k) (by omega)
  have e4 := comp_zip (fun d => decide (d < cAt ds k)) hl hk hz (test := tst (op2 hLt (dVar 7) (op2 hIx (dVar 1) (dVar 2)))) z .un .un (fun j hj => by simp [cl, a2])
  have s1 : shA (ShE ps ds k z .un .un) = .ok .nx (ShE ps ds k z (.own (.val (.lst (row (lowK ps ds k))))) .un) := by
    unfold shA
    rw [ev_set, e4, ev_bok]
    simp [ShE, lowK]
  have e5 := comp_zip (fun d => decide (d = cAt ds k)) hl hk hz (test := tst (op2 (hEq false) (dVar 7) (op2 hIx (dVar 1) (dVar 2)))) z (.own (.val (.lst (row (lowK ps ds k))))) .un (fun j hj => by simp [cl, a2])
  have s2 : shB (ShE ps ds k z (.own (.val (.lst (row (lowK ps ds k))))) .un) = .ok .nx (ShE ps ds k z (.own (.val (.lst (row (lowK ps ds k))))) (.own (.val (.lst (row (matK ps ds k)))))) := by
    unfold shB
    rw [ev_set, e5, ev_bok]
    simp [ShE, matK]
  have l1 : (lowK ps ds k).length ≤ 100 := Nat.le_trans (pick_len _ _ _ _) (by omega)
  have l2 : (matK ps ds k).length ≤ 100 := Nat.le_trans (pick_len _ _ _ _) (by omega)
  have e6 := f_load_over_eq (matK ps ds k) z l2
  have e7 := f_load_over_eq (lowK ps ds k) z l1
  have e8 := covers_eq (atP ps k).1 (atP ps k).2 z
  by_cases c : covB z (atP ps k) = true
  · have c' : covB z ((atP ps k).1, (atP ps k).2) = true := c
    by_cases c2 : (0 : Int) < over (matK ps ds k) z
    · have s6 : shC (ShE ps ds k z (.own (.val (.lst (row (lowK ps ds k))))) (.own (.val (.lst (row (matK ps ds k)))))) = .ok (.ret (.val (.bl false))) (ShE ps ds k z (.own (.val (.lst (row (lowK ps ds k))))) (.own (.val (.lst (row (matK ps ds k)))))) := by
        generalize ((over (matK ps ds k) z : Nat) : Int) = n at *
        simp [shC, ShE, a1, e8, c', e6, c2]
      have e : showB ps ds k z = false := by simp only [showB, c2, decide_true, Bool.not_true, Bool.false_and, Bool.and_false]
      rw [e]
      exact mk_ret i0 (by rw [b_sh]; exact seq_nx s1 (seq_nx s2 (seq_ret s6))) (by simp [ShE])
    · have s6 : shC (ShE ps ds k z (.own (.val (.lst (row (lowK ps ds k))))) (.own (.val (.lst (row (matK ps ds k)))))) = .ok .nx (ShE ps ds k z (.own (.val (.lst (row (lowK ps ds k))))) (.own (.val (.lst (row (matK ps ds k)))))) := by
        generalize ((over (matK ps ds k) z : Nat) : Int) = n at *
        simp [shC, ShE, a1, e8, c', e6, c2]
      have s7 : shD (ShE ps ds k z (.own (.val (.lst (row (lowK ps ds k))))) (.own (.val (.lst (row (matK ps ds k)))))) = .ok (.ret (.val (.bl (showB ps ds k z)))) (ShE ps ds k z (.own (.val (.lst (row (lowK ps ds k))))) (.own (.val (.lst (row (matK ps ds k)))))) := by
        have e : showB ps ds k z = decide ((over (lowK ps ds k) z : Int) = cAt ds k - 1) := by simp only [showB, c, c2, decide_false, Bool.not_false, Bool.true_and]
        rw [e]
        generalize ((over (lowK ps ds k) z : Nat) : Int) = n at *
        simp [shD, ShE, cl, a2, e7]
      exact mk_ret i0 (by rw [b_sh]; exact seq_nx s1 (seq_nx s2 (seq_nx s6 s7))) (by simp [ShE])
  · have e : showB ps ds k z = false := by simp only [showB, c, Bool.false_and]
    have c' : covB z ((atP ps k).1, (atP ps k).2) = false := by simpa using c
    have s6 : shC (ShE ps ds k z (.own (.val (.lst (row (lowK ps ds k))))) (.own (.val (.lst (row (matK ps ds k)))))) = .ok (.ret (.val (.bl false))) (ShE ps ds k z (.own (.val (.lst (row (lowK ps ds k))))) (.own (.val (.lst (row (matK ps ds k)))))) := by
      simp [shC, ShE, a1, e8, c']
    rw [e]
    exact mk_ret i0 (by rw [b_sh]; exact seq_nx s1 (seq_nx s2 (seq_ret s6))) (by simp [ShE])
theorem f_check_index_eq {ps : List (Int × Int)} (k : Nat) (hk : k < ps.length) : f_check_index [.val (.lst (row ps)), .val (.int k)] = .ok (.val .non) [.val (.lst (row ps)), .val (.int k)] := by
  have c1 : (0 : Int) ≤ k := by omega
  have c2 : (k : Int) ≤ (ps.length : Int) - 1 := by omega
  have := f_is_within_eq (.int k) 0 ((ps.length : Int) - 1) rfl
  simp only [inD, c1, c2] at this
  have hr : ((row ps).length : Int) = ps.length := by simp [row]
  simp [f_check_index, b_check_index, hr, this]
/-- the points among which a witness is looked for -/
def candL (ps : List (Int × Int)) (k : Nat) : List Int := (atP ps k).1 :: ((ps.take k).map (·.1) ++ (ps.take k).map fun p => p.2 + 1)
theorem cand_has {ps : List (Int × Int)} (hr : RowOk ps) {k : Nat} (hk : k < ps.length) : ∃ z ∈ candL ps k, showB ps (dep ps ps.length) k z = true := by
  obtain ⟨z, h1, h2, h3, h4⟩ := wit_ex (n := ps.length) hk (atP_ok hr k)
  refine ⟨z, ?_, ?_⟩
  · rcases h1 with h | ⟨j, hj, h⟩
    · rw [h]; exact List.mem_cons_self
    · refine List.mem_cons_of_mem _ (List.mem_append_left _ (List.mem_map.mpr ⟨atP ps j, ?_, h.symm⟩))
      rw [← atP_take ps hj]
      exact atP_mem (by rw [List.length_take]; omega)
  · have e1 : over (matK ps (dep ps ps.length) k) z = 0 := by unfold matK; rw [over_pick]; exact h3
    have e2 : (over (lowK ps (dep ps ps.length) k) z : Int) = cAt (dep ps ps.length) k - 1 := by unfold lowK; rw [over_pick]; exact h4
    simp only [showB, h2, e1, e2]
    simp
end Gk07
end
section
set_option maxRecDepth 100000
set_option maxHeartbeats 1000000
namespace Gk07
open PySem PySem.Spec PyProof.Rows L2 DL
variable [tb : Tb]
theorem ev_star {f : M R} {fs : M (List R)} {env e1 e2 : DEnv} {r : R} {ds : List D} {rs : List R} (h1 : f env = .ok r e1) (h2 : frzR r = some (.lst ds)) (h3 : fs e1 = .ok rs e2) : dStar f fs env = .ok (ds.map R.val ++ rs) e2 := by
  unfold dStar
  rw [h1, ev_bok, h2]
  simp only
  rw [h3, ev_bok]
theorem frz_vals : ∀ (ds : List D), frzRs (ds.map R.val) = some ds
  | [] => rfl
  | d :: ds => by simp only [List.map_cons, frzRs, frzR, frz_vals ds]
noncomputable def wiC1 : M R := (dComp (dSeqA (dSl (dVar 0) dNoPart (dPart (dVar 1)))) (.nm 6) [6] tTrue (op2 hIx (dVar 6) (dC (.int 0))))
noncomputable def wiC2 : M R := (dComp (dSeqA (dSl (dVar 0) dNoPart (dPart (dVar 1)))) (.nm 6) [6] tTrue (op2 hAdd (op2 hIx (dVar 6) (dC (.int 1))) (dC (.int 1))))
noncomputable def wiA : M DL.Flow := (sAsg (.tp [(.nm 2), (.nm 3)]) (dTup (dCons (dCall f_depths_of [.v] (dCons (dVar 0) dNil)) (dCons (op2 hIx (dVar 0) (dVar 1)) dNil))))
noncomputable def wiB : M DL.Flow := (sSet .frz 4 (dLst (dCons (op2 hIx (dVar 3) (dC (.int 0))) (dStar wiC1 (dStar wiC2 dNil)))))
noncomputable def wiD : M R := (dComp (dSeqA (dVar 4)) (.nm 5) [5] (tst (dCall f_shows [.v, .v, .v, .v] (dCons (dVar 0) (dCons (dVar 2) (dCons (dVar 1) (dCons (dVar 5) dNil)))))) (dVar 5))
theorem b_wi : b_witness = sSeq (sExpr (dCall f_check_row [.v] (dCons (dVar 0) dNil))) (sSeq (sExpr (dCall f_check_index [.v, .v] (dCons (dVar 0) (dCons (dVar 1) dNil)))) (sSeq wiA (sSeq wiB (sRet (op2 hIx wiD (dC (.int 0))))))) := rfl
def WiE (ps : List (Int × Int)) (k : Nat) (s2 s3 s4 : Slot) : DEnv := [.own (.val (.lst (row ps))), .own (.val (.int (k : Nat))), s2, s3, s4, .un, .un]
theorem f_witness_eq {ps : List (Int × Int)} (hr : RowOk ps) {k : Nat} (hk : k < ps.length) : ∃ z, f_witness [.val (.lst (row ps)), .val (.int (k : Nat))] = .ok (.val (.int z)) [.val (.lst (row ps)), .val (.int (k : Nat))] ∧ showB ps (dep ps ps.length) k z = true := by
  have hu := hundred
  have hl := hr.1
  have z2 : 2 ≤ sizeLine := sz (by omega)
  have dl := dep_len ps ps.length
  have i0 : initE [.val (.lst (row ps)), .val (.int (k : Nat))] 5 = WiE ps k .un .un .un := rfl
  have e1 := f_check_row_eq _ hr.plain hr.good
  have e2 := f_check_index_eq k hk
  have e3 := f_depths_of_eq hr
  have a1 := at_row hk
  have s1 : sExpr (dCall f_check_row [.v] (dCons (dVar 0) dNil)) (WiE ps k .un .un .un) = .ok .nx (WiE ps k .un .un .un) := by simp [WiE, e1]
  have s2 : sExpr (dCall f_check_index [.v, .v] (dCons (dVar 0) (dCons (dVar 1) dNil))) (WiE ps k .un .un .un) = .ok .nx (WiE ps k .un .un .un) := by simp [WiE, e2]
  have s3 : wiA (WiE ps k .un .un .un) = .ok .nx (WiE ps k (.own (.val (cl (dep ps ps.length)))) (.own (.val (st (atP ps k).1 (atP ps k).2))) .un) := by simp [wiA, WiE, e3, a1, z2, cl]
  have c1 := compL_mapx (i := 6) (elt := op2 hIx (dVar 6) (dC (.int 0))) (env := WiE ps k (.own (.val (cl (dep ps ps.length)))) (.own (.val (st (atP ps k).1 (atP ps k).2))) .un) (fun p : Int × Int => st p.1 p.2) (fun p => .int p.1) rfl (xs := ps.take k) (acc := [])
    (fun p hp => ⟨.val (.int p.1), by simp [WiE, st], rfl⟩) (by simp only [List.length_nil, Nat.zero_add, List.length_take]; omega)
  have c2 := compL_mapx (i := 6) (elt := op2 hAdd (op2 hIx (dVar 6) (dC (.int 1))) (dC (.int 1))) (env := WiE ps k (.own (.val (cl (dep ps ps.length)))) (.own (.val (st (atP ps k).1 (atP ps k).2))) .un) (fun p : Int × Int => st p.1 p.2) (fun p => .int (p.2 + 1)) rfl (xs := ps.take k) (acc := [])
    (fun p hp => ⟨.val (.int (p.2 + 1)), by simp [WiE, st], rfl⟩) (by simp only [List.length_nil, Nat.zero_add, List.length_take]; omega)
  simp only [List.nil_append] at c1 c2
  have hsl : dSeqA (dSl (dVar 0) dNoPart (dPart (dVar 1))) (WiE ps k (.own (.val (cl (dep ps ps.length)))) (.own (.val (st (atP ps k).1 (atP ps k).2))) .un) = .ok ((ps.take k).map fun p => st p.1 p.2) (WiE ps k (.own (.val (cl (dep ps ps.length)))) (.own (.val (st (atP ps k).1 (atP ps k).2))) .un) := by
    have e2 := cut_row ps (k := k) (by omega)
    rw [show ((ps.take k).map fun p => st p.1 p.2) = row (ps.take k) from rfl]
    simp [-List.map_take, WiE, e2]
  have r1 : wiC1 (WiE ps k (.own (.val (cl (dep ps ps.length)))) (.own (.val (st (atP ps k).1 (atP ps k).2))) .un) = .ok (.own (.lst ((ps.take k).map fun p => .int p.1))) (WiE ps k (.own (.val (cl (dep ps ps.length)))) (.own (.val (st (atP ps k).1 (atP ps k).2))) .un) := by
    unfold wiC1
    rw [ev_comp, hsl, ev_bok]
    show (compL _ _ _ _ _ _ (WiE ps k (.own (.val (cl (dep ps ps.length)))) (.own (.val (st (atP ps k).1 (atP ps k).2))) .un)).bind _ = _
    rw [c1, ev_bok]
    rfl
  have r2 : wiC2 (WiE ps k (.own (.val (cl (dep ps ps.length)))) (.own (.val (st (atP ps k).1 (atP ps k).2))) .un) = .ok (.own (.lst ((ps.take k).map fun p => .int (p.2 + 1)))) (WiE ps k (.own (.val (cl (dep ps ps.length)))) (.own (.val (st (atP ps k).1 (atP ps k).2))) .un) := by
    unfold wiC2
    rw [ev_comp, hsl, ev_bok]
    show (compL _ _ _ _ _ _ (WiE ps k (.own (.val (cl (dep ps ps.length)))) (.own (.val (st (atP ps k).1 (atP ps k).2))) .un)).bind _ = _
    rw [c2, ev_bok]
    rfl
  have r3 : dCons (op2 hIx (dVar 3) (dC (.int 0))) (dStar wiC1 (dStar wiC2 dNil)) (WiE ps k (.own (.val (cl (dep ps ps.length)))) (.own (.val (st (atP ps k).1 (atP ps k).2))) .un) = .ok (((candL ps k).map D.int).map R.val) (WiE ps k (.own (.val (cl (dep ps ps.length)))) (.own (.val (st (atP ps k).1 (atP ps k).2))) .un) := by
    have h1 : op2 hIx (dVar 3) (dC (.int 0)) (WiE ps k (.own (.val (cl (dep ps ps.length)))) (.own (.val (st (atP ps k).1 (atP ps k).2))) .un) = .ok (.val (.int (atP ps k).1)) (WiE ps k (.own (.val (cl (dep ps ps.length)))) (.own (.val (st (atP ps k).1 (atP ps k).2))) .un) := by simp [WiE, st]
    have q2 := ev_star (fs := dNil) r2 rfl ev_nil
    have q1 := ev_star (fs := dStar wiC2 dNil) r1 rfl q2
    rw [ev_cons, h1, ev_bok, q1, ev_bok]
    simp only [candL, List.map_cons, List.map_append, List.map_map, List.append_nil]
    rfl
  have cll : (candL ps k).length ≤ 60 := by simp [candL]; omega
  have s4 : wiB (WiE ps k (.own (.val (cl (dep ps ps.length)))) (.own (.val (st (atP ps k).1 (atP ps k).2))) .un) = .ok .nx (WiE ps k (.own (.val (cl (dep ps ps.length)))) (.own (.val (st (atP ps k).1 (atP ps k).2))) (.own (.val (.lst ((candL ps k).map D.int))))) := by
    unfold wiB
    rw [ev_set, ev_lst, r3, ev_bok, frz_vals]
    simp only [List.length_map]
    rw [if_pos (by omega), ev_bok]
    simp [WiE]
  have e4 := compL_gen (tg := .nm 5) (vs := [5]) (test := tst (dCall f_shows [.v, .v, .v, .v] (dCons (dVar 0) (dCons (dVar 2) (dCons (dVar 1) (dCons (dVar 5) dNil)))))) (elt := dVar 5) (env := WiE ps k (.own (.val (cl (dep ps ps.length)))) (.own (.val (st (atP ps k).1 (atP ps k).2))) (.own (.val (.lst ((candL ps k).map D.int)))))
    (fun z : Int => D.int z) (fun z => D.int z) (showB ps (dep ps ps.length) k) (fun z => [.own (.val (.lst (row ps))), .own (.val (.int (k : Nat))), .own (.val (cl (dep ps ps.length))), .own (.val (st (atP ps k).1 (atP ps k).2)), .own (.val (.lst ((candL ps k).map D.int))), .own (.val (.int z)), .un]) (fun q => rfl) (xs := candL ps k) (acc := [])
    (fun z hz => by
      have e5 := f_shows_eq (ds := dep ps ps.length) (by rw [dl]) hk (by omega) z
      simp only [cl] at e5
      exact ⟨by simp [WiE], by simp [cl, e5], fun _ => ⟨.val (.int z), by simp, rfl⟩⟩)
    (by simp only [List.length_nil, Nat.zero_add]; omega)
  simp only [List.nil_append] at e4
  have r5 : wiD (WiE ps k (.own (.val (cl (dep ps ps.length)))) (.own (.val (st (atP ps k).1 (atP ps k).2))) (.own (.val (.lst ((candL ps k).map D.int))))) = .ok (.own (.lst (((candL ps k).filter (showB ps (dep ps ps.length) k)).map D.int))) (WiE ps k (.own (.val (cl (dep ps ps.length)))) (.own (.val (st (atP ps k).1 (atP ps k).2))) (.own (.val (.lst ((candL ps k).map D.int))))) := by
    unfold wiD
    rw [ev_comp, show dSeqA (dVar 4) (WiE ps k (.own (.val (cl (dep ps ps.length)))) (.own (.val (st (atP ps k).1 (atP ps k).2))) (.own (.val (.lst ((candL ps k).map D.int))))) = .ok ((candL ps k).map fun z => D.int z) (WiE ps k (.own (.val (cl (dep ps ps.length)))) (.own (.val (st (atP ps k).1 (atP ps k).2))) (.own (.val (.lst ((candL ps k).map D.int))))) by simp [WiE], ev_bok]
    show (compL _ _ _ _ _ _ (WiE ps k (.own (.val (cl (dep ps ps.length)))) (.own (.val (st (atP ps k).1 (atP ps k).2))) (.own (.val (.lst ((candL ps k).map D.int)))))).bind _ = _
    rw [e4, ev_bok]
    rfl
  obtain ⟨z0, hz0, hs0⟩ := cand_has hr hk
  cases hf : (candL ps k).filter (showB ps (dep ps ps.length) k) with
  | nil =>
    have : z0 ∈ (candL ps k).filter (showB ps (dep ps ps.length) k) := List.mem_filter.mpr ⟨hz0, hs0⟩
    rw [hf] at this; cases this
  | cons z zs =>
    rw [hf] at r5
    have hz : z ∈ (candL ps k).filter (showB ps (dep ps ps.length) k) := by rw [hf]; exact List.mem_cons_self
    refine ⟨z, ?_, (List.mem_filter.mp hz).2⟩
    have s5 : sRet (op2 hIx wiD (dC (.int 0))) (WiE ps k (.own (.val (cl (dep ps ps.length)))) (.own (.val (st (atP ps k).1 (atP ps k).2))) (.own (.val (.lst ((candL ps k).map D.int))))) = .ok (.ret (.val (.int z))) (WiE ps k (.own (.val (cl (dep ps ps.length)))) (.own (.val (st (atP ps k).1 (atP ps k).2))) (.own (.val (.lst ((candL ps k).map D.int))))) := by
      rw [ev_ret, ev_op2, r5, ev_bok]
      simp
    exact mk_ret i0 (by rw [b_wi]; exact seq_nx s1 (seq_nx s2 (seq_nx s3 (seq_nx s4 s5)))) (by simp [WiE])
theorem f_is_witness_eq {ps : List (Int × Int)} (hr : RowOk ps) {k : Nat} (hk : k < ps.length) (d : D) (hd : plainD d = true) : f_is_witness [.val (.lst (row ps)), .val (.int (k : Nat)), .val d] = .ok (.val (.bl (showD ps (dep ps ps.length) k d))) [.val (.lst (row ps)), .val (.int (k : Nat)), .val d] := by
  have hl := hr.1
  have e1 := f_check_row_eq _ hr.plain hr.good
  have e2 := f_check_index_eq k hk
  have e3 := f_depths_of_eq hr
  have e4 := f_is_integer_eq d hd
  cases h : isIntD d with
  | false =>
    have e : showD ps (dep ps ps.length) k d = false := by cases d <;> simp [isIntD] at h <;> rfl
    rw [h] at e4
    simp [f_is_witness, b_is_witness, e1, e2, e4, e]
  | true =>
    cases d <;> simp [isIntD] at h
    rename_i z
    have e5 := f_shows_eq (ds := dep ps ps.length) (by rw [dep_len]) hk (by omega) z
    simp only [cl] at e5
    rw [show isIntD (.int z) = true from rfl] at e4
    simp [f_is_witness, b_is_witness, e1, e2, e3, e4, e5, showD]
end Gk07
end
section
set_option maxRecDepth 100000
set_option maxHeartbeats 400000
namespace Gk07
open PySem PySem.Spec PyProof.Rows L2 DL
variable [tb : Tb]
theorem NP.own {o : O} : NP (.own o) := rfl
theorem cAt_mem {l : List Int} {x : Int} (h : x ∈ l) : ∃ k, k < l.length ∧ cAt l k = x := by
  obtain ⟨k, hk, rfl⟩ := List.mem_iff_getElem.mp h
  exact ⟨k, hk, by simp [cAt, List.getD_eq_getElem?_getD, hk]⟩
theorem dep_small {ps : List (Int × Int)} (hr : RowOk ps) : ∀ x ∈ dep ps ps.length, 1 ≤ x ∧ x ≤ 21 := fun x hx => by
  obtain ⟨k, hk, rfl⟩ := cAt_mem hx
  rw [dep_len] at hk
  obtain ⟨h1, h2, -, -⟩ := lay_spec (n := ps.length) hk (atP_ok hr k)
  have := hr.1
  exact ⟨h1, by omega⟩
theorem hue_small {ps : List (Int × Int)} (hr : RowOk ps) : ∀ x ∈ hueL ps (dep ps ps.length) ps.length, 1 ≤ x ∧ x ≤ 100 := fun x hx => by
  obtain ⟨k, hk, rfl⟩ := cAt_mem hx
  rw [hue_len] at hk
  have h := hue_rng (n := ps.length) (atP_ok hr) hk
  obtain ⟨h1, h2, -, -⟩ := lay_spec (n := ps.length) hk (atP_ok hr k)
  have := hr.1
  omega
theorem hue_cols {ps : List (Int × Int)} (hr : RowOk ps) : Cols (hueL ps (dep ps ps.length) ps.length) := fun x hx => by
  have := hue_small hr x hx
  omega
/-- the greatest colour -/
theorem hue_bound {ps : List (Int × Int)} (hr : RowOk ps) : maxL (0 :: hueL ps (dep ps ps.length) ps.length) ≤ max 0 (3 * load ps - 2) := by
  have := maxL_mem (l := 0 :: hueL ps (dep ps ps.length) ps.length) (by simp)
  rcases List.mem_cons.mp this with h | h
  · rw [h]; omega
  · obtain ⟨k, hk, e⟩ := cAt_mem h
    rw [hue_len] at hk
    have h1 := hue_rng (n := ps.length) (atP_ok hr) hk
    have h2 := dep_load (atP_ok hr) hk
    have h3 : load (ps.take (k + 1)) ≤ load ps := by
      rcases load_at' (ps.take (k + 1)) with h | ⟨z, h⟩
      · rw [h]; exact (load_le ps).1
      · rw [← h]
        have : over (ps.take (k + 1)) z ≤ over ps z := by
          unfold over
          exact ((List.take_sublist (k + 1) ps).filter _).length_le
        have := over_load ps z
        omega
    omega
theorem dispC {l : List Int} (h : ∀ x ∈ l, 1 ≤ x ∧ x ≤ 100) (hl : l.length ≤ 20) : DB.Disp 1100 3 (cl l) := by
  have : ∀ d ∈ l.map D.int, DB.Disp 50 2 d := fun d hd => by
    obtain ⟨x, hx, rfl⟩ := List.mem_map.mp hd
    have := h x hx
    exact DB.disp_int (n := 2) (by omega)
  refine (DB.disp_lst (DB.disps_all this)).up ?_ (by omega)
  have := Nat.mul_le_mul_right 51 (show (l.map D.int).length ≤ 20 by simpa using hl)
  omega
theorem repr_two {ps : List (Int × Int)} (hr : RowOk ps) : ∃ p, hRepr3 [.lst [cl (dep ps ps.length), cl (hueL ps (dep ps ps.length) ps.length)]] = some (.val (.str (PyData.shown p))) ∧ leafOk p = true := by
  have hl := hr.1
  have d1 := dispC (fun x hx => by have := dep_small hr x hx; omega) (show (dep ps ps.length).length ≤ 20 by rw [dep_len]; omega)
  have d2 := dispC (hue_small hr) (show (hueL ps (dep ps ps.length) ps.length).length ≤ 20 by rw [hue_len]; omega)
  obtain ⟨p, h1, h2⟩ := DB.repr_ok (DB.disp_lst (DB.disps_cons d1 (DB.disps_cons d2 (DB.disps_nil (w := 0))))) (by omega) (by omega) rfl
  exact ⟨p, repr3_of (repr2_of h1), h2⟩
theorem disp_rowB {ps : List (Int × Int)} (hr : RowOk ps) : DB.Disp 20000 6 (.lst (row ps)) := by
  have hl := hr.1
  have h : ∀ d ∈ row ps, DB.Disp 150 3 d := fun d hd => by
    obtain ⟨p, hp, rfl⟩ := List.mem_map.mp hd
    obtain ⟨h1, h2, h3⟩ := hr.2 p hp
    exact (DB.disp_tup (DB.disps_cons (DB.disp_int (n := 2) (show p.1.natAbs < 10 ^ 12 by omega)) (DB.disps_cons (DB.disp_int (n := 2) (show p.2.natAbs < 10 ^ 12 by omega)) (DB.disps_nil (w := 0))))).up (by omega) (by omega)
  refine (DB.disp_lst (DB.disps_all h)).up ?_ (by omega)
  have : (row ps).length = ps.length := by simp [row]
  have := Nat.mul_le_mul_right 151 (show (row ps).length ≤ 41 by omega)
  omega
theorem repr_row {ps : List (Int × Int)} (hr : RowOk ps) : ∃ p, hRepr3 [.lst (row ps)] = some (.val (.str (PyData.shown p))) ∧ leafOk p = true := by
  obtain ⟨p, h1, h2⟩ := DB.repr_ok (disp_rowB hr) (by omega) (by omega) rfl
  exact ⟨p, repr3_of (repr2_of h1), h2⟩
def LE (a0 a1 a2 a3 a4 a5 a6 a7 a8 a9 a10 a11 a12 a13 a14 a15 a16 a17 a18 a19 a20 : Slot) : DEnv := [a0, a1, a2, a3, a4, a5, a6, a7, a8, a9, a10, a11, a12, a13, a14, a15, a16, a17, a18, a19, a20]
noncomputable def lapA : M DL.Flow := (sSet .frz 3 (dCall f__law_row [.io, .v] (dCons (dVar 1) (dCons (dC (.int 12)) dNil))))
noncomputable def lapB : M DL.Flow := (sAsg (.tp [(.nm 4), (.nm 5)]) (dTup (dCons (dB hRepr3 (dCons (dVar 3) dNil)) (dCons (dCall f__law_layers [.v] (dCons (dVar 3) dNil)) dNil))))
noncomputable def lapC : M DL.Flow := (sSet .frz 6 (dCall f__law_hues [.v] (dCons (dVar 3) dNil)))
noncomputable def agA : M DL.Flow := (sSet .keep 8 (dLstO (dCons (dCall f_layers [.v] (dCons (dVar 3) dNil)) (dCons (dCall f_layered [.v] (dCons (dVar 3) dNil)) dNil))))
noncomputable def agB : M DL.Flow := (sIf (tst (op2 (hEq true) (dReprLo 8) (dB hRepr3 (dCons (dLst (dCons (dVar 5) (dCons (dVar 6) dNil))) dNil))))
  (sRet (dC (.bl false)))
  sNx)
noncomputable def agC : M DL.Flow := (sSeq (sExpr (dApp2 8 0)) (sExpr (dApp2 8 1)))
noncomputable def lapD : M DL.Flow := sFor (dRng1 (dC (.int 2))) (.nm 7) (sSeq agA (sSeq agB agC))
noncomputable def lapE : M DL.Flow := (sSet .frz 9 (dB hMax2 (dCons (dC (.int 0)) (dCons (op2 hSub (op2 hMul (dC (.int 3)) (dCall f__law_load [.v] (dCons (dVar 3) dNil))) (dC (.int 2))) dNil))))
noncomputable def lapF : M DL.Flow := (sIf (tOr' (tNot' (tst (dCall f__law_is_right [.v, .v] (dCons (dVar 3) (dCons (dVar 6) dNil))))) (tst (op2 hGt (dB (overInts gMax) (dCons (op2 hAdd (dLst (dCons (dC (.int 0)) dNil)) (dVar 6)) dNil)) (dVar 9))))
  (sRet (dC (.bl false)))
  sNx)
section
variable {ps : List (Int × Int)} {a0 a1 a2 a3 a4 a5 a6 a7 a8 a9 a10 a11 a12 a13 a14 a15 a16 a17 a18 a19 a20 : Slot}
theorem lapA_ok {b : Int} {l : List D} (hp : PenOk b (.lst l)) (hb : b < 2 ^ 50) (h3 : NP a3) :
    ∃ l2 ps, lapA (LE a0 (.own (.lst l)) a2 a3 a4 a5 a6 a7 a8 a9 a10 a11 a12 a13 a14 a15 a16 a17 a18 a19 a20) = .ok .nx (LE a0 (.own (.lst l2)) a2 (.own (.val (.lst (row ps)))) a4 a5 a6 a7 a8 a9 a10 a11 a12 a13 a14 a15 a16 a17 a18 a19 a20) ∧ PenOk (b + 60) (.lst l2) ∧ RowOk ps := by
  have f3 : ∀ env, free (a3 :: env) 0 = true := fun env => np0 h3
  obtain ⟨o2, ps, e, p1, hr⟩ := row_ok hp hb
  obtain ⟨l2, rfl⟩ := p1.lst
  refine ⟨l2, ps, ?_, p1, hr⟩
  simp [lapA, LE, -ev_fr0, f3, e]
theorem lapB_ok (hr : RowOk ps) (h4 : NP a4) (h5 : NP a5) {p : PyData} (hp : hRepr3 [.lst (row ps)] = some (.val (.str (PyData.shown p)))) : lapB (LE a0 a1 a2 (.own (.val (.lst (row ps)))) a4 a5 a6 a7 a8 a9 a10 a11 a12 a13 a14 a15 a16 a17 a18 a19 a20) = .ok .nx (LE a0 a1 a2 (.own (.val (.lst (row ps)))) (.own (.val (.str (PyData.shown p)))) (.own (.val (cl (dep ps ps.length)))) a6 a7 a8 a9 a10 a11 a12 a13 a14 a15 a16 a17 a18 a19 a20) := by
  have f4 : ∀ env, free (a4 :: env) 0 = true := fun env => np0 h4
  have f5 : ∀ env, free (a5 :: env) 0 = true := fun env => np0 h5
  have z2 : 2 ≤ sizeLine := sz (by omega)
  have e1 := f_law_layers_eq hr
  simp [lapB, LE, -ev_fr0, f4, f5, e1, hp, z2, cl]
theorem lapC_ok (hr : RowOk ps) (h6 : NP a6) : lapC (LE a0 a1 a2 (.own (.val (.lst (row ps)))) a4 a5 a6 a7 a8 a9 a10 a11 a12 a13 a14 a15 a16 a17 a18 a19 a20) = .ok .nx (LE a0 a1 a2 (.own (.val (.lst (row ps)))) a4 a5 (.own (.val (cl (hueL ps (dep ps ps.length) ps.length)))) a7 a8 a9 a10 a11 a12 a13 a14 a15 a16 a17 a18 a19 a20) := by
  have f6 : ∀ env, free (a6 :: env) 0 = true := fun env => np0 h6
  have e1 := f_law_hues_eq hr
  simp [lapC, LE, -ev_fr0, f6, e1, cl]
theorem agA_ok (hr : RowOk ps) (h8 : NP a8) : agA (LE a0 a1 a2 (.own (.val (.lst (row ps)))) a4 a5 a6 a7 a8 a9 a10 a11 a12 a13 a14 a15 a16 a17 a18 a19 a20) = .ok .nx (LE a0 a1 a2 (.own (.val (.lst (row ps)))) a4 a5 a6 a7 (.own (.lo [.lst ((dep ps ps.length).map D.int), .lst ((hueL ps (dep ps ps.length) ps.length).map D.int)])) a9 a10 a11 a12 a13 a14 a15 a16 a17 a18 a19 a20) := by
  have f8 : ∀ env, free (a8 :: env) 0 = true := fun env => np0 h8
  have z2 : 2 ≤ sizeLine := sz (by omega)
  have e1 := f_layers_eq hr
  have e2 := f_layered_eq hr
  simp [agA, LE, -ev_fr0, f8, dLstO, ownRs, ownR, e1, e2, z2]
theorem agB_ok {ds hs : List Int} {p : PyData} (hp : hRepr3 [.lst [cl ds, cl hs]] = some (.val (.str (PyData.shown p)))) (hp2 : leafOk p = true) : agB (LE a0 a1 a2 a3 a4 (.own (.val (cl ds))) (.own (.val (cl hs))) a7 (.own (.lo [.lst (ds.map D.int), .lst (hs.map D.int)])) a9 a10 a11 a12 a13 a14 a15 a16 a17 a18 a19 a20) = .ok .nx (LE a0 a1 a2 a3 a4 (.own (.val (cl ds))) (.own (.val (cl hs))) a7 (.own (.lo [.lst (ds.map D.int), .lst (hs.map D.int)])) a9 a10 a11 a12 a13 a14 a15 a16 a17 a18 a19 a20) := by
  have z2 : 2 ≤ sizeLine := sz (by omega)
  have e1 : dReprLo 8 (LE a0 a1 a2 a3 a4 (.own (.val (cl ds))) (.own (.val (cl hs))) a7 (.own (.lo [.lst (ds.map D.int), .lst (hs.map D.int)])) a9 a10 a11 a12 a13 a14 a15 a16 a17 a18 a19 a20) = .ok (.val (.str (PyData.shown p))) (LE a0 a1 a2 a3 a4 (.own (.val (cl ds))) (.own (.val (cl hs))) a7 (.own (.lo [.lst (ds.map D.int), .lst (hs.map D.int)])) a9 a10 a11 a12 a13 a14 a15 a16 a17 a18 a19 a20) := by
    unfold dReprLo
    rw [show loAt (LE a0 a1 a2 a3 a4 (.own (.val (cl ds))) (.own (.val (cl hs))) a7 (.own (.lo [.lst (ds.map D.int), .lst (hs.map D.int)])) a9 a10 a11 a12 a13 a14 a15 a16 a17 a18 a19 a20) 8 = some [.lst (ds.map D.int), .lst (hs.map D.int)] from rfl]
    simp only [show (O.frzs [.lst (ds.map D.int), .lst (hs.map D.int)]) = some [cl ds, cl hs] from rfl, hp]
  have e5 := heq_shown hp2 hp2 true
  unfold agB
  rw [ev_if, ev_tst, ev_op2, e1, ev_bok]
  simp [LE, hp, e5, z2]
theorem agC_ok {l1 l2 : List D} (h1 : l1.length < sizeLine) (h2 : l2.length < sizeLine) : agC (LE a0 a1 a2 a3 a4 a5 a6 a7 (.own (.lo [.lst l1, .lst l2])) a9 a10 a11 a12 a13 a14 a15 a16 a17 a18 a19 a20) = .ok .nx (LE a0 a1 a2 a3 a4 a5 a6 a7 (.own (.lo [.lst (l1 ++ [.non]), .lst (l2 ++ [.non])])) a9 a10 a11 a12 a13 a14 a15 a16 a17 a18 a19 a20) := by
  have e1 : dApp2 8 0 (LE a0 a1 a2 a3 a4 a5 a6 a7 (.own (.lo [.lst l1, .lst l2])) a9 a10 a11 a12 a13 a14 a15 a16 a17 a18 a19 a20) = .ok (.val .non) (LE a0 a1 a2 a3 a4 a5 a6 a7 (.own (.lo [.lst (l1 ++ [.non]), .lst l2])) a9 a10 a11 a12 a13 a14 a15 a16 a17 a18 a19 a20) := by
    unfold dApp2
    rw [show loAt (LE a0 a1 a2 a3 a4 a5 a6 a7 (.own (.lo [.lst l1, .lst l2])) a9 a10 a11 a12 a13 a14 a15 a16 a17 a18 a19 a20) 8 = some [.lst l1, .lst l2] from rfl]
    simp only [List.getElem?_cons_zero, if_pos h1]
    rfl
  have e2 : dApp2 8 1 (LE a0 a1 a2 a3 a4 a5 a6 a7 (.own (.lo [.lst (l1 ++ [.non]), .lst l2])) a9 a10 a11 a12 a13 a14 a15 a16 a17 a18 a19 a20) = .ok (.val .non) (LE a0 a1 a2 a3 a4 a5 a6 a7 (.own (.lo [.lst (l1 ++ [.non]), .lst (l2 ++ [.non])])) a9 a10 a11 a12 a13 a14 a15 a16 a17 a18 a19 a20) := by
    unfold dApp2
    rw [show loAt (LE a0 a1 a2 a3 a4 a5 a6 a7 (.own (.lo [.lst (l1 ++ [.non]), .lst l2])) a9 a10 a11 a12 a13 a14 a15 a16 a17 a18 a19 a20) 8 = some [.lst (l1 ++ [.non]), .lst l2] from rfl]
    simp only [List.getElem?_cons_succ, List.getElem?_cons_zero, if_pos h2]
    rfl
  unfold agC
  rw [ev_seq, ev_expr, e1, ev_bok, ev_bok]
  show sExpr (dApp2 8 1) _ = _
  rw [ev_expr, e2, ev_bok]
theorem lapD_ok (hr : RowOk ps) (h7 : NP a7) (h8 : NP a8) : ∃ t7 t8, lapD (LE a0 a1 a2 (.own (.val (.lst (row ps)))) a4 (.own (.val (cl (dep ps ps.length)))) (.own (.val (cl (hueL ps (dep ps ps.length) ps.length)))) a7 a8 a9 a10 a11 a12 a13 a14 a15 a16 a17 a18 a19 a20) = .ok .nx (LE a0 a1 a2 (.own (.val (.lst (row ps)))) a4 (.own (.val (cl (dep ps ps.length)))) (.own (.val (cl (hueL ps (dep ps ps.length) ps.length)))) t7 t8 a9 a10 a11 a12 a13 a14 a15 a16 a17 a18 a19 a20) ∧ NP t7 ∧ NP t8 := by
  have hu := hundred
  have hl := hr.1
  obtain ⟨p, r1, r2⟩ := repr_two hr
  have l1 : ((dep ps ps.length).map D.int).length < sizeLine := by rw [List.length_map, dep_len]; omega
  have l2 : ((hueL ps (dep ps ps.length) ps.length).map D.int).length < sizeLine := by rw [List.length_map, hue_len]; omega
  have f7 : ∀ env, free (a7 :: env) 0 = true := fun env => np0 h7
  have one : ∀ {a7 a8 : Slot}, NP a8 → (sSeq agA (sSeq agB agC)) (LE a0 a1 a2 (.own (.val (.lst (row ps)))) a4 (.own (.val (cl (dep ps ps.length)))) (.own (.val (cl (hueL ps (dep ps ps.length) ps.length)))) a7 a8 a9 a10 a11 a12 a13 a14 a15 a16 a17 a18 a19 a20) = .ok .nx (LE a0 a1 a2 (.own (.val (.lst (row ps)))) a4 (.own (.val (cl (dep ps ps.length)))) (.own (.val (cl (hueL ps (dep ps ps.length) ps.length)))) a7 (.own (.lo [.lst ((dep ps ps.length).map D.int ++ [.non]), .lst ((hueL ps (dep ps ps.length) ps.length).map D.int ++ [.non])])) a9 a10 a11 a12 a13 a14 a15 a16 a17 a18 a19 a20) := fun h => seq_nx (agA_ok hr h) (seq_nx (agB_ok r1 r2) (agC_ok l1 l2))
  refine ⟨.own (.val (.int 1)), .own (.lo [.lst ((dep ps ps.length).map D.int ++ [.non]), .lst ((hueL ps (dep ps ps.length) ps.length).map D.int ++ [.non])]), ?_, NP.val, NP.own⟩
  unfold lapD
  have q1 := one (a7 := .own (.val (.int 0))) h8
  have q2 := one (a7 := .own (.val (.int 1))) (a8 := .own (.lo [.lst ((dep ps ps.length).map D.int ++ [.non]), .lst ((hueL ps (dep ps ps.length) ps.length).map D.int ++ [.non])])) NP.own
  refine for_eq rng2 (for2 ?_ q1 ?_ q2)
  · simp [LE, -ev_fr0, f7]
  · simp [LE]
theorem lapE_ok (hr : RowOk ps) (h9 : NP a9) : lapE (LE a0 a1 a2 (.own (.val (.lst (row ps)))) a4 a5 a6 a7 a8 a9 a10 a11 a12 a13 a14 a15 a16 a17 a18 a19 a20) = .ok .nx (LE a0 a1 a2 (.own (.val (.lst (row ps)))) a4 a5 a6 a7 a8 (.own (.val (.int (max 0 (3 * load ps - 2))))) a10 a11 a12 a13 a14 a15 a16 a17 a18 a19 a20) := by
  have f9 : ∀ env, free (a9 :: env) 0 = true := fun env => np0 h9
  have hl := hr.1
  have e1 := f_law_load_eq ps (by omega)
  have m3 : cMul 3 (load ps) = true := cMul_l (by decide) (by decide)
  simp [lapE, LE, -ev_fr0, f9, e1, m3]
theorem lapF_ok (hr : RowOk ps) : lapF (LE a0 a1 a2 (.own (.val (.lst (row ps)))) a4 a5 (.own (.val (cl (hueL ps (dep ps ps.length) ps.length)))) a7 a8 (.own (.val (.int (max 0 (3 * load ps - 2))))) a10 a11 a12 a13 a14 a15 a16 a17 a18 a19 a20) = .ok .nx (LE a0 a1 a2 (.own (.val (.lst (row ps)))) a4 a5 (.own (.val (cl (hueL ps (dep ps ps.length) ps.length)))) a7 a8 (.own (.val (.int (max 0 (3 * load ps - 2))))) a10 a11 a12 a13 a14 a15 a16 a17 a18 a19 a20) := by
  have hu := hundred
  have hl := hr.1
  have e1 := f_law_is_right_eq hr (cl (hueL ps (dep ps ps.length) ps.length)) (cl_plain (by rw [hue_len]; omega))
  rw [right_cl (hue_cols hr) (hue_len _ _ _), hue_right (atP_ok hr)] at e1
  have e2 : overInts gMax [.lst (.int 0 :: (hueL ps (dep ps ps.length) ps.length).map D.int)] = some (.val (.int (maxL (0 :: hueL ps (dep ps ps.length) ps.length)))) := by
    have h4 : D.ints (.int 0 :: (hueL ps (dep ps ps.length) ps.length).map D.int) = some (0 :: hueL ps (dep ps ps.length) ps.length) := by
      have := D.ints_map (0 :: hueL ps (dep ps ps.length) ps.length)
      simpa using this
    simp only [overInts, h4, gMax]
    simp
  have hb := hue_bound hr
  have hn : ¬ (max 0 (3 * load ps - 2) < maxL (0 :: hueL ps (dep ps ps.length) ps.length)) := by omega
  have z1 : 1 ≤ sizeLine := sz (by omega)
  have z2 : 1 + (hueL ps (dep ps ps.length) ps.length).length ≤ sizeLine := by rw [hue_len]; omega
  simp only [cl] at e1
  generalize hueL ps (dep ps ps.length) ps.length = H at *
  generalize maxL (0 :: H) = m at *
  generalize max 0 (3 * load ps - 2) = n at *
  simp [lapF, LE, cl, e1, e2, z1, z2, hn]
end
end Gk07
end
section
set_option maxRecDepth 100000
set_option maxHeartbeats 400000
namespace Gk07
open PySem PySem.Spec PyProof.Rows L2 DL
variable [tb : Tb]
noncomputable def k1 : M DL.Flow := (sAsg (.tp [(.nm 11), (.nm 12)]) (dTup (dCons (op2 hIx (dVar 3) (dVar 10)) (dCons (op2 hIx (dVar 5) (dVar 10)) dNil))))
noncomputable def k2 : M DL.Flow := (sSet .frz 13 (dComp (dRng1 (dB hLen (dCons (dVar 3) dNil))) (.nm 19) [19] (tst (op2 (hEq false) (op2 hIx (dVar 5) (dVar 19)) (dVar 12))) (op2 hIx (dVar 3) (dVar 19))))
noncomputable def k3c : M R := (dComp (dSeqA (dVar 13)) (.nm 20) [20] tTrue (dB hInt (dCons (dCall f__law_touch [.v, .v] (dCons (dVar 20) (dCons (dVar 11) dNil))) dNil)))
noncomputable def k3 : M DL.Flow := (sSet .frz 14 (op2 hSub (dB hSum (dCons k3c dNil)) (dC (.int 1))))
noncomputable def k4 : M DL.Flow := (sIf (tOr' (tst (op2 hGt (dVar 14) (dC (.int 2)))) (tAnd' (tst (op2 (hEq false) (dVar 12) (dC (.int 1)))) (tst (op2 hGt (dVar 14) (dC (.int 0))))))
  (sRet (dC (.bl false)))
  sNx)
noncomputable def k5 : M DL.Flow := (sIf (tst (op2 hGt (dVar 12) (dCall f__law_load [.v] (dCons (dSl (dVar 3) dNoPart (dPart (op2 hAdd (dVar 10) (dC (.int 1))))) dNil))))
  (sRet (dC (.bl false)))
  sNx)
noncomputable def k6 : M DL.Flow := (sIf (tNot' (tst (dCall f__law_shows [.v, .v, .v, .v] (dCons (dVar 3) (dCons (dVar 5) (dCons (dVar 10) (dCons (dCall f_witness [.v, .v] (dCons (dVar 3) (dCons (dVar 10) dNil))) dNil)))))))
  (sRet (dC (.bl false)))
  sNx)
noncomputable def kBody : M DL.Flow := sSeq k1 (sSeq k2 (sSeq k3 (sSeq k4 (sSeq k5 k6))))
/-- how many of k's layer touch k, but for k itself -/
def manyK (ps : List (Int × Int)) (k : Nat) : Nat := cnt ps.length fun j => decide (cAt (dep ps ps.length) j = cAt (dep ps ps.length) k) && (!decide (j = k) && tch (atP ps j) (atP ps k))
def nearK (ps : List (Int × Int)) (k : Nat) : List (Int × Int) := pickI (fun d => decide (d = cAt (dep ps ps.length) k)) ps (dep ps ps.length) ps.length
theorem cnt_but {n k : Nat} (hk : k < n) {p : Nat → Bool} (h : p k = true) : cnt n p = (cnt n fun j => p j && !decide (j = k)) + 1 := by
  rw [cnt_split n p (fun j => p j && !decide (j = k)) (fun j => decide (j = k)) fun j hj => ?_]
  · congr 1
    refine Nat.le_antisymm (cnt_one fun i j _ _ h1 h2 => ?_) (cnt_pos hk (by simp))
    simp only [decide_eq_true_eq] at h1 h2
    omega
  · by_cases c : j = k
    · subst c; simp [h]
    · simp [c]
theorem near_sum {ps : List (Int × Int)} (hr : RowOk ps) {k : Nat} (hk : k < ps.length) : ((nearK ps k).map fun q => if tch q (atP ps k) = true then (1 : Int) else 0).sum = (manyK ps k : Int) + 1 := by
  have e1 : ∀ l : List (Int × Int), (l.map fun q => if tch q (atP ps k) = true then (1 : Int) else 0).sum = ((l.filter fun q => tch q (atP ps k)).length : Nat) := by
    intro l
    induction l with
    | nil => rfl
    | cons q l ih =>
      rw [List.map_cons, List.sum_cons, ih, List.filter_cons]
      by_cases c : tch q (atP ps k) = true
      · rw [if_pos c, if_pos c, List.length_cons]; omega
      · rw [if_neg c, if_neg c]; omega
  rw [e1]
  have e2 : ((nearK ps k).filter fun q => tch q (atP ps k)).length = cnt ps.length fun j => decide (cAt (dep ps ps.length) j = cAt (dep ps ps.length) k) && tch (atP ps j) (atP ps k) := by
    unfold nearK pickI cnt
    rw [mapix, List.filter_filter]
    congr 1
    apply List.filter_congr
    intro j _
    rw [Bool.and_comm]
  rw [e2, cnt_but hk]
  · unfold manyK
    rw [cnt_cong fun j _ => show (decide (cAt (dep ps ps.length) j = cAt (dep ps ps.length) k) && tch (atP ps j) (atP ps k) && !decide (j = k)) = (decide (cAt (dep ps ps.length) j = cAt (dep ps ps.length) k) && (!decide (j = k) && tch (atP ps j) (atP ps k))) by rw [Bool.and_assoc, Bool.and_comm (tch _ _)]]
    omega
  · have := atP_ok hr k
    simp [tch, this]
theorem many_two {ps : List (Int × Int)} (hr : RowOk ps) {k : Nat} (hk : k < ps.length) : manyK ps k ≤ 2 := touch_two (n := ps.length) (atP_ok hr) hk
theorem many_one {ps : List (Int × Int)} (hr : RowOk ps) {k : Nat} (hk : k < ps.length) (h : cAt (dep ps ps.length) k = 1) : manyK ps k = 0 := by
  rcases Nat.eq_zero_or_pos (manyK ps k) with e | e
  · exact e
  · exfalso
    unfold manyK cnt at e
    obtain ⟨j, hj⟩ := List.exists_mem_of_length_pos e
    obtain ⟨h1, h2⟩ := List.mem_filter.mp hj
    have h1 := List.mem_range.mp h1
    simp only [Bool.and_eq_true, decide_eq_true_eq, Bool.not_eq_true', decide_eq_false_iff_not] at h2
    obtain ⟨h3, h4, h5⟩ := h2
    rcases Nat.lt_or_gt_of_ne h4 with c | c
    · rw [touch_one (n := ps.length) (atP_ok hr) c hk (by omega) h] at h5; cases h5
    · rw [tch_symm, touch_one (n := ps.length) (atP_ok hr) c h1 h (by omega)] at h5; cases h5
def KE (ps : List (Int × Int)) (k : Nat) (a0 a1 a2 a4 a6 a7 a8 a9 s11 s12 s13 s14 a15 a16 a17 a18 : Slot) : DEnv := LE a0 a1 a2 (.own (.val (.lst (row ps)))) a4 (.own (.val (cl (dep ps ps.length)))) a6 a7 a8 a9 (.own (.val (.int (k : Nat)))) s11 s12 s13 s14 a15 a16 a17 a18 .un .un
section
variable {ps : List (Int × Int)} {k : Nat} {a0 a1 a2 a4 a6 a7 a8 a9 a15 a16 a17 a18 s11 s12 s13 s14 : Slot}
theorem k1_ok (hr : RowOk ps) (hk : k < ps.length) (h11 : NP s11) (h12 : NP s12) : k1 (KE ps k a0 a1 a2 a4 a6 a7 a8 a9 s11 s12 s13 s14 a15 a16 a17 a18) = .ok .nx (KE ps k a0 a1 a2 a4 a6 a7 a8 a9 (.own (.val (st (atP ps k).1 (atP ps k).2))) (.own (.val (.int (cAt (dep ps ps.length) k)))) s13 s14 a15 a16 a17 a18) := by
  have f11 : ∀ env, free (s11 :: env) 0 = true := fun env => np0 h11
  have f12 : ∀ env, free (s12 :: env) 0 = true := fun env => np0 h12
  have z2 : 2 ≤ sizeLine := sz (by omega)
  have a1' := at_row hk
  have a2' := at_cl (cs := dep ps ps.length) (k := k) (by rw [dep_len]; exact hk)
  simp [k1, KE, LE, cl, -ev_fr0, f11, f12, a1', a2', z2]
theorem k2_ok (hr : RowOk ps) (hk : k < ps.length) (h13 : NP s13) {x : D} : k2 (KE ps k a0 a1 a2 a4 a6 a7 a8 a9 (.own (.val x)) (.own (.val (.int (cAt (dep ps ps.length) k)))) s13 s14 a15 a16 a17 a18) = .ok .nx (KE ps k a0 a1 a2 a4 a6 a7 a8 a9 (.own (.val x)) (.own (.val (.int (cAt (dep ps ps.length) k)))) (.own (.val (.lst (row (nearK ps k))))) s14 a15 a16 a17 a18) := by
  have hu := hundred
  have hl := hr.1
  have rl : (row ps).length = ps.length := by simp [row]
  have f13 : ∀ env, free (s13 :: env) 0 = true := fun env => np0 h13
  have e := compL_gen (tg := .nm 19) (vs := [19]) (test := tst (op2 (hEq false) (op2 hIx (dVar 5) (dVar 19)) (dVar 12))) (elt := op2 hIx (dVar 3) (dVar 19)) (env := KE ps k a0 a1 a2 a4 a6 a7 a8 a9 (.own (.val x)) (.own (.val (.int (cAt (dep ps ps.length) k)))) s13 s14 a15 a16 a17 a18)
    (fun j : Nat => .int (j : Nat)) (fun j => st (atP ps j).1 (atP ps j).2) (fun j => decide (cAt (dep ps ps.length) j = cAt (dep ps ps.length) k)) (fun j => LE a0 a1 a2 (.own (.val (.lst (row ps)))) a4 (.own (.val (cl (dep ps ps.length)))) a6 a7 a8 a9 (.own (.val (.int (k : Nat)))) (.own (.val x)) (.own (.val (.int (cAt (dep ps ps.length) k)))) s13 s14 a15 a16 a17 a18 (.own (.val (.int (j : Nat)))) .un) (fun q => rfl) (xs := List.range ps.length) (acc := [])
    (fun j hj => by
      have hj := List.mem_range.mp hj
      have a2' := at_cl (cs := dep ps ps.length) (k := j) (by rw [dep_len]; exact hj)
      exact ⟨by simp [KE, LE], by simp [LE, cl, a2'], fun _ => ⟨.val (st (atP ps j).1 (atP ps j).2), by simp [LE, at_row hj], rfl⟩⟩)
    (by simp; omega)
  simp only [List.nil_append] at e
  rw [pick_row (fun d => decide (d = cAt (dep ps ps.length) k)), show pickI (fun d => decide (d = cAt (dep ps ps.length) k)) ps (dep ps ps.length) ps.length = nearK ps k from rfl] at e
  unfold k2
  rw [ev_set, ev_comp, rng_gen (n := (ps.length : Nat)) (env := KE ps k a0 a1 a2 a4 a6 a7 a8 a9 (.own (.val x)) (.own (.val (.int (cAt (dep ps ps.length) k)))) s13 s14 a15 a16 a17 a18) (f := dB hLen (dCons (dVar 3) dNil)) (by simp [KE, LE, rl]) (by omega) (by omega), ev_bok, Int.toNat_natCast]
  show ((compL _ _ _ _ _ _ (KE ps k a0 a1 a2 a4 a6 a7 a8 a9 (.own (.val x)) (.own (.val (.int (cAt (dep ps ps.length) k)))) s13 s14 a15 a16 a17 a18)).bind _).bind _ = _
  rw [e, ev_bok, ev_bok]
  simp [KE, LE, -ev_fr0, f13]
theorem k3_ok (hr : RowOk ps) (hk : k < ps.length) (h14 : NP s14) {y : D} : k3 (KE ps k a0 a1 a2 a4 a6 a7 a8 a9 (.own (.val (st (atP ps k).1 (atP ps k).2))) (.own (.val y)) (.own (.val (.lst (row (nearK ps k))))) s14 a15 a16 a17 a18) = .ok .nx (KE ps k a0 a1 a2 a4 a6 a7 a8 a9 (.own (.val (st (atP ps k).1 (atP ps k).2))) (.own (.val y)) (.own (.val (.lst (row (nearK ps k))))) (.own (.val (.int (manyK ps k : Nat)))) a15 a16 a17 a18) := by
  have hu := hundred
  have hl := hr.1
  have f14 : ∀ env, free (s14 :: env) 0 = true := fun env => np0 h14
  have nl : (nearK ps k).length ≤ 20 := Nat.le_trans (pick_len _ _ _ _) hl
  have e := compL_mapx (i := 20) (elt := dB hInt (dCons (dCall f__law_touch [.v, .v] (dCons (dVar 20) (dCons (dVar 11) dNil))) dNil)) (env := KE ps k a0 a1 a2 a4 a6 a7 a8 a9 (.own (.val (st (atP ps k).1 (atP ps k).2))) (.own (.val y)) (.own (.val (.lst (row (nearK ps k))))) s14 a15 a16 a17 a18) (fun q : Int × Int => st q.1 q.2) (fun q => .int (if tch q (atP ps k) = true then 1 else 0)) rfl (xs := nearK ps k) (acc := [])
    (fun q hq => by
      have hqo : q.1 ≤ q.2 := by
        obtain ⟨j, _, rfl⟩ := List.mem_map.mp hq
        exact atP_ok hr j
      have e2 := f_law_touch_eq q.1 q.2 (atP ps k).1 (atP ps k).2 hqo (atP_ok hr k)
      rw [show (decide (q.1 ≤ (atP ps k).2) && decide ((atP ps k).1 ≤ q.2)) = tch q (atP ps k) from rfl] at e2
      exact ⟨.val (.int (if tch q (atP ps k) = true then 1 else 0)), by simp [KE, LE, e2], rfl⟩) (by simp; omega)
  simp only [List.nil_append] at e
  have e1 : k3c (KE ps k a0 a1 a2 a4 a6 a7 a8 a9 (.own (.val (st (atP ps k).1 (atP ps k).2))) (.own (.val y)) (.own (.val (.lst (row (nearK ps k))))) s14 a15 a16 a17 a18) = .ok (.own (.lst ((nearK ps k).map fun q => .int (if tch q (atP ps k) = true then 1 else 0)))) (KE ps k a0 a1 a2 a4 a6 a7 a8 a9 (.own (.val (st (atP ps k).1 (atP ps k).2))) (.own (.val y)) (.own (.val (.lst (row (nearK ps k))))) s14 a15 a16 a17 a18) := by
    unfold k3c
    rw [ev_comp, show dSeqA (dVar 13) (KE ps k a0 a1 a2 a4 a6 a7 a8 a9 (.own (.val (st (atP ps k).1 (atP ps k).2))) (.own (.val y)) (.own (.val (.lst (row (nearK ps k))))) s14 a15 a16 a17 a18) = .ok ((nearK ps k).map fun q => st q.1 q.2) (KE ps k a0 a1 a2 a4 a6 a7 a8 a9 (.own (.val (st (atP ps k).1 (atP ps k).2))) (.own (.val y)) (.own (.val (.lst (row (nearK ps k))))) s14 a15 a16 a17 a18) by simp [KE, LE, row], ev_bok]
    show (compL _ _ _ _ _ _ (KE ps k a0 a1 a2 a4 a6 a7 a8 a9 (.own (.val (st (atP ps k).1 (atP ps k).2))) (.own (.val y)) (.own (.val (.lst (row (nearK ps k))))) s14 a15 a16 a17 a18)).bind _ = _
    rw [e, ev_bok]
    rfl
  have e2 : hSum [.lst ((nearK ps k).map fun q => .int (if tch q (atP ps k) = true then 1 else 0))] = some (.val (.int ((manyK ps k : Int) + 1))) := by
    have := ev_sum (ns := (nearK ps k).map fun q => if tch q (atP ps k) = true then (1 : Int) else 0)
    rw [near_sum hr hk] at this
    simpa [List.map_map, Function.comp_def] using this
  unfold k3
  rw [ev_set, ev_op2, ev_b, ev_cons, e1, ev_bok, ev_nil, ev_bok, ev_bok]
  generalize ((manyK ps k : Nat) : Int) = m at *
  simp [e2, KE, LE, -ev_fr0, f14]
end
end Gk07
end
section
set_option maxRecDepth 100000
set_option maxHeartbeats 400000
namespace Gk07
open PySem PySem.Spec PyProof.Rows L2 DL
variable [tb : Tb]
section
variable {ps : List (Int × Int)} {k : Nat} {a0 a1 a2 a4 a6 a7 a8 a9 a15 a16 a17 a18 s11 s12 s13 s14 : Slot}
theorem k4_ok (hr : RowOk ps) (hk : k < ps.length) : k4 (KE ps k a0 a1 a2 a4 a6 a7 a8 a9 s11 (.own (.val (.int (cAt (dep ps ps.length) k)))) s13 (.own (.val (.int (manyK ps k : Nat)))) a15 a16 a17 a18) = .ok .nx (KE ps k a0 a1 a2 a4 a6 a7 a8 a9 s11 (.own (.val (.int (cAt (dep ps ps.length) k)))) s13 (.own (.val (.int (manyK ps k : Nat)))) a15 a16 a17 a18) := by
  have h1 := many_two hr hk
  have h2 : ¬ (2 : Int) < (manyK ps k : Nat) := by omega
  by_cases c : cAt (dep ps ps.length) k = 1
  · have h3 := many_one hr hk c
    have h4 : ¬ (0 : Int) < (manyK ps k : Nat) := by omega
    generalize ((manyK ps k : Nat) : Int) = m at *
    simp [k4, KE, LE, h2, h4, c]
  · generalize ((manyK ps k : Nat) : Int) = m at *
    simp [k4, KE, LE, h2, c]
theorem k5_ok (hr : RowOk ps) (hk : k < ps.length) : k5 (KE ps k a0 a1 a2 a4 a6 a7 a8 a9 s11 (.own (.val (.int (cAt (dep ps ps.length) k)))) s13 s14 a15 a16 a17 a18) = .ok .nx (KE ps k a0 a1 a2 a4 a6 a7 a8 a9 s11 (.own (.val (.int (cAt (dep ps ps.length) k)))) s13 s14 a15 a16 a17 a18) := by
  have hl := hr.1
  have e1 := f_law_load_eq (ps.take (k + 1)) (by rw [List.length_take]; omega)
  have e2 := cut_row ps (k := k + 1) (by omega)
  rw [Int.natCast_add, show ((1 : Nat) : Int) = 1 from rfl] at e2
  have h := dep_load (atP_ok hr) hk
  have h2 : ¬ load (ps.take (k + 1)) < cAt (dep ps ps.length) k := by omega
  simp [-List.map_take, k5, KE, LE, e2, e1, h2]
theorem k6_ok (hr : RowOk ps) (hk : k < ps.length) : k6 (KE ps k a0 a1 a2 a4 a6 a7 a8 a9 s11 s12 s13 s14 a15 a16 a17 a18) = .ok .nx (KE ps k a0 a1 a2 a4 a6 a7 a8 a9 s11 s12 s13 s14 a15 a16 a17 a18) := by
  have hl := hr.1
  obtain ⟨z, e1, hz⟩ := f_witness_eq hr hk
  have e2 := f_law_shows_eq (ds := dep ps ps.length) (by rw [dep_len]) hk (by omega) (.int z) rfl
  rw [show showD ps (dep ps ps.length) k (.int z) = showB ps (dep ps ps.length) k z from rfl, hz] at e2
  simp only [cl] at e2
  simp [k6, KE, LE, cl, e1, e2]
theorem kBody_ok (hr : RowOk ps) (hk : k < ps.length) (h11 : NP s11) (h12 : NP s12) (h13 : NP s13) (h14 : NP s14) : ∃ t11 t12 t13 t14, kBody (KE ps k a0 a1 a2 a4 a6 a7 a8 a9 s11 s12 s13 s14 a15 a16 a17 a18) = .ok .nx (KE ps k a0 a1 a2 a4 a6 a7 a8 a9 t11 t12 t13 t14 a15 a16 a17 a18) ∧ NP t11 ∧ NP t12 ∧ NP t13 ∧ NP t14 :=
  ⟨_, _, _, _, seq_nx (k1_ok hr hk h11 h12) (seq_nx (k2_ok hr hk h13) (seq_nx (k3_ok hr hk h14) (seq_nx (k4_ok hr hk) (seq_nx (k5_ok hr hk) (k6_ok hr hk))))), NP.val, NP.val, NP.val, NP.val⟩
noncomputable def lapG : M DL.Flow := (sFor (dRng1 (dB hLen (dCons (dVar 3) dNil))) (.nm 10) kBody)
theorem lapG_ok (hr : RowOk ps) {s10 : Slot} (h10 : NP s10) (h11 : NP s11) (h12 : NP s12) (h13 : NP s13) (h14 : NP s14) : ∃ t10 t11 t12 t13 t14, lapG (LE a0 a1 a2 (.own (.val (.lst (row ps)))) a4 (.own (.val (cl (dep ps ps.length)))) a6 a7 a8 a9 s10 s11 s12 s13 s14 a15 a16 a17 a18 .un .un) = .ok .nx (LE a0 a1 a2 (.own (.val (.lst (row ps)))) a4 (.own (.val (cl (dep ps ps.length)))) a6 a7 a8 a9 t10 t11 t12 t13 t14 a15 a16 a17 a18 .un .un) ∧ NP t10 ∧ NP t11 ∧ NP t12 ∧ NP t13 ∧ NP t14 := by
  have hl := hr.1
  have rl : (row ps).length = ps.length := by simp [row]
  obtain ⟨E, e, t10, t11, t12, t13, t14, rfl, g10, g11, g12, g13, g14⟩ := forL_r (tg := .nm 10) (B := kBody) (fun i : Nat => .int (i : Nat)) (fun k env => ∃ s10 s11 s12 s13 s14, env = LE a0 a1 a2 (.own (.val (.lst (row ps)))) a4 (.own (.val (cl (dep ps ps.length)))) a6 a7 a8 a9 s10 s11 s12 s13 s14 a15 a16 a17 a18 .un .un ∧ NP s10 ∧ NP s11 ∧ NP s12 ∧ NP s13 ∧ NP s14) ps.length (LE a0 a1 a2 (.own (.val (.lst (row ps)))) a4 (.own (.val (cl (dep ps ps.length)))) a6 a7 a8 a9 s10 s11 s12 s13 s14 a15 a16 a17 a18 .un .un) ⟨s10, s11, s12, s13, s14, rfl, h10, h11, h12, h13, h14⟩ (fun k hk env hp => by
    obtain ⟨s10, s11, s12, s13, s14, rfl, h10, h11, h12, h13, h14⟩ := hp
    have f10 : ∀ env, free (s10 :: env) 0 = true := fun env => np0 h10
    obtain ⟨t11, t12, t13, t14, e, g11, g12, g13, g14⟩ := kBody_ok hr hk h11 h12 h13 h14 (a0 := a0) (a1 := a1) (a2 := a2) (a4 := a4) (a6 := a6) (a7 := a7) (a8 := a8) (a9 := a9) (a15 := a15) (a16 := a16) (a17 := a17) (a18 := a18)
    exact ⟨KE ps k a0 a1 a2 a4 a6 a7 a8 a9 s11 s12 s13 s14 a15 a16 a17 a18, KE ps k a0 a1 a2 a4 a6 a7 a8 a9 t11 t12 t13 t14 a15 a16 a17 a18, by simp [KE, LE, -ev_fr0, f10], e, .own (.val (.int (k : Nat))), t11, t12, t13, t14, rfl, NP.val, g11, g12, g13, g14⟩)
  refine ⟨t10, t11, t12, t13, t14, ?_, g10, g11, g12, g13, g14⟩
  unfold lapG
  refine for_eq (rng_gen (n := (ps.length : Nat)) (by simp [LE, rl]) (by omega) (by omega)) ?_
  rw [Int.toNat_natCast]
  exact e
end
end Gk07
end
section
set_option maxRecDepth 100000
set_option maxHeartbeats 400000
namespace Gk07
open PySem PySem.Spec PyProof.Rows L2 DL
variable [tb : Tb]
noncomputable def h1 : M DL.Flow := (sSet .frz 10 (dCall f__law_draw [.io, .v] (dCons (dVar 1) (dCons (dB hLen (dCons (dVar 3) dNil)) dNil))))
noncomputable def h2 : M DL.Flow := (sSet .keep 15 (dLst (dCons (op2 hSub (op2 hIx (op2 hIx (dVar 3) (dVar 10)) (dC (.int 0))) (dC (.int 1))) dNil)))
noncomputable def h3B : M DL.Flow := (sExpr (dMutL 15 gExt (dCons (dLst (dCons (op2 hIx (dVar 11) (dC (.int 0))) (dCons (op2 hIx (dVar 11) (dC (.int 1))) (dCons (op2 hAdd (op2 hIx (dVar 11) (dC (.int 1))) (dC (.int 1))) dNil)))) dNil)))
noncomputable def h3 : M DL.Flow := (sFor (dSeqA (dVar 3)) (.nm 11) h3B)
noncomputable def h4 : M DL.Flow := (sSet .frz 16 (dLst (dCons (dC .non) (dCons (dC (.str "0")) (dCons (dC (.bl true)) (dCons (dTup (dCons (op2 hIx (op2 hIx (dVar 3) (dVar 10)) (dC (.int 0))) dNil)) (dCons (dLst (dCons (op2 hIx (op2 hIx (dVar 3) (dVar 10)) (dC (.int 0))) dNil)) (dCons (op2 hPow (dC (.int 10)) (dC (.int 30))) (dCons dDisp0 dNil)))))))))
noncomputable def thB : M DL.Flow := (sSeq (sSet .frz 18 (dCall f__law_shows [.v, .v, .v, .v] (dCons (dVar 3) (dCons (dVar 5) (dCons (dVar 10) (dCons (dVar 17) dNil))))))
  (sIf (tst (op2 (hEq true) (dB hRepr3 (dCons (dCall f_is_witness [.v, .v, .v] (dCons (dVar 3) (dCons (dVar 10) (dCons (dVar 17) dNil)))) dNil)) (dB hRepr3 (dCons (dVar 18) dNil))))
  (sRet (dC (.bl false)))
  sNx))
noncomputable def h5 : M DL.Flow := (sFor (dSeqA (op2 hAdd (dVar 15) (dVar 16))) (.nm 17) thB)
noncomputable def lapH : M DL.Flow := (sIf (tst (op2 (hEq true) (dVar 3) (dLst dNil))) (sSeq h1 (sSeq h2 (sSeq h3 (sSeq h4 h5)))) sNx)
def oddL (x : Int) : List D := [.non, .str "0", .bl true, .tup [.int x], .lst [.int x], .int 1000000000000000000000000000000, .dct [] []]
section
variable {ps : List (Int × Int)} {k : Nat} {a0 a1 a2 a4 a6 a7 a8 a9 a11 a12 a13 a14 a15 a16 : Slot}
theorem h1_ok (hr : RowOk ps) (hps : ps ≠ []) {b : Int} {l : List D} (hp : PenOk b (.lst l)) (hb : b < 2 ^ 50) {s10 a5 a17 a18 a19 a20 : Slot} (h10 : NP s10) : ∃ l2 k, k < ps.length ∧ h1 (LE a0 (.own (.lst l)) a2 (.own (.val (.lst (row ps)))) a4 a5 a6 a7 a8 a9 s10 a11 a12 a13 a14 a15 a16 a17 a18 a19 a20) = .ok .nx (LE a0 (.own (.lst l2)) a2 (.own (.val (.lst (row ps)))) a4 a5 a6 a7 a8 a9 (.own (.val (.int (k : Nat)))) a11 a12 a13 a14 a15 a16 a17 a18 a19 a20) ∧ PenOk (b + 1) (.lst l2) := by
  have hl := hr.1
  have hpos := List.length_pos_iff.mpr hps
  have rl : (row ps).length = ps.length := by simp [row]
  have f10 : ∀ env, free (s10 :: env) 0 = true := fun env => np0 h10
  obtain ⟨o2, j, e, p1, j1, j2⟩ := draw_ok hp (by omega) (show (0 : Int) < ((row ps).length : Int) by omega) (lg (by omega) (by omega))
  obtain ⟨l2, rfl⟩ := p1.lst
  obtain ⟨jn, rfl⟩ := Int.eq_ofNat_of_zero_le j1
  refine ⟨l2, jn, by omega, ?_, p1⟩
  simp [h1, LE, -ev_fr0, f10, e]
theorem h2_ok (hk : k < ps.length) (h15 : NP a15) {a10 a17 a18 a19 a20 a5 : Slot} : h2 (LE a0 a1 a2 (.own (.val (.lst (row ps)))) a4 a5 a6 a7 a8 a9 (.own (.val (.int (k : Nat)))) a11 a12 a13 a14 a15 a16 a17 a18 a19 a20) = .ok .nx (LE a0 a1 a2 (.own (.val (.lst (row ps)))) a4 a5 a6 a7 a8 a9 (.own (.val (.int (k : Nat)))) a11 a12 a13 a14 (.own (.lst ([(atP ps k).1 - 1].map D.int))) a16 a17 a18 a19 a20) := by
  have f15 : ∀ env, free (a15 :: env) 0 = true := fun env => np0 h15
  have z1 : 1 ≤ sizeLine := sz (by omega)
  have a1' := at_row hk
  simp only [st] at a1'
  simp [h2, LE, -ev_fr0, f15, a1', z1]
theorem h3_loop {a3 a5 a10 a17 a18 a19 a20 : Slot} : ∀ (qs : List (Int × Int)) (es : List Int) (s11 : Slot), NP s11 → es.length + 3 * qs.length ≤ 80 → ∃ (es2 : List Int) (t11 : Slot), forL (.nm 11) h3B (row qs) (LE a0 a1 a2 a3 a4 a5 a6 a7 a8 a9 a10 s11 a12 a13 a14 (.own (.lst (es.map D.int))) a16 a17 a18 a19 a20) = .ok .nx (LE a0 a1 a2 a3 a4 a5 a6 a7 a8 a9 a10 t11 a12 a13 a14 (.own (.lst (es2.map D.int))) a16 a17 a18 a19 a20) ∧ NP t11 ∧ es2.length ≤ 80
  | [], es, s11, h11, hz => ⟨es, s11, rfl, h11, by simpa using hz⟩
  | q :: qs, es, s11, h11, hz => by
    have hu := hundred
    simp only [List.length_cons] at hz
    have f11 : ∀ env, free (s11 :: env) 0 = true := fun env => np0 h11
    have z3 : 3 ≤ sizeLine := sz (by omega)
    have z4 : es.length + 3 ≤ sizeLine := by omega
    have s1 : asg (.nm 11) (st q.1 q.2) (LE a0 a1 a2 a3 a4 a5 a6 a7 a8 a9 a10 s11 a12 a13 a14 (.own (.lst (es.map D.int))) a16 a17 a18 a19 a20) = some (LE a0 a1 a2 a3 a4 a5 a6 a7 a8 a9 a10 (.own (.val (st q.1 q.2))) a12 a13 a14 (.own (.lst (es.map D.int))) a16 a17 a18 a19 a20) := by simp [LE, -ev_fr0, f11]
    have s2 : h3B (LE a0 a1 a2 a3 a4 a5 a6 a7 a8 a9 a10 (.own (.val (st q.1 q.2))) a12 a13 a14 (.own (.lst (es.map D.int))) a16 a17 a18 a19 a20) = .ok .nx (LE a0 a1 a2 a3 a4 a5 a6 a7 a8 a9 a10 (.own (.val (st q.1 q.2))) a12 a13 a14 (.own (.lst ((es ++ [q.1, q.2, q.2 + 1]).map D.int))) a16 a17 a18 a19 a20) := by
      have e : (es ++ [q.1, q.2, q.2 + 1]).map D.int = es.map D.int ++ [.int q.1, .int q.2, .int (q.2 + 1)] := by simp
      rw [e]
      simp [h3B, LE, st, z3, z4]
    obtain ⟨es2, t11, e, g, hz2⟩ := h3_loop qs (es ++ [q.1, q.2, q.2 + 1]) (.own (.val (st q.1 q.2))) NP.val (by simp; omega)
    exact ⟨es2, t11, for_cons s1 s2 e, g, hz2⟩
theorem h4_ok (hk : k < ps.length) (h16 : NP a16) {a17 a18 a19 a20 a5 : Slot} : h4 (LE a0 a1 a2 (.own (.val (.lst (row ps)))) a4 a5 a6 a7 a8 a9 (.own (.val (.int (k : Nat)))) a11 a12 a13 a14 a15 a16 a17 a18 a19 a20) = .ok .nx (LE a0 a1 a2 (.own (.val (.lst (row ps)))) a4 a5 a6 a7 a8 a9 (.own (.val (.int (k : Nat)))) a11 a12 a13 a14 a15 (.own (.val (.lst (oddL (atP ps k).1)))) a17 a18 a19 a20) := by
  have f16 : ∀ env, free (a16 :: env) 0 = true := fun env => np0 h16
  have z1 : 1 ≤ sizeLine := sz (by omega)
  have z7 : 7 ≤ sizeLine := sz (by omega)
  have p30 : cPow 10 30 = true := by decide
  have a1' := at_row hk
  simp only [st] at a1'
  simp [h4, LE, -ev_fr0, f16, a1', z1, z7, p30, oddL]
theorem thB_ok (hr : RowOk ps) (hk : k < ps.length) {x : D} (hx : plainD x = true) {s18 a19 a20 : Slot} (h18 : NP s18) : ∃ t18, thB (LE a0 a1 a2 (.own (.val (.lst (row ps)))) a4 (.own (.val (cl (dep ps ps.length)))) a6 a7 a8 a9 (.own (.val (.int (k : Nat)))) a11 a12 a13 a14 a15 a16 (.own (.val x)) s18 a19 a20) = .ok .nx (LE a0 a1 a2 (.own (.val (.lst (row ps)))) a4 (.own (.val (cl (dep ps ps.length)))) a6 a7 a8 a9 (.own (.val (.int (k : Nat)))) a11 a12 a13 a14 a15 a16 (.own (.val x)) t18 a19 a20) ∧ NP t18 := by
  have hl := hr.1
  have f18 : ∀ env, free (s18 :: env) 0 = true := fun env => np0 h18
  have e1 := f_law_shows_eq (ds := dep ps ps.length) (by rw [dep_len]) hk (by omega) x hx
  have e2 := f_is_witness_eq hr hk x hx
  refine ⟨.own (.val (.bl (showD ps (dep ps ps.length) k x))), ?_, NP.val⟩
  generalize showD ps (dep ps ps.length) k x = b at *
  have e3 := repr3_bl (b := b)
  have e4 := heq_shown (p := .bool b) (q := .bool b) rfl rfl true
  simp only [cl] at e1
  simp [thB, LE, cl, -ev_fr0, f18, e1, e2, e3, e4]
theorem th_loop (hr : RowOk ps) (hk : k < ps.length) {a19 a20 : Slot} : ∀ (xs : List D) (s17 s18 : Slot), (∀ x ∈ xs, plainD x = true) → NP s17 → NP s18 → ∃ t17 t18, forL (.nm 17) thB xs (LE a0 a1 a2 (.own (.val (.lst (row ps)))) a4 (.own (.val (cl (dep ps ps.length)))) a6 a7 a8 a9 (.own (.val (.int (k : Nat)))) a11 a12 a13 a14 a15 a16 s17 s18 a19 a20) = .ok .nx (LE a0 a1 a2 (.own (.val (.lst (row ps)))) a4 (.own (.val (cl (dep ps ps.length)))) a6 a7 a8 a9 (.own (.val (.int (k : Nat)))) a11 a12 a13 a14 a15 a16 t17 t18 a19 a20) ∧ NP t17 ∧ NP t18
  | [], s17, s18, _, h17, h18 => ⟨s17, s18, rfl, h17, h18⟩
  | x :: xs, s17, s18, hx, h17, h18 => by
    have f17 : ∀ env, free (s17 :: env) 0 = true := fun env => np0 h17
    have s1 : asg (.nm 17) x (LE a0 a1 a2 (.own (.val (.lst (row ps)))) a4 (.own (.val (cl (dep ps ps.length)))) a6 a7 a8 a9 (.own (.val (.int (k : Nat)))) a11 a12 a13 a14 a15 a16 s17 s18 a19 a20) = some (LE a0 a1 a2 (.own (.val (.lst (row ps)))) a4 (.own (.val (cl (dep ps ps.length)))) a6 a7 a8 a9 (.own (.val (.int (k : Nat)))) a11 a12 a13 a14 a15 a16 (.own (.val x)) s18 a19 a20) := by simp [LE, -ev_fr0, f17]
    obtain ⟨t18, s2, g18⟩ := thB_ok hr hk (hx x List.mem_cons_self) h18 (a0 := a0) (a1 := a1) (a2 := a2) (a4 := a4) (a6 := a6) (a7 := a7) (a8 := a8) (a9 := a9) (a11 := a11) (a12 := a12) (a13 := a13) (a14 := a14) (a15 := a15) (a16 := a16) (a19 := a19) (a20 := a20)
    obtain ⟨u17, u18, e, q17, q18⟩ := th_loop hr hk xs (.own (.val x)) t18 (fun y hy => hx y (List.mem_cons_of_mem _ hy)) NP.val g18
    exact ⟨u17, u18, for_cons s1 s2 e, q17, q18⟩
end
end Gk07
end
section
set_option maxRecDepth 100000
set_option maxHeartbeats 400000
namespace Gk07
open PySem PySem.Spec PyProof.Rows L2 DL
variable [tb : Tb]
noncomputable def lapI : M DL.Flow := (sIf (tst (op2 (hEq true) (dB hRepr3 (dCons (dVar 3) dNil)) (dVar 4))) (sRet (dC (.bl false))) sNx)
section
variable {ps : List (Int × Int)} {a0 a1 a2 a4 a5 a6 a7 a8 a9 a10 a11 a12 a13 a14 a15 a16 a17 a18 a19 a20 : Slot}
theorem lapH_ok (hr : RowOk ps) {b : Int} {l : List D} (hp : PenOk b (.lst l)) (hb : b < 2 ^ 50) (g10 : NP a10) (g11 : NP a11) (g15 : NP a15) (g16 : NP a16) (g17 : NP a17) (g18 : NP a18) : ∃ l2 t10 t11 t15 t16 t17 t18, lapH (LE a0 (.own (.lst l)) a2 (.own (.val (.lst (row ps)))) a4 (.own (.val (cl (dep ps ps.length)))) a6 a7 a8 a9 a10 a11 a12 a13 a14 a15 a16 a17 a18 a19 a20) = .ok .nx (LE a0 (.own (.lst l2)) a2 (.own (.val (.lst (row ps)))) a4 (.own (.val (cl (dep ps ps.length)))) a6 a7 a8 a9 t10 t11 a12 a13 a14 t15 t16 t17 t18 a19 a20) ∧ NP t10 ∧ NP t11 ∧ NP t15 ∧ NP t16 ∧ NP t17 ∧ NP t18 ∧ PenOk (b + 1) (.lst l2) := by
  have hu := hundred
  have hl := hr.1
  have z0 : 0 ≤ sizeLine := sz (by omega)
  have e0 := heq_row ps true
  by_cases c : ps = []
  · refine ⟨l, a10, a11, a15, a16, a17, a18, ?_, g10, g11, g15, g16, g17, g18, hp.up (by omega)⟩
    unfold lapH
    rw [ev_if]
    have : tst (op2 (hEq true) (dVar 3) (dLst dNil)) (LE a0 (.own (.lst l)) a2 (.own (.val (.lst (row ps)))) a4 (.own (.val (cl (dep ps ps.length)))) a6 a7 a8 a9 a10 a11 a12 a13 a14 a15 a16 a17 a18 a19 a20) = .ok false (LE a0 (.own (.lst l)) a2 (.own (.val (.lst (row ps)))) a4 (.own (.val (cl (dep ps ps.length)))) a6 a7 a8 a9 a10 a11 a12 a13 a14 a15 a16 a17 a18 a19 a20) := by
      have e0' : hEq true (.lst (row ps)) (.lst []) = some (.val (.bl false)) := by rw [e0]; simp [c]
      simp [LE, e0', z0]
    rw [this, ev_bok, if_neg (by simp)]
    rfl
  · obtain ⟨l2, k, hk, s1, p1⟩ := h1_ok hr c hp hb g10 (a0 := a0) (a2 := a2) (a4 := a4) (a5 := .own (.val (cl (dep ps ps.length)))) (a6 := a6) (a7 := a7) (a8 := a8) (a9 := a9) (a11 := a11) (a12 := a12) (a13 := a13) (a14 := a14) (a15 := a15) (a16 := a16) (a17 := a17) (a18 := a18) (a19 := a19) (a20 := a20)
    have s2 := h2_ok hk g15 (a0 := a0) (a1 := .own (.lst l2)) (a2 := a2) (a4 := a4) (a5 := .own (.val (cl (dep ps ps.length)))) (a6 := a6) (a7 := a7) (a8 := a8) (a9 := a9) (a10 := a10) (a11 := a11) (a12 := a12) (a13 := a13) (a14 := a14) (a16 := a16) (a17 := a17) (a18 := a18) (a19 := a19) (a20 := a20)
    obtain ⟨es, t11, s3, q11, hes⟩ := h3_loop ps [(atP ps k).1 - 1] a11 g11 (by simp only [List.length_cons, List.length_nil]; omega) (a0 := a0) (a1 := .own (.lst l2)) (a2 := a2) (a3 := .own (.val (.lst (row ps)))) (a4 := a4) (a5 := .own (.val (cl (dep ps ps.length)))) (a6 := a6) (a7 := a7) (a8 := a8) (a9 := a9) (a10 := .own (.val (.int (k : Nat)))) (a12 := a12) (a13 := a13) (a14 := a14) (a16 := a16) (a17 := a17) (a18 := a18) (a19 := a19) (a20 := a20)
    have s3' := for_eq (it := dSeqA (dVar 3)) (show dSeqA (dVar 3) (LE a0 (.own (.lst l2)) a2 (.own (.val (.lst (row ps)))) a4 (.own (.val (cl (dep ps ps.length)))) a6 a7 a8 a9 (.own (.val (.int (k : Nat)))) a11 a12 a13 a14 (.own (.lst ([(atP ps k).1 - 1].map D.int))) a16 a17 a18 a19 a20) = .ok (row ps) (LE a0 (.own (.lst l2)) a2 (.own (.val (.lst (row ps)))) a4 (.own (.val (cl (dep ps ps.length)))) a6 a7 a8 a9 (.own (.val (.int (k : Nat)))) a11 a12 a13 a14 (.own (.lst ([(atP ps k).1 - 1].map D.int))) a16 a17 a18 a19 a20) by simp [LE]) s3
    have s4 := h4_ok hk g16 (a0 := a0) (a1 := .own (.lst l2)) (a2 := a2) (a4 := a4) (a5 := .own (.val (cl (dep ps ps.length)))) (a6 := a6) (a7 := a7) (a8 := a8) (a9 := a9) (a11 := t11) (a12 := a12) (a13 := a13) (a14 := a14) (a15 := .own (.lst (es.map D.int))) (a17 := a17) (a18 := a18) (a19 := a19) (a20 := a20)
    obtain ⟨t17, t18, s5, q17, q18⟩ := th_loop hr hk (es.map D.int ++ oddL (atP ps k).1) a17 a18 (fun x hx => by
      rcases List.mem_append.mp hx with h | h
      · obtain ⟨z, _, rfl⟩ := List.mem_map.mp h; rfl
      · simp only [oddL, List.mem_cons, List.not_mem_nil, or_false] at h
        rcases h with rfl | rfl | rfl | rfl | rfl | rfl | rfl <;> rfl) g17 g18 (a0 := a0) (a1 := .own (.lst l2)) (a2 := a2) (a4 := a4) (a6 := a6) (a7 := a7) (a8 := a8) (a9 := a9) (a11 := t11) (a12 := a12) (a13 := a13) (a14 := a14) (a15 := .own (.lst (es.map D.int))) (a16 := .own (.val (.lst (oddL (atP ps k).1)))) (a19 := a19) (a20 := a20)
    have s5' := for_eq (it := dSeqA (op2 hAdd (dVar 15) (dVar 16))) (show dSeqA (op2 hAdd (dVar 15) (dVar 16)) (LE a0 (.own (.lst l2)) a2 (.own (.val (.lst (row ps)))) a4 (.own (.val (cl (dep ps ps.length)))) a6 a7 a8 a9 (.own (.val (.int (k : Nat)))) t11 a12 a13 a14 (.own (.lst (es.map D.int))) (.own (.val (.lst (oddL (atP ps k).1)))) a17 a18 a19 a20) = .ok (es.map D.int ++ oddL (atP ps k).1) (LE a0 (.own (.lst l2)) a2 (.own (.val (.lst (row ps)))) a4 (.own (.val (cl (dep ps ps.length)))) a6 a7 a8 a9 (.own (.val (.int (k : Nat)))) t11 a12 a13 a14 (.own (.lst (es.map D.int))) (.own (.val (.lst (oddL (atP ps k).1)))) a17 a18 a19 a20) by
      have hz : es.length + (oddL (atP ps k).1).length ≤ sizeLine := by simp only [oddL, List.length_cons, List.length_nil]; omega
      simp [LE, hz]) s5
    refine ⟨l2, .own (.val (.int (k : Nat))), t11, .own (.lst (es.map D.int)), .own (.val (.lst (oddL (atP ps k).1))), t17, t18, ?_, NP.val, q11, NP.own, NP.val, q17, q18, p1⟩
    unfold lapH
    rw [ev_if]
    have : tst (op2 (hEq true) (dVar 3) (dLst dNil)) (LE a0 (.own (.lst l)) a2 (.own (.val (.lst (row ps)))) a4 (.own (.val (cl (dep ps ps.length)))) a6 a7 a8 a9 a10 a11 a12 a13 a14 a15 a16 a17 a18 a19 a20) = .ok true (LE a0 (.own (.lst l)) a2 (.own (.val (.lst (row ps)))) a4 (.own (.val (cl (dep ps ps.length)))) a6 a7 a8 a9 a10 a11 a12 a13 a14 a15 a16 a17 a18 a19 a20) := by
      simp [LE, e0, c, z0]
    rw [this, ev_bok, if_pos rfl]
    exact seq_nx s1 (seq_nx s2 (seq_nx s3' (seq_nx s4 s5')))
theorem lapI_ok {p : PyData} (hp : hRepr3 [.lst (row ps)] = some (.val (.str (PyData.shown p)))) (hp2 : leafOk p = true) : lapI (LE a0 a1 a2 (.own (.val (.lst (row ps)))) (.own (.val (.str (PyData.shown p)))) a5 a6 a7 a8 a9 a10 a11 a12 a13 a14 a15 a16 a17 a18 a19 a20) = .ok .nx (LE a0 a1 a2 (.own (.val (.lst (row ps)))) (.own (.val (.str (PyData.shown p)))) a5 a6 a7 a8 a9 a10 a11 a12 a13 a14 a15 a16 a17 a18 a19 a20) := by
  have e4 := heq_shown hp2 hp2 true
  simp [lapI, LE, hp, e4]
end
noncomputable def lapBody : M DL.Flow := sSeq lapA (sSeq lapB (sSeq lapC (sSeq lapD (sSeq lapE (sSeq lapF (sSeq lapG (sSeq lapH lapI)))))))
def LapP (b : Int) (a0 : Slot) (env : DEnv) : Prop := ∃ l s2 s3 s4 s5 s6 s7 s8 s9 s10 s11 s12 s13 s14 s15 s16 s17 s18, env = LE a0 (.own (.lst l)) s2 s3 s4 s5 s6 s7 s8 s9 s10 s11 s12 s13 s14 s15 s16 s17 s18 .un .un ∧ PenOk b (.lst l) ∧ NP s2 ∧ NP s3 ∧ NP s4 ∧ NP s5 ∧ NP s6 ∧ NP s7 ∧ NP s8 ∧ NP s9 ∧ NP s10 ∧ NP s11 ∧ NP s12 ∧ NP s13 ∧ NP s14 ∧ NP s15 ∧ NP s16 ∧ NP s17 ∧ NP s18
theorem lap_ok {b : Int} {a0 : Slot} {env : DEnv} (h : LapP b a0 env) (hb : b < 2 ^ 28) : ∃ env2, lapBody env = .ok .nx env2 ∧ LapP (b + 100) a0 env2 := by
  obtain ⟨l, s2, s3, s4, s5, s6, s7, s8, s9, s10, s11, s12, s13, s14, s15, s16, s17, s18, rfl, hp, g2, g3, g4, g5, g6, g7, g8, g9, g10, g11, g12, g13, g14, g15, g16, g17, g18⟩ := h
  obtain ⟨l1, ps, e1, p1, hr⟩ := lapA_ok hp (by omega) g3 (a0 := a0) (a2 := s2) (a4 := s4) (a5 := s5) (a6 := s6) (a7 := s7) (a8 := s8) (a9 := s9) (a10 := s10) (a11 := s11) (a12 := s12) (a13 := s13) (a14 := s14) (a15 := s15) (a16 := s16) (a17 := s17) (a18 := s18) (a19 := .un) (a20 := .un)
  obtain ⟨p, r1, r2⟩ := repr_row hr
  have e2 := lapB_ok hr g4 g5 r1 (a0 := a0) (a1 := .own (.lst l1)) (a2 := s2) (a6 := s6) (a7 := s7) (a8 := s8) (a9 := s9) (a10 := s10) (a11 := s11) (a12 := s12) (a13 := s13) (a14 := s14) (a15 := s15) (a16 := s16) (a17 := s17) (a18 := s18) (a19 := .un) (a20 := .un)
  have e3 := lapC_ok hr g6 (a0 := a0) (a1 := .own (.lst l1)) (a2 := s2) (a4 := .own (.val (.str (PyData.shown p)))) (a5 := .own (.val (cl (dep ps ps.length)))) (a7 := s7) (a8 := s8) (a9 := s9) (a10 := s10) (a11 := s11) (a12 := s12) (a13 := s13) (a14 := s14) (a15 := s15) (a16 := s16) (a17 := s17) (a18 := s18) (a19 := .un) (a20 := .un)
  obtain ⟨t7, t8, e4, q7, q8⟩ := lapD_ok hr g7 g8 (a0 := a0) (a1 := .own (.lst l1)) (a2 := s2) (a4 := .own (.val (.str (PyData.shown p)))) (a9 := s9) (a10 := s10) (a11 := s11) (a12 := s12) (a13 := s13) (a14 := s14) (a15 := s15) (a16 := s16) (a17 := s17) (a18 := s18) (a19 := .un) (a20 := .un)
  have e5 := lapE_ok hr g9 (a0 := a0) (a1 := .own (.lst l1)) (a2 := s2) (a4 := .own (.val (.str (PyData.shown p)))) (a5 := .own (.val (cl (dep ps ps.length)))) (a6 := .own (.val (cl (hueL ps (dep ps ps.length) ps.length)))) (a7 := t7) (a8 := t8) (a10 := s10) (a11 := s11) (a12 := s12) (a13 := s13) (a14 := s14) (a15 := s15) (a16 := s16) (a17 := s17) (a18 := s18) (a19 := .un) (a20 := .un)
  have e6 := lapF_ok hr (a0 := a0) (a1 := .own (.lst l1)) (a2 := s2) (a4 := .own (.val (.str (PyData.shown p)))) (a5 := .own (.val (cl (dep ps ps.length)))) (a7 := t7) (a8 := t8) (a10 := s10) (a11 := s11) (a12 := s12) (a13 := s13) (a14 := s14) (a15 := s15) (a16 := s16) (a17 := s17) (a18 := s18) (a19 := .un) (a20 := .un)
  obtain ⟨t10, t11, t12, t13, t14, e7, q10, q11, q12, q13, q14⟩ := lapG_ok hr g10 g11 g12 g13 g14 (a0 := a0) (a1 := .own (.lst l1)) (a2 := s2) (a4 := .own (.val (.str (PyData.shown p)))) (a6 := .own (.val (cl (hueL ps (dep ps ps.length) ps.length)))) (a7 := t7) (a8 := t8) (a9 := .own (.val (.int (max 0 (3 * load ps - 2))))) (a15 := s15) (a16 := s16) (a17 := s17) (a18 := s18)
  obtain ⟨l2, u10, u11, u15, u16, u17, u18, e8, w10, w11, w15, w16, w17, w18, p2⟩ := lapH_ok hr p1 (by omega) q10 q11 g15 g16 g17 g18 (a0 := a0) (a2 := s2) (a4 := .own (.val (.str (PyData.shown p)))) (a6 := .own (.val (cl (hueL ps (dep ps ps.length) ps.length)))) (a7 := t7) (a8 := t8) (a9 := .own (.val (.int (max 0 (3 * load ps - 2))))) (a12 := t12) (a13 := t13) (a14 := t14) (a19 := .un) (a20 := .un)
  have e9 := lapI_ok (ps := ps) r1 r2 (a0 := a0) (a1 := .own (.lst l2)) (a2 := s2) (a5 := .own (.val (cl (dep ps ps.length)))) (a6 := .own (.val (cl (hueL ps (dep ps ps.length) ps.length)))) (a7 := t7) (a8 := t8) (a9 := .own (.val (.int (max 0 (3 * load ps - 2))))) (a10 := u10) (a11 := u11) (a12 := t12) (a13 := t13) (a14 := t14) (a15 := u15) (a16 := u16) (a17 := u17) (a18 := u18) (a19 := .un) (a20 := .un)
  exact ⟨_, seq_nx e1 (seq_nx e2 (seq_nx e3 (seq_nx e4 (seq_nx e5 (seq_nx e6 (seq_nx e7 (seq_nx e8 e9))))))), l2, s2, .own (.val (.lst (row ps))), .own (.val (.str (PyData.shown p))), .own (.val (cl (dep ps ps.length))), .own (.val (cl (hueL ps (dep ps ps.length) ps.length))), t7, t8, .own (.val (.int (max 0 (3 * load ps - 2)))), u10, u11, t12, t13, t14, u15, u16, u17, u18, rfl, p2.up (by omega), g2, NP.val, NP.val, NP.val, NP.val, q7, q8, NP.val, w10, w11, q12, q13, q14, w15, w16, w17, w18⟩
theorem laps_ok {a0 : Slot} : ∀ (ds : List D) (b : Int) (env : DEnv), LapP b a0 env → b + 100 * ds.length < 2 ^ 28 → ∃ env2, forL (.nm 2) lapBody ds env = .ok .nx env2 ∧ LapP (b + 100 * ds.length) a0 env2 := by
  intro ds
  induction ds with
  | nil => intro b env h _; exact ⟨env, rfl, by simpa using h⟩
  | cons d ds ih =>
    intro b env h hb
    simp only [List.length_cons, Int.natCast_add] at hb ⊢
    obtain ⟨l, s2, s3, s4, s5, s6, s7, s8, s9, s10, s11, s12, s13, s14, s15, s16, s17, s18, rfl, hp, g2, g⟩ := h
    have f2 : ∀ env, free (s2 :: env) 0 = true := fun env => np0 g2
    have st1 : asg (.nm 2) d (LE a0 (.own (.lst l)) s2 s3 s4 s5 s6 s7 s8 s9 s10 s11 s12 s13 s14 s15 s16 s17 s18 .un .un) = some (LE a0 (.own (.lst l)) (.own (.val d)) s3 s4 s5 s6 s7 s8 s9 s10 s11 s12 s13 s14 s15 s16 s17 s18 .un .un) := by simp [LE, -ev_fr0, f2]
    obtain ⟨E1, e1, q1⟩ := lap_ok (b := b) (a0 := a0) ⟨l, .own (.val d), s3, s4, s5, s6, s7, s8, s9, s10, s11, s12, s13, s14, s15, s16, s17, s18, rfl, hp, NP.val, g⟩ (by omega)
    obtain ⟨E2, e2, q2⟩ := ih (b + 100) E1 q1 (by omega)
    refine ⟨E2, for_cons st1 e1 e2, ?_⟩
    have : b + 100 + 100 * (ds.length : Int) = b + 100 * ((ds.length : Int) + ((1 : Nat) : Int)) := by omega
    rw [← this]
    exact q2
theorem rng10 {env : DEnv} : ∃ ds : List D, dRng1 (dC (.int 10)) env = .ok ds env ∧ ds.length = 10 := ⟨_, rng_gen (n := 10) rfl (by omega) (by omega), rfl⟩
theorem b_law_eq : b_law = sSeq (sSet .keep 1 (dCall f__law_pen [.v] (dCons (dVar 0) dNil))) (sSeq (sFor (dRng1 (dC (.int 10))) (.nm 2) lapBody) (sRet (dC (.bl true)))) := rfl
theorem law_true (ns : List Int) (hl : ns.length ≤ 63) (hb : ∀ z ∈ ns, Builtin.Int.intBits z ≤ 1048576) : ∃ os, f_law [.val (.rol (ns.map D.int))] = .ok (.val (.bl true)) os := by
  obtain ⟨cs, e1⟩ := f_pen_eq ns
  obtain ⟨ds, e2, hd⟩ := rng10 (env := LE (.own (.val (.rol (ns.map D.int)))) (.own (Pen cs 0 0)) .un .un .un .un .un .un .un .un .un .un .un .un .un .un .un .un .un .un .un)
  obtain ⟨E, e3, h⟩ := laps_ok (a0 := .own (.val (.rol (ns.map D.int)))) ds 0 (LE (.own (.val (.rol (ns.map D.int)))) (.own (Pen cs 0 0)) .un .un .un .un .un .un .un .un .un .un .un .un .un .un .un .un .un .un .un) ⟨_, .un, .un, .un, .un, .un, .un, .un, .un, .un, .un, .un, .un, .un, .un, .un, .un, .un, rfl, ⟨cs, 0, 0, rfl, by omega, by omega⟩, NP.un, NP.un, NP.un, NP.un, NP.un, NP.un, NP.un, NP.un, NP.un, NP.un, NP.un, NP.un, NP.un, NP.un, NP.un, NP.un, NP.un⟩ (by rw [hd]; omega)
  obtain ⟨l, s2, s3, s4, s5, s6, s7, s8, s9, s10, s11, s12, s13, s14, s15, s16, s17, s18, rfl, _⟩ := h
  have e4 : b_law (initE [.val (.rol (ns.map D.int))] 20) = .ok (.ret (.val (.bl true))) (LE (.own (.val (.rol (ns.map D.int)))) (.own (.lst l)) s2 s3 s4 s5 s6 s7 s8 s9 s10 s11 s12 s13 s14 s15 s16 s17 s18 .un .un) := by
    rw [b_law_eq]
    refine seq_nx (F := LE (.own (.val (.rol (ns.map D.int)))) (.own (Pen cs 0 0)) .un .un .un .un .un .un .un .un .un .un .un .un .un .un .un .un .un .un .un) ?_ (seq_nx (by rw [ev_for, e2, ev_bok]; exact e3) ?_)
    · simp [e1, Pen, LE]
    · rfl
  exact ⟨_, by unfold f_law; rw [ev_mk, e4]; rfl⟩
end Gk07
end
set_option maxRecDepth 100000
open PySem PySem.W PyProof.Rows
set_option maxHeartbeats 0 in
theorem PySem.Challenge.cw_stretchhues_k07_layers_holds : PySem.Challenge.rw_stretchhues_k07_layers.Holds := by
  w_on; o_law; k_head; (case hw => w_witness2)
  k_fill
  refine DL.walk_gTs (l := PySem.Challenge.rw_stretchhues_k07_layers) (n := 63) (k := 8) (CX := fun w => L2.CX PySem.Challenge.rw_stretchhues_k07_layers.prog w) rfl (by decide) rfl ⟨rfl, by decide, by decide⟩ (fun w h Y => Y) ?F ?C
  case C =>
    intro w H s e s2 h
    obtain ⟨_, _, _, _, _, _, _, _, _, _, _, _, _, _, _, _, z⟩ := h
  case F =>
    intro w mg fa h Y KX G XP hmg
    letI : DL.Tb := ⟨[]⟩
    have d__law_pen : DL.DefF (PySem.Challenge.cw_stretchhues_k07_layers_holds.heap_39 w.params) mg "_law_pen" Gk07.s__law_pen ["_law_script"] := by
      refine' DL.defF_mk KX G ?a ?l ?c ?k (fun _ _ _ _ _ _ us hl => match us, hl with | [_], _ => rfl)
      (case a => k_is); (case l => k_is); (case c => k_is); (case k => k_is)
    have d__law_next : DL.DefF (PySem.Challenge.cw_stretchhues_k07_layers_holds.heap_39 w.params) mg "_law_next" Gk07.s__law_next ["_law_pen_here"] := by
      refine' DL.defF_mk KX G ?a ?l ?c ?k (fun _ _ _ _ _ _ us hl => match us, hl with | [_], _ => rfl)
      (case a => k_is); (case l => k_is); (case c => k_is); (case k => k_is)
    have d__law_draw : DL.DefF (PySem.Challenge.cw_stretchhues_k07_layers_holds.heap_39 w.params) mg "_law_draw" Gk07.s__law_draw ["_law_pen_here", "_law_under"] := by
      refine' DL.defF_mk KX G ?a ?l ?c ?k (fun _ _ _ _ _ _ us hl => match us, hl with | [_, _], _ => rfl)
      (case a => k_is); (case l => k_is); (case c => k_is); (case k => k_is)
    have d__law_stretch : DL.DefF (PySem.Challenge.cw_stretchhues_k07_layers_holds.heap_39 w.params) mg "_law_stretch" Gk07.s__law_stretch ["_law_pen_here", "_law_wide"] := by
      refine' DL.defF_mk KX G ?a ?l ?c ?k (fun _ _ _ _ _ _ us hl => match us, hl with | [_, _], _ => rfl)
      (case a => k_is); (case l => k_is); (case c => k_is); (case k => k_is)
    have d__law_row : DL.DefF (PySem.Challenge.cw_stretchhues_k07_layers_holds.heap_39 w.params) mg "_law_row" Gk07.s__law_row ["_law_pen_here", "_law_many"] := by
      refine' DL.defF_mk KX G ?a ?l ?c ?k (fun _ _ _ _ _ _ us hl => match us, hl with | [_, _], _ => rfl)
      (case a => k_is); (case l => k_is); (case c => k_is); (case k => k_is)
    have d__law_over : DL.DefF (PySem.Challenge.cw_stretchhues_k07_layers_holds.heap_39 w.params) mg "_law_over" Gk07.s__law_over ["_law_row_here", "_law_point"] := by
      refine' DL.defF_mk KX G ?a ?l ?c ?k (fun _ _ _ _ _ _ us hl => match us, hl with | [_, _], _ => rfl)
      (case a => k_is); (case l => k_is); (case c => k_is); (case k => k_is)
    have d__law_is_full : DL.DefF (PySem.Challenge.cw_stretchhues_k07_layers_holds.heap_39 w.params) mg "_law_is_full" Gk07.s__law_is_full ["_law_row_here", "_law_depths", "_law_layer", "_law_points"] := by
      refine' DL.defF_mk KX G ?a ?l ?c ?k (fun _ _ _ _ _ _ us hl => match us, hl with | [_, _, _, _], _ => rfl)
      (case a => k_is); (case l => k_is); (case c => k_is); (case k => k_is)
    have d__law_layers : DL.DefF (PySem.Challenge.cw_stretchhues_k07_layers_holds.heap_39 w.params) mg "_law_layers" Gk07.s__law_layers ["_law_row_here"] := by
      refine' DL.defF_mk KX G ?a ?l ?c ?k (fun _ _ _ _ _ _ us hl => match us, hl with | [_], _ => rfl)
      (case a => k_is); (case l => k_is); (case c => k_is); (case k => k_is)
    have d__law_touch : DL.DefF (PySem.Challenge.cw_stretchhues_k07_layers_holds.heap_39 w.params) mg "_law_touch" Gk07.s__law_touch ["_law_one", "_law_other"] := by
      refine' DL.defF_mk KX G ?a ?l ?c ?k (fun _ _ _ _ _ _ us hl => match us, hl with | [_, _], _ => rfl)
      (case a => k_is); (case l => k_is); (case c => k_is); (case k => k_is)
    have d__law_least : DL.DefF (PySem.Challenge.cw_stretchhues_k07_layers_holds.heap_39 w.params) mg "_law_least" Gk07.s__law_least ["_law_bars", "_law_first"] := by
      refine' DL.defF_mk KX G ?a ?l ?c ?k (fun _ _ _ _ _ _ us hl => match us, hl with | [_, _], _ => rfl)
      (case a => k_is); (case l => k_is); (case c => k_is); (case k => k_is)
    have d__law_hues : DL.DefF (PySem.Challenge.cw_stretchhues_k07_layers_holds.heap_39 w.params) mg "_law_hues" Gk07.s__law_hues ["_law_row_here"] := by
      refine' DL.defF_mk KX G ?a ?l ?c ?k (fun _ _ _ _ _ _ us hl => match us, hl with | [_], _ => rfl)
      (case a => k_is); (case l => k_is); (case c => k_is); (case k => k_is)
    have d_is_integer : DL.DefF (PySem.Challenge.cw_stretchhues_k07_layers_holds.heap_39 w.params) mg "is_integer" Gk07.s_is_integer ["thing"] := by
      refine' DL.defF_mk KX G ?a ?l ?c ?k (fun _ _ _ _ _ _ us hl => match us, hl with | [_], _ => rfl)
      (case a => k_is); (case l => k_is); (case c => k_is); (case k => k_is)
    have d_is_within : DL.DefF (PySem.Challenge.cw_stretchhues_k07_layers_holds.heap_39 w.params) mg "is_within" Gk07.s_is_within ["thing", "least", "most"] := by
      refine' DL.defF_mk KX G ?a ?l ?c ?k (fun _ _ _ _ _ _ us hl => match us, hl with | [_, _, _], _ => rfl)
      (case a => k_is); (case l => k_is); (case c => k_is); (case k => k_is)
    have d_is_point : DL.DefF (PySem.Challenge.cw_stretchhues_k07_layers_holds.heap_39 w.params) mg "is_point" Gk07.s_is_point ["thing"] := by
      refine' DL.defF_mk KX G ?a ?l ?c ?k (fun _ _ _ _ _ _ us hl => match us, hl with | [_], _ => rfl)
      (case a => k_is); (case l => k_is); (case c => k_is); (case k => k_is)
    have d_is_stretch : DL.DefF (PySem.Challenge.cw_stretchhues_k07_layers_holds.heap_39 w.params) mg "is_stretch" Gk07.s_is_stretch ["thing"] := by
      refine' DL.defF_mk KX G ?a ?l ?c ?k (fun _ _ _ _ _ _ us hl => match us, hl with | [_], _ => rfl)
      (case a => k_is); (case l => k_is); (case c => k_is); (case k => k_is)
    have d_is_row : DL.DefF (PySem.Challenge.cw_stretchhues_k07_layers_holds.heap_39 w.params) mg "is_row" Gk07.s_is_row ["thing"] := by
      refine' DL.defF_mk KX G ?a ?l ?c ?k (fun _ _ _ _ _ _ us hl => match us, hl with | [_], _ => rfl)
      (case a => k_is); (case l => k_is); (case c => k_is); (case k => k_is)
    have d_check_row : DL.DefF (PySem.Challenge.cw_stretchhues_k07_layers_holds.heap_39 w.params) mg "check_row" Gk07.s_check_row ["thing"] := by
      refine' DL.defF_mk KX G ?a ?l ?c ?k (fun _ _ _ _ _ _ us hl => match us, hl with | [_], _ => rfl)
      (case a => k_is); (case l => k_is); (case c => k_is); (case k => k_is)
    have d_covers : DL.DefF (PySem.Challenge.cw_stretchhues_k07_layers_holds.heap_39 w.params) mg "covers" Gk07.s_covers ["stretch", "point"] := by
      refine' DL.defF_mk KX G ?a ?l ?c ?k (fun _ _ _ _ _ _ us hl => match us, hl with | [_, _], _ => rfl)
      (case a => k_is); (case l => k_is); (case c => k_is); (case k => k_is)
    have d_load_over : DL.DefF (PySem.Challenge.cw_stretchhues_k07_layers_holds.heap_39 w.params) mg "load_over" Gk07.s_load_over ["row", "point"] := by
      refine' DL.defF_mk KX G ?a ?l ?c ?k (fun _ _ _ _ _ _ us hl => match us, hl with | [_, _], _ => rfl)
      (case a => k_is); (case l => k_is); (case c => k_is); (case k => k_is)
    have d_points_of : DL.DefF (PySem.Challenge.cw_stretchhues_k07_layers_holds.heap_39 w.params) mg "points_of" Gk07.s_points_of ["row", "stretch"] := by
      refine' DL.defF_mk KX G ?a ?l ?c ?k (fun _ _ _ _ _ _ us hl => match us, hl with | [_, _], _ => rfl)
      (case a => k_is); (case l => k_is); (case c => k_is); (case k => k_is)
    have d_next_layer : DL.DefF (PySem.Challenge.cw_stretchhues_k07_layers_holds.heap_39 w.params) mg "next_layer" Gk07.s_next_layer ["row", "depths", "stretch"] := by
      refine' DL.defF_mk KX G ?a ?l ?c ?k (fun _ _ _ _ _ _ us hl => match us, hl with | [_, _, _], _ => rfl)
      (case a => k_is); (case l => k_is); (case c => k_is); (case k => k_is)
    have d_depths_of : DL.DefF (PySem.Challenge.cw_stretchhues_k07_layers_holds.heap_39 w.params) mg "depths_of" Gk07.s_depths_of ["row"] := by
      refine' DL.defF_mk KX G ?a ?l ?c ?k (fun _ _ _ _ _ _ us hl => match us, hl with | [_], _ => rfl)
      (case a => k_is); (case l => k_is); (case c => k_is); (case k => k_is)
    have d_layers : DL.DefF (PySem.Challenge.cw_stretchhues_k07_layers_holds.heap_39 w.params) mg "layers" Gk07.s_layers ["row"] := by
      refine' DL.defF_mk KX G ?a ?l ?c ?k (fun _ _ _ _ _ _ us hl => match us, hl with | [_], _ => rfl)
      (case a => k_is); (case l => k_is); (case c => k_is); (case k => k_is)
    have d_is_touching : DL.DefF (PySem.Challenge.cw_stretchhues_k07_layers_holds.heap_39 w.params) mg "is_touching" Gk07.s_is_touching ["one", "other"] := by
      refine' DL.defF_mk KX G ?a ?l ?c ?k (fun _ _ _ _ _ _ us hl => match us, hl with | [_, _], _ => rfl)
      (case a => k_is); (case l => k_is); (case c => k_is); (case k => k_is)
    have d_least_free : DL.DefF (PySem.Challenge.cw_stretchhues_k07_layers_holds.heap_39 w.params) mg "least_free" Gk07.s_least_free ["row", "colours", "stretch", "first"] := by
      refine' DL.defF_mk KX G ?a ?l ?c ?k (fun _ _ _ _ _ _ us hl => match us, hl with | [_, _, _, _], _ => rfl)
      (case a => k_is); (case l => k_is); (case c => k_is); (case k => k_is)
    have d_next_colour : DL.DefF (PySem.Challenge.cw_stretchhues_k07_layers_holds.heap_39 w.params) mg "next_colour" Gk07.s_next_colour ["row", "depths", "colours", "stretch", "layer"] := by
      refine' DL.defF_mk KX G ?a ?l ?c ?k (fun _ _ _ _ _ _ us hl => match us, hl with | [_, _, _, _, _], _ => rfl)
      (case a => k_is); (case l => k_is); (case c => k_is); (case k => k_is)
    have d_layered : DL.DefF (PySem.Challenge.cw_stretchhues_k07_layers_holds.heap_39 w.params) mg "layered" Gk07.s_layered ["row"] := by
      refine' DL.defF_mk KX G ?a ?l ?c ?k (fun _ _ _ _ _ _ us hl => match us, hl with | [_], _ => rfl)
      (case a => k_is); (case l => k_is); (case c => k_is); (case k => k_is)
    have d__law_is_right : DL.DefF (PySem.Challenge.cw_stretchhues_k07_layers_holds.heap_39 w.params) mg "_law_is_right" Gk07.s__law_is_right ["_law_row_here", "_law_colours"] := by
      refine' DL.defF_mk KX G ?a ?l ?c ?k (fun _ _ _ _ _ _ us hl => match us, hl with | [_, _], _ => rfl)
      (case a => k_is); (case l => k_is); (case c => k_is); (case k => k_is)
    have d__law_load : DL.DefF (PySem.Challenge.cw_stretchhues_k07_layers_holds.heap_39 w.params) mg "_law_load" Gk07.s__law_load ["_law_row_here"] := by
      refine' DL.defF_mk KX G ?a ?l ?c ?k (fun _ _ _ _ _ _ us hl => match us, hl with | [_], _ => rfl)
      (case a => k_is); (case l => k_is); (case c => k_is); (case k => k_is)
    have d__law_shows : DL.DefF (PySem.Challenge.cw_stretchhues_k07_layers_holds.heap_39 w.params) mg "_law_shows" Gk07.s__law_shows ["_law_row_here", "_law_depths", "_law_k", "_law_point"] := by
      refine' DL.defF_mk KX G ?a ?l ?c ?k (fun _ _ _ _ _ _ us hl => match us, hl with | [_, _, _, _], _ => rfl)
      (case a => k_is); (case l => k_is); (case c => k_is); (case k => k_is)
    have d_check_index : DL.DefF (PySem.Challenge.cw_stretchhues_k07_layers_holds.heap_39 w.params) mg "check_index" Gk07.s_check_index ["row", "thing"] := by
      refine' DL.defF_mk KX G ?a ?l ?c ?k (fun _ _ _ _ _ _ us hl => match us, hl with | [_, _], _ => rfl)
      (case a => k_is); (case l => k_is); (case c => k_is); (case k => k_is)
    have d_shows : DL.DefF (PySem.Challenge.cw_stretchhues_k07_layers_holds.heap_39 w.params) mg "shows" Gk07.s_shows ["row", "depths", "index", "point"] := by
      refine' DL.defF_mk KX G ?a ?l ?c ?k (fun _ _ _ _ _ _ us hl => match us, hl with | [_, _, _, _], _ => rfl)
      (case a => k_is); (case l => k_is); (case c => k_is); (case k => k_is)
    have d_witness : DL.DefF (PySem.Challenge.cw_stretchhues_k07_layers_holds.heap_39 w.params) mg "witness" Gk07.s_witness ["row", "index"] := by
      refine' DL.defF_mk KX G ?a ?l ?c ?k (fun _ _ _ _ _ _ us hl => match us, hl with | [_, _], _ => rfl)
      (case a => k_is); (case l => k_is); (case c => k_is); (case k => k_is)
    have d_is_witness : DL.DefF (PySem.Challenge.cw_stretchhues_k07_layers_holds.heap_39 w.params) mg "is_witness" Gk07.s_is_witness ["row", "index", "thing"] := by
      refine' DL.defF_mk KX G ?a ?l ?c ?k (fun _ _ _ _ _ _ us hl => match us, hl with | [_, _, _], _ => rfl)
      (case a => k_is); (case l => k_is); (case c => k_is); (case k => k_is)
    have d_law : DL.DefF (PySem.Challenge.cw_stretchhues_k07_layers_holds.heap_39 w.params) mg "law" Gk07.s_law ["_law_script"] := by
      refine' DL.defF_mk KX G ?a ?l ?c ?k (fun _ _ _ _ _ _ us hl => match us, hl with | [_], _ => rfl)
      (case a => k_is); (case l => k_is); (case c => k_is); (case k => k_is)
    have n_all : mg "all" = none := PySem.W.mg_none_of KX G (by k_is)
    have n_any : mg "any" = none := PySem.W.mg_none_of KX G (by k_is)
    have n_bool : mg "bool" = none := PySem.W.mg_none_of KX G (by k_is)
    have n_enumerate : mg "enumerate" = none := PySem.W.mg_none_of KX G (by k_is)
    have n_int : mg "int" = none := PySem.W.mg_none_of KX G (by k_is)
    have n_isinstance : mg "isinstance" = none := PySem.W.mg_none_of KX G (by k_is)
    have n_len : mg "len" = none := PySem.W.mg_none_of KX G (by k_is)
    have n_list : mg "list" = none := PySem.W.mg_none_of KX G (by k_is)
    have n_max : mg "max" = none := PySem.W.mg_none_of KX G (by k_is)
    have n_min : mg "min" = none := PySem.W.mg_none_of KX G (by k_is)
    have n_range : mg "range" = none := PySem.W.mg_none_of KX G (by k_is)
    have n_repr : mg "repr" = none := PySem.W.mg_none_of KX G (by k_is)
    have n_sorted : mg "sorted" = none := PySem.W.mg_none_of KX G (by k_is)
    have n_sum : mg "sum" = none := PySem.W.mg_none_of KX G (by k_is)
    have n_tuple : mg "tuple" = none := PySem.W.mg_none_of KX G (by k_is)
    have n_zip : mg "zip" = none := PySem.W.mg_none_of KX G (by k_is)
    have g_FARTHEST : ∃ t, mg "FARTHEST" = some (.int 1000000000 t) := DL.loose_int XP.2 (by simp)
    have x_InvalidIndex : ∃ C, DL.ExcCls (PySem.Challenge.cw_stretchhues_k07_layers_holds.heap_39 w.params) mg "InvalidIndex" C := by
      refine' DL.excCls_mk KX G ?a ?b ?c ?d ?e
      (case a => k_is); (case b => kernel_rfl); (case c => k_is); (case d => k_is); (case e => k_is)
    have x_InvalidRow : ∃ C, DL.ExcCls (PySem.Challenge.cw_stretchhues_k07_layers_holds.heap_39 w.params) mg "InvalidRow" C := by
      refine' DL.excCls_mk KX G ?a ?b ?c ?d ?e
      (case a => k_is); (case b => kernel_rfl); (case c => k_is); (case d => k_is); (case e => k_is)
    refine DL.lawG_mk [] hmg d_law ?h1 ?h2 ?h3 (fun ns hl hb => Gk07.law_true ns hl hb) fun base kb nb tB => Gk07.go_law ⟨d__law_pen, d__law_next, d__law_draw, d__law_stretch, d__law_row, d__law_over, d__law_is_full, d__law_layers, d__law_touch, d__law_least, d__law_hues, d_is_integer, d_is_within, d_is_point, d_is_stretch, d_is_row, d_check_row, d_covers, d_load_over, d_points_of, d_next_layer, d_depths_of, d_layers, d_is_touching, d_least_free, d_next_colour, d_layered, d__law_is_right, d__law_load, d__law_shows, d_check_index, d_shows, d_witness, d_is_witness, d_law, n_all, n_any, n_bool, n_enumerate, n_int, n_isinstance, n_len, n_list, n_max, n_min, n_range, n_repr, n_sorted, n_sum, n_tuple, n_zip, g_FARTHEST, x_InvalidIndex, x_InvalidRow⟩
    case h1 => intro p hp; cases hp
    case h2 => intro p hp; cases hp
    case h3 => intro p hp; cases hp
