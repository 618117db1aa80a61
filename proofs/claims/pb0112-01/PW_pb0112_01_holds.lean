import PyProof.Rows.All
import Wide.All
import OpenK.AllK
import Wide.FinOn
import PyProof.ExcBaseAll.Exception
import Lean
import PySem.Challenge.RW_pb0112_01
set_option maxRecDepth 100000
set_option Elab.async false
set_option linter.all false
set_option linter.unusedVariables false
section
open PySem PySem.W PySem.Calls PyProof.Rows
namespace Mine
def holderIds : List String := ["bytearray.__contains__", "bytearray.__mod__", "bytearray.__rmod__", "_struct.pack_into.held", "bytearray.find.held"] ++ Builtin.Bytes.decodersThatHold
def holds : Code → Bool
  | .builtin id _ => holderIds.contains id
  | _ => false
def cleanL (l : List (Code × Pos)) : Prop := ∀ x ∈ l, holds x.1 = false
def Clean (Γ : Ctx) : Prop := holds Γ.code = false ∧ cleanL Γ.below
def wpC {α : Type} (M : Model) (A : Around) (t : Sem α) (Q : α → Shared → Prop) (E : Value → Shared → Prop) (s : Shared) : Prop :=
  ∀ Γ p, Γ.In A → Clean Γ → Sem.wp M Γ t (fun a _ s' => Q a s') (fun e _ s' => E e s') p s
def codeC (M : Model) (A : Around) (c : Code) (R : Result → Shared → Prop) (s : Shared) : Prop :=
  ∀ Γ p, Γ.code = c → Γ.Below A → cleanL Γ.below → wpCode M Γ R p s
section
variable {α β : Type} {M : Model} {A : Around} {E : Value → Shared → Prop} {s : Shared}
theorem wpC_of {t : Sem α} {Q : α → Shared → Prop} (h : wpAny M A t Q E s) : wpC M A t Q E s := fun Γ p hΓ _ => h Γ p hΓ
theorem codeC_of {c : Code} {R : Result → Shared → Prop} (h : codeAny M A c R s) : codeC M A c R s := fun Γ p hc hΓ _ => h Γ p hc hΓ
theorem wpC_pure {a : α} {Q : α → Shared → Prop} (h : Q a s) : wpC M A (pure a) Q E s := fun _ _ _ _ => h
theorem wpC_mono {t : Sem α} {Q Q' : α → Shared → Prop} {E' : Value → Shared → Prop} (h : wpC M A t Q E s)
    (hQ : ∀ a s, Q a s → Q' a s) (hE : ∀ e s, E e s → E' e s) : wpC M A t Q' E' s :=
  fun Γ p hΓ hc => Sem.wp_mono M Γ t (fun a _ s => hQ a s) (fun e _ s => hE e s) p s (h Γ p hΓ hc)
theorem wpC_bind {m : Sem α} {f : α → Sem β} {Q : β → Shared → Prop} (h : wpC M A m (fun a s' => wpC M A (f a) Q E s') E s) :
    wpC M A (m >>= f) Q E s := fun Γ p hΓ hc => by
  rw [Sem.wp_bind']
  exact Sem.wp_mono M Γ m (fun a p' s' h' => h' Γ p' hΓ hc) (fun _ _ _ h' => h') p s (h Γ p hΓ hc)
theorem wpC_run {c : Code} {h : Option Value} {Q : Flow → Shared → Prop}
    (hc : codeC M (A.mark h) c (fun r s' => match r with | .ok f => Q f s' | .error e => E e s') s) (hnb : h ≠ some byPass := by intro x; cases x) :
    wpC M A (run c h) Q E s :=
  fun Γ p hΓ hC => by
    rw [Sem.wp_run]
    exact hc _ p rfl (hΓ.enter c h p hnb) fun x hx => by
      rcases List.mem_cons.mp hx with rfl | hx
      · exact hC.1
      · exact hC.2 x hx
theorem wpC_runValue {c : Code} {Q : Value → Shared → Prop}
    (hc : codeC M A c (fun r s' => match r with | .ok (.ret v) => Q v s' | .ok _ => False | .error e => E e s') s) :
    wpC M A (runValue c) Q E s := fun Γ p hΓ hC => by
  rw [Sem.wp_runValue]
  exact hc _ p rfl (hΓ.enter c none p (by intro x; cases x)) fun x hx => by
      rcases List.mem_cons.mp hx with rfl | hx
      · exact hC.1
      · exact hC.2 x hx
theorem wpC_call {f : Value} {pos : List Value} {kw : List (Str × Value)} {Q : Value → Shared → Prop}
    (hc : codeC M A (.call f ⟨pos, kw⟩) (fun r s' => match r with | .ok (.ret v) => Q v s' | .ok _ => False | .error e => E e s') s) :
    wpC M A (call f pos kw) Q E s := wpC_runValue hc
theorem codeC_mono {c : Code} {R R' : Result → Shared → Prop} (h : codeC M A c R s) (hR : ∀ r s, R r s → R' r s) : codeC M A c R' s :=
  fun Γ p hc hΓ hC => wpCode_mono hR (h Γ p hc hΓ hC)
theorem codeC_of_tree {c : Code} {R : Result → Shared → Prop} (hh : holds c = false)
    (h : wpC M (A.under c) (M.den c) (fun fin s' => match fin with | .done f => R (.ok f) s' | .again c' => c'.quiet = true ∧ codeC M A c' R s')
      (fun e s' => R (.error e) s') s) : codeC M A c R s := fun Γ p hc hΓ hC => by
  rw [wpCode_iff_wp, hc]
  refine Sem.wp_mono M Γ _ (fun fin p' s' h' => ?_) (fun _ _ _ h' => h') p s (h Γ p (hc ▸ hΓ.in) ⟨hc ▸ hh, hC⟩)
  cases fin with
  | done f => exact h'
  | again c' => exact ⟨h'.1, h'.2 (Γ.goto c') p' rfl (hΓ.goto c') hC⟩
end
theorem caller_clean : Clean ⟨.builtin "claim.caller" {}, none, none, [], none⟩ := ⟨by decide +kernel, fun x hx => nomatch hx⟩
theorem wp_of_wpC_done {M : Model} {t : Sem Fin} {R : Result → Shared → Prop} {s : Shared}
    (h : wpC M callerA t (fun fin s' => ∃ f, fin = .done f ∧ R (.ok f) s') (fun e s' => R (.error e) s') s) (p : Pos) :
    Sem.wp M ⟨.builtin "claim.caller" {}, none, none, [], none⟩ t (Sem.finPost M ⟨.builtin "claim.caller" {}, none, none, [], none⟩ R) (fun e _ s' => R (.error e) s') p s := by
  refine Sem.wp_mono M _ t (fun fin p' s' h' => ?_) (fun _ _ _ h' => h') p s (h _ p caller_in caller_clean)
  obtain ⟨f, rfl, hf⟩ := h'
  exact hf
theorem gen {T : Prop} (h : ∀ G : Prop, (T → G) → G) : T := h T id
inductive TEnd (prog : Program) (w : World) (s : Shared) (t : Sem Fin) (R : Result → Shared → Prop) : Prop
  | mk (n : Nat) (r : Result) (s' s'' : Shared) (hn : runN (denote table) prog w n s ⟨t, .builtin "claim.caller" {}, default, []⟩ = .halted (outcomeOf r) s')
      (hs : schedN (denote table) prog w n (.single s ⟨t, .builtin "claim.caller" {}, default, []⟩) = .halted (outcomeOf r) s') (hf : s'.forget = s''.forget) (hR : R r s'')
theorem thread_endsC {prog : Program} {w : World} {t : Sem Fin} {s : Shared} {R : Result → Shared → Prop} (hreg : s.asleep)
    (h : wpC (model prog w) callerA t (fun fin s' => ∃ f, fin = .done f ∧ (R (.ok f) s' ∧ leftWithCleanup s'.gens = false)) (fun e s' => R (.error e) s' ∧ leftWithCleanup s'.gens = false) s) :
    TEnd prog w s t R := by
  obtain ⟨n, r, s₁, s₂, hs, hn, hfo, hR⟩ := wp_halts_full (M := model prog w) (R := R) hreg (wp_of_wpC_done (R := fun r s' => R r s' ∧ leftWithCleanup s'.gens = false) h default)
  exact ⟨n, r, s₂, s₁, hn, hs, hfo, hR⟩
theorem callFrom_C {c : ClaimW} {tree : List Value → Sem Fin} {w : World} {s : Shared} {free : Addr → Prop} {gens : Prop} {kept : Heap → Prop} (hz : s.asleep) (hgens : s.gens = #[])
    (hspec : ∀ args, c.pre args = true → WData.layableAll args = true →
      ∀ ord : List DictEntry → List DictEntry, (∀ l, (ord l).Perm l) →
      ∃ vs s₁, layAllW c.records (classAt s.heap) w.params ord args s = some (vs, s₁) ∧
        wpC (model c.prog w) callerA (tree vs) (fun fin s' => ∃ f, fin = .done f ∧ (c.Ends s args vs s₁ (.ok f) s' ∧ s'.os = s.os ∧ AllBare s'.gens ∧ kept s'.heap))
          (fun e s' => c.Ends s args vs s₁ (.error e) s' ∧ s'.os = s.os ∧ AllBare s'.gens ∧ kept s'.heap) s₁) :
    c.CallFrom (fun vs => ⟨tree vs, .builtin "claim.caller" {}, default, []⟩) w free gens kept s := by
  intro args hpre hlay ord hord
  refine gen fun G hG => ?_
  obtain ⟨vs, s₁, hlaid, hcode⟩ := hspec args hpre hlay ord hord
  have hal := layAllW_rest _ _ _ hlaid
  obtain ⟨k, r, s', s'', hrun, hsched, hfo, hcase, hos, hkp⟩ := thread_endsC (prog := c.prog) (w := w) (t := tree vs) (s := s₁)
    (R := fun r s' => c.Ends s args vs s₁ r s' ∧ s'.os = s.os ∧ kept s'.heap)
    (Shared.asleep_of_life hal.2.2.2 hz)
    (wpC_mono hcode (fun fin s' h => h.imp fun f h => ⟨h.1, ⟨h.2.1, h.2.2.1, h.2.2.2.2⟩, leftWithCleanup_false_of_bare h.2.2.2.1⟩)
      (fun e s' h => ⟨⟨h.1, h.2.1, h.2.2.2⟩, leftWithCleanup_false_of_bare h.2.2.1⟩))
  obtain ⟨eh, _, _, eo, _⟩ := Shared.forget_eq hfo
  have hcase := hcase.congr eh
  have hkp : kept s'.heap := by first | exact eh ▸ hkp | (rw [eh] at hkp; exact hkp) | (rw [← eh] at hkp; exact hkp)
  rw [← eo] at hos
  have hlife : s'.heap.life = s.heap.life := (runN_life _ _ _ hrun).trans hal.2.2.2
  refine hG ⟨vs, s₁, hlaid, k, _, s', hsched, ?_, (fun _ i x hx => by rw [hgens] at hx; simp at hx), hkp, by rw [hlife], Shared.rest_eq hos⟩
  rcases hcase with ⟨v, rfl, d1, d2, d3, d4, d5⟩ | ⟨e, ob, cls, rfl, d1, d2, d3, d4, d5⟩
  · exact .inl ⟨v, rfl, d1, d2, d3, fun b o y _ => d4 b o y, d5⟩
  · exact .inr ⟨e, ob, cls, rfl, d1, d2, d3, d4, fun b o y _ => d5 b o y⟩
abbrev WalkC (q : Program) (loose : List Str) (XP : (Str → Option Value) → Heap → Prop) (YP : World → Heap → Prop) (r : RowW) (d : DefRec) (kwd : List (Str × Expr)) : Prop :=
  ∀ (w : World) (s₀ s₁ : Shared) (mg mb : Str → Option Value), Ground q loose r.records XP w s₀ mg mb s₁.heap → YP w s₁.heap → ∀ (a : Addr) (o : Obj) (pm cd doc dV kV : Value), s₁.heap.get? a = some o →
    o.data = .func { docDef d.name d.params d.body d.scope pm cd doc with defaults := dV, kwdefaults := kV } → s₁.heap.CodeRec cd d.name → Dflts mg s₁.heap d.params kwd dV kV → mg d.name = some (.ref a) → s₁.gens = #[] →
    ∀ (args : List WData) (vals : List Value) (as : List Addr), r.claim.pre args = true → WData.layableAll args = true → ReadsAllW r.records (classAt s₀.heap) s₁.heap vals args as → WellAll w.params s₁.heap vals args → (∀ a ∈ as, (a == sysModules) = false) →
      wpC (model r.prog w) callerA (PySem.call (.ref a) vals) (fun v s' => GoodWG r.claim (classAt s₀.heap) (ExcName.means s₀.heap) args s₁ (.ok (.ret v)) s')
        (fun e s' => GoodWG r.claim (classAt s₀.heap) (ExcName.means s₀.heap) args s₁ (.error e) s') s₁
end Mine
namespace MineTop
open Mine
theorem PySem.W.holds_open {r : OpenRow} {q : Program} {loose : List Str} {Xt : Shared → Bool} {XP : (Str → Option Value) → Heap → Prop} {α : Type} {Yf : Shared → α} {Ya : World → α} {YP : World → Heap → Prop} {d : DefRec} {kwd : List (Str × Expr)} {N : Nat}
    (left : LeftO r.prog q loose Xt Yf Ya N) (hY : ∀ w s, Yf s = Ya w → YP w s.heap) (hYk : ∀ w h h', YP w h → (∀ b o, h.get? b = some o → h'.get? b = some o) → YP w h')
    (hX : ∀ s, Xt s = true → XP (s.heap.nsMap mainGlobals) s.heap) (hXk : ∀ mg h h', XP mg h → (∀ b o, h.get? b = some o → h'.get? b = some o) → XP mg h')
    (hdef : defOf q r.name = some (d, kwd)) (hp : r.prog.theDef r.name = some (d.params, d.body, d.scope)) (hk : kwWritten? d.params.kwonlyargs d.params.kw_defaults = some kwd) (hRf : ∀ s, Xt s = true → RecFacts r.records s.heap) (hwr : (!r.writes || r.records.isEmpty) = true)
    (k1 : r.wellSaid = true) (ok : (chainsOk q && opensWell r.prog && (frees r.toRowW && r.within.isEmpty)) = true) (hb : r.prog.bare) (hw : r.toRowW.promised)
    (call : WalkC q loose XP YP r.toRowW d kwd) : r.Holds := by
  refine ⟨k1, hw, ?_⟩
  have hpin : ∀ w s, s.heap.isNs mainGlobals = true → Ground q loose [] XP w s (s.heap.nsMap mainGlobals) (s.heap.nsMap builtinsNs) s.heap → isTheDefsW r.prog s.heap r.name := fun w s hg G => pinned_of_view hg G hdef hp hk
  obtain ⟨ok, k5⟩ := Bool.and_eq_true_iff.mp ok
  obtain ⟨hch, o1⟩ := Bool.and_eq_true_iff.mp ok
  obtain ⟨k5, k6⟩ := Bool.and_eq_true_iff.mp k5
  obtain ⟨hsame, hu, ha, hap, hm⟩ := frees_parts k5
  refine ⟨⟨hb, o1, by show r.toRowW.makers.map _ = []; rw [hm]; rfl⟩, hw.witness, fun w => ⟨(left.behind hX hch w).1, fun s' hs' => gen fun G' hG' => ?_⟩⟩
  obtain ⟨s₀, hf, hg0, s, hT, hz, hgens, hg, G00, y⟩ := (left.behind (XP := fun mg h => XP mg h ∧ RecFacts r.records h) (fun s hs => ⟨hX s hs, hRf s hs⟩) hch w).2 s' hs'
  have G0 : Ground q loose [] XP w s (s.heap.nsMap mainGlobals) (s.heap.nsMap builtinsNs) s.heap := ⟨G00.T, G00.B, G00.D, G00.TE, G00.TD, G00.W, G00.X.1, G00.cls, G00.has, G00.apart, G00.once, G00.K⟩
  have RF := G00.X.2
  have hT' := hT
  refine hG' ⟨s₀, hf, hg0, s, hT, fun n hn => ?_, RF.1, RF.2.1, ?_⟩
  · obtain rfl : n = r.name := by split at hn <;> simp_all
    exact hpin w s hg G0
  have hgens : s.gens = #[] := Array.eq_empty_of_size_eq_zero (beq_iff_eq.mp hgens)
  have G : Ground q loose r.records XP w s _ _ s.heap := RF.ground G0
  refine callFrom_C (c := r.toRowW.claim) hz hgens fun args hpre hlay ord hord => ?_
  obtain ⟨⟨vs, s₁⟩, hlaid⟩ := Option.isSome_iff_exists.mp (layAllW_isSome (P := w.params) (ord := ord) G.has args r.args s (pre_splitW hpre).1)
  have keeps := layAllW_keeps _ _ _ hlaid
  have hal := layAllW_rest _ _ _ hlaid
  obtain ⟨as, hrd, hin, hold⟩ := reads_layAllW hord _ _ _ hlaid hlay s₁.heap (fun _ _ e => e)
  have L : Laid r.records w s s₁ args vs as := ⟨⟨ord, hord, hlaid⟩, hrd, hin, hold, keeps, hal.1.trans hgens, hal.2.2.1⟩
  have G₁ := G.keeps hXk keeps
  obtain ⟨a, o, pm, cd, doc, dV, kV, h1, h2, h3, h4, h5⟩ := G₁.fn hdef
  have h := call w s s₁ _ _ G₁ (hYk _ _ _ (hY w s y) keeps) a o pm cd doc dV kV h2 h3 h4 h5 (defOf_name hdef ▸ h1) L.gens args vs as hpre hlay L.reads L.well (L.low G.low)
  have hi := ident_freeW hu ha hap
  have hwi : r.toRowW.claim.within = [] := List.isEmpty_iff.mp k6
  refine ⟨vs, s₁, hlaid, ?_⟩
  refine wpC_bind (wpC_of (wpAny_nsGet G₁.T.g ?_))
  rw [h1]
  refine wpC_bind (wpC_mono h (fun v s' g => wpC_pure ⟨_, rfl, ?_⟩) fun e s' g => ?_)
  · have z := g.laid (c := r.toRowW.claim) hsame hwi hi L
    exact ⟨z.1, z.2.1, z.2.2, fun q => ⟨namesKept_of hT' hg _ keeps g.2.1.old, noTable hwr q⟩⟩
  · have z := g.laid (c := r.toRowW.claim) hsame hwi hi L
    exact ⟨z.1, z.2.1, z.2.2, fun q => ⟨namesKept_of hT' hg _ keeps g.2.1.old, noTable hwr q⟩⟩
end MineTop
end
section
namespace Mine
open PySem PySem.W PySem.Calls PyProof.Rows
noncomputable def tS (i : Nat) : Stmt := (PySem.Challenge.pw_pb0112_01.main.body.drop i).headD (.Pass ⟨0, 0, 0, 0⟩)
noncomputable def onStmt {α : Type} (d : α) (f : Str → Arguments → List Stmt → Scope → α) (b : List Stmt → α) (r : Option Expr → α) : Stmt → α
  | .FunctionDef nm ps body _ _ _ sc _ _ _ => f nm ps body sc
  | .ClassDef _ _ _ b' _ _ _ _ _ _ _ => b b'
  | .If _ b' _ _ => b b'
  | .Return e _ => r e
  | _ => d
noncomputable def mS (i j : Nat) : Stmt := onStmt (tS i) (fun _ _ _ _ => tS i) (fun b => (b.drop j).headD (.Pass ⟨0, 0, 0, 0⟩)) (fun _ => tS i) (tS i)
noncomputable def fD (d : Stmt) (q : Str) (dv kv doc md : Value) (an : Option Addr) (cd ct : Value) (b : Addr) : FuncData :=
  onStmt default (fun nm ps body sc => ⟨nm, q, ps, .stmts body, sc, 3, [], dv, kv, doc, md, an, cd, ct, b⟩) (fun _ => default) (fun _ => default) d
noncomputable abbrev S (x : String) : Str := Str.ofString x
noncomputable abbrev sv (x : String) (t : Tok) : Value := .str (Str.ofString x) t
noncomputable abbrev de (P : Params) (x : String) (t : Tok) (v : Value) : DictEntry := ⟨PyData.keyHash P (Str.ofString x), .str (Str.ofString x) t, v⟩
noncomputable def topK (P : Params) : Frag := [
  (2, Obj.mk .none .none (.dict #[de P "type.__subclasses__.Exception.0" 222 (.int 39 0), de P "type.__subclasses__.Exception.n" 223 (.int 1 0)] 2) #[]),
  (3, Obj.mk (.type "dict") .none (.dict #[de P "__name__" 165 (sv "law_pb0112_01" 511), de P "__doc__" 166 .none, de P "__package__" 167 .none, de P "__loader__" 168 (.builtin "__main__.__loader__#opaque"), de P "__spec__" 169 .none, de P "__annotations__" 170 (.ref 6), de P "__builtins__" 171 (.ref 4), de P "__file__" 173 (sv "/claim/cut.py" 172), de P "__cached__" 174 .none, de P "_wall" 193 (.ref 21), de P "GitError" 225 (.ref 39), de P "BadBits" 241 (.ref 52), de P "BitWriter" 341 (.ref 128), de P "deflate_merged" 352 (.ref 139), de P "code_lengths" 358 (.ref 144), de P "canonical" 370 (.ref 151), de P "MOST_LENGTH" 374 (.int 15 373), de P "BitReader" 440 (.ref 198), de P "Codes" 510 (.ref 241), de P "_law_counts" 521 (.ref 246), de P "_law_deck" 527 (.ref 251), de P "_law_draw" 537 (.ref 258), de P "_law_room" 543 (.ref 263), de P "_law_rising" 549 (.ref 268), de P "_law_best" 555 (.ref 273), de P "_law_lengths_told" 563 (.ref 280), de P "_law_are_right" 569 (.ref 285), de P "_law_codes" 575 (.ref 290), de P "_law_packed" 581 (.ref 295), de P "law" 587 (.ref 300)] 30) #[]),
  (15, Obj.mk (.type "tuple") .none (.seq #[]) #[]),
  (17, Obj.mk (.type "tuple") .none (.seq #[sv "k" 190]) #[]),
  (18, Obj.mk (.type "tuple") .none (.seq #[]) #[]),
  (20, Obj.mk (.type "code") .none (.fields #[sv "_wall" 187, sv "_wall" 188, sv "/claim/cut.py" 189, .int 1 0, .int 1 0, .int 0 0, .int 0 0, .int 3 0, .ref 15, .bool .true, .int 181 0, .ref 16, .none, .ref 17, .ref 18, .ref 19, .int 191 0, .int 1 0, sv "/claim/cut.py" 192]) #[]),
  (21, Obj.mk (.type "function") .none (.func (fD (tS 0) (S "_wall") .none .none .none (sv "__main__" 164) .none (.ref 20) .none 0)) #[]),
  (22, Obj.mk (.type "tuple") .none (.seq #[.type "Exception"]) #[]),
  (29, Obj.mk (.type "tuple") .none (.seq #[sv "" 208]) #[]),
  (30, Obj.mk (.type "tuple") .none (.seq #[]) #[]),
  (32, Obj.mk (.type "tuple") .none (.seq #[sv "self" 212, sv "told" 213]) #[]),
  (33, Obj.mk (.type "tuple") .none (.seq #[]) #[]),
  (35, Obj.mk (.type "code") .none (.fields #[sv "__init__" 209, sv "GitError.__init__" 210, sv "/claim/cut.py" 211, .int 7 0, .int 2 0, .int 0 0, .int 0 0, .int 3 0, .ref 30, .bool .true, .int 181 0, .ref 31, .none, .ref 32, .ref 33, .ref 34, .int 214 0, .int 7 0, sv "/claim/cut.py" 215]) #[]),
  (36, Obj.mk (.type "function") .none (.func (fD (mS 2 0) (S "GitError.__init__") (.ref 29) .none .none (sv "gitcore.base" 194) .none (.ref 35) .none 0)) #[]),
  (37, Obj.mk (.type "tuple") .none (.seq #[sv "told" 217]) #[]),
  (38, Obj.mk (.type "dict") .none (.dict #[de P "__module__" 203 (sv "gitcore.base" 194), de P "__firstlineno__" 207 (.int 5 206), de P "__init__" 216 (.ref 36), de P "__static_attributes__" 218 (.ref 37), de P "__weakref__" 220 (.ref 40), de P "__doc__" 221 .none] 3) #[]),
  (39, Obj.mk (.type "type") .none (.cls (ClassData.mk (S "GitError") [.type "Exception"] [.ref 39, .type "Exception", .type "BaseException", .type "object"] 38 (S "GitError") .true [] [.ref 52] .false .none .false)) #[.some (.ref 22), .none, .some (sv "GitError" 196), .some (sv "GitError" 204), .some (.builtin "Exception.__new__"), .some (.bool .true)]),
  (40, Obj.mk (.type "getset_descriptor") .none (.fields #[sv "__weakref__" 219, .ref 39, .builtin "ExceptionGroup.__weakref__", .none]) #[]),
  (43, Obj.mk (.type "tuple") .none (.seq #[.ref 39]) #[]),
  (50, Obj.mk (.type "tuple") .none (.seq #[]) #[]),
  (51, Obj.mk (.type "dict") .none (.dict #[de P "__module__" 233 (sv "gitcore.base" 194), de P "__firstlineno__" 237 (.int 9 236), de P "__static_attributes__" 238 (.ref 50), de P "__doc__" 239 .none] 2) #[]),
  (52, Obj.mk (.type "type") .none (.cls (ClassData.mk (S "BadBits") [.ref 39] [.ref 52, .ref 39, .type "Exception", .type "BaseException", .type "object"] 51 (S "BadBits") .true [] [] .false .none .false)) #[.some (.ref 43), .none, .some (sv "BadBits" 226), .some (sv "BadBits" 234), .some (.builtin "Exception.__new__"), .some (.bool .true)]),
  (62, Obj.mk (.type "tuple") .none (.seq #[.int 0 256, .int 0 257]) #[]),
  (63, Obj.mk (.type "tuple") .none (.seq #[]) #[]),
  (65, Obj.mk (.type "tuple") .none (.seq #[sv "self" 261, sv "held" 262, sv "many" 263]) #[]),
  (66, Obj.mk (.type "tuple") .none (.seq #[]) #[]),
  (68, Obj.mk (.type "code") .none (.fields #[sv "__init__" 258, sv "BitWriter.__init__" 259, sv "/claim/cut.py" 260, .int 14 0, .int 3 0, .int 0 0, .int 0 0, .int 3 0, .ref 63, .bool .true, .int 181 0, .ref 64, .none, .ref 65, .ref 66, .ref 67, .int 264 0, .int 14 0, sv "/claim/cut.py" 265]) #[]),
  (69, Obj.mk (.type "function") .none (.func (fD (mS 5 0) (S "BitWriter.__init__") (.ref 62) .none .none (sv "gitcore.deflate" 242) .none (.ref 68) .none 0)) #[]),
  (70, Obj.mk (.type "tuple") .none (.seq #[]) #[]),
  (72, Obj.mk (.type "tuple") .none (.seq #[sv "self" 270, sv "number" 271, sv "many" 272]) #[]),
  (73, Obj.mk (.type "tuple") .none (.seq #[]) #[]),
  (75, Obj.mk (.type "code") .none (.fields #[sv "put" 267, sv "BitWriter.put" 268, sv "/claim/cut.py" 269, .int 19 0, .int 3 0, .int 0 0, .int 0 0, .int 3 0, .ref 70, .bool .true, .int 181 0, .ref 71, .none, .ref 72, .ref 73, .ref 74, .int 273 0, .int 19 0, sv "/claim/cut.py" 274]) #[]),
  (76, Obj.mk (.type "function") .none (.func (fD (mS 5 1) (S "BitWriter.put") .none .none .none (sv "gitcore.deflate" 242) .none (.ref 75) .none 0)) #[]),
  (77, Obj.mk (.type "tuple") .none (.seq #[]) #[]),
  (79, Obj.mk (.type "tuple") .none (.seq #[sv "self" 279, sv "code" 280, sv "many" 281, sv "turned" 282, sv "turn" 283]) #[]),
  (80, Obj.mk (.type "tuple") .none (.seq #[]) #[]),
  (82, Obj.mk (.type "code") .none (.fields #[sv "put_code" 276, sv "BitWriter.put_code" 277, sv "/claim/cut.py" 278, .int 27 0, .int 3 0, .int 0 0, .int 0 0, .int 3 0, .ref 77, .bool .true, .int 181 0, .ref 78, .none, .ref 79, .ref 80, .ref 81, .int 284 0, .int 27 0, sv "/claim/cut.py" 285]) #[]),
  (83, Obj.mk (.type "function") .none (.func (fD (mS 5 2) (S "BitWriter.put_code") .none .none .none (sv "gitcore.deflate" 242) .none (.ref 82) .none 0)) #[]),
  (84, Obj.mk (.type "tuple") .none (.seq #[]) #[]),
  (86, Obj.mk (.type "tuple") .none (.seq #[sv "self" 290]) #[]),
  (87, Obj.mk (.type "tuple") .none (.seq #[]) #[]),
  (89, Obj.mk (.type "code") .none (.fields #[sv "align" 287, sv "BitWriter.align" 288, sv "/claim/cut.py" 289, .int 33 0, .int 1 0, .int 0 0, .int 0 0, .int 3 0, .ref 84, .bool .true, .int 181 0, .ref 85, .none, .ref 86, .ref 87, .ref 88, .int 291 0, .int 33 0, sv "/claim/cut.py" 292]) #[]),
  (90, Obj.mk (.type "function") .none (.func (fD (mS 5 3) (S "BitWriter.align") .none .none .none (sv "gitcore.deflate" 242) .none (.ref 89) .none 0)) #[]),
  (91, Obj.mk (.type "tuple") .none (.seq #[]) #[]),
  (93, Obj.mk (.type "tuple") .none (.seq #[sv "self" 297, sv "octets" 298]) #[]),
  (94, Obj.mk (.type "tuple") .none (.seq #[]) #[]),
  (96, Obj.mk (.type "code") .none (.fields #[sv "raw" 294, sv "BitWriter.raw" 295, sv "/claim/cut.py" 296, .int 37 0, .int 2 0, .int 0 0, .int 0 0, .int 3 0, .ref 91, .bool .true, .int 181 0, .ref 92, .none, .ref 93, .ref 94, .ref 95, .int 299 0, .int 37 0, sv "/claim/cut.py" 300]) #[]),
  (97, Obj.mk (.type "function") .none (.func (fD (mS 5 4) (S "BitWriter.raw") .none .none .none (sv "gitcore.deflate" 242) .none (.ref 96) .none 0)) #[]),
  (98, Obj.mk (.type "tuple") .none (.seq #[]) #[]),
  (100, Obj.mk (.type "tuple") .none (.seq #[sv "self" 305]) #[]),
  (101, Obj.mk (.type "tuple") .none (.seq #[]) #[]),
  (103, Obj.mk (.type "code") .none (.fields #[sv "size" 302, sv "BitWriter.size" 303, sv "/claim/cut.py" 304, .int 40 0, .int 1 0, .int 0 0, .int 0 0, .int 3 0, .ref 98, .bool .true, .int 181 0, .ref 99, .none, .ref 100, .ref 101, .ref 102, .int 306 0, .int 40 0, sv "/claim/cut.py" 307]) #[]),
  (104, Obj.mk (.type "function") .none (.func (fD (mS 5 5) (S "BitWriter.size") .none .none .none (sv "gitcore.deflate" 242) .none (.ref 103) .none 0)) #[]),
  (105, Obj.mk (.type "tuple") .none (.seq #[]) #[]),
  (107, Obj.mk (.type "tuple") .none (.seq #[sv "self" 312]) #[]),
  (108, Obj.mk (.type "tuple") .none (.seq #[]) #[]),
  (110, Obj.mk (.type "code") .none (.fields #[sv "trial" 309, sv "BitWriter.trial" 310, sv "/claim/cut.py" 311, .int 43 0, .int 1 0, .int 0 0, .int 0 0, .int 3 0, .ref 105, .bool .true, .int 181 0, .ref 106, .none, .ref 107, .ref 108, .ref 109, .int 313 0, .int 43 0, sv "/claim/cut.py" 314]) #[]),
  (111, Obj.mk (.type "function") .none (.func (fD (mS 5 6) (S "BitWriter.trial") .none .none .none (sv "gitcore.deflate" 242) .none (.ref 110) .none 0)) #[]),
  (112, Obj.mk (.type "tuple") .none (.seq #[]) #[]),
  (114, Obj.mk (.type "tuple") .none (.seq #[sv "self" 319, sv "other" 320]) #[]),
  (115, Obj.mk (.type "tuple") .none (.seq #[]) #[]),
  (117, Obj.mk (.type "code") .none (.fields #[sv "add" 316, sv "BitWriter.add" 317, sv "/claim/cut.py" 318, .int 46 0, .int 2 0, .int 0 0, .int 0 0, .int 3 0, .ref 112, .bool .true, .int 181 0, .ref 113, .none, .ref 114, .ref 115, .ref 116, .int 321 0, .int 46 0, sv "/claim/cut.py" 322]) #[]),
  (118, Obj.mk (.type "function") .none (.func (fD (mS 5 7) (S "BitWriter.add") .none .none .none (sv "gitcore.deflate" 242) .none (.ref 117) .none 0)) #[]),
  (119, Obj.mk (.type "tuple") .none (.seq #[]) #[]),
  (121, Obj.mk (.type "tuple") .none (.seq #[sv "self" 327]) #[]),
  (122, Obj.mk (.type "tuple") .none (.seq #[]) #[]),
  (124, Obj.mk (.type "code") .none (.fields #[sv "octets" 324, sv "BitWriter.octets" 325, sv "/claim/cut.py" 326, .int 49 0, .int 1 0, .int 0 0, .int 0 0, .int 3 0, .ref 119, .bool .true, .int 181 0, .ref 120, .none, .ref 121, .ref 122, .ref 123, .int 328 0, .int 49 0, sv "/claim/cut.py" 329]) #[]),
  (125, Obj.mk (.type "function") .none (.func (fD (mS 5 8) (S "BitWriter.octets") .none .none .none (sv "gitcore.deflate" 242) .none (.ref 124) .none 0)) #[]),
  (126, Obj.mk (.type "tuple") .none (.seq #[sv "done" 331, sv "held" 332, sv "many" 333]) #[]),
  (127, Obj.mk (.type "dict") .none (.dict #[de P "__module__" 251 (sv "gitcore.deflate" 242), de P "__firstlineno__" 255 (.int 12 254), de P "__init__" 266 (.ref 69), de P "put" 275 (.ref 76), de P "put_code" 286 (.ref 83), de P "align" 293 (.ref 90), de P "raw" 301 (.ref 97), de P "size" 308 (.ref 104), de P "trial" 315 (.ref 111), de P "add" 323 (.ref 118), de P "octets" 330 (.ref 125), de P "__static_attributes__" 334 (.ref 126), de P "__dict__" 336 (.ref 129), de P "__weakref__" 338 (.ref 130), de P "__doc__" 339 .none] 4) #[]),
  (128, Obj.mk (.type "type") .none (.cls (ClassData.mk (S "BitWriter") [.type "object"] [.ref 128, .type "object"] 127 (S "BitWriter") .true [] [] .false .none .false)) #[.none, .none, .some (sv "BitWriter" 244), .some (sv "BitWriter" 252), .some (.builtin "object.__new__"), .some (.bool .true)]),
  (129, Obj.mk (.type "getset_descriptor") .none (.fields #[sv "__dict__" 335, .ref 128, .builtin "function.__dict__", .builtin "function.__dict__#set"]) #[]),
  (130, Obj.mk (.type "getset_descriptor") .none (.fields #[sv "__weakref__" 337, .ref 128, .builtin "ExceptionGroup.__weakref__", .none]) #[]),
  (133, Obj.mk (.type "tuple") .none (.seq #[]) #[]),
  (135, Obj.mk (.type "tuple") .none (.seq #[sv "singles" 345, sv "pairs" 346, sv "found" 347, sv "place" 348, sv "pair" 349]) #[]),
  (136, Obj.mk (.type "tuple") .none (.seq #[]) #[]),
  (138, Obj.mk (.type "code") .none (.fields #[sv "deflate_merged" 342, sv "deflate_merged" 343, sv "/claim/cut.py" 344, .int 52 0, .int 2 0, .int 0 0, .int 0 0, .int 3 0, .ref 133, .bool .true, .int 181 0, .ref 134, .none, .ref 135, .ref 136, .ref 137, .int 350 0, .int 52 0, sv "/claim/cut.py" 351]) #[]),
  (139, Obj.mk (.type "function") .none (.func (fD (tS 6) (S "deflate_merged") .none .none .none (sv "gitcore.deflate" 242) .none (.ref 138) .none 0)) #[]),
  (140, Obj.mk (.type "tuple") .none (.seq #[]) #[]),
  (143, Obj.mk (.type "code") .none (.fields #[sv "code_lengths" 353, sv "code_lengths" 354, sv "/claim/cut.py" 355, .int 62 0, .int 2 0, .int 0 0, .int 0 0, .int 3 0, .ref 140, .bool .true, .int 181 0, .ref 141, .none, .none, .none, .ref 142, .int 356 0, .int 62 0, sv "/claim/cut.py" 357]) #[]),
  (144, Obj.mk (.type "function") .none (.func (fD (tS 7) (S "code_lengths") .none .none .none (sv "gitcore.deflate" 242) .none (.ref 143) .none 0)) #[]),
  (145, Obj.mk (.type "tuple") .none (.seq #[]) #[]),
  (147, Obj.mk (.type "tuple") .none (.seq #[sv "lengths" 362, sv "many" 363, sv "length" 364, sv "following" 365, sv "code" 366, sv "found" 367]) #[]),
  (148, Obj.mk (.type "tuple") .none (.seq #[]) #[]),
  (150, Obj.mk (.type "code") .none (.fields #[sv "canonical" 359, sv "canonical" 360, sv "/claim/cut.py" 361, .int 85 0, .int 1 0, .int 0 0, .int 0 0, .int 3 0, .ref 145, .bool .true, .int 181 0, .ref 146, .none, .ref 147, .ref 148, .ref 149, .int 368 0, .int 85 0, sv "/claim/cut.py" 369]) #[]),
  (151, Obj.mk (.type "function") .none (.func (fD (tS 8) (S "canonical") .none .none .none (sv "gitcore.deflate" 242) .none (.ref 150) .none 0)) #[]),
  (159, Obj.mk (.type "tuple") .none (.seq #[.int 0 387]) #[]),
  (160, Obj.mk (.type "tuple") .none (.seq #[]) #[]),
  (162, Obj.mk (.type "tuple") .none (.seq #[sv "self" 391, sv "octets" 392, sv "at" 393]) #[]),
  (163, Obj.mk (.type "tuple") .none (.seq #[]) #[]),
  (165, Obj.mk (.type "code") .none (.fields #[sv "__init__" 388, sv "BitReader.__init__" 389, sv "/claim/cut.py" 390, .int 107 0, .int 3 0, .int 0 0, .int 0 0, .int 3 0, .ref 160, .bool .true, .int 181 0, .ref 161, .none, .ref 162, .ref 163, .ref 164, .int 394 0, .int 107 0, sv "/claim/cut.py" 395]) #[]),
  (166, Obj.mk (.type "function") .none (.func (fD (mS 11 0) (S "BitReader.__init__") (.ref 159) .none .none (sv "gitcore.inflate" 371) .none (.ref 165) .none 0)) #[]),
  (167, Obj.mk (.type "tuple") .none (.seq #[]) #[]),
  (169, Obj.mk (.type "tuple") .none (.seq #[sv "self" 400]) #[]),
  (170, Obj.mk (.type "tuple") .none (.seq #[]) #[]),
  (172, Obj.mk (.type "code") .none (.fields #[sv "place" 397, sv "BitReader.place" 398, sv "/claim/cut.py" 399, .int 113 0, .int 1 0, .int 0 0, .int 0 0, .int 3 0, .ref 167, .bool .true, .int 181 0, .ref 168, .none, .ref 169, .ref 170, .ref 171, .int 401 0, .int 113 0, sv "/claim/cut.py" 402]) #[]),
  (173, Obj.mk (.type "function") .none (.func (fD (mS 11 1) (S "BitReader.place") .none .none .none (sv "gitcore.inflate" 371) .none (.ref 172) .none 0)) #[]),
  (174, Obj.mk (.type "property") .none (.fields #[.ref 173, .none, .none, .none, sv "place" 404, .bool .false]) #[]),
  (175, Obj.mk (.type "tuple") .none (.seq #[]) #[]),
  (177, Obj.mk (.type "tuple") .none (.seq #[sv "self" 408, sv "many" 409, sv "found" 410]) #[]),
  (178, Obj.mk (.type "tuple") .none (.seq #[]) #[]),
  (180, Obj.mk (.type "code") .none (.fields #[sv "bits" 405, sv "BitReader.bits" 406, sv "/claim/cut.py" 407, .int 117 0, .int 2 0, .int 0 0, .int 0 0, .int 3 0, .ref 175, .bool .true, .int 181 0, .ref 176, .none, .ref 177, .ref 178, .ref 179, .int 411 0, .int 117 0, sv "/claim/cut.py" 412]) #[]),
  (181, Obj.mk (.type "function") .none (.func (fD (mS 11 2) (S "BitReader.bits") .none .none .none (sv "gitcore.inflate" 371) .none (.ref 180) .none 0)) #[]),
  (182, Obj.mk (.type "tuple") .none (.seq #[]) #[]),
  (184, Obj.mk (.type "tuple") .none (.seq #[sv "self" 417]) #[]),
  (185, Obj.mk (.type "tuple") .none (.seq #[]) #[]),
  (187, Obj.mk (.type "code") .none (.fields #[sv "align" 414, sv "BitReader.align" 415, sv "/claim/cut.py" 416, .int 129 0, .int 1 0, .int 0 0, .int 0 0, .int 3 0, .ref 182, .bool .true, .int 181 0, .ref 183, .none, .ref 184, .ref 185, .ref 186, .int 418 0, .int 129 0, sv "/claim/cut.py" 419]) #[]),
  (188, Obj.mk (.type "function") .none (.func (fD (mS 11 3) (S "BitReader.align") .none .none .none (sv "gitcore.inflate" 371) .none (.ref 187) .none 0)) #[]),
  (189, Obj.mk (.type "tuple") .none (.seq #[]) #[]),
  (191, Obj.mk (.type "tuple") .none (.seq #[sv "self" 424, sv "many" 425]) #[]),
  (192, Obj.mk (.type "tuple") .none (.seq #[]) #[]),
  (194, Obj.mk (.type "code") .none (.fields #[sv "raw" 421, sv "BitReader.raw" 422, sv "/claim/cut.py" 423, .int 133 0, .int 2 0, .int 0 0, .int 0 0, .int 3 0, .ref 189, .bool .true, .int 181 0, .ref 190, .none, .ref 191, .ref 192, .ref 193, .int 426 0, .int 133 0, sv "/claim/cut.py" 427]) #[]),
  (195, Obj.mk (.type "function") .none (.func (fD (mS 11 4) (S "BitReader.raw") .none .none .none (sv "gitcore.inflate" 371) .none (.ref 194) .none 0)) #[]),
  (196, Obj.mk (.type "tuple") .none (.seq #[sv "at" 429, sv "left" 430, sv "many" 431, sv "octets" 432]) #[]),
  (197, Obj.mk (.type "dict") .none (.dict #[de P "__module__" 382 (sv "gitcore.inflate" 371), de P "__firstlineno__" 386 (.int 105 385), de P "__init__" 396 (.ref 166), de P "place" 404 (.ref 174), de P "bits" 413 (.ref 181), de P "align" 420 (.ref 188), de P "raw" 428 (.ref 195), de P "__static_attributes__" 433 (.ref 196), de P "__dict__" 435 (.ref 199), de P "__weakref__" 437 (.ref 200), de P "__doc__" 438 .none] 4) #[]),
  (198, Obj.mk (.type "type") .none (.cls (ClassData.mk (S "BitReader") [.type "object"] [.ref 198, .type "object"] 197 (S "BitReader") .true [] [] .false .none .false)) #[.none, .none, .some (sv "BitReader" 375), .some (sv "BitReader" 383), .some (.builtin "object.__new__"), .some (.bool .true)]),
  (199, Obj.mk (.type "getset_descriptor") .none (.fields #[sv "__dict__" 434, .ref 198, .builtin "function.__dict__", .builtin "function.__dict__#set"]) #[]),
  (200, Obj.mk (.type "getset_descriptor") .none (.fields #[sv "__weakref__" 436, .ref 198, .builtin "ExceptionGroup.__weakref__", .none]) #[]),
  (210, Obj.mk (.type "tuple") .none (.seq #[.bool .false, .bool .true]) #[]),
  (211, Obj.mk (.type "tuple") .none (.seq #[]) #[]),
  (213, Obj.mk (.type "tuple") .none (.seq #[sv "self" 456, sv "lengths" 457, sv "is_distance" 458, sv "can_be_lone" 459, sv "length" 460]) #[]),
  (214, Obj.mk (.type "tuple") .none (.seq #[]) #[]),
  (216, Obj.mk (.type "code") .none (.fields #[sv "__init__" 453, sv "Codes.__init__" 454, sv "/claim/cut.py" 455, .int 137 0, .int 4 0, .int 0 0, .int 0 0, .int 3 0, .ref 211, .bool .true, .int 181 0, .ref 212, .none, .ref 213, .ref 214, .ref 215, .int 461 0, .int 137 0, sv "/claim/cut.py" 462]) #[]),
  (217, Obj.mk (.type "function") .none (.func (fD (mS 12 0) (S "Codes.__init__") (.ref 210) .none .none (sv "gitcore.inflate" 371) .none (.ref 216) .none 0)) #[]),
  (218, Obj.mk (.type "tuple") .none (.seq #[]) #[]),
  (220, Obj.mk (.type "tuple") .none (.seq #[sv "self" 467, sv "is_distance" 468, sv "can_be_lone" 469, sv "free" 470, sv "many" 471, sv "length" 472]) #[]),
  (221, Obj.mk (.type "tuple") .none (.seq #[]) #[]),
  (223, Obj.mk (.type "code") .none (.fields #[sv "check" 464, sv "Codes.check" 465, sv "/claim/cut.py" 466, .int 147 0, .int 3 0, .int 0 0, .int 0 0, .int 3 0, .ref 218, .bool .true, .int 181 0, .ref 219, .none, .ref 220, .ref 221, .ref 222, .int 473 0, .int 147 0, sv "/claim/cut.py" 474]) #[]),
  (224, Obj.mk (.type "function") .none (.func (fD (mS 12 1) (S "Codes.check") .none .none .none (sv "gitcore.inflate" 371) .none (.ref 223) .none 0)) #[]),
  (225, Obj.mk (.type "tuple") .none (.seq #[]) #[]),
  (227, Obj.mk (.type "tuple") .none (.seq #[sv "self" 479, sv "lengths" 480, sv "begins" 481, sv "length" 482, sv "found" 483, sv "sign" 484]) #[]),
  (228, Obj.mk (.type "tuple") .none (.seq #[]) #[]),
  (230, Obj.mk (.type "code") .none (.fields #[sv "sorted_signs" 476, sv "Codes.sorted_signs" 477, sv "/claim/cut.py" 478, .int 162 0, .int 2 0, .int 0 0, .int 0 0, .int 3 0, .ref 225, .bool .true, .int 181 0, .ref 226, .none, .ref 227, .ref 228, .ref 229, .int 485 0, .int 162 0, sv "/claim/cut.py" 486]) #[]),
  (231, Obj.mk (.type "function") .none (.func (fD (mS 12 2) (S "Codes.sorted_signs") .none .none .none (sv "gitcore.inflate" 371) .none (.ref 230) .none 0)) #[]),
  (232, Obj.mk (.type "tuple") .none (.seq #[]) #[]),
  (234, Obj.mk (.type "tuple") .none (.seq #[sv "self" 491, sv "reader" 492, sv "code" 493, sv "first" 494, sv "ahead" 495, sv "length" 496, sv "many" 497]) #[]),
  (235, Obj.mk (.type "tuple") .none (.seq #[]) #[]),
  (237, Obj.mk (.type "code") .none (.fields #[sv "next_sign" 488, sv "Codes.next_sign" 489, sv "/claim/cut.py" 490, .int 173 0, .int 2 0, .int 0 0, .int 0 0, .int 3 0, .ref 232, .bool .true, .int 181 0, .ref 233, .none, .ref 234, .ref 235, .ref 236, .int 498 0, .int 173 0, sv "/claim/cut.py" 499]) #[]),
  (238, Obj.mk (.type "function") .none (.func (fD (mS 12 3) (S "Codes.next_sign") .none .none .none (sv "gitcore.inflate" 371) .none (.ref 237) .none 0)) #[]),
  (239, Obj.mk (.type "tuple") .none (.seq #[sv "counts" 501, sv "signs" 502]) #[]),
  (240, Obj.mk (.type "dict") .none (.dict #[de P "__module__" 448 (sv "gitcore.inflate" 371), de P "__firstlineno__" 452 (.int 135 451), de P "__init__" 463 (.ref 217), de P "check" 475 (.ref 224), de P "sorted_signs" 487 (.ref 231), de P "next_sign" 500 (.ref 238), de P "__static_attributes__" 503 (.ref 239), de P "__dict__" 505 (.ref 242), de P "__weakref__" 507 (.ref 243), de P "__doc__" 508 .none] 4) #[]),
  (241, Obj.mk (.type "type") .none (.cls (ClassData.mk (S "Codes") [.type "object"] [.ref 241, .type "object"] 240 (S "Codes") .true [] [] .false .none .false)) #[.none, .none, .some (sv "Codes" 441), .some (sv "Codes" 449), .some (.builtin "object.__new__"), .some (.bool .true)]),
  (242, Obj.mk (.type "getset_descriptor") .none (.fields #[sv "__dict__" 504, .ref 241, .builtin "function.__dict__", .builtin "function.__dict__#set"]) #[]),
  (243, Obj.mk (.type "getset_descriptor") .none (.fields #[sv "__weakref__" 506, .ref 241, .builtin "ExceptionGroup.__weakref__", .none]) #[]),
  (246, Obj.mk (.type "list") .none (.seq #[.int 0 513, .int 1 514, .int 2 515, .int 4 516, .int 8 517, .int 16 518, .int 3 519, .int 5 520]) #[]),
  (247, Obj.mk (.type "tuple") .none (.seq #[]) #[]),
  (250, Obj.mk (.type "code") .none (.fields #[sv "_law_deck" 522, sv "_law_deck" 523, sv "/claim/cut.py" 524, .int 185 0, .int 1 0, .int 0 0, .int 0 0, .int 3 0, .ref 247, .bool .true, .int 181 0, .ref 248, .none, .none, .none, .ref 249, .int 525 0, .int 185 0, sv "/claim/cut.py" 526]) #[]),
  (251, Obj.mk (.type "function") .none (.func (fD (tS 15) (S "_law_deck") .none .none .none (sv "law_pb0112_01" 511) .none (.ref 250) .none 0)) #[]),
  (252, Obj.mk (.type "tuple") .none (.seq #[]) #[]),
  (254, Obj.mk (.type "tuple") .none (.seq #[sv "deck" 531, sv "below" 532, sv "at" 533, sv "cells" 534]) #[]),
  (255, Obj.mk (.type "tuple") .none (.seq #[]) #[]),
  (257, Obj.mk (.type "code") .none (.fields #[sv "_law_draw" 528, sv "_law_draw" 529, sv "/claim/cut.py" 530, .int 187 0, .int 2 0, .int 0 0, .int 0 0, .int 3 0, .ref 252, .bool .true, .int 181 0, .ref 253, .none, .ref 254, .ref 255, .ref 256, .int 535 0, .int 187 0, sv "/claim/cut.py" 536]) #[]),
  (258, Obj.mk (.type "function") .none (.func (fD (tS 16) (S "_law_draw") .none .none .none (sv "law_pb0112_01" 511) .none (.ref 257) .none 0)) #[]),
  (259, Obj.mk (.type "tuple") .none (.seq #[]) #[]),
  (262, Obj.mk (.type "code") .none (.fields #[sv "_law_room" 538, sv "_law_room" 539, sv "/claim/cut.py" 540, .int 195 0, .int 2 0, .int 0 0, .int 0 0, .int 3 0, .ref 259, .bool .true, .int 181 0, .ref 260, .none, .none, .none, .ref 261, .int 541 0, .int 195 0, sv "/claim/cut.py" 542]) #[]),
  (263, Obj.mk (.type "function") .none (.func (fD (tS 17) (S "_law_room") .none .none .none (sv "law_pb0112_01" 511) .none (.ref 262) .none 0)) #[]),
  (264, Obj.mk (.type "tuple") .none (.seq #[]) #[]),
  (267, Obj.mk (.type "code") .none (.fields #[sv "_law_rising" 544, sv "_law_rising" 545, sv "/claim/cut.py" 546, .int 197 0, .int 3 0, .int 0 0, .int 0 0, .int 3 0, .ref 264, .bool .true, .int 181 0, .ref 265, .none, .none, .none, .ref 266, .int 547 0, .int 197 0, sv "/claim/cut.py" 548]) #[]),
  (268, Obj.mk (.type "function") .none (.func (fD (tS 18) (S "_law_rising") .none .none .none (sv "law_pb0112_01" 511) .none (.ref 267) .none 0)) #[]),
  (269, Obj.mk (.type "tuple") .none (.seq #[]) #[]),
  (272, Obj.mk (.type "code") .none (.fields #[sv "_law_best" 550, sv "_law_best" 551, sv "/claim/cut.py" 552, .int 201 0, .int 2 0, .int 0 0, .int 0 0, .int 3 0, .ref 269, .bool .true, .int 181 0, .ref 270, .none, .none, .none, .ref 271, .int 553 0, .int 201 0, sv "/claim/cut.py" 554]) #[]),
  (273, Obj.mk (.type "function") .none (.func (fD (tS 19) (S "_law_best") .none .none .none (sv "law_pb0112_01" 511) .none (.ref 272) .none 0)) #[]),
  (274, Obj.mk (.type "tuple") .none (.seq #[]) #[]),
  (276, Obj.mk (.type "tuple") .none (.seq #[sv "counts" 559, sv "most" 560]) #[]),
  (277, Obj.mk (.type "tuple") .none (.seq #[]) #[]),
  (279, Obj.mk (.type "code") .none (.fields #[sv "_law_lengths_told" 556, sv "_law_lengths_told" 557, sv "/claim/cut.py" 558, .int 208 0, .int 2 0, .int 0 0, .int 0 0, .int 3 0, .ref 274, .bool .true, .int 181 0, .ref 275, .none, .ref 276, .ref 277, .ref 278, .int 561 0, .int 208 0, sv "/claim/cut.py" 562]) #[]),
  (280, Obj.mk (.type "function") .none (.func (fD (tS 20) (S "_law_lengths_told") .none .none .none (sv "law_pb0112_01" 511) .none (.ref 279) .none 0)) #[]),
  (281, Obj.mk (.type "tuple") .none (.seq #[]) #[]),
  (284, Obj.mk (.type "code") .none (.fields #[sv "_law_are_right" 564, sv "_law_are_right" 565, sv "/claim/cut.py" 566, .int 213 0, .int 3 0, .int 0 0, .int 0 0, .int 3 0, .ref 281, .bool .true, .int 181 0, .ref 282, .none, .none, .none, .ref 283, .int 567 0, .int 213 0, sv "/claim/cut.py" 568]) #[]),
  (285, Obj.mk (.type "function") .none (.func (fD (tS 21) (S "_law_are_right") .none .none .none (sv "law_pb0112_01" 511) .none (.ref 284) .none 0)) #[]),
  (286, Obj.mk (.type "tuple") .none (.seq #[]) #[]),
  (289, Obj.mk (.type "code") .none (.fields #[sv "_law_codes" 570, sv "_law_codes" 571, sv "/claim/cut.py" 572, .int 224 0, .int 1 0, .int 0 0, .int 0 0, .int 3 0, .ref 286, .bool .true, .int 181 0, .ref 287, .none, .none, .none, .ref 288, .int 573 0, .int 224 0, sv "/claim/cut.py" 574]) #[]),
  (290, Obj.mk (.type "function") .none (.func (fD (tS 22) (S "_law_codes") .none .none .none (sv "law_pb0112_01" 511) .none (.ref 289) .none 0)) #[]),
  (291, Obj.mk (.type "tuple") .none (.seq #[]) #[]),
  (294, Obj.mk (.type "code") .none (.fields #[sv "_law_packed" 576, sv "_law_packed" 577, sv "/claim/cut.py" 578, .int 230 0, .int 1 0, .int 0 0, .int 0 0, .int 3 0, .ref 291, .bool .true, .int 181 0, .ref 292, .none, .none, .none, .ref 293, .int 579 0, .int 230 0, sv "/claim/cut.py" 580]) #[]),
  (295, Obj.mk (.type "function") .none (.func (fD (tS 23) (S "_law_packed") .none .none .none (sv "law_pb0112_01" 511) .none (.ref 294) .none 0)) #[]),
  (296, Obj.mk (.type "tuple") .none (.seq #[]) #[]),
  (299, Obj.mk (.type "code") .none (.fields #[sv "law" 582, sv "law" 583, sv "/claim/cut.py" 584, .int 233 0, .int 1 0, .int 0 0, .int 0 0, .int 3 0, .ref 296, .bool .true, .int 181 0, .ref 297, .none, .none, .none, .ref 298, .int 585 0, .int 233 0, sv "/claim/cut.py" 586]) #[]),
  (300, Obj.mk (.type "function") .none (.func (fD (tS 24) (S "law") .none .none .none (sv "law_pb0112_01" 511) .none (.ref 299) .none 0)) #[])]
noncomputable def topA : List Addr := [2, 3, 15, 17, 18, 20, 21, 22, 29, 30, 32, 33, 35, 36, 37, 38, 39, 40, 43, 50, 51, 52, 62, 63, 65, 66, 68, 69, 70, 72, 73, 75, 76, 77, 79, 80, 82, 83, 84, 86, 87, 89, 90, 91, 93, 94, 96, 97, 98, 100, 101, 103, 104, 105, 107, 108, 110, 111, 112, 114, 115, 117, 118, 119, 121, 122, 124, 125, 126, 127, 128, 129, 130, 133, 135, 136, 138, 139, 140, 143, 144, 145, 147, 148, 150, 151, 159, 160, 162, 163, 165, 166, 167, 169, 170, 172, 173, 174, 175, 177, 178, 180, 181, 182, 184, 185, 187, 188, 189, 191, 192, 194, 195, 196, 197, 198, 199, 200, 210, 211, 213, 214, 216, 217, 218, 220, 221, 223, 224, 225, 227, 228, 230, 231, 232, 234, 235, 237, 238, 239, 240, 241, 242, 243, 246, 247, 250, 251, 252, 254, 255, 257, 258, 259, 262, 263, 264, 267, 268, 269, 272, 273, 274, 276, 277, 279, 280, 281, 284, 285, 286, 289, 290, 291, 294, 295, 296, 299, 300]
noncomputable def topQ : Program := { PySem.Challenge.pw_pb0112_01 with main := { PySem.Challenge.pw_pb0112_01.main with body := [0, 2, 3, 5, 6, 7, 8, 10, 11, 12, 14, 15, 16, 17, 18, 19, 20, 21, 22, 23, 24].map tS } }
theorem topA_is (P : Params) : topA = (topK P).map (·.1) := by kernel_rfl
end Mine
end
section
namespace Mine
open PySem PySem.W PySem.Calls PyProof.Rows
set_option maxHeartbeats 8000000
noncomputable abbrev topL : List Str := [Str.ofString "GitError", Str.ofString "BitReader", Str.ofString "_law_counts"]
noncomputable abbrev topH : Hook := kHook topK topA topA_is
noncomputable abbrev topP : Program := PySem.Challenge.rw_pb0112_01.row.toRowW.prog
noncomputable abbrev topX (s : Shared) : Bool := xlAt topQ [] s && recOk (RowW.records PySem.Challenge.rw_pb0112_01.row.toRowW) s
noncomputable abbrev s0 (w : World) (os : OsState) : Shared := ⟨boot_heap w.params, #[], boot_drawn, boot_toks, os⟩
theorem said_ok : PySem.Challenge.rw_pb0112_01.wellSaid = true := by decide +kernel
theorem look_ok : (chainsOk topQ && (opensWell topP && (frees PySem.Challenge.rw_pb0112_01.row.toRowW && PySem.Challenge.rw_pb0112_01.row.within.isEmpty))) = true := by decide +kernel
noncomputable def topFQ (p : Program) (w : World) (N : Nat) (s : Shared) : { x : Option Shared // topFrom treeTable p w N s = x } :=
  ⟨_, by unfold topFrom; rewrite [PySem.W.Fast.te14082659384304107361, PySem.W.Fast.te14364793385576792824]; rfl⟩
theorem run_okQ (w : World) (os : OsState) : ((topFQ topP w 4388 (s0 w os)).1).map (fun s => (PySem.W.Fast.tw4187177175401517315 topQ topL (importedModules topP.main.body) topX true s, topH.obs s)) = some (openGood topQ topL, topH.val w) := by
  kernel_rfl
theorem run_map {α : Type} {p q : Program} {L : List Str} {l : List Str} {X : Shared → Bool} {b : Bool} {w : World} {N : Nat} {s : Shared} {f : Shared → α} {r : _} (h : ((topFQ p w N s).1).map (fun s => (PySem.W.Fast.tw4187177175401517315 q L l X b s, f s)) = r) :
    (topFrom treeTable p w N s).map (fun s => (openSeen q L l X b s, f s)) = r := by
  rewrite [(topFQ p w N s).2, PySem.W.Fast.te4187177175401517315]
  exact h
theorem left_of {α : Type} {p q : Program} {L : List Str} {X : Shared → Bool} {f : Shared → α} {v : World → α} {N : Nat} (hb : ∀ w : World, (fencedOpening treeTable p w N).map (fun s => (s.heap, s.gens, s.drawn, s.toks)) = some (boot_heap w.params, Array.mk [], boot_drawn, boot_toks))
    (hr : ∀ w os, (topFrom treeTable p w N (s0 w os)).map (fun s => (openSeen q L (importedModules p.main.body) X true s, f s)) = some (openGood q L, v w)) : LeftO p q L X f v N := fun w => by
  obtain ⟨⟨h, g, d, t, os⟩, h1, h2⟩ := Option.map_eq_some_iff.mp (hb w)
  obtain ⟨a1, h2⟩ := Prod.mk.inj h2
  obtain ⟨a2, h2⟩ := Prod.mk.inj h2
  obtain ⟨a3, a4⟩ := Prod.mk.inj h2
  have e : (⟨h, g, d, t, os⟩ : Shared) = s0 w os := by
    have b1 : h = boot_heap w.params := a1
    have b2 : g = #[] := a2
    have b3 : d = boot_drawn := a3
    have b4 : t = boot_toks := a4
    rw [b1, b2, b3, b4]
  rewrite [e] at h1
  show ((fencedOpening treeTable p w N).bind (topFrom treeTable p w N)).map _ = _
  rewrite [h1]
  exact hr w os
theorem left_ok : LeftO topP topQ topL topX topH.obs topH.val 4388 :=
  left_of (boot_open (by kernel_rfl) (by decide) (fun s => by kernel_rfl)) fun w os => run_map (run_okQ w os)
theorem top_head {d : DefRec} {kwd : List (Str × PySem.Expr)} (hdef : defOf topQ PySem.Challenge.rw_pb0112_01.row.name = some (d, kwd)) (hp : PySem.Challenge.rw_pb0112_01.row.prog.theDef PySem.Challenge.rw_pb0112_01.row.name = some (d.params, d.body, d.scope)) (hk : kwWritten? d.params.kwonlyargs d.params.kw_defaults = some kwd) (hw : PySem.Challenge.rw_pb0112_01.row.toRowW.promised)
    (h : WalkC topQ topL (XL topQ []) topH.says PySem.Challenge.rw_pb0112_01.row.toRowW d kwd) : PySem.Challenge.rw_pb0112_01.Holds := by
  refine holds_law said_ok fun said => ?_
  exact MineTop.PySem.W.holds_open left_ok (Hook.of topH) (Hook.keeps topH) (fun s e => xl_of s (Bool.and_eq_true_iff.mp e).1) XL.keeps hdef hp hk (fun s e => recFacts_of (Bool.and_eq_true_iff.mp e).2) (by rfl) said look_ok ⟨rfl, rfl, rfl, rfl, rfl, by decide +kernel⟩ hw h
end Mine
end
namespace Mine
open PySem PySem.W PySem.Calls PyProof.Rows
local macro_rules | `(tactic| omega) => `(tactic| lia)
section
inductive PV where
  | none | bool (b : Bool) | int (i : Int) | str (x : Str) | bytes (b : Array UInt8)
  | list (xs : List PV) | tup (xs : List PV)
inductive OfInt (d : PV) (K : Int → Prop) : Prop
  | mk (i : Int) (e : d = .int i) (k : K i)
inductive OfBool (d : PV) (K : Bool → Prop) : Prop
  | mk (b : Bool) (e : d = .bool b) (k : K b)
inductive OfList (d : PV) (K : List PV → Prop) : Prop
  | mk (xs : List PV) (e : d = .list xs) (k : K xs)
inductive OfInts (d : PV) (K : List Int → Prop) : Prop
  | mk (ns : List Int) (e : d = .list (ns.map PV.int)) (k : K ns)
noncomputable def PlainTup (h : Heap) (a : Addr) (items : Array Value) : Prop := ∃ n, h.get? a = some { cls := .type "tuple", data := .seq items n }
theorem PlainTup.isTup {h : Heap} {a : Addr} {items : Array Value} (x : PlainTup h a items) : IsTup h a items := let ⟨n, e⟩ := x; ⟨_, e, rfl, n, rfl⟩
theorem PlainTup.isTuple {h : Heap} {a : Addr} {items : Array Value} (x : PlainTup h a items) : h.IsTuple a items := let ⟨n, e⟩ := x; ⟨_, e, rfl, n, rfl⟩
inductive ListR (h : Heap) (T : Addr → Prop) (P : List Value → Prop) (v : Value) : Prop
  | mk (a : Addr) (vs : List Value) (e : v = .ref a) (off : ¬ T a) (l : h.PlainList a (List.toArray vs)) (r : P vs)
inductive TupR (h : Heap) (T : Addr → Prop) (P : List Value → Prop) (v : Value) : Prop
  | mk (a : Addr) (vs : List Value) (e : v = .ref a) (off : ¬ T a) (l : PlainTup h a (List.toArray vs)) (r : P vs)
inductive ConsR (P : Value → Prop) (Q : List Value → Prop) (vs : List Value) : Prop
  | mk (v : Value) (r : List Value) (e : vs = v :: r) (h : P v) (t : Q r)
mutual
noncomputable def Rd (h : Heap) (T : Addr → Prop) : PV → Value → Prop
  | .none, v => v = .none
  | .bool b, v => v = .bool b
  | .int i, v => ∃ t, v = .int i t
  | .str x, v => ∃ t, v = .str x t
  | .bytes b, v => ∃ t, v = .bytes b t
  | .list xs, v => ListR h T (RdL h T xs) v
  | .tup xs, v => TupR h T (RdL h T xs) v
noncomputable def RdL (h : Heap) (T : Addr → Prop) : List PV → List Value → Prop
  | [], vs => vs = []
  | x :: xs, vs => ConsR (Rd h T x) (RdL h T xs) vs
end
section
variable {h h' : Heap} {T T' : Addr → Prop} {ds ds' : List PV} {vs vs' : List Value} {d : PV} {v : Value}
theorem RdL.ind {P : List PV → List Value → Prop} (h0 : P [] []) (h1 : ∀ d ds v vs, Rd h T d v → RdL h T ds vs → P ds vs → P (d :: ds) (v :: vs)) (x : RdL h T ds vs) : P ds vs := by
  induction ds generalizing vs with
  | nil => exact (show vs = [] from x) ▸ h0
  | cons d ds ih =>
    obtain ⟨v, r, rfl, x1, x2⟩ := x
    exact h1 d ds v r x1 x2 (ih x2)
theorem Rd.mono (hk : ∀ a o, ¬ T a → h.get? a = some o → h'.get? a = some o) (hT : ∀ a, T' a → T a ∨ h.get? a = none) (x : Rd h T d v) : Rd h' T' d v := by
  refine PV.rec (motive_1 := fun d => ∀ v, Rd h T d v → Rd h' T' d v) (motive_2 := fun ds => ∀ vs, RdL h T ds vs → RdL h' T' ds vs) (fun _ x => x) (fun _ _ x => x) (fun _ _ x => x) (fun _ _ x => x) (fun _ _ x => x) (fun xs ih v x => ?_) (fun xs ih v x => ?_) (fun _ x => x) (fun d ds i1 i2 vs x => ?_) d v x
  · obtain ⟨a, vs, rfl, x1, x2, x3⟩ := x
    exact ⟨a, vs, rfl, fun hc => (hT a hc).elim x1 (fun h1 => nomatch h1.symm.trans x2.choose_spec), x2.at fun o e => hk a o x1 e, ih vs x3⟩
  · obtain ⟨a, vs, rfl, x1, x2, x3⟩ := x
    exact ⟨a, vs, rfl, fun hc => (hT a hc).elim x1 (fun h1 => nomatch h1.symm.trans x2.choose_spec), x2.imp fun n e => hk a _ x1 e, ih vs x3⟩
  · obtain ⟨v, r, rfl, x1, x2⟩ := x
    exact ⟨v, r, rfl, i1 v x1, i2 r x2⟩
theorem RdL.mono (hk : ∀ a o, ¬ T a → h.get? a = some o → h'.get? a = some o) (hT : ∀ a, T' a → T a ∨ h.get? a = none) (x : RdL h T ds vs) : RdL h' T' ds vs :=
  RdL.ind rfl (fun d ds v vs h1 _ ih => ⟨v, vs, rfl, Rd.mono hk hT h1, ih⟩) x
theorem RdL.length (x : RdL h T ds vs) : vs.length = ds.length := RdL.ind (P := fun ds vs => vs.length = ds.length) rfl (fun _ _ _ _ _ _ ih => congrArg (· + 1) ih) x
theorem RdL.get {i : Nat} (x : RdL h T ds vs) (e : ds[i]? = some d) : ∃ v, vs[i]? = some v ∧ Rd h T d v :=
  RdL.ind (P := fun ds vs => ∀ i, ds[i]? = some d → ∃ v, vs[i]? = some v ∧ Rd h T d v) (fun _ e => by cases e) (fun d ds v vs h1 _ ih i e => by
    cases i with
    | zero => cases e; exact ⟨v, rfl, h1⟩
    | succ i => exact ih i e) x i e
theorem RdL.app (x : RdL h T ds vs) (y : RdL h T ds' vs') : RdL h T (ds ++ ds') (vs ++ vs') := RdL.ind (P := fun ds vs => RdL h T (ds ++ ds') (vs ++ vs')) y (fun d ds v vs h1 _ ih => ⟨v, _, rfl, h1, ih⟩) x
theorem RdL.snoc (x : RdL h T ds vs) (y : Rd h T d v) : RdL h T (ds ++ [d]) (vs ++ [v]) := x.app ⟨v, [], rfl, y, rfl⟩
theorem RdL.set {i : Nat} (x : RdL h T ds vs) (y : Rd h T d v) : RdL h T (ds.set i d) (vs.set i v) :=
  RdL.ind (P := fun ds vs => ∀ i, RdL h T (ds.set i d) (vs.set i v)) (fun i => by cases i <;> rfl) (fun d' ds v' vs h1 h2 ih i => by
    cases i with
    | zero => exact ⟨v, vs, rfl, y, h2⟩
    | succ i => exact ⟨v', _, rfl, h1, ih i⟩) x i
theorem RdL.drop (i : Nat) (x : RdL h T ds vs) : RdL h T (ds.drop i) (vs.drop i) :=
  RdL.ind (P := fun ds vs => ∀ i, RdL h T (ds.drop i) (vs.drop i)) (fun i => by cases i <;> rfl) (fun d ds v vs h1 h2 ih i => by
    cases i with
    | zero => exact ⟨v, vs, rfl, h1, h2⟩
    | succ i => exact ih i) x i
theorem RdL.take (i : Nat) (x : RdL h T ds vs) : RdL h T (ds.take i) (vs.take i) :=
  RdL.ind (P := fun ds vs => ∀ i, RdL h T (ds.take i) (vs.take i)) (fun i => by cases i <;> rfl) (fun d ds v vs h1 h2 ih i => by
    cases i with
    | zero => exact rfl
    | succ i => exact ⟨v, _, rfl, h1, ih i⟩) x i
theorem RdL.rev (x : RdL h T ds vs) : RdL h T ds.reverse vs.reverse :=
  RdL.ind (P := fun ds vs => RdL h T ds.reverse vs.reverse) rfl (fun d ds v vs h1 _ ih => by rw [List.reverse_cons, List.reverse_cons]; exact RdL.snoc ih h1) x
end
theorem same_trans {s s₁ s₂ : Shared} (a : ∃ h' tk, s₁ = { s with heap := h', toks := tk }) (b : ∃ h' tk, s₂ = { s₁ with heap := h', toks := tk }) : ∃ h' tk, s₂ = { s with heap := h', toks := tk } := by
  obtain ⟨h, t, rfl⟩ := a
  exact b
theorem keeps_same {s₁ s₂ : Shared} (k : Keeps s₁ s₂) : ∃ h' tk, s₂ = { s₁ with heap := h', toks := tk } := k.elim fun h k => k.elim fun t k => ⟨h, t, k.1⟩
theorem keeps_get {s₁ s₂ : Shared} (k : Keeps s₁ s₂) {a : Addr} {o : Obj} (h : s₁.heap.get? a = some o) : s₂.heap.get? a = some o := by
  obtain ⟨h', t, rfl, k⟩ := k
  exact k a o h
theorem keeps_none {s₁ s₂ : Shared} (k : Keeps s₁ s₂) {a : Addr} (h : s₂.heap.get? a = none) : s₁.heap.get? a = none := by
  cases e : s₁.heap.get? a with
  | none => rfl
  | some o => rw [keeps_get k e] at h; cases h
inductive Fld where
  | val (d : PV) | lst (a : Addr) (xs : List PV) | bya (a : Addr) (bs : Array UInt8)
inductive Slot where
  | unb | val (d : PV) | lst (a : Addr) (xs : List PV) | dct (a : Addr) (es : List (Str × PV)) | obj (a dx C : Addr) (fs : List (Str × Fld))
noncomputable def Fld.fp : Fld → List Addr
  | .val _ => []
  | .lst a _ => [a]
  | .bya a _ => [a]
noncomputable def Slot.fp : Slot → List Addr
  | .unb => []
  | .val _ => []
  | .lst a _ => [a]
  | .dct a _ => [a]
  | .obj a dx _ fs => a :: dx :: fs.flatMap (fun f => f.2.fp)
noncomputable def FldIs (h : Heap) (T : Addr → Prop) : Fld → Value → Prop
  | .val d, v => Rd h T d v
  | .lst a xs, v => v = .ref a ∧ ∃ vs, h.PlainList a (List.toArray vs) ∧ RdL h T xs vs
  | .bya a bs, v => v = .ref a ∧ h.get? a = some { cls := .type "bytearray", data := .bytearray bs 0 }
inductive EntR (P : Params) (x : Str) (R : Value → Prop) (Q : List DictEntry → Prop) (ds : List DictEntry) : Prop
  | mk (d : DictEntry) (r : List DictEntry) (t : Tok) (e : ds = d :: r) (k : d.key = .str x t) (hh : d.hash = PyData.keyHash P x) (h : R d.val) (q : Q r)
inductive PairR (x : Str) (P : Value → Prop) (Q : List (Str × Value) → Prop) (bs : List (Str × Value)) : Prop
  | mk (v : Value) (r : List (Str × Value)) (e : bs = (x, v) :: r) (h : P v) (t : Q r)
noncomputable def EsIs (P : Params) (R : PV → Value → Prop) : List (Str × PV) → List DictEntry → Prop
  | [], ds => ds = []
  | e :: es, ds => EntR P e.1 (R e.2) (EsIs P R es) ds
noncomputable def FsIs (P : Params) (R : Fld → Value → Prop) : List (Str × Fld) → List DictEntry → Prop
  | [], ds => ds = []
  | e :: es, ds => EntR P e.1 (R e.2) (FsIs P R es) ds
inductive ValR (h : Heap) (T : Addr → Prop) (d : PV) (o : Option Value) : Prop
  | mk (v : Value) (e : o = some v) (r : Rd h T d v)
inductive LstR (h : Heap) (T : Addr → Prop) (a : Addr) (xs : List PV) (o : Option Value) : Prop
  | mk (e : o = some (.ref a)) (vs : List Value) (l : h.PlainList a (List.toArray vs)) (r : RdL h T xs vs)
inductive DctR (P : Params) (h : Heap) (T : Addr → Prop) (a : Addr) (es : List (Str × PV)) (o : Option Value) : Prop
  | mk (e : o = some (.ref a)) (ds : List DictEntry) (n : Nat) (g : h.get? a = some (dictOf ds n)) (r : EsIs P (Rd h T) es ds)
inductive ObjR (P : Params) (h : Heap) (T : Addr → Prop) (a dx C : Addr) (fs : List (Str × Fld)) (o : Option Value) : Prop
  | mk (e : o = some (.ref a)) (gi : h.get? a = some (instObj C dx)) (ds : List DictEntry) (n : Nat) (g : h.get? dx = some (dictOf ds n)) (r : FsIs P (FldIs h T) fs ds)
noncomputable def SlotIs (P : Params) (h : Heap) (T : Addr → Prop) : Slot → Option Value → Prop
  | .unb, o => o = none
  | .val d, o => ValR h T d o
  | .lst a xs, o => LstR h T a xs o
  | .dct a es, o => DctR P h T a es o
  | .obj a dx C fs, o => ObjR P h T a dx C fs o
theorem EsIs.mono {P : Params} {R R' : PV → Value → Prop} (hr : ∀ d v, R d v → R' d v) : ∀ {es : List (Str × PV)} {ds : List DictEntry}, EsIs P R es ds → EsIs P R' es ds := by
  intro l0
  induction l0 with
  | nil => exact @fun _ x => x
  | cons e es ih =>
    intro ds x
    obtain ⟨d, r, t, h1, h2, h3, h4, h5⟩ := x
    exact ⟨d, r, t, h1, h2, h3, hr _ _ h4, ih h5⟩
theorem FsIs.mono {P : Params} {R R' : Fld → Value → Prop} : ∀ {es : List (Str × Fld)} {ds : List DictEntry}, (∀ e ∈ es, ∀ v, R e.2 v → R' e.2 v) → FsIs P R es ds → FsIs P R' es ds := by
  intro l0
  induction l0 with
  | nil => exact @fun _ _ x => x
  | cons e es ih =>
    intro ds hr x
    obtain ⟨d, r, t, h1, h2, h3, h4, h5⟩ := x
    exact ⟨d, r, t, h1, h2, h3, hr e (.head _) _ h4, ih (fun e he => hr e (.tail _ he)) h5⟩
theorem FldIs.mono {h h' : Heap} {T T' : Addr → Prop} {f : Fld} {v : Value} (hk : ∀ a o, (¬ T a ∨ a ∈ f.fp) → h.get? a = some o → h'.get? a = some o) (hT : ∀ a, T' a → T a ∨ h.get? a = none)
    (x : FldIs h T f v) : FldIs h' T' f v := by
  cases f with
  | val d => exact Rd.mono (fun a o ha e => hk a o (.inl ha) e) hT x
  | lst a xs =>
    obtain ⟨e, vs, hl, hr⟩ := x
    exact ⟨e, vs, hl.at fun o e => hk a o (.inr (.head _)) e, RdL.mono (fun a o ha e => hk a o (.inl ha) e) hT hr⟩
  | bya a bs => exact ⟨x.1, hk a _ (.inr (.head _)) x.2⟩
theorem SlotIs.mono {P : Params} {h h' : Heap} {T T' : Addr → Prop} {sl : Slot} {o : Option Value} (hk : ∀ a o, (¬ T a ∨ a ∈ sl.fp) → h.get? a = some o → h'.get? a = some o) (hT : ∀ a, T' a → T a ∨ h.get? a = none)
    (x : SlotIs P h T sl o) : SlotIs P h' T' sl o := by
  cases sl with
  | unb => exact x
  | val d => obtain ⟨v, e, r⟩ := x; exact ⟨v, e, Rd.mono (fun a o ha e => hk a o (.inl ha) e) hT r⟩
  | lst a xs =>
    obtain ⟨e, vs, hl, hr⟩ := x
    exact ⟨e, vs, hl.at fun o e => hk a o (.inr (.head _)) e, RdL.mono (fun a o ha e => hk a o (.inl ha) e) hT hr⟩
  | dct a es =>
    obtain ⟨e, ds, n, hg, hr⟩ := x
    exact ⟨e, ds, n, hk a _ (.inr (.head _)) hg, hr.mono fun d v r => Rd.mono (fun a o ha e => hk a o (.inl ha) e) hT r⟩
  | obj a dx C fs =>
    obtain ⟨e, hg, ds, n, hg2, hr⟩ := x
    refine ⟨e, hk a _ (.inr (.head _)) hg, ds, n, hk dx _ (.inr (.tail _ (.head _))) hg2, hr.mono fun f hf v r => FldIs.mono (fun b o hb e => hk b o ?_ e) hT r⟩
    rcases hb with hb | hb
    · exact .inl hb
    · exact .inr (.tail _ (.tail _ (List.mem_flatMap.mpr ⟨f, hf, hb⟩)))
structure Ent where
  x : Str
  loc : Option Addr
  sl : Slot
noncomputable def Ent.fp (e : Ent) : List Addr := e.loc.toList ++ e.sl.fp
noncomputable def V (ρ : List Ent) : List Addr := ρ.flatMap Ent.fp
inductive CellE (P : Params) (env : Env) (h : Heap) (T : Addr → Prop) (e : Ent) (c : Addr) : Prop
  | mk (k : env.kindOf e.x = some .cell ∨ env.kindOf e.x = some .free) (l : env.cells.lookup e.x = some c) (ov : Option Value) (hc : h.IsCell c ov) (s : SlotIs P h T e.sl ov)
noncomputable def EntIs (P : Params) (env : Env) (h : Heap) (T : Addr → Prop) (m : Str → Option Value) (e : Ent) : Prop :=
  match e.loc with
  | none => env.kindOf e.x = some .local ∧ SlotIs P h T e.sl (m e.x)
  | some c => CellE P env h T e c
noncomputable def Tt (env : Env) (H : Addr → Prop) (ρ : List Ent) : Addr → Prop := fun a => H a ∨ a = env.locals ∨ a ∈ V ρ
structure SR (P : Params) (g : Heap) (env : Env) (H : Addr → Prop) (ρ : List Ent) (h : Heap) : Prop where
  keep : ∀ a o, g.get? a = some o → h.get? a = some o
  nd : (env.locals :: V ρ).Nodup
  sep : ∀ a ∈ env.locals :: V ρ, ¬ H a
  dom : ∀ a, Tt env H ρ a → (h.get? a).isSome = true ∧ g.get? a = none
  names : (ρ.map Ent.x).Nodup
  ents : ∃ m, h.Ns env.locals m ∧ ∀ e ∈ ρ, EntIs P env h (Tt env H ρ) m e
noncomputable def EnvOk (env : Env) : Prop := env.scope.kind = .function ∧ env.globals = mainGlobals ∧ env.builtins = builtinsNs
noncomputable def Room (n : Nat) (A : Around) : Prop := A.handled = none ∧ A.depth + 3 * n < 700 ∧ A.units + 16 * n + 500 < cLine
structure Post0 (P : Params) (g : Heap) (env : Env) (H : Addr → Prop) (ρ : List Ent) (s : Shared) (ρ' : List Ent) (s' : Shared) : Prop where
  sr : SR P g env H ρ' s'.heap
  same : ∃ h' tk, s' = { s with heap := h', toks := tk }
  keep : ∀ b o, ¬ (b = env.locals ∨ b ∈ V ρ) → s.heap.get? b = some o → s'.heap.get? b = some o
  new : ∀ b, b ∈ V ρ' → b ∈ V ρ ∨ s.heap.get? b = none
  shape : ρ'.map (fun e => (e.x, e.loc)) = ρ.map (fun e => (e.x, e.loc))
section
variable {P : Params} {g : Heap} {env : Env} {H : Addr → Prop} {ρ ρ₁ ρ₂ : List Ent} {s s₁ s₂ : Shared}
theorem SR.post (x : SR P g env H ρ s.heap) : Post0 P g env H ρ s ρ s := ⟨x, ⟨_, _, rfl⟩, fun _ _ _ e => e, fun _ h => .inl h, rfl⟩
theorem SR.grow {h h' : Heap} (x : SR P g env H ρ h) (hk : ∀ b o, h.get? b = some o → h'.get? b = some o) : SR P g env H ρ h' := by
  refine ⟨fun a o e => hk a o (x.keep a o e), x.nd, x.sep, fun a ha => ⟨?_, (x.dom a ha).2⟩, x.names, ?_⟩
  · obtain ⟨o, ho⟩ := Option.isSome_iff_exists.mp (x.dom a ha).1
    rw [hk a o ho]; rfl
  · obtain ⟨m, hn, he⟩ := x.ents
    refine ⟨m, hn.keeps hk, fun e hm => ?_⟩
    have z := he e hm
    unfold EntIs at z ⊢
    cases hl : e.loc with
    | none => rw [hl] at z; exact ⟨z.1, z.2.mono (fun a o _ e => hk a o e) fun a ha => .inl ha⟩
    | some c =>
      rw [hl] at z
      obtain ⟨z1, z2, ov, z3, z4⟩ := z
      exact ⟨z1, z2, ov, z3.keeps hk, z4.mono (fun a o _ e => hk a o e) fun a ha => .inl ha⟩
theorem Post0.ofGrow (x : SR P g env H ρ s.heap) {h' : Heap} {tk : Nat} (hk : ∀ b o, s.heap.get? b = some o → h'.get? b = some o) : Post0 P g env H ρ s ρ { s with heap := h', toks := tk } :=
  ⟨x.grow hk, ⟨_, _, rfl⟩, fun b o _ e => hk b o e, fun _ h => .inl h, rfl⟩
theorem Post0.into (p : Post0 P g env H ρ s ρ₁ s₁) : ∀ a, Tt env H ρ₁ a → Tt env H ρ a ∨ s.heap.get? a = none := by
  rintro a (h | h | h)
  · exact .inl (.inl h)
  · exact .inl (.inr (.inl h))
  · exact (p.new a h).imp (fun h => .inr (.inr h)) id
theorem Post0.rd (p : Post0 P g env H ρ s ρ₁ s₁) {d : PV} {v : Value} (x : Rd s.heap (Tt env H ρ) d v) : Rd s₁.heap (Tt env H ρ₁) d v :=
  x.mono (fun a o ha e => p.keep a o (fun h => ha (.inr h)) e) p.into
theorem Post0.rdL (p : Post0 P g env H ρ s ρ₁ s₁) {d : List PV} {v : List Value} (x : RdL s.heap (Tt env H ρ) d v) : RdL s₁.heap (Tt env H ρ₁) d v :=
  x.mono (fun a o ha e => p.keep a o (fun h => ha (.inr h)) e) p.into
theorem Post0.trans (p : Post0 P g env H ρ s ρ₁ s₁) (q : Post0 P g env H ρ₁ s₁ ρ₂ s₂) : Post0 P g env H ρ s ρ₂ s₂ := by
  refine ⟨q.sr, ?_, fun b o hb e => ?_, fun b hb => ?_, q.shape.trans p.shape⟩
  · exact same_trans p.same q.same
  · refine q.keep b o (fun h => ?_) (p.keep b o hb e)
    rcases h with h | h
    · exact hb (.inl h)
    · rcases p.new b h with h | h
      · exact hb (.inr h)
      · rw [e] at h; cases h
  · rcases q.new b hb with h | h
    · exact p.new b h
    · cases e : s.heap.get? b with
      | none => exact .inr rfl
      | some o =>
        by_cases hv : b ∈ V ρ
        · exact .inl hv
        · have hL : b ≠ env.locals := fun h => by
            subst h
            exact (List.nodup_cons.mp q.sr.nd).1 hb
          rw [p.keep b o (fun h => h.elim hL hv) e] at h
          cases h
end
inductive REs (P : Params) (g : Heap) (env : Env) (H : Addr → Prop) (ρ : List Ent) (s : Shared) (K : PV → List Ent → Prop) (v : Value) (s' : Shared) : Prop where
  | mk (d : PV) (ρ' : List Ent) (k : K d ρ') (p : Post0 P g env H ρ s ρ' s') (r : Rd s'.heap (Tt env H ρ') d v)
inductive RTs (P : Params) (g : Heap) (env : Env) (H : Addr → Prop) (ρ : List Ent) (s : Shared) (K : List Ent → Prop) (s' : Shared) : Prop where
  | mk (ρ' : List Ent) (k : K ρ') (p : Post0 P g env H ρ s ρ' s')
inductive RLs (P : Params) (g : Heap) (env : Env) (H : Addr → Prop) (ρ : List Ent) (s : Shared) (K : List PV → List Ent → Prop) (vs : List Value) (s' : Shared) : Prop where
  | mk (ds : List PV) (ρ' : List Ent) (k : K ds ρ') (p : Post0 P g env H ρ s ρ' s') (r : RdL s'.heap (Tt env H ρ') ds vs)
section
variable (prog : Program) (w : World) (g : Heap)
noncomputable def noE : Value → Shared → Prop := fun _ _ => False
noncomputable def WE (n : Nat) (sc : Scope) (e : Expr) (ρ : List Ent) (K : PV → List Ent → Prop) : Prop :=
  ∀ (env : Env) (A : Around) (H : Addr → Prop) (s : Shared), env.scope = sc → EnvOk env → Room n A → SR w.params g env H ρ s.heap →
    wpAny (model prog w) A (eval e env) (fun v s' => REs w.params g env H ρ s K v s') noE s
noncomputable def WT (n : Nat) (sc : Scope) (e : Expr) (ρ : List Ent) (K : Bool → List Ent → Prop) : Prop :=
  ∀ (env : Env) (A : Around) (H : Addr → Prop) (s : Shared), env.scope = sc → EnvOk env → Room n A → SR w.params g env H ρ s.heap →
    wpAny (model prog w) A (isTrue e env (eval e env)) (fun b s' => RTs w.params g env H ρ s (K b) s') noE s
inductive Fl where
  | next | ret (d : PV)
noncomputable def FlIs (h : Heap) (T : Addr → Prop) : Fl → Flow → Prop
  | .next, f => f = .next
  | .ret d, f => ∃ v, f = .ret v ∧ Rd h T d v
end
inductive RSs (P : Params) (g : Heap) (env : Env) (H : Addr → Prop) (ρ : List Ent) (s : Shared) (K : Fl → List Ent → Prop) (f : Flow) (s' : Shared) : Prop where
  | mk (fl : Fl) (ρ' : List Ent) (k : K fl ρ') (p : Post0 P g env H ρ s ρ' s') (r : FlIs s'.heap (Tt env H ρ') fl f)
section
variable (prog : Program) (w : World) (g : Heap)
noncomputable def WS (n : Nat) (sc : Scope) (b : List Stmt) (ρ : List Ent) (K : Fl → List Ent → Prop) : Prop :=
  ∀ (env : Env) (A : Around) (H : Addr → Prop) (s : Shared), env.scope = sc → EnvOk env → Room n A → SR w.params g env H ρ s.heap →
    wpAny (model prog w) A (execs b env) (fun f s' => RSs w.params g env H ρ s K f s') noE s
end
end
section
variable {prog : Program} {w : World} {g : Heap} {n : Nat} {sc : Scope} {ρ : List Ent}
noncomputable def HR (g : Heap) (T : Addr → Prop) (h : Heap) : Prop := (∀ a o, g.get? a = some o → h.get? a = some o) ∧ ∀ a, T a → (h.get? a).isSome = true ∧ g.get? a = none
theorem SR.hr {P : Params} {env : Env} {H : Addr → Prop} {h : Heap} (x : SR P g env H ρ h) : HR g (Tt env H ρ) h := ⟨x.keep, x.dom⟩
theorem Keeps.refl' (s : Shared) : Keeps s s := ⟨_, _, rfl, fun _ _ e => e⟩
theorem Keeps.trans' {s s' s'' : Shared} (p : Keeps s s') (q : Keeps s' s'') : Keeps s s'' := by
  obtain ⟨h, t, rfl, k⟩ := p
  obtain ⟨h', t', rfl, k'⟩ := q
  exact ⟨h', t', rfl, fun b o e => k' b o (k b o e)⟩
theorem Keeps.tok (s : Shared) (t : Nat) : Keeps s { s with toks := t } := ⟨s.heap, t, rfl, fun _ _ e => e⟩
theorem Keeps.push' (s : Shared) (o : Obj) (t : Nat) : Keeps s { s with heap := s.heap.push o, toks := t } := ⟨_, t, rfl, fun _ _ e => Heap.get?_push_of_some _ e⟩
theorem Keeps.push (s : Shared) (o : Obj) : Keeps s { s with heap := s.heap.push o } := ⟨_, _, rfl, fun _ _ e => Heap.get?_push_of_some _ e⟩
theorem Rd.keeps {T : Addr → Prop} {s s' : Shared} {d : PV} {v : Value} (x : Rd s.heap T d v) (k : Keeps s s') : Rd s'.heap T d v := by
  obtain ⟨h, t, rfl, k⟩ := k
  exact x.mono (fun a o _ e => k a o e) fun a h => .inl h
theorem Post0.grow {P : Params} {env : Env} {H : Addr → Prop} {ρ₁ : List Ent} {s s₁ s₂ : Shared} (p : Post0 P g env H ρ s ρ₁ s₁) (k : Keeps s₁ s₂) : Post0 P g env H ρ s ρ₁ s₂ := by
  obtain ⟨h, t, rfl, k⟩ := k
  exact p.trans (Post0.ofGrow p.sr k)
theorem HR.off {T : Addr → Prop} {h : Heap} (x : HR g T h) : ¬ T h.objs.size := fun ht => by
  obtain ⟨o, ho⟩ := Option.isSome_iff_exists.mp (x.2 _ ht).1
  exact absurd (Heap.lt_size ho) (Nat.lt_irrefl _)
theorem Rd.newList {T : Addr → Prop} {h : Heap} (x : HR g T h) {xs : List PV} {vs : List Value} (r : RdL h T xs vs) :
    Rd (h.push { cls := .type "list", data := .seq vs.toArray }) T (.list xs) (.ref h.objs.size) :=
  ⟨_, vs, rfl, x.off, ⟨_, Heap.get?_push_size _ rfl⟩, r.mono (fun a o _ e => Heap.get?_push_of_some _ e) fun a h => .inl h⟩
theorem Rd.newTup {T : Addr → Prop} {h : Heap} (x : HR g T h) {xs : List PV} {vs : List Value} (r : RdL h T xs vs) :
    Rd (h.push { cls := .type "tuple", data := .seq vs.toArray }) T (.tup xs) (.ref h.objs.size) :=
  ⟨_, vs, rfl, x.off, ⟨_, Heap.get?_push_size _ rfl⟩, r.mono (fun a o _ e => Heap.get?_push_of_some _ e) fun a h => .inl h⟩
inductive RPs (T : Addr → Prop) (s : Shared) (K : PV → Prop) (v : Value) (s' : Shared) : Prop where
  | mk (d : PV) (h : K d) (r : Rd s'.heap T d v) (q : Keeps s s')
variable (prog w g) in
noncomputable def PO2 (n : Nat) (t : Value → Value → Sem Value) (d₁ d₂ : PV) (k : PV → Prop) : Prop :=
  ∀ (A : Around) (T : Addr → Prop) (s : Shared) (v₁ v₂ : Value), Room n A → HR g T s.heap → Rd s.heap T d₁ v₁ → Rd s.heap T d₂ v₂ →
    wpAny (model prog w) A (t v₁ v₂) (fun v s' => RPs T s k v s') noE s
variable (prog w g) in
noncomputable def POL (n : Nat) (t : List Value → Sem Value) (ds : List PV) (k : PV → Prop) : Prop :=
  ∀ (A : Around) (T : Addr → Prop) (s : Shared) (vs : List Value), Room n A → HR g T s.heap → RdL s.heap T ds vs →
    wpAny (model prog w) A (t vs) (fun v s' => RPs T s k v s') noE s
theorem WE.mono {e : Expr} {K K' : PV → List Ent → Prop} (h : WE prog w g n sc e ρ K) (hk : ∀ d ρ', K d ρ' → K' d ρ') : WE prog w g n sc e ρ K' := by
  intro env A H s hsc ok hA sr
  refine wpAny_mono (h env A H s hsc ok hA sr) (fun v s1 h1 => ?_) fun _ _ x => x
  obtain ⟨d1, ρ1, k1, p, r⟩ := h1
  exact ⟨d1, ρ1, hk _ _ k1, p, r⟩
theorem WT.mono {e : Expr} {K K' : Bool → List Ent → Prop} (h : WT prog w g n sc e ρ K) (hk : ∀ d ρ', K d ρ' → K' d ρ') : WT prog w g n sc e ρ K' := by
  intro env A H s hsc ok hA sr
  refine wpAny_mono (h env A H s hsc ok hA sr) (fun v s1 h1 => ?_) fun _ _ x => x
  obtain ⟨ρ1, k1, p⟩ := h1
  exact ⟨ρ1, hk _ _ k1, p⟩
theorem ifT {c : Bool} {a b : Prop} (hc : c = true) (h : a) : if c = true then a else b := (if_pos hc).mpr h
theorem ifF {c : Bool} {a b : Prop} (hc : c = false) (h : b) : if c = true then a else b := (if_neg (fun e => Bool.noConfusion (hc.symm.trans e))).mpr h
theorem WS.gen {b : List Stmt} {K : Fl → List Ent → Prop} (h : ∀ K' : Fl → List Ent → Prop, (∀ d ρ', K d ρ' → K' d ρ') → WS prog w g n sc b ρ K') : WS prog w g n sc b ρ K := h K fun _ _ h => h
theorem WS.mono {b : List Stmt} {K K' : Fl → List Ent → Prop} (h : WS prog w g n sc b ρ K) (hk : ∀ d ρ', K d ρ' → K' d ρ') : WS prog w g n sc b ρ K' := by
  intro env A H s hsc ok hA sr
  refine wpAny_mono (h env A H s hsc ok hA sr) (fun v s1 h1 => ?_) fun _ _ x => x
  obtain ⟨d1, ρ1, k1, p, r⟩ := h1
  exact ⟨d1, ρ1, hk _ _ k1, p, r⟩
theorem we_two {a b : Expr} {K : PV → List Ent → Prop} {t : Value → Value → Sem Value}
    (h : WE prog w g n sc a ρ fun d₁ ρ₁ => WE prog w g n sc b ρ₁ fun d₂ ρ₂ => PO2 prog w g n t d₁ d₂ fun d => K d ρ₂)
    {env : Env} {A : Around} {H : Addr → Prop} {s : Shared} (hsc : env.scope = sc) (ok : EnvOk env) (hA : Room n A) (sr : SR w.params g env H ρ s.heap) :
    wpAny (model prog w) A (eval a env) (fun v₁ s₁ => wpAny (model prog w) A (eval b env) (fun v₂ s₂ => wpAny (model prog w) A (t v₁ v₂)
      (fun v s' => REs w.params g env H ρ s K v s') noE s₂) noE s₁) noE s := by
  refine wpAny_mono (h env A H s hsc ok hA sr) (fun v1 s1 h1 => ?_) fun _ _ x => x
  obtain ⟨d1, ρ1, k1, p1, r1⟩ := h1
  refine wpAny_mono (k1 env A H s1 hsc ok hA p1.sr) (fun v2 s2 h2 => ?_) fun _ _ x => x
  obtain ⟨d2, ρ2, k2, p2, r2⟩ := h2
  refine wpAny_mono (k2 A _ s2 v1 v2 hA p2.sr.hr (p2.rd r1) r2) (fun v s3 h3 => ?_) fun _ _ x => x
  obtain ⟨d, kd, r, ks⟩ := h3
  exact ⟨d, ρ2, kd, (p1.trans p2).grow ks, r⟩
theorem we_bin {a b : Expr} {op : Operator} {pos : Pos} {K : PV → List Ent → Prop}
    (h : WE prog w g n sc a ρ fun d₁ ρ₁ => WE prog w g n sc b ρ₁ fun d₂ ρ₂ => PO2 prog w g n (binaryOp op) d₁ d₂ fun d => K d ρ₂) : WE prog w g n sc (.BinOp a op b pos) ρ K :=
  fun _ _ _ _ hsc ok hA sr => wpAny_BinOp (we_two h hsc ok hA sr)
theorem we_cmp {a b : Expr} {op : CmpOp} {pos : Pos} {K : PV → List Ent → Prop}
    (h : WE prog w g n sc a ρ fun d₁ ρ₁ => WE prog w g n sc b ρ₁ fun d₂ ρ₂ => PO2 prog w g n (compareOp op) d₁ d₂ fun d => K d ρ₂)
    (hm : behindInMarks op b = false := by with_unfolding_all rfl) : WE prog w g n sc (.Compare a [op] [b] pos) ρ K :=
  fun _ _ _ _ hsc ok hA sr => wpAny_Compare1 (we_two h hsc ok hA sr) hm
theorem wt_cmp {a b : Expr} {op : CmpOp} {pos : Pos} {K : Bool → List Ent → Prop}
    (h : WE prog w g n sc a ρ fun d₁ ρ₁ => WE prog w g n sc b ρ₁ fun d₂ ρ₂ => PO2 prog w g n (compareOp op) d₁ d₂ fun d => OfBool d fun b => K b ρ₂)
    (hm : behindInMarks op b = false := by with_unfolding_all rfl) : WT prog w g n sc (.Compare a [op] [b] pos) ρ K := by
  intro env A H s hsc ok hA sr
  refine wpAny_isTrue_Compare1 (wpAny_mono (we_two (K := fun d ρ₂ => OfBool d fun b => K b ρ₂) h hsc ok hA sr) (fun v1 s1 h1 => wpAny_mono h1 (fun v2 s2 h2 => wpAny_mono h2 (fun v s3 h3 => ?_) fun _ _ x => x) fun _ _ x => x) fun _ _ x => x) hm
  obtain ⟨d, ρ', ⟨b, rfl, kb⟩, p, r⟩ := h3
  have : v = .bool b := r
  subst this
  exact wpAny_truthy_bool ⟨ρ', kb, p⟩
theorem we_int {i : Int} {k : Nat} {pos : Pos} {K : PV → List Ent → Prop} (h : K (.int i) ρ) : WE prog w g n sc (.Constant (.int i) k pos) ρ K :=
  fun _ _ _ s _ _ _ sr => wpAny_Constant_int ⟨_, ρ, h, (SR.post sr).grow (Keeps.tok s _), ⟨_, rfl⟩⟩
theorem we_none {k : Nat} {pos : Pos} {K : PV → List Ent → Prop} (h : K .none ρ) : WE prog w g n sc (.Constant .none k pos) ρ K :=
  fun _ _ _ _ _ _ _ sr => wpAny_Constant_none ⟨_, ρ, h, SR.post sr, rfl⟩
theorem we_true {b : Bool} {k : Nat} {pos : Pos} {K : PV → List Ent → Prop} (h : K (.bool b) ρ) : WE prog w g n sc (.Constant (.bool b) k pos) ρ K :=
  fun _ _ _ _ _ _ _ sr => wpAny_Constant_bool ⟨_, ρ, h, SR.post sr, rfl⟩
inductive At : List Ent → Str → Slot → Prop where
  | here {x : Str} {l : Option Addr} {sl : Slot} {r : List Ent} : At (⟨x, l, sl⟩ :: r) x sl
  | there {e : Ent} {r : List Ent} {x : Str} {sl : Slot} : At r x sl → At (e :: r) x sl
theorem At.mem {x : Str} {sl : Slot} (h : At ρ x sl) : ∃ l, (⟨x, l, sl⟩ : Ent) ∈ ρ := by
  induction h with
  | here => exact ⟨_, .head _⟩
  | there _ ih => obtain ⟨l, h⟩ := ih; exact ⟨l, .tail _ h⟩
theorem loadName_slot {env : Env} {A : Around} {H : Addr → Prop} {s : Shared} {x : Str} {sl : Slot} {E : Value → Shared → Prop} (ok : EnvOk env) (sr : SR w.params g env H ρ s.heap) (hx : At ρ x sl) (hs : sl ≠ .unb)
    {Q : Value → Shared → Prop} (h : ∀ v, SlotIs w.params s.heap (Tt env H ρ) sl (some v) → Q v s) (hn : (x == ("__classdict__" : Str)) = false := by decide) : wpAny (model prog w) A (loadName env x) Q E s := by
  obtain ⟨l, hm⟩ := hx.mem
  obtain ⟨m, hns, he⟩ := sr.ents
  have z := he _ hm
  unfold EntIs at z
  have some_of : ∀ o, SlotIs w.params s.heap (Tt env H ρ) sl o → ∃ v, o = some v := by
    intro o q
    cases sl with
    | unb => exact absurd rfl hs
    | val d => obtain ⟨v, e, _⟩ := q; exact ⟨v, e⟩
    | lst a xs => exact ⟨_, q.1⟩
    | dct a es => exact ⟨_, q.1⟩
    | obj a dx C fs => exact ⟨_, q.1⟩
  cases l with
  | none =>
    obtain ⟨hl, hv⟩ := z
    obtain ⟨v, e⟩ := some_of _ hv
    exact wpAny_loadName_local ok.1 hl hns e (h v (by rw [← e]; exact hv))
  | some c =>
    obtain ⟨hl, hc, ov, hcell, hv⟩ := z
    obtain ⟨v, e⟩ := some_of _ hv
    subst e
    rcases hl with hl | hl
    · exact wpAny_loadName_cell ok.1 hl hc hcell (h v hv)
    · exact wpAny_loadName_free ok.1 hl hc hcell (h v hv) hn
theorem we_name {x : Str} {pos : Pos} {d : PV} {K : PV → List Ent → Prop} (hx : At ρ x (.val d)) (h : K d ρ) (hd : (x == ("__debug__" : Str)) = false := by decide) (hn : (x == ("__classdict__" : Str)) = false := by decide) :
    WE prog w g n sc (.Name x pos) ρ K := by
  intro env A H s hsc ok hA sr
  refine wpAny_Name (loadName_slot ok sr hx (by intro h; cases h) (fun v hv => ?_) hn) hd
  obtain ⟨v', e, r⟩ := hv
  cases e
  exact ⟨d, ρ, h, SR.post sr, r⟩
end
section
variable {prog : Program} {w : World} {g : Heap} {n : Nat} {sc : Scope} {ρ : List Ent}
theorem po_add {a b : Int} {k : PV → Prop} (h : k (.int (a + b))) : PO2 prog w g n (binaryOp .Add) (.int a) (.int b) k := by
  rintro A T s _ _ hA hT ⟨t, rfl⟩ ⟨u, rfl⟩; exact add_int ⟨_, h, ⟨_, rfl⟩, Keeps.tok s _⟩
theorem po_sub {a b : Int} {k : PV → Prop} (h : k (.int (a - b))) : PO2 prog w g n (binaryOp .Sub) (.int a) (.int b) k := by
  rintro A T s _ _ hA hT ⟨t, rfl⟩ ⟨u, rfl⟩; exact sub_int ⟨_, h, ⟨_, rfl⟩, Keeps.tok s _⟩
theorem po_mul {a b : Int} {k : PV → Prop} (h : k (.int (a * b))) (ok : IntMulOk a b) : PO2 prog w g n (binaryOp .Mult) (.int a) (.int b) k := by
  rintro A T s _ _ hA hT ⟨t, rfl⟩ ⟨u, rfl⟩; exact mul_int ⟨_, h, ⟨_, rfl⟩, Keeps.tok s _⟩ ok
theorem po_mod {a b : Int} {k : PV → Prop} (hb : b ≠ 0) (h : k (.int (Int.fmod a b))) : PO2 prog w g n (binaryOp .Mod) (.int a) (.int b) k := by
  rintro A T s _ _ hA hT ⟨t, rfl⟩ ⟨u, rfl⟩; exact mod_int hb ⟨_, h, ⟨_, rfl⟩, Keeps.tok s _⟩
theorem po_div {a b : Int} {k : PV → Prop} (hb : b ≠ 0) (hp : Builtin.divisionGoesByPylong a b = false) (h : k (.int (Int.fdiv a b))) : PO2 prog w g n (binaryOp .FloorDiv) (.int a) (.int b) k := by
  rintro A T s _ _ hA hT ⟨t, rfl⟩ ⟨u, rfl⟩; exact floordiv_int hb ⟨_, h, ⟨_, rfl⟩, Keeps.tok s _⟩ (.inl hp)
theorem po_pow {a b : Int} {k : PV → Prop} (h0 : 0 ≤ b) (h1 : b ≤ 1000000) (ha : Int.natAbs a < 2 ^ 64) (h : k (.int (a ^ b.toNat))) : PO2 prog w g n (binaryOp .Pow) (.int a) (.int b) k := by
  rintro A T s _ _ hA hT ⟨t, rfl⟩ ⟨u, rfl⟩; exact pow_int_small h0 h1 ha ⟨_, h, ⟨_, rfl⟩, Keeps.tok s _⟩
theorem po_shl {a b : Int} {k : PV → Prop} (h0 : 0 ≤ b) (h1 : b ≤ 1000000) (ha : Int.natAbs a < 2 ^ 64) (h : k (.int (a * 2 ^ b.toNat))) : PO2 prog w g n (binaryOp .LShift) (.int a) (.int b) k := by
  rintro A T s _ _ hA hT ⟨t, rfl⟩ ⟨u, rfl⟩; exact lshift_int_small h0 h1 ha ⟨_, h, ⟨_, rfl⟩, Keeps.tok s _⟩
theorem po_shr {a b : Int} {k : PV → Prop} (h0 : 0 ≤ b) (h : k (.int (Int.fdiv a (2 ^ b.toNat)))) : PO2 prog w g n (binaryOp .RShift) (.int a) (.int b) k := by
  rintro A T s _ _ hA hT ⟨t, rfl⟩ ⟨u, rfl⟩; exact rshift_int h0 ⟨_, h, ⟨_, rfl⟩, Keeps.tok s _⟩
theorem po_and {a b : Int} {k : PV → Prop} (h : k (.int (Builtin.bitAnd a b))) : PO2 prog w g n (binaryOp .BitAnd) (.int a) (.int b) k := by
  rintro A T s _ _ hA hT ⟨t, rfl⟩ ⟨u, rfl⟩; exact and_int ⟨_, h, ⟨_, rfl⟩, Keeps.tok s _⟩
theorem po_or {a b : Int} {k : PV → Prop} (h : k (.int (Builtin.bitOr a b))) : PO2 prog w g n (binaryOp .BitOr) (.int a) (.int b) k := by
  rintro A T s _ _ hA hT ⟨t, rfl⟩ ⟨u, rfl⟩; exact or_int ⟨_, h, ⟨_, rfl⟩, Keeps.tok s _⟩
theorem pc_eq {a b : Int} {k : PV → Prop} (h : k (.bool (a == b))) : PO2 prog w g n (compareOp .Eq) (.int a) (.int b) k := by
  rintro A T s _ _ hA hT ⟨t, rfl⟩ ⟨u, rfl⟩; exact eq_int ⟨_, h, rfl, Keeps.refl' s⟩
theorem pc_ne {a b : Int} {k : PV → Prop} (h : k (.bool (a != b))) : PO2 prog w g n (compareOp .NotEq) (.int a) (.int b) k := by
  rintro A T s _ _ hA hT ⟨t, rfl⟩ ⟨u, rfl⟩; exact ne_int ⟨_, h, rfl, Keeps.refl' s⟩
theorem pc_lt {a b : Int} {k : PV → Prop} (h : k (.bool (decide (a < b)))) : PO2 prog w g n (compareOp .Lt) (.int a) (.int b) k := by
  rintro A T s _ _ hA hT ⟨t, rfl⟩ ⟨u, rfl⟩; exact lt_int ⟨_, h, rfl, Keeps.refl' s⟩
theorem pc_le {a b : Int} {k : PV → Prop} (h : k (.bool (decide (a ≤ b)))) : PO2 prog w g n (compareOp .LtE) (.int a) (.int b) k := by
  rintro A T s _ _ hA hT ⟨t, rfl⟩ ⟨u, rfl⟩; exact le_int ⟨_, h, rfl, Keeps.refl' s⟩
theorem pc_gt {a b : Int} {k : PV → Prop} (h : k (.bool (decide (b < a)))) : PO2 prog w g n (compareOp .Gt) (.int a) (.int b) k := by
  rintro A T s _ _ hA hT ⟨t, rfl⟩ ⟨u, rfl⟩; exact gt_int ⟨_, h, rfl, Keeps.refl' s⟩
theorem pc_ge {a b : Int} {k : PV → Prop} (h : k (.bool (decide (b ≤ a)))) : PO2 prog w g n (compareOp .GtE) (.int a) (.int b) k := by
  rintro A T s _ _ hA hT ⟨t, rfl⟩ ⟨u, rfl⟩; exact ge_int ⟨_, h, rfl, Keeps.refl' s⟩
noncomputable def PV.isNone : PV → Bool
  | .none => true
  | _ => false
theorem none_rd {h : Heap} {T : Addr → Prop} {d : PV} {v : Value} (x : Rd h T d v) : (PySem.plainIs v .none = true) ∧ ((v == Value.none) = d.isNone) := by
  cases d
  · cases x; exact ⟨rfl, rfl⟩
  · cases x; exact ⟨rfl, rfl⟩
  · obtain ⟨t, rfl⟩ := x; exact ⟨rfl, rfl⟩
  · obtain ⟨t, rfl⟩ := x; exact ⟨rfl, rfl⟩
  · obtain ⟨t, rfl⟩ := x; exact ⟨rfl, rfl⟩
  · obtain ⟨a, vs, rfl, _⟩ := x; exact ⟨rfl, rfl⟩
  · obtain ⟨a, vs, rfl, _⟩ := x; exact ⟨rfl, rfl⟩
theorem pc_is {d : PV} {k : PV → Prop} (h : k (.bool d.isNone)) : PO2 prog w g n (compareOp .Is) d .none k := by
  rintro A T s v _ hA hT hd rfl
  obtain ⟨e1, e2⟩ := none_rd hd
  exact wpAny_is_plain e1 ⟨_, h, by rw [e2]; rfl, Keeps.refl' s⟩
theorem pc_isnot {d : PV} {k : PV → Prop} (h : k (.bool !d.isNone)) : PO2 prog w g n (compareOp .IsNot) d .none k := by
  rintro A T s v _ hA hT hd rfl
  obtain ⟨e1, e2⟩ := none_rd hd
  exact wpAny_isNot_plain e1 ⟨_, h, by rw [e2]; rfl, Keeps.refl' s⟩
theorem po_cat {xs ys : List PV} {k : PV → Prop} (h : k (.list (xs ++ ys))) (hsz : xs.length + ys.length ≤ sizeLine) : PO2 prog w g n (binaryOp .Add) (.list xs) (.list ys) k := by
  rintro A T s _ _ hA hT ⟨a, vs, rfl, ha, ⟨m1, e1⟩, r1⟩ ⟨b, us, rfl, hb, ⟨m2, e2⟩, r2⟩
  have l1 := r1.length
  have l2 := r2.length
  refine concat_meets ⟨_, e1, rfl⟩ ⟨_, e2, rfl⟩ noFill_list_add seq_list_add PySem.F.slot_list_add PySem.F.entry_list_add (PySem.F.args_list_add_2 _ _) (list_addW a b vs.toArray us.toArray m1 m2 none none #[] #[] (by simp; omega)) ⟨e1, e2, ?_⟩
  have e : vs.toArray ++ us.toArray = (vs ++ us).toArray := by simp
  rw [e]
  exact ⟨_, h, Rd.newList hT (r1.app r2), Keeps.push s _⟩
theorem pi_list {xs : List PV} {i : Int} {d : PV} {k : PV → Prop} (h0 : 0 ≤ i) (h1 : i < 2 ^ 63) (hx : xs[i.toNat]? = some d) (h : k d) : PO2 prog w g n getItem (.list xs) (.int i) k := by
  rintro A T s _ _ hA hT ⟨a, vs, rfl, ha, hl, r⟩ ⟨u, rfl⟩
  obtain ⟨v, hv, rv⟩ := r.get hx
  exact wpAny_getItem_list hl.isList h0 h1 (by simpa using hv) ⟨d, h, rv, Keeps.refl' s⟩
theorem natAbs_small {a b : Int} (h : a.natAbs < 2 ^ 50 ∧ b.natAbs < 2 ^ 50) : (a + b).natAbs < 2 ^ 64 := Nat.lt_of_le_of_lt (Int.natAbs_add_le a b) (Nat.lt_trans (Nat.add_lt_add h.1 h.2) (by decide))
theorem pi_tup {xs : List PV} {i : Int} {d : PV} {k : PV → Prop} (h0 : 0 ≤ i) (h1 : i < 2 ^ 63) (hx : xs[i.toNat]? = some d) (h : k d) : PO2 prog w g n getItem (.tup xs) (.int i) k := by
  rintro A T s _ _ hA hT ⟨a, vs, rfl, ha, hl, r⟩ ⟨u, rfl⟩
  obtain ⟨v, hv, rv⟩ := r.get hx
  have hlt : i.toNat < xs.length := by
    obtain ⟨h, _⟩ := List.getElem?_eq_some_iff.mp hx; exact h
  have hl2 := r.length
  refine getItem_tuple hl.isTup (by omega) h1 (j := i.toNat) ?_ (by simpa using hv) ⟨d, h, rv, Keeps.refl' s⟩
  unfold seqIndex?
  simp
  omega
noncomputable def PV.subs : PV → Bool
  | .list _ => true
  | .tup _ => true
  | .bytes _ => true
  | _ => false
theorem subs_type {s : Shared} {T : Addr → Prop} {d : PV} {v : Value} (x : Rd s.heap T d v) (h : d.subs = true) : ∃ T id, s.TypeIs v T ∧ typeLookup (.type T) "__getitem__" = pure (some (.builtin id)) := by
  cases d <;> first | cases h | skip
  · obtain ⟨t, rfl⟩ := x
    exact ⟨"bytes", _, rfl, FB.slot_bytes_getitem.lookup⟩
  · obtain ⟨a, vs, rfl, _, hl, _⟩ := x
    exact ⟨"list", _, hl.isList.typeIs, slot_list_getitem.lookup⟩
  · obtain ⟨a, vs, rfl, _, hl, _⟩ := x
    exact ⟨"tuple", _, hl.isTup.typeIs, PySem.F.slot_tuple_getitem.lookup⟩
theorem we_sub {a b : Expr} {pos : Pos} {K : PV → List Ent → Prop}
    (h : WE prog w g n sc a ρ fun d₁ ρ₁ => d₁.subs = true ∧ WE prog w g n sc b ρ₁ fun d₂ ρ₂ => PO2 prog w g n getItem d₁ d₂ fun d => K d ρ₂)
    (hs : ∀ o i, subscripted b false o i = operate [o, i] (getItem o i) := by intro _ _; with_unfolding_all rfl) : WE prog w g n sc (.Subscript a b pos) ρ K := by
  intro env A H s hsc ok hA sr
  refine Subscript_ (wpAny_mono (h env A H s hsc ok hA sr) (fun v1 s1 h1 => ?_) fun _ _ x => x)
  obtain ⟨d1, ρ1, ⟨hd, k1⟩, p1, r1⟩ := h1
  refine wpAny_mono (k1 env A H s1 hsc ok hA p1.sr) (fun v2 s2 h2 => ?_) fun _ _ x => x
  obtain ⟨d2, ρ2, k2, p2, r2⟩ := h2
  obtain ⟨T, id, hT, hl⟩ := subs_type (p2.rd r1) hd
  refine tail_any hT hl (wpAny_mono (k2 A _ s2 v1 v2 hA p2.sr.hr (p2.rd r1) r2) (fun v s3 h3 => ?_) fun _ _ x => x) (hs _ _)
  obtain ⟨d, kd, r, ks⟩ := h3
  exact ⟨d, ρ2, kd, (p1.trans p2).grow ks, r⟩
end
section
variable {prog : Program} {w : World} {g : Heap} {n : Nat} {sc : Scope} {ρ : List Ent}
variable (prog w g) in
noncomputable def WEL (n : Nat) (sc : Scope) (es : List Expr) (ρ : List Ent) (K : List PV → List Ent → Prop) : Prop :=
  ∀ (env : Env) (A : Around) (H : Addr → Prop) (s : Shared) (pos : Pos), env.scope = sc → EnvOk env → Room n A → SR w.params g env H ρ s.heap →
    wpAny (model prog w) A (spliced (backTo pos (starEach es env))) (fun vs s' => RLs w.params g env H ρ s K vs s') noE s
theorem wel_nil {K : List PV → List Ent → Prop} (h : K [] ρ) : WEL prog w g n sc [] ρ K :=
  fun _ _ _ _ _ _ _ _ sr => wpAny_pure ⟨[], ρ, h, SR.post sr, rfl⟩
noncomputable def exprTag : Expr → Bool × Bool × Option Str
  | .Starred .. => (false, true, none)
  | .ListComp .. => (true, false, none)
  | .SetComp .. => (true, false, none)
  | .DictComp .. => (true, false, none)
  | .Name x _ => (true, true, some x)
  | _ => (true, true, none)
noncomputable def plainE (e : Expr) : Bool := (exprTag e).1
noncomputable def noComp (e : Expr) : Bool := (exprTag e).2.1
noncomputable def nameOf? (e : Expr) : Option Str := (exprTag e).2.2
theorem starEach_plain {e : Expr} {r : List Expr} {env : Env} (h : plainE e = true) : starEach (e :: r) env = (false, eval e env) :: starEach r env := by
  cases e <;> first | rfl | cases h
theorem wel_cons {e : Expr} {r : List Expr} {K : List PV → List Ent → Prop} (h : WE prog w g n sc e ρ fun d ρ₁ => WEL prog w g n sc r ρ₁ fun ds ρ₂ => K (d :: ds) ρ₂) (hp : plainE e = true := by rfl) :
    WEL prog w g n sc (e :: r) ρ K := by
  intro env A H s pos hsc ok hA sr
  rw [starEach_plain hp]
  refine spliced_cons (wpAny_mono (h env A H s hsc ok hA sr) (fun v s1 h1 => ?_) fun _ _ x => x)
  obtain ⟨d, ρ1, k1, p1, r1⟩ := h1
  refine wpAny_mono (k1 env A H s1 pos hsc ok hA p1.sr) (fun vs s2 h2 => ?_) fun _ _ x => x
  obtain ⟨ds, ρ2, k2, p2, r2⟩ := h2
  exact ⟨d :: ds, ρ2, k2, p1.trans p2, v, vs, rfl, p2.rd r1, r2⟩
theorem we_list {es : List Expr} {pos : Pos} {K : PV → List Ent → Prop} (h : WEL prog w g n sc es ρ fun ds ρ' => K (.list ds) ρ' ∧ ds.length ≤ sizeLine) : WE prog w g n sc (.List es pos) ρ K := by
  intro env A H s hsc ok hA sr
  refine wpAny_List (wpAny_mono (h env A H s pos hsc ok hA sr) (fun vs s1 h1 => ?_) fun _ _ x => x)
  obtain ⟨ds, ρ1, ⟨k1, hl⟩, p1, r1⟩ := h1
  exact ⟨by rw [r1.length]; exact hl, _, ρ1, k1, p1.grow (Keeps.push _ _), Rd.newList p1.sr.hr r1⟩
theorem we_tup {es : List Expr} {k : Nat} {pos : Pos} {K : PV → List Ent → Prop} (h : WEL prog w g n sc es ρ fun ds ρ' => K (.tup ds) ρ' ∧ ds.length ≤ sizeLine) : WE prog w g n sc (.Tuple es k pos) ρ K := by
  intro env A H s hsc ok hA sr
  refine wpAny_Tuple (wpAny_mono (h env A H s pos hsc ok hA sr) (fun vs s1 h1 => ?_) fun _ _ x => x)
  obtain ⟨ds, ρ1, ⟨k1, hl⟩, p1, r1⟩ := h1
  exact ⟨by rw [r1.length]; exact hl, _, ρ1, k1, p1.grow (Keeps.push _ _), Rd.newTup p1.sr.hr r1⟩
theorem we_ifexp {t a b : Expr} {pos : Pos} {K : PV → List Ent → Prop} (h : WT prog w g n sc t ρ fun c ρ₁ => if c = true then WE prog w g n sc a ρ₁ K else WE prog w g n sc b ρ₁ K) : WE prog w g n sc (.IfExp t a b pos) ρ K := by
  intro env A H s hsc ok hA sr
  refine wpAny_IfExp (wpAny_mono (h env A H s hsc ok hA sr) (fun c s1 h1 => ?_) fun _ _ x => x)
  obtain ⟨ρ1, k1, p1⟩ := h1
  have fin : ∀ e, WE prog w g n sc e ρ1 K → wpAny (model prog w) A (eval e env) (fun v s' => REs w.params g env H ρ s K v s') noE s1 := fun e he =>
    wpAny_mono (he env A H s1 hsc ok hA p1.sr) (fun v s2 h2 => by obtain ⟨d, ρ2, k2, p2, r2⟩ := h2; exact ⟨d, ρ2, k2, p1.trans p2, r2⟩) fun _ _ x => x
  cases c with
  | true => simp only [if_true] at k1 ⊢; exact fin _ k1
  | false => simp only [Bool.false_eq_true, if_false] at k1 ⊢; exact fin _ k1
theorem wt_not {e : Expr} {pos : Pos} {K : Bool → List Ent → Prop} (h : WT prog w g n sc e ρ fun b ρ' => K (!b) ρ') : WT prog w g n sc (.UnaryOp .Not e pos) ρ K := by
  intro env A H s hsc ok hA sr
  exact PySem.wpAny_isTrue_Not (h env A H s hsc ok hA sr)
theorem wt_val {e : Expr} {K : Bool → List Ent → Prop} (h : WE prog w g n sc e ρ fun d ρ' => OfBool d fun b => K b ρ')
    (hw : ∀ env whole, PySem.isTrue e env whole = (do let v ← whole; standAt (Expr.pos e); holding [v] (truthy v)) := by intro _ _; rfl) : WT prog w g n sc e ρ K := by
  intro env A H s hsc ok hA sr
  refine wpAny_isTrue_value (wpAny_mono (h env A H s hsc ok hA sr) (fun v s1 h1 => ?_) fun _ _ x => x) (hw _ _)
  obtain ⟨d, ρ1, ⟨b, rfl, k1⟩, p1, r1⟩ := h1
  have : v = .bool b := r1
  subst this
  exact wpAny_truthy_bool ⟨ρ1, k1, p1⟩
variable (prog w g) in
noncomputable def WTL (n : Nat) (sc : Scope) (op : BoolOp) (es : List Expr) (ρ : List Ent) (K : Bool → List Ent → Prop) : Prop :=
  ∀ (env : Env) (A : Around) (H : Addr → Prop) (s : Shared), env.scope = sc → EnvOk env → Room n A → SR w.params g env H ρ s.heap →
    wpAny (model prog w) A (allTrue op es env) (fun b s' => RTs w.params g env H ρ s (K b) s') noE s
theorem wtl_and_nil {K : Bool → List Ent → Prop} (h : K true ρ) : WTL prog w g n sc .And [] ρ K := fun _ _ _ _ _ _ _ sr => wpAny_allTrue_And_nil ⟨ρ, h, SR.post sr⟩
theorem wtl_or_nil {K : Bool → List Ent → Prop} (h : K false ρ) : WTL prog w g n sc .Or [] ρ K := fun _ _ _ _ _ _ _ sr => wpAny_allTrue_Or_nil ⟨ρ, h, SR.post sr⟩
theorem wtl_and_cons {e : Expr} {r : List Expr} {K : Bool → List Ent → Prop} (h : WT prog w g n sc e ρ fun b ρ₁ => if b = true then WTL prog w g n sc .And r ρ₁ K else K false ρ₁) : WTL prog w g n sc .And (e :: r) ρ K := by
  intro env A H s hsc ok hA sr
  refine wpAny_allTrue_And_cons (wpAny_mono (h env A H s hsc ok hA sr) (fun b s1 h1 => ?_) fun _ _ x => x)
  obtain ⟨ρ1, k1, p1⟩ := h1
  cases b with
  | true => simp only [if_true] at k1 ⊢; exact wpAny_mono (k1 env A H s1 hsc ok hA p1.sr) (fun v s2 h2 => by obtain ⟨ρ2, k2, p2⟩ := h2; exact ⟨ρ2, k2, p1.trans p2⟩) fun _ _ x => x
  | false => simp only [Bool.false_eq_true, if_false] at k1 ⊢; exact ⟨ρ1, k1, p1⟩
theorem wtl_or_cons {e : Expr} {r : List Expr} {K : Bool → List Ent → Prop} (h : WT prog w g n sc e ρ fun b ρ₁ => if b = true then K true ρ₁ else WTL prog w g n sc .Or r ρ₁ K) : WTL prog w g n sc .Or (e :: r) ρ K := by
  intro env A H s hsc ok hA sr
  refine wpAny_allTrue_Or_cons (wpAny_mono (h env A H s hsc ok hA sr) (fun b s1 h1 => ?_) fun _ _ x => x)
  obtain ⟨ρ1, k1, p1⟩ := h1
  cases b with
  | true => simp only [if_true] at k1 ⊢; exact ⟨ρ1, k1, p1⟩
  | false => simp only [Bool.false_eq_true, if_false] at k1 ⊢; exact wpAny_mono (k1 env A H s1 hsc ok hA p1.sr) (fun v s2 h2 => by obtain ⟨ρ2, k2, p2⟩ := h2; exact ⟨ρ2, k2, p1.trans p2⟩) fun _ _ x => x
theorem wt_bool {op : BoolOp} {es : List Expr} {pos : Pos} {K : Bool → List Ent → Prop} (h : WTL prog w g n sc op es ρ K) : WT prog w g n sc (.BoolOp op es pos) ρ K :=
  fun env A H s hsc ok hA sr => wpAny_isTrue_BoolOp (h env A H s hsc ok hA sr)
variable (prog w g) in
noncomputable def WBL (n : Nat) (sc : Scope) (op : BoolOp) (es : List Expr) (ρ : List Ent) (K : PV → List Ent → Prop) : Prop :=
  ∀ (env : Env) (A : Around) (H : Addr → Prop) (s : Shared) (pos : Pos), env.scope = sc → EnvOk env → Room n A → SR w.params g env H ρ s.heap →
    wpAny (model prog w) A (boolOp pos op (evalEach es env)) (fun v s' => REs w.params g env H ρ s K v s') noE s
theorem wbl_one {op : BoolOp} {e : Expr} {K : PV → List Ent → Prop} (h : WE prog w g n sc e ρ K) : WBL prog w g n sc op [e] ρ K :=
  fun env A H s _ hsc ok hA sr => h env A H s hsc ok hA sr
theorem wbl_and {e e' : Expr} {r : List Expr} {K : PV → List Ent → Prop} (h : WE prog w g n sc e ρ fun d ρ₁ => OfBool d fun b => if b = true then WBL prog w g n sc .And (e' :: r) ρ₁ K else K (.bool false) ρ₁) :
    WBL prog w g n sc .And (e :: e' :: r) ρ K := by
  intro env A H s pos hsc ok hA sr
  show wpAny _ _ (do let v ← eval e env; standAt pos; let t ← holding [v] (truthy v); match BoolOp.And, t with | .And, false | .Or, true => pure v | _, _ => boolOp pos .And (evalEach (e' :: r) env)) _ _ s
  refine wpAny_bind (wpAny_mono (h env A H s hsc ok hA sr) (fun v s1 h1 => ?_) fun _ _ x => x)
  obtain ⟨d, ρ1, ⟨b, rfl, k1⟩, p1, r1⟩ := h1
  have : v = .bool b := r1
  subst this
  refine wpAny_bind (wpAny_standAt (wpAny_bind (wpAny_holding (wpAny_truthy_bool ?_))))
  cases b with
  | true => simp only [if_true] at k1; exact wpAny_mono (k1 env A H s1 pos hsc ok hA p1.sr) (fun v s2 h2 => by obtain ⟨d, ρ2, k2, p2, r2⟩ := h2; exact ⟨d, ρ2, k2, p1.trans p2, r2⟩) fun _ _ x => x
  | false => simp only [Bool.false_eq_true, if_false] at k1; exact wpAny_pure ⟨_, ρ1, k1, p1, r1⟩
theorem we_bool {op : BoolOp} {es : List Expr} {pos : Pos} {K : PV → List Ent → Prop} (h : WBL prog w g n sc op es ρ K) : WE prog w g n sc (.BoolOp op es pos) ρ K :=
  fun env A H s hsc ok hA sr => h env A H s pos hsc ok hA sr
theorem we_neg {e : Expr} {pos : Pos} {K : PV → List Ent → Prop} (h : WE prog w g n sc e ρ fun d ρ' => OfInt d fun i => K (.int (-i)) ρ') : WE prog w g n sc (.UnaryOp .USub e pos) ρ K := by
  intro env A H s hsc ok hA sr
  refine wpAny_UnaryOp (wpAny_mono (h env A H s hsc ok hA sr) (fun v s1 h1 => ?_) fun _ _ x => x)
  obtain ⟨d, ρ1, ⟨i, rfl, k1⟩, p1, ⟨t, rfl⟩⟩ := h1
  exact neg_int ⟨_, ρ1, k1, p1.grow (Keeps.tok _ _), ⟨_, rfl⟩⟩
structure GF (h : Heap) (mg mb : Str → Option Value) : Prop where
  gl : h.Ns mainGlobals mg
  bl : h.Ns builtinsNs mb
  lim : h.NoLimit
noncomputable def GV (mg mb : Str → Option Value) (x : Str) (v : Value) : Prop := mg x = some v ∨ (mg x = none ∧ mb x = some v)
variable {mg mb : Str → Option Value}
theorem gname {M : Model} {env : Env} {A : Around} {H : Addr → Prop} {P : Params} {s : Shared} {x : Str} {v : Value} {E : Value → Shared → Prop} {Q : Value → Shared → Prop} {pos : Pos} (G : GF g mg mb) (ok : EnvOk env) (sr : SR P g env H ρ s.heap)
    (hx : env.scope.names.lookup x = some .globalImplicit) (hv : GV mg mb x v) (h : Q v s) (hd : (x == ("__debug__" : Str)) = false) : wpAny M A (eval (.Name x pos) env) Q E s := by
  refine wpAny_Name ?_ hd
  rw [loadName_read ok.1 hx]
  have hg : s.heap.Ns env.globals mg := by rw [ok.2.1]; exact G.gl.keeps sr.keep
  have hb : s.heap.Ns env.builtins mb := by rw [ok.2.2]; exact G.bl.keeps sr.keep
  rcases hv with hv | ⟨h1, h2⟩
  · exact loadGlobal_global hg hv h
  · exact loadGlobal_builtin hg h1 hb h2 h
theorem we_gconst {x : Str} {v : Value} {d : PV} {pos : Pos} {K : PV → List Ent → Prop} (G : GF g mg mb) (hx : sc.names.lookup x = some .globalImplicit) (hv : GV mg mb x v) (hr : Rd g (fun _ => False) d v) (h : K d ρ) (hd : (x == ("__debug__" : Str)) = false := by decide) :
    WE prog w g n sc (.Name x pos) ρ K := by
  intro env A H s hsc ok hA sr
  subst hsc
  exact gname G ok sr hx hv ⟨d, ρ, h, SR.post sr, hr.mono (fun a o _ e => sr.keep a o e) fun a ha => .inr (sr.dom a ha).2⟩ hd
noncomputable def CallF (g : Heap) : Value → Prop
  | .builtin _ => True
  | .type _ => True
  | .ref f => ∃ o fd, g.get? f = some o ∧ o.data = .func fd
  | _ => False
theorem we_call {x : Str} {f : Value} {e : Expr} {r : List Expr} {p pos : Pos} {K : PV → List Ent → Prop} (G : GF g mg mb) (hx : sc.names.lookup x = some .globalImplicit) (hv : GV mg mb x f) (hc : CallF g f)
    (h : WEL prog w g n sc (e :: r) ρ fun ds ρ' => POL prog w g n (fun vs => call f vs) ds fun d => K d ρ')
    (hp : (e :: r).all plainE = true := by rfl) (hd : (x == ("__debug__" : Str)) = false := by decide) : WE prog w g n sc (.Call (.Name x p) (e :: r) [] pos) ρ K := by
  intro env A H s hsc ok hA sr
  subst hsc
  have hp1 : plainE e = true := (Bool.and_eq_true_iff.mp hp).1
  have hp2 : r.all plainE = true := (Bool.and_eq_true_iff.mp hp).2
  have hse := starEach_plain (r := r) (env := env) hp1
  have hany : ∀ l : List Expr, l.all plainE = true → (backTo pos (starEach l env)).any (·.1) = false := by
    intro l
    induction l with
    | nil => intro _; rfl
    | cons a l ih =>
      intro h
      rw [List.all_cons, Bool.and_eq_true] at h
      rw [starEach_plain h.1]
      show (false || (backTo pos (starEach l env)).any (·.1)) = false
      rw [ih h.2]; rfl
  refine wpAny_Call_NameR (gname G ok sr hx hv ?_ hd)
  have args : wpAny (model prog w) A (spliced (backTo pos (starEach (e :: r) env))) (fun vs s₁ => (∀ a o, g.get? a = some o → s₁.heap.get? a = some o) ∧ wpAny (model prog w) A (call f vs)
      (fun v s' => REs w.params g env H ρ s K v s') noE s₁) noE s := by
    refine wpAny_mono (h env A H s pos rfl ok hA sr) (fun vs s1 h1 => ?_) fun _ _ x => x
    obtain ⟨ds, ρ1, k1, p1, r1⟩ := h1
    refine ⟨p1.sr.keep, wpAny_mono (k1 A _ s1 vs hA p1.sr.hr r1) (fun v s2 h2 => ?_) fun _ _ x => x⟩
    obtain ⟨d, kd, rd, ks⟩ := h2
    exact ⟨d, ρ1, kd, p1.grow ks, rd⟩
  cases f with
  | builtin id => exact PyProof.Rows.callWith_builtin1 (wpAny_mono args (fun _ _ h => h.2) fun _ _ x => x) hse (hany r hp2)
  | type T => exact PyProof.Rows.callWith_type1 (wpAny_mono args (fun _ _ h => h.2) fun _ _ x => x) hse (hany r hp2)
  | ref f =>
    obtain ⟨o, fd, ho, hdat⟩ := hc
    exact PyProof.Rows.callWith_def hdat (wpAny_mono args (fun vs s1 h1 => ⟨h1.1 f o ho, h1.2⟩) fun _ _ x => x) hse
  | _ => exact hc.elim
end
section
variable {prog : Program} {w : World} {g : Heap} {n : Nat} {sc : Scope} {ρ ρ' : List Ent}
inductive Put : List Ent → Str → Slot → List Ent → Prop where
  | here {x : Str} {l : Option Addr} {old sl : Slot} {r : List Ent} : Put (⟨x, l, old⟩ :: r) x sl (⟨x, l, sl⟩ :: r)
  | there {e : Ent} {r r' : List Ent} {x : Str} {sl : Slot} : Put r x sl r' → Put (e :: r) x sl (e :: r')
inductive PutK (ρ : List Ent) (x : Str) (sl : Slot) (K : List Ent → Prop) : Prop
  | mk (ρ' : List Ent) (p : Put ρ x sl ρ') (k : K ρ')
theorem Put.split {x : Str} {sl : Slot} (h : Put ρ x sl ρ') : ∃ pre l old post, ρ = pre ++ ⟨x, l, old⟩ :: post ∧ ρ' = pre ++ ⟨x, l, sl⟩ :: post := by
  induction h with
  | here => exact ⟨[], _, _, _, rfl, rfl⟩
  | @there e r r' x sl _ ih =>
    obtain ⟨pre, l, old, post, rfl, rfl⟩ := ih
    exact ⟨e :: pre, l, old, post, rfl, rfl⟩
theorem V_app (a b : List Ent) : V (a ++ b) = V a ++ V b := by simp [V]
theorem V_cons (e : Ent) (b : List Ent) : V (e :: b) = e.fp ++ V b := by simp [V]
section
variable {P : Params} {env : Env} {H : Addr → Prop} {h : Heap} {pre post : List Ent} {x : Str} {l : Option Addr} {old sl : Slot}
theorem fp_sub {e : Ent} (he : e ∈ ρ) {b : Addr} (hb : b ∈ e.fp) : b ∈ V ρ := List.mem_flatMap.mpr ⟨e, he, hb⟩
theorem sl_sub {e : Ent} (he : e ∈ ρ) {b : Addr} (hb : b ∈ e.sl.fp) : b ∈ V ρ := fp_sub he (List.mem_append.mpr (.inr hb))
theorem EntIs.other {m m' : Str → Option Value} {T T' : Addr → Prop} {h' : Heap} {e : Ent} (z : EntIs P env h T m e) (hm : m' e.x = m e.x)
    (hk : ∀ a o, (¬ T a ∨ a ∈ e.fp) → h.get? a = some o → h'.get? a = some o) (hT : ∀ a, T' a → T a ∨ h.get? a = none) : EntIs P env h' T' m' e := by
  unfold EntIs at z ⊢
  cases hl : e.loc with
  | none =>
    rw [hl] at z
    refine ⟨z.1, ?_⟩
    rw [hm]
    exact z.2.mono (fun a o ha e' => hk a o (ha.imp id fun h => List.mem_append.mpr (.inr h)) e') hT
  | some c =>
    rw [hl] at z
    obtain ⟨z1, z2, ov, ⟨oc, h1, h2⟩, z4⟩ := z
    have hc : c ∈ e.fp := List.mem_append.mpr (.inl (by rw [hl]; exact .head _))
    exact ⟨z1, z2, ov, ⟨oc, hk c _ (.inr hc) h1, h2⟩, z4.mono (fun a o ha e' => hk a o (ha.imp id fun h => List.mem_append.mpr (.inr h)) e') hT⟩
theorem store_slot {M : Model} {A : Around} {E : Value → Shared → Prop} {s : Shared} {v : Value} {Q : Unit → Shared → Prop} (ok : EnvOk env) (sr : SR P g env (fun a => H a ∨ a ∈ sl.fp) ρ s.heap) (hp : Put ρ x sl ρ')
    (hv : SlotIs P s.heap (Tt env (fun a => H a ∨ a ∈ sl.fp) ρ) sl (some v)) (nd : sl.fp.Nodup) (hH : ∀ a ∈ sl.fp, ¬ H a)
    (h : ∀ h' tk, SR P g env H ρ' h' → (∀ b o, ¬ (b = env.locals ∨ b ∈ V ρ) → s.heap.get? b = some o → h'.get? b = some o) → Q () { s with heap := h', toks := tk }) :
    wpAny M A (storeName env x v) Q E s := by
  obtain ⟨pre, l, old, post, rfl, rfl⟩ := hp.split
  obtain ⟨m, hns, he⟩ := sr.ents
  have hnd := sr.nd
  rw [V_app, V_cons] at hnd
  have hV : ∀ b, b ∈ V (pre ++ ⟨x, l, sl⟩ :: post) → b ∈ V (pre ++ ⟨x, l, old⟩ :: post) ∨ b ∈ sl.fp := by
    intro b hb
    rw [V_app, V_cons] at hb ⊢
    simp only [Ent.fp, List.mem_append] at hb ⊢
    rcases hb with h | (h | h) | h
    · exact .inl (.inl h)
    · exact .inl (.inr (.inl (.inl h)))
    · exact .inr h
    · exact .inl (.inr (.inr h))
  have hT : ∀ b, Tt env H (pre ++ ⟨x, l, sl⟩ :: post) b → Tt env (fun a => H a ∨ a ∈ sl.fp) (pre ++ ⟨x, l, old⟩ :: post) b := by
    rintro b (h | h | h)
    · exact .inl (.inl h)
    · exact .inr (.inl h)
    · rcases hV b h with h | h
      · exact .inr (.inr h)
      · exact .inl (.inr h)
  have offsl : ∀ b ∈ sl.fp, b ∉ env.locals :: V (pre ++ ⟨x, l, old⟩ :: post) := fun b hb hc => sr.sep b hc (.inr hb)
  have hnames : ∀ e ∈ pre ++ post, e.x ≠ x := by
    have hn := sr.names
    simp only [List.map_append, List.map_cons] at hn
    obtain ⟨_, h2, h3⟩ := List.nodup_append.mp hn
    obtain ⟨h4, _⟩ := List.nodup_cons.mp h2
    intro e he hx
    rcases List.mem_append.mp he with h5 | h5
    · exact h3 e.x (List.mem_map_of_mem h5) x (.head _) hx
    · exact h4 (hx ▸ List.mem_map_of_mem h5)
  have memold : ∀ e ∈ pre ++ post, e ∈ pre ++ ⟨x, l, old⟩ :: post := fun e he => by
    rcases List.mem_append.mp he with h5 | h5
    · exact List.mem_append.mpr (.inl h5)
    · exact List.mem_append.mpr (.inr (.tail _ h5))
  have nd' : (env.locals :: V (pre ++ ⟨x, l, sl⟩ :: post)).Nodup := by
    obtain ⟨hL, hr⟩ := List.nodup_cons.mp hnd
    refine List.nodup_cons.mpr ⟨fun hc => ?_, ?_⟩
    · rcases hV _ hc with h | h
      · rw [V_app, V_cons] at h; exact hL h
      · exact offsl _ h (.head _)
    · rw [V_app, V_cons]
      obtain ⟨a1, a2, a3⟩ := List.nodup_append.mp hr
      obtain ⟨b1, b2, b3⟩ := List.nodup_append.mp a2
      have c1 := List.nodup_append.mp b1
      have off2 : ∀ b ∈ sl.fp, b ∉ V pre ∧ b ∉ l.toList ∧ b ∉ V post := by
        intro b hb
        have := offsl b hb
        rw [V_app, V_cons] at this
        simp only [List.mem_cons, List.mem_append, Ent.fp, not_or] at this
        exact ⟨this.2.1, this.2.2.1.1, this.2.2.2⟩
      refine List.nodup_append.mpr ⟨a1, List.nodup_append.mpr ⟨List.nodup_append.mpr ⟨c1.1, nd, ?_⟩, b2, ?_⟩, ?_⟩
      · intro a ha b hb e
        subst e
        exact (off2 a hb).2.1 ha
      · intro a ha b hb e
        subst e
        rcases List.mem_append.mp ha with h | h
        · exact b3 a (List.mem_append.mpr (.inl h)) a hb rfl
        · exact (off2 a h).2.2 hb
      · intro a ha b hb e
        subst e
        rcases List.mem_append.mp hb with h | h
        · rcases List.mem_append.mp h with h | h
          · exact a3 a ha a (List.mem_append.mpr (.inl (List.mem_append.mpr (.inl h)))) rfl
          · exact (off2 a h).1 ha
        · exact a3 a ha a (List.mem_append.mpr (.inr h)) rfl
  have fin : ∀ (p : Addr) (h' : Heap) (tk : Nat) (m' : Str → Option Value), p ∈ env.locals :: V (pre ++ ⟨x, l, old⟩ :: post) → (∀ e ∈ pre ++ post, p ∉ e.fp) → Heap.SameBut p s.heap h' → h'.Ns env.locals m' → (∀ e ∈ pre ++ post, m' e.x = m e.x) →
      EntIs P env h' (Tt env H (pre ++ ⟨x, l, sl⟩ :: post)) m' ⟨x, l, sl⟩ → (h'.get? p).isSome = true → Q () { s with heap := h', toks := tk } := by
    intro p h' tk m' hp' hoff hs hn' hm' hx' hpd
    have keep : ∀ b o, b ≠ p → s.heap.get? b = some o → h'.get? b = some o := fun b o hb e => (hs.2 b hb).trans e
    have hpT : Tt env (fun a => H a ∨ a ∈ sl.fp) (pre ++ ⟨x, l, old⟩ :: post) p := by
      rcases List.mem_cons.mp hp' with h | h
      · exact .inr (.inl h)
      · exact .inr (.inr h)
    refine h h' tk ⟨fun a o e => keep a o (fun hc => ?_) (sr.keep a o e), nd', fun a ha => ?_, fun a ha => ?_, ?_, m', hn', ?_⟩ (fun b o hb e => keep b o (fun hc => hb (by subst hc; exact List.mem_cons.mp hp')) e)
    · subst hc; rw [(sr.dom a hpT).2] at e; cases e
    · rcases List.mem_cons.mp ha with h1 | h1
      · exact fun hc => sr.sep a (by rw [h1]; exact .head _) (.inl hc)
      · rcases hV a h1 with h2 | h2
        · exact fun hc => sr.sep a (.tail _ h2) (.inl hc)
        · exact hH a h2
    · have := sr.dom a (hT a ha)
      refine ⟨?_, this.2⟩
      by_cases hap : a = p
      · rw [hap]; exact hpd
      · obtain ⟨o, ho⟩ := Option.isSome_iff_exists.mp this.1
        rw [keep a o hap ho]; rfl
    · have := sr.names
      simpa using this
    · intro e hme
      have : e = ⟨x, l, sl⟩ ∨ e ∈ pre ++ post := by
        rcases List.mem_append.mp hme with h5 | h5
        · exact .inr (List.mem_append.mpr (.inl h5))
        · rcases List.mem_cons.mp h5 with h6 | h6
          · exact .inl h6
          · exact .inr (List.mem_append.mpr (.inr h6))
      rcases this with rfl | hm
      · exact hx'
      · refine (he e (memold e hm)).other (hm' e hm) (fun a o ha e' => keep a o (fun hc => ?_) e') (fun a ha => .inl (hT a ha))
        subst hc
        rcases ha with h1 | h1
        · exact h1 hpT
        · exact hoff e hm h1
  have z := he ⟨x, l, old⟩ (List.mem_append.mpr (.inr (.head _)))
  unfold EntIs at z
  have slkeep : ∀ (p : Addr) (h' : Heap), p ∈ env.locals :: V (pre ++ ⟨x, l, old⟩ :: post) → Heap.SameBut p s.heap h' → SlotIs P h' (Tt env H (pre ++ ⟨x, l, sl⟩ :: post)) sl (some v) := by
    intro p h' hp' hs
    refine hv.mono (fun a o ha e => (hs.2 a fun hc => ?_).trans e) fun a ha => .inl (hT a ha)
    subst hc
    rcases ha with h1 | h1
    · refine h1 ?_
      rcases List.mem_cons.mp hp' with h | h
      · exact .inr (.inl h)
      · exact .inr (.inr h)
    · exact offsl a h1 hp'
  cases l with
  | none =>
    obtain ⟨hl, _⟩ := z
    refine wpAny_storeName_local hl hns (fun h' hn' hs' => ?_) (by rw [ok.1]; rfl)
    refine fin env.locals h' _ _ (.head _) (fun e hm hc => ?_) hs' hn' (fun e hm => by simp [hnames e hm]) ⟨hl, ?_⟩ ?_
    · exact (List.nodup_cons.mp sr.nd).1 (fp_sub (memold e hm) hc)
    · simp only [if_true]
      exact slkeep env.locals h' (.head _) hs'
    · obtain ⟨o, _, _, ho, _⟩ := hn'
      rw [ho]; rfl
  | some c =>
    obtain ⟨hl, hc, ov, hcell, _⟩ := z
    have hcm : c ∈ V (pre ++ ⟨x, some c, old⟩ :: post) := fp_sub (e := ⟨x, some c, old⟩) (List.mem_append.mpr (.inr (.head _))) (List.mem_append.mpr (.inl (.head _)))
    have st : storeName env x v = (do cellSet (← cellOf env x) (some v)) := by
      unfold storeName
      rcases hl with hl | hl <;> simp only [hl, ok.1] <;> rfl
    rw [st]
    refine wpAny_bind (wpAny_cellOf hc (wpAny_cellSet hcell fun h' hc' hs' => ?_))
    have hne : env.locals ≠ c := fun e => (List.nodup_cons.mp sr.nd).1 (e ▸ hcm)
    refine fin c h' _ m (.tail _ hcm) (fun e hm hce => ?_) hs' (hns.sameBut hs' hne) (fun _ _ => rfl) ⟨hl, hc, _, hc', slkeep c h' (.tail _ hcm) hs'⟩ ?_
    · have hr := (List.nodup_cons.mp hnd).2
      obtain ⟨a1, a2, a3⟩ := List.nodup_append.mp hr
      obtain ⟨b1, b2, b3⟩ := List.nodup_append.mp a2
      have hcx : c ∈ (⟨x, some c, old⟩ : Ent).fp := List.mem_append.mpr (.inl (.head _))
      rcases List.mem_append.mp hm with h5 | h5
      · exact a3 c (fp_sub h5 hce) c (List.mem_append.mpr (.inl hcx)) rfl
      · exact b3 c hcx c (fp_sub h5 hce) rfl
    · obtain ⟨o, ho, _⟩ := hc'
      rw [ho]; rfl
end
end
section
variable {prog : Program} {w : World} {g : Heap} {n : Nat} {sc : Scope} {ρ ρ' : List Ent}
section
variable {P : Params} {env : Env} {H H' : Addr → Prop} {h : Heap}
theorem SR.congr (x : SR P g env H ρ h) (e : ∀ a, H a ↔ H' a) : SR P g env H' ρ h := by
  have : H = H' := funext fun a => propext (e a)
  exact this ▸ x
theorem SR.off (x : SR P g env H ρ h) : ¬ Tt env H ρ h.objs.size := x.hr.off
theorem SR.hide (x : SR P g env H ρ h) {h' : Heap} (hk : ∀ b o, h.get? b = some o → h'.get? b = some o) {N : Addr → Prop} (hN : ∀ a, N a → h.get? a = none ∧ (h'.get? a).isSome = true) (hg : ∀ a, N a → g.get? a = none) :
    SR P g env (fun a => H a ∨ N a) ρ h' := by
  have gr := x.grow hk
  have into : ∀ a, Tt env (fun a => H a ∨ N a) ρ a → Tt env H ρ a ∨ h.get? a = none := by
    rintro a ((h1 | h1) | h1)
    · exact .inl (.inl h1)
    · exact .inr (hN a h1).1
    · exact .inl (.inr h1)
  refine ⟨gr.keep, gr.nd, fun a ha hc => ?_, fun a ha => ?_, gr.names, ?_⟩
  · rcases hc with h1 | h1
    · exact x.sep a ha h1
    · have hT : Tt env H ρ a := (List.mem_cons.mp ha).elim (fun h => .inr (.inl h)) fun h => .inr (.inr h)
      have := (x.dom a hT).1
      rw [(hN a h1).1] at this; cases this
  · rcases ha with (h1 | h1) | h1
    · exact gr.dom a (.inl h1)
    · exact ⟨(hN a h1).2, hg a h1⟩
    · exact gr.dom a (.inr h1)
  · obtain ⟨m, hn, he⟩ := x.ents
    exact ⟨m, hn.keeps hk, fun e hm => (he e hm).other rfl (fun a o _ e => hk a o e) into⟩
theorem g_none_of (x : SR P g env H ρ h) {a : Addr} (ha : h.get? a = none) : g.get? a = none := by
  cases q : g.get? a with
  | none => rfl
  | some o => rw [x.keep a o q] at ha; cases ha
theorem SR.pushed (x : SR P g env H ρ h) (o : Obj) (hf : o.isFreed = false) : SR P g env (fun a => H a ∨ a ∈ [h.objs.size]) ρ (h.push o) := by
  have hz : h.get? h.objs.size = none := by
    cases q : h.get? h.objs.size with
    | none => rfl
    | some o => exact absurd (Heap.lt_size q) (Nat.lt_irrefl _)
  refine x.hide (fun _ _ e => Heap.get?_push_of_some _ e) (fun a ha => ?_) fun a ha => ?_
  · rw [List.mem_singleton.mp ha]
    exact ⟨hz, by rw [Heap.get?_push_size _ hf]; rfl⟩
  · rw [List.mem_singleton.mp ha]
    exact g_none_of x hz
theorem get_size_none (h : Heap) : h.get? h.objs.size = none := by
  cases q : h.get? h.objs.size with
  | none => rfl
  | some o => exact absurd (Heap.lt_size q) (Nat.lt_irrefl _)
end
theorem Put.shape {x : Str} {sl : Slot} (h : Put ρ x sl ρ') : ρ'.map (fun e => (e.x, e.loc)) = ρ.map (fun e => (e.x, e.loc)) := by
  obtain ⟨pre, l, old, post, rfl, rfl⟩ := h.split
  simp
theorem Put.V {x : Str} {sl : Slot} (h : Put ρ x sl ρ') : ∀ b, b ∈ V ρ' → b ∈ V ρ ∨ b ∈ sl.fp := by
  obtain ⟨pre, l, old, post, rfl, rfl⟩ := h.split
  intro b hb
  rw [V_app, V_cons] at hb ⊢
  simp only [Ent.fp, List.mem_append] at hb ⊢
  rcases hb with h | (h | h) | h
  · exact .inl (.inl h)
  · exact .inl (.inr (.inl (.inl h)))
  · exact .inr h
  · exact .inl (.inr (.inr h))
theorem store_post {P : Params} {env : Env} {H : Addr → Prop} {x : Str} {sl : Slot} {M : Model} {A : Around} {E : Value → Shared → Prop} {s₁ s₂ : Shared} {v : Value} {Q : Unit → Shared → Prop} (ok : EnvOk env) (k : Keeps s₁ s₂)
    (sr₁ : SR P g env H ρ s₁.heap) (sr : SR P g env (fun a => H a ∨ a ∈ sl.fp) ρ s₂.heap) (hf : ∀ a ∈ sl.fp, s₁.heap.get? a = none) (hp : Put ρ x sl ρ')
    (hv : SlotIs P s₂.heap (Tt env (fun a => H a ∨ a ∈ sl.fp) ρ) sl (some v)) (nd : sl.fp.Nodup) (h : ∀ s₃, Post0 P g env H ρ s₁ ρ' s₃ → Q () s₃) : wpAny M A (storeName env x v) Q E s₂ := by
  refine store_slot ok sr hp hv nd (fun a ha hc => ?_) fun h' tk sr' hk => ?_
  · have := (sr₁.dom a (.inl hc)).1
    rw [hf a ha] at this; cases this
  · obtain ⟨h2, t2, rfl, k⟩ := k
    exact h _ ⟨sr', ⟨_, _, rfl⟩, fun b o hb e => hk b o hb (k b o e), fun b hb => (hp.V b hb).imp id (hf b), hp.shape⟩
variable (prog w g) in
noncomputable def WX (n : Nat) (sc : Scope) (st : Stmt) (ρ : List Ent) (K : Fl → List Ent → Prop) : Prop :=
  ∀ (env : Env) (A : Around) (H : Addr → Prop) (s : Shared), env.scope = sc → EnvOk env → Room n A → SR w.params g env H ρ s.heap →
    wpAny (model prog w) A (exec st env) (fun f s' => RSs w.params g env H ρ s K f s') noE s
theorem ws_nil {K : Fl → List Ent → Prop} (h : K .next ρ) : WS prog w g n sc [] ρ K := fun _ _ _ _ _ _ _ sr => wpAny_execs_nil ⟨.next, ρ, h, SR.post sr, rfl⟩
noncomputable def After (K : Fl → List Ent → Prop) (R : List Ent → Prop) : Fl → List Ent → Prop
  | .next, ρ => R ρ
  | .ret d, ρ => K (.ret d) ρ
theorem ws_cons {st : Stmt} {r : List Stmt} {K : Fl → List Ent → Prop} (h : WX prog w g n sc st ρ (After K fun ρ₁ => WS prog w g n sc r ρ₁ K)) : WS prog w g n sc (st :: r) ρ K := by
  intro env A H s hsc ok hA sr
  refine wpAny_execs_cons (wpAny_mono (h env A H s hsc ok hA sr) (fun f s1 h1 => ?_) fun _ _ x => x)
  obtain ⟨fl, ρ1, k1, p1, r1⟩ := h1
  cases fl with
  | next =>
    have : f = .next := r1
    subst this
    exact wpAny_mono (k1 env A H s1 hsc ok hA p1.sr) (fun f s2 h2 => by obtain ⟨fl, ρ2, k2, p2, r2⟩ := h2; exact ⟨fl, ρ2, k2, p1.trans p2, r2⟩) fun _ _ x => x
  | ret d =>
    obtain ⟨v, rfl, rv⟩ := r1
    exact ⟨.ret d, ρ1, k1, p1, v, rfl, rv⟩
theorem noE_to {E : Value → Shared → Prop} : ∀ e s, noE e s → E e s := fun _ _ x => x.elim
theorem Tt_val {env : Env} {H : Addr → Prop} {d : PV} : Tt env (fun a => H a ∨ a ∈ (Slot.val d).fp) ρ = Tt env H ρ := by
  funext a; simp [Tt, Slot.fp]
theorem store_val {P : Params} {env : Env} {H : Addr → Prop} {x : Str} {M : Model} {A : Around} {E : Value → Shared → Prop} {s : Shared} {d : PV} {v : Value} {Q : Unit → Shared → Prop} (ok : EnvOk env)
    (sr : SR P g env H ρ s.heap) (hp : Put ρ x (.val d) ρ') (hv : Rd s.heap (Tt env H ρ) d v) (h : ∀ s₃, Post0 P g env H ρ s ρ' s₃ → Q () s₃) : wpAny M A (storeName env x v) Q E s :=
  store_post (sl := .val d) ok (Keeps.refl' s) sr (sr.congr fun a => by simp [Slot.fp]) (fun a (h : a ∈ ([] : List Addr)) => nomatch h) hp ⟨v, rfl, by rw [Tt_val]; exact hv⟩ List.nodup_nil h
theorem swaps_none {e : Expr} (h : noComp e = true) (t : Option Expr) (l : Nat) (env : Env) : swapsWith e t l env = pure false := by
  cases e <;> first | rfl | cases h
theorem wx_assign {x : Str} {e : Expr} {p pos : Pos} {K : Fl → List Ent → Prop} (h : WE prog w g n sc e ρ fun d ρ₁ => PutK ρ₁ x (.val d) fun ρ₂ => K .next ρ₂) (hc : noComp e = true := by rfl) :
    WX prog w g n sc (.Assign [.Name x p] e pos) ρ K := by
  intro env A H s hsc ok hA sr
  refine PySem.wpAny_Assign_Name (wpAny_mono (h env A H s hsc ok hA sr) (fun v s1 h1 => ?_) fun _ _ x => x) (swaps_none hc ..)
  obtain ⟨d, ρ1, ⟨ρ2, hp, k1⟩, p1, r1⟩ := h1
  exact store_val ok p1.sr hp r1 fun s3 q => ⟨.next, ρ2, k1, p1.trans q, rfl⟩
theorem store_new_list {env : Env} {H : Addr → Prop} {x : Str} {M : Model} {A : Around} {E : Value → Shared → Prop} {s : Shared} {xs : List PV} {vs : List Value} {Q : Unit → Shared → Prop} (ok : EnvOk env)
    (sr : SR w.params g env H ρ s.heap) (hp : Put ρ x (.lst s.heap.objs.size xs) ρ') (hv : RdL s.heap (Tt env H ρ) xs vs)
    (h : ∀ s₃, Post0 w.params g env H ρ s ρ' s₃ → Q () s₃) : wpAny M A (storeName env x (.ref s.heap.objs.size)) Q E { s with heap := s.heap.push { cls := .type "list", data := .seq vs.toArray } } := by
  have hval : SlotIs w.params (s.heap.push { cls := .type "list", data := .seq vs.toArray }) (Tt env (fun a => H a ∨ a ∈ (Slot.lst s.heap.objs.size xs).fp) ρ) (.lst s.heap.objs.size xs) (some (.ref s.heap.objs.size)) := by
    refine ⟨rfl, vs, ⟨_, Heap.get?_push_size _ rfl⟩, hv.mono (fun a o _ e => Heap.get?_push_of_some _ e) fun a ha => ?_⟩
    rcases ha with (h1 | h1) | h1
    · exact .inl (.inl h1)
    · rw [List.mem_singleton.mp h1]; exact .inr (get_size_none _)
    · exact .inl (.inr h1)
  refine store_post (s₁ := s) (sl := .lst s.heap.objs.size xs) ok (Keeps.push s _) sr (sr.pushed { cls := .type "list", data := .seq vs.toArray } rfl) ?_ hp hval (by simp [Slot.fp]) h
  intro a ha
  rw [List.mem_singleton.mp ha]; exact get_size_none _
theorem wx_new {x : Str} {es : List Expr} {p p' pos : Pos} {K : Fl → List Ent → Prop} (h : WEL prog w g n sc es ρ fun ds ρ₁ => ds.length ≤ sizeLine ∧ ∀ a, PutK ρ₁ x (.lst a ds) fun ρ₂ => K .next ρ₂) :
    WX prog w g n sc (.Assign [.Name x p] (.List es p') pos) ρ K := by
  intro env A H s hsc ok hA sr
  refine PySem.wpAny_Assign_Name (wpAny_List (wpAny_mono (h env A H s p' hsc ok hA sr) (fun vs s1 h1 => ?_) fun _ _ x => x)) (swaps_none rfl ..)
  obtain ⟨ds, ρ1, ⟨hl, k1⟩, p1, r1⟩ := h1
  obtain ⟨ρ2, hp, k2⟩ := k1 s1.heap.objs.size
  refine ⟨by rw [r1.length]; exact hl, store_new_list ok p1.sr hp r1 fun s3 q => ⟨.next, ρ2, k2, p1.trans q, rfl⟩⟩
theorem replicate_push (v : Value) : ∀ (m : Nat), List.foldl (fun (x1 x2 : Array Value) => x1 ++ x2) #[] (List.replicate m #[v]) = (List.replicate m v).toArray := by
  intro m
  have : ∀ (m : Nat) (acc : List Value), List.foldl (fun (x1 x2 : Array Value) => x1 ++ x2) acc.toArray (List.replicate m #[v]) = (acc ++ List.replicate m v).toArray := by
    intro m
    induction m with
    | zero => intro acc; simp
    | succ m ih =>
      intro acc
      rw [List.replicate_succ, List.foldl_cons, show acc.toArray ++ #[v] = (acc ++ [v]).toArray by simp, ih, List.append_assoc, List.replicate_succ]
      rfl
  simpa using this m []
theorem RdL.replicate {h : Heap} {T : Addr → Prop} {d : PV} {v : Value} (r : Rd h T d v) : ∀ m, RdL h T (List.replicate m d) (List.replicate m v)
  | 0 => rfl
  | m + 1 => ⟨v, _, rfl, r, RdL.replicate r m⟩
theorem rep_any {c : Expr} {e : Expr} {p' p'' : Pos} {env : Env} {A : Around} {H : Addr → Prop} {s : Shared} {Q : Value → Shared → Prop} {R : PV → Int → List Ent → Prop} (hp : plainE c = true)
    (h : WE prog w g n sc c ρ fun d ρ₁ => WE prog w g n sc e ρ₁ fun d' ρ₂ => OfInt d' fun i => 0 ≤ i ∧ i ≤ 2 ^ 20 ∧ R d i ρ₂)
    (hsc : env.scope = sc) (ok : EnvOk env) (hA : Room n A) (sr : SR w.params g env H ρ s.heap)
    (hQ : ∀ d i ρ₂ s₂ vs, R d i ρ₂ → Post0 w.params g env H ρ s ρ₂ s₂ → RdL s₂.heap (Tt env H ρ₂) (List.replicate i.toNat d) vs →
      Q (.ref s₂.heap.objs.size) { s₂ with heap := s₂.heap.push { cls := .type "list", data := .seq vs.toArray } }) :
    wpAny (model prog w) A (eval (.BinOp (.List [c] p') .Mult e p'') env) Q noE s := by
  refine wpAny_BinOp (wpAny_List ?_)
  have hwel : WEL prog w g n sc [c] ρ fun ds ρ₁ => ∃ d, ds = [d] ∧ WE prog w g n sc e ρ₁ fun d' ρ₂ => OfInt d' fun i => 0 ≤ i ∧ i ≤ 2 ^ 20 ∧ R d i ρ₂ :=
    wel_cons (h.mono fun d ρ1 k => wel_nil ⟨d, rfl, k⟩) hp
  refine wpAny_mono (hwel env A H s p' hsc ok hA sr) (fun vs s1 h1 => ?_) fun _ _ x => x
  obtain ⟨ds, ρ1, ⟨d, rfl, k1⟩, p1, v, r, rfl, rv, rfl⟩ := h1
  refine ⟨by show 1 ≤ sizeLine; decide, ?_⟩
  have p1' := p1.grow (Keeps.push s1 { cls := .type "list", data := .seq [v].toArray })
  refine wpAny_mono (k1 env A H _ hsc ok hA p1'.sr) (fun v2 s2 h2 => ?_) fun _ _ x => x
  obtain ⟨d2, ρ2, ⟨i, rfl, i0, i1, k2⟩, p2, t, rfl⟩ := h2
  have hl : s2.heap.get? s1.heap.objs.size = some { cls := .type "list", dict := none, data := .seq #[v] 0, slots := #[] } := by
    refine p2.keep _ _ (fun hc => p1.sr.off (.inr hc)) (Heap.get?_push_size _ rfl)
  have rv2 : Rd s2.heap (Tt env H ρ2) d v := p2.rd (rv.mono (fun a o _ e => Heap.get?_push_of_some _ e) fun a h => .inl h)
  refine wpAny_binaryOp_repeat_ref (T := "list") (U := "int") (by decide) ⟨_, hl, rfl⟩ (fun s' => typeIs_int s' i t) noFill_list_mul PySem.F.fills_int_mul PySem.F.slot_int_rmul repeat_list PySem.F.slot_int_index.lookup
    (call_meets PySem.F.slot_int_rmul (typeIs_int s2 i t) PySem.F.entry_int_rmul (PySem.F.args_int_rmul_2 _ _) (int___rmul___int_list i t s1.heap.objs.size #[v] 0)
      ⟨hl, rfl, ⟨_, hl, rfl⟩, call_meets PySem.F.slot_list_mul ⟨_, hl, rfl⟩ PySem.F.entry_list_mul (PySem.F.args_list_mul_2 _ _)
        (AutoListH.list___mul___list_int_3 s1.heap.objs.size #[v] 0 i t (by simp [Builtin.List.listFitsIndex]; omega) (by show ¬ 1 * i.toNat > _; omega) (by simp [Builtin.List.listTooLong, sizeLine]; omega))
        ⟨hl, ?_⟩⟩)
  have e : (if (#[v] : Array Value).isEmpty = true then 0 else i.toNat) = i.toNat := by simp
  rw [e, replicate_push]
  exact hQ d i ρ2 s2 (List.replicate i.toNat v) k2 (p1'.trans p2) (RdL.replicate rv2 _)
theorem wx_rep {x : Str} {c e : Expr} {p p' p'' pos : Pos} {K : Fl → List Ent → Prop}
    (h : WE prog w g n sc c ρ fun d ρ₁ => WE prog w g n sc e ρ₁ fun d' ρ₂ => OfInt d' fun i => 0 ≤ i ∧ i ≤ 2 ^ 20 ∧ ∀ a, PutK ρ₂ x (.lst a (List.replicate i.toNat d)) fun ρ₃ => K .next ρ₃) (hp : plainE c = true := by rfl) :
    WX prog w g n sc (.Assign [.Name x p] (.BinOp (.List [c] p') .Mult e p'') pos) ρ K := by
  intro env A H s hsc ok hA sr
  refine PySem.wpAny_Assign_Name (rep_any (R := fun d i ρ₂ => ∀ a, PutK ρ₂ x (.lst a (List.replicate i.toNat d)) fun ρ₃ => K .next ρ₃) hp h hsc ok hA sr fun d i ρ2 s2 vs k2 p2 r2 => ?_) (swaps_none rfl ..)
  obtain ⟨ρ3, hput, k3⟩ := k2 s2.heap.objs.size
  exact store_new_list ok p2.sr hput r2 fun s3 q => ⟨.next, ρ3, k3, p2.trans q, rfl⟩
theorem we_rep {c e : Expr} {p' p'' : Pos} {K : PV → List Ent → Prop}
    (h : WE prog w g n sc c ρ fun d ρ₁ => WE prog w g n sc e ρ₁ fun d' ρ₂ => OfInt d' fun i => 0 ≤ i ∧ i ≤ 2 ^ 20 ∧ K (.list (List.replicate i.toNat d)) ρ₂) (hp : plainE c = true := by rfl) :
    WE prog w g n sc (.BinOp (.List [c] p') .Mult e p'') ρ K := by
  intro env A H s hsc ok hA sr
  exact rep_any (R := fun d i ρ₂ => K (.list (List.replicate i.toNat d)) ρ₂) hp h hsc ok hA sr fun d i ρ2 s2 vs k2 p2 r2 => ⟨_, ρ2, k2, p2.grow (Keeps.push _ _), Rd.newList p2.sr.hr r2⟩
theorem wx_ret {e : Expr} {pos : Pos} {K : Fl → List Ent → Prop} (h : WE prog w g n sc e ρ fun d ρ₁ => K (.ret d) ρ₁) : WX prog w g n sc (.Return (some e) pos) ρ K := by
  intro env A H s hsc ok hA sr
  refine PySem.wpAny_Return_some (wpAny_mono (h env A H s hsc ok hA sr) (fun v s1 h1 => ?_) fun _ _ x => x)
  obtain ⟨d, ρ1, k1, p1, r1⟩ := h1
  exact ⟨.ret d, ρ1, k1, p1, v, rfl, r1⟩
theorem wx_if {t : Expr} {a b : List Stmt} {pos : Pos} {K : Fl → List Ent → Prop} (h : WT prog w g n sc t ρ fun c ρ₁ => if c = true then WS prog w g n sc a ρ₁ K else WS prog w g n sc b ρ₁ K) : WX prog w g n sc (.If t a b pos) ρ K := by
  intro env A H s hsc ok hA sr
  refine PySem.wpAny_If (wpAny_mono (h env A H s hsc ok hA sr) (fun c s1 h1 => ?_) fun _ _ x => x)
  obtain ⟨ρ1, k1, p1⟩ := h1
  have fin : ∀ b, WS prog w g n sc b ρ1 K → wpAny (model prog w) A (execs b env) (fun f s' => RSs w.params g env H ρ s K f s') noE s1 := fun e he =>
    wpAny_mono (he env A H s1 hsc ok hA p1.sr) (fun v s2 h2 => by obtain ⟨d, ρ2, k2, p2, r2⟩ := h2; exact ⟨d, ρ2, k2, p1.trans p2, r2⟩) fun _ _ x => x
  cases c with
  | true => simp only [if_true] at k1 ⊢; exact fin _ k1
  | false => simp only [Bool.false_eq_true, if_false] at k1 ⊢; exact fin _ k1
theorem wx_while {t : Expr} {b : List Stmt} {pos : Pos} {K : Fl → List Ent → Prop} (I : Nat → List Ent → Prop) (m₀ : Nat) (h0 : I m₀ ρ)
    (turn : ∀ m (K' : Fl → List Ent → Prop), (∀ m' ρ₂, m' < m → I m' ρ₂ → K' .next ρ₂) → (∀ d ρ₂, K (.ret d) ρ₂ → K' (.ret d) ρ₂) → ∀ ρ, I m ρ → WT prog w g n sc t ρ fun c ρ₁ => if c = true then WS prog w g n sc b ρ₁ K' else K .next ρ₁) : WX prog w g n sc (.While t b [] pos) ρ K := by
  intro env A H s hsc ok hA sr
  refine PySem.wpAny_While (codeAny_whileLoop (fun m s' => RTs w.params g env H ρ s (I m) s') ?_ m₀ ⟨ρ, h0, SR.post sr⟩)
  rintro m s' ⟨ρ1, i1, p1⟩
  refine wpAny_mono (turn m (After K fun ρ₂ => ∃ m', m' < m ∧ I m' ρ₂) (fun m' _ h i => ⟨m', h, i⟩) (fun _ _ h => h) ρ1 i1 env A H s' hsc ok hA p1.sr) (fun c s2 h2 => ?_) noE_to
  obtain ⟨ρ2, k2, p2⟩ := h2
  cases c with
  | true =>
    simp only [if_true] at k2 ⊢
    refine wpAny_mono (k2 env A H s2 hsc ok hA p2.sr) (fun f s3 h3 => ?_) noE_to
    obtain ⟨fl, ρ3, k3, p3, r3⟩ := h3
    cases fl with
    | next =>
      have : f = .next := r3
      subst this
      obtain ⟨m', hm, i3⟩ := k3
      exact ⟨m', hm, ρ3, i3, (p1.trans p2).trans p3⟩
    | ret d =>
      obtain ⟨v, rfl, rv⟩ := r3
      exact ⟨.ret d, ρ3, k3, (p1.trans p2).trans p3, v, rfl, rv⟩
  | false =>
    simp only [Bool.false_eq_true, if_false] at k2 ⊢
    exact wpAny_execs_nil ⟨.next, ρ2, k2, p1.trans p2, rfl⟩
theorem wx_expr {e : Expr} {pos : Pos} {K : Fl → List Ent → Prop} (h : WE prog w g n sc e ρ fun _ ρ₁ => K .next ρ₁) (hc : noComp e = true := by rfl) : WX prog w g n sc (.Expr e pos) ρ K := by
  intro env A H s hsc ok hA sr
  refine wpAny_Expr_any (wpAny_mono (h env A H s hsc ok hA sr) (fun v s1 h1 => ?_) fun _ _ x => x) ?_ (swaps_none hc ..)
  · obtain ⟨d, ρ1, k1, p1, r1⟩ := h1
    exact ⟨.next, ρ1, k1, p1, rfl⟩
  · unfold interactive; rw [ok.1]; rfl
end
section
theorem get_map {α β : Type} {l : List α} {f : α → β} {i : Nat} {q : α} (h : l[i]? = some q) : (l.map f)[i]? = some (f q) := by rw [List.getElem?_map, h]; rfl
variable {prog : Program} {w : World} {g : Heap} {n : Nat} {sc : Scope} {ρ ρ' : List Ent}
inductive Sw : List Ent → Str → Slot → Slot → List Ent → Prop where
  | here {x : Str} {l : Option Addr} {old sl : Slot} {r : List Ent} : Sw (⟨x, l, old⟩ :: r) x old sl (⟨x, l, sl⟩ :: r)
  | there {e : Ent} {r r' : List Ent} {x : Str} {old sl : Slot} : Sw r x old sl r' → Sw (e :: r) x old sl (e :: r')
inductive SwK (ρ : List Ent) (x : Str) (old new : Slot) (K : List Ent → Prop) : Prop
  | mk (ρ' : List Ent) (p : Sw ρ x old new ρ') (k : K ρ')
theorem Sw.split {x : Str} {old sl : Slot} (h : Sw ρ x old sl ρ') : ∃ pre l post, ρ = pre ++ ⟨x, l, old⟩ :: post ∧ ρ' = pre ++ ⟨x, l, sl⟩ :: post := by
  induction h with
  | here => exact ⟨[], _, _, rfl, rfl⟩
  | @there e r r' x old sl _ ih =>
    obtain ⟨pre, l, post, rfl, rfl⟩ := ih
    exact ⟨e :: pre, l, post, rfl, rfl⟩
theorem Sw.at {x : Str} {old sl : Slot} (h : Sw ρ x old sl ρ') : At ρ x old := by
  induction h with
  | here => exact .here
  | there _ ih => exact .there ih
theorem Sw.put {x : Str} {old sl : Slot} (h : Sw ρ x old sl ρ') : Put ρ x sl ρ' := by
  induction h with
  | here => exact .here
  | there _ ih => exact .there ih
section
variable {P : Params} {env : Env} {H : Addr → Prop} {h h' : Heap} {x : Str} {old sl : Slot}
theorem SR.swap (sr : SR P g env H ρ h) (sw : Sw ρ x old sl ρ') (hfp : ∀ b ∈ sl.fp, b ∈ old.fp) (hnd : sl.fp.Nodup)
    (hs : ∀ b o, b ∉ old.fp → h.get? b = some o → h'.get? b = some o) (hdom : ∀ b ∈ old.fp, (h'.get? b).isSome = true)
    (hv : ∀ o, SlotIs P h (Tt env H ρ) old o → SlotIs P h' (Tt env H ρ') sl o) : SR P g env H ρ' h' := by
  obtain ⟨pre, l, post, rfl, rfl⟩ := sw.split
  obtain ⟨m, hns, he⟩ := sr.ents
  have hme : (⟨x, l, old⟩ : Ent) ∈ pre ++ ⟨x, l, old⟩ :: post := List.mem_append.mpr (.inr (.head _))
  have oldV : ∀ b ∈ old.fp, b ∈ V (pre ++ ⟨x, l, old⟩ :: post) := fun b hb => sl_sub hme hb
  have hV : ∀ b, b ∈ V (pre ++ ⟨x, l, sl⟩ :: post) → b ∈ V (pre ++ ⟨x, l, old⟩ :: post) := fun b hb => (sw.put.V b hb).elim id fun h => oldV b (hfp b h)
  have hT : ∀ b, Tt env H (pre ++ ⟨x, l, sl⟩ :: post) b → Tt env H (pre ++ ⟨x, l, old⟩ :: post) b := fun b hb => hb.imp id fun h => h.imp id (hV b)
  have memold : ∀ e ∈ pre ++ post, e ∈ pre ++ ⟨x, l, old⟩ :: post := fun e he => by
    rcases List.mem_append.mp he with h5 | h5
    · exact List.mem_append.mpr (.inl h5)
    · exact List.mem_append.mpr (.inr (.tail _ h5))
  have hnd0 := sr.nd
  rw [V_app, V_cons] at hnd0
  obtain ⟨hL, hr⟩ := List.nodup_cons.mp hnd0
  obtain ⟨a1, a2, a3⟩ := List.nodup_append.mp hr
  obtain ⟨b1, b2, b3⟩ := List.nodup_append.mp a2
  have c1 := List.nodup_append.mp b1
  have offother : ∀ e ∈ pre ++ post, ∀ b ∈ old.fp, b ∉ e.fp := by
    intro e hm b hb hc
    have hbx : b ∈ (⟨x, l, old⟩ : Ent).fp := List.mem_append.mpr (.inr hb)
    rcases List.mem_append.mp hm with h5 | h5
    · exact a3 b (fp_sub h5 hc) b (List.mem_append.mpr (.inl hbx)) rfl
    · exact b3 b hbx b (fp_sub h5 hc) rfl
  have offL : env.locals ∉ old.fp := fun hb => (List.nodup_cons.mp sr.nd).1 (oldV _ hb)
  refine ⟨fun a o e => hs a o (fun hb => ?_) (sr.keep a o e), ?_, fun a ha => ?_, fun a ha => ?_, ?_, m, ?_, fun e hm => ?_⟩
  · rw [(sr.dom a (.inr (.inr (oldV a hb)))).2] at e; cases e
  · rw [V_app, V_cons]
    refine List.nodup_cons.mpr ⟨fun hc => ?_, ?_⟩
    · exact (List.nodup_cons.mp sr.nd).1 (hV _ (by rw [V_app, V_cons]; exact hc))
    · refine List.nodup_append.mpr ⟨a1, List.nodup_append.mpr ⟨List.nodup_append.mpr ⟨c1.1, hnd, ?_⟩, b2, ?_⟩, ?_⟩
      · intro a ha b hb e
        exact c1.2.2 a ha b (hfp b hb) e
      · intro a ha b hb e
        rcases List.mem_append.mp ha with h | h
        · exact b3 a (List.mem_append.mpr (.inl h)) b hb e
        · exact b3 a (List.mem_append.mpr (.inr (hfp a h))) b hb e
      · intro a ha b hb e
        rcases List.mem_append.mp hb with h | h
        · rcases List.mem_append.mp h with h | h
          · exact a3 a ha b (List.mem_append.mpr (.inl (List.mem_append.mpr (.inl h)))) e
          · exact a3 a ha b (List.mem_append.mpr (.inl (List.mem_append.mpr (.inr (hfp b h))))) e
        · exact a3 a ha b (List.mem_append.mpr (.inr h)) e
  · rcases List.mem_cons.mp ha with h1 | h1
    · exact sr.sep a (by rw [h1]; exact .head _)
    · exact sr.sep a (.tail _ (hV a h1))
  · have z := sr.dom a (hT a ha)
    refine ⟨?_, z.2⟩
    by_cases hb : a ∈ old.fp
    · exact hdom a hb
    · obtain ⟨o, ho⟩ := Option.isSome_iff_exists.mp z.1
      rw [hs a o hb ho]; rfl
  · have := sr.names
    simpa using this
  · exact hns.at' fun o e => hs _ o offL e
  · have : e = ⟨x, l, sl⟩ ∨ e ∈ pre ++ post := by
      rcases List.mem_append.mp hm with h5 | h5
      · exact .inr (List.mem_append.mpr (.inl h5))
      · rcases List.mem_cons.mp h5 with h6 | h6
        · exact .inl h6
        · exact .inr (List.mem_append.mpr (.inr h6))
    rcases this with rfl | hm
    · have z := he _ hme
      unfold EntIs at z ⊢
      cases l with
      | none => exact ⟨z.1, hv _ z.2⟩
      | some c =>
        obtain ⟨z1, z2, ov, ⟨oc, z3, z5⟩, z4⟩ := z
        refine ⟨z1, z2, ov, ⟨oc, hs c _ (fun hb => ?_) z3, z5⟩, hv _ z4⟩
        exact c1.2.2 c (.head _) c hb rfl
    · refine (he e (memold e hm)).other rfl (fun a o ha e' => hs a o (fun hb => ?_) e') fun a ha => .inl (hT a ha)
      rcases ha with h1 | h1
      · exact h1 (.inr (.inr (oldV a hb)))
      · exact offother e hm a hb h1
theorem SR.offa {a : Addr} {xs : List PV} (sr : SR P g env H ρ h) (sw : Sw ρ x (.lst a xs) (.val (.list xs)) ρ') : ¬ Tt env H ρ' a := by
    obtain ⟨pre, l, post, rfl, rfl⟩ := sw.split
    have hme : (⟨x, l, .lst a xs⟩ : Ent) ∈ pre ++ ⟨x, l, .lst a xs⟩ :: post := List.mem_append.mpr (.inr (.head _))
    have ha : a ∈ V (pre ++ ⟨x, l, .lst a xs⟩ :: post) := sl_sub hme (.head _)
    have hnd0 := sr.nd
    rintro (h1 | h1 | h1)
    · exact sr.sep a (.tail _ ha) h1
    · exact (List.nodup_cons.mp sr.nd).1 (h1 ▸ ha)
    · rw [V_app, V_cons] at hnd0
      obtain ⟨hL, hr⟩ := List.nodup_cons.mp hnd0
      obtain ⟨a1, a2, a3⟩ := List.nodup_append.mp hr
      obtain ⟨b1, b2, b3⟩ := List.nodup_append.mp a2
      have c1 := List.nodup_append.mp b1
      rw [V_app, V_cons] at h1
      rcases List.mem_append.mp h1 with h2 | h2
      · exact a3 a h2 a (List.mem_append.mpr (.inl (List.mem_append.mpr (.inr (.head _))))) rfl
      · rcases List.mem_append.mp h2 with h3 | h3
        · rcases List.mem_append.mp h3 with h4 | h4
          · exact c1.2.2 a h4 a (.head _) rfl
          · cases h4
        · exact b3 a (List.mem_append.mpr (.inr (.head _))) a h3 rfl
theorem SR.freeze {a : Addr} {xs : List PV} (sr : SR P g env H ρ h) (sw : Sw ρ x (.lst a xs) (.val (.list xs)) ρ') : SR P g env H ρ' h := by
  have offa := sr.offa sw
  have hsub : ∀ b, Tt env H ρ' b → Tt env H ρ b := fun b hb => hb.imp id fun h => h.imp id fun h => (sw.put.V b h).elim id fun h => nomatch (h : b ∈ [])
  refine sr.swap sw (fun b hb => nomatch (hb : b ∈ [])) List.nodup_nil (fun _ _ _ e => e) (fun b hb => ?_) fun o hv => ?_
  · obtain ⟨pre, l, post, rfl, rfl⟩ := sw.split
    exact (sr.dom b (.inr (.inr (sl_sub (e := ⟨x, l, .lst a xs⟩) (List.mem_append.mpr (.inr (.head _))) hb)))).1
  · obtain ⟨e, vs, hl, hr⟩ := hv
    exact ⟨_, e, a, vs, rfl, offa, hl, hr.mono (fun _ _ _ e => e) fun b hb => .inl (hsub b hb)⟩
end
theorem Post0.freeze {P : Params} {env : Env} {H : Addr → Prop} {ρ₁ : List Ent} {s s₁ : Shared} {x : Str} {a : Addr} {xs : List PV} (p : Post0 P g env H ρ s ρ₁ s₁) (sw : Sw ρ₁ x (.lst a xs) (.val (.list xs)) ρ') : Post0 P g env H ρ s ρ' s₁ :=
  p.trans ⟨p.sr.freeze sw, ⟨_, _, rfl⟩, fun _ _ _ e => e, fun b hb => (sw.put.V b hb).elim .inl (fun h => (nomatch (h : b ∈ []))), sw.put.shape⟩
theorem we_frz {x : Str} {pos : Pos} {a : Addr} {xs : List PV} {K : PV → List Ent → Prop} (sw : Sw ρ x (.lst a xs) (.val (.list xs)) ρ') (h : K (.list xs) ρ') (hd : (x == ("__debug__" : Str)) = false := by decide) (hn : (x == ("__classdict__" : Str)) = false := by decide) :
    WE prog w g n sc (.Name x pos) ρ K := by
  intro env A H s hsc ok hA sr
  refine wpAny_Name (loadName_slot ok sr sw.at (by intro h; cases h) (fun v hv => ?_) hn) hd
  obtain ⟨e, vs, hl, hr⟩ := hv
  cases e
  have p := (SR.post sr).freeze sw
  refine ⟨_, ρ', h, p, ?_⟩
  have offa := sr.offa sw
  exact ⟨a, vs, rfl, offa, hl, hr.mono (fun _ _ _ e => e) fun b hb => .inl (hb.imp id fun h => h.imp id fun h => (sw.put.V b h).elim id fun h => nomatch (h : b ∈ []))⟩
theorem Post0.mutate {P : Params} {env : Env} {H : Addr → Prop} {s : Shared} {x : Str} {a : Addr} {xs ys : List PV} {h' : Heap} {vs' : List Value} (sr : SR P g env H ρ s.heap) (sw : Sw ρ x (.lst a xs) (.lst a ys) ρ')
    (hs : Heap.SameBut a s.heap h') (hl : h'.PlainList a vs'.toArray) (hr : RdL s.heap (Tt env H ρ) ys vs') (tk : Nat) : Post0 P g env H ρ s ρ' { s with heap := h', toks := tk } := by
  have ha : a ∈ V ρ := by
    obtain ⟨pre, l, post, rfl, rfl⟩ := sw.split
    exact sl_sub (e := ⟨x, l, .lst a xs⟩) (List.mem_append.mpr (.inr (.head _))) (.head _)
  have hsub : ∀ b, Tt env H ρ' b → Tt env H ρ b := fun b hb => hb.imp id fun h => h.imp id fun h => (sw.put.V b h).elim id fun h => by rw [List.mem_singleton.mp h]; exact ha
  refine ⟨sr.swap sw (fun _ h => h) (by simp [Slot.fp]) (fun b o hb e => (hs.2 b fun h => hb (by rw [h]; exact .head _)).trans e) (fun b hb => ?_) fun o hv => ?_, ⟨_, _, rfl⟩, fun b o hb e => (hs.2 b fun h => hb (.inr (h ▸ ha))).trans e,
    fun b hb => .inl ((sw.put.V b hb).elim id fun h => by rw [List.mem_singleton.mp h]; exact ha), sw.put.shape⟩
  · rw [List.mem_singleton.mp hb]
    obtain ⟨k, e⟩ := hl
    rw [e]; rfl
  · exact ⟨hv.1, vs', hl, hr.mono (fun b o hb e => (hs.2 b fun h => hb (.inr (.inr (h ▸ ha)))).trans e) fun b hb => .inl (hsub b hb)⟩
end
section
variable {prog : Program} {w : World} {g : Heap} {n : Nat} {sc : Scope} {ρ ρ' : List Ent}
theorem SR.own {P : Params} {env : Env} {H : Addr → Prop} {h : Heap} {x : Str} {a : Addr} {xs : List PV} (sr : SR P g env H ρ h) (hx : At ρ x (.lst a xs)) : ∃ vs, h.PlainList a (List.toArray vs) ∧ RdL h (Tt env H ρ) xs vs := by
  obtain ⟨l, hm⟩ := hx.mem
  obtain ⟨m, hns, he⟩ := sr.ents
  have z := he _ hm
  unfold EntIs at z
  cases l with
  | none => obtain ⟨_, _, vs, hl, hr⟩ := z; exact ⟨vs, hl, hr⟩
  | some c => obtain ⟨_, _, ov, _, _, vs, hl, hr⟩ := z; exact ⟨vs, hl, hr⟩
theorem load_own {env : Env} {A : Around} {H : Addr → Prop} {s : Shared} {x : Str} {pos : Pos} {a : Addr} {xs : List PV} {E : Value → Shared → Prop} (ok : EnvOk env) (sr : SR w.params g env H ρ s.heap) (hx : At ρ x (.lst a xs)) {Q : Value → Shared → Prop} (h : Q (.ref a) s)
    (hd : (x == ("__debug__" : Str)) = false) (hn : (x == ("__classdict__" : Str)) = false) : wpAny (model prog w) A (eval (.Name x pos) env) Q E s := by
  refine wpAny_Name (loadName_slot ok sr hx (by intro h; cases h) (fun v hv => ?_) hn) hd
  obtain ⟨e, _⟩ := hv
  cases e
  exact h
theorem meth_list {env : Env} {A : Around} {s : Shared} {x : Str} {np apos pos : Pos} {e : Expr} {nm : Str} {id : String} {Q : Value → Shared → Prop} (slot : PySem.Slot "list" nm id) (hty : typeOf (.builtin id) = pure (.type "method_descriptor")) {a : Addr} {vs : Array Value} (hl : s.heap.PlainList a vs)
    (hload : ∀ Q' : Value → Shared → Prop, Q' (.ref a) s → wpAny (model prog w) A (eval (.Name x np) env) Q' noE s) (hp : plainE e = true) (hpos : (Pos.endLine apos == Pos.line pos) = true)
    (h : wpAny (model prog w) A (callWith pos (.builtin id) [.ref a] [(false, eval e env)] []) Q noE s) :
    wpAny (model prog w) A (eval (.Call (.Attribute (.Name x np) nm apos) [e] [] pos) env) Q noE s := by
  have hb : backTo pos (starEach [e] env) = [(false, eval e env)] := by rw [starEach_plain hp]; rfl
  refine wpAny_Call_method1_late rfl hpos hb (hload _ ⟨"list", id, PySem.F.plainAttrs_list, slot, hty, hl.isList.typeIs, fun b e => ?_, ?_⟩)
  · cases e
    obtain ⟨n, hn⟩ := hl
    exact ⟨_, hn, rfl⟩
  · exact h
theorem wx_append {x : Str} {e : Expr} {np apos pos spos : Pos} {K : Fl → List Ent → Prop} {a : Addr} {xs : List PV} (hx : At ρ x (.lst a xs))
    (h : WE prog w g n sc e ρ fun d ρ₁ => ∃ ys ρ₂, ys.length ≤ 2 ^ 20 ∧ Sw ρ₁ x (.lst a ys) (.lst a (ys ++ [d])) ρ₂ ∧ K .next ρ₂) (hp : plainE e = true := by rfl) (hpos : (Pos.endLine apos == Pos.line pos) = true := by rfl)
    (hd : (x == ("__debug__" : Str)) = false := by decide) (hn : (x == ("__classdict__" : Str)) = false := by decide) :
    WX prog w g n sc (.Expr (.Call (.Attribute (.Name x np) (Str.ofString "append") apos) [e] [] pos) spos) ρ K := by
  intro env A H s hsc ok hA sr
  obtain ⟨vs, hl, hr⟩ := sr.own hx
  refine wpAny_Expr_any (meth_list PySem.F.slot_list_append (by rfl) hl (fun Q' q => load_own ok sr hx q hd hn) hp hpos (P.append_list ?_)) (by unfold interactive; rw [ok.1]; rfl) rfl
  refine wpAny_mono (h env A H s hsc ok hA sr) (fun v s1 h1 => ?_) fun _ _ x => x
  obtain ⟨d, ρ1, ⟨ys, ρ2, hlen, sw, k⟩, p1, r1⟩ := h1
  obtain ⟨us, ⟨n1, hl1⟩, hr1⟩ := p1.sr.own sw.at
  have hul := hr1.length
  have hnew : (s1.heap.update a (Obj.mapSeq fun xs => xs.push v)).PlainList a (us ++ [v]).toArray := by
    rw [show (us ++ [v]).toArray = us.toArray.push v by simp]
    exact ⟨_, IsL.update (l := a) hl1 (fun xs => xs.push v)⟩
  exact ⟨us.toArray, n1, by simp [sizeLine]; omega, hl1, .next, ρ2, k, p1.trans (Post0.mutate p1.sr sw (Heap.SameBut.update ..) hnew (hr1.snoc r1) s1.toks), rfl⟩
theorem wx_extend {x : Str} {e : Expr} {np apos pos spos : Pos} {K : Fl → List Ent → Prop} {a : Addr} {xs : List PV} (hx : At ρ x (.lst a xs))
    (h : WE prog w g n sc e ρ fun d ρ₁ => ∃ ys zs ρ₂, d = .list zs ∧ ys.length ≤ 2 ^ 20 ∧ zs.length ≤ 2 ^ 20 ∧ Sw ρ₁ x (.lst a ys) (.lst a (ys ++ zs)) ρ₂ ∧ K .next ρ₂) (hp : plainE e = true := by rfl) (hpos : (Pos.endLine apos == Pos.line pos) = true := by rfl)
    (hd : (x == ("__debug__" : Str)) = false := by decide) (hn : (x == ("__classdict__" : Str)) = false := by decide) :
    WX prog w g n sc (.Expr (.Call (.Attribute (.Name x np) (Str.ofString "extend") apos) [e] [] pos) spos) ρ K := by
  intro env A H s hsc ok hA sr
  obtain ⟨vs, hl, hr⟩ := sr.own hx
  refine wpAny_Expr_any (meth_list PySem.F.slot_list_extend (by rfl) hl (fun Q' q => load_own ok sr hx q hd hn) hp hpos (P.extend_list ?_)) (by unfold interactive; rw [ok.1]; rfl) rfl
  refine wpAny_mono (h env A H s hsc ok hA sr) (fun v s1 h1 => ?_) fun _ _ x => x
  obtain ⟨d, ρ1, ⟨ys, zs, ρ2, rfl, hlen, hlen2, sw, k⟩, p1, b, ws, rfl, hb, ⟨n2, hl2⟩, hr2⟩ := h1
  obtain ⟨us, ⟨n1, hl1⟩, hr1⟩ := p1.sr.own sw.at
  have hul := hr1.length
  have hwl := hr2.length
  have hnew : (s1.heap.update a (Obj.mapSeq fun xs => xs ++ ws.toArray)).PlainList a (us ++ ws).toArray := by
    rw [show (us ++ ws).toArray = us.toArray ++ ws.toArray by simp]
    exact ⟨_, IsL.update (l := a) hl1 (fun xs => xs ++ ws.toArray)⟩
  exact ⟨b, us.toArray, ws.toArray, n1, n2, by simp [sizeLine]; omega, by simp [sizeLine]; omega, by simp [Builtin.List.listTooLong, sizeLine]; omega, rfl, hl1, hl2, .next, ρ2, k, p1.trans (Post0.mutate p1.sr sw (Heap.SameBut.update ..) hnew (hr1.app hr2) s1.toks), rfl⟩
theorem setItem_plain {A : Around} {E : Value → Shared → Prop} {s : Shared} {l : Addr} {items : Array Value} {k : Int} {t : Tok} {v : Value} {Q : Unit → Shared → Prop} (hl : s.heap.PlainList l items)
    (h0 : 0 ≤ k) (hfit : k < 2 ^ 63) (hn : k < items.size)
    (hQ : ∀ h', h'.PlainList l (items.setIfInBounds k.toNat v) → Heap.SameBut l s.heap h' → Q () { s with heap := h' }) :
    wpAny (model prog w) A (setItem (.ref l) (.int k t) v) Q E s := by
  obtain ⟨ne, ho⟩ := id hl
  have hT := hl.isList.typeIs
  unfold setItem
  try with_reducible refine wpAny_holding ?_
  first | refine wpAny_bind (wpAny_pure ?_) | skip
  refine wpAny_bind (wpAny_sequenceKey hT (by decide) ?_)
  refine wpAny_bind (wpAny_callSpecial?_slot (name := Str.ofString "__setitem__") hT slot_list_setitem
    (wpAny_call_entry slot_list_setitem hT entry_list_setitem ?_ (args_list_setitem _ _ _)))
  show wpAny _ _ (Builtin.List.listSubscript? (.int k t) >>= _) _ _ s
  refine wpAny_bind (wpAny_listSubscript_int (fitsIndex_of h0 hfit) ?_)
  clear hfit
  obtain ⟨j, rfl⟩ := Int.eq_ofNat_of_zero_le h0
  have hj : j < items.size := by omega
  have hx' : items[j]? = some items[j] := Array.getElem?_eq_getElem hj
  show wpAny _ _ ((seqItemAt l j >>= fun r => pure (r.map (j, ·))) >>= _) _ _ s
  refine wpAny_bind (wpAny_bind (wpAny_seqItemAt ho rfl (wpAny_pure ?_)))
  rw [hx']
  show wpAny _ _ (setSeqItemAt l j v >>= _) _ _ s
  have hfin : (s.heap.update l (Obj.mapSeq (·.setIfInBounds j v))).PlainList l (items.setIfInBounds j v) := ⟨_, IsL.update (l := l) ho (·.setIfInBounds j v)⟩
  refine wpAny_bind (wpAny_setSeqItemAt ho rfl ?_)
  first
    | exact wpAny_bind (wpAny_pure (wpAny_pure ⟨.none, rfl, wpAny_pure (hQ _ hfin (Heap.SameBut.update ..))⟩))
    | exact wpAny_pure ⟨.none, rfl, wpAny_pure (hQ _ hfin (Heap.SameBut.update ..))⟩
theorem wx_set {x : Str} {e i : Expr} {np p' pos : Pos} {K : Fl → List Ent → Prop}
    (h : WE prog w g n sc e ρ fun d ρ₁ => ∃ a xs, At ρ₁ x (.lst a xs) ∧ WE prog w g n sc i ρ₁ fun d' ρ₂ => ∃ j ys ρ₃, d' = .int j ∧ 0 ≤ j ∧ j < (ys.length : Int) ∧ ys.length ≤ 2 ^ 20 ∧ Sw ρ₂ x (.lst a ys) (.lst a (ys.set j.toNat d)) ρ₃ ∧ K .next ρ₃)
    (hc : noComp e = true := by rfl) (hd : (x == ("__debug__" : Str)) = false := by decide) (hn : (x == ("__classdict__" : Str)) = false := by decide) :
    WX prog w g n sc (.Assign [.Subscript (.Name x np) i p'] e pos) ρ K := by
  intro env A H s hsc ok hA sr
  refine PySem.wpAny_Assign_Subscript (wpAny_mono (h env A H s hsc ok hA sr) (fun v s1 h1 => ?_) fun _ _ x => x) (swaps_none hc ..)
  obtain ⟨d, ρ1, ⟨a, xs, hx, k1⟩, p1, r1⟩ := h1
  refine load_own ok p1.sr hx ?_ hd hn
  refine wpAny_mono (k1 env A H s1 hsc ok hA p1.sr) (fun v2 s2 h2 => ?_) fun _ _ x => x
  obtain ⟨d2, ρ2, ⟨j, ys, ρ3, rfl, j0, j1, hlen, sw, k⟩, p2, t, rfl⟩ := h2
  obtain ⟨us, hl1, hr1⟩ := p2.sr.own sw.at
  have hul := hr1.length
  refine setItem_plain hl1 j0 (by omega) (by simp; omega) fun h' hl' hs' => ⟨.next, ρ3, k, (p1.trans p2).trans (Post0.mutate (vs' := us.set j.toNat v) p2.sr sw hs' (by simpa using hl') (hr1.set (p2.rd r1)) s2.toks), rfl⟩
theorem we_sub_own {x : Str} {i : Expr} {np pos : Pos} {K : PV → List Ent → Prop} {a : Addr} {xs : List PV} (hx : At ρ x (.lst a xs))
    (h : WE prog w g n sc i ρ fun d' ρ₁ => ∃ j ys d, d' = .int j ∧ At ρ₁ x (.lst a ys) ∧ 0 ≤ j ∧ j < 2 ^ 63 ∧ ys[j.toNat]? = some d ∧ K d ρ₁)
    (hs : ∀ o k, subscripted i false o k = operate [o, k] (getItem o k) := by intro _ _; with_unfolding_all rfl)
    (hd : (x == ("__debug__" : Str)) = false := by decide) (hn : (x == ("__classdict__" : Str)) = false := by decide) : WE prog w g n sc (.Subscript (.Name x np) i pos) ρ K := by
  intro env A H s hsc ok hA sr
  refine Subscript_ (load_own ok sr hx ?_ hd hn)
  refine wpAny_mono (h env A H s hsc ok hA sr) (fun v2 s2 h2 => ?_) fun _ _ x => x
  obtain ⟨d2, ρ2, ⟨j, ys, d, rfl, hy, j0, j1, hj, k⟩, p2, t, rfl⟩ := h2
  obtain ⟨us, hl1, hr1⟩ := p2.sr.own hy
  obtain ⟨v, hv, rv⟩ := hr1.get hj
  exact tail_any hl1.isList.typeIs slot_list_getitem.lookup (wpAny_getItem_list hl1.isList j0 j1 (by simpa using hv) ⟨d, ρ2, k, p2, rv⟩) (hs _ _)
theorem we_len_own {mg mb : Str → Option Value} {x : Str} {np pos p : Pos} {K : PV → List Ent → Prop} {a : Addr} {xs : List PV} (G : GF g mg mb) (hg : sc.names.lookup (Str.ofString "len") = some .globalImplicit) (hv : GV mg mb (Str.ofString "len") (.builtin "len")) (hx : At ρ x (.lst a xs)) (hlen : xs.length ≤ 2 ^ 20)
    (h : K (.int xs.length) ρ) (hd : (x == ("__debug__" : Str)) = false := by decide) (hn : (x == ("__classdict__" : Str)) = false := by decide) : WE prog w g n sc (.Call (.Name (Str.ofString "len") p) [.Name x np] [] pos) ρ K := by
  intro env A H s hsc ok hA sr
  subst hsc
  refine wpAny_Call_NameR (gname G ok sr hg hv (PyProof.Rows.callWith_builtin1 ?_ rfl rfl) (by decide))
  show wpAny _ _ (spliced [(false, eval (.Name x np) env)]) _ _ s
  refine spliced_cons (load_own ok sr hx (wpAny_pure ?_) hd hn)
  obtain ⟨us, hl1, hr1⟩ := sr.own hx
  have hul := hr1.length
  refine call_len_list hl1.isList (by simp; omega) ⟨_, ρ, h, (SR.post sr).grow (Keeps.tok _ _), ?_⟩
  rw [show us.toArray.size = xs.length by simpa using hul]
  exact ⟨_, rfl⟩
end
section
variable {prog : Program} {w : World} {g : Heap} {n : Nat} {sc : Scope} {ρ ρ' : List Ent}
section
variable {P : Params} {env : Env} {H N : Addr → Prop} {h : Heap} {s s₁ s₂ : Shared} {ρ₁ ρ₂ : List Ent}
theorem SR.unhide (x : SR P g env (fun a => H a ∨ N a) ρ h) : SR P g env H ρ h := by
  have hT : ∀ a, Tt env H ρ a → Tt env (fun a => H a ∨ N a) ρ a := fun a ha => ha.imp .inl id
  refine ⟨x.keep, x.nd, fun a ha hc => x.sep a ha (.inl hc), fun a ha => x.dom a (hT a ha), x.names, ?_⟩
  obtain ⟨m, hn, he⟩ := x.ents
  exact ⟨m, hn, fun e hm => (he e hm).other rfl (fun _ _ _ e => e) fun a ha => .inl (hT a ha)⟩
structure PostX (P : Params) (g : Heap) (env : Env) (Hs wr : Addr → Prop) (ρ : List Ent) (s : Shared) (ρ' : List Ent) (s' : Shared) : Prop where
  sr : SR P g env Hs ρ' s'.heap
  same : ∃ h' tk, s' = { s with heap := h', toks := tk }
  keep : ∀ b o, ¬ ((b = env.locals ∨ b ∈ V ρ) ∨ wr b) → s.heap.get? b = some o → s'.heap.get? b = some o
  new : ∀ b, b ∈ V ρ' → b ∈ V ρ ∨ s.heap.get? b = none
  shape : ρ'.map (fun e => (e.x, e.loc)) = ρ.map (fun e => (e.x, e.loc))
noncomputable abbrev PostW (P : Params) (g : Heap) (env : Env) (H wr : Addr → Prop) (ρ : List Ent) (s : Shared) (ρ' : List Ent) (s' : Shared) : Prop := PostX P g env (fun a => H a ∨ wr a) wr ρ s ρ' s'
theorem PostW.start {wr : Addr → Prop} (x : SR P g env (fun a => H a ∨ wr a) ρ s.heap) : PostW P g env H wr ρ s ρ s := ⟨x, ⟨_, _, rfl⟩, fun _ _ _ e => e, fun _ h => .inl h, rfl⟩
theorem PostW.step {wr : Addr → Prop} (p : PostW P g env H wr ρ s ρ₁ s₁) (q : Post0 P g env (fun a => H a ∨ wr a) ρ₁ s₁ ρ₂ s₂) : PostW P g env H wr ρ s ρ₂ s₂ := by
  refine ⟨q.sr, ?_, fun b o hb e => ?_, fun b hb => ?_, q.shape.trans p.shape⟩
  · exact same_trans p.same q.same
  · refine q.keep b o (fun h => ?_) (p.keep b o hb e)
    rcases h with h | h
    · exact hb (.inl (.inl h))
    · rcases p.new b h with h | h
      · exact hb (.inl (.inr h))
      · rw [e] at h; cases h
  · rcases q.new b hb with h | h
    · exact p.new b h
    · cases e : s.heap.get? b with
      | none => exact .inr rfl
      | some o =>
        by_cases hv : b ∈ V ρ
        · exact .inl hv
        · have hL : b ≠ env.locals := fun h => by
            subst h
            exact (List.nodup_cons.mp q.sr.nd).1 hb
          have hw : ¬ wr b := fun hc => q.sr.sep b (.tail _ hb) (.inr hc)
          rw [p.keep b o (fun h => h.elim (fun h => h.elim hL hv) hw) e] at h
          cases h
theorem PostX.start {Hs wr : Addr → Prop} (x : SR P g env Hs ρ s.heap) : PostX P g env Hs wr ρ s ρ s := ⟨x, ⟨_, _, rfl⟩, fun _ _ _ e => e, fun _ h => .inl h, rfl⟩
theorem PostX.comp {Hs Hs' wr W : Addr → Prop} (hsub : ∀ a, wr a → W a) (hW : ∀ a, W a → Hs' a) (p : PostX P g env Hs W ρ s ρ₁ s₁) (q : PostX P g env Hs' wr ρ₁ s₁ ρ₂ s₂) : PostX P g env Hs' W ρ s ρ₂ s₂ := by
  refine ⟨q.sr, ?_, fun b o hb e => ?_, fun b hb => ?_, q.shape.trans p.shape⟩
  · exact same_trans p.same q.same
  · refine q.keep b o (fun h => ?_) (p.keep b o hb e)
    rcases h with (h | h) | h
    · exact hb (.inl (.inl h))
    · rcases p.new b h with h | h
      · exact hb (.inl (.inr h))
      · rw [e] at h; cases h
    · exact hb (.inr (hsub b h))
  · rcases q.new b hb with h | h
    · exact p.new b h
    · cases e : s.heap.get? b with
      | none => exact .inr rfl
      | some o =>
        by_cases hv : b ∈ V ρ
        · exact .inl hv
        · have hL : b ≠ env.locals := fun h => by
            subst h
            exact (List.nodup_cons.mp q.sr.nd).1 hb
          have hw : ¬ W b := fun hc => q.sr.sep b (.tail _ hb) (hW b hc)
          rw [p.keep b o (fun h => h.elim (fun h => h.elim hL hv) hw) e] at h
          cases h
theorem PostX.fin {Hs Hs' wr W : Addr → Prop} (hsub : ∀ a, wr a → W a) (p : PostX P g env Hs W ρ s ρ₁ s₁) (q : PostX P g env Hs' wr ρ₁ s₁ ρ₁ s₂) : PostX P g env Hs' W ρ s ρ₁ s₂ := by
  refine ⟨q.sr, ?_, fun b o hb e => ?_, p.new, p.shape⟩
  · exact same_trans p.same q.same
  · refine q.keep b o (fun h => ?_) (p.keep b o hb e)
    rcases h with (h | h) | h
    · exact hb (.inl (.inl h))
    · rcases p.new b h with h | h
      · exact hb (.inl (.inr h))
      · rw [e] at h; cases h
    · exact hb (.inr (hsub b h))
theorem PostX.of0 {Hs wr : Addr → Prop} (p : Post0 P g env Hs ρ s ρ₁ s₁) : PostX P g env Hs wr ρ s ρ₁ s₁ := ⟨p.sr, p.same, fun b o hb e => p.keep b o (fun h => hb (.inl h)) e, p.new, p.shape⟩
theorem PostX.step {Hs wr : Addr → Prop} (hW : ∀ a, wr a → Hs a) (p : PostX P g env Hs wr ρ s ρ₁ s₁) (q : Post0 P g env Hs ρ₁ s₁ ρ₂ s₂) : PostX P g env Hs wr ρ s ρ₂ s₂ := p.comp (fun _ h => h) hW (PostX.of0 q)
theorem PostX.rdTL {Hs wr : Addr → Prop} (hW : ∀ a, wr a → Hs a) (p : PostX P g env Hs wr ρ s ρ₁ s₁) {d : List PV} {v : List Value} (x : RdL s.heap (Tt env Hs ρ) d v) : RdL s₁.heap (Tt env Hs ρ₁) d v :=
  x.mono (fun a o ha e => p.keep a o (fun h => ha (h.elim .inr fun h => .inl (hW a h))) e) (by
    rintro a (h | h | h)
    · exact .inl (.inl h)
    · exact .inl (.inr (.inl h))
    · exact (p.new a h).imp (fun h => .inr (.inr h)) id)
theorem PostX.un {wr : Addr → Prop} (p : PostW P g env H wr ρ s ρ₁ s₁) : PostX P g env H wr ρ s ρ₁ s₁ := ⟨p.sr.unhide, p.same, p.keep, p.new, p.shape⟩
theorem PostX.out {wr : Addr → Prop} {s₀ : Shared} (p : PostX P g env H wr ρ s ρ₁ s₁) (k : Keeps s₀ s) (hwr : ∀ a, wr a → s₀.heap.get? a = none) : Post0 P g env H ρ s₀ ρ₁ s₁ := by
  refine ⟨p.sr, same_trans (keeps_same k) p.same, fun b o hb e => p.keep b o (fun hc => hc.elim hb fun hw => ?_) (keeps_get k e), fun b hb => (p.new b hb).imp id (keeps_none k), p.shape⟩
  rw [hwr b hw] at e; cases e
theorem PostW.into {wr : Addr → Prop} (p : PostW P g env H wr ρ s ρ₁ s₁) : ∀ a, Tt env (fun a => H a ∨ wr a) ρ₁ a → Tt env (fun a => H a ∨ wr a) ρ a ∨ s.heap.get? a = none := by
  rintro a (h | h | h)
  · exact .inl (.inl h)
  · exact .inl (.inr (.inl h))
  · exact (p.new a h).imp (fun h => .inr (.inr h)) id
theorem PostW.rd {wr : Addr → Prop} (p : PostW P g env H wr ρ s ρ₁ s₁) {d : PV} {v : Value} (x : Rd s.heap (Tt env (fun a => H a ∨ wr a) ρ) d v) : Rd s₁.heap (Tt env (fun a => H a ∨ wr a) ρ₁) d v :=
  x.mono (fun a o ha e => p.keep a o (fun h => ha (h.elim .inr fun h => .inl (.inr h))) e) p.into
end
structure Loop (prog : Program) (w : World) (g : Heap) (env : Env) (A : Around) (H : Addr → Prop) (ρ₀ : List Ent) (s₀ : Shared) (it : Value) (target : Expr) (m : Nat) (wr X : Addr → Prop) (St : Nat → Heap → Prop)
    (B : Nat → List Ent → (List Ent → Prop) → Prop) : Prop where
  frame : ∀ i ρ s h', PostW w.params g env H (fun a => wr a ∨ X a) ρ₀ s₀ ρ s → St i s.heap → (∀ b o, ¬ ((b = env.locals ∨ b ∈ V ρ) ∨ X b) → s.heap.get? b = some o → h'.get? b = some o) → St i h'
  turn : ∀ i ρ s (k : List Ent → Prop), i < m → St i s.heap → PostW w.params g env H (fun a => wr a ∨ X a) ρ₀ s₀ ρ s → B i ρ k →
    wpAny (model prog w) A (pyNext it) (fun r s₁ => ∃ v, r = some v ∧ wpAny (model prog w) A (letOwnedTupleGo target it v) (fun _ s₂ => wpAny (model prog w) A (assign target env v)
      (fun _ s₃ => ∃ ρ', k ρ' ∧ St (i + 1) s₃.heap ∧ PostX w.params g env (fun a => H a ∨ (wr a ∨ X a)) wr ρ s ρ' s₃) noE s₂) noE s₁) noE s
  done : ∀ ρ s, St m s.heap → PostW w.params g env H (fun a => wr a ∨ X a) ρ₀ s₀ ρ s → wpAny (model prog w) A (pyNext it) (fun r s₁ => r = none ∧ PostX w.params g env H wr ρ s ρ s₁) noE s
  self : ∀ s (Q : Value → Shared → Prop), St 0 s.heap → Q it s → wpAny (model prog w) A (pyIter it) Q noE s
variable (prog w g) in
inductive WIr (env : Env) (A : Around) (H : Addr → Prop) (target : Expr) (ρ : List Ent) (s : Shared) (K : Nat → (Nat → List Ent → (List Ent → Prop) → Prop) → List Ent → Prop) (it : Value) (s₂ : Shared) : Prop
  | mk (ρ₁ : List Ent) (m : Nat) (B : Nat → List Ent → (List Ent → Prop) → Prop) (s₁ : Shared) (k : K m B ρ₁) (p : Post0 w.params g env H ρ s ρ₁ s₁) (wr : Addr → Prop) (St : Nat → Heap → Prop) (ks : Keeps s₁ s₂) (st : St 0 s₂.heap)
      (hwr : ∀ a, wr a → s₁.heap.get? a = none ∧ (s₂.heap.get? a).isSome = true)
      (L : ∀ (envc : Env) (Hc X : Addr → Prop) (ρc : List Ent) (s₀ : Shared), EnvOk envc → Keeps s₂ s₀ → SR w.params g envc (fun a => Hc a ∨ (wr a ∨ X a)) ρc s₀.heap → (∀ a, Tt envc Hc ρc a → Tt env H ρ₁ a ∨ s₂.heap.get? a = none) → (∀ a, X a → Tt env H ρ₁ a ∨ s₂.heap.get? a = none) →
        St 0 s₀.heap ∧ Loop prog w g envc A Hc ρc s₀ it target m wr X St B)
variable (prog w g) in
noncomputable def WI (n : Nat) (sc : Scope) (target iter : Expr) (ρ : List Ent) (K : Nat → (Nat → List Ent → (List Ent → Prop) → Prop) → List Ent → Prop) : Prop :=
  ∀ (env : Env) (A : Around) (H : Addr → Prop) (s : Shared), env.scope = sc → EnvOk env → Room n A → SR w.params g env H ρ s.heap →
    wpAny (model prog w) A (eval iter env) (fun x s' => wpAny (model prog w) A (pyIter x) (WIr prog w g env A H target ρ s K) noE s') noE s
inductive ForK (W : List Ent → (Fl → List Ent → Prop) → Prop) (K : Fl → List Ent → Prop) (m : Nat) (B : Nat → List Ent → (List Ent → Prop) → Prop) (ρ₁ : List Ent) : Prop
  | mk (I : Nat → List Ent → Prop) (i0 : I 0 ρ₁) (turn : ∀ i, i < m → ∀ K' : Fl → List Ent → Prop, (∀ ρ, I (i + 1) ρ → K' .next ρ) → (∀ d ρ, K (.ret d) ρ → K' (.ret d) ρ) → ∀ ρ, I i ρ → B i ρ fun ρ' => W ρ' K') (fin : ∀ ρ, I m ρ → K .next ρ)
inductive FI (P : Params) (g : Heap) (env : Env) (H wr : Addr → Prop) (ρ₁ : List Ent) (s₂ : Shared) (m : Nat) (St : Nat → Heap → Prop) (I : Nat → List Ent → Prop) (c : Nat) (s' : Shared) : Prop
  | mk (i : Nat) (ρ' : List Ent) (hc : c = m + 1 - i) (hi : i ≤ m) (k : I i ρ') (st : St i s'.heap) (p : PostW P g env H wr ρ₁ s₂ ρ' s')
theorem wx_for {target iter : Expr} {body : List Stmt} {pos : Pos} {K : Fl → List Ent → Prop}
    (h : WI prog w g n sc target iter ρ (ForK (fun ρ' K' => WS prog w g n sc body ρ' K') K))
    (hs : ∀ env x, foldedSetIterable iter env x = pure x := by intro _ _; rfl) : WX prog w g n sc (.For target iter body [] pos) ρ K := by
  intro env A H s hsc ok hA sr
  refine PySem.wpAny_For (wpAny_mono (h env A H s hsc ok hA sr) (fun x s1 h1 => ?_) fun _ _ x => x) (hs env)
  refine wpAny_mono h1 (fun it s2 h2 => ?_) fun _ _ x => x
  obtain ⟨ρ1, m, B, s1, ⟨I, i0, turn, fin⟩, p1, wr, St, ks, st0, hwr, L⟩ := h2
  have hwr' : ∀ a, (wr a ∨ False) → s1.heap.get? a = none ∧ (s2.heap.get? a).isSome = true := fun a h => h.elim (hwr a) False.elim
  have sr0 : SR w.params g env (fun a => H a ∨ (wr a ∨ False)) ρ1 s2.heap := by
    exact p1.sr.hide (fun b o e => keeps_get ks e) hwr' fun a ha => g_none_of p1.sr (hwr' a ha).1
  obtain ⟨_, L⟩ := L env H (fun _ => False) ρ1 s2 ok (Keeps.refl' _) sr0 (fun _ h => .inl h) fun _ h => h.elim
  refine codeAny_loop' rfl (FI w.params g env H (fun a => wr a ∨ False) ρ1 s2 m St I) ?_ (m + 1) ⟨0, ρ1, rfl, Nat.zero_le _, i0, st0, PostW.start sr0⟩
  rintro c s' ⟨i, ρ2, rfl, hi, hI, hst, p⟩
  show wpAny _ _ ((forTurn target it body [] env).onRaise (fun x => do noteFrame x env; theTreesLotGoes x)) _ _ s'
  refine wpAny_noted ?_
  simp only [forTurn]
  refine wpAny_bind (wpAny_standAt (wpAny_bind (wpAny_onRaise ?_)))
  by_cases hlt : i < m
  · refine wpAny_mono (L.turn i ρ2 s' _ hlt hst p (turn i hlt (After K (I (i + 1))) (fun _ h => h) (fun _ _ h => h) ρ2 hI)) (fun r s3 h3 => ?_) noE_to
    obtain ⟨v, rfl, h3⟩ := h3
    refine wpAny_bind (wpAny_mono h3 (fun _ s4 h4 => wpAny_bind (wpAny_mono h4 (fun _ s5 h5 => ?_) noE_to)) noE_to)
    obtain ⟨ρ3, k3, st3, p3⟩ := h5
    replace p3 : PostW w.params g env H (fun a => wr a ∨ False) ρ1 s2 ρ3 s5 := p.comp (fun a h => .inl h) (fun a h => .inr h) p3
    refine wpAny_bind (wpAny_mono (k3 env A _ s5 hsc ok hA p3.sr) (fun f s6 h6 => ?_) noE_to)
    obtain ⟨fl, ρ4, k4, p4, r4⟩ := h6
    have p5 := p3.step p4
    cases fl with
    | next =>
      have : f = .next := r4
      subst this
      refine wpAny_pure (.inl ⟨rfl, m + 1 - (i + 1), by omega, i + 1, ρ4, rfl, hlt, k4, L.frame _ ρ3 s5 _ p3 st3 (fun b o hb e => p4.keep b o (fun h => hb (.inl h)) e), p5⟩)
    | ret d =>
      obtain ⟨v, rfl, rv⟩ := r4
      refine wpAny_pure ⟨.ret d, ρ4, k4, p1.trans (p5.un.out ks fun a ha => (hwr' a ha).1), v, rfl, rv.mono (fun _ _ _ e => e) fun a ha => .inl (ha.imp .inl id)⟩
  · have him : i = m := by omega
    subst him
    refine wpAny_mono (L.done ρ2 s' hst p) (fun r s3 h3 => ?_) noE_to
    obtain ⟨rfl, p3⟩ := h3
    replace p3 := p.fin (fun a h => .inl h) p3
    exact wpAny_pure (.inr ⟨rfl, codeAny_block (wpAny_execs_nil ⟨.next, ρ2, fin ρ2 hI, p1.trans (p3.out ks fun a ha => (hwr' a ha).1), rfl⟩)⟩)
inductive BName (x : Str) (ds : List PV) (i : Nat) (ρ : List Ent) (k : List Ent → Prop) : Prop
  | mk (d : PV) (ρ' : List Ent) (h : ds[i]? = some d) (p : Put ρ x (.val d) ρ') (c : k ρ')
inductive BTup (x y : Str) (ds : List PV) (i : Nat) (ρ : List Ent) (k : List Ent → Prop) : Prop
  | mk (d₁ d₂ : PV) (ρ₁ ρ₂ : List Ent) (h : ds[i]? = some (.tup [d₁, d₂])) (p : Put ρ x (.val d₁) ρ₁) (q : Put ρ₁ y (.val d₂) ρ₂) (c : k ρ₂)
theorem assign_name {env : Env} {A : Around} {H : Addr → Prop} {s : Shared} {x : Str} {p : Pos} {d : PV} {v : Value} (ok : EnvOk env) (sr : SR w.params g env H ρ s.heap) (hp : Put ρ x (.val d) ρ') (hv : Rd s.heap (Tt env H ρ) d v) :
    wpAny (model prog w) A (assign (.Name x p) env v) (fun _ s' => Post0 w.params g env H ρ s ρ' s') noE s :=
  PySem.wpAny_assign_Name (store_val ok sr hp hv fun _ q => q)
section
variable {env : Env} {H X : Addr → Prop} {ρ₀ : List Ent} {s₀ : Shared} {fp wr : List Addr}
theorem walk_off (hfp : ∀ b ∈ fp, b ∉ wr → ¬ Tt env H ρ₀ b ∧ (s₀.heap.get? b).isSome = true) {Hs : Addr → Prop} (hHs : ∀ b ∈ wr, Hs b) : ∀ ρ s, PostX w.params g env Hs (fun a => a ∈ wr ∨ X a) ρ₀ s₀ ρ s → ∀ b ∈ fp, ¬ (b = env.locals ∨ b ∈ V ρ) := by
  intro ρ s q b hb hc
  have hc' : b ∈ env.locals :: V ρ := List.mem_cons.mpr hc
  by_cases hw : b ∈ wr
  · exact q.sr.sep b hc' (hHs b hw)
  · obtain ⟨h1, h2⟩ := hfp b hb hw
    rcases hc with h | h
    · exact h1 (.inr (.inl h))
    · rcases q.new b h with h | h
      · exact h1 (.inr (.inr h))
      · rw [h] at h2; cases h2
theorem PostX.walked {Hs W : Addr → Prop} {s : Shared} {h' : Heap} {tk : Nat} (q : PostX w.params g env Hs W ρ₀ s₀ ρ s) (hsub : ∀ b ∈ wr, W b) (hoff : ∀ b ∈ wr, b ∉ env.locals :: V ρ) (hk : ∀ b o, b ∉ wr → s.heap.get? b = some o → h'.get? b = some o)
    (hg : ∀ b ∈ wr, g.get? b = none) (hT : ∀ b ∈ wr, Tt env Hs ρ b) {Hs' : Addr → Prop} (hH : ∀ a, Hs' a → Hs a) (hd : ∀ b ∈ wr, Hs' b → (h'.get? b).isSome = true) : PostX w.params g env Hs' W ρ₀ s₀ ρ { s with heap := h', toks := tk } := by
  refine ⟨⟨fun a o e => hk a o (fun hw => ?_) (q.sr.keep a o e), q.sr.nd, fun a ha hc => q.sr.sep a ha (hH a hc), fun a ha => ⟨?_, ?_⟩, q.sr.names, ?_⟩, ?_, fun b o hb e => hk b o (fun hw => hb (.inr (hsub b hw))) (q.keep b o hb e), q.new, q.shape⟩
  · rw [hg a hw] at e; cases e
  · by_cases hw : a ∈ wr
    · rcases ha with h | h
      · exact hd a hw h
      · exact absurd (List.mem_cons.mpr h) (hoff a hw)
    · obtain ⟨o, ho⟩ := Option.isSome_iff_exists.mp (q.sr.dom a (ha.imp (hH a) id)).1
      show (h'.get? a).isSome = true
      rw [hk a o hw ho]; rfl
  · exact (q.sr.dom a (ha.imp (hH a) id)).2
  · obtain ⟨mm, hn, he⟩ := q.sr.ents
    refine ⟨mm, hn.at' fun o e => hk _ o (fun hw => hoff _ hw (.head _)) e, fun e hm => (he e hm).other rfl (fun a o ha e' => hk a o (fun hw => ?_) e') fun a ha => .inl (ha.imp (hH a) id)⟩
    rcases ha with h | h
    · exact h (hT a hw)
    · exact hoff a hw (.tail _ (fp_sub hm h))
  · obtain ⟨h1, t1, rfl⟩ := q.same
    exact ⟨h', tk, rfl⟩
end
theorem loop_name {env : Env} {A : Around} {H : Addr → Prop} {ρ₀ : List Ent} {s₀ : Shared} {I : Addr} {x : Str} {p : Pos} {m : Nat} {fp wr : List Addr} {X : Addr → Prop} {Pi : Nat → Value → Prop} {St : Nat → Heap → Prop} {ds : List PV}
    (W : Walks prog w A I fp wr m Pi St) (ok : EnvOk env) (hfp : ∀ b ∈ fp, b ∉ wr → ¬ Tt env H ρ₀ b ∧ (s₀.heap.get? b).isSome = true)
    (hdom : ∀ i h, St i h → ∀ b ∈ wr, (h.get? b).isSome = true) (hdis : ∀ b ∈ wr, ¬ H b) (hX : ∀ b ∈ fp, ¬ X b)
    (hit : ∀ i v, i < m → Pi i v → ∃ d, ds[i]? = some d ∧ Rd s₀.heap (Tt env (fun a => H a ∨ (a ∈ wr ∨ X a)) ρ₀) d v) :
    Loop prog w g env A H ρ₀ s₀ (.ref I) (.Name x p) m (· ∈ wr) X St (BName x ds) := by
  have off := walk_off (w := w) (g := g) (s₀ := s₀) hfp (Hs := fun a => H a ∨ (a ∈ wr ∨ X a)) (X := X) fun b hb => .inr (.inl hb)
  refine ⟨fun i ρ s h' q st hk => W.frame i _ _ st fun b hb o e => hk b o (fun hc => hc.elim (off ρ s q b hb) (hX b hb)) e, ?_, ?_, fun s Q st q => W.self 0 s Q noE st q⟩
  · rintro i ρ s k hi st q ⟨d, ρ', hd, hput, hk⟩
    have hoff : ∀ b ∈ wr, b ∉ env.locals :: V ρ := fun b hb hc => q.sr.sep b hc (.inr (.inl hb))
    refine W.item i s _ _ hi st fun v h' tk hP st' hkp => ⟨v, rfl, ?_⟩
    have r1 : PostX w.params g env (fun a => H a ∨ (a ∈ wr ∨ X a)) (· ∈ wr) ρ s ρ { s with heap := h', toks := tk }:= (PostX.start q.sr).walked (fun _ h => h) hoff hkp (fun b hb => (q.sr.dom b (.inl (.inr (.inl hb)))).2) (fun b hb => .inl (.inr (.inl hb))) (fun _ h => h) fun b hb _ => hdom _ _ st' b hb
    have q1 : PostW w.params g env H (fun a => a ∈ wr ∨ X a) ρ₀ s₀ ρ { s with heap := h', toks := tk }:= q.comp (fun _ h => .inl h) (fun _ h => .inr h) r1
    obtain ⟨d', hd', hr⟩ := hit i v hi hP
    rw [hd] at hd'; cases hd'
    refine wpAny_pure (wpAny_mono (assign_name ok q1.sr hput (q1.rd hr)) (fun _ s3 h3 => ?_) fun _ _ x => x)
    have q3 := r1.step (fun a h => .inr (.inl h)) h3
    exact ⟨ρ', hk, W.frame _ _ _ st' fun b hb o e => h3.keep b o (off ρ _ q1 b hb) e, q3⟩
  · intro ρ s st q
    have hoff : ∀ b ∈ wr, b ∉ env.locals :: V ρ := fun b hb hc => q.sr.sep b hc (.inr (.inl hb))
    refine W.done s _ _ st fun h' tk hkp => ⟨rfl, ?_⟩
    exact (PostX.start q.sr).walked (fun _ h => h) hoff hkp (fun b hb => (q.sr.dom b (.inl (.inr (.inl hb)))).2) (fun b hb => .inl (.inr (.inl hb))) (fun _ h => .inl h) fun b hb hc => absurd hc (hdis b hb)
theorem assign_tup {env : Env} {A : Around} {H : Addr → Prop} {s : Shared} {x y : Str} {p p' p'' : Pos} {k : Nat} {d₁ d₂ : PV} {ρ₁ ρ₂ : List Ent} {t : Addr} {vs : List Value} (ok : EnvOk env) (hh : A.handled = none) (sr : SR w.params g env H ρ s.heap)
    (ht : s.heap.IsTuple t vs.toArray) (hv : RdL s.heap (Tt env H ρ) [d₁, d₂] vs) (hp : Put ρ x (.val d₁) ρ₁) (hp' : Put ρ₁ y (.val d₂) ρ₂) :
    wpAny (model prog w) A (assign (.Tuple [.Name x p, .Name y p'] k p'') env (.ref t)) (fun _ s' => Post0 w.params g env H ρ s ρ₂ s') noE s := by
  obtain ⟨v1, r1, rfl, h1, v2, r2, rfl, h2, rfl⟩ := hv
  refine PySem.wpAny_assign_Tuple hh ht rfl rfl fun h' hk => ?_
  have ks : Keeps s { s with heap := h' } := ⟨h', s.toks, rfl, fun b o e => hk b o (fun hb => by rw [hb] at e; rw [get_size_none] at e; cases e) e⟩
  have q0 : Post0 w.params g env H ρ s ρ { s with heap := h' } := (SR.post sr).grow ks
  show wpAny _ _ (do holding [v2] (assign (.Name x p) env v1); assignInOrder [assign (.Name y p') env] [v2]) _ _ _
  refine wpAny_bind (wpAny_holding (wpAny_mono (assign_name ok q0.sr hp (q0.rd h1)) (fun _ s2 q1 => ?_) fun _ _ x => x))
  show wpAny _ _ (do holding [] (assign (.Name y p') env v2); assignInOrder [] []) _ _ _
  refine wpAny_bind (wpAny_holding (wpAny_mono (assign_name ok q1.sr hp' (q1.rd (q0.rd h2))) (fun _ s3 q2 => wpAny_pure ((q0.trans q1).trans q2)) fun _ _ x => x))
theorem loop_tup {env : Env} {A : Around} {H : Addr → Prop} {ρ₀ : List Ent} {s₀ : Shared} {I l : Addr} {x y : Str} {p p' p'' : Pos} {k : Nat} {X : Addr → Prop} {items : List Value} {ds : List PV} (hh : A.handled = none)
    (ok : EnvOk env) (hl : ¬ Tt env H ρ₀ l ∧ (s₀.heap.get? l).isSome = true) (hne : l ≠ I) (hdis : ¬ H I) (hX : ∀ b ∈ [I, l], ¬ X b)
    (hit : RdL s₀.heap (Tt env (fun a => H a ∨ (a ∈ [I] ∨ X a)) ρ₀) ds items) :
    Loop prog w g env A H ρ₀ s₀ (.ref I) (.Tuple [.Name x p, .Name y p'] k p'') ds.length (· ∈ [I]) X (fun i h => h.IsListIter I l i ∧ h.IsList l items.toArray) (BTup x y ds) := by
  have W := Walks.list (prog := prog) (w := w) hh I l hne items.toArray
  have hlen : items.toArray.size = ds.length := by simpa using hit.length
  rw [hlen] at W
  have off := walk_off (w := w) (g := g) (s₀ := s₀) (fp := [I, l]) (wr := [I]) (H := H) (env := env) (ρ₀ := ρ₀) (fun b hb hw => by
    rcases List.mem_cons.mp hb with rfl | hb
    · exact absurd (.head _) hw
    · rw [List.mem_singleton.mp hb]; exact hl) (Hs := fun a => H a ∨ (a ∈ [I] ∨ X a)) (X := X) fun b hb => .inr (.inl hb)
  refine ⟨fun i ρ s h' q st hk => W.frame i _ _ st fun b hb o e => hk b o (fun hc => hc.elim (off ρ s q b hb) (hX b hb)) e, ?_, ?_, fun s Q st q => W.self 0 s Q noE st q⟩
  · rintro i ρ s kk hi st q ⟨d1, d2, ρ1, ρ2, hd, hp, hp', hk⟩
    have hoff : ∀ b ∈ [I], b ∉ env.locals :: V ρ := fun b hb hc => q.sr.sep b hc (.inr (.inl hb))
    refine W.item i s _ _ hi st fun v h' tk hP st' hkp => ⟨v, rfl, ?_⟩
    have r1 : PostX w.params g env (fun a => H a ∨ (a ∈ [I] ∨ X a)) (· ∈ [I]) ρ s ρ { s with heap := h', toks := tk }:= (PostX.start q.sr).walked (fun _ h => h) hoff hkp (fun b hb => (q.sr.dom b (.inl (.inr (.inl hb)))).2) (fun b hb => .inl (.inr (.inl hb))) (fun _ h => h) fun b hb _ => by
      rw [List.mem_singleton.mp hb]
      obtain ⟨⟨o, ho, _⟩, _⟩ := st'
      rw [ho]; rfl
    have q1 : PostW w.params g env H (fun a => a ∈ [I] ∨ X a) ρ₀ s₀ ρ { s with heap := h', toks := tk }:= q.comp (fun _ h => .inl h) (fun _ h => .inr h) r1
    obtain ⟨v', hv', hr⟩ := hit.get hd
    have hP' : items[i]? = some v := by simpa using hP
    rw [hP'] at hv'; cases hv'
    obtain ⟨t, vs, rfl, _, ht, hvs⟩ := q1.rd hr
    refine wpAny_letOwnedTupleGo_listiter st'.1 ?_
    refine wpAny_mono (assign_tup (x := x) (y := y) (p := p) (p' := p') (p'' := p'') (k := k) ok hh q1.sr ht.isTuple hvs hp hp') (fun _ s3 h3 => ?_) fun _ _ x => x
    exact ⟨ρ2, hk, W.frame _ _ _ st' fun b hb o e => h3.keep b o (off ρ _ q1 b hb) e, r1.step (fun a h => .inr (.inl h)) h3⟩
  · intro ρ s st q
    have hoff : ∀ b ∈ [I], b ∉ env.locals :: V ρ := fun b hb hc => q.sr.sep b hc (.inr (.inl hb))
    refine W.done s _ _ st fun h' tk hkp => ⟨rfl, ?_⟩
    exact (PostX.start q.sr).walked (fun _ h => h) hoff hkp (fun b hb => (q.sr.dom b (.inl (.inr (.inl hb)))).2) (fun b hb => .inl (.inr (.inl hb))) (fun _ h => .inl h) fun b hb hc => absurd hc (by rw [List.mem_singleton.mp hb]; exact hdis)
theorem loop_walksT {env : Env} {A : Around} {H : Addr → Prop} {ρ₀ : List Ent} {s₀ : Shared} {I : Addr} {x y : Str} {p p' p'' : Pos} {kk : Nat} {m : Nat} {fp wr : List Addr} {X : Addr → Prop} {Pt : Nat → Array Value → Prop} {St : Nat → Heap → Prop} {Mid : Nat → Addr → Heap → Prop} {ds : List PV} (hh : A.handled = none)
    (W : WalksT prog w A I fp wr m Pt St Mid) (ok : EnvOk env) (hfp : ∀ b ∈ fp, b ∉ wr → ¬ Tt env H ρ₀ b ∧ (s₀.heap.get? b).isSome = true)
    (hdom : ∀ i h, St i h → ∀ b ∈ wr, (h.get? b).isSome = true) (hmid : ∀ i t h, Mid i t h → ∀ b ∈ wr, (h.get? b).isSome = true) (hdis : ∀ b ∈ wr, ¬ H b) (hX : ∀ b ∈ fp, ¬ X b)
    (hit : ∀ i vals, i < m → Pt i vals → ∃ d₁ d₂ v₁ v₂, ds[i]? = some (.tup [d₁, d₂]) ∧ vals = #[v₁, v₂] ∧ Rd s₀.heap (Tt env (fun a => H a ∨ (a ∈ wr ∨ X a)) ρ₀) d₁ v₁ ∧ Rd s₀.heap (Tt env (fun a => H a ∨ (a ∈ wr ∨ X a)) ρ₀) d₂ v₂) :
    Loop prog w g env A H ρ₀ s₀ (.ref I) (.Tuple [.Name x p, .Name y p'] kk p'') m (· ∈ wr) X St (BTup x y ds) := by
  have off := walk_off (w := w) (g := g) (s₀ := s₀) hfp (Hs := fun a => H a ∨ (a ∈ wr ∨ X a)) (X := X) fun b hb => .inr (.inl hb)
  refine ⟨fun i ρ s h' q st hk => W.frame i _ _ st fun b hb o e => hk b o (fun hc => hc.elim (off ρ s q b hb) (hX b hb)) e, ?_, ?_, fun s Q st q => W.self 0 s Q noE st q⟩
  · rintro i ρ s k hi st q ⟨d1, d2, ρ1, ρ2, hd, hp, hp', hk⟩
    have hoff : ∀ b ∈ wr, b ∉ env.locals :: V ρ := fun b hb hc => q.sr.sep b hc (.inr (.inl hb))
    refine W.item i s _ _ hi st fun T vals h' tk hP hT htup hm hkp => ⟨.ref T, rfl, ?_⟩
    have r1 : PostX w.params g env (fun a => H a ∨ (a ∈ wr ∨ X a)) (· ∈ wr) ρ s ρ { s with heap := h', toks := tk }:= (PostX.start q.sr).walked (fun _ h => h) hoff hkp (fun b hb => (q.sr.dom b (.inl (.inr (.inl hb)))).2) (fun b hb => .inl (.inr (.inl hb))) (fun _ h => h) fun b hb _ => hmid _ _ _ hm b hb
    have q1 : PostW w.params g env H (fun a => a ∈ wr ∨ X a) ρ₀ s₀ ρ { s with heap := h', toks := tk }:= q.comp (fun _ h => .inl h) (fun _ h => .inr h) r1
    have hTw := W.apart _ _ _ hm
    refine W.go _ _ _ i T _ _ _ hm fun h2 st2 hk2 => ?_
    have r2 : PostX w.params g env (fun a => H a ∨ (a ∈ wr ∨ X a)) (· ∈ wr) ρ s ρ { s with heap := h2, toks := tk }:= r1.walked (fun _ h => h) (fun b hb hc => q1.sr.sep b hc (.inr (.inl hb))) hk2 (fun b hb => (q.sr.dom b (.inl (.inr (.inl hb)))).2) (fun b hb => .inl (.inr (.inl hb))) (fun _ h => h) fun b hb _ => hdom _ _ st2 b hb
    have q2 : PostW w.params g env H (fun a => a ∈ wr ∨ X a) ρ₀ s₀ ρ { s with heap := h2, toks := tk }:= q.comp (fun _ h => .inl h) (fun _ h => .inr h) r2
    obtain ⟨e1, e2, v1, v2, hd', rfl, hr1, hr2⟩ := hit i vals hi hP
    rw [hd] at hd'; cases hd'
    have htup2 : h2.IsTuple T [v1, v2].toArray := htup.at fun o e => hk2 T o hTw e
    refine wpAny_mono (assign_tup (x := x) (y := y) (p := p) (p' := p') (p'' := p'') (k := kk) ok hh q2.sr htup2 ⟨v1, _, rfl, q2.rd hr1, v2, _, rfl, q2.rd hr2, rfl⟩ hp hp') (fun _ s3 h3 => ?_) fun _ _ x => x
    exact ⟨ρ2, hk, W.frame _ _ _ st2 fun b hb o e => h3.keep b o (off ρ _ q2 b hb) e, r2.step (fun a h => .inr (.inl h)) h3⟩
  · intro ρ s st q
    have hoff : ∀ b ∈ wr, b ∉ env.locals :: V ρ := fun b hb hc => q.sr.sep b hc (.inr (.inl hb))
    refine W.done s _ _ st fun h' tk hkp => ⟨rfl, ?_⟩
    exact (PostX.start q.sr).walked (fun _ h => h) hoff hkp (fun b hb => (q.sr.dom b (.inl (.inr (.inl hb)))).2) (fun b hb => .inl (.inr (.inl hb))) (fun _ h => .inl h) fun b hb hc => absurd hc (hdis b hb)
theorem Tt_split {envc : Env} {Hc wr : Addr → Prop} {ρc : List Ent} {a : Addr} (h : Tt envc (fun a => Hc a ∨ wr a) ρc a) : Tt envc Hc ρc a ∨ wr a := by
  rcases h with (h | h) | h
  · exact .inl (.inl h)
  · exact .inr h
  · exact .inl (.inr h)
theorem src_into {env envc : Env} {H Hc wr : Addr → Prop} {ρ₁ ρc : List Ent} {s₁ s₂ : Shared} (k : Keeps s₁ s₂) (hT : ∀ a, Tt envc Hc ρc a → Tt env H ρ₁ a ∨ s₂.heap.get? a = none) (hwr : ∀ a, wr a → Tt env H ρ₁ a ∨ s₁.heap.get? a = none) :
    ∀ a, Tt envc (fun a => Hc a ∨ wr a) ρc a → Tt env H ρ₁ a ∨ s₁.heap.get? a = none := by
  intro a ha
  rcases Tt_split ha with h | h
  · exact (hT a h).imp id fun h => keeps_none k h
  · exact hwr a h
theorem src_rd {env envc : Env} {H Hc wr : Addr → Prop} {ρ₁ ρc : List Ent} {s₁ s₂ s₀ : Shared} (k : Keeps s₁ s₂) (k0 : Keeps s₂ s₀) (hT : ∀ a, Tt envc Hc ρc a → Tt env H ρ₁ a ∨ s₂.heap.get? a = none) (hwr : ∀ a, wr a → Tt env H ρ₁ a ∨ s₁.heap.get? a = none)
    {d : PV} {v : Value} (r : Rd s₁.heap (Tt env H ρ₁) d v) : Rd s₀.heap (Tt envc (fun a => Hc a ∨ wr a) ρc) d v :=
  r.mono (fun a o _ e => keeps_get (Keeps.trans' k k0) e) (src_into k hT hwr)
theorem src_rdL {env envc : Env} {H Hc wr : Addr → Prop} {ρ₁ ρc : List Ent} {s₁ s₂ s₀ : Shared} (k : Keeps s₁ s₂) (k0 : Keeps s₂ s₀) (hT : ∀ a, Tt envc Hc ρc a → Tt env H ρ₁ a ∨ s₂.heap.get? a = none) (hwr : ∀ a, wr a → Tt env H ρ₁ a ∨ s₁.heap.get? a = none)
    {d : List PV} {v : List Value} (r : RdL s₁.heap (Tt env H ρ₁) d v) : RdL s₀.heap (Tt envc (fun a => Hc a ∨ wr a) ρc) d v :=
  r.mono (fun a o _ e => keeps_get (Keeps.trans' k k0) e) (src_into k hT hwr)
theorem wi_list {x : Str} {p : Pos} {iter : Expr} {K : Nat → (Nat → List Ent → (List Ent → Prop) → Prop) → List Ent → Prop} (h : WE prog w g n sc iter ρ fun d ρ₁ => OfList d fun ds => K ds.length (BName x ds) ρ₁) :
    WI prog w g n sc (.Name x p) iter ρ K := by
  intro env A H s hsc ok hA sr
  refine wpAny_mono (h env A H s hsc ok hA sr) (fun v s1 h1 => ?_) fun _ _ x => x
  obtain ⟨d, ρ1, ⟨ds, rfl, k1⟩, p1, l, vs, rfl, hlT, ⟨nn, hl⟩, hr⟩ := h1
  have hlen := hr.length
  refine wpAny_pyIter_list (items := vs.toArray) ⟨_, hl, rfl, nn, rfl⟩ ?_
  have hlt : l ≠ s1.heap.objs.size := Nat.ne_of_lt (Heap.lt_size hl)
  have ks := Keeps.push s1 { cls := .type "list_iterator", data := .fields #[.ref l, .int 0 0] }
  refine ⟨ρ1, ds.length, _, s1, k1, p1, (· ∈ [s1.heap.objs.size]), fun i h => h.IsListIter s1.heap.objs.size l i ∧ h.IsList l vs.toArray, ks, ⟨⟨_, Heap.get?_push_size _ rfl, rfl, rfl⟩, ⟨_, Heap.get?_push_of_some _ hl, rfl, nn, rfl⟩⟩, fun a ha => ?_, ?_⟩
  · rw [List.mem_singleton.mp ha]
    exact ⟨get_size_none _, by rw [Heap.get?_push_size _ rfl]; rfl⟩
  · intro envc Hc X ρc s0 okc k0 src hT hXn
    have W := Walks.list (prog := prog) (w := w) hA.1 s1.heap.objs.size l hlt vs.toArray
    rw [show vs.toArray.size = ds.length by simpa using hlen] at W
    have hl0 : s0.heap.get? l = some _ := keeps_get k0 (Heap.get?_push_of_some _ hl)
    have hi0 := keeps_get k0 (s₁ := { s1 with heap := s1.heap.push { cls := .type "list_iterator", data := .fields #[.ref l, .int 0 0] } }) (Heap.get?_push_size (o := { cls := .type "list_iterator", data := .fields #[.ref l, .int 0 0] }) s1.heap rfl)
    refine ⟨⟨⟨_, hi0, rfl, rfl⟩, ⟨_, hl0, rfl, nn, rfl⟩⟩, loop_name W okc (fun b hb hw => ?_) (fun i h st b hb => ?_) (fun b hb hc => ?_) (fun b hb hc => ?_) fun i v hi hP => ?_⟩
    · rcases List.mem_cons.mp hb with rfl | hb
      · exact absurd (.head _) hw
      · rw [List.mem_singleton.mp hb]
        refine ⟨fun hc => ?_, by rw [hl0]; rfl⟩
        rcases hT l hc with h | h
        · exact hlT h
        · rw [Heap.get?_push_of_some _ hl] at h; cases h
    · rw [List.mem_singleton.mp hb]
      obtain ⟨⟨o, ho, _⟩, _⟩ := st
      rw [ho]; rfl
    · rw [List.mem_singleton.mp hb] at hc
      rcases hT _ (.inl hc) with h | h
      · exact p1.sr.off h
      · rw [Heap.get?_push_size _ rfl] at h; cases h
    · rcases hXn b hc with h | this
      · rcases List.mem_cons.mp hb with rfl | hb
        · exact p1.sr.off h
        · rw [List.mem_singleton.mp hb] at h; exact hlT h
      · rcases List.mem_cons.mp hb with rfl | hb
        · rw [Heap.get?_push_size _ rfl] at this; cases this
        · rw [List.mem_singleton.mp hb, Heap.get?_push_of_some _ hl] at this; cases this
    · have hP' : vs[i]? = some v := by simpa using hP
      obtain ⟨d, hd⟩ : ∃ d, ds[i]? = some d := ⟨_, List.getElem?_eq_getElem hi⟩
      obtain ⟨v', hv', rv⟩ := hr.get hd
      rw [hP'] at hv'; cases hv'
      exact ⟨d, hd, src_rd ks k0 hT (fun a (ha : a ∈ [s1.heap.objs.size] ∨ X a) => ha.elim (fun ha => .inr (by rw [List.mem_singleton.mp ha]; exact get_size_none _)) fun h => (hXn a h).imp id (keeps_none ks)) rv⟩
theorem wi_pairs {x y : Str} {p p' p'' : Pos} {kk : Nat} {iter : Expr} {K : Nat → (Nat → List Ent → (List Ent → Prop) → Prop) → List Ent → Prop} (h : WE prog w g n sc iter ρ fun d ρ₁ => OfList d fun ds => K ds.length (BTup x y ds) ρ₁) :
    WI prog w g n sc (.Tuple [.Name x p, .Name y p'] kk p'') iter ρ K := by
  intro env A H s hsc ok hA sr
  refine wpAny_mono (h env A H s hsc ok hA sr) (fun v s1 h1 => ?_) fun _ _ x => x
  obtain ⟨d, ρ1, ⟨ds, rfl, k1⟩, p1, l, vs, rfl, hlT, ⟨nn, hl⟩, hr⟩ := h1
  refine wpAny_pyIter_list (items := vs.toArray) ⟨_, hl, rfl, nn, rfl⟩ ?_
  have hlt : l ≠ s1.heap.objs.size := Nat.ne_of_lt (Heap.lt_size hl)
  have ks := Keeps.push s1 { cls := .type "list_iterator", data := .fields #[.ref l, .int 0 0] }
  refine ⟨ρ1, ds.length, _, s1, k1, p1, (· ∈ [s1.heap.objs.size]), fun i h => h.IsListIter s1.heap.objs.size l i ∧ h.IsList l vs.toArray, ks, ⟨⟨_, Heap.get?_push_size _ rfl, rfl, rfl⟩, ⟨_, Heap.get?_push_of_some _ hl, rfl, nn, rfl⟩⟩, fun a ha => ?_, ?_⟩
  · rw [List.mem_singleton.mp ha]
    exact ⟨get_size_none _, by rw [Heap.get?_push_size _ rfl]; rfl⟩
  · intro envc Hc X ρc s0 okc k0 src hT hXn
    have hl0 : s0.heap.get? l = some _ := keeps_get k0 (Heap.get?_push_of_some _ hl)
    have hi0 := keeps_get k0 (s₁ := { s1 with heap := s1.heap.push { cls := .type "list_iterator", data := .fields #[.ref l, .int 0 0] } }) (Heap.get?_push_size (o := { cls := .type "list_iterator", data := .fields #[.ref l, .int 0 0] }) s1.heap rfl)
    refine ⟨⟨⟨_, hi0, rfl, rfl⟩, ⟨_, hl0, rfl, nn, rfl⟩⟩, loop_tup hA.1 okc ⟨fun hc => ?_, by rw [hl0]; rfl⟩ hlt (fun hc => ?_) (fun b hb hc => ?_) (src_rdL ks k0 hT (fun a (ha : a ∈ [s1.heap.objs.size] ∨ X a) => ha.elim (fun ha => .inr (by rw [List.mem_singleton.mp ha]; exact get_size_none _)) fun h => (hXn a h).imp id (keeps_none ks)) hr)⟩
    · rcases hT l hc with h | h
      · exact hlT h
      · rw [Heap.get?_push_of_some _ hl] at h; cases h
    · rcases hT _ (.inl hc) with h | h
      · exact p1.sr.off h
      · rw [Heap.get?_push_size _ rfl] at h; cases h
    · rcases hXn b hc with h | this
      · rcases List.mem_cons.mp hb with rfl | hb
        · exact p1.sr.off h
        · rw [List.mem_singleton.mp hb] at h; exact hlT h
      · rcases List.mem_cons.mp hb with rfl | hb
        · rw [Heap.get?_push_size _ rfl] at this; cases this
        · rw [List.mem_singleton.mp hb, Heap.get?_push_of_some _ hl] at this; cases this
noncomputable def rangePV (a c : Int) (m : Nat) : List PV := (List.range m).map fun i => .int (a + (i : Nat) * c)
theorem rangePV_get {a c : Int} {m i : Nat} (h : i < m) : (rangePV a c m)[i]? = some (.int (a + (i : Nat) * c)) := by simp [rangePV, h]
theorem range_src {x : Str} {p : Pos} {env : Env} {A : Around} {H : Addr → Prop} {s s₁ : Shared} {ρ₁ : List Ent} {r : Addr} {a b c : Int} {t u v : Tok} {K : Nat → (Nat → List Ent → (List Ent → Prop) → Prop) → List Ent → Prop} (hA : Room n A)
    (p1 : Post0 w.params g env H ρ s ρ₁ s₁) (hr : IsRange s₁.heap r a b c t u v) (hsm : Builtin.Range.small a b c = true) (h : K (Builtin.Range.rangeSize a b c).toNat (BName x (rangePV a c (Builtin.Range.rangeSize a b c).toNat)) ρ₁) (h0 : 0 ≤ Builtin.Range.rangeSize a b c) :
    wpAny (model prog w) A (pyIter (.ref r)) (WIr prog w g env A H (.Name x p) ρ s K) noE s₁ := by
  refine wpAny_pyIter_range hr hsm ?_
  obtain ⟨m, hm⟩ := Int.eq_ofNat_of_zero_le h0
  rw [hm] at h ⊢
  have ks := Keeps.push s₁ { cls := .type "range_iterator", data := .fields #[rawInt a, rawInt (m : Int), rawInt c] }
  have hit : ∀ hp : Heap, IsRangeIter (hp.push { cls := .type "range_iterator", data := .fields #[rawInt a, rawInt (m : Int), rawInt c] }) hp.objs.size (a + ((0 : Nat) : Int) * c) ((m : Int) - ((0 : Nat) : Int)) c := by
    intro hp
    have e1 : a + ((0 : Nat) : Int) * c = a := by simp
    have e2 : (m : Int) - ((0 : Nat) : Int) = m := by simp
    rw [e1, e2]
    exact Heap.get?_push_size _ rfl
  refine ⟨ρ₁, m, _, s₁, h, p1, (· ∈ [s₁.heap.objs.size]), fun i h => IsRangeIter h s₁.heap.objs.size (a + (i : Nat) * c) ((m : Int) - (i : Nat)) c, ks, hit _, fun a ha => ?_, ?_⟩
  · rw [List.mem_singleton.mp ha]
    exact ⟨get_size_none _, by rw [Heap.get?_push_size _ rfl]; rfl⟩
  · intro envc Hc X ρc s0 okc k0 src hT hXn
    have W := Walks.range (prog := prog) (w := w) hA.1 s₁.heap.objs.size a c m
    refine ⟨keeps_get k0 (hit s₁.heap), loop_name W okc (fun b hb hw => absurd hb hw) (fun i h st b hb => ?_) (fun b hb hc => ?_) (fun b hb hc => ?_) fun i v hi hP => ?_⟩
    · rw [List.mem_singleton.mp hb]
      have : h.get? s₁.heap.objs.size = some _ := st
      rw [this]; rfl
    · rw [List.mem_singleton.mp hb] at hc
      rcases hT _ (.inl hc) with h | h
      · exact p1.sr.off h
      · rw [Heap.get?_push_size _ rfl] at h; cases h
    · rcases hXn b hc with h | this
      · rw [List.mem_singleton.mp hb] at h; exact p1.sr.off h
      · rw [List.mem_singleton.mp hb, Heap.get?_push_size _ rfl] at this; cases this
    · obtain ⟨t, rfl⟩ := hP
      exact ⟨_, rangePV_get hi, _, rfl⟩
variable {mg mb : Str → Option Value}
theorem anyStar {env : Env} {pos : Pos} : ∀ l : List Expr, l.all plainE = true → (backTo pos (starEach l env)).any (·.1) = false := by
  intro l
  induction l with
  | nil => intro _; rfl
  | cons a l ih =>
    intro h
    rw [List.all_cons, Bool.and_eq_true] at h
    rw [starEach_plain h.1]
    show (false || (backTo pos (starEach l env)).any (·.1)) = false
    rw [ih h.2]; rfl
theorem type_call {x : Str} {T : String} {e : Expr} {r : List Expr} {p pos : Pos} {env : Env} {A : Around} {H : Addr → Prop} {s : Shared} {Q : Value → Shared → Prop} {K : List PV → List Ent → Prop} (G : GF g mg mb) (hx : sc.names.lookup x = some .globalImplicit) (hv : GV mg mb x (.type T))
    (hsc : env.scope = sc) (ok : EnvOk env) (hA : Room n A) (sr : SR w.params g env H ρ s.heap) (h : WEL prog w g n sc (e :: r) ρ K)
    (hQ : ∀ ds ρ₁ s₁ vs, K ds ρ₁ → Post0 w.params g env H ρ s ρ₁ s₁ → RdL s₁.heap (Tt env H ρ₁) ds vs → wpAny (model prog w) A (call (.type T) vs) Q noE s₁)
    (hp : (e :: r).all plainE = true := by rfl) (hd : (x == ("__debug__" : Str)) = false := by decide) : wpAny (model prog w) A (eval (.Call (.Name x p) (e :: r) [] pos) env) Q noE s := by
  subst hsc
  have hp1 : plainE e = true := (Bool.and_eq_true_iff.mp hp).1
  have hp2 : r.all plainE = true := (Bool.and_eq_true_iff.mp hp).2
  refine wpAny_Call_NameR (gname G ok sr hx hv (PyProof.Rows.callWith_type1 (wpAny_mono (h env A H s pos rfl ok hA sr) (fun vs s1 h1 => ?_) fun _ _ x => x) (starEach_plain hp1) (anyStar r hp2)) hd)
  obtain ⟨ds, ρ1, k1, p1, r1⟩ := h1
  exact hQ ds ρ1 s1 vs k1 p1 r1
theorem wel1 {e : Expr} {K : List PV → List Ent → Prop} (h : WE prog w g n sc e ρ fun d ρ₁ => K [d] ρ₁) (hp : plainE e = true) : WEL prog w g n sc [e] ρ K := wel_cons (h.mono fun _ _ k => wel_nil k) hp
theorem wel2 {e e' : Expr} {K : List PV → List Ent → Prop} (h : WE prog w g n sc e ρ fun d ρ₁ => WE prog w g n sc e' ρ₁ fun d' ρ₂ => K [d, d'] ρ₂) (hp : plainE e = true) (hp' : plainE e' = true) : WEL prog w g n sc [e, e'] ρ K :=
  wel_cons (h.mono fun _ _ k => wel_cons (k.mono fun _ _ k => wel_nil k) hp') hp
theorem wel3 {e e' e'' : Expr} {K : List PV → List Ent → Prop} (h : WE prog w g n sc e ρ fun d ρ₁ => WE prog w g n sc e' ρ₁ fun d' ρ₂ => WE prog w g n sc e'' ρ₂ fun d'' ρ₃ => K [d, d', d''] ρ₃) (hp : plainE e = true) (hp' : plainE e' = true) (hp'' : plainE e'' = true) : WEL prog w g n sc [e, e', e''] ρ K :=
  wel_cons (h.mono fun _ _ k => wel_cons (k.mono fun _ _ k => wel_cons (k.mono fun _ _ k => wel_nil k) hp'') hp') hp
theorem wi_range1 {x rn : Str} {p rp pos : Pos} {e : Expr} {K : Nat → (Nat → List Ent → (List Ent → Prop) → Prop) → List Ent → Prop} (G : GF g mg mb) (hx : sc.names.lookup rn = some .globalImplicit) (hv : GV mg mb rn (.type "range"))
    (h : WE prog w g n sc e ρ fun d ρ₁ => OfInt d fun b => b ≤ 2 ^ 20 ∧ -(2 ^ 20) ≤ b ∧ K b.toNat (BName x (rangePV 0 1 b.toNat)) ρ₁) (hp : plainE e = true := by rfl) (hd : (rn == ("__debug__" : Str)) = false := by decide) :
    WI prog w g n sc (.Name x p) (.Call (.Name rn rp) [e] [] pos) ρ K := by
  intro env A H s hsc ok hA sr
  refine type_call (K := fun ds ρ₁ => ∃ b, ds = [.int b] ∧ b ≤ 2 ^ 20 ∧ -(2 ^ 20) ≤ b ∧ K b.toNat (BName x (rangePV 0 1 b.toNat)) ρ₁) G hx hv hsc ok hA sr (wel1 (h.mono fun d ρ1 k => by obtain ⟨b, rfl, k⟩ := k; exact ⟨b, rfl, k⟩) hp) (fun ds ρ1 s1 vs k1 p1 r1 => ?_) (by rw [List.all_cons, hp]; rfl) hd
  obtain ⟨b, rfl, hb, hb', k1⟩ := k1
  obtain ⟨v, r, rfl, ⟨t, rfl⟩, rfl⟩ := r1
  refine call_range_1 ?_
  have hz := rangeSize_nat 0 b
  rw [Int.sub_zero] at hz
  refine range_src (t := s1.toks) (u := t) (v := s1.toks + 1) hA (p1.grow (Keeps.push' s1 _ _)) (a := 0) (b := b) (c := 1) (Heap.get?_push_size _ rfl) (small_one (by omega) (by omega) (by omega) (by omega)) (by rw [hz]; exact k1) (by rw [hz]; omega)
theorem wi_range2 {x rn : Str} {p rp pos : Pos} {e e' : Expr} {K : Nat → (Nat → List Ent → (List Ent → Prop) → Prop) → List Ent → Prop} (G : GF g mg mb) (hx : sc.names.lookup rn = some .globalImplicit) (hv : GV mg mb rn (.type "range"))
    (h : WE prog w g n sc e ρ fun d ρ₁ => WE prog w g n sc e' ρ₁ fun d' ρ₂ => ∃ a b, d = .int a ∧ d' = .int b ∧ b ≤ 2 ^ 20 ∧ -(2 ^ 20) ≤ b ∧ a ≤ 2 ^ 20 ∧ -(2 ^ 20) ≤ a ∧ K (b - a).toNat (BName x (rangePV a 1 (b - a).toNat)) ρ₂) (hp : plainE e = true := by rfl) (hp' : plainE e' = true := by rfl) (hd : (rn == ("__debug__" : Str)) = false := by decide) :
    WI prog w g n sc (.Name x p) (.Call (.Name rn rp) [e, e'] [] pos) ρ K := by
  intro env A H s hsc ok hA sr
  refine type_call (K := fun ds ρ₁ => ∃ a b, ds = [.int a, .int b] ∧ b ≤ 2 ^ 20 ∧ -(2 ^ 20) ≤ b ∧ a ≤ 2 ^ 20 ∧ -(2 ^ 20) ≤ a ∧ K (b - a).toNat (BName x (rangePV a 1 (b - a).toNat)) ρ₁) G hx hv hsc ok hA sr (wel2 (h.mono fun d ρ1 k => k.mono fun d' ρ2 k => by obtain ⟨a, b, rfl, rfl, k⟩ := k; exact ⟨a, b, rfl, k⟩) hp hp') (fun ds ρ1 s1 vs k1 p1 r1 => ?_) (by rw [List.all_cons, List.all_cons, hp, hp']; rfl) hd
  obtain ⟨a, b, rfl, hb, hb', ha, ha', k1⟩ := k1
  obtain ⟨v, r, rfl, ⟨t, rfl⟩, v', r', rfl, ⟨t', rfl⟩, rfl⟩ := r1
  refine call_range_2 ?_
  have hz := rangeSize_nat a b
  refine range_src (t := t) (u := t') (v := s1.toks) hA (p1.grow (Keeps.push' s1 _ _)) (a := a) (b := b) (c := 1) (Heap.get?_push_size _ rfl) (small_one (by omega) (by omega) (by omega) (by omega)) (by rw [hz]; exact k1) (by rw [hz]; omega)
theorem rs_up (n s : Nat) (hs : 0 < s) : (Builtin.Range.rangeSize 0 (n : Int) (s : Int)).toNat = (n + s - 1) / s := by
  unfold Builtin.Range.rangeSize
  rw [if_pos (Int.natCast_pos.mpr hs)]
  cases n with
  | zero => exact (Nat.div_eq_of_lt (by rw [Nat.zero_add]; exact Nat.sub_lt hs Nat.one_pos)).symm
  | succ n =>
    rw [if_pos (Int.natCast_pos.mpr (Nat.succ_pos n)), Int.sub_zero, Int.natCast_succ, Int.add_sub_cancel, show n + 1 + s - 1 = n + s by rw [Nat.add_right_comm]; rfl, Nat.add_div_right _ hs]
    rfl
theorem small_b {a b c : Int} (hb : b ≤ 2 ^ 20) (hb' : -(2 ^ 20) ≤ b) (ha : a ≤ 2 ^ 20) (ha' : -(2 ^ 20) ≤ a) (hc : c ≤ 2 ^ 20) (hc' : -(2 ^ 20) ≤ c) : Builtin.Range.small a b c = true := by
  have h1 := rangeSize_toNat a b c
  have h2 := rangeSize_toNat_le a b c
  unfold Builtin.Range.small
  simp only [Builtin.Range.rangeFitsLong, Bool.and_eq_true, Bool.or_eq_true, decide_eq_true_eq, beq_iff_eq]
  have h3 : Builtin.Range.rangeSize a b c ≤ 2 ^ 22 := by omega
  have h4 : 0 ≤ Builtin.Range.rangeSize a b c := by omega
  generalize Builtin.Range.rangeSize a b c = z at *
  refine ⟨⟨⟨⟨⟨by omega, by omega⟩, by omega, by omega⟩, by omega, by omega⟩, by omega, by omega⟩, .inr ?_⟩
  split <;> simp only [Bool.and_eq_true, decide_eq_true_eq] <;> omega
theorem pylong_b {x y : Int} (hy : y ≤ 2 ^ 22) (hy' : -(2 ^ 22) ≤ y) : Builtin.divisionGoesByPylong x y = false := by
  unfold Builtin.divisionGoesByPylong
  have h : (if (y == 0) = true then 0 else y.natAbs.log2 / 30 + 1) ≤ 300 := by
    split
    · omega
    · rename_i h0
      have h0' : y ≠ 0 := by simpa using h0
      have : y.natAbs.log2 < 23 := (Nat.log2_lt (by omega)).mpr (by omega)
      omega
  simp only [Bool.and_eq_false_iff, decide_eq_false_iff_not]
  left; omega
theorem wi_range3 {x rn : Str} {p rp pos : Pos} {e e' e'' : Expr} {K : Nat → (Nat → List Ent → (List Ent → Prop) → Prop) → List Ent → Prop} (G : GF g mg mb) (hx : sc.names.lookup rn = some .globalImplicit) (hv : GV mg mb rn (.type "range"))
    (h : WE prog w g n sc e ρ fun d ρ₁ => WE prog w g n sc e' ρ₁ fun d' ρ₂ => WE prog w g n sc e'' ρ₂ fun d'' ρ₃ => ∃ a b c, d = .int a ∧ d' = .int b ∧ d'' = .int c ∧ c ≠ 0 ∧ b ≤ 2 ^ 20 ∧ -(2 ^ 20) ≤ b ∧ a ≤ 2 ^ 20 ∧ -(2 ^ 20) ≤ a ∧ c ≤ 2 ^ 20 ∧ -(2 ^ 20) ≤ c ∧
      K (Builtin.Range.rangeSize a b c).toNat (BName x (rangePV a c (Builtin.Range.rangeSize a b c).toNat)) ρ₃) (hp : plainE e = true := by rfl) (hp' : plainE e' = true := by rfl) (hp'' : plainE e'' = true := by rfl) (hd : (rn == ("__debug__" : Str)) = false := by decide) :
    WI prog w g n sc (.Name x p) (.Call (.Name rn rp) [e, e', e''] [] pos) ρ K := by
  intro env A H s hsc ok hA sr
  refine type_call (K := fun ds ρ₁ => ∃ a b c, ds = [.int a, .int b, .int c] ∧ c ≠ 0 ∧ b ≤ 2 ^ 20 ∧ -(2 ^ 20) ≤ b ∧ a ≤ 2 ^ 20 ∧ -(2 ^ 20) ≤ a ∧ c ≤ 2 ^ 20 ∧ -(2 ^ 20) ≤ c ∧ K (Builtin.Range.rangeSize a b c).toNat (BName x (rangePV a c (Builtin.Range.rangeSize a b c).toNat)) ρ₁) G hx hv hsc ok hA sr
    (wel3 (h.mono fun d ρ1 k => k.mono fun d' ρ2 k => k.mono fun d'' ρ3 k => by obtain ⟨a, b, c, rfl, rfl, rfl, k⟩ := k; exact ⟨a, b, c, rfl, k⟩) hp hp' hp'') (fun ds ρ1 s1 vs k1 p1 r1 => ?_) (by rw [List.all_cons, List.all_cons, List.all_cons, hp, hp', hp'']; rfl) hd
  obtain ⟨a, b, c, rfl, hc0, hb, hb', ha, ha', hc, hc', k1⟩ := k1
  obtain ⟨v, r, rfl, ⟨t, rfl⟩, v', r', rfl, ⟨t', rfl⟩, v'', r'', rfl, ⟨t'', rfl⟩, rfl⟩ := r1
  have hpy := pylong_b (x := b - a) (y := c) (by omega) (by omega)
  refine call_range_3 hc0 ?_ (.inl hpy)
  have hz := rangeSize_toNat a b c
  refine range_src (t := t) (u := t') (v := t'') hA (p1.grow (Keeps.push s1 _)) (a := a) (b := b) (c := c) (Heap.get?_push_size _ rfl) ?_ k1 (by rw [hz]; omega)
  exact small_b hb hb' ha ha' hc hc'
theorem wi_enum {x y en : Str} {p p' p'' ep pos : Pos} {kk : Nat} {e : Expr} {K : Nat → (Nat → List Ent → (List Ent → Prop) → Prop) → List Ent → Prop} (G : GF g mg mb) (hx : sc.names.lookup en = some .globalImplicit) (hv : GV mg mb en (.type "enumerate"))
    (h : WE prog w g n sc e ρ fun d ρ₁ => OfList d fun ds => K ds.length (BTup x y (ds.mapIdx fun i d => .tup [.int i, d])) ρ₁) (hp : plainE e = true := by rfl) (hd : (en == ("__debug__" : Str)) = false := by decide) :
    WI prog w g n sc (.Tuple [.Name x p, .Name y p'] kk p'') (.Call (.Name en ep) [e] [] pos) ρ K := by
  intro env A H s hsc ok hA sr
  refine type_call (K := fun ds ρ₁ => ∃ xs, ds = [.list xs] ∧ K xs.length (BTup x y (xs.mapIdx fun i d => .tup [.int i, d])) ρ₁) G hx hv hsc ok hA sr (wel1 (h.mono fun d ρ1 k => by obtain ⟨ds, rfl, k⟩ := k; exact ⟨ds, rfl, k⟩) hp) (fun ds ρ1 s1 vs k1 p1 r1 => ?_) (by rw [List.all_cons, hp]; rfl) hd
  obtain ⟨ds, rfl, k1⟩ := k1
  obtain ⟨v, r, rfl, ⟨l, vs, rfl, hlT, ⟨nn, hl⟩, hr⟩, rfl⟩ := r1
  have hlen := hr.length
  refine call_enumerate_list (items := vs.toArray) ⟨_, hl, rfl, nn, rfl⟩ fun h' hen hit hsz hk => ?_
  refine wpAny_pyIter_enum hen ?_
  have ks : Keeps s1 { s1 with heap := h' } := ⟨h', s1.toks, rfl, hk⟩
  have hl' : h'.get? l = some _ := hk _ _ hl
  have lt : @LT.lt Nat _ l s1.heap.objs.size := Heap.lt_size hl
  have nI : s1.heap.get? s1.heap.objs.size = none := get_size_none _
  have nE : s1.heap.get? (s1.heap.objs.size + 1) = none := by
    cases q : s1.heap.get? (s1.heap.objs.size + 1) with
    | none => rfl
    | some o => exact absurd (Heap.lt_size q) (Nat.not_lt.mpr (Nat.le_succ _))
  have W := WalksT.enumerate (prog := prog) (w := w) hA.1 (s1.heap.objs.size + 1) s1.heap.objs.size l (neN (by omega)) (neN (by omega)) (neN (by omega)) vs.toArray
  rw [show vs.toArray.size = ds.length by simpa using hlen] at W
  have dom : ∀ b, b ∈ [s1.heap.objs.size + 1, s1.heap.objs.size] → s1.heap.get? b = none ∧ (h'.get? b).isSome = true := by
    intro b hb
    rcases List.mem_cons.mp hb with rfl | hb
    · have : h'.get? (s1.heap.objs.size + 1) = some _ := hen
      exact ⟨nE, by rw [this]; rfl⟩
    · rw [List.mem_singleton.mp hb]
      obtain ⟨o, ho, _⟩ := hit
      exact ⟨nI, by rw [ho]; rfl⟩
  refine ⟨ρ1, ds.length, _, s1, k1, p1, (· ∈ [s1.heap.objs.size + 1, s1.heap.objs.size]), fun i h => (∃ old, IsEnum h (s1.heap.objs.size + 1) s1.heap.objs.size (i : Nat) old) ∧ h.IsListIter s1.heap.objs.size l i ∧ h.IsList l vs.toArray, ks, ⟨⟨.none, hen⟩, hit, ⟨_, hl', rfl, nn, rfl⟩⟩, dom, ?_⟩
  intro envc Hc X ρc s0 okc k0 src hT hXn
  have hl0 : s0.heap.get? l = some _ := keeps_get k0 hl'
  obtain ⟨oi, hoi, hi1⟩ := hit
  refine ⟨⟨⟨.none, keeps_get k0 hen⟩, ⟨oi, keeps_get k0 hoi, hi1⟩, ⟨_, hl0, rfl, nn, rfl⟩⟩, loop_walksT hA.1 W okc (fun b hb hw => ?_) (fun i h st b hb => ?_) (fun i t h st b hb => ?_) (fun b hb hc => ?_) (fun b hb hc => ?_) fun i vals hi hP => ?_⟩
  · rcases List.mem_cons.mp hb with rfl | hb
    · exact absurd (.head _) hw
    · rcases List.mem_cons.mp hb with rfl | hb
      · exact absurd (.tail _ (.head _)) hw
      · rw [List.mem_singleton.mp hb]
        refine ⟨fun hc => ?_, by rw [hl0]; rfl⟩
        rcases hT l hc with h | h
        · exact hlT h
        · rw [hl'] at h; cases h
  · obtain ⟨⟨old, he⟩, ⟨o, ho, _⟩, _⟩ := st
    rcases List.mem_cons.mp hb with rfl | hb
    · have : h.get? (s1.heap.objs.size + 1) = some _ := he
      rw [this]; rfl
    · rw [List.mem_singleton.mp hb, ho]; rfl
  · obtain ⟨⟨xx, he⟩, ⟨o, ho, _⟩, _⟩ := st
    rcases List.mem_cons.mp hb with rfl | hb
    · obtain ⟨o, ho⟩ : ∃ o, h.get? (s1.heap.objs.size + 1) = some o := by
        first
          | exact ⟨_, he⟩
          | (obtain ⟨_, he, _⟩ := he; exact ⟨_, he⟩)
      rw [ho]; rfl
    · rw [List.mem_singleton.mp hb, ho]; rfl
  · rcases hT b (.inl hc) with h | h
    · have := (p1.sr.dom b h).1
      rw [(dom b hb).1] at this; cases this
    · have := (dom b hb).2
      have h2 : h'.get? b = none := h
      rw [h2] at this; cases this
  · rcases hXn b hc with h | h0
    · rcases List.mem_cons.mp hb with rfl | hb
      · have := (p1.sr.dom _ h).1
        rw [(dom _ (.head _)).1] at this; cases this
      · rcases List.mem_cons.mp hb with rfl | hb
        · have := (p1.sr.dom _ h).1
          rw [(dom _ (.tail _ (.head _))).1] at this; cases this
        · rw [List.mem_singleton.mp hb] at h; exact hlT h
    replace h0 : h'.get? b = none := h0
    rcases List.mem_cons.mp hb with rfl | hb
    · have := (dom _ (.head _)).2
      rw [h0] at this; cases this
    · rcases List.mem_cons.mp hb with rfl | hb
      · have := (dom _ (.tail _ (.head _))).2
        rw [h0] at this; cases this
      · rw [List.mem_singleton.mp hb, hl'] at h0; cases h0
  · obtain ⟨t, xv, hxv, rfl⟩ := hP
    have hxv' : vs[i]? = some xv := by simpa using hxv
    obtain ⟨d, hd⟩ : ∃ d, ds[i]? = some d := ⟨_, List.getElem?_eq_getElem hi⟩
    obtain ⟨v', hv', rv⟩ := hr.get hd
    rw [hxv'] at hv'; cases hv'
    exact ⟨.int i, d, _, _, by simp [List.getElem?_mapIdx, hd], rfl, ⟨_, rfl⟩, src_rd (wr := fun a => a ∈ [s1.heap.objs.size + 1, s1.heap.objs.size] ∨ X a) ks k0 hT (fun a ha => ha.elim (fun ha => .inr (dom a ha).1) fun h => (hXn a h).imp id (keeps_none ks)) rv⟩
theorem all4 {P : Addr → Prop} {a b c d : Addr} (h1 : P a) (h2 : P b) (h3 : P c) (h4 : P d) : ∀ x ∈ [a, b, c, d], P x :=
  List.forall_mem_cons.mpr ⟨h1, List.forall_mem_cons.mpr ⟨h2, List.forall_mem_cons.mpr ⟨h3, List.forall_mem_cons.mpr ⟨h4, fun _ h => nomatch h⟩⟩⟩⟩
theorem all7 {P : Addr → Prop} {a b c d e f g : Addr} (h1 : P a) (h2 : P b) (h3 : P c) (h4 : P d) (h5 : P e) (h6 : P f) (h7 : P g) : ∀ x ∈ [a, b, c, d, e, f, g], P x :=
  List.forall_mem_cons.mpr ⟨h1, List.forall_mem_cons.mpr ⟨h2, List.forall_mem_cons.mpr ⟨h3, all4 h4 h5 h6 h7⟩⟩⟩
theorem isSome_of {h : Heap} {a : Addr} {o : Obj} (e : h.get? a = some o) : (h.get? a).isSome = true := by rw [e]; rfl
theorem pair_some {h : Heap} {a : Addr} {u v : Value} (x : IsPair h a u v) : (h.get? a).isSome = true := by
  obtain ⟨o, ho⟩ : ∃ o, h.get? a = some o := by first | exact ⟨_, x⟩ | (obtain ⟨_, h, _⟩ := x; exact ⟨_, h⟩)
  exact isSome_of ho
theorem iter_some {h : Heap} {a l : Addr} {i : Nat} (x : h.IsListIter a l i) : (h.get? a).isSome = true := x.elim fun _ h => isSome_of h.1
theorem wi_zip {x y zn : Str} {p p' p'' zp pos : Pos} {kk : Nat} {e e' : Expr} {K : Nat → (Nat → List Ent → (List Ent → Prop) → Prop) → List Ent → Prop} (G : GF g mg mb) (hx : sc.names.lookup zn = some .globalImplicit) (hv : GV mg mb zn (.type "zip"))
    (h : WE prog w g n sc e ρ fun d ρ₁ => WE prog w g n sc e' ρ₁ fun d' ρ₂ => ∃ ds ds', d = .list ds ∧ d' = .list ds' ∧ K (min ds.length ds'.length) (BTup x y ((ds.zip ds').map fun q => .tup [q.1, q.2])) ρ₂) (hp : plainE e = true := by rfl) (hp' : plainE e' = true := by rfl) (hd : (zn == ("__debug__" : Str)) = false := by decide) :
    WI prog w g n sc (.Tuple [.Name x p, .Name y p'] kk p'') (.Call (.Name zn zp) [e, e'] [] pos) ρ K := by
  intro env A H s hsc ok hA sr
  refine type_call (K := fun ds ρ₁ => ∃ xs ys, ds = [.list xs, .list ys] ∧ K (min xs.length ys.length) (BTup x y ((xs.zip ys).map fun q => .tup [q.1, q.2])) ρ₁) G hx hv hsc ok hA sr (wel2 (h.mono fun d ρ1 k => k.mono fun d' ρ2 k => by obtain ⟨ds, ds', rfl, rfl, k⟩ := k; exact ⟨ds, ds', rfl, k⟩) hp hp') (fun ds ρ1 s1 vs k1 p1 r1 => ?_) (by rw [List.all_cons, List.all_cons, hp, hp']; rfl) hd
  obtain ⟨ds, ds', rfl, k1⟩ := k1
  obtain ⟨v, r, rfl, ⟨l, vs, rfl, hlT, ⟨nn, hl⟩, hr⟩, v2, r2, rfl, ⟨l2, vs2, rfl, hlT2, ⟨nn2, hl2⟩, hr2⟩, rfl⟩ := r1
  have hlen := hr.length
  have hlen2 := hr2.length
  refine call_zip_2 (xs := vs.toArray) (ys := vs2.toArray) ⟨_, hl, rfl, nn, rfl⟩ ⟨_, hl2, rfl, nn2, rfl⟩ fun h' hz hTI hTO hi1 hi2 hsz hk => ?_
  refine wpAny_pyIter_zip hz ?_
  have ks : Keeps s1 { s1 with heap := h' } := ⟨h', s1.toks, rfl, hk⟩
  have hl' : h'.get? l = some _ := hk _ _ hl
  have hl2' : h'.get? l2 = some _ := hk _ _ hl2
  have lt : @LT.lt Nat _ l s1.heap.objs.size := Heap.lt_size hl
  have lt2 : @LT.lt Nat _ l2 s1.heap.objs.size := Heap.lt_size hl2
  have big : ∀ b, s1.heap.objs.size ≤ b → s1.heap.get? b = none := by
    intro b (hb : @LE.le Nat _ s1.heap.objs.size b)
    cases q : s1.heap.get? b with
    | none => rfl
    | some o => exact absurd (Heap.lt_size q) (Nat.not_lt.mpr hb)
  have D : ZipApart (s1.heap.objs.size + 4) (s1.heap.objs.size + 2) (s1.heap.objs.size + 3) s1.heap.objs.size (s1.heap.objs.size + 1) l l2 := by
    constructor <;> refine neN ?_ <;> omega
  have W := WalksT.zip2 (prog := prog) (w := w) hA.1 _ _ _ _ _ l l2 D vs.toArray vs2.toArray
  rw [show min vs.toArray.size vs2.toArray.size = min ds.length ds'.length by simp [hlen, hlen2]] at W
  have hzs : (h'.get? (s1.heap.objs.size + 4)).isSome = true := isSome_of (hz : h'.get? (s1.heap.objs.size + 4) = some _)
  have dom : ∀ b, b ∈ [s1.heap.objs.size + 4, s1.heap.objs.size + 3, s1.heap.objs.size, s1.heap.objs.size + 1] → s1.heap.get? b = none ∧ (h'.get? b).isSome = true :=
    all4 ⟨big _ (Nat.le_add_right ..), hzs⟩ ⟨big _ (Nat.le_add_right ..), pair_some hTO⟩ ⟨big _ (Nat.le_refl _), iter_some hi1⟩ ⟨big _ (Nat.le_add_right ..), iter_some hi2⟩
  have offT : ∀ {envc : Env} {Hc : Addr → Prop} {ρc : List Ent} (hT : ∀ a, Tt envc Hc ρc a → Tt env H ρ1 a ∨ h'.get? a = none) (b : Addr), s1.heap.get? b = none → (h'.get? b).isSome = true → ¬ Tt envc Hc ρc b := by
    intro envc Hc ρc hT b h1 h2 hc
    rcases hT b hc with h | h
    · have := (p1.sr.dom b h).1
      rw [h1] at this; cases this
    · rw [h] at h2; cases h2
  have offL : ∀ {envc : Env} {Hc : Addr → Prop} {ρc : List Ent} (hT : ∀ a, Tt envc Hc ρc a → Tt env H ρ1 a ∨ h'.get? a = none) (b : Addr) (o : Obj), ¬ Tt env H ρ1 b → h'.get? b = some o → ¬ Tt envc Hc ρc b := by
    intro envc Hc ρc hT b o h1 h2 hc
    rcases hT b hc with h | h
    · exact h1 h
    · rw [h] at h2; cases h2
  refine ⟨ρ1, _, _, s1, k1, p1, (· ∈ [s1.heap.objs.size + 4, s1.heap.objs.size + 3, s1.heap.objs.size, s1.heap.objs.size + 1]), fun i h => IsZip h (s1.heap.objs.size + 4) (s1.heap.objs.size + 2) (s1.heap.objs.size + 3) .none ∧ IsPair h (s1.heap.objs.size + 2) (.ref s1.heap.objs.size) (.ref (s1.heap.objs.size + 1)) ∧ (∃ a b, IsPair h (s1.heap.objs.size + 3) a b) ∧ h.IsListIter s1.heap.objs.size l i ∧ h.IsListIter (s1.heap.objs.size + 1) l2 i ∧ h.IsList l vs.toArray ∧ h.IsList l2 vs2.toArray, ks, ⟨hz, hTI, ⟨_, _, hTO⟩, hi1, hi2, ⟨_, hl', rfl, nn, rfl⟩, ⟨_, hl2', rfl, nn2, rfl⟩⟩, dom, ?_⟩
  intro envc Hc X ρc s0 okc k0 src hT hXn
  have kk0 : ∀ b o, h'.get? b = some o → s0.heap.get? b = some o := fun b o e => keeps_get k0 e
  refine ⟨⟨?_, ?_, ⟨.none, .none, ?_⟩, ?_, ?_, ⟨_, kk0 _ _ hl', rfl, nn, rfl⟩, ⟨_, kk0 _ _ hl2', rfl, nn2, rfl⟩⟩, loop_walksT hA.1 W okc (fun b hb hw => ?_) (fun i h st b hb => ?_) (fun i t h st b hb => ?_) (fun b hb hc => ?_) (fun b hb hc => ?_) fun i vals hi hP => ?_⟩
  · exact kk0 _ _ hz
  · exact kk0 _ _ hTI
  · exact kk0 _ _ hTO
  · obtain ⟨o, ho, r⟩ := hi1; exact ⟨o, kk0 _ _ ho, r⟩
  · obtain ⟨o, ho, r⟩ := hi2; exact ⟨o, kk0 _ _ ho, r⟩
  · exact all7 (P := fun b => b ∉ [s1.heap.objs.size + 4, s1.heap.objs.size + 3, s1.heap.objs.size, s1.heap.objs.size + 1] → ¬ Tt envc Hc ρc b ∧ (s0.heap.get? b).isSome = true) (fun hw => absurd (.head _) hw) (fun _ => ⟨offT hT _ (big _ (Nat.le_add_right ..)) (pair_some hTI), pair_some (kk0 _ _ hTI)⟩) (fun hw => absurd (.tail _ (.head _)) hw) (fun hw => absurd (.tail _ (.tail _ (.head _))) hw) (fun hw => absurd (.tail _ (.tail _ (.tail _ (.head _)))) hw)
      (fun _ => ⟨offL hT _ _ hlT hl', isSome_of (kk0 _ _ hl')⟩) (fun _ => ⟨offL hT _ _ hlT2 hl2', isSome_of (kk0 _ _ hl2')⟩) b hb hw
  · obtain ⟨hz, _, ⟨_, _, hTO⟩, h1, h2, _⟩ := st
    exact all4 (P := fun b => (h.get? b).isSome = true) (isSome_of (hz : h.get? (s1.heap.objs.size + 4) = some _)) (pair_some hTO) (iter_some h1) (iter_some h2) b hb
  · obtain ⟨hz, _, ⟨_, _, hTO⟩, h1, h2, _⟩ := st
    exact all4 (P := fun b => (h.get? b).isSome = true) (isSome_of (hz : h.get? (s1.heap.objs.size + 4) = some _)) (pair_some hTO) (iter_some h1) (iter_some h2) b hb
  · exact offT hT b (dom b hb).1 (dom b hb).2 (.inl hc)
  · rcases hXn b hc with h | h0
    · have nb : ∀ c, s1.heap.get? c = none → ¬ Tt env H ρ1 c := fun c hc h => by
        have := (p1.sr.dom _ h).1
        rw [hc] at this; cases this
      exact all7 (P := fun b => ¬ Tt env H ρ1 b) (nb _ (big _ (Nat.le_add_right ..))) (nb _ (big _ (Nat.le_add_right ..))) (nb _ (big _ (Nat.le_add_right ..))) (nb _ (big _ (Nat.le_refl _))) (nb _ (big _ (Nat.le_add_right ..))) hlT hlT2 b hb h
    · have hb' := all7 (P := fun b => (h'.get? b).isSome = true) hzs (pair_some hTI) (pair_some hTO) (iter_some hi1) (iter_some hi2) (isSome_of hl') (isSome_of hl2') b hb
      rw [show h'.get? b = none from h0] at hb'; cases hb'
  · obtain ⟨xv, yv, hxv, hyv, rfl⟩ := hP
    have hxv' : vs[i]? = some xv := by simpa using hxv
    have hyv' : vs2[i]? = some yv := by simpa using hyv
    obtain ⟨d, hd⟩ : ∃ d, ds[i]? = some d := ⟨ds[i]'(by omega), by simp⟩
    obtain ⟨d2, hd2⟩ : ∃ d, ds'[i]? = some d := ⟨ds'[i]'(by omega), by simp⟩
    obtain ⟨v', hv', rv⟩ := hr.get hd
    obtain ⟨v2', hv2', rv2⟩ := hr2.get hd2
    rw [hxv'] at hv'; cases hv'
    rw [hyv'] at hv2'; cases hv2'
    refine ⟨d, d2, _, _, ?_, rfl, src_rd (wr := fun a => a ∈ [s1.heap.objs.size + 4, s1.heap.objs.size + 3, s1.heap.objs.size, s1.heap.objs.size + 1] ∨ X a) ks k0 hT (fun a ha => ha.elim (fun ha => .inr (dom a ha).1) fun h => (hXn a h).imp id (keeps_none ks)) rv, src_rd (wr := fun a => a ∈ [s1.heap.objs.size + 4, s1.heap.objs.size + 3, s1.heap.objs.size, s1.heap.objs.size + 1] ∨ X a) ks k0 hT (fun a ha => ha.elim (fun ha => .inr (dom a ha).1) fun h => (hXn a h).imp id (keeps_none ks)) rv2⟩
    rw [List.getElem?_map, List.getElem?_zip_eq_some (z := (d, d2)) |>.mpr ⟨hd, hd2⟩]; rfl
end
section
variable {prog : Program} {w : World} {g : Heap} {n : Nat} {sc : Scope} {ρ ρ' : List Ent}
noncomputable def pickM : List Bool → List Ent → List Ent
  | true :: m, e :: r => e :: pickM m r
  | false :: m, _ :: r => pickM m r
  | _, _ => []
noncomputable def restM : List Bool → List Ent → List Ent
  | true :: m, _ :: r => restM m r
  | false :: m, e :: r => e :: restM m r
  | _, r => r
noncomputable def mergeM : List Bool → List Ent → List Ent → List Ent
  | true :: m, _ :: r, e' :: s => e' :: mergeM m r s
  | true :: _, r, [] => r
  | false :: m, e :: r, s => e :: mergeM m r s
  | _, r, _ => r
noncomputable abbrev sig (ρ : List Ent) : List (Str × Option Addr) := ρ.map fun e => (e.x, e.loc)
inductive MR : List Ent → List Ent → List Ent → List Ent → List Ent → Prop
  | stop (r : List Ent) : MR r [] r [] r
  | take {e e' : Ent} {r p q s o : List Ent} (h : (e'.x, e'.loc) = (e.x, e.loc)) : MR r p q s o → MR (e :: r) (e :: p) q (e' :: s) (e' :: o)
  | skip {e : Ent} {r p q s o : List Ent} : MR r p q s o → MR (e :: r) p (e :: q) s (e :: o)
theorem mr_is {m : List Bool} {ρ s : List Ent} (h : sig s = sig (pickM m ρ)) : MR ρ (pickM m ρ) (restM m ρ) s (mergeM m ρ s) := by
  induction ρ generalizing m s with
  | nil =>
    have hp : pickM m [] = [] := by cases m with
      | nil => rfl
      | cons b m => cases b <;> rfl
    rw [hp] at h ⊢
    obtain rfl : s = [] := List.map_eq_nil_iff.mp h
    cases m with
    | nil => exact .stop _
    | cons b m => cases b <;> exact .stop _
  | cons e r ih =>
    cases m with
    | nil =>
      obtain rfl : s = [] := List.map_eq_nil_iff.mp h
      exact .stop _
    | cons b m =>
      cases b with
      | true =>
        cases s with
        | nil => cases h
        | cons e' s => exact .take (List.cons.inj h).1 (ih (List.cons.inj h).2)
      | false => exact .skip (ih h)
section
variable {r p q s o : List Ent} {e : Ent}
theorem MR.sub1 (h : MR r p q s o) : p.Sublist r := by
  induction h with
  | stop => exact List.nil_sublist _
  | take _ _ ih => exact ih.cons₂ _
  | skip _ ih => exact ih.cons _
theorem MR.sub2 (h : MR r p q s o) : q.Sublist r := by
  induction h with
  | stop => exact List.Sublist.refl _
  | take _ _ ih => exact ih.cons _
  | skip _ ih => exact ih.cons₂ _
theorem MR.perm (h : MR r p q s o) : o.Perm (s ++ q) := by
  induction h with
  | stop => exact List.Perm.refl _
  | take _ _ ih => exact ih.cons _
  | skip _ ih => exact (ih.cons _).trans List.perm_middle.symm
theorem MR.perm1 (h : MR r p q s o) : r.Perm (p ++ q) := by
  induction h with
  | stop => exact List.Perm.refl _
  | take _ _ ih => exact ih.cons _
  | skip _ ih => exact (ih.cons _).trans List.perm_middle.symm
theorem MR.sigE (h : MR r p q s o) : Mine.sig o = Mine.sig r := by
  induction h with
  | stop => rfl
  | @take e e' r p q s o h _ ih => exact (by rw [h, ih] : (e'.x, e'.loc) :: Mine.sig o = (e.x, e.loc) :: Mine.sig r)
  | @skip e r p q s o _ ih => exact congrArg (fun l => (e.x, e.loc) :: l) ih
end
theorem V_of_perm {a b c : List Ent} (h : a.Perm (b ++ c)) : (V a).Perm (V b ++ V c) := V_app b c ▸ h.flatMap_right _
theorem pick_mem {m : List Bool} {ρ : List Ent} {e : Ent} (h : e ∈ pickM m ρ) : e ∈ ρ := (mr_is (m := m) (ρ := ρ) rfl).sub1.subset h
theorem rest_mem {m : List Bool} {ρ : List Ent} {e : Ent} (h : e ∈ restM m ρ) : e ∈ ρ := (mr_is (m := m) (ρ := ρ) rfl).sub2.subset h
theorem V_perm (m : List Bool) (ρ : List Ent) : (V ρ).Perm (V (pickM m ρ) ++ V (restM m ρ)) := V_of_perm (mr_is rfl).perm1
theorem merge_perm (m : List Bool) (ρ s : List Ent) (h : sig s = sig (pickM m ρ)) : (V (mergeM m ρ s)).Perm (V s ++ V (restM m ρ)) := V_of_perm (mr_is h).perm
theorem merge_sig (m : List Bool) (ρ s : List Ent) (h : sig s = sig (pickM m ρ)) : sig (mergeM m ρ s) = sig ρ := (mr_is h).sigE
theorem merge_mem (m : List Bool) (ρ s : List Ent) (h : sig s = sig (pickM m ρ)) (e : Ent) (he : e ∈ mergeM m ρ s) : e ∈ s ∨ e ∈ restM m ρ := List.mem_append.mp ((mr_is h).perm.mem_iff.mp he)
noncomputable def relab (scope sc : Scope) : Scope :=
  { scope with names := scope.names.map fun (n, k) => if (k == .free && sc.kind == .function && sc.names.lookup n == some .cell) then (n, .cell) else (n, k) }
noncomputable def locEnts : List (Str × NameKind) → List Ent
  | [] => []
  | (x, .local) :: r => ⟨x, none, .unb⟩ :: locEnts r
  | _ :: r => locEnts r
noncomputable def cellEnts (cs : List (Str × Addr)) : List Ent := cs.map fun c => ⟨c.1, some c.2, .unb⟩
noncomputable def compρ (scope : Scope) (C : Nat) (sh : List Ent) : List Ent := locEnts scope.names ++ cellEnts (cellsFrom (C + 1) scope.names []) ++ sh
noncomputable def freeNames : List (Str × NameKind) → List Str
  | [] => []
  | (x, .free) :: r => x :: freeNames r
  | _ :: r => freeNames r
theorem freeNames_mem : ∀ {names : List (Str × NameKind)} {x : Str}, (x, NameKind.free) ∈ names → x ∈ freeNames names := by
  intro l0
  induction l0 with
  | nil => exact @fun _ h => nomatch h
  | cons q0 r ih =>
    obtain ⟨y, k⟩ := q0
    intro x h
    rcases List.mem_cons.mp h with h | h
    · cases h; exact .head _
    · have ih := ih h
      cases k <;> first | exact ih | exact .tail _ ih
noncomputable def closOf (env : Env) : List (Str × NameKind) → List (Str × Addr) → List (Str × Addr)
  | [], acc => acc
  | (x, .free) :: r, acc => closOf env r ((x, (env.cells.lookup x).getD 0) :: acc)
  | _ :: r, acc => closOf env r acc
theorem closure_is {env : Env} (scope : Scope) (h : ∀ x ∈ freeNames scope.names, ∃ c, env.cells.lookup x = some c) : closureFor scope env = pure (closOf env scope.names []) := by
  unfold closureFor
  have key : ∀ (names : List (Str × NameKind)) (acc : List (Str × Addr)), (∀ x ∈ freeNames names, ∃ c, env.cells.lookup x = some c) →
      (forIn names acc fun (x : Str × NameKind) (cs : List (Str × Addr)) => (if x.2 == .free then do let a ← cellOf env x.1; pure (.yield ((x.1, a) :: cs)) else pure (.yield cs) : Sem (ForInStep (List (Str × Addr))))) = pure (closOf env names acc) := by
    intro names
    induction names with
    | nil => intro acc _; rfl
    | cons y r ih =>
      intro acc hx
      obtain ⟨x, k⟩ := y
      rw [List.forIn_cons]
      by_cases hk : k = .free
      · subst hk
        obtain ⟨c, hc⟩ := hx x (.head _)
        have hcc : cellOf env x = pure c := by unfold cellOf; rw [hc]
        simp only [beq_self_eq_true, if_true]
        rw [hcc]
        show (forIn r ((x, c) :: acc) _ : Sem _) = _
        rw [ih _ fun y hy => hx y (.tail _ hy)]
        show _ = pure (closOf env r ((x, (env.cells.lookup x).getD 0) :: acc))
        rw [hc]; rfl
      · have hb : (k == NameKind.free) = false := by simpa using hk
        simp only [hb, Bool.false_eq_true, if_false]
        show (forIn r acc _ : Sem _) = _
        have e1 : freeNames ((x, k) :: r) = freeNames r := by cases k <;> first | rfl | exact absurd rfl hk
        have e2 : closOf env ((x, k) :: r) acc = closOf env r acc := by cases k <;> first | rfl | exact absurd rfl hk
        rw [e2]
        exact ih acc fun y hy => hx y (e1 ▸ hy)
  have := key scope.names [] h
  simpa using this
theorem closOf_lookup {env : Env} {x : Str} {c : Addr} (hc : env.cells.lookup x = some c) : ∀ (names : List (Str × NameKind)) (acc : List (Str × Addr)), (x ∈ freeNames names ∨ acc.lookup x = some c) → (∀ c', acc.lookup x = some c' → c' = c) → (closOf env names acc).lookup x = some c := by
  intro l0
  induction l0 with
  | nil => exact @fun acc h _ => h.elim (fun h => nomatch h) id
  | cons q0 r ih =>
    obtain ⟨y, k⟩ := q0
    intro acc h hu
    by_cases hk : k = .free
    · subst hk
      show (closOf env r ((y, (env.cells.lookup y).getD 0) :: acc)).lookup x = some c
      by_cases hy : (x == y) = true
      · have : x = y := by simpa using hy
        subst this
        refine ih _ (.inr ?_) fun c' hc' => ?_
        · rw [List.lookup_cons, hy, hc]; rfl
        · rw [List.lookup_cons, hy, hc] at hc'
          simpa using hc'.symm
      · have hy' : (x == y) = false := by simpa using hy
        have e : List.lookup x ((y, (env.cells.lookup y).getD 0) :: acc) = acc.lookup x := by rw [List.lookup_cons, hy']
        refine ih _ ?_ fun c' hc' => hu c' (by rw [e] at hc'; exact hc')
        rcases h with h | h
        · rcases List.mem_cons.mp (show x ∈ y :: freeNames r from h) with h | h
          · subst h; simp at hy'
          · exact .inl h
        · exact .inr (by rw [e]; exact h)
    · have e1 : freeNames ((y, k) :: r) = freeNames r := by cases k <;> first | rfl | exact absurd rfl hk
      have e2 : closOf env ((y, k) :: r) acc = closOf env r acc := by cases k <;> first | rfl | exact absurd rfl hk
      rw [e2]
      exact ih acc (e1 ▸ h) hu
end
section
variable {prog : Program} {w : World} {g : Heap} {n : Nat} {sc : Scope} {ρ ρ' : List Ent}
section
variable {P : Params} {env : Env} {H Hs W : Addr → Prop} {h h' : Heap} {s s₁ s₂ s₀ : Shared} {ρ₁ ρ₂ ρ₀ : List Ent} {D : Addr}
theorem SR.hidden (x : SR P g env H ρ h) (hD : H D) (hs : Heap.SameBut D h h') (hd : (h'.get? D).isSome = true) : SR P g env H ρ h' := by
  have gD := (x.dom D (.inl hD)).2
  have off : ∀ b ∈ env.locals :: V ρ, b ≠ D := fun b hb e => x.sep b hb (e ▸ hD)
  have hk : ∀ b o, b ≠ D → h.get? b = some o → h'.get? b = some o := fun b o hb e => hs.extBut b o hb e
  refine ⟨fun a o e => hk a o (fun ha => by subst ha; rw [gD] at e; cases e) (x.keep a o e), x.nd, x.sep, fun a ha => ⟨?_, (x.dom a ha).2⟩, x.names, ?_⟩
  · by_cases ha' : a = D
    · subst ha'; exact hd
    · obtain ⟨o, ho⟩ := Option.isSome_iff_exists.mp (x.dom a ha).1
      rw [hk a o ha' ho]; rfl
  · obtain ⟨mm, hn, he⟩ := x.ents
    refine ⟨mm, hn.at' fun o e => hk _ o (off _ (.head _)) e, fun e hm => (he e hm).other rfl (fun a o ha e' => hk a o (fun hw => ?_) e') fun a ha => .inl ha⟩
    rcases ha with h | h
    · exact h (.inl (hw ▸ hD))
    · exact off a (.tail _ (fp_sub hm h)) hw
theorem PostX.touch {tk : Nat} (p : PostX P g env Hs W ρ₀ s₀ ρ s) (hW : W D) (hH : Hs D) (hs : Heap.SameBut D s.heap h') (hd : (h'.get? D).isSome = true) : PostX P g env Hs W ρ₀ s₀ ρ { s with heap := h', toks := tk } := by
  refine ⟨p.sr.hidden hH hs hd, ?_, fun b o hb e => hs.extBut b o (fun hc => hb (.inr (hc ▸ hW))) (p.keep b o hb e), p.new, p.shape⟩
  exact same_trans p.same ⟨h', tk, rfl⟩
end
theorem cellsFrom_app : ∀ (names : List (Str × NameKind)) (k : Nat) (a b : List (Str × Addr)), cellsFrom k names (a ++ b) = cellsFrom k names a ++ b := by
  intro l0
  induction l0 with
  | nil => exact @fun _ _ _ => rfl
  | cons q0 r ih =>
    obtain ⟨x, kd⟩ := q0
    intro k a b
    unfold cellsFrom
    split
    · exact ih (k + 1) ((x, k) :: a) b
    · exact ih k a b
theorem cellsFrom_mem : ∀ {names : List (Str × NameKind)} {k : Nat} {a : List (Str × Addr)} {q : Str × Addr}, q ∈ cellsFrom k names a → q ∈ a ∨ (q.1, NameKind.cell) ∈ names := by
  intro l0
  induction l0 with
  | nil => exact @fun _ _ _ h => .inl h
  | cons q0 r ih =>
    obtain ⟨x, kd⟩ := q0
    intro k a q h
    unfold cellsFrom at h
    split at h
    · rename_i hk
      have hk' : kd = .cell := by simpa using hk
      rcases ih h with h | h
      · rcases List.mem_cons.mp h with rfl | h
        · exact .inr (hk' ▸ .head _)
        · exact .inl h
      · exact .inr (.tail _ h)
    · exact (ih h).imp id fun h => .tail _ h
theorem new_comp_env {scope : Scope} {globals : Addr} {cl : List (Str × Addr)} {qual : Str} {outer : Env} {A : Around} {M : Model} {E : Value → Shared → Prop} {s : Shared} {Q : Env → Shared → Prop}
    (hQ : ∀ h', h'.Ns s.heap.objs.size (fun _ => none) → (∀ b o, s.heap.get? b = some o → h'.get? b = some o) → CellsOk h' (s.heap.objs.size + 1) (cellsFrom (s.heap.objs.size + 1) scope.names []) →
      Q { scope := scope, locals := s.heap.objs.size, globals := globals, cells := cellsFrom (s.heap.objs.size + 1) scope.names [] ++ cl, qual := qual, func := none, code := outer.code, frame := outer.frame, builtins := outer.builtins } { s with heap := h' }) :
    wpAny M A (newFunctionEnv scope globals cl [] qual none .none (some outer)) Q E s := by
  simp only [newFunctionEnv, Option.isSome_some, if_true]
  refine wpAny_bind (wpAny_alloc ?_)
  refine wpAny_bind (wpAny_layCells _ (fun name kind cells => by cases hkc : kind == NameKind.cell <;> simp [hkc]) _ _ _ _ ?_)
  have ok := cellsFrom_ok scope.names (s.heap.push { cls := .type "dict", data := .dict #[] }) (s.heap.objs.size + 1) [] ⟨fun _ _ hm => (nomatch hm), List.Pairwise.nil⟩ (by rw [Heap.size_push]; exact Nat.le_refl _)
  rw [Heap.size_push] at ok
  rw [show ({ s with heap := s.heap.push { cls := .type "dict", data := .dict #[] } } : Shared).heap.objs.size = s.heap.objs.size + 1 from Heap.size_push ..]
  have e := cellsFrom_app scope.names (s.heap.objs.size + 1) [] cl
  rw [List.nil_append] at e
  rw [e, List.forIn_nil]
  exact wpAny_bind (wpAny_pure (wpAny_pure (hQ _ ((Heap.Ns.new s.heap (.type "dict")).keeps (pushCells_keeps _ _)) (fun b o e => pushCells_keeps _ _ b o (Heap.get?_push_of_some _ e)) ok)))
noncomputable def nodupB : List Str → Bool
  | [] => true
  | x :: r => !(r.any (· == x)) && nodupB r
theorem nodupB_is : ∀ {l : List Str}, nodupB l = true → l.Nodup := by
  intro l0
  induction l0 with
  | nil => exact @fun _ => List.nodup_nil
  | cons x r ih =>
    intro h
    replace h : (!(r.any (· == x)) && nodupB r) = true := h
    rw [Bool.and_eq_true, Bool.not_eq_true'] at h
    refine List.nodup_cons.mpr ⟨fun hm => ?_, ih h.2⟩
    have := List.any_eq_false.mp h.1 x hm
    simp at this
noncomputable def compOk (scope : Scope) (mask : List Bool) (ρ : List Ent) : Bool :=
  (scope.kind == .function) && nodupB (scope.names.map (·.1)) && (freeNames scope.names).all (fun x => (pickM mask ρ).any fun e => e.x == x) && (pickM mask ρ).all (fun e => ((freeNames scope.names).any fun x => x == e.x) && e.loc.isSome)
theorem freeNames_of : ∀ {names : List (Str × NameKind)} {x : Str}, x ∈ freeNames names → (x, NameKind.free) ∈ names := by
  intro l0
  induction l0 with
  | nil => exact @fun _ h => nomatch h
  | cons q0 r ih =>
    obtain ⟨y, k⟩ := q0
    intro x h
    cases k with
    | free =>
      rcases List.mem_cons.mp (show x ∈ y :: freeNames r from h) with rfl | h
      · exact .head _
      · exact .tail _ (ih h)
    | _ => exact .tail _ (ih (show x ∈ freeNames r from h))
theorem compOk.is {scope : Scope} {mask : List Bool} {ρ : List Ent} (h : compOk scope mask ρ = true) : scope.kind = .function ∧ (scope.names.map (·.1)).Nodup ∧ (∀ x ∈ freeNames scope.names, ∃ e ∈ pickM mask ρ, e.x = x) ∧
    ∀ e ∈ pickM mask ρ, (e.x, NameKind.free) ∈ scope.names ∧ ∃ c, e.loc = some c := by
  unfold compOk at h
  simp only [Bool.and_eq_true] at h
  obtain ⟨⟨⟨h1, h2⟩, h3⟩, h4⟩ := h
  refine ⟨by simpa using h1, nodupB_is h2, fun x hx => ?_, fun e he => ?_⟩
  · have := List.all_eq_true.mp h3 x hx
    obtain ⟨e, he, hh⟩ := List.any_eq_true.mp this
    exact ⟨e, he, by simpa using hh⟩
  · have := List.all_eq_true.mp h4 e he
    rw [Bool.and_eq_true] at this
    obtain ⟨x, hx, hh⟩ := List.any_eq_true.mp this.1
    have : x = e.x := by simpa using hh
    exact ⟨freeNames_of (this ▸ hx), Option.isSome_iff_exists.mp (by rename_i q; exact q.2)⟩
theorem lookup_nd {α : Type} : ∀ {l : List (Str × α)} {x : Str} {c : α}, (l.map (·.1)).Nodup → (x, c) ∈ l → l.lookup x = some c := by
  intro l0
  induction l0 with
  | nil => exact @fun _ _ _ h => nomatch h
  | cons q0 r ih =>
    obtain ⟨y, d⟩ := q0
    intro x c hn h
    rw [List.map_cons, List.nodup_cons] at hn
    rw [List.lookup_cons]
    rcases List.mem_cons.mp h with h1 | h1
    · cases h1; simp
    · have : (x == y) = false := by
        simp only [beq_eq_false_iff_ne, ne_eq]
        rintro rfl
        exact hn.1 (List.mem_map.mpr ⟨_, h1, rfl⟩)
      rw [this]
      exact ih hn.2 h1
theorem lookup_relab {scope sc : Scope} {x : Str} {k : NameKind} (h : scope.names.lookup x = some k) : (relab scope sc).names.lookup x = some k ∨ (k = .free ∧ (relab scope sc).names.lookup x = some .cell) := by
  unfold relab
  show List.lookup x (scope.names.map _) = _ ∨ _
  generalize scope.names = names at h
  induction names with
  | nil => cases h
  | cons y r ih =>
    obtain ⟨y, d⟩ := y
    rw [List.map_cons]
    rw [List.lookup_cons] at h
    cases hb : x == y with
    | true =>
      rw [hb] at h
      cases h
      have : x = y := by simpa using hb
      subst this
      dsimp only
      split
      · rename_i hc
        right
        simp only [Bool.and_eq_true] at hc
        exact ⟨by simpa using hc.1.1, by rw [List.lookup_cons]; simp⟩
      · left; rw [List.lookup_cons]; simp
    | false =>
      rw [hb] at h
      dsimp only
      split <;> (rw [List.lookup_cons, hb]; exact ih h)
theorem mem_locEnts : ∀ {names : List (Str × NameKind)} {e : Ent}, e ∈ locEnts names → (e.x, NameKind.local) ∈ names ∧ e.loc = none ∧ e.sl = .unb := by
  intro l0
  induction l0 with
  | nil => exact @fun _ h => nomatch h
  | cons q0 r ih =>
    obtain ⟨y, k⟩ := q0
    intro e h
    cases k with
    | «local» =>
      rcases List.mem_cons.mp (show e ∈ (⟨y, none, .unb⟩ : Ent) :: locEnts r from h) with rfl | h
      · exact ⟨.head _, rfl, rfl⟩
      · exact (ih h).imp (fun h => .tail _ h) id
    | _ => exact (ih (show e ∈ locEnts r from h)).imp (fun h => .tail _ h) id
theorem V_locEnts : ∀ names : List (Str × NameKind), V (locEnts names) = [] := by
  intro l0
  induction l0 with
  | nil => exact rfl
  | cons q0 r ih =>
    obtain ⟨y, k⟩ := q0
    cases k with
    | «local» => show V ((⟨y, none, .unb⟩ : Ent) :: locEnts r) = []; rw [V_cons, ih]; rfl
    | _ => exact ih
theorem V_cellEnts : ∀ cs : List (Str × Addr), V (cellEnts cs) = cs.map (·.2) := by
  intro l0
  induction l0 with
  | nil => exact rfl
  | cons q0 r ih =>
    obtain ⟨y, c⟩ := q0
    show V ((⟨y, some c, .unb⟩ : Ent) :: cellEnts r) = _
    rw [V_cons, ih]; rfl
theorem locEnts_names : ∀ names : List (Str × NameKind), ((locEnts names).map Ent.x).Sublist (names.map (·.1)) := by
  intro l0
  induction l0 with
  | nil => exact .slnil
  | cons q0 r ih =>
    obtain ⟨y, k⟩ := q0
    cases k with
    | «local» => exact ih.cons₂ _
    | _ => exact ih.cons _
theorem cellsFrom_nd : ∀ (names : List (Str × NameKind)) (k : Nat) (a : List (Str × Addr)), (names.map (·.1)).Nodup → (a.map (·.1)).Nodup → (∀ q ∈ a, q.1 ∉ names.map (·.1)) → ((cellsFrom k names a).map (·.1)).Nodup := by
  intro l0
  induction l0 with
  | nil => exact @fun _ _ _ h _ => h
  | cons q0 r ih =>
    obtain ⟨x, kd⟩ := q0
    intro k a hn ha hd
    rw [List.map_cons, List.nodup_cons] at hn
    unfold cellsFrom
    split
    · refine ih (k + 1) _ hn.2 (List.nodup_cons.mpr ⟨fun h => ?_, ha⟩) fun q hq => ?_
      · obtain ⟨q, hq, e⟩ := List.mem_map.mp h
        exact hd q hq (e ▸ .head _)
      · rcases List.mem_cons.mp hq with rfl | hq
        · exact hn.1
        · exact fun h => hd q hq (.tail _ h)
    · exact ih k a hn.2 ha fun q hq h => hd q hq (.tail _ h)
theorem pick_names {m : List Bool} {ρ : List Ent} (h : (ρ.map Ent.x).Nodup) : ((pickM m ρ).map Ent.x).Nodup := by
  exact ((mr_is (m := m) (ρ := ρ) rfl).sub1.map _).nodup h
noncomputable def WIfs (prog : Program) (w : World) (g : Heap) (n : Nat) (sc : Scope) (ifs : List Expr) (ρ : List Ent) (K : Bool → List Ent → Prop) : Prop :=
  match ifs with
  | [] => K true ρ
  | [c] => WT prog w g n sc c ρ K
  | _ => False
noncomputable def ownLen (scope : Scope) : Nat := (locEnts scope.names).length + (cellsFrom 0 scope.names []).length
theorem cellsFrom_len : ∀ (names : List (Str × NameKind)) (k k' : Nat) (a a' : List (Str × Addr)), a.length = a'.length → (cellsFrom k names a).length = (cellsFrom k' names a').length := by
  intro l0
  induction l0 with
  | nil => exact @fun _ _ _ _ h => h
  | cons q0 r ih =>
    obtain ⟨x, kd⟩ := q0
    intro k k' a a' h
    unfold cellsFrom
    split
    · exact ih _ _ _ _ (by simp [h])
    · exact ih _ _ _ _ h
section
variable {P : Params} {env : Env} {H : Addr → Prop} {s s₀ s₁ s₂ : Shared} {ρ₁ : List Ent} {mask : List Bool} {scope : Scope}
theorem comp_start {h₀ : Heap} {wr : Addr → Prop} {C D : Addr} {cenv : Env} (hok : compOk scope mask ρ₁ = true) (sr : SR P g env H ρ₁ s₁.heap) (hcells : cenv.cells = cellsFrom (C + 1) scope.names [] ++ closOf env scope.names []) (hloc : cenv.locals = C) (hsc : cenv.scope = relab scope env.scope)
    (ks : Keeps s₁ s₂) (hk : ∀ b o, s₂.heap.get? b = some o → h₀.get? b = some o) (hwr : ∀ a, wr a → s₁.heap.get? a = none ∧ (s₂.heap.get? a).isSome = true)
    (hD : s₂.heap.get? D = none) (hD0 : (h₀.get? D).isSome = true) (hC : s₂.heap.get? C = none) (hCD : C ≠ D) (hns : h₀.Ns C fun _ => none) (hown : CellsOk h₀ (C + 1) (cellsFrom (C + 1) scope.names [])) (hbig : ∀ a, C ≤ a → s₂.heap.get? a = none) (hDC : ∀ a, C < a → a ≠ D) :
    SR P g cenv (fun a => (Tt env H ρ₁ a ∧ a ∉ V (pickM mask ρ₁)) ∨ (wr a ∨ a = D)) (compρ scope C (pickM mask ρ₁)) h₀ := by
  obtain ⟨hkind, hnd, hfree, hpick⟩ := compOk.is hok
  obtain ⟨mm, hn, he⟩ := sr.ents
  have k0 : ∀ b o, s₁.heap.get? b = some o → h₀.get? b = some o := fun b o e => hk b o (keeps_get ks e)
  have old : ∀ b, Tt env H ρ₁ b → (s₁.heap.get? b).isSome = true := fun b hb => (sr.dom b hb).1
  have Vsub : ∀ b ∈ V (pickM mask ρ₁), b ∈ V ρ₁ := fun b hb => by
    obtain ⟨e, he, hb⟩ := List.mem_flatMap.mp hb
    exact List.mem_flatMap.mpr ⟨e, pick_mem he, hb⟩
  have oldne : ∀ b a, (s₁.heap.get? b).isSome = true → s₂.heap.get? a = none → b ≠ a := fun b a h1 h2 e => by
    subst e; rw [keeps_none ks h2] at h1; cases h1
  have gnone : ∀ b, s₂.heap.get? b = none → g.get? b = none := fun b hb => by
    cases e : g.get? b with
    | none => rfl
    | some o => rw [keeps_get ks (sr.keep b o e)] at hb; cases hb
  have own_mem : ∀ b ∈ (cellsFrom (C + 1) scope.names []).map (·.2), C < b ∧ (h₀.get? b).isSome = true := fun b hb => by
    obtain ⟨q, hq, rfl⟩ := List.mem_map.mp hb
    obtain ⟨⟨o, ho, _⟩, h2⟩ := hown.empty q.1 q.2 hq
    exact ⟨h2, by rw [ho]; rfl⟩
  have VV : V (compρ scope C (pickM mask ρ₁)) = (cellsFrom (C + 1) scope.names []).map (·.2) ++ V (pickM mask ρ₁) := by
    unfold compρ
    rw [V_app, V_app, V_locEnts, V_cellEnts, List.nil_append]
  have hnV : (V ρ₁).Nodup := (List.nodup_cons.mp sr.nd).2
  have pk : ∀ q ∈ cellsFrom (C + 1) scope.names [], (q.1, NameKind.cell) ∈ scope.names := fun q hq => (cellsFrom_mem hq).resolve_left (by simp)
  have ndown : ((cellsFrom (C + 1) scope.names []).map (·.1)).Nodup := cellsFrom_nd _ _ _ hnd List.nodup_nil (by simp)
  have kinds : ∀ {x : Str} {a b : NameKind}, (x, a) ∈ scope.names → (x, b) ∈ scope.names → a = b := fun h1 h2 => by
    have := lookup_nd hnd h1
    rw [lookup_nd hnd h2] at this
    cases this; rfl
  refine ⟨fun a o e => k0 a o (sr.keep a o e), ?_, ?_, ?_, ?_, ?_⟩
  · rw [hloc, VV]
    refine List.nodup_cons.mpr ⟨fun hm => ?_, List.nodup_append.mpr ⟨?_, ?_, fun a ha b hb e => ?_⟩⟩
    · rcases List.mem_append.mp hm with h | h
      · exact Nat.lt_irrefl _ (own_mem _ h).1
      · exact oldne C C (old C (.inr (.inr (Vsub _ h)))) hC rfl
    · exact List.pairwise_map.mpr hown.apart
    · exact (List.nodup_append.mp ((List.Perm.nodup_iff (V_perm mask ρ₁)).mp hnV)).1
    · have h1 := (own_mem _ ha).1
      exact oldne b a (old b (.inr (.inr (Vsub _ hb)))) (hbig a (Nat.le_of_lt h1)) e.symm
  · rw [hloc, VV]
    have new : ∀ a, s₂.heap.get? a = none → a ≠ D → ¬ ((Tt env H ρ₁ a ∧ a ∉ V (pickM mask ρ₁)) ∨ (wr a ∨ a = D)) := fun a ha hD hc => by
      rcases hc with h | h | h
      · exact oldne a a (old a h.1) ha rfl
      · have := (hwr a h).2; rw [ha] at this; cases this
      · exact hD h
    intro a ha
    rcases List.mem_cons.mp ha with rfl | ha
    · exact new _ hC hCD
    · rcases List.mem_append.mp ha with h | h
      · have h1 := (own_mem _ h).1
        exact new _ (hbig a (Nat.le_of_lt h1)) (hDC a h1)
      · rintro (h1 | h1 | h1)
        · exact h1.2 h
        · have := old a (.inr (.inr (Vsub _ h)))
          rw [(hwr a h1).1] at this; cases this
        · exact oldne a D (old a (.inr (.inr (Vsub _ h)))) hD h1
  · intro a ha
    have o1 : ∀ a, Tt env H ρ₁ a → (h₀.get? a).isSome = true ∧ g.get? a = none := fun a ha => by
      obtain ⟨o, ho⟩ := Option.isSome_iff_exists.mp (old a ha)
      exact ⟨by rw [k0 a o ho]; rfl, (sr.dom a ha).2⟩
    rcases ha with (h | h | h) | h | h
    · exact o1 a h.1
    · obtain ⟨o, ho⟩ := Option.isSome_iff_exists.mp (hwr a h).2
      refine ⟨by rw [hk a o ho]; rfl, ?_⟩
      cases e : g.get? a with
      | none => rfl
      | some o => have := (hwr a h).1; rw [sr.keep a o e] at this; cases this
    · exact ⟨h ▸ hD0, gnone a (h ▸ hD)⟩
    · rw [h, hloc]
      obtain ⟨o, _, _, ho, _⟩ := hns
      exact ⟨by rw [ho]; rfl, gnone C hC⟩
    · rw [VV] at h
      rcases List.mem_append.mp h with h | h
      · exact ⟨(own_mem a h).2, gnone a (hbig a (Nat.le_of_lt (own_mem a h).1))⟩
      · exact o1 a (.inr (.inr (Vsub a h)))
  · unfold compρ
    rw [List.map_append, List.map_append]
    have cn : (cellEnts (cellsFrom (C + 1) scope.names [])).map Ent.x = (cellsFrom (C + 1) scope.names []).map (·.1) := by unfold cellEnts; rw [List.map_map]; rfl
    rw [cn]
    refine List.nodup_append.mpr ⟨List.nodup_append.mpr ⟨(locEnts_names _).nodup hnd, ndown, fun a ha b hb e => ?_⟩, pick_names sr.names, fun a ha b hb e => ?_⟩
    · obtain ⟨e1, h1, rfl⟩ := List.mem_map.mp ha
      obtain ⟨q, h2, rfl⟩ := List.mem_map.mp hb
      have := kinds (mem_locEnts h1).1 (e ▸ pk q h2)
      cases this
    · obtain ⟨e2, h2, rfl⟩ := List.mem_map.mp hb
      rcases List.mem_append.mp ha with ha | ha
      · obtain ⟨e1, h1, rfl⟩ := List.mem_map.mp ha
        have := kinds (mem_locEnts h1).1 (e ▸ (hpick e2 h2).1)
        cases this
      · obtain ⟨q, h1, rfl⟩ := List.mem_map.mp ha
        have := kinds (pk q h1) (e ▸ (hpick e2 h2).1)
        cases this
  · refine ⟨fun _ => none, hloc ▸ hns, fun e hm => ?_⟩
    have hko : ∀ x, cenv.kindOf x = (relab scope env.scope).names.lookup x := fun x => by unfold Env.kindOf; rw [hsc]
    unfold EntIs
    rcases List.mem_append.mp hm with hm | hm
    · rcases List.mem_append.mp hm with hm | hm
      · obtain ⟨h1, h2, h3⟩ := mem_locEnts hm
        rw [h2, h3]
        refine ⟨?_, rfl⟩
        rw [hko]
        rcases lookup_relab (sc := env.scope) (lookup_nd hnd h1) with h | h
        · exact h
        · cases h.1
      · obtain ⟨q, hq, rfl⟩ := List.mem_map.mp hm
        refine ⟨.inl ?_, ?_, none, (hown.empty q.1 q.2 hq).1, rfl⟩
        · rw [hko]
          rcases lookup_relab (sc := env.scope) (lookup_nd hnd (pk q hq)) with h | h
          · exact h
          · cases h.1
        · show cenv.cells.lookup q.1 = some q.2
          rw [hcells, List.lookup_append, lookup_nd ndown (show (q.1, q.2) ∈ _ from hq)]; rfl
    · obtain ⟨h1, c, hc⟩ := hpick e hm
      have z := he e (pick_mem hm)
      unfold EntIs at z
      rw [hc] at z ⊢
      obtain ⟨z1, z2, ov, z3, z4⟩ := z
      refine ⟨?_, ?_, ov, z3.keeps k0, z4.mono (fun a o _ e => k0 a o e) ?_⟩
      · rw [hko]
        rcases lookup_relab (sc := env.scope) (lookup_nd hnd h1) with h | h
        · exact .inr h
        · exact .inl h.2
      · rw [hcells, List.lookup_append]
        have hno : (cellsFrom (C + 1) scope.names []).lookup e.x = none := by
          cases q : (cellsFrom (C + 1) scope.names []).lookup e.x with
          | none => rfl
          | some c' =>
            have := kinds (pk _ (mem_of_lookup q)) h1
            cases this
        rw [hno]
        show List.lookup e.x (closOf env scope.names []) = some c
        exact closOf_lookup z2 scope.names [] (.inl (freeNames_mem h1)) (fun c' h => nomatch h)
      · have fresh : ∀ a, s₂.heap.get? a = none → Tt env H ρ₁ a ∨ s₁.heap.get? a = none := fun a ha => .inr (keeps_none ks ha)
        rintro a ((h | h | h) | h | h)
        · exact .inl h.1
        · exact .inr (hwr a h).1
        · exact fresh a (h ▸ hD)
        · rw [hloc] at h; exact fresh a (h ▸ hC)
        · rw [VV] at h
          rcases List.mem_append.mp h with h | h
          · exact fresh a (hbig a (Nat.le_of_lt (own_mem a h).1))
          · exact .inl (.inr (.inr (Vsub a h)))
theorem sig_mem {ρ ρ' : List Ent} (h : sig ρ' = sig ρ) {e : Ent} (he : e ∈ ρ') : ∃ e₀ ∈ ρ, e₀.x = e.x ∧ e₀.loc = e.loc := by
  have : (e.x, e.loc) ∈ sig ρ := h ▸ List.mem_map.mpr ⟨e, he, rfl⟩
  obtain ⟨e0, h0, h1⟩ := List.mem_map.mp this
  exact ⟨e0, h0, (Prod.mk.inj h1).1, (Prod.mk.inj h1).2⟩
theorem sig_names {ρ ρ' : List Ent} (h : sig ρ' = sig ρ) : ρ'.map Ent.x = ρ.map Ent.x := by
  have := congrArg (List.map Prod.fst) h
  simpa [sig, Function.comp_def] using this
theorem comp_end {wr : Addr → Prop} {C D : Addr} {cenv : Env} {ρo ρs : List Ent} {s' : Shared} {xs : List PV} {vs : List Value} (sr : SR P g env H ρ₁ s₁.heap) (hloc : cenv.locals = C)
    (ks : Keeps s₁ s₂) (k0 : Keeps s₂ s₀) (hwr : ∀ a, wr a → s₁.heap.get? a = none) (hD : s₂.heap.get? D = none) (hbig : ∀ a, C ≤ a → s₂.heap.get? a = none) (hok : compOk scope mask ρ₁ = true)
    (hown : CellsOk s₀.heap (C + 1) (cellsFrom (C + 1) scope.names []))
    (q : PostX P g cenv (fun a => Tt env H ρ₁ a ∧ a ∉ V (pickM mask ρ₁)) (fun a => wr a ∨ a = D) (compρ scope C (pickM mask ρ₁)) s₀ (ρo ++ ρs) s')
    (hlen : ρo.length = ownLen scope) (hDV : D ∉ V (ρo ++ ρs)) (hl : s'.heap.PlainList D vs.toArray) (hr : RdL s'.heap (Tt cenv (fun a => Tt env H ρ₁ a ∧ a ∉ V (pickM mask ρ₁)) (ρo ++ ρs)) xs vs) :
    PostX P g env (fun a => H a ∨ a = C) (· = C) ρ₁ s₁ (mergeM mask ρ₁ ρs) s' ∧ Rd s'.heap (Tt env (fun a => H a ∨ a = C) (mergeM mask ρ₁ ρs)) (.list xs) (.ref D) ∧ (∃ m, s'.heap.Ns C m) := by
  obtain ⟨hkind, hnd, hfree, hpick⟩ := compOk.is hok
  have hsig : sig ρs = sig (pickM mask ρ₁) := by
    have := q.shape
    have e : compρ scope C (pickM mask ρ₁) = (locEnts scope.names ++ cellEnts (cellsFrom (C + 1) scope.names [])) ++ pickM mask ρ₁ := rfl
    rw [e, List.map_append, List.map_append] at this
    refine (List.append_inj this ?_).2
    simp only [List.length_map, List.length_append]
    rw [hlen]
    unfold ownLen cellEnts
    rw [List.length_map, cellsFrom_len scope.names (C + 1) 0 [] [] rfl]
  have hC : s₂.heap.get? C = none := hbig C (Nat.le_refl _)
  have hC1 : s₁.heap.get? C = none := keeps_none ks hC
  have hD1 : s₁.heap.get? D = none := keeps_none ks hD
  have perm := merge_perm mask ρ₁ ρs hsig
  have hin : ∀ b, b ∈ V (mergeM mask ρ₁ ρs) ↔ b ∈ V ρs ∨ b ∈ V (restM mask ρ₁) := fun b => by rw [perm.mem_iff, List.mem_append]
  have hV1 : ∀ b, b ∈ V ρ₁ ↔ b ∈ V (pickM mask ρ₁) ∨ b ∈ V (restM mask ρ₁) := fun b => by rw [(V_perm mask ρ₁).mem_iff, List.mem_append]
  have hnV : (V (pickM mask ρ₁) ++ V (restM mask ρ₁)).Nodup := (List.Perm.nodup_iff (V_perm mask ρ₁)).mp (List.nodup_cons.mp sr.nd).2
  have old : ∀ b, Tt env H ρ₁ b → (s₁.heap.get? b).isSome = true := fun b hb => (sr.dom b hb).1
  have restHc : ∀ b ∈ V (restM mask ρ₁), Tt env H ρ₁ b ∧ b ∉ V (pickM mask ρ₁) := fun b hb =>
    ⟨.inr (.inr ((hV1 b).mpr (.inr hb))), fun hc => (List.nodup_append.mp hnV).2.2 b hc b hb rfl⟩
  have locHc : Tt env H ρ₁ env.locals ∧ env.locals ∉ V (pickM mask ρ₁) := ⟨.inr (.inl rfl), fun hc => (List.nodup_cons.mp sr.nd).1 ((hV1 _).mpr (.inl hc))⟩
  have HHc : ∀ b, H b → Tt env H ρ₁ b ∧ b ∉ V (pickM mask ρ₁) := fun b hb => ⟨.inl hb, fun hc => sr.sep b (.tail _ ((hV1 _).mpr (.inl hc))) hb⟩
  have sepS : ∀ b ∈ V ρs, ¬ (Tt env H ρ₁ b ∧ b ∉ V (pickM mask ρ₁)) := fun b hb => q.sr.sep b (.tail _ (by rw [V_app]; exact List.mem_append.mpr (.inr hb)))
  have VsV : ∀ b ∈ V ρs, b ∈ V (ρo ++ ρs) := fun b hb => by rw [V_app]; exact List.mem_append.mpr (.inr hb)
  have ownfresh : ∀ b ∈ (cellsFrom (C + 1) scope.names []).map (·.2), s₂.heap.get? b = none := fun b hb => by
    obtain ⟨p, hp, rfl⟩ := List.mem_map.mp hb
    exact hbig _ (Nat.le_of_lt (hown.empty p.1 p.2 hp).2)
  have VV : V (compρ scope C (pickM mask ρ₁)) = (cellsFrom (C + 1) scope.names []).map (·.2) ++ V (pickM mask ρ₁) := by
    unfold compρ
    rw [V_app, V_app, V_locEnts, V_cellEnts, List.nil_append]
  have keep1 : ∀ b o, b ∉ V (pickM mask ρ₁) → s₁.heap.get? b = some o → s'.heap.get? b = some o := fun b o hb e => by
    refine q.keep b o (fun hc => ?_) (keeps_get k0 (keeps_get ks e))
    rcases hc with (h | h) | h | h
    · rw [hloc] at h; rw [h, hC1] at e; cases e
    · rw [VV] at h
      rcases List.mem_append.mp h with h | h
      · rw [keeps_none ks (ownfresh b h)] at e; cases e
      · exact hb h
    · rw [hwr b h] at e; cases e
    · rw [h, hD1] at e; cases e
  have newS : ∀ b ∈ V ρs, b ∈ V (pickM mask ρ₁) ∨ s₁.heap.get? b = none := fun b hb => by
    rcases q.new b (VsV b hb) with h | h
    · rw [VV] at h
      rcases List.mem_append.mp h with h | h
      · exact .inr (keeps_none ks (ownfresh b h))
      · exact .inl h
    · exact .inr (keeps_none ks (keeps_none k0 h))
  have CnV : C ∉ V (ρo ++ ρs) := fun h => (List.nodup_cons.mp q.sr.nd).1 (hloc ▸ h)
  have sepC : ∀ b ∈ env.locals :: V (mergeM mask ρ₁ ρs), ¬ (H b ∨ b = C) := by
    intro b hb hc
    rcases List.mem_cons.mp hb with rfl | hb
    · rcases hc with h | h
      · exact sr.sep _ (.head _) h
      · have := old env.locals (.inr (.inl rfl)); rw [h, hC1] at this; cases this
    · rcases (hin b).mp hb with h | h
      · rcases hc with h' | h'
        · exact sepS b h (HHc b h')
        · exact CnV (h' ▸ VsV b h)
      · rcases hc with h' | h'
        · exact sr.sep b (.tail _ ((hV1 b).mpr (.inr h))) h'
        · have := old b (restHc b h).1; rw [h', hC1] at this; cases this
  have TT : ∀ a, Tt env (fun a => H a ∨ a = C) (mergeM mask ρ₁ ρs) a → Tt cenv (fun a => Tt env H ρ₁ a ∧ a ∉ V (pickM mask ρ₁)) (ρo ++ ρs) a := by
    rintro a ((h | h) | h | h)
    · exact .inl (HHc a h)
    · exact .inr (.inl (by rw [hloc]; exact h))
    · exact .inl (h ▸ locHc)
    · rcases (hin a).mp h with h | h
      · exact .inr (.inr (VsV a h))
      · exact .inl (restHc a h)
  refine ⟨⟨⟨q.sr.keep, ?_, sepC, fun a ha => ?_, ?_, ?_⟩, ?_, fun b o hb e => ?_, fun b hb => ?_, ?_⟩, ⟨D, vs, rfl, fun hc => ?_, hl, hr.mono (fun _ _ _ e => e) fun a ha => .inl (TT a ha)⟩, ?_⟩
  · refine List.nodup_cons.mpr ⟨fun hm => ?_, (List.Perm.nodup_iff perm).mpr (List.nodup_append.mpr ⟨?_, (List.nodup_append.mp hnV).2.1, fun a ha b hb e => ?_⟩)⟩
    · rcases (hin _).mp hm with h | h
      · exact sepS _ h locHc
      · exact (List.nodup_cons.mp sr.nd).1 ((hV1 _).mpr (.inr h))
    · have := (List.nodup_cons.mp q.sr.nd).2
      rw [V_app] at this
      exact (List.nodup_append.mp this).2.1
    · subst e
      exact sepS a ha (restHc a hb)
  · refine ⟨(q.sr.dom a (TT a ha)).1, ?_⟩
    exact (q.sr.dom a (TT a ha)).2
  · rw [sig_names (merge_sig mask ρ₁ ρs hsig)]; exact sr.names
  · obtain ⟨mm, hn, he⟩ := sr.ents
    obtain ⟨mc, hnc, hec⟩ := q.sr.ents
    refine ⟨mm, hn.at' fun o e => keep1 _ o locHc.2 e, fun e hm => ?_⟩
    rcases merge_mem mask ρ₁ ρs hsig e hm with h | h
    · obtain ⟨e0, h0, hx, hlc⟩ := sig_mem hsig h
      have z0 := he e0 (pick_mem h0)
      have z := hec e (List.mem_append.mpr (.inr h))
      obtain ⟨_, c, hc⟩ := hpick e0 h0
      unfold EntIs at z0 z ⊢
      rw [hc] at z0
      rw [← hlc, hc] at z ⊢
      obtain ⟨_, _, ov, z3, z4⟩ := z
      obtain ⟨y1, y2, _⟩ := z0
      rw [hx] at y1 y2
      exact ⟨y1, y2, ov, z3, z4.mono (fun _ _ _ e => e) fun a ha => .inl (TT a ha)⟩
    · refine (he e (rest_mem h)).other rfl (fun a o ha e' => keep1 a o (fun hc => ?_) e') fun a ha => ?_
      · rcases ha with ha | ha
        · exact ha (.inr (.inr ((hV1 a).mpr (.inl hc))))
        · exact (restHc a (fp_sub h ha)).2 hc
      · rcases ha with (h | h) | h | h
        · exact .inl (.inl h)
        · exact .inr (h ▸ hC1)
        · exact .inl (.inr (.inl h))
        · rcases (hin a).mp h with h | h
          · exact (newS a h).imp (fun h => .inr (.inr ((hV1 a).mpr (.inl h)))) id
          · exact .inl (restHc a h).1
  · exact same_trans (keeps_same ks) (same_trans (keeps_same k0) q.same)
  · exact keep1 b o (fun hc => hb (.inl (.inr ((hV1 b).mpr (.inl hc))))) e
  · rcases (hin b).mp hb with h | h
    · exact (newS b h).imp (fun h => (hV1 b).mpr (.inl h)) id
    · exact .inl ((hV1 b).mpr (.inr h))
  · exact merge_sig mask ρ₁ ρs hsig
  · rcases hc with (h | h) | h | h
    · have := old D (.inl h); rw [hD1] at this; cases this
    · obtain ⟨mc, ⟨o, es, ep, ho, hd, _⟩, _⟩ := q.sr.ents
      obtain ⟨nn, hl⟩ := hl
      rw [hloc, ← h, hl] at ho
      cases ho
      cases hd
    · have := old env.locals (.inr (.inl rfl)); rw [← h, hD1] at this; cases this
    · rcases (hin D).mp h with h | h
      · exact hDV (VsV D h)
      · have := old D (restHc D h).1; rw [hD1] at this; cases this
  · obtain ⟨mc, hnc, _⟩ := q.sr.ents
    exact ⟨mc, hloc ▸ hnc⟩
end
end
section
variable {prog : Program} {w : World} {g : Heap} {n : Nat} {sc : Scope} {ρ ρ' : List Ent}
inductive CompI (G : List PV → (List PV → List Ent → Prop) → List Ent → Prop) (m : Nat) (B : Nat → List Ent → (List Ent → Prop) → Prop) (xs₀ : List PV) (ρ₀ : List Ent) (Fin : List PV → List Ent → Prop) : Prop
  | mk (I : Nat → List PV → List Ent → Prop) (i0 : I 0 xs₀ ρ₀) (turn : ∀ i, i < m → ∀ F : List PV → List Ent → Prop, (∀ xs ρ, I (i + 1) xs ρ → F xs ρ) → ∀ acc ρ, I i acc ρ → B i ρ (G acc F)) (fin : ∀ acc ρ, I m acc ρ → Fin acc ρ)
variable (prog w g n sc) in
noncomputable def Clause1 (scope : Scope) (ifs : List Expr) (elt : Expr) (acc : List PV) (F : List PV → List Ent → Prop) (ρ' : List Ent) : Prop :=
  WIfs prog w g n (relab scope sc) ifs ρ' fun b ρ'' => if b = true then WE prog w g n (relab scope sc) elt ρ'' (fun d ρ₃ => F (acc ++ [d]) ρ₃) else F acc ρ''
inductive CompEnd (mask : List Bool) (scope : Scope) (Kout : PV → List Ent → Prop) (ρ₁ : List Ent) (acc : List PV) (ρ : List Ent) : Prop
  | mk (ρo ρs : List Ent) (e : ρ = ρo ++ ρs) (hl : ρo.length = ownLen scope) (k : Kout (.list acc) (mergeM mask ρ₁ ρs))
noncomputable def CompG (G : List PV → (List PV → List Ent → Prop) → List Ent → Prop) (mask : List Bool) (scope : Scope) (Kout : PV → List Ent → Prop) (m : Nat) (B : Nat → List Ent → (List Ent → Prop) → Prop) (ρ₁ : List Ent) : Prop :=
  compOk scope mask ρ₁ = true ∧ ∀ C, CompI G m B [] (compρ scope C (pickM mask ρ₁)) (CompEnd mask scope Kout ρ₁)
variable (prog w g n sc) in
inductive CompK (mask : List Bool) (scope : Scope) (ifs : List Expr) (elt : Expr) (Kout : PV → List Ent → Prop) (m : Nat) (B : Nat → List Ent → (List Ent → Prop) → Prop) (ρ₁ : List Ent) : Prop
  | mk (ok : compOk scope mask ρ₁ = true) (hm : m ≤ 2 ^ 20) (t : ∀ C, CompI (Clause1 prog w g n sc scope ifs elt) m B [] (compρ scope C (pickM mask ρ₁)) (CompEnd mask scope Kout ρ₁))
theorem wifs_any {env : Env} {A : Around} {H : Addr → Prop} {s : Shared} {ifs : List Expr} {K : Bool → List Ent → Prop} {Q : Bool → Shared → Prop} {E : Value → Shared → Prop} (h : WIfs prog w g n sc ifs ρ K) (hsc : env.scope = sc) (ok : EnvOk env) (hA : Room n A) (sr : SR w.params g env H ρ s.heap)
    (hQ : ∀ b ρ' s', K b ρ' → Post0 w.params g env H ρ s ρ' s' → Q b s') :
    wpAny (model prog w) A (forIn ifs true fun c r => if r = true then do let ok ← isTrue c env (eval c env); pure (ForInStep.yield ok) else pure (ForInStep.yield r)) Q E s := by
  match ifs, h with
  | [], h => exact wpAny_tests_nil (hQ _ _ _ h (SR.post sr))
  | [c], h =>
    refine wpAny_tests_one (wpAny_mono (h env A H s hsc ok hA sr) (fun b s' hb => ?_) noE_to)
    obtain ⟨ρ', k, p⟩ := hb
    exact hQ _ _ _ k p
  | _ :: _ :: _, h => exact h.elim
theorem WIfs.mono {ifs : List Expr} {K K' : Bool → List Ent → Prop} (h : WIfs prog w g n sc ifs ρ K) (hk : ∀ d ρ', K d ρ' → K' d ρ') : WIfs prog w g n sc ifs ρ K' := by
  match ifs, h with
  | [], h => exact hk _ _ h
  | [c], h => exact WT.mono h hk
  | _ :: _ :: _, h => exact h.elim
section
variable {elt : Expr} {gens : List Comprehension} {scope : Scope} {epos : Pos} {k : Nat} {cenv : Env} {A : Around} {D : Addr} {it : Value} {target : Expr} {m : Nat} {St : Nat → Heap → Prop} {B : Nat → List Ent → (List Ent → Prop) → Prop} {pos : Pos} {T : Sem Fin}
inductive TR (P : Params) (g : Heap) (cenv : Env) (H : Addr → Prop) (D : Addr) (F : List PV → List Ent → Prop) (ρ : List Ent) (s s' : Shared) : Prop
  | mk (xs : List PV) (vs : List Value) (ρ' : List Ent) (k : F xs ρ') (l : s'.heap.PlainList D (List.toArray vs)) (r : RdL s'.heap (Tt cenv H ρ') xs vs) (p : PostX P g cenv H (· = D) ρ s ρ' s')
variable (prog w g) in
noncomputable def Tail (cenv : Env) (A : Around) (D : Addr) (T : Sem Fin) (c : Code) (xs : List PV) (F : List PV → List Ent → Prop) (ρ : List Ent) : Prop :=
  ∀ (H : Addr → Prop) (s : Shared) (vs : List Value), H D → SR w.params g cenv H ρ s.heap → s.heap.PlainList D vs.toArray → RdL s.heap (Tt cenv H ρ) xs vs →
    wpAny (model prog w) A T (fun f s' => f = .again c ∧ TR w.params g cenv H D F ρ s s') noE s
inductive CI (P : Params) (g : Heap) (cenv : Env) (Hc : Addr → Prop) (wr : Addr → Prop) (D : Addr) (ρc : List Ent) (s₀ : Shared) (m : Nat) (St : Nat → Heap → Prop) (I : Nat → List PV → List Ent → Prop) (c : Nat) (s' : Shared) : Prop
  | mk (i : Nat) (ρ : List Ent) (xs : List PV) (vs : List Value) (hc : c = m + 1 - i) (hi : i ≤ m) (k : I i xs ρ) (st : St i s'.heap) (l : s'.heap.PlainList D (List.toArray vs)) (r : RdL s'.heap (Tt cenv (fun a => Hc a ∨ (wr a ∨ a = D)) ρ) xs vs)
      (p : PostX P g cenv (fun a => Hc a ∨ (wr a ∨ a = D)) (fun a => wr a ∨ a = D) ρc s₀ ρ s')
theorem comp_loop {Hc wr : Addr → Prop} {ρc : List Ent} {s₀ : Shared} {xs₀ : List PV} {vs₀ : List Value} {G : List PV → (List PV → List Ent → Prop) → List Ent → Prop} {I : Nat → List PV → List Ent → Prop} {R : Result → Shared → Prop} (Li : Nat → List PV → Prop)
    (hT : compTurn (.ListComp elt gens scope epos) k it (.ref D) cenv = (do standAt pos; match ← pyNext it with | none => pure (.done .next) | some v => (do letOwnedTupleGo target it v; assign target cenv v; T)))
    (Lp : Loop prog w g cenv A Hc ρc s₀ it target m wr (· = D) St B) (hwD : ¬ wr D) (sr0 : SR w.params g cenv (fun a => Hc a ∨ (wr a ∨ a = D)) ρc s₀.heap)
    (st0 : St 0 s₀.heap) (hl : s₀.heap.PlainList D vs₀.toArray) (hr : RdL s₀.heap (Tt cenv (fun a => Hc a ∨ (wr a ∨ a = D)) ρc) xs₀ vs₀) (i0 : I 0 xs₀ ρc) (l0 : Li 0 xs₀)
    (turn : ∀ i acc ρ, i < m → I i acc ρ → B i ρ (G acc (I (i + 1))))
    (tail : ∀ i acc ρ, i < m → Li i acc → G acc (I (i + 1)) ρ → Tail prog w g cenv A D T (.compLoop (.ListComp elt gens scope epos) k it (.ref D) cenv) acc (fun xs ρ => I (i + 1) xs ρ ∧ Li (i + 1) xs) ρ)
    (fin : ∀ xs vs ρ' s', I m xs ρ' → ¬ (D = cenv.locals ∨ D ∈ V ρ') → s'.heap.PlainList D (List.toArray vs) → RdL s'.heap (Tt cenv Hc ρ') xs vs → PostX w.params g cenv Hc (fun a => wr a ∨ a = D) ρc s₀ ρ' s' → R (.ok .next) s') :
    codeAny (model prog w) A (.compLoop (.ListComp elt gens scope epos) k it (.ref D) cenv) R s₀ := by
  refine codeAny_loop rfl (CI w.params g cenv Hc wr D ρc s₀ m St fun i xs ρ => I i xs ρ ∧ Li i xs) ?_ (m + 1) ⟨0, _, xs₀, vs₀, rfl, Nat.zero_le _, ⟨i0, l0⟩, st0, hl, hr, PostX.start sr0⟩
  rintro c s' ⟨i, ρ2, xs, vs, rfl, hi, ⟨hI, hL⟩, hst, hl, hr, p⟩
  show wpAny _ A ((compTurn (.ListComp elt gens scope epos) k it (.ref D) cenv).onRaise (fun x => do noteFrame x cenv; theTreesLotGoes x)) _ _ s'
  refine wpAny_noted ?_
  rw [hT]
  refine wpAny_bind (wpAny_standAt (wpAny_bind ?_))
  have offD : ¬ (D = cenv.locals ∨ D ∈ V ρ2) := fun hc => p.sr.sep D (List.mem_cons.mpr hc) (.inr (.inr rfl))
  by_cases hlt : i < m
  · refine wpAny_mono (Lp.turn i ρ2 s' _ hlt hst p (turn i xs ρ2 hlt hI)) (fun r s3 h3 => ?_) noE_to
    obtain ⟨v, rfl, h3⟩ := h3
    refine wpAny_bind (wpAny_mono h3 (fun _ s4 h4 => wpAny_bind (wpAny_mono h4 (fun _ s5 h5 => ?_) noE_to)) noE_to)
    obtain ⟨ρ3, k3, st3, p3⟩ := h5
    have q3 := p.comp (fun a h => .inl h) (fun a h => .inr h) p3
    refine wpAny_mono (tail i xs ρ3 hlt hL k3 _ s5 vs (.inr (.inr rfl)) p3.sr (hl.at fun o e => p3.keep D o (fun hc => hc.elim offD hwD) e) (p3.rdTL (fun a h => .inr (.inl h)) hr)) (fun f s6 h6 => ?_) noE_to
    obtain ⟨rfl, xs', vs', ρ4, k4, l4, r4, p4⟩ := h6
    exact ⟨rfl, m + 1 - (i + 1), Nat.sub_lt_sub_left (Nat.lt_succ_of_le hi) (Nat.lt_succ_self i), i + 1, ρ4, xs', vs', rfl, hlt, k4, Lp.frame _ ρ3 s5 _ q3 st3 (fun b o hb e => p4.keep b o hb e), l4, r4, q3.comp (fun a h => .inr h) (fun a h => .inr h) p4⟩
  · have him : i = m := Nat.le_antisymm hi (Nat.le_of_not_lt hlt)
    subst him
    refine wpAny_mono (Lp.done ρ2 s' hst p) (fun r s3 h3 => ?_) noE_to
    obtain ⟨rfl, p3⟩ := h3
    exact wpAny_pure (fin xs vs ρ2 s3 hI offD (hl.at fun o e => p3.keep D o (fun hc => hc.elim offD hwD) e) (hr.mono (fun a o ha e => p3.keep a o (fun hc => ha (hc.elim .inr fun h => .inl (.inr (.inl h)))) e) fun a ha => .inl (ha.imp .inl id)) (p.fin (fun a h => .inl h) p3))
theorem tail_elt {elt : Expr} {c : Code} {xs : List PV} {F : List PV → List Ent → Prop} (hsc : cenv.scope = sc) (okc : EnvOk cenv) (hA : Room n A) (hx : xs.length < 2 ^ 20) (h : WE prog w g n sc elt ρ fun d ρ₃ => F (xs ++ [d]) ρ₃) :
    Tail prog w g cenv A D (do (do let _ ← call (.builtin "list.append") [.ref D, ← eval elt cenv]); again c) c xs F ρ := by
  intro H s vs hD sr hl hr
  refine wpAny_bind (wpAny_bind (wpAny_mono (h cenv A _ s hsc okc hA sr) (fun y s7 h7 => ?_) noE_to))
  obtain ⟨d, ρ5, k5, p5, r5⟩ := h7
  have hr5 := p5.rdL hr
  refine wpAny_bind (wpAny_list_append_plain (hl.at fun o e => p5.keep D o (fun hc => sr.sep D (List.mem_cons.mpr hc) hD) e) (fun h' hl' hs' => ?_) ?_)
  · have hd' : (h'.get? D).isSome = true := by obtain ⟨nn, e⟩ := hl'; rw [e]; rfl
    exact wpAny_pure (wpAny_pure ⟨rfl, xs ++ [d], vs ++ [y], ρ5, k5, by simpa using hl', (RdL.snoc hr5 r5).mono (fun a o ha e => hs'.extBut a o (fun hc => ha (.inl (hc ▸ hD))) e) fun a ha => .inl ha, (PostX.of0 p5).touch (tk := s7.toks) rfl hD hs' hd'⟩)
  · have h1 : vs.toArray.size = xs.length := by rw [List.size_toArray, hr5.length]
    exact Nat.le_of_lt (Nat.lt_trans (h1 ▸ hx) (show 2 ^ 20 < sizeLine by decide))
theorem tail_ifs {elt : Expr} {ifs : List Expr} {c : Code} {xs : List PV} {F : List PV → List Ent → Prop} (hsc : cenv.scope = sc) (okc : EnvOk cenv) (hA : Room n A) (hx : xs.length < 2 ^ 20)
    (h : WIfs prog w g n sc ifs ρ fun b ρ'' => if b = true then WE prog w g n sc elt ρ'' (fun d ρ₃ => F (xs ++ [d]) ρ₃) else F xs ρ'') :
    Tail prog w g cenv A D (do
        let mut ok := true
        for c in ifs do
          if ok then ok ← isTrue c cenv (eval c cenv)
        if ok then
          (do let _ ← call (.builtin "list.append") [.ref D, ← eval elt cenv])
        again c) c xs F ρ := by
  intro H s vs hD sr hl hr
  refine wpAny_bind (wifs_any h hsc okc hA sr fun b ρ4 s6 k4 p4 => ?_)
  have hl4 := hl.at fun o e => p4.keep D o (fun hc => sr.sep D (List.mem_cons.mpr hc) hD) e
  cases b with
  | false => exact wpAny_pure ⟨rfl, xs, vs, ρ4, k4, hl4, p4.rdL hr, PostX.of0 p4⟩
  | true => exact wpAny_mono (tail_elt hsc okc hA hx k4 H s6 vs hD p4.sr hl4 (p4.rdL hr)) (fun f s7 h7 => by
      obtain ⟨rfl, xs', vs', ρ5, k5, l5, r5, p5⟩ := h7
      exact ⟨rfl, xs', vs', ρ5, k5, l5, r5, (PostX.of0 p4).comp (fun a h => h) (fun a h => h ▸ hD) p5⟩) noE_to
end
theorem comp_blockG {env : Env} {A : Around} {H : Addr → Prop} {s s₂ : Shared} {mask : List Bool} {scope : Scope} {target iter elt : Expr} {ifs : List Expr} {rest : List Comprehension} {pos : Pos} {it : Value} {G : List PV → (List PV → List Ent → Prop) → List Ent → Prop} {T : Env → Value → Sem Fin} (Li : Nat → List PV → Prop)
    {Kout : PV → List Ent → Prop} {use : Option (Value → Sem Unit)} {Q : Value → Shared → Prop} (ok : EnvOk env) (hsc : env.scope = sc) (hA : Room n A) (l0 : Li 0 [])
    (hT : ∀ acc cenv, compTurn (.ListComp elt (⟨target, iter, ifs, 0⟩ :: rest) scope pos) 0 it acc cenv = (do standAt iter.pos; match ← pyNext it with | none => pure (.done .next) | some v => (do letOwnedTupleGo target it v; assign target cenv v; T cenv acc)))
    {K : Nat → (Nat → List Ent → (List Ent → Prop) → Prop) → List Ent → Prop} (hK : ∀ m B ρ₁, K m B ρ₁ → CompG G mask scope Kout m B ρ₁ ∧
      ∀ i acc F ρ cenv D, i < m → Li i acc → cenv.scope = relab scope sc → EnvOk cenv → G acc F ρ → Tail prog w g cenv A D (T cenv (.ref D)) (.compLoop (.ListComp elt (⟨target, iter, ifs, 0⟩ :: rest) scope pos) 0 it (.ref D) cenv) acc (fun xs ρ => F xs ρ ∧ Li (i + 1) xs) ρ)
    (h₂ : WIr prog w g env A H target ρ s K it s₂)
    (hUse : ∀ ρ₁ s₁ C D ρout xs s', Post0 w.params g env H ρ s ρ₁ s₁ → Kout (.list xs) ρout → s₁.heap.get? C = none → PostX w.params g env (fun a => H a ∨ a = C) (· = C) ρ₁ s₁ ρout s' → Rd s'.heap (Tt env (fun a => H a ∨ a = C) ρout) (.list xs) (.ref D) → (∃ m, s'.heap.Ns C m) →
      compPost (model prog w) A noE use Q (.ref D) C (.ok .next) s') :
    wpAny (model prog w) A (newList []) (fun acc s₃ => wpAny (model prog w) A (newFunctionEnv scope env.globals (closOf env scope.names []) [] env.qual none .none (some env)) (fun cenv s₄ =>
      codeAny (model prog w) A (.compStart (.ListComp elt (⟨target, iter, ifs, 0⟩ :: rest) scope pos) 0 it acc { cenv with scope := relabel scope env }) (compPost (model prog w) A noE use Q acc cenv.locals) s₄) noE s₃) noE s₂ := by
  subst hsc
  obtain ⟨ρ₁, m, B, s₁, hK1, p1, wr, St, ks, st0, hwr, L⟩ := h₂
  obtain ⟨⟨hok, hI⟩, hG⟩ := hK m B ρ₁ hK1
  refine wpAny_newObj_type (new_comp_env fun h₀ hns hk hown => ?_)
  have hsz : (s₂.heap.push { cls := .type "list", dict := none, data := .seq ([] : List Value).toArray }).objs.size = s₂.heap.objs.size + 1 := Heap.size_push ..
  dsimp only at hns hk hown ⊢
  have kD : ∀ b o, s₂.heap.get? b = some o → h₀.get? b = some o := fun b o e => hk b o (Heap.get?_push_of_some _ e)
  have hDget : h₀.get? s₂.heap.objs.size = some _ := hk _ _ (Heap.get?_push_size _ rfl)
  rw [hsz] at hns hown ⊢
  generalize hCe : s₂.heap.objs.size + 1 = C at hns hown ⊢
  generalize hDe : s₂.heap.objs.size = D at *
  have big : ∀ b, s₂.heap.objs.size ≤ b → s₂.heap.get? b = none := by
    intro b (hb : @LE.le Nat _ s₂.heap.objs.size b)
    cases q : s₂.heap.get? b with
    | none => rfl
    | some o => exact absurd (Heap.lt_size q) (Nat.not_lt.mpr hb)
  have hD : s₂.heap.get? D = none := big D (by rw [hDe]; exact Nat.le_refl _)
  have hbig : ∀ a, C ≤ a → s₂.heap.get? a = none := fun a (ha : @LE.le Nat _ C a) => big a (by rw [hDe]; exact by have h1 : @LE.le Nat _ D C := (by omega); exact Nat.le_trans h1 ha)
  have hC : s₂.heap.get? C = none := hbig C (Nat.le_refl _)
  have hCD : C ≠ D := by rw [← hCe]; exact Nat.succ_ne_self D
  have k0 : Keeps s₂ { s₂ with heap := h₀ } := ⟨h₀, s₂.toks, rfl, kD⟩
  generalize hcv : ({ scope := relabel scope env, locals := C, globals := env.globals, cells := cellsFrom (C + 1) scope.names [] ++ closOf env scope.names [], qual := env.qual, func := none, code := env.code, frame := env.frame, builtins := env.builtins } : Env) = cenv
  have hloc : cenv.locals = C := by rw [← hcv]
  have hscc : cenv.scope = relab scope env.scope := by rw [← hcv]; rfl
  have okc : EnvOk cenv := by
    rw [← hcv]
    exact ⟨(compOk.is hok).1, ok.2.1, ok.2.2⟩
  have sr0 : SR w.params g cenv (fun a => (Tt env H ρ₁ a ∧ a ∉ V (pickM mask ρ₁)) ∨ (wr a ∨ a = D)) (compρ scope C (pickM mask ρ₁)) h₀ :=
    comp_start hok p1.sr (by rw [← hcv]) hloc hscc ks kD hwr hD (by rw [hDget]; rfl) hC hCD hns hown hbig fun a ha => by
      have : @LT.lt Nat _ D a := Nat.lt_trans (by rw [← hCe]; exact Nat.lt_succ_self D) ha
      exact Nat.ne_of_gt this
  have Vsub : ∀ b ∈ V (pickM mask ρ₁), b ∈ V ρ₁ := fun b hb => by
    obtain ⟨e, he, hb⟩ := List.mem_flatMap.mp hb
    exact List.mem_flatMap.mpr ⟨e, pick_mem he, hb⟩
  have VV : V (compρ scope C (pickM mask ρ₁)) = (cellsFrom (C + 1) scope.names []).map (·.2) ++ V (pickM mask ρ₁) := by
    unfold compρ
    rw [V_app, V_app, V_locEnts, V_cellEnts, List.nil_append]
  obtain ⟨stc, Lp⟩ := L cenv (fun a => Tt env H ρ₁ a ∧ a ∉ V (pickM mask ρ₁)) (· = D) _ { s₂ with heap := h₀ } okc k0 sr0 (by
    rintro a (h | h | h)
    · exact .inl h.1
    · exact .inr (by rw [h, hloc]; exact hC)
    · rw [VV] at h
      rcases List.mem_append.mp h with h | h
      · obtain ⟨q, hq, rfl⟩ := List.mem_map.mp h
        exact .inr (hbig _ (Nat.le_of_lt (hown.empty q.1 q.2 hq).2))
      · exact .inl (.inr (.inr (Vsub a h)))) fun a h => .inr (by rw [h]; exact hD)
  obtain ⟨I, i0, turn, fin⟩ := hI C
  have hwD : ¬ wr D := fun h => by have := (hwr D h).2; rw [hD] at this; cases this
  have loop : ∀ s₃ : Shared, s₃ = { s₂ with heap := h₀ } → codeAny (model prog w) A (.compLoop (.ListComp elt (⟨target, iter, ifs, 0⟩ :: rest) scope pos) 0 it (.ref D) cenv) (compPost (model prog w) A noE use Q (.ref D) C) s₃ := by
    rintro s₃ rfl
    refine comp_loop Li (hT (.ref D) cenv) Lp hwD sr0 stc (xs₀ := []) (vs₀ := []) ⟨0, hDget⟩ rfl i0 l0 (fun i acc ρ hi h => turn i hi (I (i + 1)) (fun _ _ h => h) acc ρ h) (fun i acc ρ hi hL hG' => hG i acc _ ρ cenv D hi hL hscc okc hG') fun xs vs ρ' s' hI' hoff hl hr q => ?_
    obtain ⟨ρo, ρs, rfl, hlen, hK⟩ := fin xs ρ' hI'
    obtain ⟨e1, e2, e3⟩ := comp_end p1.sr hloc ks k0 (fun a h => (hwr a h).1) hD hbig hok hown q hlen (fun h => hoff (.inr h)) hl hr
    exact hUse ρ₁ s₁ C D _ xs s' p1 hK (keeps_none ks hC) e1 e2 e3
  have := loop _ rfl
  exact codeAny_compStart_list this (wpAny_mono (Lp.self _ (fun it' s' => codeAny (model prog w) A (.compLoop (.ListComp elt (⟨target, iter, ifs, 0⟩ :: rest) scope pos) 0 it' (.ref D) cenv) (compPost (model prog w) A noE use Q (.ref D) C) s') stc this) (fun _ _ h => h) noE_to)
theorem comp_block {env : Env} {A : Around} {H : Addr → Prop} {s s₂ : Shared} {mask : List Bool} {scope : Scope} {target iter elt : Expr} {ifs : List Expr} {pos : Pos} {it : Value}
    {Kout : PV → List Ent → Prop} {use : Option (Value → Sem Unit)} {Q : Value → Shared → Prop} (ok : EnvOk env) (hsc : env.scope = sc) (hA : Room n A)
    (h₂ : WIr prog w g env A H target ρ s (CompK prog w g n sc mask scope ifs elt Kout) it s₂)
    (hUse : ∀ ρ₁ s₁ C D ρout xs s', Post0 w.params g env H ρ s ρ₁ s₁ → Kout (.list xs) ρout → s₁.heap.get? C = none → PostX w.params g env (fun a => H a ∨ a = C) (· = C) ρ₁ s₁ ρout s' → Rd s'.heap (Tt env (fun a => H a ∨ a = C) ρout) (.list xs) (.ref D) → (∃ m, s'.heap.Ns C m) →
      compPost (model prog w) A noE use Q (.ref D) C (.ok .next) s') :
    wpAny (model prog w) A (newList []) (fun acc s₃ => wpAny (model prog w) A (newFunctionEnv scope env.globals (closOf env scope.names []) [] env.qual none .none (some env)) (fun cenv s₄ =>
      codeAny (model prog w) A (.compStart (.ListComp elt [⟨target, iter, ifs, 0⟩] scope pos) 0 it acc { cenv with scope := relabel scope env }) (compPost (model prog w) A noE use Q acc cenv.locals) s₄) noE s₃) noE s₂ :=
  comp_blockG (G := Clause1 prog w g n sc scope ifs elt) (fun i xs => xs.length ≤ i) ok hsc hA (Nat.le_refl _) (fun acc cenv => compTurn_list elt target iter ifs scope pos it acc cenv)
    (fun m B ρ₁ h => ⟨⟨h.1, h.3⟩, fun i acc F ρ cenv D hi hL hs okc hG => tail_ifs hs okc hA (Nat.lt_of_le_of_lt hL (Nat.lt_of_lt_of_le hi h.2)) (hG.mono fun b ρ'' k => by
      cases b with
      | false => exact ⟨k, Nat.le_succ_of_le hL⟩
      | true => exact WE.mono k fun d ρ₃ k => ⟨k, by rw [List.length_append]; exact Nat.succ_le_succ hL⟩)⟩) h₂ hUse
theorem namesB {scope : Scope} (h : (scope.names.map (·.1)).Nodup) : ∀ x ∈ scope.names, x.2 = .local → scope.names.lookup x.1 = some .local := fun x hx he => by
  have := lookup_nd h (show (x.1, x.2) ∈ scope.names from hx)
  rw [he] at this; exact this
theorem clos_of {env : Env} {H : Addr → Prop} {P : Params} {h : Heap} {scope : Scope} (sr : SR P g env H ρ h) (hf : (freeNames scope.names).all (fun x => ρ.any fun e => e.x == x && e.loc.isSome) = true) : closureFor scope env = pure (closOf env scope.names []) := by
  refine closure_is scope fun x hx => ?_
  obtain ⟨e, he, h2⟩ := List.any_eq_true.mp (List.all_eq_true.mp hf x hx)
  rw [Bool.and_eq_true] at h2
  obtain ⟨c, hc⟩ := Option.isSome_iff_exists.mp h2.2
  obtain ⟨mm, hn, hee⟩ := sr.ents
  have z := hee e he
  unfold EntIs at z
  rw [hc] at z
  have : e.x = x := by simpa using h2.1
  exact ⟨c, this ▸ z.2⟩
theorem PostX.drop {P : Params} {env : Env} {H : Addr → Prop} {h' : Heap} {s s₁ : Shared} {ρ₁ : List Ent} {C : Addr} (q : PostX P g env (fun a => H a ∨ a = C) (· = C) ρ s ρ₁ s₁) (hC : s.heap.get? C = none) (hH : ¬ H C) (hs : Heap.SameBut C s₁.heap h') :
    Post0 P g env H ρ s ρ₁ { s₁ with heap := h' } := by
  have x := q.sr
  have gD := (x.dom C (.inl (.inr rfl))).2
  have off : ∀ b ∈ env.locals :: V ρ₁, b ≠ C := fun b hb e => x.sep b hb (.inr e)
  have hk : ∀ b o, b ≠ C → s₁.heap.get? b = some o → h'.get? b = some o := fun b o hb e => hs.extBut b o hb e
  have hT : ∀ a, Tt env H ρ₁ a → Tt env (fun a => H a ∨ a = C) ρ₁ a := fun a h => h.imp .inl id
  refine ⟨⟨fun a o e => hk a o (fun ha => by subst ha; rw [gD] at e; cases e) (x.keep a o e), x.nd, fun a ha hc => x.sep a ha (.inl hc), fun a ha => ⟨?_, (x.dom a (hT a ha)).2⟩, x.names, ?_⟩, ?_, fun b o hb e => hk b o (fun hc => by rw [hc, hC] at e; cases e) (q.keep b o (fun hc => hc.elim hb fun hc => by rw [hc, hC] at e; cases e) e), q.new, q.shape⟩
  · have ha' : a ≠ C := fun e => by
      rcases ha with h | h
      · exact hH (e ▸ h)
      · exact off a (List.mem_cons.mpr h) e
    obtain ⟨o, ho⟩ := Option.isSome_iff_exists.mp (x.dom a (hT a ha)).1
    show (h'.get? a).isSome = true
    rw [hk a o ha' ho]; rfl
  · obtain ⟨mm, hn, he⟩ := x.ents
    refine ⟨mm, hn.at' fun o e => hk _ o (off _ (.head _)) e, fun e hm => (he e hm).other rfl (fun a o ha e' => hk a o (fun hw => ?_) e') fun a ha => .inl (hT a ha)⟩
    rcases ha with h | h
    · exact h (.inl (.inr hw))
    · exact off a (.tail _ (fp_sub hm h)) hw
  · exact same_trans q.same ⟨h', _, rfl⟩
theorem we_comp {target iter elt : Expr} {ifs : List Expr} {scope : Scope} {pos : Pos} {K : PV → List Ent → Prop} (mask : List Bool) (h : WI prog w g n sc target iter ρ (CompK prog w g n sc mask scope ifs elt K))
    (hf : (freeNames scope.names).all (fun x => ρ.any fun e => e.x == x && e.loc.isSome) = true := by rfl) (hk : scope.kind = .function := by rfl) (hnd : nodupB (scope.names.map (·.1)) = true := by decide) (hs : ∀ env x, foldedSetIterable iter env x = pure x := by intro _ _; rfl) :
    WE prog w g n sc (.ListComp elt [⟨target, iter, ifs, 0⟩] scope pos) ρ K := by
  intro env A H s hsc ok hA sr
  rw [eval_ListComp]
  refine wpAny_comprehension_free (use := none) rfl (hs env) (clos_of sr hf) hk (namesB (nodupB_is hnd)) (wpAny_mono (h env A H s hsc ok hA sr) (fun xv s₁ h₁ => wpAny_mono h₁ (fun it s₂ h₂ => ?_) fun _ _ e => e) fun _ _ e => e)
  refine comp_block ok hsc hA h₂ fun ρ1 s1 C D ρout xs s' p1 k hC q r hns => ?_
  obtain ⟨mm, hns⟩ := hns
  refine ⟨mm, hns, fun h' hs' => ?_⟩
  have hHC : ¬ H C := fun hc => by
    have := (p1.sr.dom C (.inl hc)).1
    rw [hC] at this; cases this
  refine ⟨_, ρout, k, p1.trans (q.drop hC hHC hs'), r.mono (fun a o ha e => hs'.extBut a o (fun hc => ha (.inl (.inr hc))) e) fun a ha => .inl (ha.imp .inl id)⟩
theorem wx_assign_comp {x : Str} {p spos : Pos} {target iter elt : Expr} {ifs : List Expr} {scope : Scope} {pos : Pos} {K : Fl → List Ent → Prop} (mask : List Bool)
    (h : WI prog w g n sc target iter ρ (CompK prog w g n sc mask scope ifs elt fun d ρ₁ => PutK ρ₁ x (.val d) fun ρ₂ => K .next ρ₂))
    (hx : sc.names.lookup x = some .local := by rfl) (hp : (p.line == pos.line) = true := by rfl) (hno : (scope.names.any fun (n, k) => n == x && (k == .local || k == .cell)) = false := by rfl)
    (hf : (freeNames scope.names).all (fun x => ρ.any fun e => e.x == x && e.loc.isSome) = true := by rfl) (hk : scope.kind = .function := by rfl) (hnd : nodupB (scope.names.map (·.1)) = true := by decide) (hs : ∀ env x, foldedSetIterable iter env x = pure x := by intro _ _; rfl) :
    WX prog w g n sc (.Assign [.Name x p] (.ListComp elt [⟨target, iter, ifs, 0⟩] scope pos) spos) ρ K := by
  intro env A H s hsc ok hA sr
  have hsw : swapsWith (.ListComp elt [⟨target, iter, ifs, 0⟩] scope pos) (some (.Name x p)) spos.line env = pure true := by
    have h1 : env.kindOf x = some .local := by unfold Env.kindOf; rw [hsc]; exact hx
    have h2 : env.blockKind = .function := by unfold Env.blockKind; rw [ok.1]; rfl
    unfold swapsWith
    show (pure (env.blockKind == .function && env.kindOf x == some .local && p.line == pos.line && !(scope.names.any fun (n, k) => n == x && (k == .local || k == .cell))) : Sem Bool) = _
    rw [h1, h2, hp, hno]; rfl
  rw [exec_Assign_Name_used _ _ _ _ hsw]
  refine wpAny_bind (wpAny_standAt (wpAny_bind ?_))
  show wpAny _ A (do let _ ← comprehension (.ListComp elt [⟨target, iter, ifs, 0⟩] scope pos) scope env _ (newList []) false (eval iter env) (some (assign (.Name x p) env))) _ _ s
  refine wpAny_bind (wpAny_mono (wpAny_comprehension_free (use := some (assign (.Name x p) env)) (Q := fun _ s' => RSs w.params g env H ρ s K .next s') rfl (hs env) (clos_of sr hf) hk (namesB (nodupB_is hnd))
    (wpAny_mono (h env A H s hsc ok hA sr) (fun xv s₁ h₁ => wpAny_mono h₁ (fun it s₂ h₂ => ?_) fun _ _ e => e) fun _ _ e => e)) (fun _ s2 h2 => wpAny_pure (wpAny_pure h2)) fun _ _ e => e)
  refine comp_block ok hsc hA h₂ fun ρ1 s1 C D ρout xs s' p1 k hC q r hns => ?_
  obtain ⟨mm, hns⟩ := hns
  obtain ⟨ρ2, hput, k2⟩ := k
  show wpAny _ A (assign (.Name x p) env (.ref D)) _ _ _
  refine PySem.wpAny_assign_Name (store_val ok q.sr hput r fun s3 q3 => ⟨mm, hns.at' fun o e => q3.keep C o (fun hc => q.sr.sep C (List.mem_cons.mpr hc) (.inr rfl)) e, fun h' hs' => ?_⟩)
  have hHC : ¬ H C := fun hc => by
    have := (p1.sr.dom C (.inl hc)).1
    rw [hC] at this; cases this
  exact ⟨.next, ρ2, k2, p1.trans ((q.step (fun a h => .inr h) q3).drop hC hHC hs'), rfl⟩
theorem wx_cell_comp {x : Str} {p spos : Pos} {e : Expr} {K : Fl → List Ent → Prop} (h : WE prog w g n sc e ρ fun d ρ₁ => PutK ρ₁ x (.val d) fun ρ₂ => K .next ρ₂) (hx : (sc.names.lookup x == some .local) = false := by rfl) :
    WX prog w g n sc (.Assign [.Name x p] e spos) ρ K := by
  intro env A H s hsc ok hA sr
  refine PySem.wpAny_Assign_Name (wpAny_mono (h env A H s hsc ok hA sr) (fun v s1 h1 => ?_) fun _ _ x => x) ?_
  · obtain ⟨d, ρ1, ⟨ρ2, hp, k1⟩, p1, r1⟩ := h1
    exact store_val ok p1.sr hp r1 fun s3 q => ⟨.next, ρ2, k1, p1.trans q, rfl⟩
  · have h1 : (env.kindOf x == some .local) = false := by unfold Env.kindOf; rw [hsc]; exact hx
    cases e <;> first
      | rfl
      | (unfold swapsWith
         show (pure (env.blockKind == .function && env.kindOf x == some .local && _ && _) : Sem Bool) = _
         rw [h1, Bool.and_false, Bool.false_and, Bool.false_and])
end
section
noncomputable def wpM (c : Bool) {α : Type} (M : Model) (A : Around) (t : Sem α) (Q : α → Shared → Prop) (E : Value → Shared → Prop) (s : Shared) : Prop :=
  match c with
  | false => wpAny M A t Q E s
  | true => wpC M A t Q E s
noncomputable def codeM (c : Bool) (M : Model) (A : Around) (cd : Code) (R : Result → Shared → Prop) (s : Shared) : Prop :=
  match c with
  | false => codeAny M A cd R s
  | true => codeC M A cd R s
section
variable {α β : Type} {c : Bool} {M : Model} {A : Around} {E : Value → Shared → Prop} {s : Shared}
theorem wpM_of {t : Sem α} {Q : α → Shared → Prop} (h : wpAny M A t Q E s) : wpM c M A t Q E s := by
  cases c
  · exact h
  · exact wpC_of h
theorem wpM_mono {t : Sem α} {Q Q' : α → Shared → Prop} {E' : Value → Shared → Prop} (h : wpM c M A t Q E s)
    (hQ : ∀ a s, Q a s → Q' a s) (hE : ∀ e s, E e s → E' e s) : wpM c M A t Q' E' s := by
  cases c
  · exact wpAny_mono h hQ hE
  · exact wpC_mono h hQ hE
theorem wpM_pure {a : α} {Q : α → Shared → Prop} (h : Q a s) : wpM c M A (pure a) Q E s := wpM_of (wpAny_pure h)
theorem wpM_bind {m : Sem α} {f : α → Sem β} {Q : β → Shared → Prop} (h : wpM c M A m (fun a s' => wpM c M A (f a) Q E s') E s) :
    wpM c M A (m >>= f) Q E s := by
  cases c
  · exact wpAny_bind h
  · exact wpC_bind h
theorem wpC_onRaise {m : Sem α} {k : Value → Sem Unit} {Q : α → Shared → Prop}
    (h : wpC M A m Q (fun e s' => wpAny M A (k e) (fun _ s'' => E e s'') E s') s) : wpC M A (m.onRaise k) Q E s := fun Γ p hΓ hC => by
  rw [Sem.wp_onRaise]
  exact Sem.wp_mono M Γ m (fun _ _ _ h' => h') (fun e p' s' h' => h' Γ p' hΓ) p s (h Γ p hΓ hC)
theorem wpM_onRaise {m : Sem α} {k : Value → Sem Unit} {Q : α → Shared → Prop}
    (h : wpM c M A m Q (fun e s' => wpAny M A (k e) (fun _ s'' => E e s'') E s') s) : wpM c M A (m.onRaise k) Q E s := by
  cases c
  · exact wpAny_onRaise h
  · exact wpC_onRaise h
theorem wpC_holding {vs : List Value} {m : Sem α} {Q : α → Shared → Prop} (h : wpC M A m Q E s) : wpC M A (holding vs m) Q E s :=
  fun Γ p hΓ hC => by rw [Sem.wp_holding]; exact h Γ p hΓ hC
theorem wpM_holding {vs : List Value} {m : Sem α} {Q : α → Shared → Prop} (h : wpM c M A m Q E s) : wpM c M A (holding vs m) Q E s := by
  cases c
  · exact wpAny_holding h
  · exact wpC_holding h
theorem wpC_ifF {c : Bool} {t e : Sem α} {Q : α → Shared → Prop} (hc : c = false) (h : wpC M A e Q E s) : wpC M A (if c = true then t else e) Q E s := by cases hc; exact h
theorem wpC_of_eq {t : Sem α} {a : α} {Q : α → Shared → Prop} (e : t = pure a) (h : Q a s) : wpC M A t Q E s := e ▸ wpC_pure h
theorem codeM_mono {cd : Code} {R R' : Result → Shared → Prop} (h : codeM c M A cd R s) (hR : ∀ r s, R r s → R' r s) : codeM c M A cd R' s := by
  cases c
  · exact codeAny_mono h hR
  · exact codeC_mono h hR
theorem codeM_of_tree {cd : Code} {R : Result → Shared → Prop} (hh : holds cd = false)
    (h : wpM c M (A.under cd) (M.den cd) (fun fin s' => match fin with | .done f => R (.ok f) s' | .again c' => c'.quiet = true ∧ codeM c M A c' R s')
      (fun e s' => R (.error e) s') s) : codeM c M A cd R s := by
  cases c
  · exact codeAny_of_tree h
  · exact codeC_of_tree hh h
theorem wpM_call {f : Value} {pos : List Value} {kw : List (Str × Value)} {Q : Value → Shared → Prop}
    (hc : codeM c M A (.call f ⟨pos, kw⟩) (fun r s' => match r with | .ok (.ret v) => Q v s' | .ok _ => False | .error e => E e s') s) :
    wpM c M A (call f pos kw) Q E s := by
  cases c
  · exact wpAny_call hc
  · exact wpC_call hc
end
section
variable {c : Bool} {prog : Program} {w : World} {A : Around} {R : Result → Shared → Prop} {s : Shared}
theorem codeM_call_function {a : Addr} {args : Args} {o : Obj} {fd : FuncData} {body : List Stmt} (hroom : A.depth < recursionLimit)
    (ho : s.heap.get? a = some o)
    (hd' : o.data = .func fd) (hco : fd.scope.isCoroutine = false) (hgen : fd.scope.isGenerator = false) (hbody : fd.body = .stmts body) (hcd : s.heap.CodeRec fd.code fd.qualname)
    (h : wpAny (model prog w) A.in1 (bindArgs fd args) (fun binds s₁ =>
      wpAny (model prog w) A.in1 (newFunctionEnv fd.scope fd.globals fd.closure binds (fd.qualname ++ ".<locals>.") (some a) fd.code none fd.builtins)
        (fun env s₂ => s₂.heap.NoLimit ∧ codeM c (model prog w) A (.func body env) R s₂) (fun e s' => R (.error e) s') s₁) (fun e s' => R (.error e) s') s) :
    codeM c (model prog w) A (.call (.ref a) args) R s := by
  refine codeM_of_tree rfl (wpM_of ?_)
  show wpAny _ A.in1 (callAny (.ref a) args) _ _ s
  simp only [callAny]
  refine wpAny_bind (wpAny_load ho ?_)
  obtain ⟨c, oc, vs, tq, hc, hoc, hdc, hq⟩ := hcd
  simp only [hd', callFunction, hco, hgen, hbody, hc]
  rw [hc] at h
  refine wpAny_bind (m := field (.ref c) 1) (wpAny_field hoc hdc hq (wpAny_bind (wpAny_pure ?_)))
  exact wpAny_bind (wpAny_mono h (fun binds s₁ h₁ => wpAny_bind (wpAny_mono h₁ (fun env s₂ h₂ => wpAny_bind (wpAny_enterFrame h₂.1 hroom
    (wpAny_pure (And.intro rfl h₂.2)))) fun _ _ h' => h')) fun _ _ h' => h')
theorem codeM_func {body env}
    (h : wpM c (model prog w) (A.deeper env) (execs body env) (fun f s' => R (.ok (.ret (match f with | .ret v => v | _ => .none))) s')
      (fun e s' => wpAny (model prog w) (A.deeper env) (leaving env e) (fun _ s'' => R (.error e) s'') (fun e' s'' => R (.error e') s'') s') s) :
    codeM c (model prog w) A (.func body env) R s := by
  refine codeM_of_tree rfl ?_
  show wpM c _ (A.deeper env) (do point; match ← (execs body env).onRaise (leaving env) with | .ret v => ret v | _ => ret .none) _ _ s
  refine wpM_bind (wpM_of (wpAny_point (wpM_bind (wpM_onRaise (wpM_mono h (fun f s' h' => ?_) fun _ _ h' => h')))))
  cases f <;> exact wpM_pure h'
end
section
variable (c : Bool) (prog : Program) (w : World) (g : Heap)
noncomputable def WSM (n : Nat) (sc : Scope) (b : List Stmt) (ρ : List Ent) (K : Fl → List Ent → Prop) : Prop :=
  ∀ (env : Env) (A : Around) (H : Addr → Prop) (s : Shared), env.scope = sc → EnvOk env → Room n A → SR w.params g env H ρ s.heap →
    wpM c (model prog w) A (execs b env) (fun f s' => RSs w.params g env H ρ s K f s') noE s
noncomputable def WXM (n : Nat) (sc : Scope) (st : Stmt) (ρ : List Ent) (K : Fl → List Ent → Prop) : Prop :=
  ∀ (env : Env) (A : Around) (H : Addr → Prop) (s : Shared), env.scope = sc → EnvOk env → Room n A → SR w.params g env H ρ s.heap →
    wpM c (model prog w) A (exec st env) (fun f s' => RSs w.params g env H ρ s K f s') noE s
end
variable {c : Bool} {prog : Program} {w : World} {g : Heap} {n : Nat} {sc : Scope} {ρ ρ' : List Ent}
theorem wsm_of {b : List Stmt} {K : Fl → List Ent → Prop} (h : WS prog w g n sc b ρ K) : WSM c prog w g n sc b ρ K := fun env A H s h1 h2 h3 h4 => wpM_of (h env A H s h1 h2 h3 h4)
theorem wxm_of {b : Stmt} {K : Fl → List Ent → Prop} (h : WX prog w g n sc b ρ K) : WXM c prog w g n sc b ρ K := fun env A H s h1 h2 h3 h4 => wpM_of (h env A H s h1 h2 h3 h4)
theorem wsm_gen {b : List Stmt} {K : Fl → List Ent → Prop} (h : ∀ K' : Fl → List Ent → Prop, (∀ f ρ', K f ρ' → K' f ρ') → WSM c prog w g n sc b ρ K') : WSM c prog w g n sc b ρ K := h K fun _ _ h => h
theorem wsm_mono {b : List Stmt} {K K' : Fl → List Ent → Prop} (h : WSM c prog w g n sc b ρ K) (hk : ∀ f ρ', K f ρ' → K' f ρ') : WSM c prog w g n sc b ρ K' := by
  intro env A H s hsc ok hA sr
  refine wpM_mono (h env A H s hsc ok hA sr) (fun v s1 h1 => ?_) fun _ _ x => x
  obtain ⟨d1, ρ1, k1, p, r⟩ := h1
  exact ⟨d1, ρ1, hk _ _ k1, p, r⟩
theorem wsm_nil {K : Fl → List Ent → Prop} (h : K .next ρ) : WSM c prog w g n sc [] ρ K := wsm_of (ws_nil h)
theorem wsm_cons {st : Stmt} {r : List Stmt} {K : Fl → List Ent → Prop} (h : WXM c prog w g n sc st ρ (After K fun ρ₁ => WSM c prog w g n sc r ρ₁ K)) : WSM c prog w g n sc (st :: r) ρ K := by
  intro env A H s hsc ok hA sr
  rw [execs_cons]
  refine wpM_bind (wpM_mono (h env A H s hsc ok hA sr) (fun f s1 h1 => ?_) fun _ _ x => x)
  obtain ⟨fl, ρ1, k1, p1, r1⟩ := h1
  cases fl with
  | next =>
    have : f = .next := r1
    subst this
    refine wpM_mono (k1 env A H s1 hsc ok hA p1.sr) (fun f s2 h2 => ?_) fun _ _ x => x
    obtain ⟨d, ρ2, k2, p2, r2⟩ := h2
    exact ⟨d, ρ2, k2, p1.trans p2, r2⟩
  | ret d =>
    obtain ⟨v, rfl, rv⟩ := r1
    exact wpM_pure ⟨.ret d, ρ1, k1, p1, v, rfl, rv⟩
theorem wxm_if {t : Expr} {a b : List Stmt} {pos : Pos} {K : Fl → List Ent → Prop} (h : WT prog w g n sc t ρ fun x ρ₁ => if x = true then WSM c prog w g n sc a ρ₁ K else WSM c prog w g n sc b ρ₁ K) : WXM c prog w g n sc (.If t a b pos) ρ K := by
  intro env A H s hsc ok hA sr
  rw [exec_If]
  refine wpM_bind (wpM_of (wpAny_standAt (wpM_bind (wpM_of (wpAny_mono (h env A H s hsc ok hA sr) (fun x s1 h1 => ?_) fun _ _ x => x)))))
  obtain ⟨ρ1, k1, p1⟩ := h1
  have fin : ∀ b, WSM c prog w g n sc b ρ1 K → wpM c (model prog w) A (execs b env) (fun f s' => RSs w.params g env H ρ s K f s') noE s1 := fun e he =>
    wpM_mono (he env A H s1 hsc ok hA p1.sr) (fun v s2 h2 => by obtain ⟨d, ρ2, k2, p2, r2⟩ := h2; exact ⟨d, ρ2, k2, p1.trans p2, r2⟩) fun _ _ x => x
  cases x with
  | true => simp only [if_true] at k1 ⊢; exact fin _ k1
  | false => simp only [Bool.false_eq_true, if_false] at k1 ⊢; exact fin _ k1
end
section
section
variable {prog : Program} {w : World} {A : Around} {K : Frag} {C : Addr} {R : Result → Shared → Prop} {h : Heap} {g : Array GenState} {d : Drawn} {t : Nat} {os : OsState}
theorem den_builtin {id : String} {b : Builtin} {args : Args} (hb : entryFor table id = some b) : (model prog w).den (.builtin id args) = b args := by
  show (match entryFor table id with | some b => b args | none => unsupported ((withoutEnding? id "#data").getD id)) = _
  rw [hb]
theorem make_coreC {rest : List Value} {init : Value} (Y : Makes (model prog w) h C) (hi : Looks (model prog w) h (typeLookup (.ref C) "__init__") (some init))
    (hb : ∀ self, Looks (model prog w) h (bindSpecial init self) (init, [self])) (hne : (some init != some (Value.builtin "object.__init__")) = true)
    (hq : codeC (model prog w) (A.under (.builtin "type.__call__" ⟨.ref C :: rest, []⟩)) (.call init ⟨.ref (h.objs.size + 1) :: rest, []⟩) (InitBack (h.objs.size + 1) R) ⟨(h.push emptyDict).push (instObj C h.objs.size), g, d, t, os⟩) :
    codeC (model prog w) A (.call (.ref C) ⟨rest, []⟩) R ⟨h, g, d, t, os⟩ := by
  have Y' := Y
  obtain ⟨⟨oc, od, cd, sl, hC, e1, e2, e4⟩, made, base, self, top, call, typ⟩ := Y
  refine codeC_of_tree rfl (wpC_of ?_)
  show wpAny _ _ (callAny (.ref C) _) _ _ _
  refine nd_load hC ?_
  show wpAny _ _ (callAny.viaDunder (.ref C) _) _ _ _
  unfold callAny.viaDunder
  refine wpAny_bind (call.at ?_)
  dsimp only
  rw [tc_bind]
  refine wpAny_bind (wpAny_pure (wpAny_bind (wpAny_pure ?_)))
  refine wpAny_pure (a := Fin.again (.call (.builtin "type.__call__") ⟨.ref C :: rest, []⟩)) (And.intro rfl ?_)
  refine codeC_of_tree rfl ?_
  show wpC _ _ (do checkBuiltinCall "type.__call__" ⟨.ref C :: rest, []⟩; again (.builtin "type.__call__" ⟨.ref C :: rest, []⟩)) _ _ _
  refine wpC_bind (wpC_of (check_slot tc_kind tc_split typ (tc_args _ _ _) (wpC_pure ⟨Code.quiet_builtin _ (by decide +kernel), codeC_of_tree (show holderIds.contains "type.__call__" = false by decide +kernel) ?_⟩)))
  rw [den_builtin entry_typeCall]
  have hm : Looks (model prog w) h (mroOf (.ref C)) cd.mro := ((Looks.ld (part := none) hC).andThen .now).andThen .now
  refine wpC_bind (m := mroOf (.ref C)) (wpC_of (hm.at ?_))
  refine wpC_ifF e4 ?_
  refine wpC_bind (m := Bind.madeBy (.ref C)) (wpC_of (made.at ?_))
  refine wpC_bind (wpC_pure ?_)
  refine wpC_bind (wpC_of (wpAny_holding (wpAny_call (new_K Y' hi (.inl hne) ?_))))
  have k : ∀ b o, h.get? b = some o → ((h.push emptyDict).push (instObj C h.objs.size)).get? b = some o := fun b o e => Heap.get?_push_of_some _ (Heap.get?_push_of_some _ e)
  have ksz : (h.push emptyDict).objs.size = h.objs.size + 1 := Heap.size_push ..
  have hx : ((h.push emptyDict).push (instObj C h.objs.size)).get? (h.objs.size + 1) = some (instObj C h.objs.size) := by rw [← ksz]; exact Heap.get?_push_size _ rfl
  have t1 : Looks (model prog w) ((h.push emptyDict).push (instObj C h.objs.size)) (typeOf (.ref (h.objs.size + 1))) (.ref C) := (Looks.ld hx).andThen .now
  have s1 := self.keeps k
  have i1 := hi.keeps k
  have b1 := (hb (.ref (h.objs.size + 1))).keeps k
  unfold isInstance callSpecial? specialOf
  refine wpC_bind (wpC_bind (wpC_of (t1.at (wpC_of (s1.at ?_)))))
  refine wpC_bind (wpC_holding (wpC_bind (wpC_bind (wpC_of (t1.at (wpC_of (i1.at ?_)))))))
  dsimp only
  refine wpC_holding (wpC_bind (wpC_of (b1.at (wpC_bind (wpC_call (codeC_mono hq fun r s' z => ?_))))))
  rcases r with e | (v | _ | _ | _) <;> first | exact z | exact z.elim | skip
  obtain ⟨rfl, z⟩ := z
  exact wpC_pure (wpC_pure z)
theorem make_coreM {c : Bool} {rest : List Value} {init : Value} (Y : Makes (model prog w) h C) (hi : Looks (model prog w) h (typeLookup (.ref C) "__init__") (some init))
    (hb : ∀ self, Looks (model prog w) h (bindSpecial init self) (init, [self])) (hne : (some init != some (Value.builtin "object.__init__")) = true)
    (hq : codeM c (model prog w) (A.under (.builtin "type.__call__" ⟨.ref C :: rest, []⟩)) (.call init ⟨.ref (h.objs.size + 1) :: rest, []⟩) (InitBack (h.objs.size + 1) R) ⟨(h.push emptyDict).push (instObj C h.objs.size), g, d, t, os⟩) :
    codeM c (model prog w) A (.call (.ref C) ⟨rest, []⟩) R ⟨h, g, d, t, os⟩ := by
  cases c
  · exact make_core Y hi hb (.inl hne) hq
  · exact make_coreC Y hi hb hne hq
end
section
variable {α : Type} {M : Model} {A : Around} {E : Value → Shared → Prop} {s : Shared}
theorem wpM_keep {c : Bool} {vs : List Value} {m : Sem α} {Q : α → Shared → Prop} (h : wpM c M A m Q E s) : wpM c M A (m.keep vs) Q E s := by
  cases c
  · exact Calls.wpAny_keep h
  · exact fun Γ p hΓ hC => by rw [Sem.wp_keep]; exact h Γ p hΓ hC
noncomputable def KeepOk (M : Model) (A : Around) (E : Value → Shared → Prop) (f : Value) (s : Shared) : Prop :=
  ∃ k, (k = Keeper.frame ∨ k = Keeper.machine) ∧ ∀ Q : Keeper → Shared → Prop, Q k s → wpAny M A (keeperOf f) Q E s
theorem callWithM {c : Bool} {pos : Pos} {f : Value} {first : List Value} {args : List (Bool × Sem Value)} {Q : Value → Shared → Prop} (hplain : args.any (·.1) = false)
    (h : wpM c M A (evalArgs f true args []) (fun x s₁ => KeepOk M A E f s₁ ∧ wpM c M A (call f (first ++ x.pos) x.kw) Q E s₁) E s) :
    wpM c M A (callWith pos f first args []) Q E s := by
  unfold callWith
  refine wpM_bind (wpM_holding (wpM_mono h (fun a s₁ h₁ => wpM_bind (wpM_of (wpAny_standAt ?_))) fun _ _ x => x))
  obtain ⟨⟨k, hk, L⟩, hc⟩ := h₁
  rw [hplain]
  refine wpM_bind (wpM_of (L _ ?_))
  have tail : ∀ {t : Sem Value}, wpM c M A t Q E s₁ → wpM c M A (t >>= fun r => holding [r] point >>= fun _ => pure r) Q E s₁ :=
    fun ht => wpM_bind (wpM_mono ht (fun r s₂ hr => wpM_bind (wpM_holding (wpM_of (wpAny_point (wpM_pure hr))))) fun _ _ x => x)
  have marked (mk : Value) : wpM c M A (callMarked mk f (first ++ a.pos) a.kw) Q E s₁ := by unfold callMarked; exact wpM_keep hc
  have ite : ∀ (P : Prop) (_ : Decidable P), wpM c M A (if P then (call f (first ++ a.pos) a.kw >>= fun r => holding [r] point >>= fun _ => pure r) else (callMarked plainCall f (first ++ a.pos) a.kw >>= fun r => holding [r] point >>= fun _ => pure r)) Q E s₁ := by
    intro P _
    by_cases hP : P
    · rw [if_pos hP]; exact tail hc
    · rw [if_neg hP]; exact tail (marked _)
  rcases hk with rfl | rfl
  · exact ite _ _
  · exact tail hc
theorem keep_type {T : String} : KeepOk M A E (.type T) s := ⟨.machine, .inr rfl, fun Q h => wpAny_pure h⟩
theorem keep_builtin {T : String} : KeepOk M A E (.builtin T) s := ⟨.machine, .inr rfl, fun Q h => wpAny_pure h⟩
theorem keep_fn {a : Addr} {o : Obj} {fd : FuncData} (ho : s.heap.get? a = some o) (hd : o.data = .func fd) : KeepOk M A E (.ref a) s :=
  ⟨.frame, .inl rfl, fun Q h => by
    unfold keeperOf
    refine wpAny_bind (wpAny_load ho ?_)
    rw [hd]
    exact wpAny_pure h⟩
theorem keep_K {K : Frag} {a : Addr} (X : K.In s.heap) (hk : keepIn K (.ref a) = true) : KeepOk M A E (.ref a) s := by
  obtain ⟨k, a, b⟩ := looks_keep (M := M) hk X
  exact ⟨k, a, fun Q h => b.here h⟩
theorem evalArgsM {c : Bool} {f : Value} {args : List (Bool × Sem Value)} {Q : Args → Shared → Prop} (hone : ∀ x, args ≠ [(true, x)])
    (h : wpM c M A (spliced args) (fun vs s₁ => Q ⟨vs, []⟩ s₁) E s) : wpM c M A (evalArgs f true args []) Q E s := by
  have e0 : evalArgs f true args [] = (do
      let vs ← spliced args
      holding (vs ++ []) (do
        let kw := ([] : List Str).zip (← evalAll ([] : List (Sem Value)))
        pure ⟨vs, kw⟩)) := by
    unfold evalArgs
    cases args with
    | nil => rfl
    | cons x r =>
      obtain ⟨b, t⟩ := x
      cases b with
      | false => rfl
      | true =>
        cases r with
        | nil => exact absurd rfl (hone t)
        | cons y r => rfl
  rw [e0]
  refine wpM_bind (wpM_mono h (fun vs s1 h1 => wpM_holding ?_) fun _ _ x => x)
  exact wpM_bind (wpM_pure (wpM_pure h1))
end
end
section
variable {prog : Program} {w : World} {g : Heap} {n : Nat} {sc : Scope} {ρ ρ' : List Ent}
structure GG (K : Frag) (g : Heap) (mg mb : Str → Option Value) : Prop where
  gf : GF g mg mb
  kin : K.In g
  bt : ∀ x : Str, x ≠ "__name__" → mb x = bootBuiltins x
theorem GG.top {K : Frag} {mg mb : Str → Option Value} (G : GG K g mg mb) {x : Str} {v : Value} (e : nsIn K mainGlobals x = some (some v)) : GV mg mb x v := .inl (mg_of G.kin G.gf.gl e)
theorem GG.boot {K : Frag} {mg mb : Str → Option Value} (G : GG K g mg mb) {x : Str} {v : Value} (e : nsIn K mainGlobals x = some none) (hn : (x == "__name__") = false) (h : bootBuiltins x = some v) : GV mg mb x v :=
  .inr ⟨mg_none_of G.kin G.gf.gl e, (G.bt x (by simpa using hn)).trans h⟩
structure FnOk (K : Frag) (a : Addr) (fd : FuncData) (body : List Stmt) : Prop where
  get : ∃ oc od osl, K.lookup a = some ⟨oc, od, .func fd, osl⟩
  body : fd.body = .stmts body
  clo : fd.closure = []
  gl : fd.globals = mainGlobals
  bl : fd.builtins = builtinsNs
  code : codeIn K fd.code fd.qualname = true
  co : fd.scope.isCoroutine = false
  gen : fd.scope.isGenerator = false
  kind : fd.scope.kind = .function
  nd : nodupB (fd.scope.names.map (·.1)) = true
noncomputable def slotAt (ps : List (Str × Slot)) (x : Str) : Slot := (ps.lookup x).getD .unb
noncomputable def ents0 (ps : List (Str × Slot)) (cs : List (Str × Addr)) : List (Str × NameKind) → List Ent
  | [] => []
  | (x, .local) :: r => ⟨x, none, slotAt ps x⟩ :: ents0 ps cs r
  | (x, .cell) :: r => ⟨x, some ((cs.lookup x).getD 0), slotAt ps x⟩ :: ents0 ps cs r
  | _ :: r => ents0 ps cs r
noncomputable def fps (ps : List (Str × Slot)) : List Addr := ps.flatMap fun p => p.2.fp
noncomputable def PsIs (P : Params) (h : Heap) (T : Addr → Prop) : List (Str × Slot) → List (Str × Value) → Prop
  | [], bs => bs = []
  | p :: ps, bs => PairR p.1 (fun v => SlotIs P h T p.2 (some v)) (PsIs P h T ps) bs
theorem PsIs.names {P : Params} {h : Heap} {T : Addr → Prop} : ∀ {ps : List (Str × Slot)} {bs : List (Str × Value)}, PsIs P h T ps bs → bs.map (·.1) = ps.map (·.1) := by
  intro l0
  induction l0 with
  | nil => exact @fun _ x => by cases x; rfl
  | cons p ps ih =>
    intro _ x
    obtain ⟨v, r, rfl, _, x⟩ := x; simp [ih x]
theorem PsIs.lookup {P : Params} {h : Heap} {T : Addr → Prop} {x : Str} : ∀ {ps : List (Str × Slot)} {bs : List (Str × Value)}, PsIs P h T ps bs →
    (∃ sl v, ps.lookup x = some sl ∧ bs.lookup x = some v ∧ SlotIs P h T sl (some v)) ∨ (ps.lookup x = none ∧ bs.lookup x = none) := by
  intro l0
  induction l0 with
  | nil => exact @fun _ q => by cases q; exact .inr ⟨rfl, rfl⟩
  | cons p ps ih =>
    intro _ q
    obtain ⟨v, r, rfl, h1, q⟩ := q
    rw [List.lookup_cons, List.lookup_cons]
    cases hb : x == p.1 with
    | true => exact .inl ⟨p.2, v, rfl, rfl, h1⟩
    | false => exact ih q
theorem bindL_is {k : Str → Option NameKind} {x : Str} : ∀ (bs : List (Str × Value)) (m : Str → Option Value), (bs.map (·.1)).Nodup → k x = some .local → bindL k bs m x = (bs.lookup x).or (m x) := by
  intro l0
  induction l0 with
  | nil => exact @fun m _ hk => rfl
  | cons q0 r ih =>
    obtain ⟨y, v⟩ := q0
    intro m hn hk
    rw [List.map_cons, List.nodup_cons] at hn
    unfold bindL
    rw [ih _ hn.2 hk, List.lookup_cons]
    cases hb : x == y with
    | true =>
      have : x = y := by simpa using hb
      subst this
      have h0 : r.lookup x = none := by
        cases q : r.lookup x with
        | none => rfl
        | some c => exact absurd (List.mem_map.mpr ⟨_, mem_of_lookup q, rfl⟩) hn.1
      rw [h0, if_pos hk]; simp
    | false =>
      have : x ≠ y := by simpa using hb
      congr 1
      split <;> simp [this]
theorem bindC_is {k : Str → Option NameKind} {x : Str} : ∀ (bs : List (Str × Value)) (m : Str → Option Value), (bs.map (·.1)).Nodup → k x ≠ some .local → bindC k bs m x = (bs.lookup x).or (m x) := by
  intro l0
  induction l0 with
  | nil => exact @fun m _ hk => rfl
  | cons q0 r ih =>
    obtain ⟨y, v⟩ := q0
    intro m hn hk
    rw [List.map_cons, List.nodup_cons] at hn
    unfold bindC
    rw [ih _ hn.2 hk, List.lookup_cons]
    cases hb : x == y with
    | true =>
      have : x = y := by simpa using hb
      subst this
      have h0 : r.lookup x = none := by
        cases q : r.lookup x with
        | none => rfl
        | some c => exact absurd (List.mem_map.mpr ⟨_, mem_of_lookup q, rfl⟩) hn.1
      rw [h0, if_neg hk]; simp
    | false =>
      have : x ≠ y := by simpa using hb
      congr 1
      split <;> simp [this]
theorem ents0_mem {ps : List (Str × Slot)} {cs : List (Str × Addr)} : ∀ {names : List (Str × NameKind)} {e : Ent}, e ∈ ents0 ps cs names →
    e.sl = slotAt ps e.x ∧ ((e.loc = none ∧ (e.x, NameKind.local) ∈ names) ∨ (e.loc = some ((cs.lookup e.x).getD 0) ∧ (e.x, NameKind.cell) ∈ names)) := by
  intro l0
  induction l0 with
  | nil => exact @fun _ h => nomatch h
  | cons q0 r ih =>
    obtain ⟨y, k⟩ := q0
    intro e h
    cases k with
    | «local» =>
      rcases List.mem_cons.mp (show e ∈ (⟨y, none, slotAt ps y⟩ : Ent) :: ents0 ps cs r from h) with rfl | h
      · exact ⟨rfl, .inl ⟨rfl, .head _⟩⟩
      · exact (ih h).imp id fun h => h.imp (fun h => h.imp id fun h => .tail _ h) fun h => h.imp id fun h => .tail _ h
    | cell =>
      rcases List.mem_cons.mp (show e ∈ (⟨y, some ((cs.lookup y).getD 0), slotAt ps y⟩ : Ent) :: ents0 ps cs r from h) with rfl | h
      · exact ⟨rfl, .inr ⟨rfl, .head _⟩⟩
      · exact (ih h).imp id fun h => h.imp (fun h => h.imp id fun h => .tail _ h) fun h => h.imp id fun h => .tail _ h
    | _ => exact (ih (show e ∈ ents0 ps cs r from h)).imp id fun h => h.imp (fun h => h.imp id fun h => .tail _ h) fun h => h.imp id fun h => .tail _ h
theorem ents0_names {ps : List (Str × Slot)} {cs : List (Str × Addr)} : ∀ names : List (Str × NameKind), ((ents0 ps cs names).map Ent.x).Sublist (names.map (·.1)) := by
  intro l0
  induction l0 with
  | nil => exact .slnil
  | cons q0 r ih =>
    obtain ⟨y, k⟩ := q0
    cases k with
    | «local» => exact ih.cons₂ _
    | cell => exact ih.cons₂ _
    | _ => exact ih.cons _
theorem slotAt_mem {ps : List (Str × Slot)} {x : Str} {b : Addr} (h : b ∈ (slotAt ps x).fp) : ∃ sl, (x, sl) ∈ ps ∧ b ∈ sl.fp := by
  unfold slotAt at h
  cases q : ps.lookup x with
  | none => rw [q] at h; cases h
  | some sl => rw [q] at h; exact ⟨sl, mem_of_lookup q, h⟩
theorem fps_apart : ∀ {ps : List (Str × Slot)} {x y : Str} {sl sl' : Slot} {b : Addr}, (fps ps).Nodup → (x, sl) ∈ ps → (y, sl') ∈ ps → b ∈ sl.fp → b ∈ sl'.fp → x = y := by
  intro l0
  induction l0 with
  | nil => exact @fun _ _ _ _ _ _ h => nomatch h
  | cons p r ih =>
    intro x y sl sl' b hn h1 h2 hb hb'
    have hn' : (p.2.fp ++ fps r).Nodup := hn
    obtain ⟨n1, n2, n3⟩ := List.nodup_append.mp hn'
    rcases List.mem_cons.mp h1 with e1 | m1 <;> rcases List.mem_cons.mp h2 with e2 | m2
    · rw [← e2] at e1; exact (Prod.mk.inj e1).1
    · subst e1; exact absurd rfl (n3 b hb b (List.mem_flatMap.mpr ⟨(y, sl'), m2, hb'⟩))
    · subst e2; exact absurd rfl (n3 b hb' b (List.mem_flatMap.mpr ⟨(x, sl), m1, hb⟩))
    · exact ih n2 m1 m2 hb hb'
theorem slot_nd {ps : List (Str × Slot)} {x : Str} : (fps ps).Nodup → (slotAt ps x).fp.Nodup := by
  intro hn
  unfold slotAt
  cases q : ps.lookup x with
  | none => exact List.nodup_nil
  | some sl =>
    have := mem_of_lookup q
    clear q
    induction ps with
    | nil => cases this
    | cons p r ih =>
      have hn' : (p.2.fp ++ fps r).Nodup := hn
      obtain ⟨n1, n2, n3⟩ := List.nodup_append.mp hn'
      rcases List.mem_cons.mp this with e | h
      · subst e; exact n1
      · exact ih n2 h
theorem ents0_nd {ps : List (Str × Slot)} {cs : List (Str × Addr)} (hfp : (fps ps).Nodup) (hcs : cs.Pairwise fun x y => x.2 ≠ y.2) (hoff : ∀ q ∈ cs, q.2 ∉ fps ps) : ∀ {names : List (Str × NameKind)}, (names.map (·.1)).Nodup →
    (∀ x, (x, NameKind.cell) ∈ names → (cs.lookup x).isSome = true) → (V (ents0 ps cs names)).Nodup := by
  intro l0
  induction l0 with
  | nil => exact @fun _ _ => List.nodup_nil
  | cons q0 r ih =>
    obtain ⟨y, k⟩ := q0
    intro hn hc
    rw [List.map_cons, List.nodup_cons] at hn
    have ih := ih hn.2 fun x h => hc x (.tail _ h)
    have notin : ∀ e ∈ ents0 ps cs r, e.x ≠ y := fun e he hxy => by
      have := (ents0_names (ps := ps) (cs := cs) r).subset (List.mem_map.mpr ⟨e, he, rfl⟩)
      rw [hxy] at this; exact hn.1 this
    have cellOf : ∀ e ∈ ents0 ps cs r, ∀ c ∈ e.loc.toList, (e.x, c) ∈ cs := fun e he c hcm => by
      rcases (ents0_mem he).2 with ⟨h1, _⟩ | ⟨h1, h2⟩
      · rw [h1] at hcm; cases hcm
      · obtain ⟨c', hc'⟩ := Option.isSome_iff_exists.mp (hc e.x (.tail _ h2))
        rw [h1, hc'] at hcm
        rw [List.mem_singleton.mp hcm]
        exact mem_of_lookup hc'
    have slotd : ∀ b ∈ (slotAt ps y).fp, b ∉ V (ents0 ps cs r) := fun b hb hV => by
      obtain ⟨e, he, hbe⟩ := List.mem_flatMap.mp hV
      obtain ⟨sl, hm, hb'⟩ := slotAt_mem hb
      rcases List.mem_append.mp hbe with h | h
      · exact hoff _ (cellOf e he b h) (List.mem_flatMap.mpr ⟨_, hm, hb'⟩)
      · rw [(ents0_mem he).1] at h
        obtain ⟨sl2, hm2, hb2⟩ := slotAt_mem h
        exact notin e he (fps_apart hfp hm2 hm hb2 hb')
    cases k with
    | «local» =>
      show (V ((⟨y, none, slotAt ps y⟩ : Ent) :: ents0 ps cs r)).Nodup
      rw [V_cons]
      exact List.nodup_append.mpr ⟨slot_nd hfp, ih, fun a ha b hb e => slotd a ha (e ▸ hb)⟩
    | cell =>
      show (V ((⟨y, some ((cs.lookup y).getD 0), slotAt ps y⟩ : Ent) :: ents0 ps cs r)).Nodup
      obtain ⟨c, hcl⟩ := Option.isSome_iff_exists.mp (hc y (.head _))
      rw [V_cons]
      have e0 : (⟨y, some ((cs.lookup y).getD 0), slotAt ps y⟩ : Ent).fp = c :: (slotAt ps y).fp := by rw [hcl]; rfl
      rw [e0]
      have hcm := mem_of_lookup hcl
      refine List.nodup_append.mpr ⟨List.nodup_cons.mpr ⟨fun h => ?_, slot_nd hfp⟩, ih, fun a ha b hb e => ?_⟩
      · obtain ⟨sl, hm, hb'⟩ := slotAt_mem h
        exact hoff _ hcm (List.mem_flatMap.mpr ⟨_, hm, hb'⟩)
      · subst e
        rcases List.mem_cons.mp ha with rfl | ha
        · obtain ⟨e, he, hbe⟩ := List.mem_flatMap.mp hb
          rcases List.mem_append.mp hbe with h | h
          · exact notin e he (name_of_addr hcs (cellOf e he _ h) hcm)
          · rw [(ents0_mem he).1] at h
            obtain ⟨sl, hm, hb'⟩ := slotAt_mem h
            exact hoff _ hcm (List.mem_flatMap.mpr ⟨_, hm, hb'⟩)
        · exact slotd a ha hb
    | _ => exact ih
noncomputable def FlV (h : Heap) (T : Addr → Prop) : Fl → Value → Prop
  | .next, v => v = .none
  | .ret d, v => Rd h T d v
structure Called (P : Params) (g : Heap) (T : Addr → Prop) (F : List Addr) (s : Shared) (ρ' : List Ent) (fl : Fl) (v : Value) (s' : Shared) : Prop where
  same : ∃ h' tk, s' = { s with heap := h', toks := tk }
  keep : ∀ b o, b ∉ F → s.heap.get? b = some o → s'.heap.get? b = some o
  new : ∀ b ∈ V ρ', b ∈ F ∨ s.heap.get? b = none
  env : ∃ env, s.heap.get? env.locals = none ∧ SR P g env T ρ' s'.heap ∧ FlV s'.heap (Tt env T ρ') fl v
theorem Room.down {n : Nat} {A : Around} {env : Env} (h : Room (n + 1) A) : Room n (A.deeper env) := by
  obtain ⟨h1, h2, h3⟩ := h
  refine ⟨h1, ?_, ?_⟩
  · show A.depth + 1 + 3 * n < 700; omega
  · show A.units + 3 + 16 * n + 500 < cLine; omega
theorem fn_enterM {c : Bool} {K : Frag} {mg mb : Str → Option Value} (G : GG K g mg mb) {a : Addr} {fd : FuncData} {body : List Stmt} (F : FnOk K a fd body) {A : Around} (hA : Room (n + 1) A) {s : Shared} {T : Addr → Prop} {vals : List Value} {ps : List (Str × Slot)} {bs : List (Str × Value)} {Q : Value → Shared → Prop} {E : Value → Shared → Prop}
    (hr : HR g (fun b => T b ∨ b ∈ fps ps) s.heap) (hfp : (fps ps).Nodup) (hoff : ∀ b ∈ fps ps, ¬ T b) (hps : PsIs w.params s.heap (fun b => T b ∨ b ∈ fps ps) ps bs) (hbind : BindsTo s fd ⟨vals, []⟩ bs)
    (hkind : (ps.all fun y => fd.scope.names.lookup y.1 == some .local || fd.scope.names.lookup y.1 == some .cell) = true) (hpn : nodupB (ps.map (·.1)) = true)
    (h : ∀ cs env s₁, EnvOk env → env.scope = fd.scope → env.frame = some env.locals → Room n (A.deeper env) → s.heap.get? env.locals = none → SR w.params g env T (ents0 ps cs fd.scope.names) s₁.heap → (∃ h1 t1, s₁ = { s with heap := h1, toks := t1 }) →
      (∀ b o, s.heap.get? b = some o → s₁.heap.get? b = some o) → (∀ b ∈ V (ents0 ps cs fd.scope.names), b ∈ fps ps ∨ s.heap.get? b = none) →
      wpM c (model prog w) (A.deeper env) (execs body env) (fun f s' => Q (match f with | .ret v => v | _ => .none) s') (fun e s' => wpAny (model prog w) (A.deeper env) (leaving env e) (fun _ s'' => E e s'') E s') s₁) :
    codeM c (model prog w) A (.call (.ref a) ⟨vals, []⟩) (fun r s' => match r with | .ok (.ret v) => Q v s' | .ok _ => False | .error e => E e s') s := by
  obtain ⟨oc, od, osl, hl⟩ := F.get
  have hn := nodupB_is F.nd
  have hroom : A.depth < recursionLimit := by
    have := hA.2.1
    have e : recursionLimit = 1000 := rfl
    omega
  have hbn : (bs.map (·.1)).Nodup := by rw [hps.names]; exact nodupB_is hpn
  refine codeM_call_function hroom (hr.1 _ _ (G.kin _ _ hl)) rfl F.co F.gen F.body (codeRec_of (G.kin.keeps hr.1) F.code) (hbind _ _ _ _ ?_)
  rw [F.clo, F.gl, F.bl]
  have hk2 : (bs.all fun y => fd.scope.names.lookup y.1 == some .local || fd.scope.names.lookup y.1 == some .cell) = true := by
    have e1 : (bs.all fun y => fd.scope.names.lookup y.1 == some .local || fd.scope.names.lookup y.1 == some .cell) = ((bs.map (·.1)).all fun y => fd.scope.names.lookup y == some .local || fd.scope.names.lookup y == some .cell) := by rw [List.all_map]; rfl
    have e2 : (ps.all fun y => fd.scope.names.lookup y.1 == some .local || fd.scope.names.lookup y.1 == some .cell) = ((ps.map (·.1)).all fun y => fd.scope.names.lookup y == some .local || fd.scope.names.lookup y == some .cell) := by rw [List.all_map]; rfl
    rw [e1, hps.names, ← e2]; exact hkind
  refine wpAny_newFunctionEnv_cells F.kind (kindsX hk2 _) fun env he s₁ x => ?_
  refine ⟨(G.gf.lim.keeps hr.1).keeps x.toInCall.keep, codeM_func ?_⟩
  generalize hcs : cellsFrom (s.heap.objs.size + 1) fd.scope.names [] = cs at *
  have hcells : env.cells = cs := by rw [he]; rfl
  have hloc : env.locals = s.heap.objs.size := by rw [he]; rfl
  have hsc : env.scope = fd.scope := by rw [he]; rfl
  have hko : ∀ y, env.kindOf y = fd.scope.names.lookup y := fun y => by unfold Env.kindOf; rw [hsc]
  have okE : EnvOk env := by
    rw [he]
    exact ⟨F.kind, rfl, rfl⟩
  have hLn : s.heap.get? s.heap.objs.size = none := get_size_none _
  have big : ∀ b, s.heap.objs.size ≤ b → s.heap.get? b = none := by
    intro b (hb : @LE.le Nat _ s.heap.objs.size b)
    cases q : s.heap.get? b with
    | none => rfl
    | some o => exact absurd (Heap.lt_size q) (Nat.not_lt.mpr hb)
  have cnew : ∀ q ∈ cs, s.heap.get? q.2 = none ∧ q.2 ≠ env.locals := fun q hq => by
    have : env.locals < q.2 := x.above q.1 q.2 (hcells ▸ hq)
    exact ⟨big _ (hloc ▸ Nat.le_of_lt this), Nat.ne_of_gt this⟩
  have cellOk : ∀ y, (y, NameKind.cell) ∈ fd.scope.names → (cs.lookup y).isSome = true := fun y hy => by
    have := cellsFrom_some fd.scope.names (s.heap.objs.size + 1) [] (.inl (lookup_nd hn hy))
    rwa [hcs] at this
  have told : ∀ b, (T b ∨ b ∈ fps ps) → (s.heap.get? b).isSome = true ∧ g.get? b = none := hr.2
  have slotT : ∀ y b, b ∈ (slotAt ps y).fp → b ∈ fps ps := fun y b hb => by
    obtain ⟨sl, hm, hb'⟩ := slotAt_mem hb
    exact List.mem_flatMap.mpr ⟨(y, sl), hm, hb'⟩
  have Vin : ∀ b ∈ V (ents0 ps cs fd.scope.names), b ∈ fps ps ∨ ∃ q ∈ cs, q.2 = b := fun b hb => by
    obtain ⟨e, hm, hbe⟩ := List.mem_flatMap.mp hb
    rcases List.mem_append.mp hbe with h | h
    · rcases (ents0_mem hm).2 with ⟨h1, _⟩ | ⟨h1, h2⟩
      · rw [h1] at h; cases h
      · obtain ⟨c, hc⟩ := Option.isSome_iff_exists.mp (cellOk e.x h2)
        rw [h1, hc] at h
        exact .inr ⟨(e.x, c), mem_of_lookup hc, (List.mem_singleton.mp h).symm⟩
    · rw [(ents0_mem hm).1] at h
      exact .inl (slotT _ b h)
  have cellThere : ∀ q ∈ cs, (s₁.heap.get? q.2).isSome = true := fun q hq => by
    have hnd : (cs.map (·.1)).Nodup := by rw [← hcs]; exact cellsFrom_nd _ _ _ hn List.nodup_nil (by simp)
    obtain ⟨o, ho, _⟩ := x.cell q.1 q.2 (by rw [hcells]; exact lookup_nd hnd (show (q.1, q.2) ∈ cs from hq))
    rw [ho]; rfl
  have sr : SR w.params g env T (ents0 ps cs fd.scope.names) s₁.heap := by
    refine ⟨fun b o e => x.toInCall.keep b o (hr.1 b o e), List.nodup_cons.mpr ⟨fun h => ?_, ents0_nd hfp (hcells ▸ x.apart) (fun q hq h => ?_) hn cellOk⟩, fun b hb hT => ?_, fun b hb => ?_, (ents0_names _).nodup hn, _, x.toInCall.ns, fun e hm => ?_⟩
    · rcases Vin _ h with h | ⟨q, hq, e⟩
      · have := (told _ (.inr h)).1
        rw [hloc, hLn] at this; cases this
      · exact (cnew q hq).2 e
    · have := (told _ (.inr h)).1
      rw [(cnew q hq).1] at this; cases this
    · have h1 := (told b (.inl hT)).1
      rcases List.mem_cons.mp hb with rfl | hb
      · rw [hloc, hLn] at h1; cases h1
      · rcases Vin b hb with h | ⟨q, hq, rfl⟩
        · exact hoff b h hT
        · rw [(cnew q hq).1] at h1; cases h1
    · have gn : s.heap.get? b = none → g.get? b = none := fun hb => by
        cases e : g.get? b with
        | none => rfl
        | some o => rw [hr.1 b o e] at hb; cases hb
      have oldb : (T b ∨ b ∈ fps ps) → (s₁.heap.get? b).isSome = true ∧ g.get? b = none := fun h => by
        obtain ⟨o, ho⟩ := Option.isSome_iff_exists.mp (told b h).1
        exact ⟨by rw [x.toInCall.keep b o ho]; rfl, (told b h).2⟩
      rcases hb with h | h | h
      · exact oldb (.inl h)
      · obtain ⟨o, _, _, ho, _⟩ := x.toInCall.ns
        exact ⟨by rw [h, ho]; rfl, gn (by rw [h, hloc]; exact hLn)⟩
      · rcases Vin b h with h | ⟨q, hq, rfl⟩
        · exact oldb (.inr h)
        · exact ⟨cellThere q hq, gn (cnew q hq).1⟩
    · obtain ⟨h1, h2⟩ := ents0_mem hm
      have slot : ∀ o, o = bs.lookup e.x → SlotIs w.params s₁.heap (Tt env T (ents0 ps cs fd.scope.names)) e.sl o := by
        rintro o rfl
        rw [h1]
        unfold slotAt
        rcases hps.lookup (x := e.x) with ⟨sl, v, l1, l2, z⟩ | ⟨l1, l2⟩
        · rw [l1, l2]
          refine z.mono (fun b o _ e => x.toInCall.keep b o e) ?_
          rintro b (h | h | h)
          · exact .inl (.inl h)
          · exact .inr (by rw [h, hloc]; exact hLn)
          · rcases Vin b h with h | ⟨q, hq, rfl⟩
            · exact .inl (.inr h)
            · exact .inr (cnew q hq).1
        · rw [l1, l2]; rfl
      unfold EntIs
      rcases h2 with ⟨h2, h3⟩ | ⟨h2, h3⟩
      · rw [h2]
        have hkk := lookup_nd hn h3
        refine ⟨(hko _).trans hkk, slot _ ?_⟩
        rw [bindL_is bs _ hbn ((hko _).trans hkk)]
        simp
      · obtain ⟨c, hc⟩ := Option.isSome_iff_exists.mp (cellOk e.x h3)
        rw [h2, hc]
        have hkk := lookup_nd hn h3
        refine ⟨.inl ((hko _).trans hkk), by rw [hcells]; exact hc, _, x.cell e.x c (by rw [hcells]; exact hc), slot _ ?_⟩
        rw [bindC_is bs _ hbn (by rw [hko, hkk]; intro h; cases h)]
        simp
  refine wpM_mono (h cs env s₁ okE hsc (by rw [he]; rfl) hA.down (by rw [hloc]; exact hLn) sr (by obtain ⟨h1, t1, rfl, _⟩ := x.toInCall.done; exact ⟨h1, t1, rfl⟩) x.toInCall.keep fun b hb => ?_) (fun f s' q => q) fun _ _ x => x
  rcases Vin b hb with h | ⟨q, hq, rfl⟩
  · exact .inl h
  · exact .inr (cnew q hq).1
theorem fn_callM {c : Bool} {K : Frag} {mg mb : Str → Option Value} (G : GG K g mg mb) {a : Addr} {fd : FuncData} {body : List Stmt} (F : FnOk K a fd body) {A : Around} (hA : Room (n + 1) A) {s : Shared} {T : Addr → Prop} {vals : List Value} {ps : List (Str × Slot)} {bs : List (Str × Value)} {Q : Value → Shared → Prop} {K' : Fl → List Ent → Prop}
    (hr : HR g (fun b => T b ∨ b ∈ fps ps) s.heap) (hfp : (fps ps).Nodup) (hoff : ∀ b ∈ fps ps, ¬ T b) (hps : PsIs w.params s.heap (fun b => T b ∨ b ∈ fps ps) ps bs) (hbind : BindsTo s fd ⟨vals, []⟩ bs)
    (hkind : (ps.all fun y => fd.scope.names.lookup y.1 == some .local || fd.scope.names.lookup y.1 == some .cell) = true) (hpn : nodupB (ps.map (·.1)) = true)
    (hW : ∀ cs, WSM c prog w g n fd.scope body (ents0 ps cs fd.scope.names) K')
    (hQ : ∀ fl ρ' v s', K' fl ρ' → Called w.params g T (fps ps) s ρ' fl v s' → Q v s') :
    codeM c (model prog w) A (.call (.ref a) ⟨vals, []⟩) (fun r s' => match r with | .ok (.ret v) => Q v s' | .ok _ => False | .error e => noE e s') s := by
  refine fn_enterM G F hA hr hfp hoff hps hbind hkind hpn fun cs env s₁ okE hsc _ hAd hL sr same keep hV => ?_
  refine wpM_mono (hW cs env (A.deeper env) T s₁ hsc okE hAd sr) (fun f s' h => ?_) noE_to
  obtain ⟨fl, ρ', k, p, hf⟩ := h
  refine hQ fl ρ' _ s' k ⟨?_, fun b o hb e => p.keep b o (fun hc => ?_) (keep b o e), fun b hb => ?_, env, hL, p.sr, ?_⟩
  · exact same_trans same p.same
  · rcases hc with h | h
    · rw [h, hL] at e; cases e
    · rcases hV b h with h | h
      · exact hb h
      · rw [h] at e; cases e
  · rcases p.new b hb with h | h
    · exact hV b h
    · cases q : s.heap.get? b with
      | none => exact .inr rfl
      | some o => rw [keep b o q] at h; cases h
  · cases fl with
    | next => rw [show f = .next from hf]; rfl
    | ret d => obtain ⟨v, rfl, r⟩ := hf; exact r
end
section
variable {prog : Program} {w : World} {g : Heap} {n : Nat} {sc : Scope} {ρ ρ' : List Ent}
inductive Bw : List Ent → List (Slot × Slot) → List Ent → Prop where
  | nil : Bw [] [] []
  | same {e : Ent} {r r' : List Ent} {us : List (Slot × Slot)} : Bw r us r' → Bw (e :: r) us (e :: r')
  | swap {x : Str} {l : Option Addr} {old sl : Slot} {r r' : List Ent} {us : List (Slot × Slot)} : Bw r us r' → Bw (⟨x, l, old⟩ :: r) ((old, sl) :: us) (⟨x, l, sl⟩ :: r')
theorem Bw.refl : ∀ ρ : List Ent, Bw ρ [] ρ
  | [] => .nil
  | _ :: r => .same (Bw.refl r)
theorem Sw.bw {x : Str} {old sl : Slot} (h : Sw ρ x old sl ρ') : Bw ρ [(old, sl)] ρ' := by
  induction h with
  | here => exact .swap (Bw.refl _)
  | there _ ih => exact .same ih
noncomputable def bwF (us : List (Slot × Slot)) : List Addr := us.flatMap fun u => u.1.fp
theorem Bw.shape {us : List (Slot × Slot)} (h : Bw ρ us ρ') : sig ρ' = sig ρ := by
  induction h with
  | nil => rfl
  | same _ ih => simp [sig] at ih ⊢; exact ih
  | swap _ ih => simp [sig] at ih ⊢; exact ih
theorem Bw.VV {us : List (Slot × Slot)} (h : Bw ρ us ρ') (hf : ∀ u ∈ us, u.2.fp = u.1.fp) : V ρ' = V ρ := by
  induction h with
  | nil => rfl
  | same _ ih => rw [V_cons, V_cons, ih hf]
  | @swap x l old sl _ _ _ _ ih =>
    rw [V_cons, V_cons, ih fun u hu => hf u (.tail _ hu)]
    have := hf _ (.head _)
    show (l.toList ++ sl.fp) ++ _ = (l.toList ++ old.fp) ++ _
    rw [show sl.fp = old.fp from this]
theorem Bw.sub {us : List (Slot × Slot)} (h : Bw ρ us ρ') : ∀ b ∈ bwF us, b ∈ V ρ := by
  induction h with
  | nil => intro b hb; cases hb
  | same _ ih => intro b hb; rw [V_cons]; exact List.mem_append.mpr (.inr (ih b hb))
  | @swap x l old sl _ _ us _ ih =>
    intro b hb
    rw [V_cons]
    rcases List.mem_append.mp (show b ∈ old.fp ++ bwF us from hb) with h | h
    · exact List.mem_append.mpr (.inl (List.mem_append.mpr (.inr h)))
    · exact List.mem_append.mpr (.inr (ih b h))
theorem Bw.nd {us : List (Slot × Slot)} (h : Bw ρ us ρ') (hn : (V ρ).Nodup) : (bwF us).Nodup := by
  induction h with
  | nil => exact List.nodup_nil
  | same _ ih => rw [V_cons] at hn; exact ih (List.nodup_append.mp hn).2.1
  | @swap x l old sl _ _ us hb ih =>
    rw [V_cons] at hn
    obtain ⟨n1, n2, n3⟩ := List.nodup_append.mp hn
    exact List.nodup_append.mpr ⟨(List.nodup_append.mp (show (l.toList ++ old.fp).Nodup from n1)).2.1, ih n2, fun a ha b hb' e => n3 a (List.mem_append.mpr (.inr ha)) b (hb.sub b hb') e⟩
theorem Bw.mem {us : List (Slot × Slot)} (h : Bw ρ us ρ') (hn : (V ρ).Nodup) : ∀ e ∈ ρ', (e ∈ ρ ∧ ∀ b ∈ e.fp, b ∉ bwF us) ∨ ∃ old, (⟨e.x, e.loc, old⟩ : Ent) ∈ ρ ∧ (old, e.sl) ∈ us ∧ ∀ c ∈ e.loc.toList, c ∉ bwF us := by
  induction h with
  | nil => intro e he; cases he
  | @same e0 r r' us hb ih =>
    rw [V_cons] at hn
    obtain ⟨n1, n2, n3⟩ := List.nodup_append.mp hn
    intro e he
    rcases List.mem_cons.mp he with rfl | he
    · exact .inl ⟨.head _, fun b h1 h2 => n3 b h1 b (hb.sub b h2) rfl⟩
    · rcases ih n2 e he with ⟨h1, h2⟩ | ⟨old, h1, h2, h3⟩
      · exact .inl ⟨.tail _ h1, h2⟩
      · exact .inr ⟨old, .tail _ h1, h2, h3⟩
  | @swap x l old sl r r' us hb ih =>
    rw [V_cons] at hn
    obtain ⟨n1, n2, n3⟩ := List.nodup_append.mp hn
    obtain ⟨m1, m2, m3⟩ := List.nodup_append.mp (show (l.toList ++ old.fp).Nodup from n1)
    have offF : ∀ b, b ∈ V r → b ∉ old.fp := fun b h1 h2 => n3 b (List.mem_append.mpr (.inr h2)) b h1 rfl
    have split : ∀ b, b ∈ bwF ((old, sl) :: us) → b ∈ old.fp ∨ b ∈ bwF us := fun b hb => List.mem_append.mp (show b ∈ old.fp ++ bwF us from hb)
    intro e he
    rcases List.mem_cons.mp he with rfl | he
    · refine .inr ⟨old, .head _, .head _, fun c hc h => ?_⟩
      rcases split c h with h | h
      · exact m3 c hc c h rfl
      · exact n3 c (List.mem_append.mpr (.inl hc)) c (hb.sub c h) rfl
    · rcases ih n2 e he with ⟨h1, h2⟩ | ⟨old', h1, h2, h3⟩
      · exact .inl ⟨.tail _ h1, fun b hb' h => (split b h).elim (offF b (fp_sub h1 hb')) (h2 b hb')⟩
      · exact .inr ⟨old', .tail _ h1, .tail _ h2, fun c hc h => (split c h).elim (offF c (fp_sub h1 (List.mem_append.mpr (.inl hc)))) (h3 c hc)⟩
noncomputable def Slot.owned : Slot → Bool
  | .lst .. => true
  | .dct .. => true
  | .obj .. => true
  | _ => false
theorem owned_val {P : Params} {h : Heap} {T : Addr → Prop} {sl : Slot} {o : Option Value} (x : SlotIs P h T sl o) (ho : sl.owned = true) : ∃ a, sl.fp.head? = some a ∧ o = some (.ref a) := by
  cases sl with
  | unb => cases ho
  | val d => cases ho
  | lst a xs => exact ⟨a, rfl, x.1⟩
  | dct a es => exact ⟨a, rfl, x.1⟩
  | obj a dx C fs => exact ⟨a, rfl, x.1⟩
theorem borrow_back {P : Params} {env : Env} {H : Addr → Prop} {s s' : Shared} {us : List (Slot × Slot)} {ρ'' : List Ent} {F : List Addr} {fl : Fl} {v : Value} (sr : SR P g env H ρ s.heap) (hB : Bw ρ us ρ'') (hF : ∀ b, b ∈ F ↔ b ∈ bwF us)
    (hu : ∀ u ∈ us, u.2.fp = u.1.fp ∧ u.1.owned = true ∧ u.2.owned = true ∧ ∃ y l, (⟨y, l, u.2⟩ : Ent) ∈ ρ') (C : Called P g (fun b => Tt env H ρ b ∧ b ∉ F) F s ρ' fl v s') :
    Post0 P g env H ρ s ρ'' s' ∧ FlV s'.heap (Tt env H ρ'') fl v := by
  obtain ⟨same, keep, new, env', hL, sr', hv⟩ := C
  have hVV := hB.VV fun u h => (hu u h).1
  have hnV := (List.nodup_cons.mp sr.nd).2
  have Fsub : ∀ b ∈ F, b ∈ V ρ := fun b hb => hB.sub b ((hF b).mp hb)
  have FV : ∀ b ∈ F, b ∈ V ρ' := fun b hb => by
    obtain ⟨u, hm, hbu⟩ := List.mem_flatMap.mp ((hF b).mp hb)
    obtain ⟨h1, _, _, y, l, h2⟩ := hu u hm
    exact sl_sub h2 (by rw [h1]; exact hbu)
  have TT : ∀ a, Tt env H ρ a → Tt env' (fun b => Tt env H ρ b ∧ b ∉ F) ρ' a := fun a ha => by
    by_cases h : a ∈ F
    · exact .inr (.inr (FV a h))
    · exact .inl ⟨ha, h⟩
  have Teq : Tt env H ρ'' = Tt env H ρ := by funext a; unfold Tt; rw [hVV]
  obtain ⟨mm, hn, he⟩ := sr.ents
  obtain ⟨mc, hnc, hec⟩ := sr'.ents
  have locF : env.locals ∉ F := fun h => (List.nodup_cons.mp sr.nd).1 (Fsub _ h)
  refine ⟨⟨⟨sr'.keep, by rw [hVV]; exact sr.nd, by rw [hVV]; exact sr.sep, fun a ha => ?_, ?_, mm, hn.at' fun o e => keep _ o locF e, fun e hm => ?_⟩, same, fun b o hb e => keep b o (fun h => hb (.inr (Fsub b h))) e, fun b hb => .inl (hVV ▸ hb), hB.shape⟩, ?_⟩
  · rw [Teq] at ha
    exact ⟨(sr'.dom a (TT a ha)).1, (sr.dom a ha).2⟩
  · rw [sig_names hB.shape]; exact sr.names
  · rcases hB.mem hnV e hm with ⟨h1, h2⟩ | ⟨old, h1, h2, h3⟩
    · refine (he e h1).other rfl (fun a o ha e' => keep a o (fun hc => ?_) e') fun a ha => .inl (Teq ▸ ha)
      rcases ha with ha | ha
      · exact ha (.inr (.inr (Fsub a hc)))
      · exact h2 a ha ((hF a).mp hc)
    · have z := he _ h1
      obtain ⟨e1, o1, o2, y, l, hy⟩ := hu _ h2
      have z' := hec _ hy
      have sl2 : ∃ o, SlotIs P s'.heap (Tt env' (fun b => Tt env H ρ b ∧ b ∉ F) ρ') e.sl o := by
        unfold EntIs at z'
        cases l with
        | none => exact ⟨_, z'.2⟩
        | some c => obtain ⟨_, _, ov, _, z'⟩ := z'; exact ⟨ov, z'⟩
      obtain ⟨o', sl2⟩ := sl2
      obtain ⟨a', q1, q2⟩ := owned_val sl2 o2
      have conv : ∀ o, SlotIs P s.heap (Tt env H ρ) old o → SlotIs P s'.heap (Tt env H ρ'') e.sl o := fun o x => by
        obtain ⟨a, p1, p2⟩ := owned_val x o1
        have e1' : e.sl.fp = old.fp := e1
        rw [e1', p1] at q1
        cases q1
        subst p2
        rw [q2] at sl2
        exact sl2.mono (fun _ _ _ e => e) fun b hb => .inl (TT b (Teq ▸ hb))
      unfold EntIs at z ⊢
      cases hl : e.loc with
      | none => rw [hl] at z; exact ⟨z.1, conv _ z.2⟩
      | some c =>
        rw [hl] at z
        obtain ⟨z1, z2, ov, z3, z4⟩ := z
        refine ⟨z1, z2, ov, ?_, conv _ z4⟩
        obtain ⟨o, ho, hd⟩ := z3
        exact ⟨o, keep c o (fun hc => h3 c (by rw [hl]; exact .head _) ((hF c).mp hc)) ho, hd⟩
  · cases fl with
    | next => exact hv
    | ret d => exact Rd.mono (fun _ _ _ e => e) (fun a ha => .inl (TT a (Teq ▸ ha))) hv
inductive Arg where
  | d (d : PV) | o (a : Addr)
noncomputable def ArgIs (h : Heap) (T : Addr → Prop) : Arg → Value → Prop
  | .d d, v => Rd h T d v
  | .o a, v => v = .ref a
noncomputable def ArgsIs (h : Heap) (T : Addr → Prop) : List Arg → List Value → Prop
  | [], vs => vs = []
  | a :: as, vs => ConsR (ArgIs h T a) (ArgsIs h T as) vs
noncomputable def ArgSl (ρ : List Ent) : List Arg → List Slot → Prop
  | [], sls => sls = []
  | .d d :: as, sls => ∃ r, sls = .val d :: r ∧ ArgSl ρ as r
  | .o a :: as, sls => ∃ sl r, sls = sl :: r ∧ sl.fp.head? = some a ∧ sl.owned = true ∧ (∃ x, At ρ x sl) ∧ ArgSl ρ as r
theorem ArgsIs.length {h : Heap} {T : Addr → Prop} : ∀ {as : List Arg} {vs : List Value}, ArgsIs h T as vs → vs.length = as.length := by
  intro l0
  induction l0 with
  | nil => exact @fun _ x => by cases x; rfl
  | cons a as ih =>
    intro _ x
    obtain ⟨v, r, rfl, _, x⟩ := x; simp [ih x]
theorem slot_at {P : Params} {env : Env} {H : Addr → Prop} {h : Heap} {x : Str} {sl : Slot} (sr : SR P g env H ρ h) (hx : At ρ x sl) : ∃ o, SlotIs P h (Tt env H ρ) sl o := by
  obtain ⟨l, hm⟩ := hx.mem
  obtain ⟨m, hn, he⟩ := sr.ents
  have z := he _ hm
  unfold EntIs at z
  cases l with
  | none => exact ⟨_, z.2⟩
  | some c => obtain ⟨_, _, ov, _, z⟩ := z; exact ⟨ov, z⟩
theorem args_ps {P : Params} {env : Env} {H : Addr → Prop} {h : Heap} (sr : SR P g env H ρ h) : ∀ {xs : List Str} {as : List Arg} {sls : List Slot} {vs : List Value}, xs.length = sls.length → ArgsIs h (Tt env H ρ) as vs → ArgSl ρ as sls → PsIs P h (Tt env H ρ) (xs.zip sls) (xs.zip vs) := by
  intro xs as
  induction as generalizing xs with
  | nil =>
    intro sls vs hl h1 h2
    cases h1
    cases h2
    cases xs with
    | nil => exact rfl
    | cons x r => cases hl
  | cons a as ih =>
    intro sls vs hl h1 h2
    obtain ⟨v, r, rfl, h3, h1⟩ := h1
    cases xs with
    | nil => cases sls with
      | nil => cases a with
        | d d => exact (nomatch h2.choose_spec.1)
        | o a => exact (nomatch h2.choose_spec.choose_spec.1)
      | cons _ _ => cases hl
    | cons x xs =>
    cases a with
    | d d =>
      obtain ⟨r', rfl, h2⟩ := h2
      exact ⟨v, _, rfl, ⟨v, rfl, h3⟩, ih (Nat.succ.inj hl) h1 h2⟩
    | o a =>
      obtain ⟨sl, r', rfl, h4, h5, ⟨x0, h6⟩, h2⟩ := h2
      refine ⟨v, _, rfl, ?_, ih (Nat.succ.inj hl) h1 h2⟩
      obtain ⟨o, z⟩ := slot_at sr h6
      obtain ⟨a', q1, q2⟩ := owned_val z h5
      rw [h4] at q1
      cases q1
      rw [show v = .ref a from h3, ← q2]; exact z
noncomputable def ConM (c : Bool) (prog : Program) (w : World) (g : Heap) (n : Nat) (fd : FuncData) (body : List Stmt) (xs : List Str) (as : List Arg) (ρ : List Ent) (K : PV → List Ent → Prop) : Prop :=
  ∃ sls us₀ ρ₀, ArgSl ρ as sls ∧ xs.length = sls.length ∧ Bw ρ us₀ ρ₀ ∧ (fps (xs.zip sls)).Perm (bwF us₀) ∧
    ((xs.zip sls).all fun y => fd.scope.names.lookup y.1 == some .local || fd.scope.names.lookup y.1 == some .cell) = true ∧
    ∀ cs, WSM c prog w g n fd.scope body (ents0 (xs.zip sls) cs fd.scope.names) fun fl ρ' => ∃ us ρ'', Bw ρ us ρ'' ∧ (fps (xs.zip sls)).Perm (bwF us) ∧
      (∀ u ∈ us, u.2.fp = u.1.fp ∧ u.1.owned = true ∧ u.2.owned = true ∧ ∃ y l, (⟨y, l, u.2⟩ : Ent) ∈ ρ') ∧ K (match fl with | .ret d => d | .next => .none) ρ''
noncomputable def Con (prog : Program) (w : World) (g : Heap) (n : Nat) (fd : FuncData) (body : List Stmt) (xs : List Str) (as : List Arg) (ρ : List Ent) (K : PV → List Ent → Prop) : Prop := ConM false prog w g n fd body xs as ρ K
theorem zip_names {α β : Type} {xs : List α} {ys : List β} (h : xs.length = ys.length) : (xs.zip ys).map (·.1) = xs := List.map_fst_zip (Nat.le_of_eq h)
theorem call_conM {c : Bool} {K : Frag} {mg mb : Str → Option Value} (G : GG K g mg mb) {a : Addr} {fd : FuncData} {body : List Stmt} (F : FnOk K a fd body) {A : Around} {env : Env} {H : Addr → Prop} (hA : Room (n + 1) A) {s : Shared} {xs : List Str} {as : List Arg} {vals : List Value}
    {Kk : PV → List Ent → Prop} (hpn : nodupB xs = true) (hbind : ∀ vs : List Value, vs.length = xs.length → ∀ s, (∀ b o, g.get? b = some o → s.heap.get? b = some o) → BindsTo s fd ⟨vs, []⟩ (xs.zip vs)) (sr : SR w.params g env H ρ s.heap) (hargs : ArgsIs s.heap (Tt env H ρ) as vals) (hc : ConM c prog w g n fd body xs as ρ Kk) :
    codeM c (model prog w) A (.call (.ref a) ⟨vals, []⟩) (fun r s' => match r with | .ok (.ret v) => REs w.params g env H ρ s Kk v s' | .ok _ => False | .error e => noE e s') s := by
  obtain ⟨sls, us0, ρ0, h1, h2, h3, h4, h5, h6⟩ := hc
  have hnV := (List.nodup_cons.mp sr.nd).2
  have Fsub : ∀ b ∈ fps (xs.zip sls), b ∈ V ρ := fun b hb => h3.sub b (h4.mem_iff.mp hb)
  have eT : (fun b => (Tt env H ρ b ∧ b ∉ fps (xs.zip sls)) ∨ b ∈ fps (xs.zip sls)) = Tt env H ρ := by
    funext b
    refine propext ⟨fun h => h.elim (·.1) fun h => .inr (.inr (Fsub b h)), fun h => ?_⟩
    by_cases hb : b ∈ fps (xs.zip sls)
    · exact .inr hb
    · exact .inl ⟨h, hb⟩
  have hps := args_ps sr h2 hargs h1
  have hvl : vals.length = xs.length := by
    have e1 := hps.names
    have := congrArg List.length e1
    simp at this
    have l1 := hargs.length
    have l2 : sls.length = as.length := by
      clear this e1 hps l1 hargs h6 h5 h4 h3 h2 Fsub eT
      induction as generalizing sls with
      | nil => cases h1; rfl
      | cons a as ih =>
        cases a with
        | d d => obtain ⟨r, rfl, h⟩ := h1; simp [ih _ h]
        | o a => obtain ⟨sl, r, rfl, _, _, _, h⟩ := h1; simp [ih _ h]
    omega
  refine fn_callM (T := fun b => Tt env H ρ b ∧ b ∉ fps (xs.zip sls)) (ps := xs.zip sls) (bs := xs.zip vals) G F hA (by rw [eT]; exact sr.hr) (h4.nodup_iff.mpr (h3.nd hnV)) (fun b hb h => h.2 hb) (by rw [eT]; exact hps) (hbind vals hvl s sr.keep) h5 (by rw [zip_names h2]; exact hpn) h6
    fun fl ρ' v s' hk C => ?_
  obtain ⟨us, ρ'', b1, b2, b3, b4⟩ := hk
  obtain ⟨p, q⟩ := borrow_back sr b1 (fun b => b2.mem_iff) b3 C
  refine ⟨_, ρ'', b4, p, ?_⟩
  cases fl with
  | next => exact q
  | ret d => exact q
end
section
variable {prog : Program} {w : World} {g : Heap} {n : Nat} {sc : Scope} {ρ ρ' : List Ent}
section
variable {P : Params} {env : Env} {H : Addr → Prop} {h h' : Heap} {x : Str} {old sl : Slot}
theorem SR.swapN {N : Addr → Prop} (sr : SR P g env (fun a => H a ∨ N a) ρ h) (sw : Sw ρ x old sl ρ') (hfp : ∀ b ∈ sl.fp, b ∈ old.fp ∨ N b) (hN : ∀ b, N b → ¬ H b) (hnd : sl.fp.Nodup)
    (hs : ∀ b o, b ∉ old.fp → h.get? b = some o → h'.get? b = some o) (hdom : ∀ b ∈ old.fp, (h'.get? b).isSome = true)
    (hv : ∀ o, SlotIs P h (Tt env (fun a => H a ∨ N a) ρ) old o → SlotIs P h' (Tt env H ρ') sl o) : SR P g env H ρ' h' := by
  obtain ⟨pre, l, post, rfl, rfl⟩ := sw.split
  obtain ⟨m, hns, he⟩ := sr.ents
  have hme : (⟨x, l, old⟩ : Ent) ∈ pre ++ ⟨x, l, old⟩ :: post := List.mem_append.mpr (.inr (.head _))
  have oldV : ∀ b ∈ old.fp, b ∈ V (pre ++ ⟨x, l, old⟩ :: post) := fun b hb => sl_sub hme hb
  have hV : ∀ b, b ∈ V (pre ++ ⟨x, l, sl⟩ :: post) → b ∈ V (pre ++ ⟨x, l, old⟩ :: post) ∨ N b := fun b hb => (sw.put.V b hb).elim .inl fun h => (hfp b h).imp (oldV b) id
  have hT : ∀ b, Tt env H (pre ++ ⟨x, l, sl⟩ :: post) b → Tt env (fun a => H a ∨ N a) (pre ++ ⟨x, l, old⟩ :: post) b := fun b hb => by
    rcases hb with h | h | h
    · exact .inl (.inl h)
    · exact .inr (.inl h)
    · exact (hV b h).elim (fun h => .inr (.inr h)) fun h => .inl (.inr h)
  have NV : ∀ b, N b → b ∉ env.locals :: V (pre ++ ⟨x, l, old⟩ :: post) := fun b hb hc => sr.sep b hc (.inr hb)
  have memold : ∀ e ∈ pre ++ post, e ∈ pre ++ ⟨x, l, old⟩ :: post := fun e he => by
    rcases List.mem_append.mp he with h5 | h5
    · exact List.mem_append.mpr (.inl h5)
    · exact List.mem_append.mpr (.inr (.tail _ h5))
  have hnd0 := sr.nd
  rw [V_app, V_cons] at hnd0
  obtain ⟨hL, hr⟩ := List.nodup_cons.mp hnd0
  obtain ⟨a1, a2, a3⟩ := List.nodup_append.mp hr
  obtain ⟨b1, b2, b3⟩ := List.nodup_append.mp a2
  have c1 := List.nodup_append.mp b1
  have offother : ∀ e ∈ pre ++ post, ∀ b ∈ old.fp, b ∉ e.fp := by
    intro e hm b hb hc
    have hbx : b ∈ (⟨x, l, old⟩ : Ent).fp := List.mem_append.mpr (.inr hb)
    rcases List.mem_append.mp hm with h5 | h5
    · exact a3 b (fp_sub h5 hc) b (List.mem_append.mpr (.inl hbx)) rfl
    · exact b3 b hbx b (fp_sub h5 hc) rfl
  have offL : env.locals ∉ old.fp := fun hb => (List.nodup_cons.mp sr.nd).1 (oldV _ hb)
  refine ⟨fun a o e => hs a o (fun hb => ?_) (sr.keep a o e), ?_, fun a ha => ?_, fun a ha => ?_, ?_, m, ?_, fun e hm => ?_⟩
  · rw [(sr.dom a (.inr (.inr (oldV a hb)))).2] at e; cases e
  · rw [V_app, V_cons]
    refine List.nodup_cons.mpr ⟨fun hc => ?_, ?_⟩
    · rcases hV _ (by rw [V_app, V_cons]; exact hc) with h | h
      · exact (List.nodup_cons.mp sr.nd).1 h
      · exact NV _ h (.head _)
    · refine List.nodup_append.mpr ⟨a1, List.nodup_append.mpr ⟨List.nodup_append.mpr ⟨c1.1, hnd, ?_⟩, b2, ?_⟩, ?_⟩
      · intro a ha b hb e
        rcases hfp b hb with h | h
        · exact c1.2.2 a ha b h e
        · exact NV b h (.tail _ (by rw [V_app, V_cons]; exact List.mem_append.mpr (.inr (List.mem_append.mpr (.inl (List.mem_append.mpr (.inl (e ▸ ha))))))))
      · intro a ha b hb e
        rcases List.mem_append.mp ha with h | h
        · exact b3 a (List.mem_append.mpr (.inl h)) b hb e
        · rcases hfp a h with h | h
          · exact b3 a (List.mem_append.mpr (.inr h)) b hb e
          · exact NV a h (.tail _ (by rw [V_app, V_cons]; exact List.mem_append.mpr (.inr (List.mem_append.mpr (.inr (e ▸ hb))))))
      · intro a ha b hb e
        rcases List.mem_append.mp hb with h | h
        · rcases List.mem_append.mp h with h | h
          · exact a3 a ha b (List.mem_append.mpr (.inl (List.mem_append.mpr (.inl h)))) e
          · rcases hfp b h with h | h
            · exact a3 a ha b (List.mem_append.mpr (.inl (List.mem_append.mpr (.inr h)))) e
            · exact NV b h (.tail _ (by rw [V_app, V_cons]; exact List.mem_append.mpr (.inl (e ▸ ha))))
        · exact a3 a ha b (List.mem_append.mpr (.inr h)) e
  · rcases List.mem_cons.mp ha with h1 | h1
    · exact fun hc => sr.sep a (by rw [h1]; exact .head _) (.inl hc)
    · rcases hV a h1 with h | h
      · exact fun hc => sr.sep a (.tail _ h) (.inl hc)
      · exact hN a h
  · have z := sr.dom a (hT a ha)
    refine ⟨?_, z.2⟩
    by_cases hb : a ∈ old.fp
    · exact hdom a hb
    · obtain ⟨o, ho⟩ := Option.isSome_iff_exists.mp z.1
      rw [hs a o hb ho]; rfl
  · have := sr.names
    simpa using this
  · exact hns.at' fun o e => hs _ o offL e
  · have : e = ⟨x, l, sl⟩ ∨ e ∈ pre ++ post := by
      rcases List.mem_append.mp hm with h5 | h5
      · exact .inr (List.mem_append.mpr (.inl h5))
      · rcases List.mem_cons.mp h5 with h6 | h6
        · exact .inl h6
        · exact .inr (List.mem_append.mpr (.inr h6))
    rcases this with rfl | hm
    · have z := he _ hme
      unfold EntIs at z ⊢
      cases l with
      | none => exact ⟨z.1, hv _ z.2⟩
      | some c =>
        obtain ⟨z1, z2, ov, ⟨oc, z3, z5⟩, z4⟩ := z
        refine ⟨z1, z2, ov, ⟨oc, hs c _ (fun hb => ?_) z3, z5⟩, hv _ z4⟩
        exact c1.2.2 c (.head _) c hb rfl
    · refine (he e (memold e hm)).other rfl (fun a o ha e' => hs a o (fun hb => ?_) e') fun a ha => .inl (hT a ha)
      rcases ha with h1 | h1
      · exact h1 (.inr (.inr (oldV a hb)))
      · exact offother e hm a hb h1
end
inductive RAs (P : Params) (g : Heap) (env : Env) (H : Addr → Prop) (ρ : List Ent) (s : Shared) (K : List Arg → List Ent → Prop) (vs : List Value) (s' : Shared) : Prop where
  | mk (as : List Arg) (ρ' : List Ent) (k : K as ρ') (p : Post0 P g env H ρ s ρ' s') (r : ArgsIs s'.heap (Tt env H ρ') as vs)
variable (prog w g) in
noncomputable def WAL (n : Nat) (sc : Scope) (es : List Expr) (ρ : List Ent) (K : List Arg → List Ent → Prop) : Prop :=
  ∀ (env : Env) (A : Around) (H : Addr → Prop) (s : Shared) (pos : Pos), env.scope = sc → EnvOk env → Room n A → SR w.params g env H ρ s.heap →
    wpAny (model prog w) A (spliced (backTo pos (starEach es env))) (fun vs s' => RAs w.params g env H ρ s K vs s') noE s
theorem wal_nil {K : List Arg → List Ent → Prop} (h : K [] ρ) : WAL prog w g n sc [] ρ K := fun _ _ _ _ _ _ _ _ sr => wpAny_pure ⟨[], ρ, h, SR.post sr, rfl⟩
theorem wal_e {e : Expr} {r : List Expr} {K : List Arg → List Ent → Prop} (h : WE prog w g n sc e ρ fun d ρ₁ => WAL prog w g n sc r ρ₁ fun as ρ₂ => K (.d d :: as) ρ₂) (hp : plainE e = true := by rfl) : WAL prog w g n sc (e :: r) ρ K := by
  intro env A H s pos hsc ok hA sr
  rw [starEach_plain hp]
  refine spliced_cons (wpAny_mono (h env A H s hsc ok hA sr) (fun v s1 h1 => ?_) fun _ _ x => x)
  obtain ⟨d, ρ1, k1, p1, r1⟩ := h1
  refine wpAny_mono (k1 env A H s1 pos hsc ok hA p1.sr) (fun vs s2 h2 => ?_) fun _ _ x => x
  obtain ⟨as, ρ2, k2, p2, r2⟩ := h2
  exact ⟨.d d :: as, ρ2, k2, p1.trans p2, v, vs, rfl, p2.rd r1, r2⟩
theorem load_owned {env : Env} {A : Around} {H : Addr → Prop} {s : Shared} {x : Str} {pos : Pos} {sl : Slot} {a : Addr} {E : Value → Shared → Prop} (ok : EnvOk env) (sr : SR w.params g env H ρ s.heap) (hx : At ρ x sl) (ho : sl.owned = true) (ha : sl.fp.head? = some a) {Q : Value → Shared → Prop} (h : Q (.ref a) s)
    (hd : (x == ("__debug__" : Str)) = false) (hn : (x == ("__classdict__" : Str)) = false) : wpAny (model prog w) A (eval (.Name x pos) env) Q E s := by
  refine wpAny_Name (loadName_slot ok sr hx (by intro h; subst h; cases ho) (fun v hv => ?_) hn) hd
  obtain ⟨a', q1, q2⟩ := owned_val hv ho
  rw [ha] at q1
  cases q1; cases q2
  exact h
theorem wal_o {x : Str} {p : Pos} {sl : Slot} {a : Addr} {r : List Expr} {K : List Arg → List Ent → Prop} (hx : At ρ x sl) (h : WAL prog w g n sc r ρ fun as ρ₂ => K (.o a :: as) ρ₂) (ho : sl.owned = true := by rfl) (ha : sl.fp.head? = some a := by rfl)
    (hd : (x == ("__debug__" : Str)) = false := by decide) (hn : (x == ("__classdict__" : Str)) = false := by decide) : WAL prog w g n sc (.Name x p :: r) ρ K := by
  intro env A H s pos hsc ok hA sr
  rw [starEach_plain rfl]
  refine spliced_cons (load_owned ok sr hx ho ha ?_ hd hn)
  refine wpAny_mono (h env A H s pos hsc ok hA sr) (fun vs s2 h2 => ?_) fun _ _ x => x
  obtain ⟨as, ρ2, k2, p2, r2⟩ := h2
  exact ⟨.o a :: as, ρ2, k2, p2, .ref a, vs, rfl, rfl, r2⟩
theorem we_def {K : Frag} {mg mb : Str → Option Value} (G : GG K g mg mb) {x : Str} {a : Addr} {fd : FuncData} {body : List Stmt} {e : Expr} {r : List Expr} {p pos : Pos} {xs : List Str} {Kk : PV → List Ent → Prop} (F : FnOk K a fd body) (hv : GV mg mb x (.ref a))
    (h : WAL prog w g (n + 1) sc (e :: r) ρ fun as ρ₁ => Con prog w g n fd body xs as ρ₁ Kk)
    (hbind : ∀ vs : List Value, vs.length = xs.length → ∀ s, (∀ b o, g.get? b = some o → s.heap.get? b = some o) → BindsTo s fd ⟨vs, []⟩ (xs.zip vs))
    (hx : sc.names.lookup x = some .globalImplicit := by rfl) (hpn : nodupB xs = true := by decide) (hp : plainE e = true := by rfl) (hd : (x == ("__debug__" : Str)) = false := by decide) : WE prog w g (n + 1) sc (.Call (.Name x p) (e :: r) [] pos) ρ Kk := by
  intro env A H s hsc ok hA sr
  subst hsc
  obtain ⟨oc, od, osl, hl⟩ := F.get
  refine wpAny_Call_NameR (gname G.gf ok sr hx hv ?_ hd)
  refine PyProof.Rows.callWith_def (o := ⟨oc, od, .func fd, osl⟩) rfl (wpAny_mono (h env A H s pos rfl ok hA sr) (fun vs s1 h1 => ?_) fun _ _ x => x) (starEach_plain hp)
  obtain ⟨as, ρ1, k1, p1, r1⟩ := h1
  refine ⟨p1.sr.keep _ _ (G.kin _ _ hl), wpAny_mono (wpAny_call (E := noE) (Q := fun v s' => REs w.params g env H ρ1 s1 Kk v s') (call_conM (c := false) G F hA hpn hbind p1.sr r1 k1)) (fun v s2 h2 => ?_) noE_to⟩
  obtain ⟨d, ρ2, k2, p2, r2⟩ := h2
  exact ⟨d, ρ2, k2, p1.trans p2, r2⟩
theorem slot_inst {P : Params} {env : Env} {H : Addr → Prop} {h : Heap} {x : Str} {a dx C : Addr} {fs : List (Str × Fld)} (sr : SR P g env H ρ h) (hx : At ρ x (.obj a dx C fs)) :
    h.get? a = some (instObj C dx) ∧ ∃ ds k, h.get? dx = some (dictOf ds k) ∧ FsIs P (FldIs h (Tt env H ρ)) fs ds := by
  obtain ⟨o, _, g, ds, k, h2, h3⟩ := slot_at sr hx
  exact ⟨g, ds, k, h2, h3⟩
theorem inst_at {h : Heap} {a dx C : Addr} {ds : List DictEntry} {k : Nat} (h1 : h.get? a = some (instObj C dx)) (h2 : h.get? dx = some (dictOf ds k)) : InstAt h a (instObj C dx) C (some (dictOf ds k)) := ⟨h1, rfl, rfl, h2⟩
theorem getL_str {x y : Str} {t : Tok} {d : DictEntry} {r : List DictEntry} (h : d.key = .str y t) : PySem.W.getL x (d :: r) = if (x == y) = true then some (some d.val) else PySem.W.getL x r := by
  have e1 : d.key.isStr x = (y == x) := by rw [h]; rfl
  have e2 : d.refKey = false := by simp [DictEntry.refKey, h]
  unfold PySem.W.getL
  rw [List.find?_cons, e1, List.any_cons, e2, Bool.false_or]
  by_cases hb : x = y
  · subst hb; simp
  · have h1 : (y == x) = false := by simpa using fun e => hb e.symm
    have h2 : (x == y) = false := by simpa using hb
    rw [h1, h2]; rfl
theorem FsIs.getL {P : Params} {R : Fld → Value → Prop} {x : Str} : ∀ {fs : List (Str × Fld)} {ds : List DictEntry}, FsIs P R fs ds →
    (fs.lookup x = none ∧ PySem.W.getL x ds = some none) ∨ ∃ f v, fs.lookup x = some f ∧ PySem.W.getL x ds = some (some v) ∧ R f v := by
  intro l0
  induction l0 with
  | nil => exact @fun _ q => by cases q; exact .inl ⟨rfl, rfl⟩
  | cons e es ih =>
    intro _ q
    obtain ⟨d, r, t, rfl, h1, h2, h3, q⟩ := q
    rw [getL_str h1, List.lookup_cons]
    cases hb : x == e.1 with
    | true => exact .inr ⟨e.2, d.val, rfl, rfl, h3⟩
    | false => exact ih q
noncomputable def putF (x : Str) (f : Fld) : List (Str × Fld) → List (Str × Fld)
  | [] => [(x, f)]
  | e :: r => if (x == e.1) = true then (e.1, f) :: r else e :: putF x f r
theorem FsIs.put {P : Params} {R : Fld → Value → Prop} {x : Str} {f : Fld} {v : Value} {t : Tok} (hv : R f v) : ∀ {fs : List (Str × Fld)} {ds : List DictEntry}, FsIs P R fs ds → FsIs P R (putF x f fs) (putL x (PyData.keyHash P x) (.str x t) v ds) := by
  intro l0
  induction l0 with
  | nil => exact @fun _ q => by cases q; exact ⟨_, [], t, rfl, rfl, rfl, hv, rfl⟩
  | cons e es ih =>
    intro _ q
    obtain ⟨d, r, t', rfl, h1, h2, h3, q⟩ := q
    have e1 : d.key.isStr x = (e.1 == x) := by rw [h1]; rfl
    show FsIs P R (if (x == e.1) = true then (e.1, f) :: es else e :: putF x f es) _
    unfold putL
    rw [e1]
    by_cases hb : x = e.1
    · have h1' : (e.1 == x) = true := by simpa using hb.symm
      have h2' : (x == e.1) = true := by simpa using hb
      rw [if_pos h2', h1', if_pos rfl]
      exact ⟨_, r, t', rfl, h1, h2, hv, q⟩
    · have h1' : (e.1 == x) = false := by simpa using fun e => hb e.symm
      have h2' : (x == e.1) = false := by simpa using hb
      rw [h2', h1', if_neg (by decide), if_neg (by decide)]
      exact ⟨d, _, t', rfl, h1, h2, h3, ih q⟩
theorem FsIs.length {P : Params} {R : Fld → Value → Prop} : ∀ {fs : List (Str × Fld)} {ds : List DictEntry}, FsIs P R fs ds → ds.length = fs.length := by
  intro l0
  induction l0 with
  | nil => exact @fun _ q => by cases q; rfl
  | cons e es ih =>
    intro _ q
    obtain ⟨d, r, t', rfl, _, _, _, q⟩ := q; simp [ih q]
theorem putL_len (x : Str) (k : Int) (key v : Value) : ∀ ds : List DictEntry, (putL x k key v ds).length ≤ ds.length + 1 := by
  intro l0
  induction l0 with
  | nil => exact Nat.le_refl _
  | cons e r ih =>
    unfold putL
    split
    · simp
    · have := ih
      simp; omega
end
section
variable {prog : Program} {w : World} {g : Heap} {n : Nat} {sc : Scope} {ρ ρ' : List Ent}
theorem po_iadd {a b : Int} {k : PV → Prop} (h : k (.int (a + b))) : PO2 prog w g n (inplaceOp .Add) (.int a) (.int b) k := by
  rintro A T s _ _ hA hT ⟨t, rfl⟩ ⟨u, rfl⟩; exact AutoIntOps.iadd_0 ⟨_, h, ⟨_, rfl⟩, Keeps.tok s _⟩
theorem po_isub {a b : Int} {k : PV → Prop} (h : k (.int (a - b))) : PO2 prog w g n (inplaceOp .Sub) (.int a) (.int b) k := by
  rintro A T s _ _ hA hT ⟨t, rfl⟩ ⟨u, rfl⟩; exact AutoIntOps.isub_0 ⟨_, h, ⟨_, rfl⟩, Keeps.tok s _⟩
theorem wx_aug {x : Str} {e : Expr} {op : Operator} {p pos : Pos} {d : PV} {K : Fl → List Ent → Prop} (hx : At ρ x (.val d)) (h : WE prog w g n sc e ρ fun d₂ ρ₁ => PO2 prog w g n (inplaceOp op) d d₂ fun d₃ => PutK ρ₁ x (.val d₃) fun ρ₂ => K .next ρ₂)
    (hn : (x == ("__classdict__" : Str)) = false := by decide) : WX prog w g n sc (.AugAssign (.Name x p) op e pos) ρ K := by
  intro env A H s hsc ok hA sr
  refine PySem.wpAny_AugAssign_Name (loadName_slot ok sr hx (by intro h; cases h) (fun v hv => ?_) hn)
  obtain ⟨v', e', rv⟩ := hv
  cases e'
  refine wpAny_mono (h env A H s hsc ok hA sr) (fun v2 s1 h1 => ?_) fun _ _ x => x
  obtain ⟨d2, ρ1, k1, p1, r1⟩ := h1
  refine wpAny_mono (k1 A _ s1 _ _ hA p1.sr.hr (p1.rd rv) r1) (fun v3 s2 h2 => ?_) fun _ _ x => x
  obtain ⟨d3, ⟨ρ2, hp, k2⟩, r2, ks⟩ := h2
  have p2 := p1.grow ks
  exact store_val ok p2.sr hp r2 fun s3 q => ⟨.next, ρ2, k2, p2.trans q, rfl⟩
structure FldOk (K : Frag) (C : Addr) (f : Str) : Prop where
  hg : plainGet K C f = true
  hh : hasDictIn K C = true
  ho : plainOver K C = true
  hs : findIn K (.ref C) "__setattr__" = some (some (.builtin "object.__setattr__"))
  ha : findIn K (.ref C) f = some none
  ht : takerIn K C f = some none
theorem get_field {K : Frag} {mg mb : Str → Option Value} (G : GG K g mg mb) {A : Around} {env : Env} {H : Addr → Prop} {s : Shared} {x f : Str} {a dx C : Addr} {fs : List (Str × Fld)} {fd : Fld} {b : Bool} {Q : Value → Shared → Prop} (k : FldOk K C f) (sr : SR w.params g env H ρ s.heap) (hx : At ρ x (.obj a dx C fs))
    (hf : fs.lookup f = some fd) (h : ∀ v, FldIs s.heap (Tt env H ρ) fd v → Q v { s with toks := s.toks + 1 }) : wpAny (model prog w) A (getAttr (.ref a) f b) Q noE s := by
  obtain ⟨h1, ds, m, h2, h3⟩ := slot_inst sr hx
  rcases h3.getL (x := f) with ⟨q, _⟩ | ⟨f', v, q1, q2, q3⟩
  · rw [hf] at q; cases q
  · rw [hf] at q1; cases q1
    have hin : handedIn v = true := by
      cases fd with
      | val d => cases d with
        | none => rw [show v = .none from q3]; rfl
        | bool b => rw [show v = .bool b from q3]; rfl
        | int i => obtain ⟨t, rfl⟩ := q3; rfl
        | str i => obtain ⟨t, rfl⟩ := q3; rfl
        | bytes i => obtain ⟨t, rfl⟩ := q3; rfl
        | list i => obtain ⟨t, vs, rfl, _⟩ := q3; rfl
        | tup i => obtain ⟨t, vs, rfl, _⟩ := q3; rfl
      | lst a xs => rw [show v = .ref a from q3.1]; rfl
      | bya a xs => rw [show v = .ref a from q3.1]; rfl
    exact get_value (G.kin.keeps sr.keep) (inst_at h1 h2) (plainGet_of k.hg).1 (findObj_own k.hh k.ha rfl (by rw [lookIn_dict]; exact q2)) hin (h v q3)
theorem we_attr {K : Frag} {mg mb : Str → Option Value} (G : GG K g mg mb) {x f : Str} {np pos : Pos} {a dx C : Addr} {fs : List (Str × Fld)} {d : PV} {Kk : PV → List Ent → Prop} (k : FldOk K C f) (hx : At ρ x (.obj a dx C fs)) (hf : fs.lookup f = some (.val d)) (h : Kk d ρ)
    (hd : (x == ("__debug__" : Str)) = false := by decide) (hn : (x == ("__classdict__" : Str)) = false := by decide) : WE prog w g n sc (.Attribute (.Name x np) f pos) ρ Kk := by
  intro env A H s hsc ok hA sr
  refine Attribute_name (load_owned ok sr hx rfl rfl (get_field G k sr hx hf fun v hv => ?_) hd hn)
  exact ⟨d, ρ, h, (SR.post sr).grow (Keeps.tok s _), hv⟩
theorem osa_my {K : Frag} {A : Around} {R : Result → Shared → Prop} {s : Shared} {x C dx : Addr} {name : Str} {tk : Tok} {v : Value} {ds : List DictEntry} {m : Nat} (X : K.In s.heap) (h1 : s.heap.get? x = some (instObj C dx)) (h2 : s.heap.get? dx = some (dictOf ds m)) (k : FldOk K C name)
    (hl : (PySem.W.getL name ds).isSome = true) (hz : ds.length ≤ 900)
    (h : ∀ h', Heap.SameBut dx s.heap h' → h'.get? dx = some (dictOf (putL name (PyData.keyHash w.params name) (.str name s.toks) v ds) (putN name ds m)) → R (.ok (.ret .none)) { s with heap := h', toks := s.toks + 1 }) :
    codeAny (model prog w) A (.call (.builtin "object.__setattr__") ⟨[.ref x, .str name tk, v], []⟩) R s := by
  refine osa_open X (inst_at h1 h2) k.ho k.ht fun b => ?_
  obtain ⟨cd, hc, hd'⟩ := any_some (show (clsIn K C).any (·.hasDict) = true from k.hh)
  have D' : (s.heap.update dx (Obj.putName name (PyData.keyHash w.params name) (.str name s.toks) v)).get? dx = some (dictOf (putL name (PyData.keyHash w.params name) (.str name s.toks) v ds) (putN name ds m)) := by
    rw [Heap.get?_update_self _ h2 (by rw [putName_dict]; rfl), putName_dict]
  refine wpAny_bind (wpAny_pure (wpAny_bind (wpAny_bind (wpAny_loadPart h1 (wpAny_bind ((looks_clsIn X hc).here ?_))))))
  rw [hd']
  refine wpAny_pure (a := some dx) (wpAny_bind (wpAny_pure (wpAny_bind ?_)))
  unfold nsSet
  refine wpAny_bind (wpAny_bind (wpAny_askSetting (wpAny_pure (wpAny_bind (wpAny_mkText (wpAny_bind (wpAny_loadPart h2 ?_)))))))
  dsimp only
  have c : (!ds.toArray.any (·.key.isStr name) && ds.toArray.any (·.refKey)) = false := by
    unfold PySem.W.getL at hl
    rw [List.any_toArray, List.any_toArray]
    split at hl
    · rename_i en he
      rw [List.any_eq_true.mpr ⟨en, List.mem_of_find?_eq_some he, List.find?_some he⟩]; rfl
    · split at hl
      · cases hl
      · rename_i z; rw [Bool.not_eq_true] at z; rw [z, Bool.and_false]
  rw [aRefKeyMayBeTheName_at, c]
  refine wpAny_updatePart h2 ?_
  have := putL_len name (PyData.keyHash w.params name) (.str name s.toks) v ds
  refine wpAny_bind (wpAny_lookBehind D' (pastItsLine_dict (by rw [List.size_toArray, sizeLine_eq]; omega)) ?_)
  exact wpAny_pure (h _ (Heap.SameBut.update ..) D')
theorem putF_fp (f : Str) (d : PV) : ∀ fs : List (Str × Fld), ((putF f (.val d) fs).flatMap fun q => q.2.fp).Sublist (fs.flatMap fun q => q.2.fp) := by
  intro l0
  induction l0 with
  | nil => exact .slnil
  | cons e r ih =>
    show ((if (f == e.1) = true then (e.1, .val d) :: r else e :: putF f (.val d) r).flatMap fun q => q.2.fp).Sublist _
    split
    · exact (List.sublist_append_right _ _)
    · exact (List.Sublist.refl _).append ih
theorem putF_new (f : Str) (x : Fld) : ∀ fs : List (Str × Fld), fs.lookup f = none → putF f x fs = fs ++ [(f, x)] := by
  intro l0
  induction l0 with
  | nil => exact @fun _ => rfl
  | cons e r ih =>
    intro h
    rw [List.lookup_cons] at h
    show (if (f == e.1) = true then (e.1, x) :: r else e :: putF f x r) = _
    cases hb : f == e.1 with
    | true => rw [hb] at h; cases h
    | false => rw [hb] at h; rw [if_neg (by decide), ih h]; rfl
theorem set_field {K : Frag} {mg mb : Str → Option Value} (G : GG K g mg mb) {A : Around} {env : Env} {H : Addr → Prop} {s : Shared} {x f : Str} {a dx C : Addr} {fs : List (Str × Fld)} {d : PV} {v : Value} (k : FldOk K C f) (sr : SR w.params g env H ρ s.heap)
    (sw : Sw ρ x (.obj a dx C fs) (.obj a dx C (putF f (.val d) fs)) ρ') (hz : fs.length ≤ 900) (hv : Rd s.heap (Tt env H ρ) d v) : wpAny (model prog w) A (setAttr (.ref a) f v) (fun _ s' => Post0 w.params g env H ρ s ρ' s') noE s := by
  have hx := sw.at
  obtain ⟨h1, ds, m, h2, h3⟩ := slot_inst sr hx
  have hnV := (List.nodup_cons.mp sr.nd).2
  obtain ⟨l0, hm0⟩ := hx.mem
  have fpV : ∀ b ∈ (Slot.obj a dx C fs).fp, b ∈ V ρ := fun b hb => sl_sub hm0 hb
  have fpnd : (Slot.obj a dx C fs).fp.Nodup := by
    obtain ⟨pre, l, post, e1, _⟩ := sw.split
    rw [e1, V_app, V_cons] at hnV
    exact (List.nodup_append.mp (List.nodup_append.mp (List.nodup_append.mp hnV).2.1).1).2.1
  have hsub : ((Slot.obj a dx C (putF f (.val d) fs)).fp).Sublist (Slot.obj a dx C fs).fp := ((putF_fp f d fs).cons₂ dx).cons₂ a
  have had : a ≠ dx := fun e => by
    have := (List.nodup_cons.mp fpnd).1
    exact this (e ▸ .head _)
  refine set_plain (G.kin.keeps sr.keep) (inst_at h1 h2) k.hs (osa_my (s := { s with toks := s.toks + 1 }) (G.kin.keeps sr.keep) h1 h2 k ?_ (by rw [h3.length]; exact hz) fun h' hs' hd' => ?_)
  · rcases h3.getL (x := f) with ⟨_, q⟩ | ⟨_, _, _, q, _⟩ <;> rw [q] <;> rfl
  · have hdx : dx ∈ V ρ := fpV dx (.tail _ (.head _))
    have hsubT : ∀ b, Tt env H ρ' b → Tt env H ρ b := fun b hb => hb.imp id fun h => h.imp id fun h => (sw.put.V b h).elim id fun h => fpV b (hsub.subset h)
    have mono : ∀ {f : Fld} {v : Value}, (∀ b ∈ f.fp, b ≠ dx) → FldIs s.heap (Tt env H ρ) f v → FldIs h' (Tt env H ρ') f v := fun {f v} hf z => z.mono (fun b o hb e => hs'.extBut b o (fun hc => by
      rcases hb with hb | hb
      · exact hb (.inr (.inr (hc ▸ hdx)))
      · exact hf b hb hc) e) fun b hb => .inl (hsubT b hb)
    have fdx : ∀ q ∈ fs, ∀ b ∈ q.2.fp, b ≠ dx := fun q hq b hb e => by
      have h4 := (List.nodup_cons.mp (List.nodup_cons.mp fpnd).2).1
      exact h4 (e ▸ List.mem_flatMap.mpr ⟨q, hq, hb⟩)
    refine ⟨sr.swap sw (fun b hb => hsub.subset hb) (fpnd.sublist hsub) (fun b o hb e => hs'.extBut b o (fun hc => hb (hc ▸ .tail _ (.head _))) e) (fun b hb => ?_) fun o ho => ?_, ⟨_, _, rfl⟩, fun b o hb e => hs'.extBut b o (fun hc => hb (.inr (hc ▸ hdx))) e, fun b hb => .inl ((sw.put.V b hb).elim id fun h => fpV b (hsub.subset h)), sw.put.shape⟩
    · by_cases hbd : b = dx
      · rw [hbd, hd']; rfl
      · obtain ⟨o, ho⟩ := Option.isSome_iff_exists.mp (sr.dom b (.inr (.inr (fpV b hb)))).1
        rw [hs'.extBut b o hbd ho]; rfl
    · refine ⟨ho.1, hs'.extBut a _ had h1, _, _, hd', ?_⟩
      have h3' : FsIs w.params (FldIs h' (Tt env H ρ')) fs ds := h3.mono fun q hq v z => mono (fdx q hq) z
      exact FsIs.put (mono (f := .val d) (fun b hb => nomatch hb) hv) h3'
theorem wx_setattr {K : Frag} {mg mb : Str → Option Value} (G : GG K g mg mb) {x f : Str} {np ap pos : Pos} {e : Expr} {a dx C : Addr} {fs : List (Str × Fld)} {Kk : Fl → List Ent → Prop} (k : FldOk K C f)
    (h : WE prog w g n sc e ρ fun d ρ₁ => SwK ρ₁ x (.obj a dx C fs) (.obj a dx C (putF f (.val d) fs)) fun ρ₂ => Kk .next ρ₂) (hz : fs.length ≤ 900 := by decide) (hc : noComp e = true := by rfl)
    (hd : (x == ("__debug__" : Str)) = false := by decide) (hn : (x == ("__classdict__" : Str)) = false := by decide) : WX prog w g n sc (.Assign [.Attribute (.Name x np) f ap] e pos) ρ Kk := by
  intro env A H s hsc ok hA sr
  refine plainObj_wpAny_Assign_Attribute (wpAny_mono (h env A H s hsc ok hA sr) (fun v s1 h1 => ?_) fun _ _ x => x) (swaps_none hc ..)
  obtain ⟨d, ρ1, ⟨ρ2, sw, k1⟩, p1, r1⟩ := h1
  refine load_owned ok p1.sr sw.at rfl rfl (wpAny_mono (set_field G k p1.sr sw hz r1) (fun _ s2 p2 => ?_) fun _ _ x => x) hd hn
  exact ⟨.next, ρ2, k1, p1.trans p2, rfl⟩
theorem wx_augattr {K : Frag} {mg mb : Str → Option Value} (G : GG K g mg mb) {x f : Str} {np ap pos : Pos} {op : Operator} {e : Expr} {a dx C : Addr} {fs : List (Str × Fld)} {d₁ : PV} {Kk : Fl → List Ent → Prop} (k : FldOk K C f) (hx : At ρ x (.obj a dx C fs)) (hf : fs.lookup f = some (.val d₁))
    (h : WE prog w g n sc e ρ fun d₂ ρ₁ => PO2 prog w g n (inplaceOp op) d₁ d₂ fun d => SwK ρ₁ x (.obj a dx C fs) (.obj a dx C (putF f (.val d) fs)) fun ρ₂ => Kk .next ρ₂) (hz : fs.length ≤ 900 := by decide)
    (hd : (x == ("__debug__" : Str)) = false := by decide) (hn : (x == ("__classdict__" : Str)) = false := by decide) : WX prog w g n sc (.AugAssign (.Attribute (.Name x np) f ap) op e pos) ρ Kk := by
  intro env A H s hsc ok hA sr
  refine PySem.wpAny_AugAssign_AttributeAny (load_owned ok sr hx rfl rfl (get_field G k sr hx hf fun v hv => ?_) hd hn)
  have p0 : Post0 w.params g env H ρ s ρ { s with toks := s.toks + 1 } := (SR.post sr).grow (Keeps.tok s _)
  refine wpAny_mono (h env A H _ hsc ok hA p0.sr) (fun v2 s1 h1 => ?_) fun _ _ x => x
  obtain ⟨d2, ρ1, k1, p1, r1⟩ := h1
  refine wpAny_mono (k1 A _ s1 _ _ hA p1.sr.hr (p1.rd hv) r1) (fun v3 s2 h2 => ?_) fun _ _ x => x
  obtain ⟨d3, ⟨ρ2, sw, k2⟩, r2, ks⟩ := h2
  have p2 := p1.grow ks
  refine wpAny_mono (set_field G k p2.sr sw hz r2) (fun _ s3 p3 => ?_) fun _ _ x => x
  exact ⟨.next, ρ2, k2, (p0.trans p2).trans p3, rfl⟩
end
section
variable {prog : Program} {w : World} {g : Heap} {n : Nat} {sc : Scope} {ρ ρ' : List Ent}
theorem fewP {env : Env} {pos : Pos} : ∀ l : List Expr, l.all plainE = true → (backTo pos (starEach l env)).all (fun x => !x.1) = true := by
  intro l
  induction l with
  | nil => intro _; rfl
  | cons a l ih =>
    intro h
    rw [List.all_cons, Bool.and_eq_true] at h
    rw [starEach_plain h.1]
    show (true && (backTo pos (starEach l env)).all (fun x => !x.1)) = true
    rw [ih h.2]; rfl
structure MethOk (K : Frag) (C : Addr) (m : Str) (f : Addr) : Prop where
  hg : plainGet K C m = true
  hf : findIn K (.ref C) m = some (some (.ref f))
  ht : isFn K (.ref f) = true
theorem we_meth {K : Frag} {mg mb : Str → Option Value} (G : GG K g mg mb) {x m : Str} {f a dx C : Addr} {fs : List (Str × Fld)} {fd : FuncData} {body : List Stmt} {es : List Expr} {np apos pos : Pos} {xs : List Str} {Kk : PV → List Ent → Prop} (F : FnOk K f fd body) (M : MethOk K C m f)
    (hx : At ρ x (.obj a dx C fs)) (hno : fs.lookup m = none) (h : WAL prog w g (n + 1) sc es ρ fun as ρ₁ => Con prog w g n fd body xs (.o a :: as) ρ₁ Kk)
    (hbind : ∀ vs : List Value, vs.length = xs.length → ∀ s, (∀ b o, g.get? b = some o → s.heap.get? b = some o) → BindsTo s fd ⟨vs, []⟩ (xs.zip vs))
    (hpn : nodupB xs = true := by decide) (hp : es.all plainE = true := by rfl) (hlen : decide (es.length < 30) = true := by rfl) (hline : (apos.endLine == pos.line) = true := by rfl) (hd : (x == ("__debug__" : Str)) = false := by decide) (hn : (x == ("__classdict__" : Str)) = false := by decide) :
    WE prog w g (n + 1) sc (.Call (.Attribute (.Name x np) m apos) es [] pos) ρ Kk := by
  intro env A H s hsc ok hA sr
  obtain ⟨oc, od, osl, hl⟩ := F.get
  obtain ⟨h1, ds, mm, h2, h3⟩ := slot_inst sr hx
  rw [arm_eval_Call]
  have e1 : attributeBase (.Name x np) m env (eval (.Name x np) env) = eval (.Name x np) env := rfl
  rw [e1]
  refine wpAny_bind (load_owned ok sr hx rfl rfl (wpAny_bind (wpAny_standAt ?_)) hd hn)
  have hform : methodCallForm (es.length + ([] : List Keyword).length) (backTo pos (starEach es env)) (backToKw pos (keywordEach [] env)) = true := by
    show ((backTo pos (starEach es env)).all (fun x => !x.1) && (backToKw pos (keywordEach [] env)).all (fun x => x.1.isSome)
      && decide (es.length + ([] : List Keyword).length + (if ([] : List Keyword).isEmpty then 0 else 1) < 30)) = true
    rw [fewP es hp]
    exact hlen
  have hpos : methodCallPos true (.Name x np) env apos pos = pure pos := by unfold methodCallPos; simp [hline]
  unfold methodCall
  rw [hform]
  have hs : shadowIn (some (dictOf ds mm)) m = some false := by
    rcases h3.getL (x := m) with ⟨_, q⟩ | ⟨f', v, q, _⟩
    · show (lookIn m (dictOf ds mm)).map _ = _
      rw [lookIn_dict, q]; rfl
    · rw [hno] at q; cases q
  refine wpAny_bind (wpAny_holding (method_fn (G.kin.keeps sr.keep) (inst_at h1 h2) (plainGet_of M.hg).1 (plainGet_of M.hg).2 M.hf (beq_iff_eq.mp M.ht) hs ?_))
  refine wpAny_bind (wpAny_of_eq hpos ?_)
  show wpAny (model prog w) A (callWith pos (.ref f) [.ref a] (backTo pos (starEach es env)) []) _ _ _
  have fin : ∀ vs s1 as ρ1, Con prog w g n fd body xs (.o a :: as) ρ1 Kk → Post0 w.params g env H ρ s ρ1 s1 → ArgsIs s1.heap (Tt env H ρ1) as vs → wpAny (model prog w) A (call (.ref f) ([.ref a] ++ vs)) (fun v s' => REs w.params g env H ρ s Kk v s') noE s1 := by
    intro vs s1 as ρ1 k1 p1 r1
    refine wpAny_mono (wpAny_call (E := noE) (Q := fun v s' => REs w.params g env H ρ1 s1 Kk v s') (call_conM (c := false) (as := .o a :: as) (vals := .ref a :: vs) G F hA hpn hbind p1.sr ⟨.ref a, vs, rfl, rfl, r1⟩ k1)) (fun v s2 h2 => ?_) noE_to
    obtain ⟨d, ρ2, k2, p2, r2⟩ := h2
    exact ⟨d, ρ2, k2, p1.trans p2, r2⟩
  have args := h env A H s pos hsc ok hA sr
  cases es with
  | nil =>
    refine callWith_function (o := ⟨oc, od, .func fd, osl⟩) (fd := fd) ?_
    show wpAny (model prog w) A (evalArgs (.ref f) true [] []) _ _ _
    have args' : wpAny (model prog w) A (spliced []) (fun vs s' => RAs w.params g env H ρ s (fun as ρ' => Con prog w g n fd body xs (.o a :: as) ρ' Kk) vs s') noE s := args
    unfold evalArgs
    show wpAny _ _ (spliced [] >>= _) _ _ _
    refine wpAny_bind (wpAny_mono args' (fun vs s1 h1 => ?_) fun _ _ x => x)
    obtain ⟨as, ρ1, k1, p1, r1⟩ := h1
    have : (∃ l, vs = l) := ⟨_, rfl⟩
    refine wpAny_holding ?_
    refine wpAny_bind (wpAny_pure (wpAny_pure ?_))
    exact ⟨⟨p1.sr.keep _ _ (G.kin _ _ hl), rfl⟩, fin vs s1 as ρ1 k1 p1 r1⟩
  | cons e r =>
    have hp1 : plainE e = true := (Bool.and_eq_true_iff.mp hp).1
    have he := starEach_plain (r := r) (env := env) hp1
    rw [he] at args ⊢
    refine callWith_function (o := ⟨oc, od, .func fd, osl⟩) (fd := fd) (evalArgs_plain (wpAny_mono args (fun vs s1 h1 => ?_) fun _ _ x => x))
    obtain ⟨as, ρ1, k1, p1, r1⟩ := h1
    exact ⟨⟨p1.sr.keep _ _ (G.kin _ _ hl), rfl⟩, fin vs s1 as ρ1 k1 p1 r1⟩
structure PostN (P : Params) (g : Heap) (env : Env) (H N : Addr → Prop) (ρ : List Ent) (s : Shared) (ρ' : List Ent) (s' : Shared) : Prop where
  p : PostX P g env (fun a => H a ∨ N a) (fun _ => False) ρ s ρ' s'
  dis : ∀ a, N a → ¬ H a
  new : ∀ a, N a → a ∈ V ρ ∨ s.heap.get? a = none
inductive ROs (P : Params) (g : Heap) (env : Env) (H : Addr → Prop) (ρ : List Ent) (s : Shared) (K : Slot → List Ent → Prop) (v : Value) (s' : Shared) : Prop where
  | mk (sl : Slot) (ρ' : List Ent) (k : K sl ρ') (p : PostN P g env H (· ∈ sl.fp) ρ s ρ' s') (r : SlotIs P s'.heap (Tt env (fun a => H a ∨ a ∈ sl.fp) ρ') sl (some v)) (n : sl.fp.Nodup)
variable (prog w g) in
noncomputable def WOM (c : Bool) (n : Nat) (sc : Scope) (e : Expr) (ρ : List Ent) (K : Slot → List Ent → Prop) : Prop :=
  ∀ (env : Env) (A : Around) (H : Addr → Prop) (s : Shared), env.scope = sc → EnvOk env → Room n A → SR w.params g env H ρ s.heap →
    wpM c (model prog w) A (eval e env) (fun v s' => ROs w.params g env H ρ s K v s') noE s
variable (prog w g) in
noncomputable def WO (n : Nat) (sc : Scope) (e : Expr) (ρ : List Ent) (K : Slot → List Ent → Prop) : Prop :=
  ∀ (env : Env) (A : Around) (H : Addr → Prop) (s : Shared), env.scope = sc → EnvOk env → Room n A → SR w.params g env H ρ s.heap →
    wpAny (model prog w) A (eval e env) (fun v s' => ROs w.params g env H ρ s K v s') noE s
theorem wo_e {e : Expr} {K : Slot → List Ent → Prop} (h : WE prog w g n sc e ρ fun d ρ₁ => K (.val d) ρ₁) : WO prog w g n sc e ρ K := by
  intro env A H s hsc ok hA sr
  refine wpAny_mono (h env A H s hsc ok hA sr) (fun v s1 h1 => ?_) fun _ _ x => x
  obtain ⟨d, ρ1, k1, p1, r1⟩ := h1
  have eH : (fun a => H a ∨ a ∈ (Slot.val d).fp) = H := by funext a; simp [Slot.fp]
  refine ⟨.val d, ρ1, k1, ⟨?_, (fun a (ha : a ∈ ([] : List Addr)) => nomatch ha), (fun a (ha : a ∈ ([] : List Addr)) => nomatch ha)⟩, ⟨v, rfl, by rw [eH]; exact r1⟩, List.nodup_nil⟩
  have : PostX w.params g env H (fun _ => False) ρ s ρ1 s1 := PostX.of0 p1
  show PostX w.params g env (fun a => H a ∨ a ∈ (Slot.val d).fp) _ ρ s ρ1 s1
  rw [eH]; exact this
theorem wx_own {x : Str} {e : Expr} {p pos : Pos} {K : Fl → List Ent → Prop} (h : WO prog w g n sc e ρ fun sl ρ₁ => PutK ρ₁ x sl fun ρ₂ => K .next ρ₂) (hc : noComp e = true := by rfl) : WX prog w g n sc (.Assign [.Name x p] e pos) ρ K := by
  intro env A H s hsc ok hA sr
  refine PySem.wpAny_Assign_Name (wpAny_mono (h env A H s hsc ok hA sr) (fun v s1 h1 => ?_) fun _ _ x => x) (swaps_none hc ..)
  obtain ⟨sl, ρ1, ⟨ρ2, hp, k1⟩, q, hv, nd⟩ := h1
  refine store_slot ok q.p.sr hp hv nd q.dis fun h' tk sr' hk => ⟨.next, ρ2, k1, ⟨sr', ?_, fun b o hb e => hk b o (fun hc => ?_) (q.p.keep b o (fun hc => hc.elim hb id) e), fun b hb => ?_, hp.shape.trans q.p.shape⟩, rfl⟩
  · obtain ⟨h1, t1, rfl⟩ := q.p.same
    exact ⟨h', tk, rfl⟩
  · rcases hc with h | h
    · exact hb (.inl h)
    · rcases q.p.new b h with h | h
      · exact hb (.inr h)
      · rw [e] at h; cases h
  · rcases hp.V b hb with h | h
    · exact q.p.new b h
    · exact q.new b h
noncomputable def NewConM (c : Bool) (prog : Program) (w : World) (g : Heap) (n : Nat) (fd : FuncData) (body : List Stmt) (xs : List Str) (ds : List PV) (C : Addr) (Kf : Slot → Prop) : Prop :=
  xs.length = ds.length + 1 ∧ ∀ a dx, ((xs.zip (.obj a dx C [] :: ds.map Slot.val)).all fun y => fd.scope.names.lookup y.1 == some .local || fd.scope.names.lookup y.1 == some .cell) = true ∧
    ∀ cs, WSM c prog w g n fd.scope body (ents0 (xs.zip (.obj a dx C [] :: ds.map Slot.val)) cs fd.scope.names) fun fl ρ' => ∃ y l fs, (⟨y, l, .obj a dx C fs⟩ : Ent) ∈ ρ' ∧ Kf (.obj a dx C fs) ∧ fl = .next
theorem ps_vals {P : Params} {h : Heap} {T : Addr → Prop} : ∀ {xs : List Str} {ds : List PV} {vs : List Value}, xs.length = ds.length → RdL h T ds vs → PsIs P h T (xs.zip (ds.map Slot.val)) (xs.zip vs) := by
  intro xs ds vs hl r
  refine RdL.ind (P := fun ds vs => ∀ xs : List Str, xs.length = ds.length → PsIs P h T (xs.zip (ds.map Slot.val)) (xs.zip vs)) (fun xs hl => ?_) (fun d ds v vs h1 _ ih xs hl => ?_) r xs hl
  · cases xs with
    | nil => exact rfl
    | cons _ _ => cases hl
  · cases xs with
    | nil => cases hl
    | cons x xs => exact ⟨v, _, rfl, ⟨v, rfl, h1⟩, ih xs (Nat.succ.inj hl)⟩
theorem fps_vals (xs : List Str) (ds : List PV) : fps (xs.zip (ds.map Slot.val)) = [] := List.flatMap_eq_nil_iff.mpr fun q hq => by
  obtain ⟨d, _, e⟩ := List.mem_map.mp (List.of_mem_zip hq).2
  show q.2.fp = []
  rw [← e]; rfl
structure ClsOk (K : Frag) (C fI : Addr) : Prop where
  hm : makesIn K C = true
  hi : findIn K (.ref C) "__init__" = some (some (.ref fI))
  hf : typeIn K (.ref fI) = some (.type "function")
  hk : keepIn K (.ref C) = true
theorem room_make {A : Around} {C : Addr} {rest : List Value} (h : Room (n + 2) A) : Room (n + 1) (A.under (.builtin "type.__call__" ⟨.ref C :: rest, []⟩)) := by
  obtain ⟨h1, h2, h3⟩ := h
  refine ⟨h1, ?_, ?_⟩
  · show A.depth + 1 + 3 * (n + 1) < 700; omega
  · show A.units + 1 + 16 * (n + 1) + 500 < cLine; omega
theorem wo_newM {c : Bool} {K : Frag} {mg mb : Str → Option Value} (G : GG K g mg mb) {x : Str} {C fI : Addr} {fd : FuncData} {body : List Stmt} {es : List Expr} {p pos : Pos} {xs : List Str} {dd : List PV} {Kk : Slot → List Ent → Prop} (F : FnOk K fI fd body) (O : ClsOk K C fI) (hv : GV mg mb x (.ref C))
    (h : WEL prog w g (n + 2) sc es ρ fun ds ρ₁ => NewConM c prog w g n fd body xs (ds ++ dd) C fun sl => Kk sl ρ₁) (dv : List Value) (hdv : ∀ h T, RdL h T dd dv)
    (hbind : ∀ (v : Value) (vs : List Value), (v :: (vs ++ dv)).length = xs.length → ∀ s, (∀ b o, g.get? b = some o → s.heap.get? b = some o) → BindsTo s fd ⟨v :: vs, []⟩ (xs.zip (v :: (vs ++ dv))))
    (hx : sc.names.lookup x = some .globalImplicit := by rfl) (hpn : nodupB xs = true := by decide) (hp : es.all plainE = true := by rfl) (hd : (x == ("__debug__" : Str)) = false := by decide) :
    WOM prog w g c (n + 2) sc (.Call (.Name x p) es [] pos) ρ Kk := by
  intro env A H s hsc ok hA sr
  subst hsc
  show wpM c _ _ (eval (.Name x p) env >>= fun fv => callWith pos fv [] (backTo pos (starEach es env)) (backToKw pos (keywordEach [] env))) _ _ _
  refine wpM_bind (wpM_of (gname G.gf ok sr hx hv ?_ hd))
  show wpM c _ _ (callWith pos (.ref C) [] (backTo pos (starEach es env)) []) _ _ _
  have args := h env A H s pos rfl ok hA sr
  have fin : ∀ vs s1 ds ρ1, NewConM c prog w g n fd body xs (ds ++ dd) C (fun sl => Kk sl ρ1) → Post0 w.params g env H ρ s ρ1 s1 → RdL s1.heap (Tt env H ρ1) ds vs → wpM c (model prog w) A (call (.ref C) ([] ++ vs)) (fun v s' => ROs w.params g env H ρ s Kk v s') noE s1 := by
    intro vs s1 ds ρ1 k1 p1 r1
    obtain ⟨hlen, k1⟩ := k1
    have sr1 := p1.sr
    refine wpM_call (E := noE) (make_coreM (makes_of (G.kin.keeps sr1.keep) O.hm) (looks_findIn (G.kin.keeps sr1.keep) O.hi) (fun self => bind_fn (G.kin.keeps sr1.keep) self O.hf) rfl ?_)
    have kp : ∀ b o, s1.heap.get? b = some o → ((s1.heap.push emptyDict).push (instObj C s1.heap.objs.size)).get? b = some o := fun b o e => Heap.get?_push_of_some _ (Heap.get?_push_of_some _ e)
    have ksz : (s1.heap.push emptyDict).objs.size = s1.heap.objs.size + 1 := Heap.size_push ..
    have hdx : ((s1.heap.push emptyDict).push (instObj C s1.heap.objs.size)).get? s1.heap.objs.size = some emptyDict := Heap.get?_push_of_some _ (Heap.get?_push_size _ rfl)
    have hxx : ((s1.heap.push emptyDict).push (instObj C s1.heap.objs.size)).get? (s1.heap.objs.size + 1) = some (instObj C s1.heap.objs.size) := by
      rw [← ksz]; exact Heap.get?_push_size _ rfl
    have big : ∀ b, s1.heap.objs.size ≤ b → s1.heap.get? b = none := by
      intro b (hb : @LE.le Nat _ s1.heap.objs.size b)
      cases q : s1.heap.get? b with
      | none => rfl
      | some o => exact absurd (Heap.lt_size q) (Nat.not_lt.mpr hb)
    generalize hX : s1.heap.objs.size + 1 = X at *
    generalize hDx : s1.heap.objs.size = dx at *
    have nX : s1.heap.get? X = none := big X (by rw [← hX]; exact Nat.le_succ dx)
    have nD : s1.heap.get? dx = none := big dx (Nat.le_refl dx)
    have hXD : X ≠ dx := by rw [← hX]; exact Nat.succ_ne_self dx
    generalize hH : (s1.heap.push emptyDict).push (instObj C dx) = hp2 at *
    obtain ⟨hkind, hW⟩ := k1 X dx
    have gn : ∀ b, s1.heap.get? b = none → g.get? b = none := fun b hb => by
      cases e : g.get? b with
      | none => rfl
      | some o => rw [sr1.keep b o e] at hb; cases hb
    have notT : ∀ b, s1.heap.get? b = none → ¬ Tt env H ρ1 b := fun b hb hc => by
      have := (sr1.dom b hc).1
      rw [hb] at this; cases this
    cases xs with
    | nil => cases hlen
    | cons x0 xs0 =>
    have hl0 : xs0.length = (ds ++ dd).length := by simpa using hlen
    have efp : fps (((x0 :: xs0)).zip (Slot.obj X dx C [] :: (ds ++ dd).map Slot.val)) = [X, dx] := by
      show (Slot.obj X dx C []).fp ++ fps (xs0.zip ((ds ++ dd).map Slot.val)) = _
      rw [fps_vals]; rfl
    have rdl : RdL hp2 (fun b => Tt env H ρ1 b ∨ b ∈ [X, dx]) (ds ++ dd) (vs ++ dv) := RdL.app (r1.mono (fun b o _ e => kp b o e) (by
      rintro b (h | h)
      · exact .inl h
      · rcases List.mem_cons.mp h with rfl | h
        · exact .inr nX
        · rw [List.mem_singleton.mp h]; exact .inr nD)) (hdv _ _)
    have hps : PsIs w.params hp2 (fun b => Tt env H ρ1 b ∨ b ∈ [X, dx]) ((x0 :: xs0).zip (Slot.obj X dx C [] :: (ds ++ dd).map Slot.val)) ((x0 :: xs0).zip (.ref X :: (vs ++ dv))) :=
      ⟨.ref X, _, rfl, ⟨rfl, hxx, [], 0, hdx, rfl⟩, ps_vals hl0 rdl⟩
    have hvl : (Value.ref X :: (vs ++ dv)).length = (x0 :: xs0).length := by
      have := rdl.length
      rw [List.length_cons, List.length_cons, this, hl0]
    refine codeM_mono (fn_callM (c := c) (T := Tt env H ρ1) (s := ⟨hp2, s1.gens, s1.drawn, s1.toks, s1.os⟩) (Q := fun v s' => v = .none ∧ ROs w.params g env H ρ s Kk (.ref X) s') G F (room_make hA)
      (by
        rw [efp]
        refine ⟨fun a o e => kp a o (sr1.keep a o e), ?_⟩
        rintro b (h | h)
        · obtain ⟨o, ho⟩ := Option.isSome_iff_exists.mp (sr1.dom b h).1
          exact ⟨by rw [kp b o ho]; rfl, (sr1.dom b h).2⟩
        · rcases List.mem_cons.mp h with rfl | h
          · exact ⟨by rw [hxx]; rfl, gn _ nX⟩
          · rw [List.mem_singleton.mp h]; exact ⟨by rw [hdx]; rfl, gn _ nD⟩)
      (by rw [efp]; exact List.nodup_cons.mpr ⟨fun h => hXD (List.mem_singleton.mp h), List.nodup_cons.mpr ⟨by simp, List.nodup_nil⟩⟩)
      (by
        rw [efp]; intro b hb
        rcases List.mem_cons.mp hb with rfl | hb
        · exact notT _ nX
        · rw [List.mem_singleton.mp hb]; exact notT _ nD)
      (by rw [efp]; exact hps) (hbind _ vs hvl _ fun b o e => kp b o (sr1.keep b o e)) hkind (by rw [zip_names (by simp [hl0])]; exact hpn) hW ?_) fun r s' z => ?_
    · intro fl ρ' v s' hk Cd
      obtain ⟨y, l, fs, hm, kf, rfl⟩ := hk
      obtain ⟨same, keep, new, env', hL, sr', hvv⟩ := Cd
      rw [efp] at keep new
      have keepAll : ∀ b o, s1.heap.get? b = some o → s'.heap.get? b = some o := fun b o e => keep b o (fun hc => by
        rcases List.mem_cons.mp hc with h | h
        · rw [h, nX] at e; cases e
        · rw [List.mem_singleton.mp h, nD] at e; cases e) (kp b o e)
      have fpV : ∀ b ∈ (Slot.obj X dx C fs).fp, b ∈ V ρ' := fun b hb => sl_sub hm hb
      have fpN : ∀ b ∈ (Slot.obj X dx C fs).fp, s1.heap.get? b = none := fun b hb => by
        rcases new b (fpV b hb) with h | h
        · rcases List.mem_cons.mp h with h | h
          · rw [h]; exact nX
          · rw [List.mem_singleton.mp h]; exact nD
        · cases e : s1.heap.get? b with
          | none => rfl
          | some o => have h' : hp2.get? b = none := h; rw [kp b o e] at h'; cases h'
      have srH : SR w.params g env (fun a => H a ∨ a ∈ (Slot.obj X dx C fs).fp) ρ1 s'.heap := sr1.hide keepAll (fun b hb => ⟨fpN b hb, (sr'.dom b (.inr (.inr (fpV b hb)))).1⟩) fun b hb => gn b (fpN b hb)
      refine ⟨hvv, _, ρ1, kf, ⟨⟨srH, ?_, fun b o hb e => ?_, p1.new, p1.shape⟩, fun b hb hc => ?_, fun b hb => ?_⟩, ?_, ?_⟩
      · exact same_trans p1.same same
      · exact keepAll b o (p1.keep b o (fun hc => hb (.inl hc)) e)
      · exact notT b (fpN b hb) (.inl hc)
      · by_cases hv : b ∈ V ρ
        · exact .inl hv
        · cases e : s.heap.get? b with
          | none => exact .inr rfl
          | some o =>
            by_cases hL' : b = env.locals
            · exact absurd (.inr (.inl hL')) (notT b (fpN b hb))
            · have := p1.keep b o (fun hc => hc.elim hL' hv) e
              have h' : s1.heap.get? b = some o := this
              rw [fpN b hb] at h'; cases h'
      · obtain ⟨mc, hnc, hec⟩ := sr'.ents
        have z := hec _ hm
        have z2 : ∃ o, SlotIs w.params s'.heap (Tt env' (Tt env H ρ1) ρ') (.obj X dx C fs) o := by
          unfold EntIs at z
          cases l with
          | none => exact ⟨_, z.2⟩
          | some c => obtain ⟨_, _, ov, _, z⟩ := z; exact ⟨ov, z⟩
        obtain ⟨o, z2⟩ := z2
        have e0 := z2.1
        subst e0
        refine z2.mono (fun _ _ _ e => e) ?_
        rintro b ((h | h) | h)
        · exact .inl (.inl (.inl h))
        · exact .inl (.inr (.inr (fpV b h)))
        · exact .inl (.inl (.inr h))
      · have hnV := (List.nodup_cons.mp sr'.nd).2
        clear new
        have : ∀ {r : List Ent}, (V r).Nodup → (⟨y, l, .obj X dx C fs⟩ : Ent) ∈ r → (Slot.obj X dx C fs).fp.Nodup := by
          intro r
          induction r with
          | nil => intro _ h; cases h
          | cons e r ih =>
            intro hn hm
            rw [V_cons] at hn
            obtain ⟨n1, n2, _⟩ := List.nodup_append.mp hn
            rcases List.mem_cons.mp hm with rfl | hm
            · exact (List.nodup_append.mp (show (l.toList ++ (Slot.obj X dx C fs).fp).Nodup from n1)).2.1
            · exact ih n2 hm
        exact this hnV hm
    · rcases r with e | (v | _ | _ | _)
      · exact z.elim
      all_goals first | exact z | exact z.elim
  have hany : (backTo pos (starEach es env)).any (·.1) = false := anyStar es hp
  refine callWithM hany (evalArgsM (fun y hy => by rw [hy] at hany; cases hany) (wpM_of (wpAny_mono args (fun vs s1 h1 => ?_) fun _ _ x => x)))
  obtain ⟨ds, ρ1, k1, p1, r1⟩ := h1
  exact ⟨keep_K (G.kin.keeps p1.sr.keep) O.hk, fin vs s1 ds ρ1 k1 p1 r1⟩
end
section
variable {prog : Program} {w : World} {g : Heap} {n : Nat} {sc : Scope} {ρ ρ' : List Ent}
noncomputable def slF (sls : List Slot) : List Addr := sls.flatMap Slot.fp
noncomputable def SlsIs (P : Params) (h : Heap) (T : Addr → Prop) : List Slot → List Value → Prop
  | [], vs => vs = []
  | sl :: r, vs => ConsR (fun v => SlotIs P h T sl (some v)) (SlsIs P h T r) vs
theorem SlsIs.mono {P : Params} {h h' : Heap} {T T' : Addr → Prop} : ∀ {sls : List Slot} {vs : List Value}, (∀ a o, (¬ T a ∨ a ∈ slF sls) → h.get? a = some o → h'.get? a = some o) → (∀ a, T' a → T a ∨ h.get? a = none) → SlsIs P h T sls vs → SlsIs P h' T' sls vs := by
  intro l0
  induction l0 with
  | nil => exact @fun _ _ _ x => x
  | cons sl r ih =>
    intro _ hk hT x
    obtain ⟨v, q, rfl, h1, h2⟩ := x
    exact ⟨v, q, rfl, h1.mono (fun a o ha e => hk a o (ha.imp id fun h => List.mem_append.mpr (.inl h)) e) hT, ih (fun a o ha e => hk a o (ha.imp id fun h => List.mem_append.mpr (.inr h)) e) hT h2⟩
theorem SlsIs.length {P : Params} {h : Heap} {T : Addr → Prop} : ∀ {sls : List Slot} {vs : List Value}, SlsIs P h T sls vs → vs.length = sls.length := by
  intro l0
  induction l0 with
  | nil => exact @fun _ x => by cases x; rfl
  | cons sl r ih =>
    intro _ x
    obtain ⟨v, q, rfl, _, h2⟩ := x; simp [ih h2]
section
variable {P : Params} {env : Env} {H N N₁ N₂ : Addr → Prop} {s s₁ s₂ : Shared} {ρ₁ ρ₂ : List Ent}
theorem PostN.mono (p : PostN P g env H N ρ s ρ₁ s₁) (e : ∀ a, N a ↔ N₁ a) : PostN P g env H N₁ ρ s ρ₁ s₁ := by
  have : N = N₁ := funext fun a => propext (e a)
  exact this ▸ p
theorem PostN.trans (p : PostN P g env H N₁ ρ s ρ₁ s₁) (q : PostN P g env (fun a => H a ∨ N₁ a) N₂ ρ₁ s₁ ρ₂ s₂) : PostN P g env H (fun a => N₁ a ∨ N₂ a) ρ s ρ₂ s₂ := by
  refine ⟨⟨q.p.sr.congr fun a => ?_, ?_, fun b o hb e => ?_, fun b hb => ?_, q.p.shape.trans p.p.shape⟩, fun a h hc => ?_, fun a h => ?_⟩
  · exact ⟨fun h => h.elim (fun h => h.elim .inl fun h => .inr (.inl h)) fun h => .inr (.inr h), fun h => h.elim (fun h => .inl (.inl h)) fun h => h.elim (fun h => .inl (.inr h)) .inr⟩
  · exact same_trans p.p.same q.p.same
  · refine q.p.keep b o (fun h => ?_) (p.p.keep b o hb e)
    rcases h with (h | h) | h
    · exact hb (.inl (.inl h))
    · rcases p.p.new b h with h | h
      · exact hb (.inl (.inr h))
      · rw [e] at h; cases h
    · exact h
  · rcases q.p.new b hb with h | h
    · exact p.p.new b h
    · cases e : s.heap.get? b with
      | none => exact .inr rfl
      | some o =>
        by_cases hv : b ∈ V ρ
        · exact .inl hv
        · have hL : b ≠ env.locals := fun h => by
            subst h
            exact (List.nodup_cons.mp q.p.sr.nd).1 hb
          rw [p.p.keep b o (fun h => h.elim (fun h => h.elim hL hv) id) e] at h
          cases h
  · rcases h with h | h
    · exact p.dis a h hc
    · exact q.dis a h (.inl hc)
  · rcases h with h | h
    · exact p.new a h
    · rcases q.new a h with h2 | h2
      · exact p.p.new a h2
      · cases e : s.heap.get? a with
        | none => exact .inr rfl
        | some o =>
          by_cases hv : a ∈ V ρ
          · exact .inl hv
          · have hL : a ≠ env.locals := fun hc => q.p.sr.sep a (by rw [hc]; exact .head _) (.inr h)
            rw [p.p.keep a o (fun h => h.elim (fun h => h.elim hL hv) id) e] at h2
            cases h2
theorem PostN.start (sr : SR P g env H ρ s.heap) : PostN P g env H (fun _ => False) ρ s ρ s := ⟨PostX.start (sr.congr fun a => by simp), fun _ h => h.elim, fun _ h => h.elim⟩
end
inductive RMs (P : Params) (g : Heap) (env : Env) (H : Addr → Prop) (ρ : List Ent) (s : Shared) (K : List Slot → List Ent → Prop) (vs : List Value) (s' : Shared) : Prop where
  | mk (sls : List Slot) (ρ' : List Ent) (k : K sls ρ') (p : PostN P g env H (· ∈ slF sls) ρ s ρ' s') (r : SlsIs P s'.heap (Tt env (fun a => H a ∨ a ∈ slF sls) ρ') sls vs) (n : (slF sls).Nodup)
variable (prog w g) in
noncomputable def WOL (n : Nat) (sc : Scope) (es : List Expr) (ρ : List Ent) (K : List Slot → List Ent → Prop) : Prop :=
  ∀ (env : Env) (A : Around) (H : Addr → Prop) (s : Shared) (pos : Pos), env.scope = sc → EnvOk env → Room n A → SR w.params g env H ρ s.heap →
    wpAny (model prog w) A (spliced (backTo pos (starEach es env))) (fun vs s' => RMs w.params g env H ρ s K vs s') noE s
theorem wol_nil {K : List Slot → List Ent → Prop} (h : K [] ρ) : WOL prog w g n sc [] ρ K := fun _ _ _ _ _ _ _ _ sr => wpAny_pure ⟨[], ρ, h, (PostN.start sr).mono fun a => by simp [slF], rfl, List.nodup_nil⟩
theorem wol_cons {e : Expr} {r : List Expr} {K : List Slot → List Ent → Prop} (h : WO prog w g n sc e ρ fun sl ρ₁ => WOL prog w g n sc r ρ₁ fun sls ρ₂ => K (sl :: sls) ρ₂) (hp : plainE e = true := by rfl) : WOL prog w g n sc (e :: r) ρ K := by
  intro env A H s pos hsc ok hA sr
  rw [starEach_plain hp]
  refine spliced_cons (wpAny_mono (h env A H s hsc ok hA sr) (fun v s1 h1 => ?_) fun _ _ x => x)
  obtain ⟨sl, ρ1, k1, p1, v1, nd1⟩ := h1
  refine wpAny_mono (k1 env A _ s1 pos hsc ok hA p1.p.sr) (fun vs s2 h2 => ?_) fun _ _ x => x
  obtain ⟨sls, ρ2, k2, p2, v2, nd2⟩ := h2
  have eT : (fun a => H a ∨ a ∈ slF (sl :: sls)) = fun a => (H a ∨ a ∈ sl.fp) ∨ a ∈ slF sls := by
    funext a; simp only [slF, List.flatMap_cons, List.mem_append]; exact propext (or_assoc.symm)
  refine ⟨sl :: sls, ρ2, k2, (p1.trans p2).mono fun a => by simp [slF], ⟨v, vs, rfl, ?_, ?_⟩, List.nodup_append.mpr ⟨nd1, nd2, fun a ha b hb e => p2.dis b hb (.inr (e ▸ ha))⟩⟩
  · rw [eT]
    refine v1.mono (fun a o ha e => p2.p.keep a o (fun hc => ?_) e) ?_
    · rcases hc with hc | hc
      · rcases ha with ha | ha
        · exact ha (.inr hc)
        · exact p1.p.sr.sep a (List.mem_cons.mpr hc) (.inr ha)
      · exact hc
    · rintro a ((h | h) | h | h)
      · exact .inl (.inl h)
      · exact (p2.new a h).imp (fun h => .inr (.inr h)) id
      · exact .inl (.inr (.inl h))
      · exact (p2.p.new a h).imp (fun h => .inr (.inr h)) id
  · rw [eT]; exact v2
inductive PutL : List Ent → List (Str × Slot) → List Ent → Prop where
  | nil {ρ : List Ent} : PutL ρ [] ρ
  | cons {ρ ρ₁ ρ₂ : List Ent} {x : Str} {sl : Slot} {r : List (Str × Slot)} : Put ρ x sl ρ₁ → PutL ρ₁ r ρ₂ → PutL ρ ((x, sl) :: r) ρ₂
noncomputable def SAre (prog : Program) (w : World) (A : Around) (env : Env) : List (Value → Sem Unit) → List Str → Prop
  | [], xs => xs = []
  | f :: fs, xs => ∃ x r, xs = x :: r ∧ (∀ v (s : Shared) (Q : Unit → Shared → Prop), wpAny (model prog w) A (storeName env x v) Q noE s → wpAny (model prog w) A (f v) Q noE s) ∧ SAre prog w A env fs r
theorem stores {env : Env} {A : Around} {H : Addr → Prop} (ok : EnvOk env) :
    ∀ (fs : List (Value → Sem Unit)) (xs : List Str) (sls : List Slot) (vs : List Value) (ρ ρ'' : List Ent) (s : Shared), SAre prog w A env fs xs → xs.length = sls.length → SR w.params g env (fun a => H a ∨ a ∈ slF sls) ρ s.heap → SlsIs w.params s.heap (Tt env (fun a => H a ∨ a ∈ slF sls) ρ) sls vs → (slF sls).Nodup → (∀ a ∈ slF sls, ¬ H a) → PutL ρ (xs.zip sls) ρ'' →
      wpAny (model prog w) A (assignInOrder fs vs) (fun _ s' => SR w.params g env H ρ'' s'.heap ∧ (∃ h' tk, s' = { s with heap := h', toks := tk }) ∧ (∀ b o, ¬ (b = env.locals ∨ b ∈ V ρ ∨ b ∈ slF sls) → s.heap.get? b = some o → s'.heap.get? b = some o) ∧
        (∀ b ∈ V ρ'', b ∈ V ρ ∨ b ∈ slF sls) ∧ sig ρ'' = sig ρ) noE s := by
  intro l0
  induction l0 with
  | nil =>
    intro xs sls vs ρ ρ'' s hfs hl sr hv nd hH hp
    cases hfs
    cases sls with
    | cons _ _ => cases hl
    | nil =>
    cases hv
    cases hp
    exact wpAny_pure ⟨sr.congr fun a => by simp [slF], ⟨_, _, rfl⟩, fun _ _ _ e => e, fun _ h => .inl h, rfl⟩
  | cons f fs ih =>
    intro xs sls vs ρ ρ'' s hfs hl sr hv nd hH hp
    obtain ⟨x, xs, rfl, hf, hfs⟩ := hfs
    cases sls with
    | nil => cases hl
    | cons sl sls =>
    obtain ⟨v, q, rfl, h1, h2⟩ := hv
    cases hp with
    | @cons _ ρ1 _ _ _ _ hp hr =>
    have nd' : (sl.fp ++ slF sls).Nodup := nd
    obtain ⟨n1, n2, n3⟩ := List.nodup_append.mp nd'
    have eT : (fun a => H a ∨ a ∈ slF (sl :: sls)) = fun a => (H a ∨ a ∈ slF sls) ∨ a ∈ sl.fp := by
      funext a; simp only [slF, List.flatMap_cons, List.mem_append]
      exact propext ⟨fun h => h.elim (fun h => .inl (.inl h)) fun h => h.elim .inr fun h => .inl (.inr h), fun h => h.elim (fun h => h.elim .inl fun h => .inr (.inr h)) fun h => .inr (.inl h)⟩
    rw [eT] at sr h1 h2
    show wpAny _ _ (do holding q (f v); assignInOrder fs q) _ _ _
    refine wpAny_bind (wpAny_holding (hf _ _ _ (store_slot ok sr hp h1 n1 (fun a ha hc => ?_) fun h' tk sr' hk => ?_)))
    · rcases hc with hc | hc
      · exact hH a (List.mem_append.mpr (.inl ha)) hc
      · exact n3 a ha a hc rfl
    · have h2' : SlsIs w.params h' (Tt env (fun a => H a ∨ a ∈ slF sls) ρ1) sls q := h2.mono (fun a o ha e => hk a o (fun hc => ?_) e) ?_
      · refine wpAny_mono (ih xs sls q ρ1 ρ'' { s with heap := h', toks := tk } hfs (by simpa using hl) sr' h2' n2 (fun a ha => hH a (List.mem_append.mpr (.inr ha))) hr) (fun _ s2 z => ?_) fun _ _ x => x
        obtain ⟨z1, ⟨h2, t2, e2⟩, z3, z4, z5⟩ := z
        refine ⟨z1, ⟨h2, t2, by rw [e2]⟩, fun b o hb e => z3 b o (fun hc => ?_) (hk b o (fun hc => hb (hc.imp id .inl)) e), fun b hb => ?_, z5.trans hp.shape⟩
        · rcases hc with hc | hc | hc
          · exact hb (.inl hc)
          · rcases hp.V b hc with h | h
            · exact hb (.inr (.inl h))
            · exact hb (.inr (.inr (List.mem_append.mpr (.inl h))))
          · exact hb (.inr (.inr (List.mem_append.mpr (.inr hc))))
        · rcases z4 b hb with h | h
          · exact (hp.V b h).imp id fun h => List.mem_append.mpr (.inl h)
          · exact .inr (List.mem_append.mpr (.inr h))
      · rcases ha with ha | ha
        · exact ha (.inr hc)
        · exact sr.sep a (List.mem_cons.mpr hc) (.inl (.inr ha))
      · rintro a (h | h | h)
        · exact .inl (.inl (.inl h))
        · exact .inl (.inr (.inl h))
        · rcases hp.V a h with h | h
          · exact .inl (.inr (.inr h))
          · exact .inl (.inl (.inr h))
theorem SlsIs.snoc {P : Params} {h : Heap} {T : Addr → Prop} {sl : Slot} {v : Value} (hv : SlotIs P h T sl (some v)) : ∀ {sls : List Slot} {vs : List Value}, SlsIs P h T sls vs → SlsIs P h T (sls ++ [sl]) (vs ++ [v]) := by
  intro l0
  induction l0 with
  | nil => exact @fun _ x => by cases x; exact ⟨v, [], rfl, hv, rfl⟩
  | cons s r ih =>
    intro _ x
    obtain ⟨u, q, rfl, h1, h2⟩ := x; exact ⟨u, q ++ [v], rfl, h1, ih h2⟩
theorem SlsIs.rev {P : Params} {h : Heap} {T : Addr → Prop} : ∀ {sls : List Slot} {vs : List Value}, SlsIs P h T sls vs → SlsIs P h T sls.reverse vs.reverse := by
  intro l0
  induction l0 with
  | nil => exact @fun _ x => by cases x; exact rfl
  | cons s r ih =>
    intro _ x
    obtain ⟨u, q, rfl, h1, h2⟩ := x
    rw [List.reverse_cons, List.reverse_cons]
    exact (ih h2).snoc h1
theorem slF_rev (sls : List Slot) : (slF sls.reverse).Perm (slF sls) := (List.reverse_perm sls).flatMap_right _
theorem nameOf_is {e : Expr} {x : Str} (h : nameOf? e = some x) : ∃ p, e = .Name x p := by
  cases e <;> first | (cases h; exact ⟨_, rfl⟩) | cases h
noncomputable def nameL (l : List Expr) : List Str := l.filterMap nameOf?
noncomputable def allNames (l : List Expr) : Bool := l.all fun e => (nameOf? e).isSome
theorem sAre_elts {A : Around} {env : Env} : ∀ {elts : List Expr}, allNames elts = true → SAre prog w A env ((assignEach elts env).map (·.2)) (nameL elts) ∧ (assignEach elts env).length = elts.length ∧ (assignEach elts env).findIdx? (·.1) = none ∧ (nameL elts).length = elts.length := by
  intro l0
  induction l0 with
  | nil => exact @fun _ => ⟨rfl, rfl, rfl, rfl⟩
  | cons e r ih =>
    intro h
    have h' := Bool.and_eq_true_iff.mp h
    obtain ⟨h1, h2, h3, h4⟩ := ih h'.2
    obtain ⟨x, hx⟩ := Option.isSome_iff_exists.mp h'.1
    obtain ⟨p, rfl⟩ := nameOf_is hx
    refine ⟨⟨x, _, rfl, fun v s Q q => PySem.wpAny_assign_Name q, h1⟩, congrArg (· + 1) h2, ?_, congrArg (· + 1) h4⟩
    show (List.findIdx? _ ((false, assign (.Name x p) env) :: assignEach r env)) = none
    rw [List.findIdx?_cons, h3]; rfl
theorem tup_fin {env : Env} {H : Addr → Prop} {s s₁ s₂ : Shared} {ρ₁ ρ₂ : List Ent} {sls : List Slot} (p : PostN w.params g env H (· ∈ slF sls) ρ s ρ₁ s₁) (same : ∃ h' tk, s₂ = { s₁ with heap := h', toks := tk })
    (keep : ∀ b o, ¬ (b = env.locals ∨ b ∈ V ρ₁ ∨ b ∈ slF sls) → s₁.heap.get? b = some o → s₂.heap.get? b = some o) (new : ∀ b ∈ V ρ₂, b ∈ V ρ₁ ∨ b ∈ slF sls) (shape : sig ρ₂ = sig ρ₁) (sr : SR w.params g env H ρ₂ s₂.heap) : Post0 w.params g env H ρ s ρ₂ s₂ := by
  refine ⟨sr, ?_, fun b o hb e => keep b o (fun hc => ?_) (p.p.keep b o (fun hc => hc.elim hb id) e), fun b hb => ?_, shape.trans p.p.shape⟩
  · exact same_trans p.p.same same
  · rcases hc with hc | hc | hc
    · exact hb (.inl hc)
    · rcases p.p.new b hc with h | h
      · exact hb (.inr h)
      · rw [e] at h; cases h
    · rcases p.new b hc with h | h
      · exact hb (.inr h)
      · rw [e] at h; cases h
  · rcases new b hb with h | h
    · exact p.p.new b h
    · exact p.new b h
theorem wx_tup {elts es : List Expr} {k kk : Nat} {tpos vpos pos : Pos} {K : Fl → List Ent → Prop} (h : WOL prog w g n sc es ρ fun sls ρ₁ => sls.length ≤ 3 ∧ (nameL elts).length = sls.length ∧ ∃ ρ₂, PutL ρ₁ ((nameL elts).zip sls) ρ₂ ∧ K .next ρ₂)
    (hw : ∀ env : Env, env.scope = sc → swappedStores [.Tuple elts k tpos] (.Tuple es kk vpos) env = pure none) (hel : allNames elts = true := by rfl) : WX prog w g n sc (.Assign [.Tuple elts k tpos] (.Tuple es kk vpos) pos) ρ K := by
  intro env A H s hsc ok hA sr
  refine PyProof.Rows.Assign_Tuple (wpAny_Tuple (wpAny_mono (h env A H s vpos hsc ok hA sr) (fun vs s1 h1 => ?_) noE_to)) rfl (hw env hsc)
  obtain ⟨sls, ρ1, ⟨hl3, hl, ρ2, hp, k1⟩, p, hv, nd⟩ := h1
  have hvl := hv.length
  refine ⟨by show vs.length ≤ 2 ^ 24; omega, ?_⟩
  obtain ⟨q1, q2, q3, q4⟩ := sAre_elts (prog := prog) (w := w) (A := A) (env := env) hel
  refine PySem.wpAny_assign_Tuple (items := vs.toArray) hA.1 ⟨_, Heap.get?_push_size _ rfl, rfl, 0, rfl⟩ (by rw [q2]; simp; omega) q3 fun h' hk => ?_
  have kp : ∀ b o, s1.heap.get? b = some o → h'.get? b = some o := fun b o e => hk b o (fun hb => by
    have e2 := Heap.get?_push_of_some { cls := .type "tuple", data := .seq vs.toArray } e
    rw [hb] at e2; have := Heap.lt_size e2; exact absurd this (Nat.lt_irrefl _)) (Heap.get?_push_of_some _ e)
  have sr' := p.p.sr.grow kp
  refine wpAny_mono (stores ok _ _ sls vs ρ1 ρ2 { s1 with heap := h' } q1 hl sr' (hv.mono (fun b o _ e => kp b o e) fun a ha => .inl ha) nd p.dis hp) (fun _ s2 z => ?_) fun _ _ x => x
  obtain ⟨z1, ⟨h2, t2, e2⟩, z3, z4, z5⟩ := z
  exact ⟨.next, ρ2, k1, tup_fin p ⟨h2, t2, by rw [e2]⟩ (fun b o hb e => z3 b o hb (kp b o e)) z4 z5 z1, rfl⟩
theorem wx_tupS {elts es : List Expr} {k kk : Nat} {tpos vpos pos : Pos} {K : Fl → List Ent → Prop} (h : WOL prog w g n sc es ρ fun sls ρ₁ => sls.length ≤ 3 ∧ (nameL elts).length = sls.length ∧ ∃ ρ₂, PutL ρ₁ ((nameL elts).reverse.zip sls.reverse) ρ₂ ∧ K .next ρ₂)
    (hw : ∀ env : Env, env.scope = sc → swappedStores [.Tuple elts k tpos] (.Tuple es kk vpos) env = pure (some (nameL elts))) : WX prog w g n sc (.Assign [.Tuple elts k tpos] (.Tuple es kk vpos) pos) ρ K := by
  intro env A H s hsc ok hA sr
  refine PyProof.Rows.Assign_Tuple_swapped (wpAny_Tuple (wpAny_mono (h env A H s vpos hsc ok hA sr) (fun vs s1 h1 => ?_) noE_to)) rfl (hw env hsc)
  obtain ⟨sls, ρ1, ⟨hl3, hl, ρ2, hp, k1⟩, p, hv, nd⟩ := h1
  have hvl := hv.length
  refine ⟨by show vs.length ≤ 2 ^ 24; omega, ?_⟩
  rw [show (nameL elts).length = vs.toArray.size by simp; omega]
  refine PySem.wpAny_unpackItems_tuple (items := vs.toArray) hA.1 ⟨_, Heap.get?_push_size _ rfl, rfl, 0, rfl⟩ fun h' hk => ?_
  have kp : ∀ b o, s1.heap.get? b = some o → h'.get? b = some o := fun b o e => hk b o (fun hb => by
    have e2 := Heap.get?_push_of_some { cls := .type "tuple", data := .seq vs.toArray } e
    rw [hb] at e2; have := Heap.lt_size e2; exact absurd this (Nat.lt_irrefl _)) (Heap.get?_push_of_some _ e)
  have sr' := p.p.sr.grow kp
  have hmem : ∀ a, a ∈ slF sls.reverse ↔ a ∈ slF sls := fun a => (slF_rev sls).mem_iff
  have eH : (fun a => H a ∨ a ∈ slF sls.reverse) = fun a => H a ∨ a ∈ slF sls := by funext a; rw [hmem]
  have sA : SAre prog w A env ((nameL elts).reverse.map fun n => bindName env n) (nameL elts).reverse := by
    generalize (nameL elts).reverse = l
    induction l with
    | nil => exact rfl
    | cons x r ih => exact ⟨x, r, rfl, fun v s Q q => wpAny_bindName q, ih⟩
  show wpAny _ _ (assignInOrder _ vs.toArray.toList.reverse) _ _ _
  refine wpAny_mono (stores ok _ _ sls.reverse vs.reverse ρ1 ρ2 { s1 with heap := h' } sA (by simpa using hl) (by rw [eH]; exact sr') (by rw [eH]; exact (hv.mono (fun b o _ e => kp b o e) fun a ha => .inl ha).rev) ((slF_rev sls).nodup_iff.mpr nd) (fun a ha => p.dis a ((hmem a).mp ha)) hp) (fun _ s2 z => ?_) fun _ _ x => x
  obtain ⟨z1, ⟨h2, t2, e2⟩, z3, z4, z5⟩ := z
  exact ⟨.next, ρ2, k1, tup_fin p ⟨h2, t2, by rw [e2]⟩ (fun b o hb e => z3 b o (fun hc => hb (hc.imp id fun h => h.imp id (hmem b).mp)) (kp b o e)) (fun b hb => (z4 b hb).imp id (hmem b).mp) z5 z1, rfl⟩
end
section
variable {prog : Program} {w : World} {g : Heap} {n : Nat} {sc : Scope} {ρ ρ' : List Ent}
noncomputable def KVIs (h : Heap) (T : Addr → Prop) : List (Str × PV) → List (Str × Value) → Prop
  | [], kvs => kvs = []
  | e :: es, kvs => PairR e.1 (Rd h T e.2) (KVIs h T es) kvs
theorem KVIs.mono {h h' : Heap} {T T' : Addr → Prop} (hk : ∀ a o, ¬ T a → h.get? a = some o → h'.get? a = some o) (hT : ∀ a, T' a → T a ∨ h.get? a = none) : ∀ {es : List (Str × PV)} {kvs : List (Str × Value)}, KVIs h T es kvs → KVIs h' T' es kvs := by
  intro l0
  induction l0 with
  | nil => exact @fun _ x => x
  | cons e es ih =>
    intro _ x
    obtain ⟨v, r, rfl, h1, h2⟩ := x; exact ⟨v, r, rfl, h1.mono hk hT, ih h2⟩
theorem es_to {h : Heap} {T : Addr → Prop} : ∀ {es : List (Str × PV)} {ds : List DictEntry}, EsIs w.params (Rd h T) es ds → ∃ kvs, KVIs h T es kvs ∧ Pairs (strKind prog w) ds kvs ∧ (∀ e ∈ ds, ∃ k, (strKind prog w).is k e.key = true ∧ e.hash = (strKind prog w).hash k) ∧ kvs.map (·.1) = es.map (·.1) := by
  intro l0
  induction l0 with
  | nil => exact @fun _ x => by cases x; exact ⟨[], rfl, .nil, (fun _ h => nomatch h), rfl⟩
  | cons e es ih =>
    intro _ x
    obtain ⟨d, r, t, rfl, h1, h2, h3, x⟩ := x
    obtain ⟨kvs, k1, k2, k3, k4⟩ := ih x
    have hs : (strKind prog w).is e.1 d.key = true := by rw [h1]; exact strKind_is prog w e.1 t
    refine ⟨(e.1, d.val) :: kvs, ⟨d.val, kvs, rfl, h3, k1⟩, .cons hs rfl k2, fun q hq => ?_, by simp [k4]⟩
    rcases List.mem_cons.mp hq with rfl | hq
    · exact ⟨e.1, hs, h2⟩
    · exact k3 q hq
theorem es_from {h : Heap} {T : Addr → Prop} : ∀ {es : List (Str × PV)} {kvs : List (Str × Value)} {ds : List DictEntry}, KVIs h T es kvs → Pairs (strKind prog w) ds kvs → (∀ e ∈ ds, ∃ k, (strKind prog w).is k e.key = true ∧ e.hash = (strKind prog w).hash k) → EsIs w.params (Rd h T) es ds := by
  intro l0
  induction l0 with
  | nil =>
    intro _ _ k1 k2 _
    cases k1
    cases k2; exact rfl
  | cons e es ih =>
    intro _ _ k1 k2 k3
    obtain ⟨v, r, rfl, h1, k1⟩ := k1
    cases k2 with
    | @cons d _ ds _ p1 p2 k2 =>
      obtain ⟨t, ht⟩ := Value.isStrOf_shape p1
      obtain ⟨k, q1, q2⟩ := k3 d (.head _)
      have : k = e.1 := (strKind prog w).inj _ _ _ q1 p1
      subst this
      exact ⟨d, ds, t, rfl, ht, q2, (by rw [p2]; exact h1), ih k1 k2 fun q hq => k3 q (.tail _ hq)⟩
theorem dct_of {h : Heap} {T : Addr → Prop} {a : Addr} {es : List (Str × PV)} {o : Option Value} (z : SlotIs w.params h T (.dct a es) o) (hn : (es.map (·.1)).Nodup) : ∃ kvs, h.DictOf (strKind prog w) a kvs ∧ KVIs h T es kvs := by
  obtain ⟨_, ds, m, hg, he⟩ := z
  obtain ⟨kvs, k1, k2, k3, k4⟩ := es_to (prog := prog) he
  exact ⟨kvs, ⟨_, ds.toArray, m, hg, ⟨rfl, rfl, rfl⟩, rfl, fun e he => k3 e (by simpa using he), k2, by rw [k4]; exact hn⟩, k1⟩
theorem of_dct {h : Heap} {T : Addr → Prop} {a : Addr} {es : List (Str × PV)} {kvs : List (Str × Value)} (hd : h.DictOf (strKind prog w) a kvs) (k : KVIs h T es kvs) : SlotIs w.params h T (.dct a es) (some (.ref a)) := by
  obtain ⟨o, es', ep, hg, hx, hdat, hk, hp, _⟩ := hd
  obtain ⟨oc, od, odat, osl⟩ := o
  obtain ⟨h1, h2, h3⟩ := hx
  dsimp only at h1 h2 h3 hdat
  subst h1 h2 h3 hdat
  exact ⟨rfl, es'.toList, ep, hg, es_from (prog := prog) k hp fun e he => hk e (by simpa using he)⟩
noncomputable def storedE (x : Str) (d : PV) : List (Str × PV) → List (Str × PV)
  | [] => [(x, d)]
  | e :: r => if e.1 = x then (e.1, d) :: r else e :: storedE x d r
theorem KVIs.names {h : Heap} {T : Addr → Prop} : ∀ {es : List (Str × PV)} {kvs : List (Str × Value)}, KVIs h T es kvs → kvs.map (·.1) = es.map (·.1) := by
  intro l0
  induction l0 with
  | nil => exact @fun _ x => by cases x; rfl
  | cons e es ih =>
    intro _ x
    obtain ⟨v, r, rfl, _, x⟩ := x; simp [ih x]
theorem stored_cons (k x : Str) (u v : Value) (r : List (Str × Value)) (hn : k ∉ r.map (·.1)) : stored ((k, u) :: r) x v = if k = x then (k, v) :: r else (k, u) :: stored r x v := by
  unfold stored
  by_cases hk : k = x
  · subst hk
    simp only [List.any_cons, decide_true, Bool.true_or, if_true, List.map_cons]
    rw [map_store_of_not_mem r k v hn]
  · simp only [List.any_cons, decide_eq_false hk, Bool.false_or, if_neg hk, List.map_cons]
    split <;> simp
theorem KVIs.stored {h : Heap} {T : Addr → Prop} {x : Str} {d : PV} {v : Value} (hv : Rd h T d v) : ∀ {es : List (Str × PV)} {kvs : List (Str × Value)}, (es.map (·.1)).Nodup → KVIs h T es kvs → KVIs h T (storedE x d es) (PySem.stored kvs x v) := by
  intro l0
  induction l0 with
  | nil => exact @fun _ _ k => by cases k; exact ⟨v, [], rfl, hv, rfl⟩
  | cons e es ih =>
    intro _ hn k
    obtain ⟨u, r, rfl, h1, k⟩ := k
    rw [List.map_cons, List.nodup_cons] at hn
    rw [stored_cons _ _ _ _ _ (by rw [k.names]; exact hn.1)]
    rw [storedE]
    by_cases hk : e.1 = x
    · rw [if_pos hk, if_pos hk]; exact ⟨v, r, rfl, hv, k⟩
    · rw [if_neg hk, if_neg hk]; exact ⟨u, _, rfl, h1, ih hn.2 k⟩
theorem KVIs.at {h : Heap} {T : Addr → Prop} {x : Str} {d : PV} : ∀ {es : List (Str × PV)} {kvs : List (Str × Value)}, KVIs h T es kvs → es.lookup x = some d → ∃ v, valueAt kvs x = some v ∧ Rd h T d v := by
  intro l0
  induction l0 with
  | nil => exact @fun _ _ q => by cases q
  | cons e es ih =>
    intro _ k q
    obtain ⟨u, r, rfl, h1, k⟩ := k
    rw [List.lookup_cons] at q
    unfold valueAt
    rw [List.find?_cons]
    by_cases hk : e.1 = x
    · have : (x == e.1) = true := by simpa using hk.symm
      rw [this] at q; cases q
      rw [decide_eq_true hk]
      exact ⟨u, rfl, h1⟩
    · have : (x == e.1) = false := by simpa using fun h => hk h.symm
      rw [this] at q
      rw [decide_eq_false hk]
      exact ih k q
theorem we_dget {x k : Str} {np cp pos : Pos} {c : Nat} {a : Addr} {es : List (Str × PV)} {d : PV} {K : PV → List Ent → Prop} (hx : At ρ x (.dct a es)) (hk : es.lookup k = some d) (h : K d ρ) (hes : nodupB (es.map (·.1)) = true := by rfl)
    (hs : ∀ o v, subscripted (.Constant (.str k) c cp) false o v = operate [o, v] (getItem o v) := by intro _ _; with_unfolding_all rfl)
    (hd : (x == ("__debug__" : Str)) = false := by decide) (hn : (x == ("__classdict__" : Str)) = false := by decide) : WE prog w g n sc (.Subscript (.Name x np) (.Constant (.str k) c cp) pos) ρ K := by
  intro env A H s hsc ok hA sr
  refine Subscript_ (load_owned ok sr hx rfl rfl (wpAny_Constant_str ?_) hd hn)
  obtain ⟨o, z⟩ := slot_at sr hx
  obtain ⟨kvs, hd1, hk1⟩ := dct_of (prog := prog) z (nodupB_is hes)
  obtain ⟨v, hv, rv⟩ := hk1.at hk
  refine tail_any (s := { s with toks := s.toks + 1 }) hd1.typeIs slot_dict_getitem.lookup (wpAny_getItem_of (strKind_is prog w k _) hd1.mapOf hv ?_) (hs _ _)
  exact ⟨d, ρ, h, (SR.post sr).grow ⟨s.heap, s.toks + 1 + 1, rfl, fun _ _ e => e⟩, rv⟩
theorem wx_dset {x k : Str} {e : Expr} {np cp p' pos : Pos} {c : Nat} {K : Fl → List Ent → Prop}
    (h : WE prog w g n sc e ρ fun d ρ₁ => ∃ a es ρ₂, Sw ρ₁ x (.dct a es) (.dct a (storedE k d es)) ρ₂ ∧ nodupB (es.map (·.1)) = true ∧ es.length ≤ 100 ∧ K .next ρ₂) (hc : noComp e = true := by rfl)
    (hd : (x == ("__debug__" : Str)) = false := by decide) (hn : (x == ("__classdict__" : Str)) = false := by decide) : WX prog w g n sc (.Assign [.Subscript (.Name x np) (.Constant (.str k) c cp) p'] e pos) ρ K := by
  intro env A H s hsc ok hA sr
  refine PySem.wpAny_Assign_Subscript (wpAny_mono (h env A H s hsc ok hA sr) (fun v s1 h1 => ?_) fun _ _ x => x) (swaps_none hc ..)
  obtain ⟨d, ρ1, ⟨a, es, ρ2, sw, hes, hz, k1⟩, p1, r1⟩ := h1
  refine load_owned ok p1.sr sw.at rfl rfl (wpAny_Constant_str ?_) hd hn
  obtain ⟨o, z⟩ := slot_at p1.sr sw.at
  obtain ⟨kvs, hd1, hk1⟩ := dct_of (prog := prog) z (nodupB_is hes)
  have hkl : kvs.length = es.length := by have := congrArg List.length hk1.names; simpa using this
  refine wpAny_setItem_pairs (s := { s1 with toks := s1.toks + 1 }) (strKind_is prog w k _) hd1 (fun h' hd' hs' => ?_) (by have : sizeLine = 2 ^ 24 := rfl; omega)
  have ha : a ∈ V ρ1 := by obtain ⟨l, hm⟩ := sw.at.mem; exact sl_sub hm (.head _)
  have hT : ∀ b, Tt env H ρ2 b → Tt env H ρ1 b := fun b hb => hb.imp id fun h => h.imp id fun h => (sw.put.V b h).elim id fun h => by rw [List.mem_singleton.mp h]; exact ha
  have hk' : ∀ b o, ¬ Tt env H ρ1 b → s1.heap.get? b = some o → h'.get? b = some o := fun b o hb e => hs'.extBut b o (fun hc => hb (hc ▸ .inr (.inr ha))) e
  refine ⟨.next, ρ2, k1, p1.trans ⟨p1.sr.swap sw (fun _ h => h) (by simp [Slot.fp]) (fun b o hb e => hs'.extBut b o (fun hc => hb (hc ▸ .head _)) e) (fun b hb => ?_) fun o ho => ?_, ⟨_, _, rfl⟩, fun b o hb e => hs'.extBut b o (fun hc => hb (.inr (hc ▸ ha))) e, fun b hb => .inl ((sw.put.V b hb).elim id fun h => by rw [List.mem_singleton.mp h]; exact ha), sw.put.shape⟩, rfl⟩
  · rw [List.mem_singleton.mp hb]
    obtain ⟨o, _, _, ho, _⟩ := hd'
    show (h'.get? a).isSome = true
    rw [ho]; rfl
  · rw [ho.1]
    refine of_dct (prog := prog) hd' ((hk1.stored r1 (nodupB_is hes)).mono hk' fun b hb => .inl (hT b hb))
theorem wo_dict2 {k₁ k₂ : Str} {c₁ c₂ : Nat} {p₁ p₂ pos : Pos} {e₁ e₂ : Expr} {K : Slot → List Ent → Prop} (h : WE prog w g n sc e₁ ρ fun d₁ ρ₁ => WE prog w g n sc e₂ ρ₁ fun d₂ ρ₂ => ∀ a, K (.dct a [(k₁, d₁), (k₂, d₂)]) ρ₂) (hne : k₁ ≠ k₂) :
    WO prog w g n sc (.Dict [some (.Constant (.str k₁) c₁ p₁), some (.Constant (.str k₂) c₂ p₂)] [e₁, e₂] pos) ρ K := by
  intro env A H s hsc ok hA sr
  refine wpAny_Dict_walk (knd := strKind prog w) rfl rfl (by intro h; cases h) (by show 2 ≤ 15; decide) ?_
  have sr0 : SR w.params g env (fun a => H a ∨ a ∈ [s.heap.objs.size]) ρ (s.heap.push { cls := .type "dict", data := .dict #[] }) := sr.pushed { cls := .type "dict", data := .dict #[] } rfl
  have d0 : (s.heap.push { cls := .type "dict", data := .dict #[] }).get? s.heap.objs.size = some (dictOf [] 0) := Heap.get?_push_size _ rfl
  have q0 : PostN w.params g env H (· ∈ [s.heap.objs.size]) ρ s ρ { s with heap := s.heap.push { cls := .type "dict", data := .dict #[] } } := by
    refine ⟨⟨sr0, ⟨_, _, rfl⟩, fun b o _ e => Heap.get?_push_of_some _ e, fun _ h => .inl h, rfl⟩, fun a ha hc => ?_, fun a ha => .inr (by rw [List.mem_singleton.mp ha]; exact get_size_none _)⟩
    have := (sr.dom a (.inl hc)).1
    rw [List.mem_singleton.mp ha, get_size_none] at this; cases this
  refine pairTrees_cons_walk (wpAny_Constant_str ?_)
  have sr1 : SR w.params g env (fun a => H a ∨ a ∈ [s.heap.objs.size]) ρ ({ s with heap := s.heap.push { cls := .type "dict", data := .dict #[] }, toks := s.toks + 1 } : Shared).heap := sr0
  refine wpAny_mono (h env A _ _ hsc ok hA sr1) (fun v1 s1 h1 => ?_) fun _ _ x => x
  obtain ⟨d1, ρ1, k1, p1, r1⟩ := h1
  refine pairTrees_cons_walk (wpAny_Constant_str ?_)
  have p1' := p1.grow (Keeps.tok s1 (s1.toks + 1))
  refine wpAny_mono (k1 env A _ _ hsc ok hA p1'.sr) (fun v2 s2 h2 => ?_) fun _ _ x => x
  obtain ⟨d2, ρ2, k2, p2, r2⟩ := h2
  refine pairTrees_nil_walk ?_
  have P2 := p1'.trans p2
  have da : s2.heap.get? s.heap.objs.size = some (dictOf [] 0) := P2.keep _ _ (fun hc => sr1.sep _ (List.mem_cons.mpr hc) (.inr (.head _))) d0
  refine ⟨[(k₁, v1), (k₂, v2)], ⟨strKind_is prog w k₁ _, rfl, strKind_is prog w k₂ _, rfl, trivial⟩, ⟨_, #[], 0, da, ⟨rfl, rfl, rfl⟩, rfl, (fun e he => by simp at he), .nil, List.nodup_nil⟩, fun h' hd' hs' => ?_⟩
  have em : merged [] [(k₁, v1), (k₂, v2)] = [(k₁, v1), (k₂, v2)] := by
    show stored (stored [] k₁ v1) k₂ v2 = _
    have e1 : stored [] k₁ v1 = [(k₁, v1)] := rfl
    rw [e1, stored_cons _ _ _ _ _ (by simp), if_neg hne]; rfl
  rw [em] at hd'
  have hsome : (h'.get? s.heap.objs.size).isSome = true := by obtain ⟨o, _, _, ho, _⟩ := hd'; rw [ho]; rfl
  have P3 : PostX w.params g env (fun a => H a ∨ a ∈ [s.heap.objs.size]) (· ∈ [s.heap.objs.size]) ρ { s with heap := s.heap.push { cls := .type "dict", data := .dict #[] }, toks := s.toks + 1 } ρ2 { s2 with heap := h', toks := s2.toks + 2 } := (PostX.of0 P2).touch (.head _) (.inr (.head _)) hs' hsome
  refine ⟨.dct s.heap.objs.size [(k₁, d1), (k₂, d2)], ρ2, k2 _, ⟨⟨P3.sr, ?_, fun b o hb e => P3.keep b o (fun hc => ?_) (Heap.get?_push_of_some _ e), fun b hb => ?_, P3.shape⟩, q0.dis, q0.new⟩, ?_, by simp [Slot.fp]⟩
  · exact same_trans P2.same ⟨h', _, rfl⟩
  · rcases hc with hc | hc
    · exact hb (.inl hc)
    · rw [List.mem_singleton.mp hc, get_size_none] at e; cases e
  · rcases P3.new b hb with h | h
    · exact .inl h
    · refine .inr ?_
      cases e : s.heap.get? b with
      | none => rfl
      | some o =>
        have : (s.heap.push { cls := .type "dict", data := .dict #[] }).get? b = none := h
        rw [Heap.get?_push_of_some _ e] at this; cases this
  · have keep : ∀ b o, ¬ Tt env (fun a => H a ∨ a ∈ [s.heap.objs.size]) ρ2 b → s2.heap.get? b = some o → h'.get? b = some o := fun b o hb e => hs'.extBut b o (fun hc => hb (.inl (.inr (hc ▸ .head _)))) e
    refine of_dct (prog := prog) hd' ⟨v1, _, rfl, ?_, v2, _, rfl, ?_, rfl⟩
    · exact (p2.rd r1).mono keep fun a ha => .inl ha
    · exact r2.mono keep fun a ha => .inl ha
theorem wo_defret {K : Frag} {mg mb : Str → Option Value} (G : GG K g mg mb) {x : Str} {a : Addr} {fd : FuncData} {e e₀ : Expr} {rpos : Pos} {r : List Expr} {p pos : Pos} {xs : List Str} {Kk : Slot → List Ent → Prop} (F : FnOk K a fd [.Return (some e) rpos]) (hv : GV mg mb x (.ref a))
    (h : WEL prog w g (n + 1) sc (e₀ :: r) ρ fun ds ρ₁ => xs.length = ds.length ∧ ((xs.zip (ds.map Slot.val)).all fun y => fd.scope.names.lookup y.1 == some .local || fd.scope.names.lookup y.1 == some .cell) = true ∧ ∀ cs, WO prog w g n fd.scope e (ents0 (xs.zip (ds.map Slot.val)) cs fd.scope.names) fun sl _ => Kk sl ρ₁)
    (hbind : ∀ vs : List Value, vs.length = xs.length → ∀ s, (∀ b o, g.get? b = some o → s.heap.get? b = some o) → BindsTo s fd ⟨vs, []⟩ (xs.zip vs))
    (hx : sc.names.lookup x = some .globalImplicit := by rfl) (hpn : nodupB xs = true := by decide) (hp : plainE e₀ = true := by rfl) (hd : (x == ("__debug__" : Str)) = false := by decide) : WO prog w g (n + 1) sc (.Call (.Name x p) (e₀ :: r) [] pos) ρ Kk := by
  intro env A H s hsc ok hA sr
  subst hsc
  obtain ⟨oc, od, osl, hl⟩ := F.get
  refine wpAny_Call_NameR (gname G.gf ok sr hx hv ?_ hd)
  refine PyProof.Rows.callWith_def (o := ⟨oc, od, .func fd, osl⟩) rfl (wpAny_mono (h env A H s pos rfl ok hA sr) (fun vs s1 h1 => ?_) fun _ _ x => x) (starEach_plain hp)
  obtain ⟨ds, ρ1, ⟨hlen, hkind, k1⟩, p1, r1⟩ := h1
  refine ⟨p1.sr.keep _ _ (G.kin _ _ hl), wpAny_call (E := noE) ?_⟩
  have efp : fps (xs.zip (ds.map Slot.val)) = [] := fps_vals xs ds
  have eT : (fun b => Tt env H ρ1 b ∨ b ∈ fps (xs.zip (ds.map Slot.val))) = Tt env H ρ1 := by funext b; rw [efp]; simp
  refine fn_enterM (c := false) (E := noE) (T := Tt env H ρ1) (ps := xs.zip (ds.map Slot.val)) (bs := xs.zip vs) G F hA (by rw [eT]; exact p1.sr.hr) (by rw [efp]; exact List.nodup_nil) (by rw [efp]; intro b hb; cases hb) (by rw [eT]; exact ps_vals hlen r1) (hbind vs (by rw [r1.length, hlen]) s1 p1.sr.keep) hkind (by rw [zip_names (by simp [hlen])]; exact hpn) fun cs env' s2 ok' hsc' _ hA' hL' sr' same keep hV => ?_
  refine PySem.wpAny_execs_cons (PySem.wpAny_Return_some (wpAny_mono (k1 cs env' _ _ s2 hsc' ok' hA' sr') (fun v s3 h3 => ?_) noE_to))
  obtain ⟨sl, ρ', k, q, hvv, nd⟩ := h3
  have V0 : ∀ b ∈ V (ents0 (xs.zip (ds.map Slot.val)) cs fd.scope.names), s1.heap.get? b = none := fun b hb => by
    rcases hV b hb with h | h
    · rw [efp] at h; cases h
    · exact h
  have back : ∀ b, s2.heap.get? b = none → s1.heap.get? b = none := fun b hb => by
    cases e : s1.heap.get? b with
    | none => rfl
    | some o => rw [keep b o e] at hb; cases hb
  have keepAll : ∀ b o, s1.heap.get? b = some o → s3.heap.get? b = some o := fun b o e => q.p.keep b o (fun hc => by
    rcases hc with (h | h) | h
    · rw [h, hL'] at e; cases e
    · rw [V0 b h] at e; cases e
    · exact h) (keep b o e)
  have fpN : ∀ b ∈ sl.fp, s1.heap.get? b = none := fun b hb => by
    rcases q.new b hb with h | h
    · exact V0 b h
    · exact back b h
  have srH : SR w.params g env (fun a => H a ∨ a ∈ sl.fp) ρ1 s3.heap := p1.sr.hide keepAll (fun b hb => ⟨fpN b hb, (q.p.sr.dom b (.inl (.inr hb))).1⟩) fun b hb => g_none_of p1.sr (fpN b hb)
  refine ⟨sl, ρ1, k, ⟨⟨srH, ?_, fun b o hb e => keepAll b o (p1.keep b o (fun hc => hb (.inl hc)) e), p1.new, p1.shape⟩, fun b hb hc => q.dis b hb (.inl hc), fun b hb => ?_⟩, ?_, nd⟩
  · exact same_trans p1.same (same_trans same q.p.same)
  · by_cases hv : b ∈ V ρ
    · exact .inl hv
    · cases e : s.heap.get? b with
      | none => exact .inr rfl
      | some o =>
        by_cases hL2 : b = env.locals
        · exact absurd (.inr (.inl hL2)) (q.dis b hb)
        · have := p1.keep b o (fun hc => hc.elim hL2 hv) e
          rw [fpN b hb] at this; cases this
  · refine hvv.mono (fun _ _ _ e => e) ?_
    rintro b ((h | h) | h)
    · exact .inl (.inl (.inl (.inl h)))
    · exact .inl (.inl (.inr h))
    · exact .inl (.inl (.inl (.inr h)))
end
section
variable {prog : Program} {w : World} {g : Heap} {n : Nat} {sc : Scope} {ρ ρ' : List Ent}
inductive FsSw : List (Str × Fld) → Str → Fld → Fld → List (Str × Fld) → Prop where
  | here {f : Str} {old new : Fld} {r : List (Str × Fld)} : FsSw ((f, old) :: r) f old new ((f, new) :: r)
  | there {e : Str × Fld} {f : Str} {old new : Fld} {r r' : List (Str × Fld)} : (f == e.1) = false → FsSw r f old new r' → FsSw (e :: r) f old new (e :: r')
theorem FsSw.lookup {fs fs' : List (Str × Fld)} {f : Str} {old new : Fld} (h : FsSw fs f old new fs') : fs.lookup f = some old := by
  induction h with
  | here => rw [List.lookup_cons]; simp
  | there hb _ ih => rw [List.lookup_cons, hb]; exact ih
theorem FsSw.fp {fs fs' : List (Str × Fld)} {f : Str} {old new : Fld} (h : FsSw fs f old new fs') (he : new.fp.Sublist old.fp) : (fs'.flatMap fun q => q.2.fp).Sublist (fs.flatMap fun q => q.2.fp) := by
  induction h with
  | here => exact he.append (List.Sublist.refl _)
  | there _ _ ih => exact (List.Sublist.refl _).append (ih he)
theorem FsSw.mem {fs fs' : List (Str × Fld)} {f : Str} {old new : Fld} (h : FsSw fs f old new fs') : (f, old) ∈ fs := by
  induction h with
  | here => exact .head _
  | there _ _ ih => exact .tail _ ih
theorem FsIs.sw {P : Params} {R R' : Fld → Value → Prop} {fs fs' : List (Str × Fld)} {f : Str} {old new : Fld} (h : FsSw fs f old new fs') (hn : (fs.flatMap fun q => q.2.fp).Nodup) (hv : ∀ v, R old v → R' new v)
    (ho : ∀ q ∈ fs, (∀ b ∈ q.2.fp, b ∉ old.fp) → ∀ v, R q.2 v → R' q.2 v) : ∀ {ds : List DictEntry}, FsIs P R fs ds → FsIs P R' fs' ds := by
  induction h with
  | @here f old new r =>
    intro ds x
    obtain ⟨d, q, t, rfl, h1, h2, h3, x⟩ := x
    have hn' : (old.fp ++ r.flatMap fun q => q.2.fp).Nodup := hn
    obtain ⟨n1, n2, n3⟩ := List.nodup_append.mp hn'
    exact ⟨d, q, t, rfl, h1, h2, hv _ h3, x.mono fun e he v z => ho e (.tail _ he) (fun b hb hc => n3 b hc b (List.mem_flatMap.mpr ⟨e, he, hb⟩) rfl) v z⟩
  | @there e f old new r r' hb hs ih =>
    intro ds x
    obtain ⟨d, q, t, rfl, h1, h2, h3, x⟩ := x
    have hn' : (e.2.fp ++ r.flatMap fun q => q.2.fp).Nodup := hn
    obtain ⟨n1, n2, n3⟩ := List.nodup_append.mp hn'
    exact ⟨d, q, t, rfl, h1, h2, ho e (.head _) (fun b hb hc => n3 b hb b (List.mem_flatMap.mpr ⟨(f, old), hs.mem, hc⟩) rfl) _ h3, ih n2 hv (fun q hq => ho q (.tail _ hq)) x⟩
theorem slot_nodup {P : Params} {env : Env} {H : Addr → Prop} {h : Heap} {x : Str} {sl : Slot} (sr : SR P g env H ρ h) (hx : At ρ x sl) : sl.fp.Nodup := by
  obtain ⟨l, hm⟩ := hx.mem
  have hnV := (List.nodup_cons.mp sr.nd).2
  have : ∀ {r : List Ent}, (V r).Nodup → (⟨x, l, sl⟩ : Ent) ∈ r → sl.fp.Nodup := by
    intro r
    induction r with
    | nil => intro _ h; cases h
    | cons e r ih =>
      intro hn hm
      rw [V_cons] at hn
      obtain ⟨n1, n2, _⟩ := List.nodup_append.mp hn
      rcases List.mem_cons.mp hm with rfl | hm
      · exact (List.nodup_append.mp (show (l.toList ++ sl.fp).Nodup from n1)).2.1
      · exact ih n2 hm
  exact this hnV hm
theorem fld_change {env : Env} {H : Addr → Prop} {s : Shared} {x f : Str} {a dx C l : Addr} {fs fs' : List (Str × Fld)} {old new : Fld} {h' : Heap} {tk : Nat} (sr : SR w.params g env H ρ s.heap) (sw : Sw ρ x (.obj a dx C fs) (.obj a dx C fs') ρ') (fw : FsSw fs f old new fs')
    (ho : old.fp = [l]) (hn : new.fp = [l]) (hs : Heap.SameBut l s.heap h') (hl : (h'.get? l).isSome = true) (hv : (∀ b, Tt env H ρ' b → Tt env H ρ b) → ∀ v, FldIs s.heap (Tt env H ρ) old v → FldIs h' (Tt env H ρ') new v) : Post0 w.params g env H ρ s ρ' { s with heap := h', toks := tk } := by
  have hx := sw.at
  have fpnd := slot_nodup sr hx
  obtain ⟨l0, hm0⟩ := hx.mem
  have fpV : ∀ b ∈ (Slot.obj a dx C fs).fp, b ∈ V ρ := fun b hb => sl_sub hm0 hb
  have hlfp : l ∈ fs.flatMap (fun q => q.2.fp) := List.mem_flatMap.mpr ⟨(f, old), fw.mem, by rw [ho]; exact .head _⟩
  have hlV : l ∈ V ρ := fpV l (.tail _ (.tail _ hlfp))
  have hsub : ((Slot.obj a dx C fs').fp).Sublist (Slot.obj a dx C fs).fp := ((fw.fp (by rw [ho, hn]; exact List.Sublist.refl _)).cons₂ dx).cons₂ a
  have n1 := List.nodup_cons.mp fpnd
  have n2 := List.nodup_cons.mp n1.2
  have hal : a ≠ l := fun e => n1.1 (e ▸ .tail _ hlfp)
  have hdl : dx ≠ l := fun e => n2.1 (e ▸ hlfp)
  have hsubT : ∀ b, Tt env H ρ' b → Tt env H ρ b := fun b hb => hb.imp id fun h => h.imp id fun h => (sw.put.V b h).elim id fun h => fpV b (hsub.subset h)
  refine ⟨sr.swap sw (fun b hb => hsub.subset hb) (fpnd.sublist hsub) (fun b o hb e => hs.extBut b o (fun hc => hb (hc ▸ .tail _ (.tail _ hlfp))) e) (fun b hb => ?_) fun o z => ?_, ⟨_, _, rfl⟩, fun b o hb e => hs.extBut b o (fun hc => hb (.inr (hc ▸ hlV))) e, fun b hb => .inl ((sw.put.V b hb).elim id fun h => fpV b (hsub.subset h)), sw.put.shape⟩
  · by_cases hbl : b = l
    · rw [hbl]; exact hl
    · obtain ⟨o, ho⟩ := Option.isSome_iff_exists.mp (sr.dom b (.inr (.inr (fpV b hb)))).1
      show (h'.get? b).isSome = true
      rw [hs.extBut b o hbl ho]; rfl
  · obtain ⟨z1, z2, ds, m, z3, z4⟩ := z
    refine ⟨z1, hs.extBut a _ hal z2, ds, m, hs.extBut dx _ hdl z3, FsIs.sw fw n2.2 (hv hsubT) (fun q hq hoff v zz => zz.mono (fun b o hb e => hs.extBut b o (fun hc => ?_) e) fun b hb => .inl (hsubT b hb)) z4⟩
    rcases hb with hb | hb
    · exact hb (.inr (.inr (hc ▸ hlV)))
    · exact hoff b hb (by rw [ho, hc]; exact .head _)
theorem fld_freeze {env : Env} {H : Addr → Prop} {h : Heap} {x f : Str} {a dx C l : Addr} {fs fs' : List (Str × Fld)} {xs : List PV} (sr : SR w.params g env H ρ h) (sw : Sw ρ x (.obj a dx C fs) (.obj a dx C fs') ρ') (fw : FsSw fs f (.lst l xs) (.val (.list xs)) fs') : SR w.params g env H ρ' h := by
  have hx := sw.at
  have fpnd := slot_nodup sr hx
  obtain ⟨l0, hm0⟩ := hx.mem
  have fpV : ∀ b ∈ (Slot.obj a dx C fs).fp, b ∈ V ρ := fun b hb => sl_sub hm0 hb
  have hsub : ((Slot.obj a dx C fs').fp).Sublist (Slot.obj a dx C fs).fp := ((fw.fp (List.nil_sublist _)).cons₂ dx).cons₂ a
  have n1 := List.nodup_cons.mp fpnd
  have n2 := List.nodup_cons.mp n1.2
  have hsubT : ∀ b, Tt env H ρ' b → Tt env H ρ b := fun b hb => hb.imp id fun h => h.imp id fun h => (sw.put.V b h).elim id fun h => fpV b (hsub.subset h)
  have hlfp : l ∈ fs.flatMap (fun q => q.2.fp) := List.mem_flatMap.mpr ⟨(f, .lst l xs), fw.mem, .head _⟩
  have hlV : l ∈ V ρ := fpV l (.tail _ (.tail _ hlfp))
  have hloff : ¬ Tt env H ρ' l := by
    rintro (hc | hc | hc)
    · exact sr.sep l (.tail _ hlV) hc
    · exact (List.nodup_cons.mp sr.nd).1 (hc ▸ hlV)
    · -- among the new frame's addresses l does not stand
      obtain ⟨pre, loc, post, e1, e2⟩ := sw.split
      have hnV := (List.nodup_cons.mp sr.nd).2
      rw [e1, V_app, V_cons] at hnV
      rw [e2, V_app, V_cons] at hc
      obtain ⟨m1, m2, m3⟩ := List.nodup_append.mp hnV
      obtain ⟨m4, m5, m6⟩ := List.nodup_append.mp m2
      have m7 := List.nodup_append.mp (show (loc.toList ++ (Slot.obj a dx C fs).fp).Nodup from m4)
      have lfp : l ∈ (Slot.obj a dx C fs).fp := .tail _ (.tail _ hlfp)
      rcases List.mem_append.mp hc with hc | hc
      · exact m3 l hc l (List.mem_append.mpr (.inl (List.mem_append.mpr (.inr lfp)))) rfl
      · rcases List.mem_append.mp hc with hc | hc
        · rcases List.mem_append.mp (show l ∈ loc.toList ++ (Slot.obj a dx C fs').fp from hc) with hc | hc
          · exact m7.2.2 l hc l lfp rfl
          · rcases List.mem_cons.mp hc with hc | hc
            · exact n1.1 (hc ▸ .tail _ hlfp)
            · rcases List.mem_cons.mp hc with hc | hc
              · exact n2.1 (hc ▸ hlfp)
              · have nf := n2.2
                have key : ∀ {fs fs' : List (Str × Fld)} {f : Str}, FsSw fs f (.lst l xs) (.val (.list xs)) fs' → (fs.flatMap fun q => q.2.fp).Nodup → l ∉ fs'.flatMap fun q => q.2.fp := by
                  intro fs fs' f fw
                  generalize hold : Fld.lst l xs = old at fw
                  generalize hnew : Fld.val (.list xs) = new at fw
                  induction fw with
                  | @here f old new r =>
                    subst hold hnew
                    intro hn hm
                    have hn' : ([l] ++ r.flatMap fun q => q.2.fp).Nodup := hn
                    exact (List.nodup_append.mp hn').2.2 l (.head _) l hm rfl
                  | @there e f old new r r' hb hs ih =>
                    intro hn hm
                    have hn' : (e.2.fp ++ r.flatMap fun q => q.2.fp).Nodup := hn
                    obtain ⟨k1, k2, k3⟩ := List.nodup_append.mp hn'
                    rcases List.mem_append.mp (show l ∈ e.2.fp ++ r'.flatMap (fun q => q.2.fp) from hm) with h | h
                    · exact k3 l h l (List.mem_flatMap.mpr ⟨(f, old), hs.mem, by rw [← hold]; exact .head _⟩) rfl
                    · exact ih hold hnew k2 h
                exact key fw nf hc
        · exact m6 l (List.mem_append.mpr (.inr lfp)) l hc rfl
  refine sr.swap sw (fun b hb => hsub.subset hb) (fpnd.sublist hsub) (fun b o hb e => e) (fun b hb => (sr.dom b (.inr (.inr (fpV b hb)))).1) fun o z => ?_
  obtain ⟨z1, z2, ds, m, z3, z4⟩ := z
  refine ⟨z1, z2, ds, m, z3, FsIs.sw fw n2.2 (fun v zz => ?_) (fun q hq hoff v zz => zz.mono (fun b o hb e => e) fun b hb => .inl (hsubT b hb)) z4⟩
  obtain ⟨rfl, us, u1, u2⟩ := zz
  exact ⟨l, us, rfl, hloff, u1, u2.mono (fun _ _ _ e => e) fun b hb => .inl (hsubT b hb)⟩
theorem ws_frzf {x f : Str} {a dx C l : Addr} {fs fs' : List (Str × Fld)} {xs : List PV} {body : List Stmt} {K : Fl → List Ent → Prop} (sw : Sw ρ x (.obj a dx C fs) (.obj a dx C fs') ρ') (fw : FsSw fs f (.lst l xs) (.val (.list xs)) fs') (h : WS prog w g n sc body ρ' K) : WS prog w g n sc body ρ K := by
  intro env A H s hsc ok hA sr
  have sr' := fld_freeze sr sw fw
  have p0 : Post0 w.params g env H ρ s ρ' s := ⟨sr', ⟨_, _, rfl⟩, fun _ _ _ e => e, fun b hb => .inl ((sw.put.V b hb).elim id fun h => by
    obtain ⟨l0, hm0⟩ := sw.at.mem
    exact sl_sub hm0 ((((fw.fp (List.nil_sublist _)).cons₂ dx).cons₂ a).subset h)), sw.put.shape⟩
  refine wpAny_mono (h env A H s hsc ok hA sr') (fun f s2 h2 => ?_) fun _ _ x => x
  obtain ⟨fl, ρ2, k2, p2, r2⟩ := h2
  exact ⟨fl, ρ2, k2, p0.trans p2, r2⟩
theorem wx_fset {K : Frag} {mg mb : Str → Option Value} (G : GG K g mg mb) {x f : Str} {e i : Expr} {np ap p' pos : Pos} {Kk : Fl → List Ent → Prop}
    (h : WE prog w g n sc e ρ fun d ρ₁ => ∃ a dx C fs l xs, FldOk K C f ∧ At ρ₁ x (.obj a dx C fs) ∧ fs.lookup f = some (.lst l xs) ∧ WE prog w g n sc i ρ₁ fun d' ρ₂ => ∃ j fs₂ ys fs' ρ₃, d' = .int j ∧ 0 ≤ j ∧ j < (ys.length : Int) ∧ ys.length ≤ 2 ^ 20 ∧
      Sw ρ₂ x (.obj a dx C fs₂) (.obj a dx C fs') ρ₃ ∧ FsSw fs₂ f (.lst l ys) (.lst l (ys.set j.toNat d)) fs' ∧ Kk .next ρ₃)
    (hc : noComp e = true := by rfl) (hd : (x == ("__debug__" : Str)) = false := by decide) (hn : (x == ("__classdict__" : Str)) = false := by decide) :
    WX prog w g n sc (.Assign [.Subscript (.Attribute (.Name x np) f ap) i p'] e pos) ρ Kk := by
  intro env A H s hsc ok hA sr
  refine PySem.wpAny_Assign_Subscript (wpAny_mono (h env A H s hsc ok hA sr) (fun v s1 h1 => ?_) fun _ _ x => x) (swaps_none hc ..)
  obtain ⟨d, ρ1, ⟨a, dx, C, fs, l, xs, k, hx, hf, k1⟩, p1, r1⟩ := h1
  refine Attribute_name (load_owned ok p1.sr hx rfl rfl (get_field G k p1.sr hx hf fun u hu => ?_) hd hn)
  obtain ⟨rfl, _⟩ := hu
  have p1' := p1.grow (Keeps.tok s1 (s1.toks + 1))
  refine wpAny_mono (k1 env A H _ hsc ok hA p1'.sr) (fun v2 s2 h2 => ?_) fun _ _ x => x
  obtain ⟨d2, ρ2, ⟨j, fs2, ys, fs', ρ3, rfl, j0, j1, hlen, sw, fw, k⟩, p2, t, rfl⟩ := h2
  obtain ⟨g1, ds, m, g2, g3⟩ := slot_inst p2.sr sw.at
  rcases g3.getL (x := f) with ⟨q, _⟩ | ⟨f', v', q1, _, q3⟩
  · rw [fw.lookup] at q; cases q
  · rw [fw.lookup] at q1; cases q1
    obtain ⟨rfl, us, hl1, hr1⟩ := q3
    have hul := hr1.length
    refine setItem_plain hl1 j0 (by omega) (by simp; omega) fun h' hl' hs' => ⟨.next, ρ3, k, (p1'.trans p2).trans (fld_change (tk := s2.toks) p2.sr sw fw rfl rfl hs' (by obtain ⟨nn, e⟩ := hl'; rw [e]; rfl) fun hT v z => ?_), rfl⟩
    obtain ⟨l0, hm0⟩ := sw.at.mem
    have hlV : l ∈ V ρ2 := sl_sub hm0 (.tail _ (.tail _ (List.mem_flatMap.mpr ⟨_, fw.mem, .head _⟩)))
    exact ⟨z.1, us.set j.toNat _, by simpa using hl', (hr1.set (p2.rd (Rd.keeps r1 (Keeps.tok s1 (s1.toks + 1))))).mono (fun b o hb e => hs'.extBut b o (fun hc => hb (.inr (.inr (hc ▸ hlV)))) e) fun b hb => .inl (hT b hb)⟩
theorem wx_faug {K : Frag} {mg mb : Str → Option Value} (G : GG K g mg mb) {x f : Str} {op : Operator} {e i : Expr} {np ap p' pos : Pos} {a dx C l : Addr} {fs : List (Str × Fld)} {xs : List PV} {Kk : Fl → List Ent → Prop} (k : FldOk K C f) (hx : At ρ x (.obj a dx C fs)) (hf : fs.lookup f = some (.lst l xs))
    (h : WE prog w g n sc i ρ fun d' ρ₁ => ∃ j fs₁ ys d₁, d' = .int j ∧ At ρ₁ x (.obj a dx C fs₁) ∧ fs₁.lookup f = some (.lst l ys) ∧ 0 ≤ j ∧ j < 2 ^ 63 ∧ ys[j.toNat]? = some d₁ ∧ WE prog w g n sc e ρ₁ fun d₂ ρ₂ => PO2 prog w g n (inplaceOp op) d₁ d₂ fun d =>
      ∃ fs₂ zs fs' ρ₃, zs.length ≤ 2 ^ 20 ∧ j < (zs.length : Int) ∧ Sw ρ₂ x (.obj a dx C fs₂) (.obj a dx C fs') ρ₃ ∧ FsSw fs₂ f (.lst l zs) (.lst l (zs.set j.toNat d)) fs' ∧ Kk .next ρ₃)
    (hi : ∀ ov iv new, augStore i ov iv new = (do holding [new, ov, iv] (setItem ov iv new); release [new, ov, iv] []; pure .next) := by intros; rfl)
    (hd : (x == ("__debug__" : Str)) = false := by decide) (hn : (x == ("__classdict__" : Str)) = false := by decide) :
    WX prog w g n sc (.AugAssign (.Subscript (.Attribute (.Name x np) f ap) i p') op e pos) ρ Kk := by
  intro env A H s hsc ok hA sr
  refine PySem.wpAny_AugAssign_SubscriptAny (Attribute_name (load_owned ok sr hx rfl rfl (get_field G k sr hx hf fun u hu => ?_) hd hn)) hi
  obtain ⟨rfl, _⟩ := hu
  have p0 : Post0 w.params g env H ρ s ρ { s with toks := s.toks + 1 } := (SR.post sr).grow (Keeps.tok s _)
  refine wpAny_mono (h env A H _ hsc ok hA p0.sr) (fun v1 s1 h1 => ?_) fun _ _ x => x
  obtain ⟨d', ρ1, ⟨j, fs1, ys, d1, rfl, hx1, hf1, j0, j1, hj, k1⟩, p1, t, rfl⟩ := h1
  obtain ⟨g1, ds, m, g2, g3⟩ := slot_inst p1.sr hx1
  rcases g3.getL (x := f) with ⟨q, _⟩ | ⟨f', v', q1, _, q3⟩
  · rw [hf1] at q; cases q
  · rw [hf1] at q1; cases q1
    obtain ⟨rfl, us, hl1, hr1⟩ := q3
    obtain ⟨u, hu, ru⟩ := hr1.get hj
    refine wpAny_getItem_list hl1.isList j0 j1 (by simpa using hu) ?_
    have pp := p0.trans p1
    refine wpAny_mono (k1 env A H s1 hsc ok hA p1.sr) (fun v2 s2 h2 => ?_) fun _ _ x => x
    obtain ⟨d2, ρ2, k2, p2, r2⟩ := h2
    refine wpAny_mono (k2 A _ s2 _ _ hA p2.sr.hr (p2.rd ru) r2) (fun v3 s3 h3 => ?_) fun _ _ x => x
    obtain ⟨d3, ⟨fs2, zs, fs', ρ3, hzl, hjz, sw, fw, k3⟩, r3, ks⟩ := h3
    have p3 := p2.grow ks
    obtain ⟨_, ds2, m2, _, g4⟩ := slot_inst p3.sr sw.at
    rcases g4.getL (x := f) with ⟨q, _⟩ | ⟨f', v', q1, _, q3⟩
    · rw [fw.lookup] at q; cases q
    · rw [fw.lookup] at q1; cases q1
      obtain ⟨rfl, us2, hl2, hr2⟩ := q3
      have hul := hr2.length
      refine setItem_plain hl2 j0 (by omega) (by simp; omega) fun h' hl' hs' => ⟨.next, ρ3, k3, (pp.trans p3).trans (fld_change (tk := s3.toks) p3.sr sw fw rfl rfl hs' (by obtain ⟨nn, e⟩ := hl'; rw [e]; rfl) fun hT v z => ?_), rfl⟩
      obtain ⟨l0, hm0⟩ := sw.at.mem
      have hlV : l ∈ V ρ2 := sl_sub hm0 (.tail _ (.tail _ (List.mem_flatMap.mpr ⟨_, fw.mem, .head _⟩)))
      exact ⟨z.1, us2.set j.toNat _, by simpa using hl', (hr2.set r3).mono (fun b o hb e => hs'.extBut b o (fun hc => hb (.inr (.inr (hc ▸ hlV)))) e) fun b hb => .inl (hT b hb)⟩
theorem set_field_new {K : Frag} {mg mb : Str → Option Value} (G : GG K g mg mb) {A : Around} {env : Env} {H : Addr → Prop} {s : Shared} {x f : Str} {a dx C l : Addr} {fs : List (Str × Fld)} {fd : Fld} (k : FldOk K C f) (sr : SR w.params g env (fun b => H b ∨ b ∈ [l]) ρ s.heap) (hlH : ¬ H l)
    (sw : Sw ρ x (.obj a dx C fs) (.obj a dx C (fs ++ [(f, fd)])) ρ') (hno : fs.lookup f = none) (hfd : fd.fp = [l]) (hz : fs.length ≤ 900) (hv : FldIs s.heap (Tt env (fun b => H b ∨ b ∈ [l]) ρ) fd (.ref l)) :
    wpAny (model prog w) A (setAttr (.ref a) f (.ref l)) (fun _ s' => SR w.params g env H ρ' s'.heap ∧ (∃ h' tk, s' = { s with heap := h', toks := tk }) ∧ (∀ b o, ¬ (b = env.locals ∨ b ∈ V ρ) → s.heap.get? b = some o → s'.heap.get? b = some o) ∧ (∀ b ∈ V ρ', b ∈ V ρ ∨ b = l) ∧ sig ρ' = sig ρ) noE s := by
  have hx := sw.at
  obtain ⟨h1, ds, m, h2, h3⟩ := slot_inst sr hx
  have fpnd := slot_nodup sr hx
  obtain ⟨l0, hm0⟩ := hx.mem
  have fpV : ∀ b ∈ (Slot.obj a dx C fs).fp, b ∈ V ρ := fun b hb => sl_sub hm0 hb
  have hlV : l ∉ V ρ := fun h => sr.sep l (.tail _ h) (.inr (.head _))
  have eput : putF f fd fs = fs ++ [(f, fd)] := putF_new f fd fs hno
  have efp : (Slot.obj a dx C (fs ++ [(f, fd)])).fp = (Slot.obj a dx C fs).fp ++ [l] := by simp [Slot.fp, hfd]
  have n1 := List.nodup_cons.mp fpnd
  have n2 := List.nodup_cons.mp n1.2
  have had : a ≠ dx := fun e => n1.1 (e ▸ .head _)
  have hdx : dx ∈ V ρ := fpV dx (.tail _ (.head _))
  have hldx : l ≠ dx := fun e => hlV (e ▸ hdx)
  refine set_plain (G.kin.keeps sr.keep) (inst_at h1 h2) k.hs (osa_my (s := { s with toks := s.toks + 1 }) (G.kin.keeps sr.keep) h1 h2 k ?_ (by rw [h3.length]; exact hz) fun h' hs' hd' => ?_)
  · rcases h3.getL (x := f) with ⟨_, q⟩ | ⟨_, _, _, q, _⟩ <;> rw [q] <;> rfl
  · have hin : ∀ b ∈ (Slot.obj a dx C (fs ++ [(f, fd)])).fp, b ∈ (Slot.obj a dx C fs).fp ∨ b ∈ [l] := fun b hb => by rw [efp] at hb; exact List.mem_append.mp hb
    have hsubT : ∀ b, Tt env H ρ' b → Tt env (fun b => H b ∨ b ∈ [l]) ρ b := fun b hb => by
      rcases hb with h | h | h
      · exact .inl (.inl h)
      · exact .inr (.inl h)
      · rcases sw.put.V b h with h | h
        · exact .inr (.inr h)
        · rcases hin b h with h | h
          · exact .inr (.inr (fpV b h))
          · exact .inl (.inr h)
    have mono : ∀ {f : Fld} {v : Value}, (∀ b ∈ f.fp, b ≠ dx) → FldIs s.heap (Tt env (fun b => H b ∨ b ∈ [l]) ρ) f v → FldIs h' (Tt env H ρ') f v := fun {f v} hf z => z.mono (fun b o hb e => hs'.extBut b o (fun hc => by
      rcases hb with hb | hb
      · exact hb (.inr (.inr (hc ▸ hdx)))
      · exact hf b hb hc) e) fun b hb => .inl (hsubT b hb)
    have fdx : ∀ q ∈ fs, ∀ b ∈ q.2.fp, b ≠ dx := fun q hq b hb e => n2.1 (e ▸ List.mem_flatMap.mpr ⟨q, hq, hb⟩)
    refine ⟨sr.swapN sw hin (fun b hb => by rw [List.mem_singleton.mp hb]; exact hlH) (by rw [efp]; exact List.nodup_append.mpr ⟨fpnd, by simp, fun b hb c hc e => hlV (by rw [← List.mem_singleton.mp hc, ← e]; exact fpV b hb)⟩) (fun b o hb e => hs'.extBut b o (fun hc => hb (hc ▸ .tail _ (.head _))) e) (fun b hb => ?_) fun o ho => ?_, ⟨_, _, rfl⟩, fun b o hb e => hs'.extBut b o (fun hc => hb (.inr (hc ▸ hdx))) e, fun b hb => ?_, sw.put.shape⟩
    · by_cases hbd : b = dx
      · rw [hbd, hd']; rfl
      · obtain ⟨o, ho⟩ := Option.isSome_iff_exists.mp (sr.dom b (.inr (.inr (fpV b hb)))).1
        rw [hs'.extBut b o hbd ho]; rfl
    · refine ⟨ho.1, hs'.extBut a _ had h1, _, _, hd', ?_⟩
      have h3' : FsIs w.params (FldIs h' (Tt env H ρ')) fs ds := h3.mono fun q hq v z => mono (fdx q hq) z
      have := FsIs.put (P := w.params) (x := f) (t := s.toks + 1) (mono (f := fd) (fun b hb => by rw [hfd] at hb; rw [List.mem_singleton.mp hb]; exact hldx) hv) h3'
      rw [eput] at this
      exact this
    · rcases sw.put.V b hb with h | h
      · exact .inl h
      · rcases hin b h with h | h
        · exact .inl (fpV b h)
        · exact .inr (List.mem_singleton.mp h)
theorem wx_frep {K : Frag} {mg mb : Str → Option Value} (G : GG K g mg mb) {x f : Str} {c e : Expr} {np ap p' p'' pos : Pos} {a dx C : Addr} {fs : List (Str × Fld)} {Kk : Fl → List Ent → Prop} (k : FldOk K C f) (hno : fs.lookup f = none) (hz : fs.length ≤ 900)
    (h : WE prog w g n sc c ρ fun d ρ₁ => WE prog w g n sc e ρ₁ fun d' ρ₂ => OfInt d' fun i => 0 ≤ i ∧ i ≤ 2 ^ 20 ∧ ∀ l, SwK ρ₂ x (.obj a dx C fs) (.obj a dx C (fs ++ [(f, .lst l (List.replicate i.toNat d))])) fun ρ₃ => Kk .next ρ₃) (hp : plainE c = true := by rfl)
    (hd : (x == ("__debug__" : Str)) = false := by decide) (hn : (x == ("__classdict__" : Str)) = false := by decide) :
    WX prog w g n sc (.Assign [.Attribute (.Name x np) f ap] (.BinOp (.List [c] p') .Mult e p'') pos) ρ Kk := by
  intro env A H s hsc ok hA sr
  refine plainObj_wpAny_Assign_Attribute (rep_any (R := fun d i ρ₂ => ∀ l, SwK ρ₂ x (.obj a dx C fs) (.obj a dx C (fs ++ [(f, .lst l (List.replicate i.toNat d))])) fun ρ₃ => Kk .next ρ₃) hp h hsc ok hA sr fun d i ρ2 s2 vs k2 p2 r2 => ?_) (swaps_none rfl ..)
  obtain ⟨ρ3, sw, k3⟩ := k2 s2.heap.objs.size
  have srp := p2.sr.pushed { cls := .type "list", data := .seq vs.toArray } rfl
  refine load_owned ok srp sw.at rfl rfl (wpAny_mono (set_field_new G k srp (fun hc => p2.sr.off (.inl hc)) sw hno rfl hz ⟨rfl, vs, ⟨_, Heap.get?_push_size _ rfl⟩, r2.mono (fun b o _ e => Heap.get?_push_of_some _ e) ?_⟩) (fun _ s3 q3 => ?_) noE_to) hd hn
  · rintro b ((h | h) | h)
    · exact .inl (.inl h)
    · rw [List.mem_singleton.mp h]; exact .inr (get_size_none _)
    · exact .inl (.inr h)
  · obtain ⟨q1, ⟨h3, t3, e3⟩, q4, q5, q6⟩ := q3
    refine ⟨.next, ρ3, k3, p2.trans ⟨q1, ⟨h3, t3, by rw [e3]⟩, fun b o hb e => q4 b o hb (Heap.get?_push_of_some _ e), fun b hb => (q5 b hb).imp id fun h => by rw [h]; exact get_size_none _, q6⟩, rfl⟩
end
section
variable {prog : Program} {w : World} {g : Heap} {n : Nat} {sc : Scope} {ρ ρ' : List Ent}
noncomputable abbrev pints (ns : List Int) : List PV := ns.map PV.int
theorem ints_of {h : Heap} {T : Addr → Prop} : ∀ {ns : List Int} {vs : List Value}, RdL h T (pints ns) vs → IntsAre vs ns := by
  intro l0
  induction l0 with
  | nil => exact @fun vs x => by unfold pints RdL at x; subst x; exact .nil
  | cons i ns ih =>
    intro vs x
    obtain ⟨v, r, rfl, ⟨t, rfl⟩, x⟩ := x
    exact .cons i t (ih x)
theorem of_ints {h : Heap} {T : Addr → Prop} {ns : List Int} {vs : List Value} (x : IntsAre vs ns) : RdL h T (pints ns) vs := by
  induction x with
  | nil => exact rfl
  | cons i t r ih => exact ⟨_, _, rfl, ⟨t, rfl⟩, ih⟩
theorem pl_len {xs : List PV} {k : PV → Prop} (hl : xs.length ≤ 2 ^ 20) (h : k (.int xs.length)) : POL prog w g n (fun vs => call (.builtin "len") vs) [.list xs] k := by
  rintro A T s vs hA hT ⟨v, r, rfl, ⟨a, us, rfl, ha, hp, hr⟩, rfl⟩
  have hul := hr.length
  have e : us.toArray.size = xs.length := by simpa using hul
  refine call_len_list hp.isList (by rw [e]; omega) ?_
  rw [e]
  exact ⟨_, h, ⟨_, rfl⟩, Keeps.tok _ _⟩
theorem pl_int {i : Int} {k : PV → Prop} (h : k (.int i)) : POL prog w g n (fun vs => call (.type "int") vs) [.int i] k := by
  rintro A T s vs hA hT ⟨v, r, rfl, ⟨t, rfl⟩, rfl⟩
  exact call_int_int ⟨_, h, ⟨_, rfl⟩, Keeps.refl' _⟩
theorem pl_copy {xs : List PV} {k : PV → Prop} (hl : xs.length ≤ 2 ^ 20) (h : k (.list xs)) : POL prog w g n (fun vs => call (.type "list") vs) [.list xs] k := by
  rintro A T s vs hA hT ⟨v, r, rfl, ⟨a, us, rfl, ha, ⟨c, hp⟩, hr⟩, rfl⟩
  have hul := hr.length
  refine call_list_seq a (.inl rfl) hp rfl rfl (fun h' c' hk hD => ?_) (by simp [sizeLine]; omega)
  exact ⟨_, h, ⟨_, us, rfl, hT.off, ⟨c', hD⟩, hr.mono (fun b o _ e => hk b o e) fun b hb => .inl hb⟩, h', _, rfl, hk⟩
theorem preSum_is (ns : List Int) : ∀ j, j ≤ ns.length → preSum (fun i => ns.getD i 0) j = (ns.take j).sum := by
  intro l0
  induction l0 with
  | zero => exact @fun _ => by simp [preSum]
  | succ j ih =>
    intro h
    rw [preSum, ih (by omega), List.take_add_one]
    have : ns[j]? = some (ns.getD j 0) := by simp [List.getD, List.getElem?_eq_getElem (show j < ns.length by omega)]
    rw [this]; simp
theorem sum_bound {B : Int} (hB : 0 ≤ B) : ∀ {l : List Int}, (∀ x ∈ l, 0 ≤ x ∧ x ≤ B) → 0 ≤ l.sum ∧ l.sum ≤ l.length * B := by
  intro l0
  induction l0 with
  | nil => exact @fun _ => by simp
  | cons x l ih =>
    intro h
    have ⟨h1, h2⟩ := h x (.head _)
    have ⟨h3, h4⟩ := ih fun y hy => h y (List.mem_cons_of_mem _ hy)
    rw [List.sum_cons, List.length_cons]
    push_cast
    constructor
    · omega
    · rw [Int.add_mul]; omega
theorem list_walk {A : Around} {s : Shared} {l : Addr} {us : List Value} {E : Value → Shared → Prop} {Q : Value → Shared → Prop} (hh : A.handled = none) (hp : s.heap.PlainList l us.toArray)
    (h : Walks prog w A s.heap.objs.size [s.heap.objs.size, l] [s.heap.objs.size] us.toArray.size (fun i v => us.toArray[i]? = some v) (fun i h => h.IsListIter s.heap.objs.size l i ∧ h.IsList l us.toArray) →
      (s.heap.push { cls := .type "list_iterator", data := .fields #[.ref l, .int 0 0] }).IsListIter s.heap.objs.size l 0 ∧ (s.heap.push { cls := .type "list_iterator", data := .fields #[.ref l, .int 0 0] }).IsList l us.toArray → l < s.heap.objs.size →
      Q (.ref s.heap.objs.size) { s with heap := s.heap.push { cls := .type "list_iterator", data := .fields #[.ref l, .int 0 0] } }) : wpAny (model prog w) A (pyIter (.ref l)) Q E s := by
  obtain ⟨c, hl⟩ := hp
  have hlt : l < s.heap.objs.size := Heap.lt_size hl
  refine wpAny_pyIter_list (items := us.toArray) ⟨_, hl, rfl, c, rfl⟩ (h (Walks.list hh s.heap.objs.size l (Nat.ne_of_lt hlt) us.toArray) ⟨⟨_, Heap.get?_push_size _ rfl, rfl, rfl⟩, ⟨_, Heap.get?_push_of_some _ hl, rfl, c, rfl⟩⟩ hlt)
theorem pushed_keep {s : Shared} {o : Obj} {h' : Heap} (hk : ∀ b x, b ∉ [s.heap.objs.size] → (s.heap.push o).get? b = some x → h'.get? b = some x) : ∀ b x, s.heap.get? b = some x → h'.get? b = some x := fun b x e =>
  hk b x (fun hb => by rw [List.mem_singleton.mp hb, get_size_none] at e; cases e) (Heap.get?_push_of_some _ e)
theorem ints_val {us : List Value} {ns : List Int} (hi : IntsAre us ns) : ∀ (i : Nat) (v : Value), us.toArray[i]? = some v → ∃ t, v = .int (ns.getD i 0) t := by
  intro i v hv
  obtain ⟨m, t, rfl, hm⟩ := IntsAre.at hi i v (by simpa using hv)
  exact ⟨t, by rw [List.getD_eq_getElem?_getD, hm]; rfl⟩
theorem pl_sum {ns : List Int} {k : PV → Prop} (hl : ns.length ≤ 2 ^ 20) (hb : ∀ x ∈ ns, 0 ≤ x ∧ x ≤ 2 ^ 40) (h : k (.int ns.sum)) : POL prog w g n (fun vs => call (.builtin "sum") vs) [.list (pints ns)] k := by
  rintro A T s vs hA hT ⟨v, r, rfl, ⟨a, us, rfl, ha, hp, hr⟩, rfl⟩
  have hul : us.length = ns.length := by simpa using hr.length
  have hi := ints_of hr
  refine call_sum_walk (list_walk hA.1 hp fun W hst hlt => ⟨_, _, _, _, _, _, fun i => ns.getD i 0, rfl, W, hst, fun b hb => ?_, ints_val hi, fun j hj => ?_, fun h' tk t' hk => ?_⟩)
  · show b < (s.heap.push _).objs.size
    rw [Heap.size_push]
    rcases List.mem_cons.mp hb with rfl | hb
    · exact Nat.lt_succ_self _
    · rw [List.mem_singleton.mp hb]; exact Nat.lt_succ_of_lt hlt
  · have hj' : j < ns.length := by simpa [hul] using hj
    have e1 : ns.getD j 0 ∈ ns := by
      rw [List.getD_eq_getElem?_getD, List.getElem?_eq_getElem hj']; exact List.getElem_mem hj'
    have ⟨h1, h2⟩ := hb _ e1
    have ⟨h3, h4⟩ := sum_bound (B := 2 ^ 40) (by decide) (l := ns.take (j + 1)) fun x hx => hb x (List.mem_of_mem_take hx)
    rw [preSum_is ns (j + 1) hj']
    have h5 : ((ns.take (j + 1)).length : Int) ≤ 2 ^ 20 := by
      have : (ns.take (j + 1)).length ≤ ns.length := by simp; omega
      omega
    have h6 : ((ns.take (j + 1)).length : Int) * 2 ^ 40 ≤ 2 ^ 20 * 2 ^ 40 := Int.mul_le_mul_of_nonneg_right h5 (by decide)
    unfold InLong
    dsimp only
    refine ⟨⟨by omega, by omega⟩, by omega, ?_⟩
    have : (2 : Int) ^ 20 * 2 ^ 40 < 2 ^ 63 := by decide
    omega
  · refine ⟨_, h, ⟨t', ?_⟩, h', tk, rfl, pushed_keep hk⟩
    rw [show us.toArray.size = ns.length by simpa using hul, preSum_is ns _ (Nat.le_refl _), List.take_length]
theorem best_mem {ns : List Int} {i : Nat} (h : i < ns.length) : ns.getD i 0 ∈ ns := by
  rw [List.getD_eq_getElem?_getD, List.getElem?_eq_getElem h]; exact List.getElem_mem h
theorem mem_getD {ns : List Int} {x : Int} (h : x ∈ ns) : ∃ j, j < ns.length ∧ ns.getD j 0 = x := by
  obtain ⟨j, hj, e⟩ := List.mem_iff_getElem.mp h
  exact ⟨j, hj, by rw [List.getD_eq_getElem?_getD, List.getElem?_eq_getElem hj]; exact e⟩
theorem pl_max {ns : List Int} {k : PV → Prop} (h0 : ns ≠ []) (h : ∀ m, m ∈ ns → (∀ x ∈ ns, x ≤ m) → k (.int m)) : POL prog w g n (fun vs => call (.builtin "max") vs) [.list (pints ns)] k := by
  rintro A T s vs hA hT ⟨v, r, rfl, ⟨a, us, rfl, ha, hp, hr⟩, rfl⟩
  have hul : us.length = ns.length := by simpa using hr.length
  have hi := ints_of hr
  have hpos : 0 < ns.length := by cases ns with | nil => exact absurd rfl h0 | cons _ _ => exact Nat.succ_pos _
  have hsz : us.toArray.size = ns.length := by simpa using hul
  obtain ⟨b1, b2⟩ := argBest_gt (fun i => ns.getD i 0) (ns.length - 1)
  refine call_max_walk (list_walk hA.1 hp fun W hst hlt => ⟨_, _, _, _, _, _, _, rfl, W, hst, fun b hb => ?_, by omega, CmpOf.ints_gt (fun i => ns.getD i 0) (ints_val hi), fun v h' tk hv hk => ?_⟩)
  · show b < (s.heap.push _).objs.size
    rw [Heap.size_push]
    rcases List.mem_cons.mp hb with rfl | hb
    · exact Nat.lt_succ_self _
    · rw [List.mem_singleton.mp hb]; exact Nat.lt_succ_of_lt hlt
  · obtain ⟨t, rfl⟩ := ints_val hi _ _ hv
    rw [hsz]
    refine ⟨_, h _ (best_mem (by omega)) fun x hx => ?_, ⟨t, rfl⟩, h', tk, rfl, pushed_keep hk⟩
    obtain ⟨j, hj, rfl⟩ := mem_getD hx
    exact b2 j (by omega)
theorem pl_min {ns : List Int} {k : PV → Prop} (h0 : ns ≠ []) (h : ∀ m, m ∈ ns → (∀ x ∈ ns, m ≤ x) → k (.int m)) : POL prog w g n (fun vs => call (.builtin "min") vs) [.list (pints ns)] k := by
  rintro A T s vs hA hT ⟨v, r, rfl, ⟨a, us, rfl, ha, hp, hr⟩, rfl⟩
  have hul : us.length = ns.length := by simpa using hr.length
  have hi := ints_of hr
  have hpos : 0 < ns.length := by cases ns with | nil => exact absurd rfl h0 | cons _ _ => exact Nat.succ_pos _
  have hsz : us.toArray.size = ns.length := by simpa using hul
  obtain ⟨b1, b2⟩ := argBest_lt (fun i => ns.getD i 0) (ns.length - 1)
  refine call_min_walk (list_walk hA.1 hp fun W hst hlt => ⟨_, _, _, _, _, _, _, rfl, W, hst, fun b hb => ?_, by omega, CmpOf.ints_lt (fun i => ns.getD i 0) (ints_val hi), fun v h' tk hv hk => ?_⟩)
  · show b < (s.heap.push _).objs.size
    rw [Heap.size_push]
    rcases List.mem_cons.mp hb with rfl | hb
    · exact Nat.lt_succ_self _
    · rw [List.mem_singleton.mp hb]; exact Nat.lt_succ_of_lt hlt
  · obtain ⟨t, rfl⟩ := ints_val hi _ _ hv
    rw [hsz]
    refine ⟨_, h _ (best_mem (by omega)) fun x hx => ?_, ⟨t, rfl⟩, h', tk, rfl, pushed_keep hk⟩
    obtain ⟨j, hj, rfl⟩ := mem_getD hx
    exact b2 j (by omega)
end
section
variable {prog : Program} {w : World} {g : Heap} {n : Nat} {sc : Scope} {ρ ρ' : List Ent}
theorem pl_sorted {ns : List Int} {k : PV → Prop} (hl : ns.length < 64) (h : ∀ ns' : List Int, ns'.Perm ns → ns'.Pairwise (· ≤ ·) → k (.list (pints ns'))) : POL prog w g n (fun vs => call (.builtin "sorted") vs) [.list (pints ns)] k := by
  rintro A T s vs hA hT ⟨v, r, rfl, ⟨a, us, rfl, ha, hp, hr⟩, rfl⟩
  have hul : us.length = ns.length := by simpa using hr.length
  refine sorted_ints hp.isList (ints_of hr) (by omega) fun out ns' h1 h2 h3 => ?_
  obtain ⟨e, he⟩ := sortedAll_at s.heap us out
  have hk : ∀ b o, s.heap.get? b = some o → (sortedAll s.heap us out).get? b = some o := fun b o e => sortedAll_old e
  refine ⟨_, h ns' h2 h3, ⟨_, out.toList, rfl, fun hc => ?_, ⟨e, ?_⟩, of_ints h1⟩, ⟨_, s.toks, rfl, hk⟩⟩
  · have hz : s.heap.get? (s.heap.objs.size + 1) = none := by
      cases q : s.heap.get? (s.heap.objs.size + 1) with
      | none => rfl
      | some o => exact absurd (Heap.lt_size q) (Nat.not_lt.mpr (Nat.le_succ _))
    have := (hT.2 _ hc).1
    rw [hz] at this; cases this
  · rw [Array.toArray_toList]; exact he
noncomputable def kRun {α : Type} (lt : Nat → Nat → Bool) : KasT α → α
  | .ret a => a
  | .ask i j k => kRun lt (k (lt i j))
noncomputable def kOk {α : Type} (n : Nat) : KasT α → Bool
  | .ret _ => true
  | .ask i j k => decide (i < n) && decide (j < n) && kOk n (k true) && kOk n (k false)
theorem kas_det {α : Type} {cmp : Nat → Nat → (Bool → Shared → Prop) → Shared → Prop} {lt : Nat → Nat → Bool} {m : Nat} {s : Shared} {Q : α → Shared → Prop} (h : ∀ i j C, i < m → j < m → C (lt i j) s → cmp i j C s) : ∀ {t : KasT α}, kOk m t = true → Q (kRun lt t) s → t.kasWp cmp Q s := by
  intro t
  induction t with
  | ret a => exact fun _ q => q
  | ask i j k ih =>
    intro ho q
    replace ho : (decide (i < m) && decide (j < m) && kOk m (k true) && kOk m (k false)) = true := ho
    simp only [Bool.and_eq_true, decide_eq_true_eq] at ho
    obtain ⟨⟨⟨h1, h2⟩, h3⟩, h4⟩ := ho
    refine h i j _ h1 h2 (ih _ ?_ q)
    cases lt i j
    · exact h4
    · exact h3
noncomputable abbrev ptups (ks : List (Int × Int)) : List PV := ks.map fun q => .tup [.int q.1, .int q.2]
noncomputable def ltK (ks : List (Int × Int)) (i j : Nat) : Bool := if (ks.getD i (0, 0)).1 == (ks.getD j (0, 0)).1 then decide ((ks.getD i (0, 0)).2 < (ks.getD j (0, 0)).2) else decide ((ks.getD i (0, 0)).1 < (ks.getD j (0, 0)).1)
theorem tups_at {h : Heap} {T : Addr → Prop} : ∀ {ks : List (Int × Int)} {vs : List Value}, RdL h T (ptups ks) vs → ∀ i, i < ks.length → ∃ a c t u, vs.getD i Value.none = .ref a ∧ h.get? a = some { cls := .type "tuple", data := .seq #[.int (ks.getD i (0, 0)).1 t, .int (ks.getD i (0, 0)).2 u] c } := by
  intro l0
  induction l0 with
  | nil => exact @fun _ _ i hi => by cases hi
  | cons q ks ih =>
    intro vs x i hi
    obtain ⟨v, r, rfl, ⟨a, us, rfl, _, ⟨c, hp⟩, hu⟩, x⟩ := x
    obtain ⟨v1, r1, rfl, ⟨t, rfl⟩, v2, r2, rfl, ⟨u, rfl⟩, rfl⟩ := hu
    cases i with
    | zero => exact ⟨a, c, t, u, rfl, hp⟩
    | succ i =>
      obtain ⟨a', c', t', u', h1, h2⟩ := ih x i (by simpa using hi)
      exact ⟨a', c', t', u', by simpa using h1, by simpa using h2⟩
theorem tups_kat {h : Heap} {T : Addr → Prop} : ∀ {ks : List (Int × Int)} {vs : List Value}, RdL h T (ptups ks) vs → ∃ fs, KatTups h vs fs ∧ fs.length = ks.length ∧ ∀ f ∈ fs, ∃ i t, f = Value.int i t := by
  intro l0
  induction l0 with
  | nil => exact @fun vs x => by unfold ptups RdL at x; subst x; exact ⟨[], trivial, rfl, fun _ h => nomatch h⟩
  | cons q ks ih =>
    intro vs x
    obtain ⟨v, r, rfl, ⟨a, us, rfl, _, ⟨c, hp⟩, hu⟩, x⟩ := x
    obtain ⟨v1, r1, rfl, ⟨t, rfl⟩, v2, r2, rfl, ⟨u, rfl⟩, rfl⟩ := hu
    obtain ⟨fs, h1, h2, h3⟩ := ih x
    refine ⟨.int q.1 t :: fs, KatTups.cons hp rfl rfl rfl h1, by simp [h2], fun f hf => ?_⟩
    rcases List.mem_cons.mp hf with rfl | hf
    · exact ⟨_, _, rfl⟩
    · exact h3 f hf
theorem RdL.pick {h : Heap} {T : Addr → Prop} {ds : List PV} {vs : List Value} (x : RdL h T ds vs) : ∀ {p : List Nat}, (∀ i ∈ p, i < ds.length) → RdL h T (p.map fun i => ds.getD i PV.none) (p.map fun i => vs.getD i Value.none) := by
  intro l0
  induction l0 with
  | nil => exact @fun _ => rfl
  | cons i p ih =>
    intro hp
    have hi := hp i (.head _)
    obtain ⟨v, hv, rv⟩ := x.get (List.getElem?_eq_getElem hi)
    refine ⟨vs.getD i Value.none, _, rfl, ?_, ih fun j hj => hp j (.tail _ hj)⟩
    show Rd h T (ds.getD i PV.none) (vs.getD i Value.none)
    rw [List.getD_eq_getElem?_getD, List.getD_eq_getElem?_getD, hv, List.getElem?_eq_getElem hi]
    exact rv
theorem sort_tup {A : Around} {s : Shared} {a : Addr} {us : List Value} {ks : List (Int × Int)} {c : Nat} {T : Addr → Prop} {E : Value → Shared → Prop} {P : PySem.Fin → Shared → Prop} (ho : s.heap.get? a = some (seqObj "list" us.toArray c)) (hr : RdL s.heap T (ptups ks) us) (hnot : ∀ i, i < ks.length → us.getD i Value.none ≠ .ref a) (h2 : 2 ≤ ks.length) (h5 : ks.length < 64) (hok : kOk ks.length (kas_sort ks.length) = true)
    (h : ∀ h', (∀ b o, b ≠ a → s.heap.get? b = some o → h'.get? b = some o) → (∃ c', h'.get? a = some (seqObj "list" (((kRun (ltK ks) (kas_sort ks.length)).toList.map fun i => us.getD i Value.none).toArray) c')) → P (.done (.ret .none)) { s with heap := h' }) :
    wpAny (model prog w) A (Builtin.«list.sort» ⟨[.ref a], []⟩) P E s := by
  have hul : us.length = ks.length := by simpa using hr.length
  have ha : a < s.heap.objs.size := Heap.lt_size ho
  rw [list_sort_plain]
  refine wpAny_bind (listItems_at ho rfl ?_)
  refine wpAny_bind (listUpdate_at ho rfl ?_ (by rw [List.size_toArray, sizeLine_eq]; omega) (Nat.zero_le _))
  obtain ⟨e1, ho1⟩ : ∃ e1, (s.heap.update a (Obj.mapSeq fun _ => (#[] : Array Value))).get? a = some (seqObj "list" #[] e1) := ⟨_, get?_update_seq ho fun _ => #[]⟩
  refine wpAny_bind (seqEpoch_at ho1 rfl ?_)
  refine wpAny_bind (wpAny_newTuple ?_ (by show us.length ≤ _; rw [sizeLine_eq]; omega))
  refine wpAny_bind (wpAny_newList ?_ (Nat.zero_le _))
  refine wpAny_holding ?_
  have k1 : ∀ b o, b ≠ a → s.heap.get? b = some o → (s.heap.update a (Obj.mapSeq fun _ => (#[] : Array Value))).get? b = some o := fun b o hb e => (Heap.get?_update_ne _ _ _ _ hb).trans e
  generalize hH : (s.heap.update a (Obj.mapSeq fun _ => (#[] : Array Value))) = H1 at ho1 k1 ⊢
  show wpAny (model prog w) A _ P E { s with heap := (H1.push (seqObj "tuple" us.toArray 0)).push (seqObj "list" #[] 0) }
  dsimp only
  have hn2 : ¬ us.toArray.size < 2 := by rw [List.size_toArray]; omega
  rw [if_neg hn2, if_neg hn2]
  have k2 : ∀ b o, H1.get? b = some o → ((H1.push (seqObj "tuple" us.toArray 0)).push (seqObj "list" #[] 0)).get? b = some o := fun b o e => Heap.get?_push_of_some _ (Heap.get?_push_of_some _ e)
  generalize hH2 : (H1.push (seqObj "tuple" us.toArray 0)).push (seqObj "list" #[] 0) = H2 at k2 ⊢
  have hr2 : ∀ i, i < ks.length → ∃ x c t u, us.getD i Value.none = .ref x ∧ H2.get? x = some { cls := .type "tuple", data := .seq #[.int (ks.getD i (0, 0)).1 t, .int (ks.getD i (0, 0)).2 u] c } := fun i hi => by
    obtain ⟨x, c, t, u, e1, e2⟩ := tups_at hr i hi
    exact ⟨x, c, t, u, e1, k2 _ _ (k1 _ _ (fun hc => hnot i hi (by rw [e1, hc])) e2)⟩
  have hkat : ∃ fs, KatTups H2 us fs ∧ fs.length = ks.length ∧ ∀ f ∈ fs, ∃ i t, f = Value.int i t := by
    obtain ⟨fs, q1, q2, q3⟩ := tups_kat hr
    refine ⟨fs, ?_, q2, q3⟩
    have : ∀ (us fs : List Value), (∀ i, i < us.length → us.getD i Value.none ≠ .ref a) → KatTups s.heap us fs → KatTups H2 us fs := by
      intro us
      induction us with
      | nil => intro fs _ t; cases fs <;> exact t
      | cons u us ih =>
        intro fs hne t
        cases fs with
        | nil => exact t
        | cons f fs =>
          obtain ⟨⟨x, o, xs, c, rfl, b1, b2⟩, t⟩ := t
          exact ⟨⟨x, o, xs, c, rfl, k2 _ _ (k1 _ _ (fun hc => hne 0 (by simp) (by rw [hc]; rfl)) b1), b2⟩, ih fs (fun i hi => by have := hne (i + 1) (by simpa using hi); simpa using this) t⟩
    exact this us fs (fun i hi => hnot i (by omega)) q1
  obtain ⟨fs, f1, f2, f3⟩ := hkat
  refine wpAny_bind (kat_kind (s := { s with heap := H2 }) f1 (by omega) (T := .type "int") (fun v hv => ?_) (by decide) ?_)
  · obtain ⟨i, t, rfl⟩ := f3 v hv
    exact Looks.of_pure rfl
  have hb : (Value.type "int" != Value.type "tuple") = true := by decide
  rw [hb]
  refine wpAny_bind (wpAny_mono (kat_run (s := { s with heap := H2 }) (Q := fun st' s' => s' = { s with heap := H2 } ∧ failedOf st' = none ∧ arrOf st' = (kRun (ltK ks) (kas_sort ks.length)).map (kas_item (us.toArray.zip us.toArray)) ∧ (kRun (ltK ks) (kas_sort ks.length)).size = us.length)
    (G := fun p s' => p = kRun (ltK ks) (kas_sort ks.length) ∧ s' = { s with heap := H2 }) rfl (by omega) (by omega) (fun p st' s' a1 a2 a3 a4 => ⟨a4.2, a3, by rw [a2, a4.1], by rw [← a4.1]; exact a1⟩) ?_) ?_ fun _ _ e => e)
  · rw [hul]
    refine kas_det (lt := ltK ks) (fun i j C hi hj hC => ?_) hok ⟨rfl, rfl⟩
    obtain ⟨x, c1, t1, u1, e1, g1⟩ := hr2 i hi
    obtain ⟨y, c2, t2, u2, e2, g2⟩ := hr2 j hj
    unfold kas_ask
    rw [e1, e2]
    refine kat_lt (s := { s with heap := H2 }) g1 rfl g2 rfl (kat_cons (wpAny_eqBool_int (kat_go (fun hh => kat_yes (kat_cons (wpAny_eqBool_int (kat_go (fun hh2 => kat_yes (kat_nil ?_)) (fun hh2 => kat_no (kat_one _ _ (lt_int ?_))))))) (fun hh => kat_no (oneLt_int ?_)))))
    · unfold ltK at hC
      rw [if_pos hh] at hC
      have : decide ((ks.getD i (0, 0)).2 < (ks.getD j (0, 0)).2) = false := by
        have e : (ks.getD i (0, 0)).2 = (ks.getD j (0, 0)).2 := by simpa using hh2
        rw [e]; simp
      rw [this] at hC
      exact hC
    · unfold ltK at hC
      rw [if_pos hh] at hC
      exact hC
    · unfold ltK at hC
      rw [if_neg (by rw [hh]; decide)] at hC
      exact hC
  · rintro ⟨⟨⟩, st'⟩ s' ⟨rfl, hf, har, hpz⟩
    dsimp only
    have hout := kat_snds (vs := us) (ks := us) rfl har
    rw [hout]
    have na : H2.get? a = some (seqObj "list" #[] e1) := k2 _ _ ho1
    have hsz : (List.toArray ((kRun (ltK ks) (kas_sort ks.length)).toList.map fun i => us.getD i Value.none)).size = us.length := by rw [List.size_toArray, List.length_map, Array.length_toList, hpz]
    refine wpAny_bind (seqEpoch_at na rfl ?_)
    refine wpAny_bind (listUpdate_at na rfl ?_ (Nat.zero_le _) (Nat.le_trans (Nat.le_of_eq hsz) (by rw [sizeLine_eq]; omega)))
    rw [hf]
    simp only [bne_self_eq_false, Bool.false_eq_true, if_false]
    exact wpAny_pure (h _ (fun b o hb e => (Heap.get?_update_ne _ _ _ _ hb).trans (k2 _ _ (k1 _ _ hb e))) ⟨_, get?_update_seq na fun _ => _⟩)
theorem pl_sorted_tups {ks : List (Int × Int)} {k : PV → Prop} (h2 : 2 ≤ ks.length) (h5 : ks.length < 64) (hok : kOk ks.length (kas_sort ks.length) = true) (hin : ∀ i ∈ (kRun (ltK ks) (kas_sort ks.length)).toList, i < ks.length)
    (h : k (.list ((kRun (ltK ks) (kas_sort ks.length)).toList.map fun i => (ptups ks).getD i PV.none))) : POL prog w g n (fun vs => call (.builtin "sorted") vs) [.list (ptups ks)] k := by
  rintro A T s vs hA hT ⟨v, r, rfl, ⟨l, us, rfl, hlT, hp, hr⟩, rfl⟩
  have hul : us.length = ks.length := by simpa using hr.length
  refine Calls.call_function_entry kind_sorted plain_sorted entry_sorted (args_sorted1 _) ?_
  unfold Builtin.«sorted»
  refine wpAny_bind (m := checkCount "sorted" 1 1 _) (wpAny_pure ?_)
  refine wpAny_bind (collect_list hp.isList ?_ (by rw [sizeLine_eq]; omega))
  refine wpAny_bind (wpAny_newList ?_ (by rw [sizeLine_eq]; omega))
  have hsz : ((s.heap.push (seqObj "list" #[] 0)).update s.heap.objs.size (Obj.mapSeq (· ++ us.toArray))).objs.size = s.heap.objs.size + 1 := by
    rw [Heap.size_update, size_push']
  have hoL : (((s.heap.push (seqObj "list" #[] 0)).update s.heap.objs.size (Obj.mapSeq (· ++ us.toArray))).push (seqObj "list" us.toArray 0)).get? (s.heap.objs.size + 1) = some (seqObj "list" us.toArray 0) := by
    rw [← hsz]; exact Heap.get?_push_size _ rfl
  have keep : ∀ b o, s.heap.get? b = some o → (((s.heap.push (seqObj "list" #[] 0)).update s.heap.objs.size (Obj.mapSeq (· ++ us.toArray))).push (seqObj "list" us.toArray 0)).get? b = some o := fun b o q => by
    have hlt : b < s.heap.objs.size := Heap.lt_size q
    rw [Heap.get?_push_ne _ _ _ (by rw [hsz]; exact Nat.ne_of_lt (Nat.lt_succ_of_lt hlt)), Heap.get?_update_ne _ _ _ _ (Nat.ne_of_lt hlt), Heap.get?_push_ne _ _ _ (Nat.ne_of_lt hlt)]
    exact q
  show wpAny _ _ _ _ _ { s with heap := ((s.heap.push (seqObj "list" #[] 0)).update s.heap.objs.size (Obj.mapSeq (· ++ us.toArray))).push (seqObj "list" us.toArray 0) }
  rw [hsz]
  have hz : s.heap.get? (s.heap.objs.size + 1) = none := by
    cases q : s.heap.get? (s.heap.objs.size + 1) with
    | none => rfl
    | some o => exact absurd (Heap.lt_size q) (Nat.not_lt.mpr (Nat.le_succ _))
  have hr' : RdL (((s.heap.push (seqObj "list" #[] 0)).update s.heap.objs.size (Obj.mapSeq (· ++ us.toArray))).push (seqObj "list" us.toArray 0)) T (ptups ks) us := hr.mono (fun b o _ e => keep b o e) fun b hb => .inl hb
  refine wpAny_bind (wpAny_holding (wpAny_call_entry slot_list_sort ⟨_, hoL, rfl⟩ entry_list_sort (sort_tup hoL hr' (fun i hi hc => ?_) h2 h5 hok fun h' hk hD => ⟨_, rfl, wpAny_pure ⟨_, rfl, ?_⟩⟩) (args_list_sort _)))
  · obtain ⟨x, c, t, u, e1, e2⟩ := tups_at hr i hi
    rw [e1] at hc
    cases hc
    rw [hz] at e2; cases e2
  · obtain ⟨c', hD⟩ := hD
    have kk : ∀ b o, s.heap.get? b = some o → h'.get? b = some o := fun b o e => hk b o (fun hc => by rw [hc, hz] at e; cases e) (keep b o e)
    refine ⟨_, h, ⟨_, _, rfl, fun hc => ?_, ⟨c', hD⟩, (hr.pick (by simpa using hin)).mono (fun b o _ e => kk b o e) fun b hb => .inl hb⟩, h', s.toks, rfl, kk⟩
    have := (hT.2 _ hc).1
    rw [hz] at this; cases this
end
section
open PySem PySem.W PySem.Calls PyProof.Rows PyProof.V PySem.Spec PySem.SeqAt
variable {prog : Program} {w : World} {g : Heap} {n : Nat} {sc : Scope} {ρ ρ' : List Ent}
theorem room_u {n : Nat} {A : Around} (h : Room n A) : A.units + 64 < cLine := by have := h.2.2; omega
theorem pc_leq {ns ms : List Int} {k : PV → Prop} (h : k (.bool (decide (ns = ms)))) : PO2 prog w g n (compareOp .Eq) (.list (pints ns)) (.list (pints ms)) k := by
  rintro A T s _ _ hA hT ⟨a, us, rfl, _, hl, hr⟩ ⟨b, vs, rfl, _, hl', hr'⟩
  exact eq_intsK hl.isList (ints_of hr) hl'.isList (ints_of hr') (room_u hA) ⟨_, h, rfl, Keeps.refl' _⟩
theorem pc_lne {ns ms : List Int} {k : PV → Prop} (h : k (.bool (!decide (ns = ms)))) : PO2 prog w g n (compareOp .NotEq) (.list (pints ns)) (.list (pints ms)) k := by
  rintro A T s _ _ hA hT ⟨a, us, rfl, _, hl, hr⟩ ⟨b, vs, rfl, _, hl', hr'⟩
  exact ne_intsK hl.isList (ints_of hr) hl'.isList (ints_of hr') (room_u hA) ⟨_, h, rfl, Keeps.refl' _⟩
noncomputable abbrev pbools (bs : List Bool) : List PV := bs.map PV.bool
theorem reads_bools {h : Heap} {T : Addr → Prop} : ∀ {bs : List Bool} {vs : List Value}, RdL h T (pbools bs) vs → ReadsAll h vs (bs.map PyData.bool) [] := by
  intro l0
  induction l0 with
  | nil => exact @fun vs x => by unfold pbools RdL at x; subst x; exact .nil
  | cons b bs ih =>
    intro vs x
    obtain ⟨v, r, rfl, rfl, x⟩ := x
    have := ReadsAll.cons (Reads.bool (h := h) b) (ih x)
    simpa using this
theorem canLay_bools : ∀ ns : List Bool, PyData.canLayAll0 (ns.map PyData.bool) = true := by
  intro l0
  induction l0 with
  | nil => exact by simp [PyData.canLayAll0]
  | cons n r ih =>
    simp [PyData.canLayAll0, PyData.canLay0, ih]
theorem depth_bools : ∀ ns : List Bool, PyData.depthAll (ns.map PyData.bool) ≤ 1 := by
  intro l0
  induction l0 with
  | nil => exact by simp [PyData.depthAll]
  | cons n r ih =>
    have := ih
    simp only [List.map_cons, PyData.depthAll, PyData.depth]
    omega
theorem shaped_bools (ns : List Bool) : shaped (.list (ns.map PyData.bool)) = true := by
  have h1 := depth_bools ns
  have h2 : PyData.depth (.list (ns.map PyData.bool)) ≤ 64 := by simp only [PyData.depth]; omega
  show (PyData.canLay0 (.list (ns.map PyData.bool)) && decide (PyData.depth (.list (ns.map PyData.bool)) ≤ 64)) = true
  rw [Bool.and_eq_true]
  exact ⟨by simp only [PyData.canLay0]; exact canLay_bools ns, decide_eq_true h2⟩
theorem noMix_bools : ∀ ns ms : List Bool, noMixAll (ns.map PyData.bool) (ms.map PyData.bool) = true
  | [], [] => by simp [noMixAll]
  | [], _ :: _ => by simp [noMixAll]
  | _ :: _, [] => by simp [noMixAll]
  | _ :: r, _ :: q => by simp [noMixAll, noMix, noMix_bools r q]
theorem same_bools : ∀ ns ms : List Bool, PySem.Spec.sameAll (ns.map PyData.bool) (ms.map PyData.bool) = decide (ns = ms)
  | [], [] => by simp [PySem.Spec.sameAll]
  | [], _ :: _ => by simp [PySem.Spec.sameAll]
  | _ :: _, [] => by simp [PySem.Spec.sameAll]
  | n :: r, k :: q => by
    simp only [List.map_cons, PySem.Spec.sameAll, PySem.Spec.same, same_bools r q]
    by_cases h : n = k <;> simp [h]
theorem pc_bne {ns ms : List Bool} {k : PV → Prop} (h : k (.bool (!decide (ns = ms)))) : PO2 prog w g n (compareOp .NotEq) (.list (pbools ns)) (.list (pbools ms)) k := by
  rintro A T s _ _ hA hT ⟨a, us, rfl, _, ⟨c, hl⟩, hr⟩ ⟨b, vs, rfl, _, ⟨c', hl'⟩, hr'⟩
  exact ne_dataH_same (Reads.list hl rfl rfl (reads_bools hr)) (Reads.list hl' rfl rfl (reads_bools hr')) (shaped_bools ns) (shaped_bools ms) (room_u hA) (by simp only [noMix]; exact noMix_bools ns ms) (by simp only [PySem.Spec.same]; rw [same_bools]; exact ⟨_, h, rfl, Keeps.refl' _⟩)
theorem ints_uniq {vs : List Value} {ns ms : List Int} (h : IntsAre vs ns) (h' : IntsAre vs ms) : ns = ms := by
  induction h generalizing ms with
  | nil => cases h'; rfl
  | cons i t r ih => cases h' with | cons _ _ r2 => rw [ih r2]
theorem pi_lists {ns : List Int} {mss : List (List Int)} {k : PV → Prop} (h : k (.bool (mss.any fun ms => decide (ms = ns)))) : PO2 prog w g n (compareOp .In) (.list (pints ns)) (.tup (mss.map fun ms => .list (pints ms))) k := by
  rintro A T s _ _ hA hT ⟨a, us, rfl, _, hl, hr⟩ ⟨b, vs, rfl, _, hp, hv⟩
  have key : ∀ (mss : List (List Int)) (vs : List Value), RdL s.heap T (mss.map fun ms => PV.list (pints ms)) vs → ∃ e : Value → Bool, (∀ y ∈ vs, EqAt A.in1 s y (.ref a) (e y)) ∧ vs.any e = mss.any fun ms => decide (ms = ns) := by
    intro mss vs hv
    refine ⟨fun y => Classical.epsilon fun b => EqAt A.in1 s y (.ref a) b ∧ ∀ ms, Rd s.heap T (.list (pints ms)) y → b = decide (ms = ns), ?_, ?_⟩
    all_goals
      have ex : ∀ y, (∃ ms, Rd s.heap T (.list (pints ms)) y) → ∃ b, EqAt A.in1 s y (.ref a) b ∧ ∀ ms, Rd s.heap T (.list (pints ms)) y → b = decide (ms = ns) := by
        rintro y ⟨ms, c, ws, rfl, _, hl2, hr2⟩
        refine ⟨decide (ms = ns), ?_, ?_⟩
        · by_cases hca : c = a
          · subst hca
            have e1 : ws = us := by
              obtain ⟨_, e1⟩ := hl; obtain ⟨_, e2⟩ := hl2
              rw [e1] at e2; simpa using (congrArg (fun o => match o with | some (o : Obj) => (match o.data with | .seq x _ => x.toList | _ => []) | none => []) e2).symm
            subst e1
            have e3 : ms = ns := ints_uniq (ints_of hr2) (ints_of hr)
            rw [decide_eq_true e3]
            exact EqAt.same _
          · have rc : RcAt A.in1 s (.ref c) (.ref a) (decide (ms = ns)) := fun prog w E Q hq => eq_intsK hl2.isList (ints_of hr2) hl.isList (ints_of hr) (by have := hA.2.2; show A.units + 1 + 64 < cLine; omega) hq
            exact EqAt.of_refs hca rc
        · rintro ms' ⟨c', ws', e', _, hl3, hr3⟩
          cases e'
          have e1 : ws = ws' := by
            obtain ⟨_, e1⟩ := hl2; obtain ⟨_, e2⟩ := hl3
            rw [e1] at e2; simpa using (congrArg (fun o => match o with | some (o : Obj) => (match o.data with | .seq x _ => x.toList | _ => []) | none => []) e2)
          subst e1
          have : ms = ms' := ints_uniq (ints_of hr2) (ints_of hr3)
          rw [this]
    · intro y hy
      have : ∃ ms, Rd s.heap T (.list (pints ms)) y := by
        clear ex
        induction mss generalizing vs with
        | nil => cases hv; cases hy
        | cons ms mss ih =>
          obtain ⟨v, r, rfl, h1, h2⟩ := hv
          rcases List.mem_cons.mp hy with rfl | hy
          · exact ⟨ms, h1⟩
          · exact ih r h2 hy
      exact (Classical.epsilon_spec (ex y this)).1
    · clear hp
      induction mss generalizing vs with
      | nil => simp only [List.map_nil] at hv; cases hv; rfl
      | cons ms mss ih =>
        obtain ⟨v, r, rfl, h1, h2⟩ := hv
        rw [List.any_cons, List.any_cons, ih r h2]
        congr 1
        exact (Classical.epsilon_spec (ex v ⟨ms, h1⟩)).2 ms h1
  obtain ⟨e, e1, e2⟩ := key mss vs hv
  refine in_tupleAt e hp.isTuple (fun y hy => e1 y (by simpa using hy)) ?_
  rw [show vs.toArray.any e = vs.any e by simp, e2]
  exact ⟨_, h, rfl, Keeps.refl' _⟩
end
section
variable {prog : Program} {w : World} {g : Heap} {n : Nat} {sc : Scope} {ρ ρ' : List Ent}
theorem sub_tt : isSubtype (.type "tuple") (.type "tuple") = pure true := by rw [isSubtype_type]; kernel_rfl
theorem pc_tlt {a b c d : Int} {k : PV → Prop} (h : k (.bool (if a = c then decide (b < d) else decide (a < c)))) : PO2 prog w g n (compareOp .Lt) (.tup [.int a, .int b]) (.tup [.int c, .int d]) k := by
  rintro A T s _ _ hA hT ⟨x, us, rfl, _, ⟨e1, hx⟩, hu⟩ ⟨y, vs, rfl, _, ⟨e2, hy⟩, hv⟩
  obtain ⟨v1, r1, rfl, ⟨t1, rfl⟩, v2, r2, rfl, ⟨t2, rfl⟩, rfl⟩ := hu
  obtain ⟨v3, r3, rfl, ⟨t3, rfl⟩, v4, r4, rfl, ⟨t4, rfl⟩, rfl⟩ := hv
  have tx : s.TypeIs (.ref x) "tuple" := ⟨_, hx, rfl⟩
  have ty : s.TypeIs (.ref y) "tuple" := ⟨_, hy, rfl⟩
  show wpAny _ _ (richCompare .Lt (.ref x) (.ref y)) _ _ _
  refine wpAny_richCompare_same_room tx ty F.slot_tuple_lt (wpAny_call_entry F.slot_tuple_lt tx F.entry_tuple_lt ?_ (F.args_tuple_lt_2 _ _)) (by have := hA.2.2; omega)
  show wpAny _ _ (isInstance (.ref y) (.type "tuple") >>= _) _ _ _
  refine wpAny_bind (wpAny_isInstance ty sub_tt ?_)
  show wpAny _ _ (Builtin.Tuple.tupleItemsOf (.ref x) >>= _) _ _ _
  refine wpAny_bind (wpAny_tupleItemsOf hx rfl ?_)
  refine wpAny_bind (wpAny_tupleItemsOf hy rfl ?_)
  show wpAny _ _ ((forIn [(Value.int a t1, Value.int c t3), (Value.int b t2, Value.int d t4)] _ _ : Sem _) >>= _) _ _ _
  rw [List.forIn_cons]
  by_cases hac : a = c
  · subst hac
    rw [if_pos rfl] at h
    refine wpAny_bind (wpAny_bind (wpAny_bind (wpAny_eqBool_int ?_)))
    simp only [beq_self_eq_true, Bool.not_true, Bool.false_eq_true, if_false]
    refine wpAny_pure ?_
    dsimp only
    rw [List.forIn_cons]
    by_cases hbd : b = d
    · subst hbd
      refine wpAny_bind (wpAny_bind (wpAny_eqBool_int ?_))
      simp only [beq_self_eq_true, Bool.not_true, Bool.false_eq_true, if_false]
      refine wpAny_pure ?_
      dsimp only
      rw [List.forIn_nil]
      refine wpAny_pure ?_
      have hb : decide (b < b) = false := by simp
      rw [hb] at h
      exact wpAny_pure ⟨.bool false, rfl, (by intro h; cases h), _, h, rfl, Keeps.refl' _⟩
    · have hb : (b == d) = false := by simpa using hbd
      refine wpAny_bind (wpAny_bind (wpAny_eqBool_int ?_))
      simp only [hb, Bool.not_false, if_true]
      refine wpAny_bind (wpAny_rule (wpAny_bind (lt_int ?_)))
      refine wpAny_bind (wpAny_pure (wpAny_pure ?_))
      exact wpAny_pure (wpAny_pure ⟨_, rfl, (by intro h; cases h), _, h, rfl, Keeps.refl' _⟩)
  · have hb : (a == c) = false := by simpa using hac
    rw [if_neg hac] at h
    refine wpAny_bind (wpAny_bind (wpAny_bind (wpAny_eqBool_int ?_)))
    simp only [hb, Bool.not_false, if_true]
    refine wpAny_bind (wpAny_rule (wpAny_bind (lt_int ?_)))
    refine wpAny_bind (wpAny_pure (wpAny_pure ?_))
    exact wpAny_pure (wpAny_pure ⟨_, rfl, (by intro h; cases h), _, h, rfl, Keeps.refl' _⟩)
theorem we_upto {v e : Expr} {p pos : Pos} {K : PV → List Ent → Prop} (h : WE prog w g n sc v ρ fun d ρ₁ => OfList d fun xs => xs.length ≤ 2 ^ 20 ∧ WE prog w g n sc e ρ₁ fun d' ρ₂ => ∃ i : Nat, d' = .int i ∧ K (.list (xs.take i)) ρ₂)
    (ht : ∀ o r, letTemporaryGo v o r = pure () := by intro _ _; rfl) : WE prog w g n sc (.Subscript v (.Slice none (some e) none p) pos) ρ K := by
  intro env A H s hsc ok hA sr
  refine wpAny_Subscript_list_slice (wpAny_mono (h env A H s hsc ok hA sr) (fun o s1 h1 => ?_) fun _ _ x => x) ht
  obtain ⟨d, ρ1, ⟨xs, rfl, hx, k1⟩, p1, l, us, rfl, hlT, hl, hr⟩ := h1
  rw [evalPart_none]
  refine wpAny_pure ?_
  show wpAny _ _ (eval e env) _ _ _
  refine wpAny_mono (k1 env A H s1 hsc ok hA p1.sr) (fun u s2 h2 => ?_) fun _ _ x => x
  obtain ⟨d', ρ2, ⟨i, rfl, k2⟩, p2, t, rfl⟩ := h2
  have rr := p2.rd (d := .list xs) (v := .ref l) ⟨l, us, rfl, hlT, hl, hr⟩
  obtain ⟨l', us', e', hlT', hl', hr'⟩ := rr
  cases e'
  have hul := hr'.length
  refine ⟨l, us'.toArray, none, some (i : Int), rfl, hl'.isList, by simp [sizeLine]; omega, .none, .int _ _, ?_⟩
  rw [slicePick_upto']
  have ks : Keeps s2 { s2 with heap := s2.heap.push { cls := .type "slice", data := .fields #[.none, .int i t, .none] } } := Keeps.push s2 _
  have p3 := p2.grow ks
  refine ⟨_, ρ2, k2, p1.trans (p3.grow (Keeps.push _ _)), ?_⟩
  have := Rd.newList p3.sr.hr ((hr'.take i).mono (fun b o _ e => Heap.get?_push_of_some _ e) fun b hb => .inl hb)
  rw [show ({ s2 with heap := s2.heap.push { cls := .type "slice", data := .fields #[.none, .int i t, .none] } } : Shared).heap.objs.size = s2.heap.objs.size + 1 from Heap.size_push ..] at this
  simpa using this
theorem we_from {v e : Expr} {p pos : Pos} {K : PV → List Ent → Prop} (h : WE prog w g n sc v ρ fun d ρ₁ => OfList d fun xs => xs.length ≤ 2 ^ 20 ∧ WE prog w g n sc e ρ₁ fun d' ρ₂ => ∃ i : Nat, d' = .int i ∧ K (.list (xs.drop i)) ρ₂)
    (ht : ∀ o r, letTemporaryGo v o r = pure () := by intro _ _; rfl) : WE prog w g n sc (.Subscript v (.Slice (some e) none none p) pos) ρ K := by
  intro env A H s hsc ok hA sr
  refine wpAny_Subscript_list_slice (wpAny_mono (h env A H s hsc ok hA sr) (fun o s1 h1 => ?_) fun _ _ x => x) ht
  obtain ⟨d, ρ1, ⟨xs, rfl, hx, k1⟩, p1, l, us, rfl, hlT, hl, hr⟩ := h1
  show wpAny _ _ (eval e env) _ _ _
  refine wpAny_mono (k1 env A H s1 hsc ok hA p1.sr) (fun u s2 h2 => ?_) fun _ _ x => x
  obtain ⟨d', ρ2, ⟨i, rfl, k2⟩, p2, t, rfl⟩ := h2
  rw [evalPart_none]
  refine wpAny_pure ?_
  have rr := p2.rd (d := .list xs) (v := .ref l) ⟨l, us, rfl, hlT, hl, hr⟩
  obtain ⟨l', us', e', hlT', hl', hr'⟩ := rr
  cases e'
  have hul := hr'.length
  refine ⟨l, us'.toArray, some (i : Int), none, rfl, hl'.isList, by simp [sizeLine]; omega, .int _ _, .none, ?_⟩
  rw [slicePick_from']
  have ks : Keeps s2 { s2 with heap := s2.heap.push { cls := .type "slice", data := .fields #[.int i t, .none, .none] } } := Keeps.push s2 _
  have p3 := p2.grow ks
  refine ⟨_, ρ2, k2, p1.trans (p3.grow (Keeps.push _ _)), ?_⟩
  have := Rd.newList p3.sr.hr ((hr'.drop i).mono (fun b o _ e => Heap.get?_push_of_some _ e) fun b hb => .inl hb)
  rw [show ({ s2 with heap := s2.heap.push { cls := .type "slice", data := .fields #[.int i t, .none, .none] } } : Shared).heap.objs.size = s2.heap.objs.size + 1 from Heap.size_push ..] at this
  simpa using this
theorem pick_rev : ∀ us : List Value, us.length ≤ 5 → slicePick us.toArray none none (some (-1)) = us.reverse.toArray
  | [], _ => by decide
  | [a], _ => by
    have h1 : (sliceRange (sliceBounds none none (some (-1)) 1).1 (sliceBounds none none (some (-1)) 1).2.1 (sliceBounds none none (some (-1)) 1).2.2) = [0] := by decide
    show ((sliceRange (sliceBounds none none (some (-1)) 1).1 (sliceBounds none none (some (-1)) 1).2.1 (sliceBounds none none (some (-1)) 1).2.2).filterMap ([a].toArray[·]?)).toArray = _
    rw [h1]; rfl
  | [a, b], _ => by
    have h1 : (sliceRange (sliceBounds none none (some (-1)) 2).1 (sliceBounds none none (some (-1)) 2).2.1 (sliceBounds none none (some (-1)) 2).2.2) = [1, 0] := by decide
    show ((sliceRange (sliceBounds none none (some (-1)) 2).1 (sliceBounds none none (some (-1)) 2).2.1 (sliceBounds none none (some (-1)) 2).2.2).filterMap ([a, b].toArray[·]?)).toArray = _
    rw [h1]; rfl
  | [a, b, c], _ => by
    have h1 : (sliceRange (sliceBounds none none (some (-1)) 3).1 (sliceBounds none none (some (-1)) 3).2.1 (sliceBounds none none (some (-1)) 3).2.2) = [2, 1, 0] := by decide
    show ((sliceRange (sliceBounds none none (some (-1)) 3).1 (sliceBounds none none (some (-1)) 3).2.1 (sliceBounds none none (some (-1)) 3).2.2).filterMap ([a, b, c].toArray[·]?)).toArray = _
    rw [h1]; rfl
  | [a, b, c, d], _ => by
    have h1 : (sliceRange (sliceBounds none none (some (-1)) 4).1 (sliceBounds none none (some (-1)) 4).2.1 (sliceBounds none none (some (-1)) 4).2.2) = [3, 2, 1, 0] := by decide
    show ((sliceRange (sliceBounds none none (some (-1)) 4).1 (sliceBounds none none (some (-1)) 4).2.1 (sliceBounds none none (some (-1)) 4).2.2).filterMap ([a, b, c, d].toArray[·]?)).toArray = _
    rw [h1]; rfl
  | [a, b, c, d, e], _ => by
    have h1 : (sliceRange (sliceBounds none none (some (-1)) 5).1 (sliceBounds none none (some (-1)) 5).2.1 (sliceBounds none none (some (-1)) 5).2.2) = [4, 3, 2, 1, 0] := by decide
    show ((sliceRange (sliceBounds none none (some (-1)) 5).1 (sliceBounds none none (some (-1)) 5).2.1 (sliceBounds none none (some (-1)) 5).2.2).filterMap ([a, b, c, d, e].toArray[·]?)).toArray = _
    rw [h1]; rfl
  | _ :: _ :: _ :: _ :: _ :: _ :: _, h => by simp at h
end
section
variable {prog : Program} {w : World} {g : Heap} {n : Nat} {sc : Scope} {ρ ρ' : List Ent}
theorem pl_bytes_ints {ns : List Int} {k : PV → Prop} (hl : ns.length ≤ 2 ^ 20) (hb : ∀ x ∈ ns, 0 ≤ x ∧ x < 256) (h : k (.bytes (byteArr ns))) : POL prog w g n (fun vs => call (.type "bytes") vs) [.list (pints ns)] k := by
  rintro A T s vs hA hT ⟨v, r, rfl, ⟨a, us, rfl, ha, hp, hr⟩, rfl⟩
  have hul : us.length = ns.length := by simpa using hr.length
  exact call_bytes_ints hp.isList (ints_of hr) hb (by have : sizeLine = 2 ^ 24 := rfl; omega) hA.1 fun h' t kk hk => ⟨_, h, ⟨t, rfl⟩, h', kk, rfl, hk⟩
theorem by_lookup : typeLookup (.type "bytes") "__bytes__" = pure (some (.builtin "bytes.__bytes__")) := by rw [typeLookup_type, builtinLookup_eq_fast]; kernel_rfl
theorem by_new {A : Around} {E : Value → Shared → Prop} {s : Shared} {b : Array UInt8} {t : Tok} {Q : Value → Shared → Prop} (hQ : Q (.bytes b t) s) : codeAny (model prog w) A (.call (.builtin "bytes.__new__") ⟨[.type "bytes", .bytes b t], []⟩) (wants Q E) s := by
  refine codeAny_of_tree ?_
  show wpAny _ A.in1 (do checkBuiltinCall "bytes.__new__" ⟨[.type "bytes", .bytes b t], []⟩; again (.builtin "bytes.__new__" ⟨[.type "bytes", .bytes b t], []⟩)) _ _ s
  refine wpAny_bind (wpAny_of_eq (F.bm_newCall _) (wpAny_pure ⟨plainId_quiet F.bm_plain _, codeAny_builtin F.bm_entry ?_⟩))
  rw [Around.under_plainId F.bm_plain _]
  have hT : s.TypeIs (.bytes b t) "bytes" := PySem.W.typeIs_bytes s b t
  unfold Builtin.«bytes.__new__»
  refine wpAny_bind (wpAny_of_eq (a := true) rfl ?_)
  refine bm_if_false rfl ?_
  refine wpAny_bind (wpAny_of_eq F.bm_sub ?_)
  refine bm_if_false rfl ?_
  refine wpAny_bind (wpAny_of_eq (F.bm_bind _) ?_)
  refine wpAny_bind (wpAny_of_eq (a := ()) rfl ?_)
  refine wpAny_bind (wpAny_of_eq (a := ()) rfl ?_)
  refine bm_if_false rfl ?_
  refine wpAny_bind (wpAny_specialOf hT by_lookup ?_)
  refine wpAny_bind (wpAny_rule ?_)
  refine wpAny_bind (wpAny_typeOf hT ?_)
  refine bm_if_true (by decide) ?_
  first
    | exact wpAny_pure hQ
    | exact wpAny_bind (wpAny_pure (wpAny_pure hQ))
theorem pl_bytes_bytes {b : Array UInt8} {k : PV → Prop} (h : k (.bytes b)) : POL prog w g n (fun vs => call (.type "bytes") vs) [.bytes b] k := by
  rintro A T s vs hA hT ⟨v, r, rfl, ⟨t, rfl⟩, rfl⟩
  refine callType_codes (Q₁ := fun obj s₁ => obj = .bytes b t ∧ s₁ = s) F.bm_called (F.bm_typeCall _) F.entry_object_init (by_new ⟨rfl, rfl⟩) fun obj s₁ h₁ => ?_
  obtain ⟨rfl, rfl⟩ := h₁
  have hT' : s₁.TypeIs (.bytes b t) "bytes" := PySem.W.typeIs_bytes s₁ b t
  exact ⟨hT', F.args_object_init_2 _ _, object_init_meets F.bm_called.init.lookup F.bm_called.made (by decide) prog w A.in1 _ s₁ ⟨hT', rfl, _, h, ⟨t, rfl⟩, Keeps.refl' _⟩⟩
theorem pl_len_bytes {b : Array UInt8} {k : PV → Prop} (hl : b.size ≤ 2 ^ 20) (h : k (.int b.size)) : POL prog w g n (fun vs => call (.builtin "len") vs) [.bytes b] k := by
  rintro A T s vs hA hT ⟨v, r, rfl, ⟨t, rfl⟩, rfl⟩
  exact len_bytes (by omega) ⟨_, h, ⟨_, rfl⟩, Keeps.tok _ _⟩
theorem pi_bytes {b : Array UInt8} {i : Int} {k : PV → Prop} (hl : b.size ≤ 2 ^ 20) (h0 : 0 ≤ i) (h1 : i < b.size) (h : k (.int (b.toList.getD i.toNat 0).toNat)) : PO2 prog w g n getItem (.bytes b) (.int i) k := by
  rintro A T s _ _ hA hT ⟨t, rfl⟩ ⟨u, rfl⟩
  obtain ⟨l⟩ := b
  have hz : ({ toList := l } : Array UInt8).size = l.length := rfl
  rw [hz] at hl h1
  exact getItem_bytes (by omega) h0 (by omega) ⟨_, h, ⟨_, rfl⟩, Keeps.tok _ _⟩
theorem pc_bytes_ne {b c : Array UInt8} {k : PV → Prop} (h : k (.bool (b.toList != c.toList))) : PO2 prog w g n (compareOp .NotEq) (.bytes b) (.bytes c) k := by
  rintro A T s _ _ hA hT ⟨t, rfl⟩ ⟨u, rfl⟩
  exact ne_bytes ⟨_, h, rfl, Keeps.refl' _⟩
end
section
noncomputable abbrev KK (P : Params) : Frag := topK P
noncomputable def fdAt (P : Params) (a : Addr) : FuncData := match (KK P).lookup a with
  | some ⟨_, _, .func fd, _⟩ => fd
  | _ => default
noncomputable def bodyAt (P : Params) (a : Addr) : List Stmt := match (fdAt P a).body with
  | .stmts b => b
  | _ => []
set_option maxHeartbeats 1000000
theorem fn139 (P : Params) : FnOk (KK P) 139 (fdAt P 139) (bodyAt P 139) := ⟨⟨_, _, _, rfl⟩, rfl, rfl, rfl, rfl, rfl, rfl, rfl, rfl, rfl⟩
variable {w : World} {g : Heap} {mg mb : Str → Option Value}
theorem gv_len (G : GG (KK w.params) g mg mb) : GV mg mb (Str.ofString "len") (.builtin "len") := G.boot (by rfl) (by decide) (by rfl)
theorem gv_sum (G : GG (KK w.params) g mg mb) : GV mg mb (Str.ofString "sum") (.builtin "sum") := G.boot (by rfl) (by decide) (by rfl)
theorem gv_sorted (G : GG (KK w.params) g mg mb) : GV mg mb (Str.ofString "sorted") (.builtin "sorted") := G.boot (by rfl) (by decide) (by rfl)
theorem gv_min (G : GG (KK w.params) g mg mb) : GV mg mb (Str.ofString "min") (.builtin "min") := G.boot (by rfl) (by decide) (by rfl)
theorem gv_max (G : GG (KK w.params) g mg mb) : GV mg mb (Str.ofString "max") (.builtin "max") := G.boot (by rfl) (by decide) (by rfl)
theorem gv_range (G : GG (KK w.params) g mg mb) : GV mg mb (Str.ofString "range") (.type "range") := G.boot (by rfl) (by decide) (by rfl)
theorem gv_list (G : GG (KK w.params) g mg mb) : GV mg mb (Str.ofString "list") (.type "list") := G.boot (by rfl) (by decide) (by rfl)
theorem gv_int (G : GG (KK w.params) g mg mb) : GV mg mb (Str.ofString "int") (.type "int") := G.boot (by rfl) (by decide) (by rfl)
theorem gv_bytes (G : GG (KK w.params) g mg mb) : GV mg mb (Str.ofString "bytes") (.type "bytes") := G.boot (by rfl) (by decide) (by rfl)
theorem gv_enumerate (G : GG (KK w.params) g mg mb) : GV mg mb (Str.ofString "enumerate") (.type "enumerate") := G.boot (by rfl) (by decide) (by rfl)
theorem gv_zip (G : GG (KK w.params) g mg mb) : GV mg mb (Str.ofString "zip") (.type "zip") := G.boot (by rfl) (by decide) (by rfl)
theorem gv_bytearray (G : GG (KK w.params) g mg mb) : GV mg mb (Str.ofString "bytearray") (.type "bytearray") := G.boot (by rfl) (by decide) (by rfl)
theorem gt_deflate_merged (G : GG (KK w.params) g mg mb) : GV mg mb (Str.ofString "deflate_merged") (.ref 139) := G.top (by rfl)
theorem gt_code_lengths (G : GG (KK w.params) g mg mb) : GV mg mb (Str.ofString "code_lengths") (.ref 144) := G.top (by rfl)
theorem gt_canonical (G : GG (KK w.params) g mg mb) : GV mg mb (Str.ofString "canonical") (.ref 151) := G.top (by rfl)
theorem gt_law_deck (G : GG (KK w.params) g mg mb) : GV mg mb (Str.ofString "_law_deck") (.ref 251) := G.top (by rfl)
theorem gt_law_draw (G : GG (KK w.params) g mg mb) : GV mg mb (Str.ofString "_law_draw") (.ref 258) := G.top (by rfl)
theorem gt_law_room (G : GG (KK w.params) g mg mb) : GV mg mb (Str.ofString "_law_room") (.ref 263) := G.top (by rfl)
theorem gt_law_rising (G : GG (KK w.params) g mg mb) : GV mg mb (Str.ofString "_law_rising") (.ref 268) := G.top (by rfl)
theorem gt_law_best (G : GG (KK w.params) g mg mb) : GV mg mb (Str.ofString "_law_best") (.ref 273) := G.top (by rfl)
theorem gt_law_lengths_told (G : GG (KK w.params) g mg mb) : GV mg mb (Str.ofString "_law_lengths_told") (.ref 280) := G.top (by rfl)
theorem gt_law_are_right (G : GG (KK w.params) g mg mb) : GV mg mb (Str.ofString "_law_are_right") (.ref 285) := G.top (by rfl)
theorem gt_law_codes (G : GG (KK w.params) g mg mb) : GV mg mb (Str.ofString "_law_codes") (.ref 290) := G.top (by rfl)
theorem gt_law_packed (G : GG (KK w.params) g mg mb) : GV mg mb (Str.ofString "_law_packed") (.ref 295) := G.top (by rfl)
theorem gt_BitWriter (G : GG (KK w.params) g mg mb) : GV mg mb (Str.ofString "BitWriter") (.ref 128) := G.top (by rfl)
theorem gt_BitReader (G : GG (KK w.params) g mg mb) : GV mg mb (Str.ofString "BitReader") (.ref 198) := G.top (by rfl)
theorem gt_Codes (G : GG (KK w.params) g mg mb) : GV mg mb (Str.ofString "Codes") (.ref 241) := G.top (by rfl)
theorem gt_BadBits (G : GG (KK w.params) g mg mb) : GV mg mb (Str.ofString "BadBits") (.ref 52) := G.top (by rfl)
theorem gt_law_counts (G : GG (KK w.params) g mg mb) : GV mg mb (Str.ofString "_law_counts") (.ref 246) := G.top (by rfl)
theorem fn69 (P : Params) : FnOk (KK P) 69 (fdAt P 69) (bodyAt P 69) := ⟨⟨_, _, _, rfl⟩, rfl, rfl, rfl, rfl, rfl, rfl, rfl, rfl, rfl⟩
theorem fn76 (P : Params) : FnOk (KK P) 76 (fdAt P 76) (bodyAt P 76) := ⟨⟨_, _, _, rfl⟩, rfl, rfl, rfl, rfl, rfl, rfl, rfl, rfl, rfl⟩
theorem fn83 (P : Params) : FnOk (KK P) 83 (fdAt P 83) (bodyAt P 83) := ⟨⟨_, _, _, rfl⟩, rfl, rfl, rfl, rfl, rfl, rfl, rfl, rfl, rfl⟩
theorem fn90 (P : Params) : FnOk (KK P) 90 (fdAt P 90) (bodyAt P 90) := ⟨⟨_, _, _, rfl⟩, rfl, rfl, rfl, rfl, rfl, rfl, rfl, rfl, rfl⟩
theorem fn104 (P : Params) : FnOk (KK P) 104 (fdAt P 104) (bodyAt P 104) := ⟨⟨_, _, _, rfl⟩, rfl, rfl, rfl, rfl, rfl, rfl, rfl, rfl, rfl⟩
theorem fn125 (P : Params) : FnOk (KK P) 125 (fdAt P 125) (bodyAt P 125) := ⟨⟨_, _, _, rfl⟩, rfl, rfl, rfl, rfl, rfl, rfl, rfl, rfl, rfl⟩
theorem fn144 (P : Params) : FnOk (KK P) 144 (fdAt P 144) (bodyAt P 144) := ⟨⟨_, _, _, rfl⟩, rfl, rfl, rfl, rfl, rfl, rfl, rfl, rfl, rfl⟩
theorem fn151 (P : Params) : FnOk (KK P) 151 (fdAt P 151) (bodyAt P 151) := ⟨⟨_, _, _, rfl⟩, rfl, rfl, rfl, rfl, rfl, rfl, rfl, rfl, rfl⟩
theorem fn166 (P : Params) : FnOk (KK P) 166 (fdAt P 166) (bodyAt P 166) := ⟨⟨_, _, _, rfl⟩, rfl, rfl, rfl, rfl, rfl, rfl, rfl, rfl, rfl⟩
theorem fn181 (P : Params) : FnOk (KK P) 181 (fdAt P 181) (bodyAt P 181) := ⟨⟨_, _, _, rfl⟩, rfl, rfl, rfl, rfl, rfl, rfl, rfl, rfl, rfl⟩
theorem fn217 (P : Params) : FnOk (KK P) 217 (fdAt P 217) (bodyAt P 217) := ⟨⟨_, _, _, rfl⟩, rfl, rfl, rfl, rfl, rfl, rfl, rfl, rfl, rfl⟩
theorem fn224 (P : Params) : FnOk (KK P) 224 (fdAt P 224) (bodyAt P 224) := ⟨⟨_, _, _, rfl⟩, rfl, rfl, rfl, rfl, rfl, rfl, rfl, rfl, rfl⟩
theorem fn231 (P : Params) : FnOk (KK P) 231 (fdAt P 231) (bodyAt P 231) := ⟨⟨_, _, _, rfl⟩, rfl, rfl, rfl, rfl, rfl, rfl, rfl, rfl, rfl⟩
theorem fn238 (P : Params) : FnOk (KK P) 238 (fdAt P 238) (bodyAt P 238) := ⟨⟨_, _, _, rfl⟩, rfl, rfl, rfl, rfl, rfl, rfl, rfl, rfl, rfl⟩
theorem fn251 (P : Params) : FnOk (KK P) 251 (fdAt P 251) (bodyAt P 251) := ⟨⟨_, _, _, rfl⟩, rfl, rfl, rfl, rfl, rfl, rfl, rfl, rfl, rfl⟩
theorem fn258 (P : Params) : FnOk (KK P) 258 (fdAt P 258) (bodyAt P 258) := ⟨⟨_, _, _, rfl⟩, rfl, rfl, rfl, rfl, rfl, rfl, rfl, rfl, rfl⟩
theorem fn263 (P : Params) : FnOk (KK P) 263 (fdAt P 263) (bodyAt P 263) := ⟨⟨_, _, _, rfl⟩, rfl, rfl, rfl, rfl, rfl, rfl, rfl, rfl, rfl⟩
theorem fn268 (P : Params) : FnOk (KK P) 268 (fdAt P 268) (bodyAt P 268) := ⟨⟨_, _, _, rfl⟩, rfl, rfl, rfl, rfl, rfl, rfl, rfl, rfl, rfl⟩
theorem fn273 (P : Params) : FnOk (KK P) 273 (fdAt P 273) (bodyAt P 273) := ⟨⟨_, _, _, rfl⟩, rfl, rfl, rfl, rfl, rfl, rfl, rfl, rfl, rfl⟩
theorem fn280 (P : Params) : FnOk (KK P) 280 (fdAt P 280) (bodyAt P 280) := ⟨⟨_, _, _, rfl⟩, rfl, rfl, rfl, rfl, rfl, rfl, rfl, rfl, rfl⟩
theorem fn285 (P : Params) : FnOk (KK P) 285 (fdAt P 285) (bodyAt P 285) := ⟨⟨_, _, _, rfl⟩, rfl, rfl, rfl, rfl, rfl, rfl, rfl, rfl, rfl⟩
theorem fn290 (P : Params) : FnOk (KK P) 290 (fdAt P 290) (bodyAt P 290) := ⟨⟨_, _, _, rfl⟩, rfl, rfl, rfl, rfl, rfl, rfl, rfl, rfl, rfl⟩
theorem fn295 (P : Params) : FnOk (KK P) 295 (fdAt P 295) (bodyAt P 295) := ⟨⟨_, _, _, rfl⟩, rfl, rfl, rfl, rfl, rfl, rfl, rfl, rfl, rfl⟩
theorem fn300 (P : Params) : FnOk (KK P) 300 (fdAt P 300) (bodyAt P 300) := ⟨⟨_, _, _, rfl⟩, rfl, rfl, rfl, rfl, rfl, rfl, rfl, rfl, rfl⟩
end
local macro_rules | `(tactic| trivial) => `(tactic| first | exact Put.here | exact Sw.here | exact At.here | (apply Put.there; trivial) | (apply Sw.there; trivial) | (apply At.there; trivial))
section
variable {prog : Program} {w : World} {g : Heap} {n : Nat} {sc : Scope} {ρ ρ' : List Ent} {mg mb : Str → Option Value}
noncomputable abbrev Item := Int × List Int
noncomputable abbrev pit (q : Item) : PV := .tup [.int q.1, .list (pints q.2)]
noncomputable abbrev pits (l : List Item) : List PV := l.map pit
noncomputable def dm (found rest : List Item) : List Item → List Item
  | [] => found ++ rest
  | p :: ps => dm (found ++ rest.takeWhile (fun q => decide (q.1 ≤ p.1)) ++ [p]) (rest.dropWhile (fun q => decide (q.1 ≤ p.1))) ps
theorem dm_len : ∀ (ps found rest : List Item), (dm found rest ps).length = found.length + rest.length + ps.length := by
  intro l0
  induction l0 with
  | nil => exact @fun _ _ => by simp [dm]
  | cons p ps ih =>
    intro f r
    rw [dm, ih]
    have : (r.takeWhile (fun q => decide (q.1 ≤ p.1))).length + (r.dropWhile (fun q => decide (q.1 ≤ p.1))).length = r.length := by
      rw [← List.length_append, List.takeWhile_append_dropWhile]
    simp; omega
theorem walk_dm (G : GG (KK w.params) g mg mb) (S Q : List Item) (hS : S.length ≤ 1000) (hQ : Q.length ≤ 1000) (cs : List (Str × Addr)) :
    WS prog w g n (fdAt w.params 139).scope (bodyAt w.params 139) (ents0 [(Str.ofString "singles", .val (.list (pits S))), (Str.ofString "pairs", .val (.list (pits Q)))] cs (fdAt w.params 139).scope.names) fun fl _ => fl = .ret (.list (pits (dm [] S Q))) := by
  show WS prog w g n _ _ [⟨_, none, .val (.list (pits S))⟩, ⟨_, none, .val (.list (pits Q))⟩, ⟨_, none, .unb⟩, ⟨_, none, .unb⟩, ⟨_, none, .unb⟩] _
  refine WS.gen fun K hK => ?_
  refine ws_cons (wx_new (wel_nil ⟨by decide, fun a => ⟨_, by trivial, ?_⟩⟩))
  refine ws_cons (wx_assign (we_int ⟨_, by trivial, ?_⟩))
  have hlen : (pits Q).length = Q.length := List.length_map ..
  refine ws_cons (wx_for (wi_list (we_name (by trivial) ⟨_, rfl, fun i ρ => ∃ (f : List Item) (pl : Nat) (e : Slot), ρ = [⟨Str.ofString "singles", none, .val (.list (pits S))⟩, ⟨Str.ofString "pairs", none, .val (.list (pits Q))⟩, ⟨Str.ofString "found", none, .lst a (pits f)⟩, ⟨Str.ofString "place", none, .val (.int pl)⟩, ⟨Str.ofString "pair", none, e⟩] ∧
    pl ≤ S.length ∧ f.length = pl + i ∧ dm f (S.drop pl) (Q.drop i) = dm [] S Q, ⟨[], 0, .unb, rfl, Nat.zero_le _, rfl, rfl⟩, ?_, ?_⟩)))
  · rintro i hi K hK hR ρ ⟨f, pl, e, rfl, h1, h2, h3⟩
    rw [hlen] at hi
    obtain ⟨q, hq⟩ : ∃ q, Q[i]? = some q := ⟨_, List.getElem?_eq_getElem hi⟩
    refine ⟨pit q, _, get_map hq, by trivial, ?_⟩
    have hd : Q.drop i = q :: Q.drop (i + 1) := by
      obtain ⟨_, e⟩ := List.getElem?_eq_some_iff.mp hq
      rw [← e]; exact List.drop_eq_getElem_cons hi
    refine ws_cons (wx_while (fun m ρ => ∃ (f' : List Item) (pl' : Nat), m = S.length - pl' ∧ ρ = [⟨Str.ofString "singles", none, .val (.list (pits S))⟩, ⟨Str.ofString "pairs", none, .val (.list (pits Q))⟩, ⟨Str.ofString "found", none, .lst a (pits f')⟩, ⟨Str.ofString "place", none, .val (.int pl')⟩, ⟨Str.ofString "pair", none, .val (pit q)⟩] ∧
      pl' ≤ S.length ∧ f'.length = pl' + i ∧ f' ++ (S.drop pl').takeWhile (fun x => decide (x.1 ≤ q.1)) = f ++ (S.drop pl).takeWhile (fun x => decide (x.1 ≤ q.1)) ∧ (S.drop pl').dropWhile (fun x => decide (x.1 ≤ q.1)) = (S.drop pl).dropWhile (fun x => decide (x.1 ≤ q.1))) _ ⟨f, pl, rfl, rfl, h1, h2, rfl, rfl⟩ ?_)
    rintro m K2 hK2 hR2 ρ ⟨f', pl', rfl, rfl, g1, g2, g3, g4⟩
    have hSl : (pits S).length = S.length := List.length_map ..
    refine wt_bool (wtl_and_cons (wt_cmp (we_name (by trivial) (we_call G.gf (by rfl) (gv_len G) True.intro (wel1 (we_name (by trivial) (pl_len (by rw [hSl]; omega) (pc_lt ⟨_, rfl, ?_⟩))) rfl)))))
    rw [hSl]
    have fin : (S.drop pl').takeWhile (fun x => decide (x.1 ≤ q.1)) = [] → (S.drop pl').dropWhile (fun x => decide (x.1 ≤ q.1)) = S.drop pl' →
        ∀ pp₁ pp₂ pp₃ pp₄ pp₅ : Pos, (Pos.endLine pp₂ == Pos.line pp₄) = true →
        WS prog w g n (fdAt w.params 139).scope [.Expr (.Call (.Attribute (.Name (Str.ofString "found") pp₁) (Str.ofString "append") pp₂) [.Name (Str.ofString "pair") pp₃] [] pp₄) pp₅] [⟨Str.ofString "singles", none, .val (.list (pits S))⟩, ⟨Str.ofString "pairs", none, .val (.list (pits Q))⟩, ⟨Str.ofString "found", none, .lst a (pits f')⟩, ⟨Str.ofString "place", none, .val (.int pl')⟩, ⟨Str.ofString "pair", none, .val (pit q)⟩] K := by
      intro t1 t2 pp₁ pp₂ pp₃ pp₄ pp₅ hp
      refine ws_cons (wx_append (by trivial) (we_name (by trivial) ⟨pits f', _, by simp; omega, by trivial, ?_⟩) rfl hp)
      refine ws_nil (hK _ ⟨f' ++ [q], pl', .val (pit q), by simp, g1, by simp; omega, ?_⟩)
      rw [← h3, hd, dm, ← g3, t1, ← g4, t2, List.append_nil]
    by_cases hlt : pl' < S.length
    · refine ifT (by simp; omega) ?_
      obtain ⟨x, hx⟩ : ∃ x, S[pl']? = some x := ⟨_, List.getElem?_eq_getElem hlt⟩
      have hdx : S.drop pl' = x :: S.drop (pl' + 1) := by
        obtain ⟨_, e⟩ := List.getElem?_eq_some_iff.mp hx
        rw [← e]; exact List.drop_eq_getElem_cons hlt
      refine wtl_and_cons (wt_cmp (we_sub (we_sub (we_name (by trivial) ⟨rfl, we_name (by trivial) (pi_list (d := pit x) (by omega) (by omega) (by simp [hx]) ⟨rfl, we_int (pi_tup (d := .int x.1) (by decide) (by decide) rfl ?_)⟩)⟩))))
      refine we_sub (we_name (by trivial) ⟨rfl, we_int (pi_tup (d := .int q.1) (by decide) (by decide) rfl (pc_le ⟨_, rfl, ?_⟩))⟩)
      by_cases hle : x.1 ≤ q.1
      · refine ifT (by simpa using hle) ?_
        refine wtl_and_nil ?_
        refine ifT rfl ?_
        refine ws_cons (wx_append (by trivial) (we_sub (we_name (by trivial) ⟨rfl, we_name (by trivial) (pi_list (d := pit x) (by omega) (by omega) (by simp [hx]) ⟨pits f', _, by simp; omega, by trivial, ?_⟩)⟩)))
        refine ws_cons (wx_assign (we_bin (we_name (by trivial) (we_int (po_add ⟨_, by trivial, ?_⟩)))))
        refine ws_nil (hK2 (S.length - (pl' + 1)) _ (by omega) ⟨f' ++ [x], pl' + 1, rfl, by simp, by omega, by simp; omega, ?_, ?_⟩)
        · rw [← g3, hdx, List.takeWhile_cons, if_pos (by simpa using hle)]; simp
        · rw [← g4, hdx, List.dropWhile_cons, if_pos (by simpa using hle)]
      · refine ifF (by simpa using hle) (ifF rfl ?_)
        refine fin (by rw [hdx, List.takeWhile_cons, if_neg (by simpa using hle)]) (by rw [hdx, List.dropWhile_cons, if_neg (by simpa using hle)]) _ _ _ _ _ rfl
    · refine ifF (by simp; omega) (ifF rfl ?_)
      have hz : S.drop pl' = [] := by apply List.drop_eq_nil_of_le; omega
      exact fin (by rw [hz]; rfl) (by rw [hz]; rfl) _ _ _ _ _ rfl
  · rintro ρ ⟨f, pl, e, rfl, h1, h2, h3⟩
    rw [hlen] at h2 h3
    rw [List.drop_length, dm] at h3
    refine ws_cons (wx_extend (by trivial) (we_from (we_name (by trivial) ⟨_, rfl, by simp; omega, we_name (by trivial) ⟨pl, rfl, pits f, _, _, rfl, by simp; omega, by simp; omega, by trivial, ?_⟩⟩)))
    refine ws_cons (wx_ret (we_frz (by trivial) (hK _ _ ?_)))
    show Fl.ret _ = Fl.ret _
    rw [← h3]
    simp
end
section
variable {prog : Program} {w : World} {g : Heap} {n : Nat} {sc : Scope} {ρ ρ' : List Ent} {mg mb : Str → Option Value}
theorem argSl_vals : ∀ ds : List PV, ArgSl ρ (ds.map Arg.d) (ds.map Slot.val)
  | [] => rfl
  | d :: ds => ⟨_, rfl, argSl_vals ds⟩
theorem con_vals {fd : FuncData} {body : List Stmt} {xs : List Str} {ds : List PV} {K : PV → List Ent → Prop} (hl : xs.length = ds.length) (hk : ((xs.zip (ds.map Slot.val)).all fun y => fd.scope.names.lookup y.1 == some .local || fd.scope.names.lookup y.1 == some .cell) = true)
    (h : ∀ cs, WS prog w g n fd.scope body (ents0 (xs.zip (ds.map Slot.val)) cs fd.scope.names) fun fl _ => K (match fl with | .ret d => d | .next => .none) ρ) : Con prog w g n fd body xs (ds.map Arg.d) ρ K := by
  refine ⟨_, [], ρ, argSl_vals ds, by simp [hl], Bw.refl ρ, by rw [fps_vals]; exact List.Perm.refl _, hk, fun cs => (h cs).mono fun fl ρ' k => ⟨[], ρ, Bw.refl ρ, by rw [fps_vals]; exact List.Perm.refl _, (fun u hu => nomatch hu), k⟩⟩
theorem bind1 {fd : FuncData} {x : Str} (h : ∀ a, bindArgs fd ⟨[a], []⟩ = pure [(x, a)]) : ∀ vs : List Value, vs.length = [x].length → ∀ s : Shared, (∀ b o, g.get? b = some o → s.heap.get? b = some o) → BindsTo s fd ⟨vs, []⟩ ([x].zip vs) := fun vs hl s _ => by
  rcases vs with _ | ⟨a, _ | _⟩ <;> first | cases hl | skip
  exact BindsTo.of_eq (h a)
theorem bind2 {fd : FuncData} {x y : Str} (h : ∀ a b, bindArgs fd ⟨[a, b], []⟩ = pure [(x, a), (y, b)]) : ∀ vs : List Value, vs.length = [x, y].length → ∀ s : Shared, (∀ b o, g.get? b = some o → s.heap.get? b = some o) → BindsTo s fd ⟨vs, []⟩ ([x, y].zip vs) := fun vs hl s _ => by
  rcases vs with _ | ⟨a, _ | ⟨b, _ | _⟩⟩ <;> first | cases hl | skip
  exact BindsTo.of_eq (h a b)
theorem bind3 {fd : FuncData} {x y z : Str} (h : ∀ a b c, bindArgs fd ⟨[a, b, c], []⟩ = pure [(x, a), (y, b), (z, c)]) : ∀ vs : List Value, vs.length = [x, y, z].length → ∀ s : Shared, (∀ b o, g.get? b = some o → s.heap.get? b = some o) → BindsTo s fd ⟨vs, []⟩ ([x, y, z].zip vs) := fun vs hl s _ => by
  rcases vs with _ | ⟨a, _ | ⟨b, _ | ⟨c, _ | _⟩⟩⟩ <;> first | cases hl | skip
  exact BindsTo.of_eq (h a b c)
noncomputable def roomF (ls : List Int) (most : Int) : List Int := (ls.filter fun l => decide (0 < l)).map fun l => 2 ^ (most - l).toNat
theorem walk_room (G : GG (KK w.params) g mg mb) (ls : List Int) (most : Int) (hl : ls.length ≤ 1000) (hr : ∀ l ∈ ls, 0 ≤ l ∧ l ≤ most) (hm : most ≤ 30) (cs : List (Str × Addr)) :
    WS prog w g n (fdAt w.params 263).scope (bodyAt w.params 263) (ents0 [(Str.ofString "lengths", .val (.list (pints ls))), (Str.ofString "most", .val (.int most))] cs (fdAt w.params 263).scope.names) fun fl _ => fl = .ret (.int (roomF ls most).sum) := by
  generalize hc : ((cs.lookup (Str.ofString "most")).getD 0) = c
  show WS prog w g n _ _ [⟨_, none, .val (.list (pints ls))⟩, ⟨_, some ((cs.lookup (Str.ofString "most")).getD 0), .val (.int most)⟩] _
  rw [hc]
  have hll : (pints ls).length = ls.length := List.length_map ..
  refine ws_cons (wx_ret (we_call G.gf (by rfl) (gv_sum G) True.intro (wel1 (we_comp [false, true] (wi_list (we_name (by trivial) ⟨_, rfl, by rfl, by omega, fun C => ⟨fun i acc ρ => ∃ e, ρ = [⟨Str.ofString ".0", none, .unb⟩, ⟨Str.ofString "length", none, e⟩, ⟨Str.ofString "most", some c, .val (.int most)⟩] ∧ acc = pints (roomF (ls.take i) most), ?_, ?_, ?_⟩⟩))) rfl)))
  · exact ⟨.unb, rfl, rfl⟩
  · rintro i hi F hF acc ρ ⟨e, rfl, rfl⟩
    rw [hll] at hi
    obtain ⟨q, hq⟩ : ∃ q, ls[i]? = some q := ⟨_, List.getElem?_eq_getElem hi⟩
    have hqm := List.mem_of_getElem? hq
    obtain ⟨q1, q2⟩ := hr q hqm
    have ht : ls.take (i + 1) = ls.take i ++ [q] := by rw [List.take_add_one, hq]; rfl
    refine ⟨.int q, _, get_map hq, by trivial, ?_⟩
    refine wt_cmp (we_name (by trivial) (we_int (pc_gt ⟨_, rfl, ?_⟩)))
    by_cases h0 : 0 < q
    · refine ifT (by simpa using h0) ?_
      refine we_bin (we_int (we_bin (we_name (by trivial) (we_name (by trivial) (po_sub ?_)))))
      refine po_pow (by omega) (by omega) (by decide) (hF _ _ ⟨_, rfl, ?_⟩)
      rw [ht]
      simp [roomF, h0]
    · refine ifF (by simpa using h0) (hF _ _ ⟨_, rfl, ?_⟩)
      rw [ht]
      simp [roomF, h0]
  · rintro acc ρ ⟨e, rfl, rfl⟩
    rw [hll, List.take_length]
    refine ⟨[_, _], [_], rfl, rfl, ?_⟩
    have hlen : (roomF ls most).length ≤ ls.length := by simp [roomF]; exact List.length_filter_le _ _
    refine pl_sum (by omega) (fun x hx => ?_) rfl
    simp only [roomF, List.mem_map, List.mem_filter] at hx
    obtain ⟨l, ⟨h1, h2⟩, rfl⟩ := hx
    obtain ⟨q1, q2⟩ := hr l h1
    have h3 : (2 : Nat) ^ (most - l).toNat ≤ 2 ^ 30 := Nat.pow_le_pow_right (by decide) (by omega)
    have h4 : (2 : Int) ^ (most - l).toNat = ((2 ^ (most - l).toNat : Nat) : Int) := by simp
    rw [h4]
    generalize 2 ^ (most - l).toNat = z at h3 ⊢
    omega
end
section
variable {prog : Program} {w : World} {g : Heap} {n : Nat} {sc : Scope} {ρ ρ' : List Ent} {mg mb : Str → Option Value}
theorem pints_get {M : List Int} {j : Nat} (h : j < M.length) : (pints M)[j]? = some (.int (M.getD j 0)) := by
  rw [List.getElem?_map, List.getElem?_eq_getElem h, List.getD_eq_getElem?_getD, List.getElem?_eq_getElem h]; rfl
theorem pints_set (M : List Int) (j : Nat) (v : Int) : (pints M).set j (.int v) = pints (M.set j v) := by simp [pints, List.map_set]
theorem take_next {α : Type} {l : List α} {i : Nat} {q : α} (h : l[i]? = some q) : l.take (i + 1) = l.take i ++ [q] := by rw [List.take_add_one, h]; rfl
noncomputable def mxF (ls : List Int) : Int := ls.foldr max 0
theorem mxF_is {ls : List Int} (h0 : ls ≠ []) (hn : ∀ l ∈ ls, 0 ≤ l) {m : Int} (hm : m ∈ ls) (hu : ∀ x ∈ ls, x ≤ m) : m = mxF ls := by
  have h1 : ∀ l : List Int, ∀ x ∈ l, x ≤ mxF l := by
    intro l
    induction l with
    | nil => intro x hx; cases hx
    | cons y l ih =>
      intro x hx
      unfold mxF
      rw [List.foldr_cons]
      rcases List.mem_cons.mp hx with rfl | hx
      · exact Int.le_max_left _ _
      · exact Int.le_trans (ih x hx) (Int.le_max_right _ _)
  have h2 : ∀ l : List Int, mxF l = 0 ∨ mxF l ∈ l := by
    intro l
    induction l with
    | nil => exact .inl rfl
    | cons y l ih =>
      unfold mxF
      rw [List.foldr_cons]
      show max y (mxF l) = 0 ∨ max y (mxF l) ∈ y :: l
      rcases Int.le_total y (mxF l) with h | h
      · rw [Int.max_eq_right h]
        exact ih.imp id fun h => .tail _ h
      · rw [Int.max_eq_left h]
        exact .inr (.head _)
  have := h1 ls m hm
  rcases h2 ls with h | h
  · have := hn m hm; omega
  · have := hu _ h; omega
theorem mxF_le {ls : List Int} {b : Int} (hb : 0 ≤ b) (h : ∀ l ∈ ls, l ≤ b) : 0 ≤ mxF ls ∧ mxF ls ≤ b := by
  induction ls with
  | nil => exact ⟨Int.le_refl _, hb⟩
  | cons y l ih =>
    have ⟨h1, h2⟩ := ih fun x hx => h x (.tail _ hx)
    have h3 := h y (.head _)
    unfold mxF at *
    rw [List.foldr_cons]
    omega
theorem le_mxF {ls : List Int} {x : Int} (hx : x ∈ ls) : x ≤ mxF ls := by
  induction ls with
  | nil => cases hx
  | cons y l ih =>
    unfold mxF at *
    rw [List.foldr_cons]
    rcases List.mem_cons.mp hx with rfl | hx
    · exact Int.le_max_left _ _
    · exact Int.le_trans (ih hx) (Int.le_max_right _ _)
noncomputable def szF (ls : List Int) : Nat := if ls = [] then 2 else (mxF ls + 2).toNat
noncomputable def manyS (m : List Int) (l : Int) : List Int := if 0 < l then m.set l.toNat (m.getD l.toNat 0 + 1) else m
noncomputable def manyF (ls : List Int) : List Int := ls.foldl manyS (List.replicate (szF ls) 0)
theorem manyS_len (m : List Int) : ∀ ls : List Int, (ls.foldl manyS m).length = m.length
  | [] => rfl
  | l :: ls => by
    rw [List.foldl_cons, manyS_len _ ls]
    unfold manyS; split <;> simp
noncomputable def codeF (M : List Int) : Nat → Int
  | 0 => 0
  | i + 1 => (codeF M i + (if 1 < ((1 : Int) + i) then M.getD i 0 else 0)) * 2
noncomputable def followF (M : List Int) : Nat → List Int
  | 0 => List.replicate M.length 0
  | i + 1 => (followF M i).set (i + 1) (codeF M (i + 1))
theorem followF_len (M : List Int) : ∀ i, (followF M i).length = M.length := by
  intro l0
  induction l0 with
  | zero => exact List.length_replicate ..
  | succ i ih =>
    simp [followF, ih]
noncomputable def cStep (st : List Int × List Int) (l : Int) : List Int × List Int := if l = 0 then (st.1 ++ [0], st.2) else (st.1 ++ [st.2.getD l.toNat 0], st.2.set l.toNat (st.2.getD l.toNat 0 + 1))
noncomputable def canonF (ls : List Int) : List Int := (ls.foldl cStep ([], followF (manyF ls) ((manyF ls).length - 1))).1
theorem cStep_len : ∀ (ls : List Int) (st : List Int × List Int), (ls.foldl cStep st).1.length = st.1.length + ls.length ∧ (ls.foldl cStep st).2.length = st.2.length := by
  intro l0
  induction l0 with
  | nil => exact @fun st => by simp
  | cons l ls ih =>
    intro st
    rw [List.foldl_cons]
    obtain ⟨h1, h2⟩ := ih (cStep st l)
    have h3 : (cStep st l).1.length = st.1.length + 1 ∧ (cStep st l).2.length = st.2.length := by
      unfold cStep
      split <;> simp
    rw [h1, h2, h3.1, h3.2]
    simp; omega
noncomputable abbrev canR (ls : List Int) (m len f code o : Slot) : List Ent := [⟨Str.ofString "lengths", none, .val (.list (pints ls))⟩, ⟨Str.ofString "many", none, m⟩, ⟨Str.ofString "length", none, len⟩, ⟨Str.ofString "following", none, f⟩, ⟨Str.ofString "code", none, code⟩, ⟨Str.ofString "found", none, o⟩]
theorem walk_canonical (G : GG (KK w.params) g mg mb) (ls : List Int) (hl : ls.length ≤ 1000) (hr : ∀ l ∈ ls, 0 ≤ l ∧ l ≤ 15) (hcode : ∀ i, i ≤ 17 → (codeF (manyF ls) i).natAbs < 2 ^ 50 ∧ ((manyF ls).getD i 0).natAbs < 2 ^ 50) (cs : List (Str × Addr)) :
    WS prog w g n (fdAt w.params 151).scope (bodyAt w.params 151) (ents0 [(Str.ofString "lengths", .val (.list (pints ls)))] cs (fdAt w.params 151).scope.names) fun fl _ => fl = .ret (.list (pints (canonF ls))) := by
  show WS prog w g n _ _ (canR ls .unb .unb .unb .unb .unb) _
  have hll : (pints ls).length = ls.length := List.length_map ..
  have hmx := mxF_le (b := 15) (by decide) fun l h => (hr l h).2
  have hsz : szF ls ≤ 17 ∧ 2 ≤ szF ls := by unfold szF; split <;> omega
  have hin : ∀ l ∈ ls, l.toNat < szF ls := fun l h => by
    have h1 := le_mxF h
    have h2 := (hr l h).1
    unfold szF
    rw [if_neg (List.ne_nil_of_mem h)]; omega
  have hM : (manyF ls).length = szF ls := by unfold manyF; rw [manyS_len]; simp
  refine WS.gen fun K hK => ?_
  refine ws_cons (wx_rep (we_int (WE.mono (K := fun d' ρ₂ => d' = .int (szF ls) ∧ ρ₂ = canR ls .unb .unb .unb .unb .unb) ?_ ?_)))
  · refine we_ifexp (wt_cmp (we_name (by trivial) (we_list (wel_nil ⟨pc_lne (ns := ls) (ms := []) ⟨_, rfl, ?_⟩, by decide⟩))))
    by_cases h0 : ls = []
    · refine ifF (by simp [h0]) ?_
      refine we_int ⟨?_, rfl⟩
      unfold szF; rw [if_pos h0]; rfl
    · refine ifT (by simp [h0]) ?_
      refine we_bin (we_call G.gf (by rfl) (gv_max G) True.intro (wel1 (we_name (by trivial) (pl_max h0 fun m hm hu => we_int (po_add ⟨?_, rfl⟩))) rfl))
      have := mxF_is h0 (fun l h => (hr l h).1) hm hu
      unfold szF; rw [if_neg h0, this]
      have : ((mxF ls + 2).toNat : Int) = mxF ls + 2 := by omega
      rw [this]
  rintro _ _ ⟨rfl, rfl⟩
  refine ⟨_, rfl, by omega, by omega, fun a => ⟨canR ls (.lst a (pints (List.replicate (szF ls) 0))) .unb .unb .unb .unb, ?_, ?_⟩⟩
  · have : List.replicate (Int.toNat (szF ls)) (PV.int 0) = pints (List.replicate (szF ls) 0) := by simp [pints]
    rw [this]; trivial
  refine ws_cons (wx_for (wi_list (we_name (by trivial) ⟨_, rfl, fun i ρ => ∃ e, ρ = canR ls (.lst a (pints ((ls.take i).foldl manyS (List.replicate (szF ls) 0)))) e .unb .unb .unb, ⟨.unb, rfl⟩, ?_, ?_⟩)))
  · rintro i hi K hK hR ρ ⟨e, rfl⟩
    rw [hll] at hi
    obtain ⟨q, hq⟩ : ∃ q, ls[i]? = some q := ⟨_, List.getElem?_eq_getElem hi⟩
    have hqm := List.mem_of_getElem? hq
    obtain ⟨q1, q2⟩ := hr q hqm
    have q3 := hin q hqm
    generalize hm : (ls.take i).foldl manyS (List.replicate (szF ls) 0) = m
    have hml : m.length = szF ls := by rw [← hm, manyS_len]; simp
    refine ⟨.int q, _, get_map hq, by trivial, ?_⟩
    refine ws_cons (wx_if (wt_cmp (we_name (by trivial) (we_int (pc_gt ⟨_, rfl, ?_⟩)))))
    by_cases h0 : 0 < q
    · refine ifT (by simpa using h0) ?_
      refine ws_cons (wx_set (we_bin (we_sub_own (by trivial) (we_name (by trivial) ⟨q, pints m, .int (m.getD q.toNat 0), rfl, by trivial, by omega, by omega, pints_get (by omega), we_int (po_add ⟨a, pints m, by trivial, we_name (by trivial) ⟨q, pints m, _, rfl, by omega, by simp; omega, by simp; omega, by trivial, ?_⟩⟩)⟩))))
      refine ws_nil (ws_nil (hK _ ⟨.val (.int q), ?_⟩))
      rw [take_next hq, List.foldl_append, hm]
      simp only [List.foldl_cons, List.foldl_nil, manyS, if_pos h0, pints_set]
    · refine ifF (by simpa using h0) ?_
      refine ws_nil (ws_nil (hK _ ⟨.val (.int q), ?_⟩))
      rw [take_next hq, List.foldl_append, hm]
      simp only [List.foldl_cons, List.foldl_nil, manyS, if_neg h0]
  rintro ρ ⟨e, rfl⟩
  rw [hll, List.take_length]
  show After _ _ _ (canR ls (.lst a (pints (manyF ls))) e .unb .unb .unb)
  have hMl : (pints (manyF ls)).length = szF ls := by simp [hM]
  refine ws_cons (wx_rep (we_int (we_len_own G.gf (by rfl) (gv_len G) (by trivial) (by omega) ⟨_, rfl, by omega, by omega, fun b => ⟨canR ls (.lst a (pints (manyF ls))) e (.lst b (pints (followF (manyF ls) 0))) .unb .unb, ?_, ?_⟩⟩)))
  · have : List.replicate (Int.toNat ((pints (manyF ls)).length : Nat)) (PV.int 0) = pints (followF (manyF ls) 0) := by simp [pints, followF]
    rw [this]; trivial
  refine ws_cons (wx_assign (we_int ⟨_, by trivial, ?_⟩))
  refine ws_cons (wx_for (wi_range2 G.gf (by rfl) (gv_range G) (we_int (we_len_own G.gf (by rfl) (gv_len G) (by trivial) (by omega) ⟨1, _, rfl, rfl, by omega, by omega, by decide, by decide, fun i ρ => ∃ e, ρ = canR ls (.lst a (pints (manyF ls))) e (.lst b (pints (followF (manyF ls) i))) (.val (.int (codeF (manyF ls) i))) .unb, ⟨e, rfl⟩, ?_, ?_⟩))))
  · rintro i hi K hK hR ρ ⟨e, rfl⟩
    rw [hMl] at hi ⊢
    have hi' : i + 1 < szF ls := by omega
    refine ⟨.int (1 + (i : Nat) * 1), _, rangePV_get hi, by trivial, ?_⟩
    have hfl : (followF (manyF ls) i).length = szF ls := by rw [followF_len, hM]
    refine ws_cons (wx_assign (we_bin (we_bin (we_name (by trivial) (we_ifexp (wt_cmp (we_name (by trivial) (we_int (pc_gt ⟨_, rfl, ?_⟩)))))))))
    have hc1 := hcode i (by omega)
    have hc2 := hcode (i + 1) (by omega)
    by_cases h1 : 1 < ((1 : Int) + (i : Nat) * 1)
    · refine ifT (by simpa using h1) ?_
      refine we_sub_own (by trivial) (we_bin (we_name (by trivial) (we_int (po_sub ⟨1 + (i : Nat) * 1 - 1, pints (manyF ls), .int ((manyF ls).getD i 0), rfl, by trivial, by omega, by omega, ?_, ?_⟩))))
      · have : ((1 : Int) + (i : Nat) * 1 - 1).toNat = i := by omega
        rw [this]; exact pints_get (by omega)
      · refine po_add (we_int (po_shl (by decide) (by decide) (natAbs_small hc1) ⟨_, by trivial, ?_⟩))
        refine ws_cons (wx_set (we_name (by trivial) ⟨b, pints (followF (manyF ls) i), by trivial, we_name (by trivial) ⟨_, pints (followF (manyF ls) i), _, rfl, by omega, by simp; omega, by simp; omega, by trivial, ?_⟩⟩))
        refine ws_nil (hK _ ⟨.val (.int (1 + (i : Nat) * 1)), ?_⟩)
        have e1 : ((1 : Int) + (i : Nat) * 1).toNat = i + 1 := by omega
        have e2 : codeF (manyF ls) (i + 1) = (codeF (manyF ls) i + (manyF ls).getD i 0) * 2 ^ (1 : Int).toNat := by
          show (_ + _) * 2 = _
          rw [if_pos (by omega)]; rfl
        rw [← e2, e1, pints_set]; rfl
    · refine ifF (by simpa using h1) ?_
      refine we_int (po_add (we_int (po_shl (by decide) (by decide) (by omega) ⟨_, by trivial, ?_⟩)))
      refine ws_cons (wx_set (we_name (by trivial) ⟨b, pints (followF (manyF ls) i), by trivial, we_name (by trivial) ⟨_, pints (followF (manyF ls) i), _, rfl, by omega, by simp; omega, by simp; omega, by trivial, ?_⟩⟩))
      refine ws_nil (hK _ ⟨.val (.int (1 + (i : Nat) * 1)), ?_⟩)
      have e1 : ((1 : Int) + (i : Nat) * 1).toNat = i + 1 := by omega
      have e2 : codeF (manyF ls) (i + 1) = (codeF (manyF ls) i + 0) * 2 ^ (1 : Int).toNat := by
        show (_ + _) * 2 = _
        rw [if_neg (by omega)]; rfl
      rw [← e2, e1, pints_set]; rfl
  rintro ρ ⟨e, rfl⟩
  rw [hMl]
  have hk : ((szF ls : Int) - 1).toNat = (manyF ls).length - 1 := by omega
  rw [hk]
  generalize hF : followF (manyF ls) ((manyF ls).length - 1) = F
  have hFl : F.length = szF ls := by rw [← hF, followF_len, hM]
  generalize codeF (manyF ls) ((manyF ls).length - 1) = lastc
  refine ws_cons (wx_new (wel_nil ⟨by decide, fun c => ⟨_, by trivial, ?_⟩⟩))
  refine ws_cons (wx_for (wi_list (we_name (by trivial) ⟨_, rfl, fun i ρ => ∃ e, ρ = canR ls (.lst a (pints (manyF ls))) e (.lst b (pints ((ls.take i).foldl cStep ([], F)).2)) (.val (.int lastc)) (.lst c (pints ((ls.take i).foldl cStep ([], F)).1)), ⟨e, rfl⟩, ?_, ?_⟩)))
  · rintro i hi K hK hR ρ ⟨e, rfl⟩
    rw [hll] at hi
    obtain ⟨q, hq⟩ : ∃ q, ls[i]? = some q := ⟨_, List.getElem?_eq_getElem hi⟩
    have hqm := List.mem_of_getElem? hq
    obtain ⟨q1, q2⟩ := hr q hqm
    have q3 := hin q hqm
    obtain ⟨l1, l2⟩ := cStep_len (ls.take i) ([], F)
    generalize hm : (ls.take i).foldl cStep ([], F) = st at l1 l2 ⊢
    obtain ⟨o, f⟩ := st
    dsimp only at l1 l2 ⊢
    rw [hFl] at l2
    have l3 : o.length ≤ 1000 := by rw [l1]; simp; omega
    refine ⟨.int q, _, get_map hq, by trivial, ?_⟩
    refine ws_cons (wx_if (wt_cmp (we_name (by trivial) (we_int (pc_eq ⟨_, rfl, ?_⟩)))))
    by_cases h0 : q = 0
    · refine ifT (by simpa using h0) ?_
      refine ws_cons (wx_append (by trivial) (we_int ⟨pints o, _, by simp; omega, by trivial, ?_⟩))
      refine ws_nil (ws_nil (hK _ ⟨.val (.int q), ?_⟩))
      rw [take_next hq, List.foldl_append, hm]
      simp only [List.foldl_cons, List.foldl_nil, cStep, if_pos h0, List.map_append, List.map_cons, List.map_nil]
    · refine ifF (by simpa using h0) ?_
      refine ws_cons (wx_append (by trivial) (we_sub_own (by trivial) (we_name (by trivial) ⟨q, pints f, .int (f.getD q.toNat 0), rfl, by trivial, by omega, by omega, pints_get (by omega), pints o, _, by simp; omega, by trivial, ?_⟩)))
      refine ws_cons (wx_set (we_bin (we_sub_own (by trivial) (we_name (by trivial) ⟨q, pints f, .int (f.getD q.toNat 0), rfl, by trivial, by omega, by omega, pints_get (by omega), we_int (po_add ⟨b, pints f, by trivial, we_name (by trivial) ⟨q, pints f, _, rfl, by omega, by simp; omega, by simp; omega, by trivial, ?_⟩⟩)⟩))))
      refine ws_nil (ws_nil (hK _ ⟨.val (.int q), ?_⟩))
      rw [take_next hq, List.foldl_append, hm]
      simp only [List.foldl_cons, List.foldl_nil, cStep, if_neg h0, pints_set, List.map_append, List.map_cons, List.map_nil]
  rintro ρ ⟨e, rfl⟩
  rw [hll, List.take_length]
  refine ws_cons (wx_ret (we_frz (by trivial) (hK _ _ ?_)))
  show Fl.ret _ = Fl.ret _
  rw [← hF]; rfl
end
section
variable {prog : Program} {w : World} {g : Heap} {n : Nat} {sc : Scope} {ρ ρ' : List Ent} {mg mb : Str → Option Value}
noncomputable def aheadP (l : Int) (s : Nat) (q : Int × Nat) : Bool := decide (0 < q.1) && (if q.1 = l then decide (q.2 < s) else decide (q.1 < l))
noncomputable def aheadF (ls : List Int) (l : Int) (s : Nat) : List Int := (ls.zipIdx.filter (aheadP l s)).map (·.1)
noncomputable def codeOf (ls : List Int) (l : Int) (s : Nat) : Int := ((aheadF ls l s).map fun o => (2 : Int) ^ (l - o).toNat).sum
noncomputable def codesF (ls : List Int) : List Int := ls.zipIdx.map fun q => codeOf ls q.1 q.2
theorem zipIdx_next {ls : List Int} {i : Nat} {q : Int} (h : ls[i]? = some q) : (ls.take (i + 1)).zipIdx = (ls.take i).zipIdx ++ [(q, i)] := by
  rw [take_next h, List.zipIdx_append]
  have hi : i < ls.length := (List.getElem?_eq_some_iff.mp h).1
  have : (ls.take i).length = i := by simp; omega
  rw [this]; simp
theorem enum_get {ls : List Int} {i : Nat} {q : Int} (h : ls[i]? = some q) : ((pints ls).mapIdx fun i d => PV.tup [.int i, d])[i]? = some (.tup [.int i, .int q]) := by simp [List.getElem?_mapIdx, h]
theorem pow_le_int {k b : Nat} (h : k ≤ b) : (0 : Int) ≤ 2 ^ k ∧ (2 : Int) ^ k ≤ 2 ^ b := by
  have h3 : (2 : Nat) ^ k ≤ 2 ^ b := Nat.pow_le_pow_right (by decide) h
  have h4 : (2 : Int) ^ k = ((2 ^ k : Nat) : Int) := by simp
  have h5 : (2 : Int) ^ b = ((2 ^ b : Nat) : Int) := by simp
  rw [h4, h5]
  generalize 2 ^ k = z at h3 ⊢
  generalize 2 ^ b = y at h3 ⊢
  omega
theorem aheadF_mem {ls : List Int} {l : Int} {s : Nat} {o : Int} (h : o ∈ aheadF ls l s) : o ∈ ls ∧ 0 < o ∧ o ≤ l := by
  unfold aheadF at h
  obtain ⟨q, hq, rfl⟩ := List.mem_map.mp h
  obtain ⟨h1, h2⟩ := List.mem_filter.mp hq
  refine ⟨(List.mem_zipIdx' h1).2 ▸ List.getElem_mem _, ?_⟩
  unfold aheadP at h2
  rw [Bool.and_eq_true] at h2
  have h3 : 0 < q.1 := by simpa using h2.1
  refine ⟨h3, ?_⟩
  have h4 := h2.2
  split at h4
  · omega
  · have : q.1 < l := by simpa using h4
    omega
noncomputable abbrev codR (ls : List Int) (c₁ c₂ : Addr) (found sign length ahead : Slot) : List Ent := [⟨Str.ofString "lengths", none, .val (.list (pints ls))⟩, ⟨Str.ofString "found", none, found⟩, ⟨Str.ofString "sign", some c₁, sign⟩, ⟨Str.ofString "length", some c₂, length⟩, ⟨Str.ofString "ahead", none, ahead⟩]
theorem walk_codes (G : GG (KK w.params) g mg mb) (ls : List Int) (hl : ls.length ≤ 1000) (hr : ∀ l ∈ ls, 0 ≤ l ∧ l ≤ 30) (cs : List (Str × Addr)) :
    WS prog w g n (fdAt w.params 290).scope (bodyAt w.params 290) (ents0 [(Str.ofString "lengths", .val (.list (pints ls)))] cs (fdAt w.params 290).scope.names) fun fl _ => fl = .ret (.list (pints (codesF ls))) := by
  generalize hc1 : ((cs.lookup (Str.ofString "sign")).getD 0) = c1
  generalize hc2 : ((cs.lookup (Str.ofString "length")).getD 0) = c2
  show WS prog w g n _ _ (codR ls ((cs.lookup (Str.ofString "sign")).getD 0) ((cs.lookup (Str.ofString "length")).getD 0) .unb .unb .unb .unb) _
  rw [hc1, hc2]
  have hll : (pints ls).length = ls.length := List.length_map ..
  have hml : ((pints ls).mapIdx fun i d => PV.tup [.int i, d]).length = ls.length := by simp
  refine WS.gen fun K hK => ?_
  refine ws_cons (wx_new (wel_nil ⟨by decide, fun a => ⟨_, by trivial, ?_⟩⟩))
  refine ws_cons (wx_for (wi_enum G.gf (by rfl) (gv_enumerate G) (we_name (by trivial) ⟨_, rfl, fun i ρ => ∃ s l h, ρ = codR ls c1 c2 (.lst a (pints ((ls.take i).zipIdx.map fun q => codeOf ls q.1 q.2))) s l h, ⟨.unb, .unb, .unb, rfl⟩, ?_, ?_⟩)))
  · rintro i hi K hK hR ρ ⟨s, l, h, rfl⟩
    rw [hll] at hi
    obtain ⟨q, hq⟩ : ∃ q, ls[i]? = some q := ⟨_, List.getElem?_eq_getElem hi⟩
    have hqm := List.mem_of_getElem? hq
    obtain ⟨q1, q2⟩ := hr q hqm
    refine ⟨.int i, .int q, _, _, enum_get hq, by trivial, by trivial, ?_⟩
    refine ws_cons (wx_assign_comp [false, false, true, true, false] (wi_enum G.gf (by rfl) (gv_enumerate G) (we_name (by trivial) ⟨_, rfl, by rfl, by omega, fun C => ⟨fun j acc ρ => ∃ p o, ρ = [⟨Str.ofString ".0", none, .unb⟩, ⟨Str.ofString "place", none, p⟩, ⟨Str.ofString "other", none, o⟩, ⟨Str.ofString "sign", some c1, .val (.int i)⟩, ⟨Str.ofString "length", some c2, .val (.int q)⟩] ∧ acc = pints (aheadF (ls.take j) q i), ?_, ?_, ?_⟩⟩)))
    · exact ⟨.unb, .unb, rfl, rfl⟩
    · rintro j hj F hF acc ρ ⟨p, o, rfl, rfl⟩
      rw [hll] at hj
      obtain ⟨z, hz⟩ : ∃ z, ls[j]? = some z := ⟨_, List.getElem?_eq_getElem hj⟩
      refine ⟨.int j, .int z, _, _, enum_get hz, by trivial, by trivial, ?_⟩
      refine wt_bool (wtl_and_cons (wt_cmp (we_name (by trivial) (we_int (pc_gt ⟨_, rfl, ?_⟩)))))
      have hnext : aheadF (ls.take (j + 1)) q i = if aheadP q i (z, j) = true then aheadF (ls.take j) q i ++ [z] else aheadF (ls.take j) q i := by
        unfold aheadF
        rw [zipIdx_next hz, List.filter_append]
        by_cases hp : aheadP q i (z, j) = true
        · simp [hp]
        · simp [hp]
      by_cases h0 : 0 < z
      · refine ifT (by simpa using h0) ?_
        refine wtl_and_cons (wt_cmp (we_tup (wel_cons (we_name (by trivial) (wel_cons (we_name (by trivial) (wel_nil ⟨we_tup (wel_cons (we_name (by trivial) (wel_cons (we_name (by trivial) (wel_nil ⟨pc_tlt ⟨_, rfl, ?_⟩, by show 2 ≤ 2 ^ 24; decide⟩))))), by show 2 ≤ 2 ^ 24; decide⟩)))))))
        have e1 : (if z = q then decide ((j : Int) < (i : Int)) else decide (z < q)) = aheadP q i (z, j) := by
          unfold aheadP
          simp only [decide_eq_true h0, Bool.true_and]
          split <;> simp
        rw [e1]
        by_cases hp : aheadP q i (z, j) = true
        · refine ifT hp (wtl_and_nil (ifT rfl ?_))
          refine we_name (by trivial) (hF _ _ ⟨_, _, rfl, ?_⟩)
          rw [hnext, if_pos hp]; simp
        · refine ifF (Bool.eq_false_iff.mpr hp) (ifF rfl ?_)
          refine hF _ _ ⟨_, _, rfl, ?_⟩
          rw [hnext, if_neg hp]
      · refine ifF (by simpa using h0) (ifF rfl ?_)
        refine hF _ _ ⟨_, _, rfl, ?_⟩
        have hp : ¬ aheadP q i (z, j) = true := by unfold aheadP; simp [h0]
        rw [hnext, if_neg hp]
    · rintro acc ρ ⟨p, o, rfl, rfl⟩
      rw [hll, List.take_length]
      refine ⟨[_, _, _], [_, _], rfl, rfl, _, by trivial, ?_⟩
      generalize hA : aheadF ls q i = A
      have hAl : A.length ≤ ls.length := by rw [← hA]; unfold aheadF; simp; exact Nat.le_trans (List.length_filter_le _ _) (by simp)
      have hAm : ∀ o ∈ A, 0 < o ∧ o ≤ q := fun o ho => (aheadF_mem (by rw [hA]; exact ho)).2
      refine ws_cons (wx_append (by trivial) (we_call G.gf (by rfl) (gv_sum G) True.intro (wel1 (we_comp [false, false, false, true, false] (wi_list (we_name (by trivial) ⟨_, rfl, by rfl, by simp; omega, fun C => ⟨fun j acc ρ => ∃ o, ρ = [⟨Str.ofString ".0", none, .unb⟩, ⟨Str.ofString "other", none, o⟩, ⟨Str.ofString "length", some c2, .val (.int q)⟩] ∧ acc = pints ((A.take j).map fun o => (2 : Int) ^ (q - o).toNat), ?_, ?_, ?_⟩⟩))) rfl)))
      · exact ⟨.unb, rfl, rfl⟩
      · rintro j hj F hF acc ρ ⟨o, rfl, rfl⟩
        have hj' : j < A.length := by simpa using hj
        obtain ⟨z, hz⟩ : ∃ z, A[j]? = some z := ⟨_, List.getElem?_eq_getElem hj'⟩
        obtain ⟨z1, z2⟩ := hAm z (List.mem_of_getElem? hz)
        refine ⟨.int z, _, get_map hz, by trivial, ?_⟩
        show WE prog w g n _ _ _ _
        refine we_bin (we_int (we_bin (we_name (by trivial) (we_name (by trivial) (po_sub (po_pow (by omega) (by omega) (by decide) (hF _ _ ⟨_, rfl, ?_⟩)))))))
        rw [take_next hz]; simp
      · rintro acc ρ ⟨o, rfl, rfl⟩
        refine ⟨[_, _], [_], rfl, rfl, ?_⟩
        have e1 : (pints A).length = A.length := List.length_map ..
        rw [e1, List.take_length]
        refine pl_sum (by simp; omega) (fun x hx => ?_) ⟨pints ((ls.take i).zipIdx.map fun q => codeOf ls q.1 q.2), _, by simp; omega, by trivial, ?_⟩
        · obtain ⟨o, ho, rfl⟩ := List.mem_map.mp hx
          obtain ⟨o1, o2⟩ := hAm o ho
          have := pow_le_int (k := (q - o).toNat) (b := 40) (by omega)
          exact this
        · refine ws_nil (hK _ ⟨.val (.int i), .val (.int q), .val (.list (pints A)), ?_⟩)
          rw [zipIdx_next hq, List.map_append]
          have e2 : ∀ (xs : List Int) y, pints (xs ++ [y]) = pints xs ++ [PV.int y] := fun xs y => by simp
          simp only [List.map_cons, List.map_nil, codeOf, hA]
          rw [e2]; rfl
  · rintro ρ ⟨s, l, h, rfl⟩
    rw [hll, List.take_length]
    exact ws_cons (wx_ret (we_frz (by trivial) (hK _ _ rfl)))
end
section
variable {prog : Program} {w : World} {g : Heap} {n : Nat} {sc : Scope} {ρ ρ' : List Ent} {mg mb : Str → Option Value}
noncomputable def padF (b : List Int) : List Int := b ++ List.replicate (Int.fmod (-(b.length : Int)) 8).toNat 0
noncomputable def byteF (b : List Int) (at' : Nat) : Int := ((List.range 8).map fun k => b.getD (at' + k) 0 * 2 ^ k).sum
noncomputable def packF (b : List Int) : List Int := (List.range ((padF b).length / 8)).map fun i => byteF (padF b) (8 * i)
theorem pad8 (n : Nat) : (Int.fmod (-(n : Int)) 8).toNat = (8 - n % 8) % 8 := by
  rw [Int.fmod_eq_emod_of_nonneg _ (by decide)]
  have e : (-(n : Int)) = ((8 - n % 8 : Nat) : Int) + 8 * (-((n / 8 : Nat) : Int) - 1) := by
    have h1 := Nat.div_add_mod n 8
    have h2 := Nat.mod_lt n (show 0 < 8 by decide)
    generalize n / 8 = q at *
    generalize n % 8 = r at *
    omega
  rw [e, Int.add_mul_emod_self_left]; rfl
theorem padF_len (b : List Int) : (padF b).length % 8 = 0 ∧ (padF b).length ≤ b.length + 7 := by
  have h1 : (padF b).length = b.length + (Int.fmod (-(b.length : Int)) 8).toNat := by simp [padF]
  rw [h1, pad8]; omega
theorem padF_mem {b : List Int} (hb : ∀ x ∈ b, x = 0 ∨ x = 1) : ∀ x ∈ padF b, x = 0 ∨ x = 1 := by
  intro x hx
  rcases List.mem_append.mp hx with h | h
  · exact hb x h
  · exact .inl (List.eq_of_mem_replicate h)
theorem bits_lt {f : Nat → Int} (hf : ∀ j, f j = 0 ∨ f j = 1) : ∀ k, 0 ≤ ((List.range k).map fun j => f j * 2 ^ j).sum ∧ ((List.range k).map fun j => f j * 2 ^ j).sum < 2 ^ k := by
  intro l0
  induction l0 with
  | zero => exact ⟨Int.le_refl _, (by decide : (0 : Int) < 2 ^ 0)⟩
  | succ k ih =>
    obtain ⟨h1, h2⟩ := ih
    rw [List.range_succ, List.map_append, List.sum_append, Int.pow_succ]
    generalize ((List.range k).map fun j => f j * 2 ^ j).sum = s at h1 h2 ⊢
    show 0 ≤ s + (f k * 2 ^ k + 0) ∧ s + (f k * 2 ^ k + 0) < 2 ^ k * 2
    generalize (2 : Int) ^ k = q at h2 ⊢
    rcases hf k with h | h <;> rw [h] <;> omega
theorem byteF_lt {b : List Int} (hb : ∀ x ∈ b, x = 0 ∨ x = 1) (i : Nat) : 0 ≤ byteF b i ∧ byteF b i < 256 :=
  bits_lt (f := fun j => b.getD (i + j) 0) (fun j => by
    rw [List.getD_eq_getElem?_getD]
    rcases hj : b[i + j]? with _ | x
    · exact .inl rfl
    · exact hb x (List.mem_of_getElem? hj)) 8
theorem getD01 {b : List Int} (hb : ∀ x ∈ b, x = 0 ∨ x = 1) (j : Nat) : b.getD j 0 = 0 ∨ b.getD j 0 = 1 := by
  rw [List.getD_eq_getElem?_getD]
  rcases hj : b[j]? with _ | x
  · exact .inl rfl
  · exact hb x (List.mem_of_getElem? hj)
theorem walk_packed (G : GG (KK w.params) g mg mb) (b : List Int) (hl : b.length ≤ 500) (hb : ∀ x ∈ b, x = 0 ∨ x = 1) (cs : List (Str × Addr)) :
    WS prog w g n (fdAt w.params 295).scope (bodyAt w.params 295) (ents0 [(Str.ofString "bits", .val (.list (pints b)))] cs (fdAt w.params 295).scope.names) fun fl _ => fl = .ret (.bytes (byteArr (packF b))) := by
  generalize hc : ((cs.lookup (Str.ofString "bits")).getD 0) = c
  show WS prog w g n _ _ [⟨Str.ofString "bits", some ((cs.lookup (Str.ofString "bits")).getD 0), .val (.list (pints b))⟩] _
  rw [hc]
  have hll : (pints b).length = b.length := List.length_map ..
  have hpl := padF_len b
  have hpm := padF_mem hb
  have hfm : 0 ≤ Int.fmod (-(b.length : Int)) 8 ∧ Int.fmod (-(b.length : Int)) 8 < 8 := by rw [Int.fmod_eq_emod_of_nonneg _ (by decide)]; omega
  refine ws_cons (wx_assign (we_bin (we_name (by trivial) (we_rep (we_int (we_bin (we_neg (we_call G.gf (by rfl) (gv_len G) True.intro (wel1 (we_name (by trivial) (pl_len (by omega) ⟨(b.length : Int), by rw [hll], we_int (po_mod (by decide) ⟨_, rfl, hfm.1, by omega, po_cat ⟨[⟨Str.ofString "bits", some c, .val (.list (pints (padF b)))⟩], ?_, ?_⟩ ?_⟩)⟩)) rfl)))))))))
  · have : pints b ++ List.replicate (Int.fmod (-(b.length : Int)) 8).toNat (PV.int 0) = pints (padF b) := by simp [padF, pints]
    rw [this]; trivial
  · generalize hp : padF b = p at hpl hpm ⊢
    have hpl1 : (pints p).length = p.length := List.length_map ..
    have hsz : (Builtin.Range.rangeSize 0 (((pints p).length : Nat) : Int) 8).toNat = p.length / 8 := by rw [hpl1]; exact (rs_up p.length 8 (by decide)).trans (by omega)
    refine ws_cons (wx_ret (we_call G.gf (by rfl) (gv_bytes G) True.intro (wel1 (we_comp [true] (wi_range3 G.gf (by rfl) (gv_range G) (we_int (we_call G.gf (by rfl) (gv_len G) True.intro (wel1 (we_name (by trivial) (pl_len (by omega) (we_int ⟨0, _, 8, rfl, rfl, rfl, by decide, by omega, by omega, by decide, by decide, by decide, by decide, rfl, ?_, fun C => ⟨fun i acc ρ => ∃ e, ρ = [⟨Str.ofString ".0", none, .unb⟩, ⟨Str.ofString "at", some (C + 1), e⟩, ⟨Str.ofString "bits", some c, .val (.list (pints p))⟩] ∧ acc = pints ((List.range i).map fun i => byteF p (8 * i)), ?_, ?_, ?_⟩⟩))) rfl))))) rfl)))
    · show (Builtin.Range.rangeSize 0 (((pints p).length : Nat) : Int) 8).toNat ≤ 2 ^ 20; omega
    · exact ⟨_, rfl, rfl⟩
    · rintro i hi F hF acc ρ ⟨e, rfl, rfl⟩
      rw [hsz] at hi
      refine ⟨.int (0 + (i : Nat) * 8), _, rangePV_get (by rw [hsz]; exact hi), by trivial, ?_⟩
      show WE prog w g n _ _ _ _
      have e8 : (0 : Int) + (i : Nat) * 8 = ((8 * i : Nat) : Int) := by omega
      rw [e8]
      refine we_call G.gf (by rfl) (gv_sum G) True.intro (wel1 (we_comp [false, true, true] (wi_range1 G.gf (by rfl) (gv_range G) (we_int ⟨8, rfl, by decide, by decide, rfl, by decide, fun D => ⟨fun k acc ρ => ∃ e, ρ = [⟨Str.ofString ".0", none, .unb⟩, ⟨Str.ofString "k", none, e⟩, ⟨Str.ofString "at", some (C + 1), .val (.int ((8 * i : Nat) : Int))⟩, ⟨Str.ofString "bits", some c, .val (.list (pints p))⟩] ∧ acc = pints ((List.range k).map fun k => p.getD (8 * i + k) 0 * 2 ^ k), ?_, ?_, ?_⟩⟩))) rfl)
      · exact ⟨_, rfl, rfl⟩
      · rintro k hk F hF acc ρ ⟨e, rfl, rfl⟩
        have hk' : k < 8 := hk
        refine ⟨.int (0 + (k : Nat) * 1), _, rangePV_get hk, by trivial, ?_⟩
        show WE prog w g n _ _ _ _
        refine we_bin (we_sub (we_name (by trivial) ⟨rfl, we_bin (we_name (by trivial) (we_name (by trivial) (po_add (pi_list (by omega) (by omega) (pints_get (by omega)) (we_bin (we_int (we_name (by trivial) (po_pow (by omega) (by omega) (by decide) (po_mul (hF _ _ ⟨_, rfl, ?_⟩) ?_)))))))))⟩))
        · rw [List.range_succ]
          have e1 : ((8 * i : Nat) : Int) + (0 + (k : Int) * 1) = ((8 * i + k : Nat) : Int) := by omega
          have e2 : (0 + (k : Int) * 1).toNat = k := by omega
          rw [e1, e2, Int.toNat_natCast]
          simp only [List.map_append, List.map_cons, List.map_nil]
        · rcases getD01 hpm ((((8 * i : Nat) : Int) + (0 + (k : Int) * 1)).toNat) with h | h <;> rw [h] <;> exact IntMulOk.of_left (by decide)
      · rintro acc ρ ⟨e, rfl, rfl⟩
        refine ⟨[_, _], [_, _], rfl, rfl, ?_⟩
        refine pl_sum (by simp) (fun x hx => ?_) (hF _ _ ⟨_, rfl, ?_⟩)
        · obtain ⟨k, hk, rfl⟩ := List.mem_map.mp hx
          have hk' : k < 8 := List.mem_range.mp hk
          have h2 := pow_le_int (k := k) (b := 8) (by omega)
          have h3 : (2 : Int) ^ 8 = 256 := rfl
          have h4 : (2 : Int) ^ 40 = 1099511627776 := rfl
          rw [h4]
          rcases getD01 hpm (8 * i + k) with h | h <;> rw [h]
          · omega
          · omega
        · rw [List.range_succ]; simp only [List.map_append, List.map_cons, List.map_nil]; rfl
    · rintro acc ρ ⟨e, rfl, rfl⟩
      rw [hsz]
      refine ⟨[_, _], [_], rfl, rfl, ?_⟩
      refine pl_bytes_ints (by simp; omega) (fun x hx => ?_) ?_
      · obtain ⟨j, _, rfl⟩ := List.mem_map.mp hx
        exact byteF_lt hpm _
      · unfold packF; rw [hp]; rfl
  · rw [hll]; simp [sizeLine]; omega
end
section
variable {prog : Program} {w : World} {g : Heap} {n : Nat} {sc : Scope} {ρ ρ' : List Ent}
variable (prog w g n sc) in
noncomputable def Clause2 (scope : Scope) (target2 iter2 elt : Expr) (acc : List PV) (F : List PV → List Ent → Prop) (ρ' : List Ent) : Prop :=
  WI prog w g n (relab scope sc) target2 iter2 ρ' fun m2 B2 ρ2 => CompI (fun acc F ρ' => acc.length < 2 ^ 20 ∧ WE prog w g n (relab scope sc) elt ρ' fun d ρ₃ => F (acc ++ [d]) ρ₃) m2 B2 acc ρ2 F
theorem compTurn2_out (elt target iter target2 iter2 : Expr) (scope : Scope) (pos : Pos) (it acc : Value) (env : Env) :
    compTurn (.ListComp elt [⟨target, iter, [], 0⟩, ⟨target2, iter2, [], 0⟩] scope pos) 0 it acc env = (do
      standAt iter.pos
      match ← pyNext it with
      | none => pure (.done .next)
      | some v =>
        letOwnedTupleGo target it v
        assign target env v
        let x ← eval iter2 env
        standAt iter2.pos
        let x ← foldedSetIterable iter2 env x
        let _ ← runOwn (.compStart (.ListComp elt [⟨target, iter, [], 0⟩, ⟨target2, iter2, [], 0⟩] scope pos) 1 (← holding [x] (pyIter x)) acc env) env
        again (.compLoop (.ListComp elt [⟨target, iter, [], 0⟩, ⟨target2, iter2, [], 0⟩] scope pos) 0 it acc env)) := by rfl
theorem compTurn2_in (elt target iter target2 iter2 : Expr) (scope : Scope) (pos : Pos) (it acc : Value) (env : Env) :
    compTurn (.ListComp elt [⟨target, iter, [], 0⟩, ⟨target2, iter2, [], 0⟩] scope pos) 1 it acc env = (do
      standAt iter2.pos
      match ← pyNext it with
      | none => pure (.done .next)
      | some v =>
        letOwnedTupleGo target2 it v
        assign target2 env v
        (do let _ ← call (.builtin "list.append") [acc, ← eval elt env])
        again (.compLoop (.ListComp elt [⟨target, iter, [], 0⟩, ⟨target2, iter2, [], 0⟩] scope pos) 1 it acc env)) := by rfl
theorem codeAny_compStart_list1 {E0 : Expr} {A : Around} {R : Result → Shared → Prop} {s : Shared} {elt target iter target2 iter2 : Expr} {scope : Scope} {pos : Pos} {it acc : Value} {env : Env} (he : E0 = (.ListComp elt [⟨target, iter, [], 0⟩, ⟨target2, iter2, [], 0⟩] scope pos))
    (h0 : codeAny (model prog w) A (.compLoop E0 1 it acc env) R s)
    (h : wpAny (model prog w) A (pyIter it) (fun it' s' => codeAny (model prog w) A (.compLoop E0 1 it' acc env) R s') (notedBy (model prog w) A env fun x s' => R (.error x) s') s) :
    codeAny (model prog w) A (.compStart E0 1 it acc env) R s := by
  subst he
  refine codeAny_of_tree ?_
  show wpAny _ _ ((compStart (.ListComp elt [⟨target, iter, [], 0⟩, ⟨target2, iter2, [], 0⟩] scope pos) 1 it acc env).onRaise (fun x => do noteFrame x env; standAt theWindowsPlace)) _ _ s
  refine wpAny_notedAt ?_
  unfold compStart
  show wpAny _ _ (ask >>= _) _ _ s
  refine wpAny_bind (wpAny_askSetting (wpAny_ite ?_))
  split
  · first
      | exact wpAny_bind (wpAny_pure (wpAny_pure (And.intro rfl h0)))
      | exact wpAny_pure (And.intro rfl h0)
  · first
      | exact wpAny_bind (wpAny_rule (wpAny_bind (wpAny_standAt (wpAny_bind (wpAny_mono h (fun it' s' h' => wpAny_pure (And.intro rfl h')) fun _ _ x => x)))))
      | (refine wpAny_bind (wpAny_rule ?_); show wpAny _ _ (standAt iter2.pos >>= _) _ _ s; exact wpAny_bind (wpAny_standAt (wpAny_bind (wpAny_mono h (fun it' s' h' => wpAny_pure (And.intro rfl h')) fun _ _ x => x))))
theorem PostX.outX {P : Params} {env : Env} {H wr X : Addr → Prop} {ρ₁ : List Ent} {s s₀ s₁ : Shared} (p : PostX P g env H (fun a => wr a ∨ X a) ρ s ρ₁ s₁) (k : Keeps s₀ s) (hwr : ∀ a, wr a → s₀.heap.get? a = none) : PostX P g env H X ρ s₀ ρ₁ s₁ := by
  refine ⟨p.sr, same_trans (keeps_same k) p.same, fun b o hb e => p.keep b o (fun hc => ?_) (keeps_get k e), fun b hb => (p.new b hb).imp id (keeps_none k), p.shape⟩
  rcases hc with hc | hc | hc
  · exact hb (.inl hc)
  · rw [hwr b hc] at e; cases e
  · exact hb (.inr hc)
theorem comp_inner {cenv : Env} {A : Around} {D : Addr} {acc : List PV} {c : Code} {elt target iter target2 iter2 : Expr} {scope : Scope} {pos : Pos} {F F' : List PV → List Ent → Prop} (hF : ∀ xs ρ, F' xs ρ → F xs ρ)
    (hs2 : ∀ env x, foldedSetIterable iter2 env x = pure x) (okc : EnvOk cenv) (hsc : cenv.scope = relab scope sc) (hA : Room n A) (h : Clause2 prog w g n sc scope target2 iter2 elt acc F' ρ) :
    Tail prog w g cenv A D (do
        let x ← eval iter2 cenv
        standAt iter2.pos
        let x ← foldedSetIterable iter2 cenv x
        let _ ← runOwn (.compStart (.ListComp elt [⟨target, iter, [], 0⟩, ⟨target2, iter2, [], 0⟩] scope pos) 1 (← holding [x] (pyIter x)) (.ref D) cenv) cenv
        again c) c acc F ρ := by
  intro H s vs hD sr hl hr
  refine wpAny_bind (wpAny_mono (h cenv A H s hsc okc hA sr) (fun x s6 h6 => wpAny_bind (wpAny_standAt (wpAny_bind (wpAny_of_eq (hs2 cenv x) (wpAny_bind (wpAny_holding (wpAny_mono h6 (fun it2 s2 h2 => wpAny_bind (wpAny_runOwn (codeAny_mono (R := fun r s' => ∃ f, r = .ok f ∧ TR w.params g cenv H D F ρ s s') ?_ fun r s8 h8 => ?_))) noE_to))))))) noE_to)
  · obtain ⟨ρ1, m, B, s1, ⟨J, j0, turn, fin⟩, p1, wr, St, ks, st0, hwr, L⟩ := h2
    have eH : (fun a => H a ∨ (wr a ∨ a = D)) = (fun a => H a ∨ wr a) := by
      funext a
      refine propext ⟨fun h => h.elim .inl fun h => h.elim .inr fun h => .inl (h ▸ hD), fun h => h.imp id .inl⟩
    have sr0 : SR w.params g cenv (fun a => H a ∨ (wr a ∨ a = D)) ρ1 s2.heap := by
      rw [eH]
      exact p1.sr.hide (fun b o e => keeps_get ks e) hwr fun a ha => g_none_of p1.sr (hwr a ha).1
    have Lp := (L cenv H (· = D) ρ1 s2 okc (Keeps.refl' _) sr0 (fun _ h => .inl h) fun a h => .inl (.inl (h ▸ hD))).2
    have hwD : ¬ wr D := fun h => by
      have h2 := (p1.sr.dom D (.inl hD)).1
      rw [(hwr D h).1] at h2; cases h2
    have hr2 : RdL s2.heap (Tt cenv (fun a => H a ∨ (wr a ∨ a = D)) ρ1) acc vs := by
      rw [eH]
      exact src_rdL ks (Keeps.refl' _) (fun a h => .inl h) (fun a h => .inr (hwr a h).1) (p1.rdL hr)
    have loop : codeAny (model prog w) A (.compLoop (.ListComp elt [⟨target, iter, [], 0⟩, ⟨target2, iter2, [], 0⟩] scope pos) 1 it2 (.ref D) cenv) (fun r s' => ∃ f, r = .ok f ∧ TR w.params g cenv H D F ρ s s') s2 :=
      comp_loop (G := fun acc F ρ' => acc.length < 2 ^ 20 ∧ WE prog w g n (relab scope sc) elt ρ' fun d ρ₃ => F (acc ++ [d]) ρ₃) (fun _ _ => True) (compTurn2_in elt target iter target2 iter2 scope pos it2 (.ref D) cenv) Lp hwD sr0 st0
        (hl.at fun o e => keeps_get ks (p1.keep D o (fun hc => sr.sep D (List.mem_cons.mpr hc) hD) e)) hr2 j0 trivial (fun i acc ρ hi h => turn i hi (J (i + 1)) (fun _ _ h => h) acc ρ h) (fun j acc ρ hj _ hG => tail_elt hsc okc hA hG.1 (hG.2.mono fun d ρ₃ k => ⟨k, trivial⟩))
        fun xs vs ρ' s' hJ hoff hl hr q => ⟨_, rfl, xs, vs, ρ', hF xs ρ' (fin xs ρ' hJ), hl, hr, (PostX.of0 (wr := (· = D)) p1).comp (fun _ h => h) (fun a h => h ▸ hD) (q.outX ks fun a ha => (hwr a ha).1)⟩
    exact codeAny_compStart_list1 rfl loop (wpAny_mono (Lp.self _ (fun it' s' => codeAny (model prog w) A (.compLoop (.ListComp elt [⟨target, iter, [], 0⟩, ⟨target2, iter2, [], 0⟩] scope pos) 1 it' (.ref D) cenv) _ s') st0 loop) (fun _ _ h => h) noE_to)
  · obtain ⟨f, rfl, tr⟩ := h8
    exact wpAny_pure ⟨rfl, tr⟩
theorem we_comp2 {target iter elt target2 iter2 : Expr} {scope : Scope} {pos : Pos} {K : PV → List Ent → Prop} (mask : List Bool) (h : WI prog w g n sc target iter ρ (CompG (Clause2 prog w g n sc scope target2 iter2 elt) mask scope K))
    (hf : (freeNames scope.names).all (fun x => ρ.any fun e => e.x == x && e.loc.isSome) = true := by rfl) (hk : scope.kind = .function := by rfl) (hnd : nodupB (scope.names.map (·.1)) = true := by decide) (hs : ∀ env x, foldedSetIterable iter env x = pure x := by intro _ _; rfl) (hs2 : ∀ env x, foldedSetIterable iter2 env x = pure x := by intro _ _; rfl) :
    WE prog w g n sc (.ListComp elt [⟨target, iter, [], 0⟩, ⟨target2, iter2, [], 0⟩] scope pos) ρ K := by
  intro env A H s hsc ok hA sr
  rw [eval_ListComp]
  refine wpAny_comprehension_free (use := none) rfl (hs env) (clos_of sr hf) hk (namesB (nodupB_is hnd)) (wpAny_mono (h env A H s hsc ok hA sr) (fun xv s₁ h₁ => wpAny_mono h₁ (fun it s₂ h₂ => ?_) fun _ _ e => e) fun _ _ e => e)
  refine comp_blockG (G := Clause2 prog w g n sc scope target2 iter2 elt) (fun _ _ => True) ok hsc hA trivial (fun acc cenv => compTurn2_out elt target iter target2 iter2 scope pos it acc cenv)
    (fun m B ρ₁ h => ⟨h, fun i acc F ρ cenv D hi hL hs okc hG => comp_inner (fun xs ρ k => ⟨k, trivial⟩) hs2 okc hs hA hG⟩) h₂ fun ρ1 s1 C D ρout xs s' p1 k hC q r hns => ?_
  obtain ⟨mm, hns⟩ := hns
  refine ⟨mm, hns, fun h' hs' => ?_⟩
  have hHC : ¬ H C := fun hc => by
    have := (p1.sr.dom C (.inl hc)).1
    rw [hC] at this; cases this
  refine ⟨_, ρout, k, p1.trans (q.drop hC hHC hs'), r.mono (fun a o ha e => hs'.extBut a o (fun hc => ha (.inl (.inr hc))) e) fun a ha => .inl (ha.imp .inl id)⟩
end
section
variable {prog : Program} {w : World} {g : Heap} {n : Nat} {sc : Scope} {ρ ρ' : List Ent} {mg mb : Str → Option Value}
theorem b139 (P : Params) (a b : Value) : bindArgs (fdAt P 139) ⟨[a, b], []⟩ = pure [(Str.ofString "singles", a), (Str.ofString "pairs", b)] := by
  have e : fdAt P 139 = fdAt P 139 := rfl
  conv at e => rhs; unfold fdAt; whnf
  rw [e]; rfl
theorem b144 (P : Params) (a b : Value) : bindArgs (fdAt P 144) ⟨[a, b], []⟩ = pure [(Str.ofString "counts", a), (Str.ofString "most", b)] := by
  have e : fdAt P 144 = fdAt P 144 := rfl
  conv at e => rhs; unfold fdAt; whnf
  rw [e]; rfl
theorem b151 (P : Params) (a : Value) : bindArgs (fdAt P 151) ⟨[a], []⟩ = pure [(Str.ofString "lengths", a)] := by
  have e : fdAt P 151 = fdAt P 151 := rfl
  conv at e => rhs; unfold fdAt; whnf
  rw [e]; rfl
theorem b251 (P : Params) (a : Value) : bindArgs (fdAt P 251) ⟨[a], []⟩ = pure [(Str.ofString "script", a)] := by
  have e : fdAt P 251 = fdAt P 251 := rfl
  conv at e => rhs; unfold fdAt; whnf
  rw [e]; rfl
theorem b258 (P : Params) (a b : Value) : bindArgs (fdAt P 258) ⟨[a, b], []⟩ = pure [(Str.ofString "deck", a), (Str.ofString "below", b)] := by
  have e : fdAt P 258 = fdAt P 258 := rfl
  conv at e => rhs; unfold fdAt; whnf
  rw [e]; rfl
theorem b263 (P : Params) (a b : Value) : bindArgs (fdAt P 263) ⟨[a, b], []⟩ = pure [(Str.ofString "lengths", a), (Str.ofString "most", b)] := by
  have e : fdAt P 263 = fdAt P 263 := rfl
  conv at e => rhs; unfold fdAt; whnf
  rw [e]; rfl
theorem b268 (P : Params) (a b c : Value) : bindArgs (fdAt P 268) ⟨[a, b, c], []⟩ = pure [(Str.ofString "many", a), (Str.ofString "least", b), (Str.ofString "most", c)] := by
  have e : fdAt P 268 = fdAt P 268 := rfl
  conv at e => rhs; unfold fdAt; whnf
  rw [e]; rfl
theorem b273 (P : Params) (a b : Value) : bindArgs (fdAt P 273) ⟨[a, b], []⟩ = pure [(Str.ofString "counts", a), (Str.ofString "most", b)] := by
  have e : fdAt P 273 = fdAt P 273 := rfl
  conv at e => rhs; unfold fdAt; whnf
  rw [e]; rfl
theorem b280 (P : Params) (a b : Value) : bindArgs (fdAt P 280) ⟨[a, b], []⟩ = pure [(Str.ofString "counts", a), (Str.ofString "most", b)] := by
  have e : fdAt P 280 = fdAt P 280 := rfl
  conv at e => rhs; unfold fdAt; whnf
  rw [e]; rfl
theorem b285 (P : Params) (a b c : Value) : bindArgs (fdAt P 285) ⟨[a, b, c], []⟩ = pure [(Str.ofString "counts", a), (Str.ofString "most", b), (Str.ofString "told", c)] := by
  have e : fdAt P 285 = fdAt P 285 := rfl
  conv at e => rhs; unfold fdAt; whnf
  rw [e]; rfl
theorem b290 (P : Params) (a : Value) : bindArgs (fdAt P 290) ⟨[a], []⟩ = pure [(Str.ofString "lengths", a)] := by
  have e : fdAt P 290 = fdAt P 290 := rfl
  conv at e => rhs; unfold fdAt; whnf
  rw [e]; rfl
theorem b295 (P : Params) (a : Value) : bindArgs (fdAt P 295) ⟨[a], []⟩ = pure [(Str.ofString "bits", a)] := by
  have e : fdAt P 295 = fdAt P 295 := rfl
  conv at e => rhs; unfold fdAt; whnf
  rw [e]; rfl
theorem b300 (P : Params) (a : Value) : bindArgs (fdAt P 300) ⟨[a], []⟩ = pure [(Str.ofString "script", a)] := by
  have e : fdAt P 300 = fdAt P 300 := rfl
  conv at e => rhs; unfold fdAt; whnf
  rw [e]; rfl
theorem b76 (P : Params) (a b c : Value) : bindArgs (fdAt P 76) ⟨[a, b, c], []⟩ = pure [(Str.ofString "self", a), (Str.ofString "number", b), (Str.ofString "many", c)] := by
  have e : fdAt P 76 = fdAt P 76 := rfl
  conv at e => rhs; unfold fdAt; whnf
  rw [e]; rfl
theorem b83 (P : Params) (a b c : Value) : bindArgs (fdAt P 83) ⟨[a, b, c], []⟩ = pure [(Str.ofString "self", a), (Str.ofString "code", b), (Str.ofString "many", c)] := by
  have e : fdAt P 83 = fdAt P 83 := rfl
  conv at e => rhs; unfold fdAt; whnf
  rw [e]; rfl
theorem b90 (P : Params) (a : Value) : bindArgs (fdAt P 90) ⟨[a], []⟩ = pure [(Str.ofString "self", a)] := by
  have e : fdAt P 90 = fdAt P 90 := rfl
  conv at e => rhs; unfold fdAt; whnf
  rw [e]; rfl
theorem b104 (P : Params) (a : Value) : bindArgs (fdAt P 104) ⟨[a], []⟩ = pure [(Str.ofString "self", a)] := by
  have e : fdAt P 104 = fdAt P 104 := rfl
  conv at e => rhs; unfold fdAt; whnf
  rw [e]; rfl
theorem b125 (P : Params) (a : Value) : bindArgs (fdAt P 125) ⟨[a], []⟩ = pure [(Str.ofString "self", a)] := by
  have e : fdAt P 125 = fdAt P 125 := rfl
  conv at e => rhs; unfold fdAt; whnf
  rw [e]; rfl
theorem b181 (P : Params) (a b : Value) : bindArgs (fdAt P 181) ⟨[a, b], []⟩ = pure [(Str.ofString "self", a), (Str.ofString "many", b)] := by
  have e : fdAt P 181 = fdAt P 181 := rfl
  conv at e => rhs; unfold fdAt; whnf
  rw [e]; rfl
theorem b224 (P : Params) (a b c : Value) : bindArgs (fdAt P 224) ⟨[a, b, c], []⟩ = pure [(Str.ofString "self", a), (Str.ofString "is_distance", b), (Str.ofString "can_be_lone", c)] := by
  have e : fdAt P 224 = fdAt P 224 := rfl
  conv at e => rhs; unfold fdAt; whnf
  rw [e]; rfl
theorem b231 (P : Params) (a b : Value) : bindArgs (fdAt P 231) ⟨[a, b], []⟩ = pure [(Str.ofString "self", a), (Str.ofString "lengths", b)] := by
  have e : fdAt P 231 = fdAt P 231 := rfl
  conv at e => rhs; unfold fdAt; whnf
  rw [e]; rfl
theorem b238 (P : Params) (a b : Value) : bindArgs (fdAt P 238) ⟨[a, b], []⟩ = pure [(Str.ofString "self", a), (Str.ofString "reader", b)] := by
  have e : fdAt P 238 = fdAt P 238 := rfl
  conv at e => rhs; unfold fdAt; whnf
  rw [e]; rfl
noncomputable def okIn (fd : FuncData) (x : Str) : Bool := fd.scope.names.lookup x == some .local || fd.scope.names.lookup x == some .cell
theorem wd1 {K : Frag} (G : GG K g mg mb) {f x : Str} {a : Addr} {fd : FuncData} {body : List Stmt} {e : Expr} {p pos : Pos} {Kk : PV → List Ent → Prop} (F : FnOk K a fd body) (hv : GV mg mb f (.ref a)) (hb : ∀ a, bindArgs fd ⟨[a], []⟩ = pure [(x, a)]) (hk : okIn fd x = true)
    (h : WE prog w g (n + 1) sc e ρ fun d ρ₁ => ∃ r, (∀ cs, WS prog w g n fd.scope body (ents0 [(x, .val d)] cs fd.scope.names) fun fl _ => fl = .ret r) ∧ Kk r ρ₁)
    (hx : sc.names.lookup f = some .globalImplicit := by rfl) (hp : plainE e = true := by rfl) (hd : (f == ("__debug__" : Str)) = false := by decide) : WE prog w g (n + 1) sc (.Call (.Name f p) [e] [] pos) ρ Kk := by
  refine we_def G F hv (wal_e (h.mono fun d ρ1 k => ?_) hp) (bind1 hb) hx rfl hp hd
  obtain ⟨r, hr, k⟩ := k
  refine wal_nil (con_vals (xs := [x]) (ds := [d]) rfl ?_ fun cs => (hr cs).mono fun fl _ e => ?_)
  · have hk' : (fd.scope.names.lookup x == some .local || fd.scope.names.lookup x == some .cell) = true := hk
    show ((fd.scope.names.lookup x == some .local || fd.scope.names.lookup x == some .cell) && true) = true
    rw [hk']; rfl
  · subst e; exact k
theorem wd2 {K : Frag} (G : GG K g mg mb) {f x y : Str} {a : Addr} {fd : FuncData} {body : List Stmt} {e e' : Expr} {p pos : Pos} {Kk : PV → List Ent → Prop} (F : FnOk K a fd body) (hv : GV mg mb f (.ref a)) (hb : ∀ a b, bindArgs fd ⟨[a, b], []⟩ = pure [(x, a), (y, b)]) (hk : okIn fd x = true) (hk2 : okIn fd y = true) (hn : nodupB [x, y] = true)
    (h : WE prog w g (n + 1) sc e ρ fun d ρ₁ => WE prog w g (n + 1) sc e' ρ₁ fun d' ρ₂ => ∃ r, (∀ cs, WS prog w g n fd.scope body (ents0 [(x, .val d), (y, .val d')] cs fd.scope.names) fun fl _ => fl = .ret r) ∧ Kk r ρ₂)
    (hx : sc.names.lookup f = some .globalImplicit := by rfl) (hp : plainE e = true := by rfl) (hp' : plainE e' = true := by rfl) (hd : (f == ("__debug__" : Str)) = false := by decide) : WE prog w g (n + 1) sc (.Call (.Name f p) [e, e'] [] pos) ρ Kk := by
  refine we_def G F hv (wal_e (h.mono fun d ρ1 k => wal_e (k.mono fun d' ρ2 k => ?_) hp') hp) (bind2 hb) hx hn hp hd
  obtain ⟨r, hr, k⟩ := k
  refine wal_nil (con_vals (xs := [x, y]) (ds := [d, d']) rfl ?_ fun cs => (hr cs).mono fun fl _ e => ?_)
  · have hk' : (fd.scope.names.lookup x == some .local || fd.scope.names.lookup x == some .cell) = true := hk
    have hk2' : (fd.scope.names.lookup y == some .local || fd.scope.names.lookup y == some .cell) = true := hk2
    show ((fd.scope.names.lookup x == some .local || fd.scope.names.lookup x == some .cell) && ((fd.scope.names.lookup y == some .local || fd.scope.names.lookup y == some .cell) && true)) = true
    rw [hk', hk2']; rfl
  · subst e; exact k
theorem wd3 {K : Frag} (G : GG K g mg mb) {f x y z : Str} {a : Addr} {fd : FuncData} {body : List Stmt} {e e' e'' : Expr} {p pos : Pos} {Kk : PV → List Ent → Prop} (F : FnOk K a fd body) (hv : GV mg mb f (.ref a)) (hb : ∀ a b c, bindArgs fd ⟨[a, b, c], []⟩ = pure [(x, a), (y, b), (z, c)]) (hk : okIn fd x = true) (hk2 : okIn fd y = true) (hk3 : okIn fd z = true) (hn : nodupB [x, y, z] = true)
    (h : WE prog w g (n + 1) sc e ρ fun d ρ₁ => WE prog w g (n + 1) sc e' ρ₁ fun d' ρ₂ => WE prog w g (n + 1) sc e'' ρ₂ fun d'' ρ₃ => ∃ r, (∀ cs, WS prog w g n fd.scope body (ents0 [(x, .val d), (y, .val d'), (z, .val d'')] cs fd.scope.names) fun fl _ => fl = .ret r) ∧ Kk r ρ₃)
    (hx : sc.names.lookup f = some .globalImplicit := by rfl) (hp : plainE e = true := by rfl) (hp' : plainE e' = true := by rfl) (hp'' : plainE e'' = true := by rfl) (hd : (f == ("__debug__" : Str)) = false := by decide) : WE prog w g (n + 1) sc (.Call (.Name f p) [e, e', e''] [] pos) ρ Kk := by
  refine we_def G F hv (wal_e (h.mono fun d ρ1 k => wal_e (k.mono fun d' ρ2 k => wal_e (k.mono fun d'' ρ3 k => ?_) hp'') hp') hp) (bind3 hb) hx hn hp hd
  obtain ⟨r, hr, k⟩ := k
  refine wal_nil (con_vals (xs := [x, y, z]) (ds := [d, d', d'']) rfl ?_ fun cs => (hr cs).mono fun fl _ e => ?_)
  · have hk' : (fd.scope.names.lookup x == some .local || fd.scope.names.lookup x == some .cell) = true := hk
    have hk2' : (fd.scope.names.lookup y == some .local || fd.scope.names.lookup y == some .cell) = true := hk2
    have hk3' : (fd.scope.names.lookup z == some .local || fd.scope.names.lookup z == some .cell) = true := hk3
    show ((fd.scope.names.lookup x == some .local || fd.scope.names.lookup x == some .cell) && ((fd.scope.names.lookup y == some .local || fd.scope.names.lookup y == some .cell) && ((fd.scope.names.lookup z == some .local || fd.scope.names.lookup z == some .cell) && true))) = true
    rw [hk', hk2', hk3']; rfl
  · subst e; exact k
noncomputable def risingF : Nat → Int → Int → List (List Int)
  | 0, _, _ => [[]]
  | k + 1, l, m => (List.range (m + 1 - l).toNat).flatMap fun i => (risingF k (l + (i : Nat) * 1) m).map ((l + (i : Nat) * 1) :: ·)
noncomputable abbrev pls (rs : List (List Int)) : List PV := rs.map fun r => .list (pints r)
theorem flat_len {α : Type} {f : Nat → List α} {b : Nat} (h : ∀ i, (f i).length ≤ b) : ∀ k, ((List.range k).flatMap f).length ≤ k * b := by
  intro l0
  induction l0 with
  | zero => exact by simp
  | succ k ih =>
    rw [List.range_succ, List.flatMap_append, List.length_append]
    have := ih
    have := h k
    simp only [List.flatMap_cons, List.flatMap_nil, List.append_nil]
    rw [Nat.succ_mul]; omega
theorem risingF_len : ∀ (k : Nat) (l m : Int), 1 ≤ l → m ≤ 4 → (risingF k l m).length ≤ 4 ^ k := by
  intro l0
  induction l0 with
  | zero => exact @fun _ _ _ _ => by simp [risingF]
  | succ k ih =>
    intro l m hl hm
    rw [risingF]
    refine Nat.le_trans (flat_len (b := 4 ^ k) (fun i => ?_) _) ?_
    · rw [List.length_map]; exact ih _ m (by omega) hm
    · rw [Nat.pow_succ, Nat.mul_comm]
      exact Nat.mul_le_mul (Nat.le_refl _) (by omega)
theorem risingF_mem : ∀ (k : Nat) (l m : Int) (z : List Int), z ∈ risingF k l m → z.length = k ∧ ∀ x ∈ z, l ≤ x ∧ x ≤ m := by
  intro l0
  induction l0 with
  | zero =>
    intro _ _ z h
    have : z = [] := by simpa [risingF] using h
    subst this; exact ⟨rfl, by simp⟩
  | succ k ih =>
    intro l m z h
    rw [risingF] at h
    obtain ⟨i, hi, h⟩ := List.mem_flatMap.mp h
    obtain ⟨y, hy, rfl⟩ := List.mem_map.mp h
    obtain ⟨h1, h2⟩ := ih _ m y hy
    have hi' := List.mem_range.mp hi
    refine ⟨by simp [h1], fun x hx => ?_⟩
    rcases List.mem_cons.mp hx with rfl | hx
    · omega
    · have := h2 x hx; omega
theorem walk_rising (G : GG (KK w.params) g mg mb) (m : Int) (hm : m ≤ 4) (hm0 : 0 ≤ m) : ∀ (k : Nat) (hk : k ≤ 5) (l : Int) (hl : 1 ≤ l) (hl2 : l ≤ 5) (n : Nat) (hn : k ≤ n) (cs : List (Str × Addr)),
    WS prog w g n (fdAt w.params 268).scope (bodyAt w.params 268) (ents0 [(Str.ofString "many", .val (.int k)), (Str.ofString "least", .val (.int l)), (Str.ofString "most", .val (.int m))] cs (fdAt w.params 268).scope.names) fun fl _ => fl = .ret (.list (pls (risingF k l m))) := by
  intro k
  induction k with
  | zero =>
    intro hk l hl hl2 n hn cs
    generalize hc1 : ((cs.lookup (Str.ofString "many")).getD 0) = c1
    generalize hc2 : ((cs.lookup (Str.ofString "most")).getD 0) = c2
    show WS prog w g n _ _ [⟨Str.ofString "many", some ((cs.lookup (Str.ofString "many")).getD 0), .val (.int (0 : Nat))⟩, ⟨Str.ofString "least", none, .val (.int l)⟩, ⟨Str.ofString "most", some ((cs.lookup (Str.ofString "most")).getD 0), .val (.int m)⟩] _
    rw [hc1, hc2]
    refine ws_cons (wx_if (wt_cmp (we_name (by trivial) (we_int (pc_eq ⟨_, rfl, ?_⟩)))))
    refine ifT rfl ?_
    exact ws_cons (wx_ret (we_list (wel_cons (we_list (wel_nil ⟨wel_nil ⟨rfl, by show 1 ≤ 2 ^ 24; decide⟩, by show 0 ≤ 2 ^ 24; decide⟩)))))
  | succ k ih =>
    intro hk l hl hl2 n hn cs
    obtain ⟨n, rfl⟩ : ∃ n', n = n' + 1 := ⟨n - 1, by omega⟩
    generalize hc1 : ((cs.lookup (Str.ofString "many")).getD 0) = c1
    generalize hc2 : ((cs.lookup (Str.ofString "most")).getD 0) = c2
    show WS prog w g (n + 1) _ _ [⟨Str.ofString "many", some ((cs.lookup (Str.ofString "many")).getD 0), .val (.int ((k + 1 : Nat) : Int))⟩, ⟨Str.ofString "least", none, .val (.int l)⟩, ⟨Str.ofString "most", some ((cs.lookup (Str.ofString "most")).getD 0), .val (.int m)⟩] _
    rw [hc1, hc2]
    refine ws_cons (wx_if (wt_cmp (we_name (by trivial) (we_int (pc_eq ⟨_, rfl, ?_⟩)))))
    refine ifF (by simp; omega) ?_
    refine ws_nil (ws_cons (wx_ret (we_comp2 [true, false, true] (wi_range2 G.gf (by rfl) (gv_range G) (we_name (by trivial) (we_bin (we_name (by trivial) (we_int (po_add ⟨l, m + 1, rfl, rfl, by omega, by omega, by omega, by omega, by rfl, fun C => ⟨fun i acc ρ => ∃ f r, ρ = [⟨Str.ofString ".0", none, .unb⟩, ⟨Str.ofString "first", none, f⟩, ⟨Str.ofString "rest", none, r⟩, ⟨Str.ofString "many", some c1, .val (.int ((k + 1 : Nat) : Int))⟩, ⟨Str.ofString "most", some c2, .val (.int m)⟩] ∧ acc = pls ((List.range i).flatMap fun i => (risingF k (l + (i : Nat) * 1) m).map ((l + (i : Nat) * 1) :: ·)), ?_, ?_, ?_⟩⟩)))))))))
    · exact ⟨.unb, .unb, rfl, rfl⟩
    · rintro i hi F0 hF0 acc ρ ⟨f, r, rfl, rfl⟩
      refine ⟨.int (l + (i : Nat) * 1), _, rangePV_get hi, by trivial, ?_⟩
      have hR := risingF_len k (l + (i : Nat) * 1) m (by omega) hm
      have h45 : 4 ^ k ≤ 4 ^ 5 := Nat.pow_le_pow_right (by decide) (by omega)
      have hA := flat_len (f := fun i => (risingF k (l + (i : Nat) * 1) m).map ((l + (i : Nat) * 1) :: ·)) (b := 4 ^ 5) (fun i => by rw [List.length_map]; exact Nat.le_trans (risingF_len k _ m (by omega) hm) h45) i
      have hi' : i ≤ 5 := by omega
      generalize hAe : ((List.range i).flatMap fun i => (risingF k (l + (i : Nat) * 1) m).map ((l + (i : Nat) * 1) :: ·)) = A at hA ⊢
      generalize hBe : risingF k (l + (i : Nat) * 1) m = B at hR ⊢
      have hpl : (pls B).length = B.length := List.length_map ..
      refine wi_list (wd3 G (fn268 _) (gt_law_rising G) (x := Str.ofString "many") (y := Str.ofString "least") (z := Str.ofString "most") (b268 _) rfl rfl rfl (by decide) (we_bin (we_name (by trivial) (we_int (po_sub (we_name (by trivial) (we_name (by trivial) ⟨.list (pls B), fun cs => ?_, ?_⟩)))))))
      · have e1 : ((k + 1 : Nat) : Int) - 1 = (k : Int) := by omega
        rw [e1, ← hBe]
        exact ih (by omega) (l + (i : Nat) * 1) (by omega) (by omega) n (by omega) cs
      · refine ⟨pls B, rfl, fun j acc ρ => ∃ r, ρ = [⟨Str.ofString ".0", none, .unb⟩, ⟨Str.ofString "first", none, .val (.int (l + (i : Nat) * 1))⟩, ⟨Str.ofString "rest", none, r⟩, ⟨Str.ofString "many", some c1, .val (.int ((k + 1 : Nat) : Int))⟩, ⟨Str.ofString "most", some c2, .val (.int m)⟩] ∧ acc = pls (A ++ (B.take j).map ((l + (i : Nat) * 1) :: ·)), ?_, ?_, ?_⟩
        · exact ⟨_, rfl, by simp⟩
        · rintro j hj F hF acc ρ ⟨r, rfl, rfl⟩
          rw [hpl] at hj
          obtain ⟨z, hz⟩ : ∃ z, B[j]? = some z := ⟨_, List.getElem?_eq_getElem hj⟩
          refine ⟨.list (pints z), _, get_map hz, by trivial, by simp; omega, ?_⟩
          refine we_bin (we_list (wel_cons (we_name (by trivial) (wel_nil ⟨we_name (by trivial) (po_cat (hF _ _ ⟨_, rfl, ?_⟩) ?_), by show 1 ≤ 2 ^ 24; decide⟩))))
          · rw [take_next hz]; simp
          · have := (risingF_mem k _ m z (hBe ▸ List.mem_of_getElem? hz)).1
            simp [sizeLine]; omega
        · rintro acc ρ ⟨r, rfl, rfl⟩
          rw [hpl, List.take_length]
          refine hF0 _ _ ⟨_, _, rfl, ?_⟩
          rw [List.range_succ, List.flatMap_append, hAe]; simp only [List.flatMap_cons, List.flatMap_nil, List.append_nil, hBe]
    · rintro acc ρ ⟨f, r, rfl, rfl⟩
      refine ⟨[_, _, _], [_, _], rfl, rfl, ?_⟩
      rfl
end
section
variable {prog : Program} {w : World} {g : Heap} {n : Nat} {sc : Scope} {ρ ρ' : List Ent} {mg mb : Str → Option Value}
theorem slice_step' {A : Around} {env : Env} {E : Value → Shared → Prop} {s : Shared} {value st : Expr} {lower upper : Option Expr} {p pos : Pos} {T id : String} {Q : Value → Shared → Prop}
    (hl : typeLookup (.type T) "__getitem__" = pure (some (.builtin id)))
    (h : wpAny (model prog w) A (eval value env) (fun o s₁ => wpAny (model prog w) A (eval (.Slice lower upper (some st) p) env) (fun i s₂ => s₂.TypeIs o T ∧ wpAny (model prog w) A (getItem o i) Q E s₂) E s₁) E s) :
    wpAny (model prog w) A (eval (.Subscript value (.Slice lower upper (some st) p) pos) env) Q E s := by
  rw [eval_Subscript]
  refine wpAny_bind (wpAny_mono h (fun o s₁ h₁ => wpAny_bind (wpAny_holding (wpAny_mono h₁ (fun i s₂ h₂ => wpAny_bind (wpAny_standAt ?_)) fun _ _ x => x)))
    fun _ _ x => x)
  have fin : wpAny (model prog w) A (operate [o, i] (getItem o i)) (fun r s₃ => wpAny (model prog w) A (letTemporaryGo value o r >>= fun _ => pure r) Q E s₃) E s₂ :=
    wpAny_operating (wpAny_mono h₂.2 (fun r s₃ h₃ => wpAny_bind (wpAny_letTemporaryGo (wpAny_pure h₃))) fun _ _ x => x)
  first
    | (refine wpAny_bind ?_
       rw [getitemInPython_of_ne h₂.1.not_modules]
       refine wpAny_bind (wpAny_specialOf h₂.1 hl ?_)
       first
         | exact wpAny_pure (wpAny_bind fin)
         | exact wpAny_bind (wpAny_pure (wpAny_bind fin))
         | exact wpAny_bind fin)
    | (refine wpAny_bind (wpAny_specialOf h₂.1 hl ?_)
       first
         | exact wpAny_bind (wpAny_pure (wpAny_bind fin))
         | exact wpAny_bind fin)
theorem we_rev' {v : Expr} {c : Nat} {p p' p'' pos : Pos} {K : PV → List Ent → Prop} (h : WE prog w g n sc v ρ fun d ρ₁ => OfList d fun xs => xs.length ≤ 5 ∧ K (.list xs.reverse) ρ₁) : WE prog w g n sc (.Subscript v (.Slice none none (some (.UnaryOp .USub (.Constant (.int 1) c p) p')) p'') pos) ρ K := by
  intro env A H s hsc ok hA sr
  refine slice_step' (T := "list") list_getitem_lookup (wpAny_mono (h env A H s hsc ok hA sr) (fun o s1 h1 => ?_) fun _ _ x => x)
  obtain ⟨d, ρ1, ⟨xs, rfl, hx, k1⟩, p1, l, us, rfl, hlT, ⟨c', hl⟩, hr⟩ := h1
  refine wpAny_Slice ?_
  rw [evalPart_none]
  refine wpAny_pure (wpAny_pure ?_)
  show wpAny _ _ (eval (.UnaryOp .USub (.Constant (.int 1) c p) p') env) _ _ _
  have hm : WE prog w g n sc (.UnaryOp .USub (.Constant (.int 1) c p) p') ρ1 fun d' ρ₂ => d' = .int (-1) ∧ ρ₂ = ρ1 := we_neg (we_int ⟨_, rfl, rfl, rfl⟩)
  refine wpAny_mono (hm env A H s1 hsc ok hA p1.sr) (fun u s2 h2 => ?_) fun _ _ x => x
  obtain ⟨d', ρ2, ⟨rfl, rfl⟩, p2, t, rfl⟩ := h2
  have rr := p2.rd (d := .list xs) (v := .ref l) ⟨l, us, rfl, hlT, ⟨c', hl⟩, hr⟩
  obtain ⟨l', us', e', hlT', hl', hr'⟩ := rr
  cases e'
  have hul := hr'.length
  have ks : Keeps s2 { s2 with heap := s2.heap.push { cls := .type "slice", data := .fields #[.none, .none, .int (-1) t] } } := Keeps.push s2 _
  have p3 := p2.grow ks
  refine ⟨(hl'.isList.push _).typeIs, wpAny_getItem_list_slice (hl'.isList.push _) (Heap.IsSliceOf.new ..) .none .none (.int (-1) t) (by simp) ?_ (by simp [sizeLine]; omega)⟩
  rw [pick_rev us' (by omega), Heap.size_push]
  refine ⟨_, ρ2, k1, p1.trans (p3.grow (Keeps.push _ _)), ?_⟩
  have := Rd.newList p3.sr.hr (hr'.rev.mono (fun b o _ e => Heap.get?_push_of_some _ e) fun b hb => .inl hb)
  rw [show ({ s2 with heap := s2.heap.push { cls := .type "slice", data := .fields #[.none, .none, .int (-1) t] } } : Shared).heap.objs.size = s2.heap.objs.size + 1 from Heap.size_push ..] at this
  exact this
noncomputable def insF (a : Int) : List Int → List Int
  | [] => [a]
  | b :: l => if a ≤ b then a :: b :: l else b :: insF a l
noncomputable def isortF : List Int → List Int
  | [] => []
  | a :: l => insF a (isortF l)
theorem insF_perm (a : Int) : ∀ l, (insF a l).Perm (a :: l) := by
  intro l0
  induction l0 with
  | nil => exact .refl _
  | cons b l ih =>
    show (if a ≤ b then a :: b :: l else b :: insF a l).Perm _
    split
    · exact .refl _
    · exact (ih.cons b).trans (.swap a b l)
theorem isortF_perm : ∀ l, (isortF l).Perm l := by
  intro l0
  induction l0 with
  | nil => exact .refl _
  | cons a l ih =>
    exact (insF_perm a _).trans (ih.cons a)
theorem insF_sorted (a : Int) : ∀ l : List Int, l.Pairwise (· ≤ ·) → (insF a l).Pairwise (· ≤ ·) := by
  intro l0
  induction l0 with
  | nil => exact @fun _ => List.pairwise_singleton _ _
  | cons b l ih =>
    intro h
    obtain ⟨h1, h2⟩ := List.pairwise_cons.mp h
    show (if a ≤ b then a :: b :: l else b :: insF a l).Pairwise _
    split
    · refine List.pairwise_cons.mpr ⟨fun x hx => ?_, h⟩
      rcases List.mem_cons.mp hx with rfl | hx
      · assumption
      · have := h1 x hx; omega
    · refine List.pairwise_cons.mpr ⟨fun x hx => ?_, ih h2⟩
      rcases List.mem_cons.mp ((insF_perm a l).mem_iff.mp hx) with rfl | hx
      · omega
      · exact h1 x hx
theorem isortF_sorted : ∀ l : List Int, (isortF l).Pairwise (· ≤ ·) := by
  intro l0
  induction l0 with
  | nil => exact .nil
  | cons a l ih =>
    exact insF_sorted a _ ih
theorem isortF_is {l l' : List Int} (hp : l'.Perm l) (hs : l'.Pairwise (· ≤ ·)) : l' = isortF l :=
  List.Perm.eq_of_pairwise (le := (· ≤ ·)) (fun a b _ _ h1 h2 => by omega) hs (isortF_sorted l) (hp.trans (isortF_perm l).symm)
noncomputable def minF : List Int → Int
  | [] => 0
  | x :: l => l.foldl min x
theorem minF_is {l : List Int} (h0 : l ≠ []) {m : Int} (hm : m ∈ l) (hu : ∀ x ∈ l, m ≤ x) : m = minF l := by
  have h1 : ∀ (l : List Int) (a : Int), l.foldl min a ≤ a ∧ (∀ x ∈ l, l.foldl min a ≤ x) ∧ (l.foldl min a = a ∨ l.foldl min a ∈ l) := by
    intro l
    induction l with
    | nil => intro a; exact ⟨Int.le_refl _, by simp, .inl rfl⟩
    | cons b l ih =>
      intro a
      rw [List.foldl_cons]
      obtain ⟨h1, h2, h3⟩ := ih (min a b)
      refine ⟨by omega, fun x hx => ?_, ?_⟩
      · rcases List.mem_cons.mp hx with rfl | hx
        · omega
        · exact h2 x hx
      · rcases h3 with h3 | h3
        · rcases Int.le_total a b with h | h
          · rw [Int.min_eq_left h] at h3 ⊢; exact .inl h3
          · rw [Int.min_eq_right h] at h3 ⊢; rw [h3]; exact .inr (.head _)
        · exact .inr (.tail _ h3)
  cases l with
  | nil => exact absurd rfl h0
  | cons a l =>
    obtain ⟨h2, h3, h4⟩ := h1 l a
    show m = l.foldl min a
    have e1 : m ≤ l.foldl min a := hu _ (by
      rcases h4 with h4 | h4
      · rw [h4]; exact .head _
      · exact .tail _ h4)
    rcases List.mem_cons.mp hm with rfl | hm
    · omega
    · have := h3 m hm; omega
theorem bits_small {a : Int} (h0 : 0 ≤ a) (h1 : a ≤ 1000) : Builtin.Int.intBits a ≤ 64 := by
  have e : (2 : Int) ^ 64 = 18446744073709551616 := rfl
  exact intBits_le_64 (by rw [e]; omega) (by rw [e]; omega)
noncomputable def fallF (cs : List Int) : List Int := (isortF (cs.filter fun c => decide (0 < c))).reverse
noncomputable def costF (f ls : List Int) : Int := (List.zipWith (· * ·) f ls).sum
noncomputable def costsF (f : List Int) (most : Int) (rs : List (List Int)) : List Int := (rs.filter fun ls => decide ((roomF ls most).sum ≤ 2 ^ most.toNat)).map (costF f)
noncomputable def bestOf (f : List Int) (most : Int) : PV := if costsF f most (risingF f.length 1 most) = [] then .none else .int (minF (costsF f most (risingF f.length 1 most)))
noncomputable def bestF (cs : List Int) (most : Int) : PV := bestOf (fallF cs) most
noncomputable abbrev besR (cs : List Int) (most : Int) (f c l : Slot) : List Ent := [⟨Str.ofString "counts", none, .val (.list (pints cs))⟩, ⟨Str.ofString "most", none, .val (.int most)⟩, ⟨Str.ofString "falling", none, f⟩, ⟨Str.ofString "costs", none, c⟩, ⟨Str.ofString "lengths", none, l⟩]
theorem walk_best (G : GG (KK w.params) g mg mb) (cs : List Int) (most : Int) (hl : cs.length ≤ 5) (hc : ∀ c ∈ cs, 0 ≤ c ∧ c ≤ 1000) (hm : 1 ≤ most ∧ most ≤ 4) (hn : 6 ≤ n) (cl : List (Str × Addr)) :
    WS prog w g n (fdAt w.params 273).scope (bodyAt w.params 273) (ents0 [(Str.ofString "counts", .val (.list (pints cs))), (Str.ofString "most", .val (.int most))] cl (fdAt w.params 273).scope.names) fun fl _ => fl = .ret (bestF cs most) := by
  obtain ⟨n, rfl⟩ : ∃ n', n = n' + 1 := ⟨n - 1, by omega⟩
  show WS prog w g (n + 1) _ _ (besR cs most .unb .unb .unb) _
  have hll : (pints cs).length = cs.length := List.length_map ..
  refine ws_cons (wx_assign (we_rev' (we_call G.gf (by rfl) (gv_sorted G) True.intro (wel1 (we_comp [false, false, false, false, false] (wi_list (we_name (by trivial) ⟨pints cs, rfl, by rfl, by omega, fun C => ⟨fun i acc ρ => ∃ e, ρ = [⟨Str.ofString ".0", none, .unb⟩, ⟨Str.ofString "count", none, e⟩] ∧ acc = pints ((cs.take i).filter fun c => decide (0 < c)), ?_, ?_, ?_⟩⟩))) rfl))))
  · exact ⟨_, rfl, rfl⟩
  · rintro i hi F hF acc ρ ⟨e, rfl, rfl⟩
    rw [hll] at hi
    obtain ⟨q, hq⟩ : ∃ q, cs[i]? = some q := ⟨_, List.getElem?_eq_getElem hi⟩
    refine ⟨.int q, _, get_map hq, by trivial, ?_⟩
    refine wt_cmp (we_name (by trivial) (we_int (pc_gt ⟨_, rfl, ?_⟩)))
    by_cases h0 : 0 < q
    · refine ifT (by simpa using h0) ?_
      refine we_name (by trivial) (hF _ _ ⟨_, rfl, ?_⟩)
      rw [take_next hq]; simp [h0]
    · refine ifF (by simpa using h0) ?_
      refine hF _ _ ⟨_, rfl, ?_⟩
      rw [take_next hq]; simp [h0]
  · rintro acc ρ ⟨e, rfl, rfl⟩
    rw [hll, List.take_length]
    refine ⟨[_, _], [], rfl, rfl, ?_⟩
    have hfl : (cs.filter fun c => decide (0 < c)).length ≤ 5 := Nat.le_trans (List.length_filter_le _ _) hl
    refine pl_sorted (by omega) fun ns' hp hs => ⟨pints ns', rfl, by have := hp.length_eq; simp; omega, ?_⟩
    have hns := isortF_is hp hs
    have hfe : (pints ns').reverse = pints (fallF cs) := by rw [hns]; unfold fallF; simp
    have hfm : ∀ x ∈ fallF cs, 0 ≤ x ∧ x ≤ 1000 := fun x hx => hc x ((List.mem_filter.mp ((isortF_perm _).mem_iff.mp (List.mem_reverse.mp hx))).1)
    have hfL : (fallF cs).length ≤ 5 := by unfold fallF; rw [List.length_reverse, (isortF_perm _).length_eq]; exact hfl
    rw [hfe]
    unfold bestF
    generalize fallF cs = f at hfm hfL ⊢
    refine ⟨besR cs most (.val (.list (pints f))) .unb .unb, by trivial, ?_⟩
    have hff : (pints f).length = f.length := List.length_map ..
    refine WS.gen fun K hK => ?_
    refine ws_cons (wx_new (wel_nil ⟨by decide, fun a => ⟨besR cs most (.val (.list (pints f))) (.lst a []) .unb, by trivial, ?_⟩⟩))
    have hRl := risingF_len f.length 1 most (by omega) (by omega)
    have h45 : 4 ^ f.length ≤ 4 ^ 5 := Nat.pow_le_pow_right (by decide) hfL
    generalize hRe : risingF f.length 1 most = R at hRl
    have hRR : (pls R).length = R.length := List.length_map ..
    refine ws_cons (wx_for (wi_list (wd3 G (fn268 _) (gt_law_rising G) (x := Str.ofString "many") (y := Str.ofString "least") (z := Str.ofString "most") (b268 _) rfl rfl rfl (by decide) (we_call G.gf (by rfl) (gv_len G) True.intro (wel1 (we_name (by trivial) (pl_len (by omega) (we_int (we_name (by trivial) ⟨.list (pls R), fun cs => ?_, ⟨_, rfl, fun i ρ => ∃ e, ρ = besR cs most (.val (.list (pints f))) (.lst a (pints (costsF f most (R.take i)))) e, ?_, ?_, ?_⟩⟩)))) rfl)))))
    · rw [hff, ← hRe]
      exact walk_rising G most (by omega) (by omega) f.length hfL 1 (by omega) (by omega) n (by omega) cs
    · exact ⟨_, rfl⟩
    · rintro i hi K hK hR ρ ⟨e, rfl⟩
      rw [hRR] at hi
      obtain ⟨z, hz⟩ : ∃ z, R[i]? = some z := ⟨_, List.getElem?_eq_getElem hi⟩
      obtain ⟨hz1, hz2⟩ := risingF_mem f.length 1 most z (hRe ▸ List.mem_of_getElem? hz)
      refine ⟨.list (pints z), _, get_map hz, by trivial, ?_⟩
      refine ws_cons (wx_if (wt_cmp (wd2 G (fn263 _) (gt_law_room G) (x := Str.ofString "lengths") (y := Str.ofString "most") (b263 _) rfl rfl (by decide) (we_name (by trivial) (we_name (by trivial) ⟨.int (roomF z most).sum, fun cs => walk_room G z most (by omega) (fun l h => by have := hz2 l h; omega) (by omega) cs, we_bin (we_int (we_name (by trivial) (po_pow (by omega) (by omega) (by decide) (pc_le ⟨_, rfl, ?_⟩))))⟩)))))
      have hp2 := pow_le_int (k := most.toNat) (b := 4) (by omega)
      have hnx : costsF f most (R.take (i + 1)) = costsF f most (R.take i) ++ costsF f most [z] := by
        unfold costsF; rw [take_next hz, List.filter_append, List.map_append]
      by_cases h0 : (roomF z most).sum ≤ 2 ^ most.toNat
      · refine ifT (by simpa using h0) ?_
        have hz1' : costsF f most [z] = [costF f z] := by unfold costsF; simp [h0]
        refine ws_cons (wx_append (by trivial) (we_call G.gf (by rfl) (gv_sum G) True.intro (wel1 (we_comp [] (wi_zip G.gf (by rfl) (gv_zip G) (we_name (by trivial) (we_name (by trivial) ⟨pints f, pints z, rfl, rfl, by rfl, by simp; omega, fun C => ⟨fun j acc ρ => ∃ c l, ρ = [⟨Str.ofString ".0", none, .unb⟩, ⟨Str.ofString "count", none, c⟩, ⟨Str.ofString "length", none, l⟩] ∧ acc = pints (List.zipWith (· * ·) (f.take j) (z.take j)), ?_, ?_, ?_⟩⟩)))) rfl)))
        · exact ⟨_, _, rfl, by simp⟩
        · rintro j hj F hF acc ρ ⟨c, l, rfl, rfl⟩
          have hj1 : j < f.length := by simp at hj; omega
          have hj2 : j < z.length := by omega
          obtain ⟨u, hu⟩ : ∃ q, f[j]? = some q := ⟨f[j], by simp [hj1]⟩
          obtain ⟨v, hv⟩ : ∃ q, z[j]? = some q := ⟨z[j], by simp [hj2]⟩
          refine ⟨.int u, .int v, _, _, ?_, by trivial, by trivial, ?_⟩
          · rw [List.getElem?_map, List.getElem?_zip_eq_some (z := (PV.int u, PV.int v)) |>.mpr ⟨by simp [hu], by simp [hv]⟩]; rfl
          show WE prog w g (n + 1) _ _ _ _
          have hub := hfm u (List.mem_of_getElem? hu)
          refine we_bin (we_name (by trivial) (we_name (by trivial) (po_mul (hF _ _ ⟨.val (.int u), .val (.int v), rfl, ?_⟩) (IntMulOk.of_left (bits_small (by omega) (by omega))))))
          rw [take_next hu, take_next hv, List.zipWith_append (by simp; omega)]
          simp only [List.zipWith_cons_cons, List.zipWith_nil_left, List.map_append, List.map_cons, List.map_nil]
        · rintro acc ρ ⟨c, l, rfl, rfl⟩
          refine ⟨[_, _, _], [], rfl, rfl, ?_⟩
          have e5 : min (pints f).length (pints z).length = f.length := by rw [hff]; simp; omega
          rw [e5, List.take_of_length_le (Nat.le_refl f.length), List.take_of_length_le (by omega)]
          refine pl_sum (by simp; omega) (fun x hx => ?_) ⟨pints (costsF f most (R.take i)), besR cs most (.val (.list (pints f))) (.lst a (pints (costsF f most (R.take i)) ++ [.int (costF f z)])) (.val (.list (pints z))), ?_, by trivial, ?_⟩
          · obtain ⟨q, hq⟩ := List.mem_iff_getElem?.mp hx
            rw [List.getElem?_zipWith] at hq
            rcases hu : f[q]? with _ | u
            · rw [hu] at hq; cases hq
            · rcases hv : z[q]? with _ | v
              · rw [hu, hv] at hq; cases hq
              · rw [hu, hv] at hq
                have hq : u * v = x := by simpa using hq
                have h1 := hfm u (List.mem_of_getElem? hu)
                have h2 := hz2 v (List.mem_of_getElem? hv)
                have h3 : 0 ≤ u * v := Int.mul_nonneg h1.1 (by omega)
                have h4 : u * v ≤ 1000 * 4 := Int.mul_le_mul h1.2 (by omega) (by omega) (by decide)
                have h5 : (2 : Int) ^ 40 = 1099511627776 := rfl
                rw [h5]; omega
          · have h1 : (costsF f most (R.take i)).length ≤ R.length := by
              unfold costsF; rw [List.length_map]
              exact Nat.le_trans (List.length_filter_le _ _) (by simp; omega)
            simp; omega
          · refine ws_nil (ws_nil (hK _ ⟨.val (.list (pints z)), ?_⟩))
            rw [hnx, hz1']; simp
      · refine ifF (by simpa using h0) ?_
        have hz1' : costsF f most [z] = [] := by unfold costsF; simp [h0]
        refine ws_nil (ws_nil (hK _ ⟨.val (.list (pints z)), ?_⟩))
        rw [hnx, hz1', List.append_nil]
    · rintro ρ ⟨e, rfl⟩
      rw [hRR, List.take_length]
      generalize hC : costsF f most R = Cs
      refine ws_cons (wx_ret (we_ifexp (wt_cmp (we_frz (ρ' := besR cs most (.val (.list (pints f))) (.val (.list (pints Cs))) e) (by trivial) (we_list (wel_nil ⟨pc_lne (ns := Cs) (ms := []) ⟨_, rfl, ?_⟩, by show 0 ≤ 2 ^ 24; decide⟩))))))
      by_cases h0 : Cs = []
      · refine ifF (by simp [h0]) ?_
        refine we_none (hK _ _ ?_)
        show _ = _
        unfold bestOf
        rw [hRe, hC, if_pos h0]
      · refine ifT (by simp [h0]) ?_
        refine we_call G.gf (by rfl) (gv_min G) True.intro (wel1 (we_name (by trivial) (pl_min h0 fun m hm hu => hK _ _ ?_)) rfl)
        show _ = _
        unfold bestOf
        rw [hRe, hC, if_neg h0, minF_is h0 hm hu]
end
section
variable {prog : Program} {w : World} {g : Heap} {n : Nat} {sc : Scope} {ρ ρ' : List Ent} {mg mb : Str → Option Value}
theorem pick_nil (ρ : List Ent) : pickM [] ρ = [] := by cases ρ <;> rfl
theorem merge_nil (ρ s : List Ent) : mergeM [] ρ s = ρ := by cases ρ <;> rfl
theorem wb_count {e : Expr} {p1 p2 p4 p5 pos : Pos} {k : Nat} {K : PV → List Ent → Prop} (h : WE prog w g n sc e ρ fun d ρ₁ => OfInts d fun ns => ns.length ≤ 2 ^ 20 ∧ K (.list (pbools (ns.map fun c => decide (0 < c)))) ρ₁)
    (hs : ∀ env x, foldedSetIterable e env x = pure x := by intro _ _; rfl) :
    WE prog w g n sc (.ListComp (.Compare (.Name (Str.ofString "count") p1) [.Gt] [.Constant (.int 0) k p4] p5) [⟨.Name (Str.ofString "count") p2, e, [], 0⟩] { kind := .function, names := [(Str.ofString ".0", .local), (Str.ofString "count", .local)], isGenerator := false, isCoroutine := false } pos) ρ K := by
  refine we_comp [] (wi_list (h.mono fun d ρ1 kk => ?_)) rfl rfl (by decide) hs
  obtain ⟨ns, rfl, hl, kk⟩ := kk
  have hll : (pints ns).length = ns.length := List.length_map ..
  refine ⟨pints ns, rfl, ?_, by omega, fun C => ⟨fun i acc ρ => ∃ e, ρ = [⟨Str.ofString ".0", none, .unb⟩, ⟨Str.ofString "count", none, e⟩] ∧ acc = pbools ((ns.take i).map fun c => decide (0 < c)), ?_, ?_, ?_⟩⟩
  · unfold compOk; rw [pick_nil]; rfl
  · rw [pick_nil]; exact ⟨_, rfl, rfl⟩
  · rintro i hi F hF acc ρ ⟨e, rfl, rfl⟩
    rw [hll] at hi
    obtain ⟨q, hq⟩ : ∃ q, ns[i]? = some q := ⟨_, List.getElem?_eq_getElem hi⟩
    refine ⟨.int q, _, get_map hq, by trivial, ?_⟩
    show WE prog w g n _ _ _ _
    refine we_cmp (we_name (by trivial) (we_int (pc_gt (hF _ _ ⟨_, rfl, ?_⟩))))
    rw [take_next hq]; simp
  · rintro acc ρ ⟨e, rfl, rfl⟩
    rw [hll, List.take_length]
    refine ⟨[_, _], [], rfl, rfl, ?_⟩
    rw [merge_nil]; exact kk
theorem wb_length {e : Expr} {p1 p2 p4 p5 pos : Pos} {k : Nat} {K : PV → List Ent → Prop} (h : WE prog w g n sc e ρ fun d ρ₁ => OfInts d fun ns => ns.length ≤ 2 ^ 20 ∧ K (.list (pbools (ns.map fun c => decide (0 < c)))) ρ₁)
    (hs : ∀ env x, foldedSetIterable e env x = pure x := by intro _ _; rfl) :
    WE prog w g n sc (.ListComp (.Compare (.Name (Str.ofString "length") p1) [.Gt] [.Constant (.int 0) k p4] p5) [⟨.Name (Str.ofString "length") p2, e, [], 0⟩] { kind := .function, names := [(Str.ofString ".0", .local), (Str.ofString "length", .local)], isGenerator := false, isCoroutine := false } pos) ρ K := by
  refine we_comp [] (wi_list (h.mono fun d ρ1 kk => ?_)) rfl rfl (by decide) hs
  obtain ⟨ns, rfl, hl, kk⟩ := kk
  have hll : (pints ns).length = ns.length := List.length_map ..
  refine ⟨pints ns, rfl, ?_, by omega, fun C => ⟨fun i acc ρ => ∃ e, ρ = [⟨Str.ofString ".0", none, .unb⟩, ⟨Str.ofString "length", none, e⟩] ∧ acc = pbools ((ns.take i).map fun c => decide (0 < c)), ?_, ?_, ?_⟩⟩
  · unfold compOk; rw [pick_nil]; rfl
  · rw [pick_nil]; exact ⟨_, rfl, rfl⟩
  · rintro i hi F hF acc ρ ⟨e, rfl, rfl⟩
    rw [hll] at hi
    obtain ⟨q, hq⟩ : ∃ q, ns[i]? = some q := ⟨_, List.getElem?_eq_getElem hi⟩
    refine ⟨.int q, _, get_map hq, by trivial, ?_⟩
    show WE prog w g n _ _ _ _
    refine we_cmp (we_name (by trivial) (we_int (pc_gt (hF _ _ ⟨_, rfl, ?_⟩))))
    rw [take_next hq]; simp
  · rintro acc ρ ⟨e, rfl, rfl⟩
    rw [hll, List.take_length]
    refine ⟨[_, _], [], rfl, rfl, ?_⟩
    rw [merge_nil]; exact kk
theorem wxf_length {y : Str} {e : Expr} {py spos p1 p2 p3 p4 p5 pos : Pos} {k : Nat} {K : Fl → List Ent → Prop} (h : WE prog w g n sc e ρ fun d ρ₁ => OfInts d fun ns => ns.length ≤ 2 ^ 20 ∧ PutK ρ₁ y (.val (.list (pints (ns.filter fun c => decide (0 < c))))) fun ρ₂ => K .next ρ₂)
    (hx : sc.names.lookup y = some .local := by rfl) (hp : (py.line == pos.line) = true := by rfl) (hy : (Str.ofString "length" == y) = false := by decide) (hy0 : (Str.ofString ".0" == y) = false := by decide) (hs : ∀ env x, foldedSetIterable e env x = pure x := by intro _ _; rfl) :
    WX prog w g n sc (.Assign [.Name y py] (.ListComp (.Name (Str.ofString "length") p1) [⟨.Name (Str.ofString "length") p2, e, [.Compare (.Name (Str.ofString "length") p3) [.Gt] [.Constant (.int 0) k p4] p5], 0⟩] { kind := .function, names := [(Str.ofString ".0", .local), (Str.ofString "length", .local)], isGenerator := false, isCoroutine := false } pos) spos) ρ K := by
  refine wx_assign_comp [] (wi_list (h.mono fun d ρ1 kk => ?_)) hx hp (by simp [hy, hy0]) rfl rfl (by decide) hs
  obtain ⟨ns, rfl, hl, kk⟩ := kk
  have hll : (pints ns).length = ns.length := List.length_map ..
  refine ⟨pints ns, rfl, ?_, by omega, fun C => ⟨fun i acc ρ => ∃ e, ρ = [⟨Str.ofString ".0", none, .unb⟩, ⟨Str.ofString "length", none, e⟩] ∧ acc = pints ((ns.take i).filter fun c => decide (0 < c)), ?_, ?_, ?_⟩⟩
  · unfold compOk; rw [pick_nil]; rfl
  · rw [pick_nil]; exact ⟨_, rfl, rfl⟩
  · rintro i hi F hF acc ρ ⟨e, rfl, rfl⟩
    rw [hll] at hi
    obtain ⟨q, hq⟩ : ∃ q, ns[i]? = some q := ⟨_, List.getElem?_eq_getElem hi⟩
    refine ⟨.int q, _, get_map hq, by trivial, ?_⟩
    refine wt_cmp (we_name (by trivial) (we_int (pc_gt ⟨_, rfl, ?_⟩)))
    by_cases h0 : 0 < q
    · refine ifT (by simpa using h0) ?_
      refine we_name (by trivial) (hF _ _ ⟨_, rfl, ?_⟩)
      rw [take_next hq]; simp [h0]
    · refine ifF (by simpa using h0) ?_
      refine hF _ _ ⟨_, rfl, ?_⟩
      rw [take_next hq]; simp [h0]
  · rintro acc ρ ⟨e, rfl, rfl⟩
    rw [hll, List.take_length]
    refine ⟨[_, _], [], rfl, rfl, ?_⟩
    rw [merge_nil]; exact kk
theorem wz (G : GF g mg mb) (hz : GV mg mb (Str.ofString "zip") (.type "zip")) {e e' : Expr} {p1 p2 p3 p4 p5 p6 p7 p8 pos : Pos} {kk : Nat} {K : PV → List Ent → Prop} (h : WE prog w g n sc e ρ fun d ρ₁ => WE prog w g n sc e' ρ₁ fun d' ρ₂ => ∃ us vs, d = .list (pints us) ∧ d' = .list (pints vs) ∧ us.length ≤ 2 ^ 20 ∧ us.length = vs.length ∧ (∀ u ∈ us, 0 ≤ u ∧ u ≤ 1000) ∧ K (.list (pints (List.zipWith (· * ·) us vs))) ρ₂)
    (hx : sc.names.lookup (Str.ofString "zip") = some .globalImplicit := by rfl) (hp : plainE e = true := by rfl) (hp' : plainE e' = true := by rfl) :
    WE prog w g n sc (.ListComp (.BinOp (.Name (Str.ofString "count") p1) .Mult (.Name (Str.ofString "length") p2) p3) [⟨.Tuple [.Name (Str.ofString "count") p4, .Name (Str.ofString "length") p5] kk p6, .Call (.Name (Str.ofString "zip") p7) [e, e'] [] p8, [], 0⟩] { kind := .function, names := [(Str.ofString ".0", .local), (Str.ofString "count", .local), (Str.ofString "length", .local)], isGenerator := false, isCoroutine := false } pos) ρ K := by
  refine we_comp [] (wi_zip G hx hz (h.mono fun d ρ1 k => k.mono fun d' ρ2 k => ?_) hp hp') rfl rfl (by decide)
  obtain ⟨us, vs, rfl, rfl, hl, he, hb, k⟩ := k
  have e5 : min (pints us).length (pints vs).length = us.length := by simp; omega
  refine ⟨pints us, pints vs, rfl, rfl, ?_, by omega, fun C => ⟨fun j acc ρ => ∃ c l, ρ = [⟨Str.ofString ".0", none, .unb⟩, ⟨Str.ofString "count", none, c⟩, ⟨Str.ofString "length", none, l⟩] ∧ acc = pints (List.zipWith (· * ·) (us.take j) (vs.take j)), ?_, ?_, ?_⟩⟩
  · unfold compOk; rw [pick_nil]; rfl
  · rw [pick_nil]; exact ⟨_, _, rfl, by simp⟩
  · rintro j hj F hF acc ρ ⟨c, l, rfl, rfl⟩
    have hj1 : j < us.length := by omega
    obtain ⟨u, hu⟩ : ∃ q, us[j]? = some q := ⟨us[j], by simp [hj1]⟩
    obtain ⟨v, hv⟩ : ∃ q, vs[j]? = some q := ⟨vs[j]'(by omega), by simp⟩
    refine ⟨.int u, .int v, _, _, ?_, by trivial, by trivial, ?_⟩
    · rw [List.getElem?_map, List.getElem?_zip_eq_some (z := (PV.int u, PV.int v)) |>.mpr ⟨by simp [hu], by simp [hv]⟩]; rfl
    show WE prog w g n _ _ _ _
    have hub := hb u (List.mem_of_getElem? hu)
    refine we_bin (we_name (by trivial) (we_name (by trivial) (po_mul (hF _ _ ⟨.val (.int u), .val (.int v), rfl, ?_⟩) (IntMulOk.of_left (bits_small (by omega) (by omega))))))
    rw [take_next hu, take_next hv, List.zipWith_append (by simp; omega)]
    simp only [List.zipWith_cons_cons, List.zipWith_nil_left, List.map_append, List.map_cons, List.map_nil]
  · rintro acc ρ ⟨c, l, rfl, rfl⟩
    refine ⟨[_, _, _], [], rfl, rfl, ?_⟩
    rw [e5, List.take_of_length_le (Nat.le_refl us.length), List.take_of_length_le (by omega), merge_nil]
    exact k
theorem zip_bound {us vs : List Int} {b c : Int} (hb : ∀ u ∈ us, 0 ≤ u ∧ u ≤ b) (hc : ∀ u ∈ vs, 0 ≤ u ∧ u ≤ c) (hb0 : 0 ≤ b) : ∀ x ∈ List.zipWith (· * ·) us vs, 0 ≤ x ∧ x ≤ b * c := by
  intro x hx
  obtain ⟨q, hq⟩ := List.mem_iff_getElem?.mp hx
  rw [List.getElem?_zipWith] at hq
  rcases hu : us[q]? with _ | u
  · rw [hu] at hq; cases hq
  · rcases hv : vs[q]? with _ | v
    · rw [hu, hv] at hq; cases hq
    · rw [hu, hv] at hq
      have hq : u * v = x := by simpa using hq
      have h1 := hb u (List.mem_of_getElem? hu)
      have h2 := hc v (List.mem_of_getElem? hv)
      have h3 : 0 ≤ u * v := Int.mul_nonneg h1.1 h2.1
      have h4 : u * v ≤ b * c := Int.mul_le_mul h1.2 h2.2 h2.1 hb0
      omega
end
section
variable {prog : Program} {w : World} {g : Heap} {n : Nat} {sc : Scope} {ρ ρ' : List Ent} {mg mb : Str → Option Value}
noncomputable def rightL (cs t : List Int) (most b : Int) : Bool :=
  if (!decide (t.length = cs.length) || !decide ((t.map fun c => decide (0 < c)) = cs.map fun c => decide (0 < c))) = true then false
  else if (t.filter fun c => decide (0 < c)).length < 2 then [[], [1]].any fun ms => decide (ms = t.filter fun c => decide (0 < c))
  else decide (mxF (t.filter fun c => decide (0 < c)) ≤ most) && (decide ((roomF t most).sum = 2 ^ most.toNat) && decide (costF cs t = b))
noncomputable def toldP : Option (List Int) → PV
  | none => .none
  | some t => .list (pints t)
noncomputable def rightP (cs : List Int) (most : Int) : Option (List Int) → PV → Bool
  | some t, .int b => rightL cs t most b
  | some _, _ => false
  | none, b => b.isNone
theorem bestF_is (cs : List Int) (most : Int) : bestF cs most = .none ∨ ∃ b, bestF cs most = .int b := by
  unfold bestF bestOf
  split
  · exact .inl rfl
  · exact .inr ⟨_, rfl⟩
noncomputable abbrev rigR (cs : List Int) (most : Int) (T u b c : Slot) : List Ent := [⟨Str.ofString "counts", none, .val (.list (pints cs))⟩, ⟨Str.ofString "most", none, .val (.int most)⟩, ⟨Str.ofString "told", none, T⟩, ⟨Str.ofString "best", none, b⟩, ⟨Str.ofString "used", none, u⟩, ⟨Str.ofString "cost", none, c⟩]
theorem walk_right (G : GG (KK w.params) g mg mb) (cs : List Int) (most : Int) (told : Option (List Int)) (hl : cs.length ≤ 5) (hc : ∀ c ∈ cs, 0 ≤ c ∧ c ≤ 1000) (hm : 1 ≤ most ∧ most ≤ 4) (ht : ∀ t, told = some t → t.length ≤ 5 ∧ ∀ x ∈ t, 0 ≤ x ∧ x ≤ most) (hn : 7 ≤ n) (cl : List (Str × Addr)) :
    WS prog w g n (fdAt w.params 285).scope (bodyAt w.params 285) (ents0 [(Str.ofString "counts", .val (.list (pints cs))), (Str.ofString "most", .val (.int most)), (Str.ofString "told", .val (toldP told))] cl (fdAt w.params 285).scope.names) fun fl _ => fl = .ret (.bool (rightP cs most told (bestF cs most))) := by
  obtain ⟨n, rfl⟩ : ∃ n', n = n' + 1 := ⟨n - 1, by omega⟩
  show WS prog w g (n + 1) _ _ (rigR cs most (.val (toldP told)) .unb .unb .unb) _
  have hll : (pints cs).length = cs.length := List.length_map ..
  refine ws_cons (wx_assign (wd2 G (fn273 _) (gt_law_best G) (x := Str.ofString "counts") (y := Str.ofString "most") (b273 _) rfl rfl (by decide) (we_name (by trivial) (we_name (by trivial) ⟨bestF cs most, fun cl => walk_best G cs most hl hc hm (by omega) cl, _, by trivial, ?_⟩))))
  have hB := bestF_is cs most
  generalize bestF cs most = B at hB ⊢
  refine ws_cons (wx_if (wt_bool (wtl_or_cons (wt_cmp (we_name (by trivial) (we_none (pc_is ⟨_, rfl, ?_⟩)))))))
  rcases told with _ | t
  · refine ifT rfl (ifT rfl ?_)
    refine ws_cons (wx_ret (we_bool (wbl_and (we_cmp (we_name (by trivial) (we_none (pc_is ⟨_, rfl, ?_⟩)))))))
    refine ifT rfl ?_
    exact wbl_one (we_cmp (we_name (by trivial) (we_none (pc_is rfl))))
  refine ifF rfl ?_
  obtain ⟨ht1, ht2⟩ := ht t rfl
  have htl : (pints t).length = t.length := List.length_map ..
  refine wtl_or_cons (wt_cmp (we_name (by trivial) (we_none (pc_is ⟨_, rfl, ?_⟩))))
  rcases hB with rfl | ⟨b, rfl⟩
  · refine ifT rfl (ifT rfl ?_)
    refine ws_cons (wx_ret (we_bool (wbl_and (we_cmp (we_name (by trivial) (we_none (pc_is ⟨_, rfl, ?_⟩)))))))
    refine ifF rfl ?_
    rfl
  refine ifF rfl ?_
  refine wtl_or_nil ?_
  refine ifF rfl ?_
  refine ws_nil ?_
  have hul : (t.filter fun c => decide (0 < c)).length ≤ 5 := Nat.le_trans (List.length_filter_le _ _) ht1
  have hum : ∀ x ∈ t.filter fun c => decide (0 < c), 0 ≤ x ∧ x ≤ most := fun x hx => ht2 x (List.mem_filter.mp hx).1
  refine ws_cons (wxf_length (we_name (by trivial) ⟨t, rfl, by omega, rigR cs most (.val (.list (pints t))) (.val (.list (pints (t.filter fun c => decide (0 < c))))) (.val (.int b)) .unb, by trivial, ?_⟩))
  show WS prog w g (n + 1) _ _ _ fun fl _ => fl = .ret (.bool (rightL cs t most b))
  refine ws_cons (wx_if (wt_bool (wtl_or_cons (wt_cmp (we_call G.gf (by rfl) (gv_len G) True.intro (wel1 (we_name (by trivial) (pl_len (by omega) (we_call G.gf (by rfl) (gv_len G) True.intro (wel1 (we_name (by trivial) (pl_len (by omega) (pc_ne ⟨_, rfl, ?_⟩))) rfl)))) rfl))))))
  by_cases h1 : t.length = cs.length
  · refine ifF (by rw [htl, hll, h1]; simp) ?_
    refine wtl_or_cons (wt_cmp (wb_length (we_name (by trivial) ⟨t, rfl, by omega, wb_count (we_name (by trivial) ⟨cs, rfl, by omega, pc_bne ⟨_, rfl, ?_⟩⟩)⟩)))
    by_cases h2 : (t.map fun c => decide (0 < c)) = cs.map fun c => decide (0 < c)
    · have hR : rightL cs t most b = if (t.filter fun c => decide (0 < c)).length < 2 then [[], [1]].any fun ms => decide (ms = t.filter fun c => decide (0 < c)) else decide (mxF (t.filter fun c => decide (0 < c)) ≤ most) && (decide ((roomF t most).sum = 2 ^ most.toNat) && decide (costF cs t = b)) := by
        unfold rightL; rw [if_neg (by simp [h1, h2])]
      rw [hR]
      refine ifF (by simpa using h2) ?_
      refine wtl_or_nil ?_
      refine ifF rfl ?_
      refine ws_nil ?_
      generalize hU : (t.filter fun c => decide (0 < c)) = U at hul hum ⊢
      have hUl : (pints U).length = U.length := List.length_map ..
      refine ws_cons (wx_if (wt_cmp (we_call G.gf (by rfl) (gv_len G) True.intro (wel1 (we_name (by trivial) (pl_len (by omega) (we_int (pc_lt ⟨_, rfl, ?_⟩)))) rfl))))
      by_cases h3 : U.length < 2
      · refine ifT (by rw [hUl]; simp; omega) ?_
        refine ws_cons (wx_ret (we_cmp (we_name (by trivial) (we_tup (wel_cons (we_list (wel_nil ⟨wel_cons (we_list (wel_cons (we_int (wel_nil ⟨wel_nil ⟨pi_lists (ns := U) (mss := [[], [1]]) ?_, by show 2 ≤ 2 ^ 24; decide⟩, by show 1 ≤ 2 ^ 24; decide⟩)))), by show 0 ≤ 2 ^ 24; decide⟩)))))))
        show _ = _
        rw [if_pos h3]
      · refine ifF (by rw [hUl]; simp; omega) ?_
        rw [if_neg h3]
        refine ws_nil ?_
        have hU0 : U ≠ [] := by rintro rfl; exact h3 (by decide)
        refine ws_cons (wx_assign (we_call G.gf (by rfl) (gv_sum G) True.intro (wel1 (wz G.gf (gv_zip G) (we_name (by trivial) (we_name (by trivial) ⟨cs, t, rfl, rfl, by omega, h1.symm, hc, pl_sum (by simp; omega) (fun x hx => ?_) ⟨rigR cs most (.val (.list (pints t))) (.val (.list (pints U))) (.val (.int b)) (.val (.int (costF cs t))), by trivial, ?_⟩⟩))) rfl)))
        · have h4 := zip_bound hc (fun x hx => (show 0 ≤ x ∧ x ≤ 4 from by have := ht2 x hx; omega)) (by decide) x hx
          have h5 : (2 : Int) ^ 40 = 1099511627776 := rfl
          rw [h5]; omega
        · refine ws_cons (wx_ret (we_bool (wbl_and (we_cmp (we_call G.gf (by rfl) (gv_max G) True.intro (wel1 (we_name (by trivial) (pl_max hU0 fun m hm1 hu => we_name (by trivial) (pc_le ⟨_, rfl, ?_⟩))) rfl))))))
          have hmx := mxF_is hU0 (fun x hx => (hum x hx).1) hm1 hu
          rw [← hmx]
          by_cases h6 : m ≤ most
          · refine ifT (by simpa using h6) ?_
            refine wbl_and (we_cmp (wd2 G (fn263 _) (gt_law_room G) (x := Str.ofString "lengths") (y := Str.ofString "most") (b263 _) rfl rfl (by decide) (we_name (by trivial) (we_name (by trivial) ⟨.int (roomF t most).sum, fun cs => walk_room G t most (by omega) ht2 (by omega) cs, we_bin (we_int (we_name (by trivial) (po_pow (by omega) (by omega) (by decide) (pc_eq ⟨_, rfl, ?_⟩))))⟩))))
            by_cases h7 : (roomF t most).sum = 2 ^ most.toNat
            · refine ifT (by simpa using h7) ?_
              refine wbl_one (we_cmp (we_name (by trivial) (we_name (by trivial) (pc_eq ?_))))
              show _ = _
              simp [h6, h7]
              rfl
            · refine ifF (by simpa using h7) ?_
              show _ = _
              simp [h6, h7]
          · refine ifF (by simpa using h6) ?_
            show _ = _
            simp [h6]
    · have hR : rightL cs t most b = false := by unfold rightL; rw [if_pos (by simp [h2])]
      rw [hR]
      refine ifT (by simpa using h2) (ifT rfl ?_)
      exact ws_cons (wx_ret (we_true rfl))
  · have hR : rightL cs t most b = false := by unfold rightL; rw [if_pos (by simp [h1])]
    rw [hR]
    refine ifT (by rw [htl, hll]; simp; omega) (ifT rfl ?_)
    exact ws_cons (wx_ret (we_true rfl))
end
section
variable {prog : Program} {w : World} {g : Heap} {n : Nat} {sc : Scope} {ρ ρ' : List Ent}
noncomputable def insAll (x : Nat) : List Nat → List (List Nat)
  | [] => [[x]]
  | y :: l => (x :: y :: l) :: (insAll x l).map (y :: ·)
noncomputable def perms : List Nat → List (List Nat)
  | [] => [[]]
  | x :: l => (perms l).flatMap (insAll x)
theorem insAll_mem (x : Nat) : ∀ (a b : List Nat), a ++ x :: b ∈ insAll x (a ++ b)
  | [], [] => by simp [insAll]
  | [], y :: b => by simp [insAll]
  | y :: a, b => by
    show y :: (a ++ x :: b) ∈ insAll x (y :: (a ++ b))
    exact .tail _ (List.mem_map.mpr ⟨_, insAll_mem x a b, rfl⟩)
theorem perms_mem : ∀ (l p : List Nat), p.Perm l → p ∈ perms l := by
  intro l0
  induction l0 with
  | nil => exact @fun p h => by rw [h.eq_nil]; simp [perms]
  | cons x l ih =>
    intro p h
    obtain ⟨a, b, rfl⟩ := List.append_of_mem (h.mem_iff.mpr (.head l))
    have h2 : (a ++ b).Perm l := by
      have : (x :: (a ++ b)).Perm (x :: l) := (List.perm_middle.symm).trans h
      exact this.cons_inv
    exact List.mem_flatMap.mpr ⟨_, ih _ h2, insAll_mem x a b⟩
noncomputable def ltP (p : List Nat) (i j : Nat) : Bool := decide (p.idxOf i < p.idxOf j)
theorem runs2 : (perms [0, 1]).all (fun p => (kRun (ltP p) (kas_sort 2)).toList == p) = true := by decide +kernel
theorem runs3 : (perms [0, 1, 2]).all (fun p => (kRun (ltP p) (kas_sort 3)).toList == p) = true := by decide +kernel
theorem runs4 : (perms [0, 1, 2, 3]).all (fun p => (kRun (ltP p) (kas_sort 4)).toList == p) = true := by decide +kernel
theorem runs5 : (perms [0, 1, 2, 3, 4]).all (fun p => (kRun (ltP p) (kas_sort 5)).toList == p) = true := by decide +kernel
theorem oks2 : kOk 2 (kas_sort 2) = true := by decide +kernel
theorem oks3 : kOk 3 (kas_sort 3) = true := by decide +kernel
theorem oks4 : kOk 4 (kas_sort 4) = true := by decide +kernel
theorem oks5 : kOk 5 (kas_sort 5) = true := by decide +kernel
theorem kRun_congr {α : Type} {lt lt' : Nat → Nat → Bool} {n : Nat} (h : ∀ i j, i < n → j < n → lt i j = lt' i j) : ∀ {t : KasT α}, kOk n t = true → kRun lt t = kRun lt' t := by
  intro t
  induction t with
  | ret a => exact fun _ => rfl
  | ask i j k ih =>
    intro ho
    replace ho : (decide (i < n) && decide (j < n) && kOk n (k true) && kOk n (k false)) = true := ho
    simp only [Bool.and_eq_true, decide_eq_true_eq] at ho
    obtain ⟨⟨⟨h1, h2⟩, h3⟩, h4⟩ := ho
    show kRun lt (k (lt i j)) = kRun lt' (k (lt' i j))
    rw [h i j h1 h2]
    refine ih _ ?_
    cases lt' i j
    · exact h4
    · exact h3
theorem runs {m : Nat} (h2 : 2 ≤ m) (h5 : m ≤ 5) : kOk m (kas_sort m) = true ∧ ∀ p : List Nat, p.Perm (List.range m) → (kRun (ltP p) (kas_sort m)).toList = p := by
  have key : ∀ l : List Nat, (perms l).all (fun p => (kRun (ltP p) (kas_sort l.length)).toList == p) = true → ∀ p : List Nat, p.Perm l → (kRun (ltP p) (kas_sort l.length)).toList = p := fun l h p hp => by
    simpa using List.all_eq_true.mp h p (perms_mem l p hp)
  have : m = 2 ∨ m = 3 ∨ m = 4 ∨ m = 5 := by omega
  rcases this with rfl | rfl | rfl | rfl
  · exact ⟨oks2, key [0, 1] runs2⟩
  · exact ⟨oks3, key [0, 1, 2] runs3⟩
  · exact ⟨oks4, key [0, 1, 2, 3] runs4⟩
  · exact ⟨oks5, key [0, 1, 2, 3, 4] runs5⟩
end
section
variable {prog : Program} {w : World} {g : Heap} {n : Nat} {sc : Scope} {ρ ρ' : List Ent}
noncomputable def insG {α : Type} (lt : α → α → Bool) (a : α) : List α → List α
  | [] => [a]
  | b :: l => if lt b a = true then b :: insG lt a l else a :: b :: l
noncomputable def sortG {α : Type} (lt : α → α → Bool) : List α → List α
  | [] => []
  | a :: l => insG lt a (sortG lt l)
section
variable {α β : Type} {lt : α → α → Bool} {lt' : β → β → Bool}
theorem insG_perm (a : α) : ∀ l, (insG lt a l).Perm (a :: l) := by
  intro l0
  induction l0 with
  | nil => exact .refl _
  | cons b l ih =>
    show (if lt b a = true then b :: insG lt a l else a :: b :: l).Perm _
    split
    · exact (ih.cons b).trans (.swap a b l)
    · exact .refl _
theorem sortG_perm : ∀ l, (sortG lt l).Perm l := by
  intro l0
  induction l0 with
  | nil => exact .refl _
  | cons a l ih =>
    exact (insG_perm a _).trans (ih.cons a)
theorem insG_map {f : α → β} (h : ∀ x y, lt x y = lt' (f x) (f y)) (a : α) : ∀ l, (insG lt a l).map f = insG lt' (f a) (l.map f) := by
  intro l0
  induction l0 with
  | nil => exact rfl
  | cons b l ih =>
    show (if lt b a = true then b :: insG lt a l else a :: b :: l).map f = if lt' (f b) (f a) = true then f b :: insG lt' (f a) (l.map f) else _
    rw [h b a]
    split
    · rw [List.map_cons, ih]
    · rfl
theorem sortG_map {f : α → β} (h : ∀ x y, lt x y = lt' (f x) (f y)) : ∀ l, (sortG lt l).map f = sortG lt' (l.map f) := by
  intro l0
  induction l0 with
  | nil => exact rfl
  | cons a l ih =>
    show (insG lt a (sortG lt l)).map f = insG lt' (f a) (sortG lt' (l.map f))
    rw [insG_map h, ih]
theorem insG_sorted (tr : ∀ a b c, lt b a = false → lt c b = false → lt c a = false) (as : ∀ a b, lt a b = true → lt b a = false) (a : α) : ∀ l : List α, l.Pairwise (fun x y => lt y x = false) → (insG lt a l).Pairwise (fun x y => lt y x = false) := by
  intro l0
  induction l0 with
  | nil => exact @fun _ => List.pairwise_singleton _ _
  | cons b l ih =>
    intro h
    obtain ⟨h1, h2⟩ := List.pairwise_cons.mp h
    show (if lt b a = true then b :: insG lt a l else a :: b :: l).Pairwise _
    split
    · rename_i hb
      refine List.pairwise_cons.mpr ⟨fun x hx => ?_, ih h2⟩
      rcases List.mem_cons.mp ((insG_perm a l).mem_iff.mp hx) with rfl | hx
      · exact as _ _ hb
      · exact h1 x hx
    · rename_i hb
      have hb' : lt b a = false := by simpa using hb
      refine List.pairwise_cons.mpr ⟨fun x hx => ?_, h⟩
      rcases List.mem_cons.mp hx with rfl | hx
      · exact hb'
      · exact tr a b x hb' (h1 x hx)
theorem sortG_sorted (tr : ∀ a b c, lt b a = false → lt c b = false → lt c a = false) (as : ∀ a b, lt a b = true → lt b a = false) : ∀ l : List α, (sortG lt l).Pairwise (fun x y => lt y x = false) := by
  intro l0
  induction l0 with
  | nil => exact .nil
  | cons a l ih =>
    exact insG_sorted tr as a _ ih
end
noncomputable def ltT (a b : Int × Int) : Bool := if a.1 == b.1 then decide (a.2 < b.2) else decide (a.1 < b.1)
theorem ltT_is (a b : Int × Int) : ltT a b = decide (a.1 < b.1 ∨ (a.1 = b.1 ∧ a.2 < b.2)) := by
  unfold ltT
  by_cases h : a.1 = b.1
  · simp [h]
  · have : (a.1 == b.1) = false := by simpa using h
    rw [this]; simp [h]
theorem lex_tr {a a' b b' c c' : Int} (h1 : ¬ (b < a ∨ b = a ∧ b' < a')) (h2 : ¬ (c < b ∨ c = b ∧ c' < b')) : ¬ (c < a ∨ c = a ∧ c' < a') := by
  have p := Int.not_lt.mp fun h => h1 (.inl h)
  have q := Int.not_lt.mp fun h => h2 (.inl h)
  rintro (h | ⟨rfl, h⟩)
  · exact Int.lt_irrefl _ (Int.lt_of_le_of_lt (Int.le_trans p q) h)
  · obtain rfl := Int.le_antisymm p q
    exact h2 (.inr ⟨rfl, Int.lt_of_lt_of_le h (Int.not_lt.mp fun h => h1 (.inr ⟨rfl, h⟩))⟩)
theorem ltT_tr (a b c : Int × Int) (h1 : ltT b a = false) (h2 : ltT c b = false) : ltT c a = false := by
  rw [ltT_is, decide_eq_false_iff_not] at *; exact lex_tr h1 h2
theorem ltT_as (a b : Int × Int) (h1 : ltT a b = true) : ltT b a = false := by
  rw [ltT_is] at *
  rw [decide_eq_true_eq] at h1
  rw [decide_eq_false_iff_not]; omega
theorem ltT_tot (a b : Int × Int) (h : a ≠ b) (h1 : ltT a b = false) : ltT b a = true := by
  rw [ltT_is, decide_eq_false_iff_not] at h1
  rw [ltT_is, decide_eq_true_eq]
  by_cases e : a.1 = b.1
  · exact .inr ⟨e.symm, Int.lt_iff_le_and_ne.mpr ⟨Int.not_lt.mp fun h => h1 (.inr ⟨e, h⟩), fun hc => h (Prod.ext e hc.symm)⟩⟩
  · exact .inl (Int.lt_iff_le_and_ne.mpr ⟨Int.not_lt.mp fun h => h1 (.inl h), fun h => e h.symm⟩)
theorem idx_lt {p : List Nat} (hn : p.Nodup) {R : Nat → Nat → Prop} (hp : p.Pairwise R) {i j : Nat} (hi : i ∈ p) (hj : j ∈ p) (h : p.idxOf i < p.idxOf j) : R i j := by
  have h1 := List.idxOf_lt_length_of_mem hi
  have h2 := List.idxOf_lt_length_of_mem hj
  have := List.pairwise_iff_getElem.mp hp _ _ h1 h2 h
  rwa [List.getElem_idxOf, List.getElem_idxOf] at this
theorem sorted_run (ks : List (Int × Int)) (hd : ks.Nodup) (h2 : 2 ≤ ks.length) (h5 : ks.length ≤ 5) :
    kOk ks.length (kas_sort ks.length) = true ∧ ∃ p : List Nat, (kRun (ltK ks) (kas_sort ks.length)).toList = p ∧ p.Perm (List.range ks.length) ∧ p.map (fun i => ks.getD i (0, 0)) = sortG ltT ks := by
  obtain ⟨hok, hr⟩ := runs h2 h5
  refine ⟨hok, sortG (ltK ks) (List.range ks.length), ?_, sortG_perm _, ?_⟩
  · have hp := sortG_perm (lt := ltK ks) (List.range ks.length)
    have hs : (sortG (ltK ks) (List.range ks.length)).Pairwise (fun x y => ltK ks y x = false) := sortG_sorted (lt := ltK ks) (fun a b c => ltT_tr (ks.getD a (0, 0)) (ks.getD b (0, 0)) (ks.getD c (0, 0))) (fun a b => ltT_as (ks.getD a (0, 0)) (ks.getD b (0, 0))) _
    have hnd : (sortG (ltK ks) (List.range ks.length)).Nodup := hp.nodup_iff.mpr List.nodup_range
    generalize sortG (ltK ks) (List.range ks.length) = p at hp hs hnd
    rw [kRun_congr (lt' := ltP p) (fun i j hi hj => ?_) hok]
    · exact hr p hp
    · have hip : i ∈ p := hp.mem_iff.mpr (List.mem_range.mpr hi)
      have hjp : j ∈ p := hp.mem_iff.mpr (List.mem_range.mpr hj)
      unfold ltP
      rcases Nat.lt_trichotomy (p.idxOf i) (p.idxOf j) with h | h | h
      · rw [decide_eq_true h]
        have h1 := idx_lt hnd hs hip hjp h
        refine ltT_tot _ _ (fun e => ?_) h1
        have e' : ks[j]? = ks[i]? := by
          rw [List.getElem?_eq_getElem hi, List.getElem?_eq_getElem hj]
          have e : ks.getD j (0, 0) = ks.getD i (0, 0) := e
          rw [List.getD_eq_getElem?_getD, List.getD_eq_getElem?_getD, List.getElem?_eq_getElem hi, List.getElem?_eq_getElem hj] at e
          simpa using e
        have := (List.getElem?_inj hj hd).mp e'
        subst this; exact absurd h (Nat.lt_irrefl _)
      · have hij : i = j := by
          have h1 := List.getElem_idxOf (List.idxOf_lt_length_of_mem hip)
          have h2 := List.getElem_idxOf (List.idxOf_lt_length_of_mem hjp)
          rw [← h1, ← h2]; congr
        subst hij
        rw [decide_eq_false (Nat.lt_irrefl _)]
        show ltT _ _ = false
        rw [ltT_is]; simp
      · rw [decide_eq_false (by omega)]
        exact idx_lt hnd hs hjp hip h
  · rw [sortG_map (lt := ltK ks) (lt' := ltT) (f := fun i => ks.getD i (0, 0)) (fun _ _ => rfl)]
    congr 1
    refine List.ext_getElem (by simp) fun i h1 h2 => ?_
    simp [List.getD_eq_getElem?_getD, h2]
theorem pl_sorted_t {ks : List (Int × Int)} {k : PV → Prop} (hd : ks.Nodup) (h2 : 2 ≤ ks.length) (h5 : ks.length ≤ 5) (h : k (.list (ptups (sortG ltT ks)))) : POL prog w g n (fun vs => call (.builtin "sorted") vs) [.list (ptups ks)] k := by
  obtain ⟨hok, p, hp, hpp, hm⟩ := sorted_run ks hd h2 h5
  refine pl_sorted_tups h2 (by omega) hok (fun i hi => ?_) ?_
  · rw [hp] at hi; exact List.mem_range.mp (hpp.mem_iff.mp hi)
  · rw [hp]
    have : (p.map fun i => (ptups ks).getD i PV.none) = ptups (sortG ltT ks) := by
      rw [← hm]
      unfold ptups
      rw [List.map_map]
      refine List.map_congr_left fun i hi => ?_
      have hi' := List.mem_range.mp (hpp.mem_iff.mp hi)
      simp [List.getD_eq_getElem?_getD, hi']
    rw [this]; exact h
end
section
variable {prog : Program} {w : World} {g : Heap} {n : Nat} {sc : Scope} {ρ ρ' : List Ent} {mg mb : Str → Option Value}
noncomputable def signsF (cs : List Int) : List Int := (cs.zipIdx.filter fun q => decide (0 < q.1)).map fun q => ((q.2 : Nat) : Int)
theorem signsF_next {cs : List Int} {i : Nat} {q : Int} (h : cs[i]? = some q) : signsF (cs.take (i + 1)) = signsF (cs.take i) ++ (if 0 < q then [((i : Nat) : Int)] else []) := by
  unfold signsF
  rw [zipIdx_next h, List.filter_append, List.map_append]
  by_cases h0 : 0 < q <;> simp [h0]
theorem signsF_mem {cs : List Int} {s : Int} (h : s ∈ signsF cs) : 0 ≤ s ∧ s.toNat < cs.length := by
  unfold signsF at h
  obtain ⟨q, hq, rfl⟩ := List.mem_map.mp h
  have := (List.mem_zipIdx' (List.mem_filter.mp hq).1).1
  exact ⟨by omega, by simpa using this⟩
theorem signsF_len (cs : List Int) : (signsF cs).length ≤ cs.length := by
  unfold signsF
  rw [List.length_map]
  exact Nat.le_trans (List.length_filter_le _ _) (by simp)
theorem signsF_nd (cs : List Int) : (signsF cs).Nodup := by
  unfold signsF
  have h1 : (cs.zipIdx.map fun q => ((q.2 : Nat) : Int)).Nodup := by
    have : (cs.zipIdx.map fun q => ((q.2 : Nat) : Int)) = (List.range cs.length).map fun i => ((i : Nat) : Int) := by
      rw [show (fun q : Int × Nat => ((q.2 : Nat) : Int)) = (fun i : Nat => ((i : Nat) : Int)) ∘ Prod.snd from rfl, ← List.map_map, List.zipIdx_map_snd]
      simp [List.range_eq_range']
    rw [this]
    refine List.pairwise_map.mpr (List.Pairwise.imp (fun h => ?_) List.nodup_range)
    intro e; exact h (by omega)
  exact ((List.filter_sublist).map _).nodup h1
theorem we_signs (G : GF g mg mb) (hz : GV mg mb (Str.ofString "enumerate") (.type "enumerate")) {e : Expr} {p1 p2 p3 p4 p5 p6 p7 p8 p9 pos : Pos} {k kk : Nat} {K : PV → List Ent → Prop} (h : WE prog w g n sc e ρ fun d ρ₁ => OfInts d fun ns => ns.length ≤ 2 ^ 20 ∧ K (.list (pints (signsF ns))) ρ₁)
    (hx : sc.names.lookup (Str.ofString "enumerate") = some .globalImplicit := by rfl) (hp : plainE e = true := by rfl) : WE prog w g n sc (.ListComp (.Name (Str.ofString "sign") p1) [⟨.Tuple [.Name (Str.ofString "sign") p2, .Name (Str.ofString "count") p3] kk p4, .Call (.Name (Str.ofString "enumerate") p5) [e] [] p6, [.Compare (.Name (Str.ofString "count") p7) [.Gt] [.Constant (.int 0) k p8] p9], 0⟩] { kind := .function, names := [(Str.ofString ".0", .local), (Str.ofString "sign", .local), (Str.ofString "count", .local)], isGenerator := false, isCoroutine := false } pos) ρ K := by
  refine we_comp [] (wi_enum G hx hz (h.mono fun d ρ1 kk => ?_) hp) rfl rfl (by decide)
  obtain ⟨ns, rfl, hl, kk⟩ := kk
  have hll : (pints ns).length = ns.length := List.length_map ..
  refine ⟨pints ns, rfl, ?_, by omega, fun C => ⟨fun i acc ρ => ∃ s c, ρ = [⟨Str.ofString ".0", none, .unb⟩, ⟨Str.ofString "sign", none, s⟩, ⟨Str.ofString "count", none, c⟩] ∧ acc = pints (signsF (ns.take i)), ?_, ?_, ?_⟩⟩
  · unfold compOk; rw [pick_nil]; rfl
  · rw [pick_nil]; exact ⟨_, _, rfl, rfl⟩
  · rintro i hi F hF acc ρ ⟨s, c, rfl, rfl⟩
    rw [hll] at hi
    obtain ⟨q, hq⟩ : ∃ q, ns[i]? = some q := ⟨_, List.getElem?_eq_getElem hi⟩
    refine ⟨.int i, .int q, _, _, enum_get hq, by trivial, by trivial, ?_⟩
    refine wt_cmp (we_name (by trivial) (we_int (pc_gt ⟨_, rfl, ?_⟩)))
    by_cases h0 : 0 < q
    · refine ifT (by simpa using h0) (we_name (by trivial) (hF _ _ ⟨_, _, rfl, ?_⟩))
      rw [signsF_next hq, if_pos h0]; simp
    · refine ifF (by simpa using h0) (hF _ _ ⟨_, _, rfl, ?_⟩)
      rw [signsF_next hq, if_neg h0]; simp
  · rintro acc ρ ⟨s, c, rfl, rfl⟩
    rw [hll, List.take_length]
    refine ⟨[_, _, _], [], rfl, rfl, ?_⟩
    rw [merge_nil]; exact kk
theorem wx_signs (G : GF g mg mb) (hz : GV mg mb (Str.ofString "enumerate") (.type "enumerate")) {y : Str} {e : Expr} {py spos p1 p2 p3 p4 p5 p6 p7 p8 p9 pos : Pos} {k kk : Nat} {K : Fl → List Ent → Prop} (h : WE prog w g n sc e ρ fun d ρ₁ => OfInts d fun ns => ns.length ≤ 2 ^ 20 ∧ PutK ρ₁ y (.val (.list (pints (signsF ns)))) fun ρ₂ => K .next ρ₂)
    (hy : sc.names.lookup y = some .local := by rfl) (hpp : (py.line == pos.line) = true := by rfl) (hno : ([Str.ofString ".0", Str.ofString "sign", Str.ofString "count"].any fun n => n == y) = false := by decide)
    (hx : sc.names.lookup (Str.ofString "enumerate") = some .globalImplicit := by rfl) (hp : plainE e = true := by rfl) : WX prog w g n sc (.Assign [.Name y py] (.ListComp (.Name (Str.ofString "sign") p1) [⟨.Tuple [.Name (Str.ofString "sign") p2, .Name (Str.ofString "count") p3] kk p4, .Call (.Name (Str.ofString "enumerate") p5) [e] [] p6, [.Compare (.Name (Str.ofString "count") p7) [.Gt] [.Constant (.int 0) k p8] p9], 0⟩] { kind := .function, names := [(Str.ofString ".0", .local), (Str.ofString "sign", .local), (Str.ofString "count", .local)], isGenerator := false, isCoroutine := false } pos) spos) ρ K := by
  refine wx_assign_comp [] (wi_enum G hx hz (h.mono fun d ρ1 kk => ?_) hp) hy hpp (by simpa using hno) rfl rfl (by decide)
  obtain ⟨ns, rfl, hl, kk⟩ := kk
  have hll : (pints ns).length = ns.length := List.length_map ..
  refine ⟨pints ns, rfl, ?_, by omega, fun C => ⟨fun i acc ρ => ∃ s c, ρ = [⟨Str.ofString ".0", none, .unb⟩, ⟨Str.ofString "sign", none, s⟩, ⟨Str.ofString "count", none, c⟩] ∧ acc = pints (signsF (ns.take i)), ?_, ?_, ?_⟩⟩
  · unfold compOk; rw [pick_nil]; rfl
  · rw [pick_nil]; exact ⟨_, _, rfl, rfl⟩
  · rintro i hi F hF acc ρ ⟨s, c, rfl, rfl⟩
    rw [hll] at hi
    obtain ⟨q, hq⟩ : ∃ q, ns[i]? = some q := ⟨_, List.getElem?_eq_getElem hi⟩
    refine ⟨.int i, .int q, _, _, enum_get hq, by trivial, by trivial, ?_⟩
    refine wt_cmp (we_name (by trivial) (we_int (pc_gt ⟨_, rfl, ?_⟩)))
    by_cases h0 : 0 < q
    · refine ifT (by simpa using h0) (we_name (by trivial) (hF _ _ ⟨_, _, rfl, ?_⟩))
      rw [signsF_next hq, if_pos h0]; simp
    · refine ifF (by simpa using h0) (hF _ _ ⟨_, _, rfl, ?_⟩)
      rw [signsF_next hq, if_neg h0]; simp
  · rintro acc ρ ⟨s, c, rfl, rfl⟩
    rw [hll, List.take_length]
    refine ⟨[_, _, _], [], rfl, rfl, ?_⟩
    rw [merge_nil]; exact kk
end
section
variable {prog : Program} {w : World} {g : Heap} {n : Nat} {sc : Scope} {ρ ρ' : List Ent} {mg mb : Str → Option Value}
noncomputable def keysF (cs : List Int) : List (Int × Int) := (signsF cs).map fun s => (cs.getD s.toNat 0, s)
noncomputable def weighF (cs : List Int) : List (Int × Int) := sortG ltT (keysF cs)
noncomputable def singF (cs : List Int) : List Item := (weighF cs).map fun q => (q.1, [q.2])
noncomputable def pairI (row : List Item) (j : Nat) : Item := ((row.getD (2 * j) (0, [])).1 + (row.getD (2 * j + 1) (0, [])).1, (row.getD (2 * j) (0, [])).2 ++ (row.getD (2 * j + 1) (0, [])).2)
noncomputable def pairsF (row : List Item) : List Item := (List.range (row.length / 2)).map (pairI row)
noncomputable def rowF (S : List Item) : Nat → List Item
  | 0 => []
  | k + 1 => dm [] S (pairsF (rowF S k))
noncomputable def bumpS (f : List Int) (s : Int) : List Int := f.set s.toNat (f.getD s.toNat 0 + 1)
noncomputable def bumpI (f : List Int) (it : Item) : List Int := it.2.foldl bumpS f
noncomputable def foundF (m : Nat) (its : List Item) : List Int := its.foldl bumpI (List.replicate m 0)
noncomputable def lensF (cs : List Int) (most : Nat) : List Int :=
  if (signsF cs).length < 2 then (signsF cs).foldl (fun f s => f.set s.toNat 1) (List.replicate cs.length 0)
  else foundF cs.length ((rowF (singF cs) most).take (2 * (signsF cs).length - 2))
theorem bumpI_len (it : Item) : ∀ f : List Int, (bumpI f it).length = f.length := by
  unfold bumpI
  induction it.2 with
  | nil => intro f; rfl
  | cons s l ih => intro f; rw [List.foldl_cons, ih]; simp [bumpS]
theorem foundF_len (m : Nat) (its : List Item) : (foundF m its).length = m := by
  unfold foundF
  have : ∀ f : List Int, (its.foldl bumpI f).length = f.length := by
    induction its with
    | nil => intro f; rfl
    | cons s l ih => intro f; rw [List.foldl_cons, ih, bumpI_len]
  rw [this]; simp
theorem dm_mem : ∀ (ps found rest : List Item) (x : Item), x ∈ dm found rest ps → x ∈ found ∨ x ∈ rest ∨ x ∈ ps := by
  intro l0
  induction l0 with
  | nil =>
    intro f r x h
    rcases List.mem_append.mp h with h | h
    · exact .inl h
    · exact .inr (.inl h)
  | cons p ps ih =>
    intro f r x h
    rw [dm] at h
    rcases ih _ _ x h with h | h | h
    · rcases List.mem_append.mp h with h | h
      · rcases List.mem_append.mp h with h | h
        · exact .inl h
        · exact .inr (.inl ((List.takeWhile_prefix _).subset h))
      · rw [List.mem_singleton.mp h]; exact .inr (.inr (.head _))
    · exact .inr (.inl ((List.dropWhile_suffix _).subset h))
    · exact .inr (.inr (.tail _ h))
theorem rowF_is (S : List Item) (m : Nat) (hS : S.length ≤ 5) (hi : ∀ x ∈ S, x.2.length ≤ 1 ∧ ∀ s ∈ x.2, 0 ≤ s ∧ s.toNat < m) : ∀ k, (rowF S k).length ≤ 10 ∧ ∀ x ∈ rowF S k, x.2.length ≤ 2 ^ k ∧ ∀ s ∈ x.2, 0 ≤ s ∧ s.toNat < m := by
  intro l0
  induction l0 with
  | zero => exact ⟨Nat.zero_le _, fun x hx => nomatch hx⟩
  | succ k ih =>
    obtain ⟨h1, h2⟩ := ih
    have hp : ∀ j, j < (rowF S k).length → (rowF S k).getD j (0, []) ∈ rowF S k := fun j hj => by
      rw [List.getD_eq_getElem?_getD, List.getElem?_eq_getElem hj]; exact List.getElem_mem _
    refine ⟨?_, fun x hx => ?_⟩
    · show (dm [] S (pairsF (rowF S k))).length ≤ 10
      rw [dm_len]
      have : (pairsF (rowF S k)).length = (rowF S k).length / 2 := by simp [pairsF]
      rw [this]; simp; omega
    · rcases dm_mem _ _ _ x hx with h | h | h
      · cases h
      · have := hi x h
        refine ⟨Nat.le_trans this.1 Nat.one_le_two_pow, this.2⟩
      · obtain ⟨j, hj, rfl⟩ := List.mem_map.mp h
        have hj' := List.mem_range.mp hj
        have a1 := h2 _ (hp (2 * j) (by omega))
        have a2 := h2 _ (hp (2 * j + 1) (by omega))
        refine ⟨?_, fun s hs => ?_⟩
        · show (_ ++ _ : List Int).length ≤ _
          rw [List.length_append, Nat.pow_succ]; omega
        · rcases List.mem_append.mp hs with h | h
          · exact a1.2 s h
          · exact a2.2 s h
noncomputable abbrev clR (cs : List Int) (most : Int) (c : Addr) (sign used found weighed weight singles row turn pairs place near far signs : Slot) : List Ent :=
  [⟨Str.ofString "counts", some c, .val (.list (pints cs))⟩, ⟨Str.ofString "most", none, .val (.int most)⟩, ⟨Str.ofString "sign", none, sign⟩, ⟨Str.ofString "used", none, used⟩, ⟨Str.ofString "found", none, found⟩, ⟨Str.ofString "weighed", none, weighed⟩, ⟨Str.ofString "weight", none, weight⟩, ⟨Str.ofString "singles", none, singles⟩, ⟨Str.ofString "row", none, row⟩, ⟨Str.ofString "turn", none, turn⟩, ⟨Str.ofString "pairs", none, pairs⟩, ⟨Str.ofString "place", none, place⟩, ⟨Str.ofString "near", none, near⟩, ⟨Str.ofString "far", none, far⟩, ⟨Str.ofString "signs", none, signs⟩]
theorem walk_cl (G : GG (KK w.params) g mg mb) (cs : List Int) (most : Nat) (hl : cs.length ≤ 5) (hm : 1 ≤ most ∧ most ≤ 4) (hu : (signsF cs).length ≤ 2 ^ most) (hn : 1 ≤ n) (cl : List (Str × Addr)) :
    WS prog w g n (fdAt w.params 144).scope (bodyAt w.params 144) (ents0 [(Str.ofString "counts", .val (.list (pints cs))), (Str.ofString "most", .val (.int most))] cl (fdAt w.params 144).scope.names) fun fl _ => fl = .ret (.list (pints (lensF cs most))) := by
  obtain ⟨n, rfl⟩ : ∃ n', n = n' + 1 := ⟨n - 1, by omega⟩
  generalize hcc : ((cl.lookup (Str.ofString "counts")).getD 0) = c
  show WS prog w g (n + 1) _ _ (clR cs most ((cl.lookup (Str.ofString "counts")).getD 0) .unb .unb .unb .unb .unb .unb .unb .unb .unb .unb .unb .unb .unb) _
  rw [hcc]
  have hll : (pints cs).length = cs.length := List.length_map ..
  have hul := signsF_len cs
  have hum : ∀ s ∈ signsF cs, 0 ≤ s ∧ s.toNat < cs.length := fun s hs => signsF_mem hs
  have hund := signsF_nd cs
  unfold lensF
  have hkd : singF cs = (sortG ltT ((signsF cs).map fun s => (cs.getD s.toNat 0, s))).map fun q => (q.1, [q.2]) := rfl
  rw [hkd]
  refine WS.gen fun K hK => ?_
  refine ws_cons (wx_signs G.gf (gv_enumerate G) (we_name (by trivial) ⟨cs, rfl, by omega, clR cs most c .unb (.val (.list (pints (signsF cs)))) .unb .unb .unb .unb .unb .unb .unb .unb .unb .unb .unb, by trivial, ?_⟩))
  generalize signsF cs = U at hu hul hum hund hK ⊢
  have hUl : (pints U).length = U.length := List.length_map ..
  refine ws_cons (wx_rep (we_int (we_call G.gf (by rfl) (gv_len G) True.intro (wel1 (we_name (by trivial) (pl_len (by omega) ⟨_, rfl, by omega, by omega, fun a => ⟨clR cs most c .unb (.val (.list (pints U))) (.lst a (pints (List.replicate cs.length 0))) .unb .unb .unb .unb .unb .unb .unb .unb .unb .unb, ?_, ?_⟩⟩)) rfl))))
  · have : List.replicate (Int.toNat ((pints cs).length : Nat)) (PV.int 0) = pints (List.replicate cs.length 0) := by simp [pints]
    rw [this]; trivial
  refine ws_cons (wx_if (wt_cmp (we_call G.gf (by rfl) (gv_len G) True.intro (wel1 (we_name (by trivial) (pl_len (by omega) (we_int (pc_eq ⟨_, rfl, ?_⟩)))) rfl))))
  by_cases h2 : U.length < 2
  · rw [if_pos h2] at hK
    by_cases h1 : U.length = 1
    · obtain ⟨s, rfl⟩ : ∃ s, U = [s] := List.length_eq_one_iff.mp h1
      obtain ⟨s1, s2⟩ := hum s (.head _)
      refine ifT (by simp) ?_
      refine ws_cons (wx_set (we_int ⟨a, pints (List.replicate cs.length 0), by trivial, we_sub (we_name (by trivial) ⟨rfl, we_int (pi_list (by decide) (by decide) rfl ⟨s, pints (List.replicate cs.length 0), clR cs most c .unb (.val (.list (pints [s]))) (.lst a ((pints (List.replicate cs.length 0)).set s.toNat (.int 1))) .unb .unb .unb .unb .unb .unb .unb .unb .unb .unb, rfl, s1, by simp; omega, by simp; omega, by trivial, ?_⟩)⟩)⟩))
      refine ws_nil ?_
      refine ws_cons (wx_if (wt_cmp (we_call G.gf (by rfl) (gv_len G) True.intro (wel1 (we_name (by trivial) (pl_len (by omega) (we_int (pc_lt ⟨_, rfl, ?_⟩)))) rfl))))
      refine ifT (by simp) ?_
      refine ws_cons (wx_ret (we_frz (ρ' := clR cs most c .unb (.val (.list (pints [s]))) (.val (.list ((pints (List.replicate cs.length 0)).set s.toNat (.int 1)))) .unb .unb .unb .unb .unb .unb .unb .unb .unb .unb) (by trivial) ?_))
      refine hK _ _ ?_
      show _ = _
      rw [pints_set]; rfl
    · have h0 : U = [] := List.eq_nil_of_length_eq_zero (by omega)
      subst h0
      refine ifF (by simp) ?_
      refine ws_nil ?_
      refine ws_cons (wx_if (wt_cmp (we_call G.gf (by rfl) (gv_len G) True.intro (wel1 (we_name (by trivial) (pl_len (by omega) (we_int (pc_lt ⟨_, rfl, ?_⟩)))) rfl))))
      refine ifT (by simp) ?_
      refine ws_cons (wx_ret (we_frz (ρ' := clR cs most c .unb (.val (.list (pints []))) (.val (.list (pints (List.replicate cs.length 0)))) .unb .unb .unb .unb .unb .unb .unb .unb .unb .unb) (by trivial) (hK _ _ ?_)))
      rfl
  · rw [if_neg h2] at hK
    refine ifF (by simp; omega) ?_
    refine ws_nil ?_
    refine ws_cons (wx_if (wt_cmp (we_call G.gf (by rfl) (gv_len G) True.intro (wel1 (we_name (by trivial) (pl_len (by omega) (we_int (pc_lt ⟨_, rfl, ?_⟩)))) rfl))))
    refine ifF (by simp; omega) ?_
    refine ws_nil ?_
    have hpw : (2 : Int) ^ (most : Int).toNat = ((2 ^ most : Nat) : Int) := by simp
    refine ws_cons (wx_if (wt_cmp (we_call G.gf (by rfl) (gv_len G) True.intro (wel1 (we_name (by trivial) (pl_len (by omega) (we_bin (we_int (we_name (by trivial) (po_shl (by omega) (by omega) (by decide) (pc_gt ⟨_, rfl, ?_⟩))))))) rfl))))
    refine ifF (by rw [hpw, hUl]; simp only [decide_eq_false_iff_not]; omega) ?_
    refine ws_nil ?_
    have hKl : (U.map fun s => (cs.getD s.toNat 0, s)).length = U.length := List.length_map ..
    have hKn : (U.map fun s => (cs.getD s.toNat 0, s)).Nodup := List.pairwise_map.mpr (hund.imp fun h e => h (Prod.ext_iff.mp e).2)
    refine ws_cons (wx_assign (we_call G.gf (by rfl) (gv_sorted G) True.intro (wel1 (we_comp [true, false, false, false, false, false, false, false, false, false, false, false, false, false, false] (wi_list (we_name (by trivial) ⟨pints U, rfl, by rfl, by omega, fun C => ⟨fun i acc ρ => ∃ e, ρ = [⟨Str.ofString ".0", none, .unb⟩, ⟨Str.ofString "sign", none, e⟩, ⟨Str.ofString "counts", some c, .val (.list (pints cs))⟩] ∧ acc = ptups ((U.take i).map fun s => (cs.getD s.toNat 0, s)), ?_, ?_, ?_⟩⟩))) rfl)))
    · exact ⟨_, rfl, rfl⟩
    · rintro i hi F hF acc ρ ⟨e, rfl, rfl⟩
      rw [hUl] at hi
      obtain ⟨s, hs⟩ : ∃ q, U[i]? = some q := ⟨_, List.getElem?_eq_getElem hi⟩
      obtain ⟨s1, s2⟩ := hum s (List.mem_of_getElem? hs)
      refine ⟨.int s, _, get_map hs, by trivial, ?_⟩
      show WE prog w g (n + 1) _ _ _ _
      refine we_tup (wel_cons (we_sub (we_name (by trivial) ⟨rfl, we_name (by trivial) (pi_list s1 (by omega) (pints_get s2) (wel_cons (we_name (by trivial) (wel_nil ⟨hF _ _ ⟨.val (.int s), rfl, ?_⟩, by show 2 ≤ 2 ^ 24; decide⟩))))⟩)))
      rw [take_next hs]; simp
    · rintro acc ρ ⟨e, rfl, rfl⟩
      rw [hUl, List.take_length]
      refine ⟨[_, _], [_], rfl, rfl, ?_⟩
      refine pl_sorted_t hKn (by omega) (by omega) ?_
      have hWp := sortG_perm (lt := ltT) (U.map fun s => (cs.getD s.toNat 0, s))
      have hWl := hWp.length_eq
      have hWm : ∀ q ∈ sortG ltT (U.map fun s => (cs.getD s.toNat 0, s)), 0 ≤ q.2 ∧ q.2.toNat < cs.length := fun q hq => by
        obtain ⟨s, hs, rfl⟩ := List.mem_map.mp (hWp.mem_iff.mp hq)
        exact hum s hs
      generalize hWe : sortG ltT (U.map fun s => (cs.getD s.toNat 0, s)) = W at hWl hWm ⊢
      have hWW : (ptups W).length = W.length := List.length_map ..
      refine ⟨clR cs most c .unb (.val (.list (pints U))) (.lst a (pints (List.replicate cs.length 0))) (.val (.list (ptups W))) .unb .unb .unb .unb .unb .unb .unb .unb .unb, by trivial, ?_⟩
      refine ws_cons (wx_assign_comp [] (wi_pairs (we_name (by trivial) ⟨ptups W, rfl, by rfl, by omega, fun C => ⟨fun i acc ρ => ∃ e f, ρ = [⟨Str.ofString ".0", none, .unb⟩, ⟨Str.ofString "weight", none, e⟩, ⟨Str.ofString "sign", none, f⟩] ∧ acc = pits ((W.take i).map fun q => (q.1, [q.2])), ?_, ?_, ?_⟩⟩)))
      · exact ⟨_, _, rfl, rfl⟩
      · rintro i hi F hF acc ρ ⟨e, f, rfl, rfl⟩
        rw [hWW] at hi
        obtain ⟨q, hq⟩ : ∃ q, W[i]? = some q := ⟨_, List.getElem?_eq_getElem hi⟩
        refine ⟨.int q.1, .int q.2, _, _, get_map hq, by trivial, by trivial, ?_⟩
        show WE prog w g (n + 1) _ _ _ _
        refine we_tup (wel_cons (we_name (by trivial) (wel_cons (we_list (wel_cons (we_name (by trivial) (wel_nil ⟨wel_nil ⟨hF _ _ ⟨.val (.int q.1), .val (.int q.2), rfl, ?_⟩, by show 2 ≤ 2 ^ 24; decide⟩, by show 1 ≤ 2 ^ 24; decide⟩)))))))
        rw [take_next hq]; simp
      · rintro acc ρ ⟨e, f, rfl, rfl⟩
        rw [hWW, List.take_length]
        refine ⟨[_, _, _], [], rfl, rfl, ?_⟩
        rw [merge_nil]
        generalize hS : (W.map fun q => ((q.1, [q.2]) : Item)) = S
        have hSl : S.length ≤ 5 := by rw [← hS]; simp; omega
        have hSi : ∀ x ∈ S, x.2.length ≤ 1 ∧ ∀ s ∈ x.2, 0 ≤ s ∧ s.toNat < cs.length := fun x hx => by
          rw [← hS] at hx
          obtain ⟨q, hq, rfl⟩ := List.mem_map.mp hx
          exact ⟨by simp, fun s hs => by rw [List.mem_singleton.mp hs]; exact hWm q hq⟩
        refine ⟨clR cs most c .unb (.val (.list (pints U))) (.lst a (pints (List.replicate cs.length 0))) (.val (.list (ptups W))) .unb (.val (.list (pits S))) .unb .unb .unb .unb .unb .unb .unb, by trivial, ?_⟩
        have hrow := rowF_is S cs.length hSl hSi
        refine ws_cons (wx_assign (we_list (wel_nil ⟨⟨clR cs most c .unb (.val (.list (pints U))) (.lst a (pints (List.replicate cs.length 0))) (.val (.list (ptups W))) .unb (.val (.list (pits S))) (.val (.list [])) .unb .unb .unb .unb .unb .unb, by trivial, ?_⟩, by show 0 ≤ 2 ^ 24; decide⟩)))
        refine ws_cons (wx_for (wi_range1 G.gf (by rfl) (gv_range G) (we_name (by trivial) ⟨most, rfl, by omega, by omega, fun i ρ => ∃ t p l e f, ρ = clR cs most c .unb (.val (.list (pints U))) (.lst a (pints (List.replicate cs.length 0))) (.val (.list (ptups W))) .unb (.val (.list (pits S))) (.val (.list (pits (rowF S i)))) t p l e f .unb, ?_, ?_, ?_⟩)))
        · exact ⟨_, _, _, _, _, rfl⟩
        · rintro i hi K hK hR ρ ⟨t, p, l, e, f, rfl⟩
          refine ⟨.int (0 + (i : Nat) * 1), _, rangePV_get hi, by trivial, ?_⟩
          obtain ⟨hr1, hr2⟩ := hrow i
          have hnx : rowF S (i + 1) = dm [] S (pairsF (rowF S i)) := rfl
          generalize rowF S i = R at hr1 hr2 hnx ⊢
          have hRl : (pits R).length = R.length := List.length_map ..
          have hi4 : (i : Nat) < 4 := by have : i < (most : Int).toNat := hi; omega
          have hi5 : 2 ^ i ≤ 2 ^ 4 := Nat.pow_le_pow_right (by decide) (by omega)
          generalize hT : (PV.int (0 + (i : Nat) * 1)) = T
          refine ws_cons (wx_new (wel_nil ⟨by decide, fun b => ⟨clR cs most c .unb (.val (.list (pints U))) (.lst a (pints (List.replicate cs.length 0))) (.val (.list (ptups W))) .unb (.val (.list (pits S))) (.val (.list (pits R))) (.val T) (.lst b []) l e f .unb, by trivial, ?_⟩⟩))
          have hsz : (Builtin.Range.rangeSize 0 (((pits R).length : Nat) - 1 : Int) 2).toNat = R.length / 2 := by
            rw [hRl]
            cases R.length with
            | zero => rfl
            | succ m => rw [Int.natCast_succ, Int.add_sub_cancel]; exact rs_up m 2 (by decide)
          refine ws_cons (wx_for (wi_range3 G.gf (by rfl) (gv_range G) (we_int (we_bin (we_call G.gf (by rfl) (gv_len G) True.intro (wel1 (we_name (by trivial) (pl_len (by omega) (we_int (po_sub (we_int ⟨0, _, 2, rfl, rfl, rfl, by decide, by omega, by omega, by decide, by decide, by decide, by decide, fun j ρ => ∃ l e f, ρ = clR cs most c .unb (.val (.list (pints U))) (.lst a (pints (List.replicate cs.length 0))) (.val (.list (ptups W))) .unb (.val (.list (pits S))) (.val (.list (pits R))) (.val T) (.lst b (pits ((List.range j).map (pairI R)))) l e f .unb, ?_, ?_, ?_⟩))))) rfl))))))
          · exact ⟨_, _, _, rfl⟩
          · rintro j hj K hK hR ρ ⟨l, e, f, rfl⟩
            rw [hsz] at hj
            refine ⟨.int (0 + (j : Nat) * 2), _, rangePV_get (by rw [hsz]; exact hj), by trivial, ?_⟩
            have e2 : (0 : Int) + (j : Nat) * 2 = ((2 * j : Nat) : Int) := by omega
            rw [e2]
            have get : ∀ k, k < R.length → (pits R)[k]? = some (pit (R.getD k (0, []))) ∧ R.getD k (0, []) ∈ R := fun k hk => by
              rw [List.getD_eq_getElem?_getD, List.getElem?_map, List.getElem?_eq_getElem hk]
              exact ⟨rfl, List.getElem_mem _⟩
            obtain ⟨g1, m1⟩ := get (2 * j) (by omega)
            obtain ⟨g2, m2⟩ := get (2 * j + 1) (by omega)
            have hpj : pairI R j = ((R.getD (2 * j) (0, [])).1 + (R.getD (2 * j + 1) (0, [])).1, (R.getD (2 * j) (0, [])).2 ++ (R.getD (2 * j + 1) (0, [])).2) := rfl
            have l1 := (hr2 _ m1).1
            have l2 := (hr2 _ m2).1
            generalize R.getD (2 * j) (0, []) = A at g1 hpj l1
            generalize R.getD (2 * j + 1) (0, []) = B at g2 hpj l2
            refine ws_cons (wx_assign (we_sub (we_name (by trivial) ⟨rfl, we_name (by trivial) (pi_list (d := pit A) (by omega) (by omega) (by rw [Int.toNat_natCast]; exact g1) ⟨_, by trivial, ?_⟩)⟩)))
            refine ws_cons (wx_assign (we_sub (we_name (by trivial) ⟨rfl, we_bin (we_name (by trivial) (we_int (po_add (pi_list (d := pit B) (by omega) (by omega) (by rw [show (((2 * j : Nat) : Int) + 1).toNat = 2 * j + 1 by omega]; exact g2) ⟨_, by trivial, ?_⟩))))⟩)))
            refine ws_cons (wx_append (by trivial) (we_tup (wel_cons (we_bin (we_sub (we_name (by trivial) ⟨rfl, we_int (pi_tup (d := .int A.1) (by decide) (by decide) rfl (we_sub (we_name (by trivial) ⟨rfl, we_int (pi_tup (d := .int B.1) (by decide) (by decide) rfl (po_add (wel_cons (we_bin (we_sub (we_name (by trivial) ⟨rfl, we_int (pi_tup (d := .list (pints A.2)) (by decide) (by decide) rfl (we_sub (we_name (by trivial) ⟨rfl, we_int (pi_tup (d := .list (pints B.2)) (by decide) (by decide) rfl (po_cat (wel_nil ⟨⟨pits ((List.range j).map (pairI R)), clR cs most c .unb (.val (.list (pints U))) (.lst a (pints (List.replicate cs.length 0))) (.val (.list (ptups W))) .unb (.val (.list (pits S))) (.val (.list (pits R))) (.val T) (.lst b (pits ((List.range j).map (pairI R)) ++ [.tup [.int (A.1 + B.1), .list (pints A.2 ++ pints B.2)]])) (.val (.int ((2 * j : Nat) : Int))) (.val (pit A)) (.val (pit B)) .unb, ?_, by trivial, ?_⟩, by show 2 ≤ 2 ^ 24; decide⟩) ?_))⟩)))⟩))))))⟩)))⟩))))))
            · simp; omega
            · refine ws_nil (hK _ ⟨.val (.int ((2 * j : Nat) : Int)), .val (pit A), .val (pit B), ?_⟩)
              rw [List.range_succ, List.map_append]
              have e3 : ∀ (xs : List Item) y, pits (xs ++ [y]) = pits xs ++ [pit y] := fun xs y => by simp
              have e4 : pit (A.1 + B.1, A.2 ++ B.2) = .tup [.int (A.1 + B.1), .list (pints A.2 ++ pints B.2)] := by simp
              rw [List.map_cons, List.map_nil, e3, hpj, e4]
            · simp [sizeLine]; omega
          · rintro ρ ⟨l, e, f, rfl⟩
            rw [hsz]
            have hpf : (List.range (R.length / 2)).map (pairI R) = pairsF R := rfl
            rw [hpf]
            have hQl : (pairsF R).length = R.length / 2 := by simp [pairsF]
            refine ws_cons (wx_assign (wd2 G (fn139 _) (gt_deflate_merged G) (x := Str.ofString "singles") (y := Str.ofString "pairs") (b139 _) rfl rfl (by decide) (we_name (by trivial) (we_frz (ρ' := clR cs most c .unb (.val (.list (pints U))) (.lst a (pints (List.replicate cs.length 0))) (.val (.list (ptups W))) .unb (.val (.list (pits S))) (.val (.list (pits R))) (.val T) (.val (.list (pits (pairsF R)))) l e f .unb) (by trivial) ⟨.list (pits (dm [] S (pairsF R))), fun cs => walk_dm G S (pairsF R) (by omega) (by omega) cs, _, by trivial, ?_⟩))))
            exact ws_nil (hK _ ⟨_, _, _, _, _, by rw [hnx]⟩)
        · rintro ρ ⟨t, p, l, e, f, rfl⟩
          rw [Int.toNat_natCast]
          obtain ⟨hr1, hr2⟩ := hrow most
          generalize hRe : rowF S most = R at hr1 hr2 ⊢
          have hRl : (pits R).length = R.length := List.length_map ..
          have htk : (pits R).take (2 * U.length - 2) = pits (R.take (2 * U.length - 2)) := by simp [pits, List.map_take]
          have hTm : ∀ x ∈ R.take (2 * U.length - 2), ∀ s ∈ x.2, 0 ≤ s ∧ s.toNat < cs.length := fun x hx => (hr2 x (List.mem_of_mem_take hx)).2
          generalize hTk : R.take (2 * U.length - 2) = Tk at htk hTm ⊢
          have hTl : (pits Tk).length = Tk.length := List.length_map ..
          refine ws_cons (wx_for (wi_pairs (we_upto (we_name (by trivial) ⟨pits R, rfl, by omega, we_bin (we_bin (we_int (we_call G.gf (by rfl) (gv_len G) True.intro (wel1 (we_name (by trivial) (pl_len (by omega) (po_mul (we_int (po_sub ⟨2 * U.length - 2, by rw [hUl]; congr 1; omega, pits Tk, by rw [htk], fun i ρ => ∃ sg wt sn, ρ = clR cs most c sg (.val (.list (pints U))) (.lst a (pints (foundF cs.length (Tk.take i)))) (.val (.list (ptups W))) wt (.val (.list (pits S))) (.val (.list (pits R))) t p l e f sn, ?_, ?_, ?_⟩)) (IntMulOk.of_left (by decide))))) rfl))))⟩))))
          · exact ⟨_, _, _, rfl⟩
          · rintro i hi K hK hR ρ ⟨sg, wt, sn, rfl⟩
            rw [hTl] at hi
            obtain ⟨q, hq⟩ : ∃ q, Tk[i]? = some q := ⟨_, List.getElem?_eq_getElem hi⟩
            have hqm := hTm q (List.mem_of_getElem? hq)
            refine ⟨.int q.1, .list (pints q.2), _, _, get_map hq, by trivial, by trivial, ?_⟩
            have hnx : foundF cs.length (Tk.take (i + 1)) = bumpI (foundF cs.length (Tk.take i)) q := by
              unfold foundF; rw [take_next hq, List.foldl_append]; rfl
            have hFl := foundF_len cs.length (Tk.take i)
            generalize foundF cs.length (Tk.take i) = F at hFl hnx ⊢
            have hql : (pints q.2).length = q.2.length := List.length_map ..
            refine ws_cons (wx_for (wi_list (we_name (by trivial) ⟨pints q.2, rfl, fun j ρ => ∃ sg, ρ = clR cs most c sg (.val (.list (pints U))) (.lst a (pints (bumpI F (q.1, q.2.take j)))) (.val (.list (ptups W))) (.val (.int q.1)) (.val (.list (pits S))) (.val (.list (pits R))) t p l e f (.val (.list (pints q.2))), ?_, ?_, ?_⟩)))
            · exact ⟨_, rfl⟩
            · rintro j hj K hK hR ρ ⟨sg, rfl⟩
              rw [hql] at hj
              obtain ⟨s, hs⟩ : ∃ s, q.2[j]? = some s := ⟨_, List.getElem?_eq_getElem hj⟩
              obtain ⟨s1, s2⟩ := hqm s (List.mem_of_getElem? hs)
              have hbl := (bumpI_len (q.1, q.2.take j) F).trans hFl
              have hnb : bumpI F (q.1, q.2.take (j + 1)) = bumpS (bumpI F (q.1, q.2.take j)) s := by
                unfold bumpI; rw [take_next hs, List.foldl_append]; rfl
              generalize bumpI F (q.1, q.2.take j) = M at hbl hnb ⊢
              refine ⟨.int s, _, get_map hs, by trivial, ?_⟩
              refine ws_cons (wx_set (we_bin (we_sub_own (by trivial) (we_name (by trivial) ⟨s, pints M, .int (M.getD s.toNat 0), rfl, by trivial, s1, by omega, pints_get (by omega), we_int (po_add ⟨a, pints M, by trivial, we_name (by trivial) ⟨s, pints M, clR cs most c (.val (.int s)) (.val (.list (pints U))) (.lst a ((pints M).set s.toNat (.int (M.getD s.toNat 0 + 1)))) (.val (.list (ptups W))) (.val (.int q.1)) (.val (.list (pits S))) (.val (.list (pits R))) t p l e f (.val (.list (pints q.2))), rfl, s1, by simp; omega, by simp; omega, by trivial, ?_⟩⟩)⟩))))
              refine ws_nil (hK _ ⟨.val (.int s), ?_⟩)
              rw [pints_set, hnb]; rfl
            · rintro ρ ⟨sg, rfl⟩
              rw [hql, List.take_length]
              exact ws_nil (hK _ ⟨_, _, _, by rw [hnx]⟩)
          · rintro ρ ⟨sg, wt, sn, rfl⟩
            rw [hTl, List.take_length]
            refine ws_cons (wx_ret (we_frz (ρ' := clR cs most c sg (.val (.list (pints U))) (.val (.list (pints (foundF cs.length Tk)))) (.val (.list (ptups W))) wt (.val (.list (pits S))) (.val (.list (pits R))) t p l e f sn) (by trivial) (hK _ _ ?_)))
            rw [← hTk, ← hRe, ← hS, ← hWe]
end
section
variable {prog : Program} {w : World} {g : Heap} {n : Nat} {sc : Scope} {ρ ρ' : List Ent} {mg mb : Str → Option Value}
theorem div_small {a b : Int} (h0 : 0 ≤ b) (h1 : b ≤ 1000) : Builtin.divisionGoesByPylong a b = false := by
  unfold Builtin.divisionGoesByPylong
  have : ¬ ((if b == 0 then 0 else b.natAbs.log2 / 30 + 1) > 300) := by
    split
    · decide
    · have h2 : b.natAbs.log2 ≤ 10 := by
        have : b.natAbs < 2 ^ 11 := by omega
        by_cases hz : b.natAbs = 0
        · rw [hz]; decide
        · have := (Nat.log2_lt hz).mpr this; omega
      omega
  simp only [decide_eq_false this, Bool.false_and]
noncomputable abbrev deckE (cs : List Int) (k : Nat) : List (Str × PV) := [(Str.ofString "cells", .list (pints cs)), (Str.ofString "at", .int k)]
noncomputable abbrev drR (a : Addr) (cs : List Int) (k : Nat) (b : Int) (at' cells : Slot) : List Ent := [⟨Str.ofString "deck", none, .dct a (deckE cs k)⟩, ⟨Str.ofString "below", none, .val (.int b)⟩, ⟨Str.ofString "at", none, at'⟩, ⟨Str.ofString "cells", none, cells⟩]
theorem walk_draw (G : GG (KK w.params) g mg mb) (a : Addr) (cs : List Int) (k : Nat) (b : Int) (hl : cs.length ≤ 40) (hc : ∀ c ∈ cs, 0 ≤ c ∧ c < 1000000007) (hk : k ≤ 100) (hb : 1 ≤ b ∧ b ≤ 9) (cl : List (Str × Addr)) :
    WS prog w g n (fdAt w.params 258).scope (bodyAt w.params 258) (ents0 [(Str.ofString "deck", .dct a (deckE cs k)), (Str.ofString "below", .val (.int b))] cl (fdAt w.params 258).scope.names) fun fl ρ' => ∃ v at' cells, fl = .ret (.int v) ∧ 0 ≤ v ∧ v < b ∧ ρ' = drR a cs (k + 1) b at' cells := by
  show WS prog w g n _ _ (drR a cs k b .unb .unb) _
  have hll : (pints cs).length = cs.length := List.length_map ..
  refine ws_cons (wx_tupS (wol_cons (wo_e (we_dget (by trivial) (d := .int k) rfl (wol_cons (wo_e (we_dget (by trivial) (d := .list (pints cs)) rfl (wol_nil ⟨by show 2 ≤ 3; decide, rfl, drR a cs k b (.val (.int k)) (.val (.list (pints cs))), ?_, ?_⟩))))))) ?_)
  · exact .cons (ρ₁ := drR a cs k b .unb (.val (.list (pints cs)))) (by trivial) (.cons (ρ₁ := drR a cs k b (.val (.int k)) (.val (.list (pints cs)))) (by trivial) .nil)
  · refine ws_cons (wx_dset (we_bin (we_name (by trivial) (we_int (po_add ⟨a, deckE cs k, drR a cs (k + 1) b (.val (.int k)) (.val (.list (pints cs))), ?_, rfl, by show 2 ≤ 100; decide, ?_⟩)))))
    · have e1 : storedE (Str.ofString "at") (.int ((k : Int) + 1)) (deckE cs k) = deckE cs (k + 1) := by
        have e2 : ((k + 1 : Nat) : Int) = (k : Int) + 1 := by omega
        unfold deckE storedE storedE
        rw [if_neg (show ¬ (Str.ofString "cells" = Str.ofString "at") by decide), if_pos rfl, e2]
      rw [e1]; trivial
    have hmod : ∀ x : Int, 0 ≤ Int.fmod x b ∧ Int.fmod x b < b := fun x => by
      rw [Int.fmod_eq_emod_of_nonneg _ (by omega)]
      exact ⟨Int.emod_nonneg _ (by omega), Int.emod_lt_of_pos _ (by omega)⟩
    refine ws_cons (wx_if (wt_cmp (we_name (by trivial) (we_call G.gf (by rfl) (gv_len G) True.intro (wel1 (we_name (by trivial) (pl_len (by omega) (pc_lt ⟨_, rfl, ?_⟩))) rfl)))))
    by_cases h1 : k < cs.length
    · refine ifT (by simp; omega) ?_
      refine ws_cons (wx_ret (we_bin (we_sub (we_name (by trivial) ⟨rfl, we_name (by trivial) (pi_list (d := .int (cs.getD k 0)) (by omega) (by omega) (by rw [Int.toNat_natCast]; exact pints_get h1) (we_name (by trivial) (po_mod (by omega) ⟨_, _, _, rfl, (hmod _).1, (hmod _).2, rfl⟩)))⟩))))
    · refine ifF (by simp; omega) ?_
      refine ws_nil ?_
      refine ws_cons (wx_if (wt_cmp (we_name (by trivial) (we_list (wel_nil ⟨pc_leq (ns := cs) (ms := []) ⟨_, rfl, ?_⟩, by show 0 ≤ 2 ^ 24; decide⟩)))))
      have hdiv : ∀ x y : Int, 0 ≤ x → 1 ≤ y → 0 ≤ Int.fdiv x y := fun x y h1 h2 => by
        rw [Int.fdiv_eq_ediv_of_nonneg _ (by omega)]; exact Int.ediv_nonneg h1 (by omega)
      by_cases h2 : cs = []
      · refine ifT (by simp [h2]) ?_
        refine ws_cons (wx_ret (we_bin (we_bin (we_bin (we_name (by trivial) (we_int (po_mul (we_bin (we_name (by trivial) (we_int (po_div (by decide) (div_small (by decide) (by decide)) (po_add (we_name (by trivial) (po_mod (by omega) ⟨_, _, _, rfl, (hmod _).1, (hmod _).2, rfl⟩))))))) (IntMulOk.of_left (bits_small (by omega) (by omega))))))))))
      · refine ifF (by simp [h2]) ?_
        have hcl : 0 < cs.length := List.length_pos_iff.mpr h2
        have hfm : 0 ≤ Int.fmod (k : Int) (cs.length : Int) ∧ Int.fmod (k : Int) (cs.length : Int) < cs.length := by
          rw [Int.fmod_eq_emod_of_nonneg _ (by omega)]
          exact ⟨Int.emod_nonneg _ (by omega), Int.emod_lt_of_pos _ (by omega)⟩
        refine ws_nil ?_
        refine ws_cons (wx_ret (we_bin (we_bin (we_bin (we_bin (we_sub (we_name (by trivial) ⟨rfl, (we_bin (we_name (by trivial) (we_call G.gf (by rfl) (gv_len G) True.intro (wel1 (we_name (by trivial) (pl_len (by omega) (po_mod (by omega) (pi_list (d := .int (cs.getD (Int.fmod (k : Int) (cs.length : Int)).toNat 0)) (by rw [hll]; exact hfm.1) (by rw [hll]; omega) (by rw [hll]; exact pints_get (by omega)) (we_bin (we_name (by trivial) (we_int (po_add (po_div (by omega) (div_small (by omega) (by omega)) (we_bin (we_name (by trivial) (we_int (po_mul (po_add (we_bin (we_name (by trivial) (we_int (po_div (by decide) (div_small (by decide) (by decide)) (po_add (we_name (by trivial) (po_mod (by omega) ⟨_, _, _, rfl, (hmod _).1, (hmod _).2, rfl⟩)))))))) (IntMulOk.of_left (bits_small (by omega) (by omega)))))))))))))))) rfl))))⟩)))))))
  · intro env he
    cases env
    dsimp only at he
    subst he
    rfl
end
section
variable {prog : Program} {w : World} {g : Heap} {n : Nat} {sc : Scope} {ρ ρ' : List Ent} {mg mb : Str → Option Value}
noncomputable def retOf (l : List Stmt) : Option Expr := onStmt none (fun _ _ _ _ => none) (fun _ => none) id (l.headD (.Pass ⟨0, 0, 0, 0⟩))
noncomputable def cellsF (s : List Int) : List Int := (s.take 40).map fun c => Int.fmod c 1000000007
theorem cellsF_is (s : List Int) : (cellsF s).length ≤ 40 ∧ ∀ c ∈ cellsF s, 0 ≤ c ∧ c < 1000000007 := by
  refine ⟨by simp [cellsF]; omega, fun c hc => ?_⟩
  obtain ⟨x, _, rfl⟩ := List.mem_map.mp hc
  rw [Int.fmod_eq_emod_of_nonneg _ (by decide)]
  exact ⟨Int.emod_nonneg _ (by decide), Int.emod_lt_of_pos _ (by decide)⟩
theorem walk_deck (G : GG (KK w.params) g mg mb) (s : List Int) (hl : s.length ≤ 2 ^ 20) (cl : List (Str × Addr)) (e : Expr) (he : retOf (bodyAt w.params 251) = some e) :
    WO prog w g n (fdAt w.params 251).scope e (ents0 [(Str.ofString "script", .val (.list (pints s)))] cl (fdAt w.params 251).scope.names) fun sl _ => ∃ a, sl = .dct a (deckE (cellsF s) 0) := by
  have e0 : retOf (bodyAt w.params 251) = retOf (bodyAt w.params 251) := rfl
  conv at e0 => rhs; unfold bodyAt fdAt; whnf
  rw [e0] at he
  cases he
  show WO prog w g n _ _ [⟨Str.ofString "script", none, .val (.list (pints s))⟩] _
  have hll : (pints s).length = s.length := List.length_map ..
  have htk : (pints s).take 40 = pints (s.take 40) := by simp [pints, List.map_take]
  have htl : (pints (s.take 40)).length = (s.take 40).length := List.length_map ..
  have ht4 : (s.take 40).length ≤ 40 := by simp; omega
  refine wo_dict2 (we_comp [] (wi_list (we_upto (we_name (by trivial) ⟨pints s, rfl, by omega, we_int ⟨40, rfl, pints (s.take 40), by rw [htk], by rfl, by omega, fun C => ⟨fun i acc ρ => ∃ e, ρ = [⟨Str.ofString ".0", none, .unb⟩, ⟨Str.ofString "cell", none, e⟩] ∧ acc = pints (((s.take 40).take i).map fun c => Int.fmod c 1000000007), ?_, ?_, ?_⟩⟩⟩)))) (by decide)
  · exact ⟨_, rfl, rfl⟩
  · rintro i hi F hF acc ρ ⟨e, rfl, rfl⟩
    rw [htl] at hi
    obtain ⟨q, hq⟩ : ∃ q, (s.take 40)[i]? = some q := ⟨_, List.getElem?_eq_getElem hi⟩
    refine ⟨.int q, _, get_map hq, by trivial, ?_⟩
    show WE prog w g n _ _ _ _
    refine we_bin (we_call G.gf (by rfl) (gv_int G) True.intro (wel1 (we_name (by trivial) (pl_int (we_int (po_mod (by decide) (hF _ _ ⟨_, rfl, ?_⟩))))) rfl))
    rw [take_next hq]; simp
  · rintro acc ρ ⟨e, rfl, rfl⟩
    rw [htl, List.take_length]
    refine ⟨[_, _], [], rfl, rfl, ?_⟩
    exact we_int fun a => ⟨a, rfl⟩
end
section
theorem plainAttrs_bytearray : PlainAttrs "bytearray" :=
  ⟨⟨"bytearray.__getattribute__", by rw [typeLookup_type, builtinLookup_eq_fast]; kernel_rfl, by decide +kernel⟩, by rw [typeLookup_type, builtinLookup_eq_fast]; kernel_rfl⟩
theorem owner_bytearray : Manifest.owners.lookup (String.ofList ['y', 'a', 'r', 'r', 'a', 'e', 't', 'y', 'b'].reverse) = some Manifest.sig_bytearray := by kernel_rfl
theorem slot_bya_append : PySem.Slot "bytearray" "append" "bytearray.append" :=
  .of (owner := "bytearray") (n := "append") (by rw [typeLookup_type, builtinLookup_eq_fast]; kernel_rfl) (by decide +kernel) (by decide +kernel) (by decide +kernel)
    (by first | exact .inl (by decide +kernel) | exact .inr (by decide +kernel)) (by rw [isSubtype_type]; kernel_rfl)
theorem type_bya_append : typeOf (.builtin "bytearray.append") = pure (.type "method_descriptor") := by show builtinType _ = _; rw [builtinType_eq_fast]; kernel_rfl
theorem entry_bya_append : entryFor table "bytearray.append" = some Builtin.«bytearray.append» := entryFor_of_tree (by kernel_rfl)
theorem args_bya_append (a b : Value) : argsOk "bytearray.append" ⟨[a, b], []⟩ := by
  unfold argsOk; rw [signature?_of (id := "bytearray.append") (n := ['d', 'n', 'e', 'p', 'p', 'a']) (o := ['y', 'a', 'r', 'r', 'a', 'e', 't', 'y', 'b']) (by kernel_rfl) owner_bytearray]; kernel_rfl
section
variable {M : Model} {A : Around} {E : Value → Shared → Prop} {s : Shared}
theorem any_clean {l : List (Code × Pos)} (hl : cleanL l) {f : Code × Pos → Bool} (hf : ∀ x, holds x.1 = false → f x = false) : l.any f = false := by
  rw [List.any_eq_false]
  intro x hx
  rw [hf x (hl x hx)]
  exact Bool.false_ne_true
theorem wpC_exported {v : Value} {Q : Bool → Shared → Prop} (h : Q false s) : wpC M A (Builtin.Bytes.exported v) Q E s := by
  intro Γ p hΓ hC
  have hl : cleanL ((Γ.code, p) :: Γ.below) := fun x hx => by
    rcases List.mem_cons.mp hx with rfl | hx
    · exact hC.1
    · exact hC.2 x hx
  have key : ∀ f : Code × Pos → Bool, (∀ x, holds x.1 = false → f x = false) → Q (List.any ((Γ.code, p) :: Γ.below) f) s := fun f hf => by
    rw [any_clean hl hf]; exact h
  unfold Builtin.Bytes.exported
  refine key _ fun x hh => ?_
  obtain ⟨c, p'⟩ := x
  cases c with
  | builtin id args =>
    have h2 : holderIds.contains id = false := hh
    have ne : ∀ y ∈ holderIds, ¬ id = y := fun y hy e => by
      rw [List.contains_eq_mem, decide_eq_false_iff_not] at h2
      exact h2 (e ▸ hy)
    have hd : Builtin.Bytes.decodersThatHold.contains id = false := by
      rw [List.contains_eq_mem, decide_eq_false_iff_not] at h2 ⊢
      exact fun hm => h2 (List.mem_append.mpr (.inr hm))
    delta Builtin.Bytes.exported.match_1
    show dite _ _ _ = false
    rw [dif_neg (ne _ (.head _)), dif_neg (ne _ (.tail _ (.head _))), dif_neg (ne _ (.tail _ (.tail _ (.head _)))), dif_neg (ne _ (.tail _ (.tail _ (.tail _ (.head _))))), dif_neg (ne _ (.tail _ (.tail _ (.tail _ (.tail _ (.head _))))))]
    obtain ⟨pos, kw⟩ := args
    cases pos with
    | nil => rfl
    | cons v' r =>
      show (_ && Builtin.Bytes.decodersThatHold.contains id) = false
      rw [hd, Bool.and_false]
  | _ => rfl
theorem wpC_checkResize {a : Addr} {bs : Array UInt8} {Q : Unit → Shared → Prop} {o : Obj} (ho : s.heap.get? a = some o) (hd : o.data = .bytearray bs 0) (h : Q () s) : wpC M A (Builtin.Bytes.checkResize (.ref a)) Q E s := by
  unfold Builtin.Bytes.checkResize
  refine wpC_bind ?_
  show wpC M A (Builtin.Bytes.exported (.ref a) >>= _) _ _ _
  refine wpC_bind (wpC_exported ?_)
  show wpC M A (Builtin.Bytes.exportsOf (.ref a) >>= _) _ _ _
  unfold Builtin.Bytes.exportsOf
  refine wpC_bind (wpC_bind (wpC_of (wpAny_load ho ?_)))
  rw [hd]
  exact wpC_pure (wpC_pure (wpC_pure h))
end
section
variable {prog : Program} {w : World} {A : Around} {E : Value → Shared → Prop} {s : Shared}
theorem bya_append {a : Addr} {bs : Array UInt8} {i : Int} {t : Tok} {Q : Value → Shared → Prop} (ho : s.heap.get? a = some { cls := .type "bytearray", data := .bytearray bs 0 }) (h0 : 0 ≤ i) (h1 : i < 256) (hs : bs.size < sizeLine)
    (h : Q .none { s with heap := s.heap.update a (Obj.mapBytearray fun b => b.push i.toNat.toUInt8) }) : wpC (model prog w) A (call (.builtin "bytearray.append") [.ref a, .int i t]) Q E s := by
  refine wpC_call (codeC_of_tree rfl ?_)
  show wpC _ A.in1 (do checkBuiltinCall "bytearray.append" ⟨[.ref a, .int i t], []⟩; again (.builtin "bytearray.append" ⟨[.ref a, .int i t], []⟩)) _ _ s
  have hT : s.TypeIs (.ref a) "bytearray" := ⟨_, ho, rfl⟩
  refine wpC_bind (wpC_of (slot_bya_append.check _ _ _ _ _ _ _ _ hT (args_bya_append _ _) (wpC_pure ⟨Code.quiet_builtin _ (by decide +kernel), codeC_of_tree (show holderIds.contains "bytearray.append" = false by decide +kernel) ?_⟩)))
  rw [Around.under_plainId slot_bya_append.plain]
  rw [den_builtin entry_bya_append]
  unfold Builtin.«bytearray.append»
  refine wpC_bind (wpC_of_eq (show selfAndOne "bytearray.append" ⟨[.ref a, .int i t], []⟩ = pure (Value.ref a, Value.int i t) from rfl) ?_)
  show wpC _ _ (Builtin.Bytes.byteValue (.int i t) >>= _) _ _ s
  unfold Builtin.Bytes.byteValue
  refine wpC_bind (wpC_bind (wpC_of_eq (rfl : asIndex (.int i t) = pure i) ?_))
  rw [if_neg (by simp only [Bool.or_eq_true, decide_eq_true_eq, not_or]; omega)]
  refine wpC_pure (wpC_bind (wpC_checkResize ho rfl (wpC_bind (wpC_of ?_))))
  show wpAny _ _ (updateBytearray a (·.push i.toNat.toUInt8)) _ _ _
  unfold updateBytearray
  refine wpAny_bind (wpAny_load ho ?_)
  show wpAny _ _ (update a (Obj.mapBytearray (·.push i.toNat.toUInt8)) >>= fun _ => lookBehind a) _ _ _
  refine wpAny_bind (wpAny_update ho ?_)
  have hS₂ : (s.heap.update a (Obj.mapBytearray (·.push i.toNat.toUInt8))).get? a = some { cls := .type "bytearray", data := .bytearray (bs.push i.toNat.toUInt8) 0 } :=
    Heap.get?_update_self (Obj.mapBytearray (·.push i.toNat.toUInt8)) ho rfl
  refine wpAny_lookBehind hS₂ ?_ (wpC_pure h)
  show (if (bs.push i.toNat.toUInt8).size > sizeLine then some "bytearray:memory" else none) = none
  rw [if_neg (by simp; omega)]
end
end
section
theorem called_bya : TypeCalled "bytearray" "bytearray.__new__" "bytearray.__init__" :=
  ⟨by decide +kernel, by decide +kernel, ⟨_, _, show mroOf (.type "bytearray") = pure [.type "bytearray", .type "object"] by rw [mroOf_type]; kernel_rfl⟩, madeBy_type (show mroOf (.type "bytearray") = pure [.type "bytearray", .type "object"] by rw [mroOf_type]; kernel_rfl) (by rw [typeLookup_type, builtinLookup_eq_fast]; kernel_rfl) (by decide +kernel), by decide +kernel, by rw [isSubtype_type]; kernel_rfl,
   .of (owner := "bytearray") (n := "__init__") (by rw [typeLookup_type, builtinLookup_eq_fast]; kernel_rfl) (by decide +kernel) (by decide +kernel) (by decide +kernel)
    (by first | exact .inl (by decide +kernel) | exact .inr (by decide +kernel)) (by rw [isSubtype_type]; kernel_rfl)⟩
theorem entry_bya_new : entryFor table "bytearray.__new__" = some Builtin.«list.__new__» := entryFor_alias (id' := "list.__new__") (by kernel_rfl) rfl (by decide +kernel) (by kernel_rfl)
theorem entry_bya_init : entryFor table "bytearray.__init__" = some Builtin.«bytearray.__init__» := entryFor_of_tree (by kernel_rfl)
theorem bya_typeCall : checkTypeCall "bytearray" ⟨[], []⟩ = pure () := by kernel_rfl
theorem bya_newCall : checkBuiltinCall "bytearray.__new__" ⟨[.type "bytearray"], []⟩ = pure () := by kernel_rfl
theorem bya_bind : Builtin.Bytes.bindOptional "bytearray.__init__" "bytearray" ["source", "encoding", "errors"] [] [] = pure [none, none, none] := by kernel_rfl
theorem bya_release : typeLookup (.type "bytearray") "__release_buffer__" = pure (some (.builtin "bytearray.__release_buffer__")) := by rw [typeLookup_type, builtinLookup_eq_fast]; kernel_rfl
set_option maxRecDepth 1000000 in
set_option maxHeartbeats 4000000 in
theorem owner_bya_new : ("bytearray.__new__".splitOn ".__new__").headD "" = "bytearray" := by simp +decide [String.splitOn, String.splitOnAux]
section
variable {prog : Program} {w : World} {A : Around} {E : Value → Shared → Prop} {s : Shared}
theorem bya_code_new {Q₁ : Value → Shared → Prop}
    (h : Q₁ (.ref s.heap.objs.size) { s with heap := s.heap.push { cls := .type "bytearray", data := .bytearray #[] } }) :
    codeAny (model prog w) A (.call (.builtin "bytearray.__new__") ⟨[.type "bytearray"], []⟩) (wants Q₁ E) s := by
  refine codeAny_of_tree ?_
  show wpAny _ A.in1 (do checkBuiltinCall "bytearray.__new__" ⟨[.type "bytearray"], []⟩; again (.builtin "bytearray.__new__" ⟨[.type "bytearray"], []⟩)) _ _ s
  refine wpAny_bind (wpAny_of_eq bya_newCall (wpAny_pure ⟨plainId_quiet called_bya.plain _, codeAny_builtin_stack entry_bya_new rfl fun p st => ?_⟩))
  rw [Around.under_plainId called_bya.plain _]
  have hsub := called_bya.sub
  have hown := owner_bya_new
  obtain ⟨hp, g, d, tk, os⟩ := s
  simp only [hown]
  wp_walk
  exact h
theorem bya_own {a : Addr} {o : Obj} {Q : Bool → Shared → Prop} (ho : s.heap.get? a = some o) (hc : o.cls = .type "bytearray") (h : Q false s) : wpAny (model prog w) A (Builtin.Bytes.ownRelease (.ref a)) Q E s := by
  have hT : s.TypeIs (.ref a) "bytearray" := ⟨o, ho, hc⟩
  unfold Builtin.Bytes.ownRelease Builtin.Bytes.slotIsOwn
  refine wpAny_bind (wpAny_bind (wpAny_specialOf hT bya_release ?_))
  dsimp only
  rw [if_neg (by decide +kernel)]
  have e : "bytearray.__release_buffer__".dropRight ("__release_buffer__".length + 1) = "bytearray" := by decide +kernel
  rw [e]
  exact wpAny_isInstance hT called_bya.sub (wpAny_pure h)
theorem bya_init {a : Addr} {Qf : PySem.Fin → Shared → Prop} (ho : s.heap.get? a = some { cls := .type "bytearray", data := .bytearray #[] 0 })
    (h : ∀ h', (∀ b o, s.heap.get? b = some o → h'.get? b = some o) → Qf (.done (.ret .none)) { s with heap := h' }) : wpC (model prog w) A (Builtin.«bytearray.__init__» ⟨[.ref a], []⟩) Qf E s := by
  refine wpC_bind (m := Builtin.Bytes.ownRelease (.ref a)) (wpC_of (bya_own ho rfl ?_))
  refine wpC_bind (wpC_of_eq bya_bind ?_)
  refine wpC_bind (wpC_of_eq rfl (wpC_bind (wpC_of_eq rfl ?_)))
  refine wpC_bind ?_
  show wpC _ _ (Builtin.Bytes.exported (.ref a) >>= _) _ _ _
  refine wpC_bind (wpC_exported ?_)
  show wpC _ _ (Builtin.Bytes.exportsOf (.ref a) >>= _) _ _ _
  unfold Builtin.Bytes.exportsOf
  refine wpC_bind (wpC_bind (wpC_of (wpAny_load ho ?_)))
  refine wpC_pure (wpC_pure ?_)
  rw [if_neg (by decide)]
  refine wpC_bind (wpC_of ?_)
  show wpAny _ _ (updateBytearray a (fun _ => #[])) _ _ _
  unfold updateBytearray
  refine wpAny_bind (wpAny_load ho ?_)
  show wpAny _ _ (update a (Obj.mapBytearray (fun _ => #[])) >>= fun _ => lookBehind a) _ _ _
  refine wpAny_bind (wpAny_update ho ?_)
  have hS₂ : (s.heap.update a (Obj.mapBytearray (fun _ => #[]))).get? a = some { cls := .type "bytearray", data := .bytearray #[] 0 } :=
    Heap.get?_update_self (Obj.mapBytearray (fun _ => #[])) ho rfl
  refine wpAny_lookBehind hS₂ rfl (wpC_bind (wpC_pure (wpC_pure ?_)))
  refine h _ fun b o e => ?_
  by_cases hb : b = a
  · subst hb
    rw [ho] at e; cases e
    exact hS₂
  · exact (Heap.get?_update_other _ _ (Ne.symm hb)).trans e
theorem bya_made {Q : Value → Shared → Prop} (h : ∀ h', (∀ b o, s.heap.get? b = some o → h'.get? b = some o) → h'.get? s.heap.objs.size = some { cls := .type "bytearray", data := .bytearray #[] 0 } → Q (.ref s.heap.objs.size) { s with heap := h' }) : wpC (model prog w) A (call (.type "bytearray") []) Q E s := by
  have h1 := called_bya.notType
  have h2 := called_bya.canCreate
  obtain ⟨c, tl, hmro⟩ := called_bya.mro
  have hmade := called_bya.made
  have hsub := called_bya.sub
  refine wpC_call (codeC_of_tree rfl ?_)
  show wpC _ _ (callAny (.type "bytearray") _) _ _ _
  refine wpC_pure ⟨Code.quiet_builtin _ (by decide +kernel), codeC_of_tree (show holderIds.contains "type.__call__" = false by decide +kernel) ?_⟩
  rw [den_builtin F.entry_type_call, Around.under_plain (weight_type_call_type "bytearray" [] []) rfl]
  unfold Builtin.«type.__call__»
  dsimp only
  simp only [h1, h2, bya_typeCall, hmro, hmade, Bool.false_eq_true, if_false, pure_bind, List.isEmpty_cons]
  refine wpC_bind (wpC_of (wpAny_holding (wpAny_call (bya_code_new ?_))))
  have ho : (s.heap.push { cls := .type "bytearray", data := .bytearray #[] 0 }).get? s.heap.objs.size = some { cls := .type "bytearray", data := .bytearray #[] 0 } := Heap.get?_push_size _ rfl
  generalize hs1 : ({ s with heap := s.heap.push { cls := .type "bytearray", data := .bytearray #[] 0 } } : Shared) = s1
  have hT : s1.TypeIs (.ref s.heap.objs.size) "bytearray" := by subst hs1; exact ⟨_, ho, rfl⟩
  refine wpC_bind (wpC_of (wpAny_isInstance hT hsub ?_))
  simp only [Bool.not_true, Bool.false_eq_true, if_false]
  refine wpC_bind (wpC_holding ?_)
  unfold callSpecial?
  refine wpC_bind (wpC_of (wpAny_specialOf hT called_bya.init.lookup ?_))
  dsimp only
  refine wpC_holding (wpC_bind (wpC_of_eq (called_bya.init.bind _) (wpC_bind (wpC_call (codeC_of_tree rfl ?_)))))
  show wpC _ _ (do checkBuiltinCall "bytearray.__init__" ⟨[.ref s.heap.objs.size], []⟩; again (.builtin "bytearray.__init__" ⟨[.ref s.heap.objs.size], []⟩)) _ _ _
  refine wpC_bind (wpC_of (called_bya.init.check _ _ _ _ _ _ _ _ hT (by unfold argsOk; kernel_rfl) (wpC_pure ⟨Code.quiet_builtin _ (by decide +kernel), codeC_of_tree (show holderIds.contains "bytearray.__init__" = false by decide +kernel) ?_⟩)))
  rw [den_builtin entry_bya_init, Around.under_plainId called_bya.init.plain]
  subst hs1
  refine bya_init ho fun h' hk => ?_
  refine wpC_pure ?_
  dsimp only
  rw [if_neg (by decide)]
  refine wpC_pure ?_
  exact h h' (fun b o e => hk b o (Heap.get?_push_of_some _ e)) (hk _ _ ho)
end
end
section
theorem slot_bya_len : PySem.Slot "bytearray" "__len__" "bytearray.__len__" :=
  .of (owner := "bytearray") (n := "__len__") (by rw [typeLookup_type, builtinLookup_eq_fast]; kernel_rfl) (by decide +kernel) (by decide +kernel) (by decide +kernel)
    (by first | exact .inl (by decide +kernel) | exact .inr (by decide +kernel)) (by rw [isSubtype_type]; kernel_rfl)
theorem entry_bya_len : entryFor table "bytearray.__len__" = some Builtin.«bytearray.__len__» := entryFor_of_tree (by kernel_rfl)
theorem args_bya_len (a : Value) : argsOk "bytearray.__len__" ⟨[a], []⟩ := by
  unfold argsOk; kernel_rfl
theorem bya_no_bytes : typeLookup (.type "bytearray") "__bytes__" = pure none := by rw [typeLookup_type, builtinLookup_eq_fast]; kernel_rfl
theorem bya_no_index : typeLookup (.type "bytearray") "__index__" = pure none := by rw [typeLookup_type, builtinLookup_eq_fast]; kernel_rfl
theorem bya_buffer : typeLookup (.type "bytearray") "__buffer__" = pure (some (.builtin "bytearray.__buffer__")) := by rw [typeLookup_type, builtinLookup_eq_fast]; kernel_rfl
section
variable {prog : Program} {w : World} {A : Around} {E : Value → Shared → Prop} {s : Shared}
theorem bya_payload {a : Addr} {bs : Array UInt8} {Q : Array UInt8 → Shared → Prop} {M : Model} (ho : s.heap.get? a = some { cls := .type "bytearray", data := .bytearray bs 0 }) (h : Q bs s) : wpAny M A (Builtin.Bytes.payload (.ref a)) Q E s := by
  unfold Builtin.Bytes.payload Builtin.Bytes.payload?
  exact wpAny_bind (wpAny_bind (wpAny_load ho (wpAny_pure (wpAny_pure h))))
theorem bya_len {a : Addr} {bs : Array UInt8} {Q : Value → Shared → Prop} (ho : s.heap.get? a = some { cls := .type "bytearray", data := .bytearray bs 0 }) (hs : bs.size < 2 ^ 60)
    (h : Q (.int bs.size (s.toks + 1)) { s with toks := s.toks + 1 + 1 }) : wpAny (model prog w) A (call (.builtin "len") [.ref a]) Q E s := by
  have hT : s.TypeIs (.ref a) "bytearray" := ⟨_, ho, rfl⟩
  refine PyProof.Rows.call_len_slot hT slot_bya_len (fun Q' hq => ?_) (by omega) (by omega) h
  refine wpAny_call_entry slot_bya_len hT entry_bya_len ?_ (args_bya_len _)
  unfold Builtin.«bytearray.__len__»
  refine wpAny_bind (wpAny_of_eq (show _ = pure (Value.ref a, []) from rfl) ?_)
  exact wpAny_bind (bya_payload ho (wpAny_bind (wpAny_mkInt (wpAny_pure ⟨_, rfl, hq⟩))))
theorem bya_slotOwn {a : Addr} {o : Obj} {Q : Bool → Shared → Prop} (ho : s.heap.get? a = some o) (hc : o.cls = .type "bytearray") (h : Q true s) : wpAny (model prog w) A (Builtin.Bytes.slotIsOwn (.ref a) "__buffer__") Q E s := by
  have hT : s.TypeIs (.ref a) "bytearray" := ⟨o, ho, hc⟩
  unfold Builtin.Bytes.slotIsOwn
  refine wpAny_bind (wpAny_specialOf hT bya_buffer ?_)
  dsimp only
  rw [if_neg (by decide +kernel)]
  have e : "bytearray.__buffer__".dropRight ("__buffer__".length + 1) = "bytearray" := by decide +kernel
  rw [e]
  exact wpAny_isInstance hT called_bya.sub h
theorem bya_to_bytes {a : Addr} {bs : Array UInt8} {Q : Value → Shared → Prop} (ho : s.heap.get? a = some { cls := .type "bytearray", data := .bytearray bs 0 }) (hs : bs.size ≤ sizeLine)
    (hQ : ∀ t k, Q (.bytes bs t) { s with toks := k }) :
    codeAny (model prog w) A (.call (.builtin "bytes.__new__") ⟨[.type "bytes", .ref a], []⟩) (wants Q E) s := by
  refine codeAny_of_tree ?_
  show wpAny _ A.in1 (do checkBuiltinCall "bytes.__new__" ⟨[.type "bytes", .ref a], []⟩; again (.builtin "bytes.__new__" ⟨[.type "bytes", .ref a], []⟩)) _ _ s
  refine wpAny_bind (wpAny_of_eq (F.bm_newCall _) (wpAny_pure ⟨plainId_quiet F.bm_plain _, codeAny_builtin F.bm_entry ?_⟩))
  rw [Around.under_plainId F.bm_plain _]
  have hT : s.TypeIs (.ref a) "bytearray" := ⟨_, ho, rfl⟩
  unfold Builtin.«bytes.__new__»
  refine wpAny_bind (wpAny_of_eq (a := true) rfl ?_)
  refine bm_if_false rfl ?_
  refine wpAny_bind (wpAny_of_eq F.bm_sub ?_)
  refine bm_if_false rfl ?_
  refine wpAny_bind (wpAny_of_eq (F.bm_bind _) ?_)
  refine wpAny_bind (wpAny_of_eq (a := ()) rfl ?_)
  refine wpAny_bind (wpAny_of_eq (a := ()) rfl ?_)
  refine bm_if_false rfl ?_
  refine wpAny_bind (wpAny_specialOf hT bya_no_bytes ?_)
  refine wpAny_bind (wpAny_bind ?_)
  show wpAny _ _ (load a >>= _) _ _ _
  refine wpAny_bind (wpAny_load ho ?_)
  refine wpAny_pure (wpAny_pure ?_)
  refine bm_if_false rfl ?_
  refine wpAny_bind (wpAny_specialOf hT bya_no_index ?_)
  refine bm_if_true rfl ?_
  first
    | show wpAny _ _ (Builtin.Bytes.buffer? "bytes.__new__" (.ref a) true >>= _) _ _ _
    | (refine wpAny_bind ?_; show wpAny _ _ (Builtin.Bytes.buffer? "bytes.__new__" (.ref a) true >>= _) _ _ _)
  refine wpAny_bind ?_
  unfold Builtin.Bytes.buffer?
  refine wpAny_bind (wpAny_specialOf hT bya_buffer ?_)
  refine wpAny_bind (bya_slotOwn ho rfl ?_)
  refine bm_if_false rfl ?_
  refine wpAny_bind (wpAny_specialOf hT bya_buffer ?_)
  refine wpAny_bind (bya_own ho rfl ?_)
  refine bm_if_false rfl ?_
  refine wpAny_bind (bya_payload ho ?_)
  refine wpAny_pure ?_
  dsimp only
  refine wpAny_bind (wpAny_rule ?_)
  refine wpAny_bind (wpAny_mkBytes ?_ hs)
  show wpAny _ _ (if (Value.type "bytes" == Value.type "bytes") = true then _ else _) _ _ _
  refine bm_if_true (by decide) ?_
  first
    | exact wpAny_pure (hQ _ _)
    | exact wpAny_bind (wpAny_pure (wpAny_pure (hQ _ _)))
theorem bya_bytes {a : Addr} {bs : Array UInt8} {Q : Value → Shared → Prop} (ho : s.heap.get? a = some { cls := .type "bytearray", data := .bytearray bs 0 }) (hs : bs.size ≤ sizeLine)
    (hQ : ∀ t k, Q (.bytes bs t) { s with toks := k }) : wpAny (model prog w) A (call (.type "bytes") [.ref a]) Q E s := by
  refine callType_codes (Q₁ := fun obj s₁ => ∃ t k, obj = .bytes bs t ∧ s₁ = { s with toks := k }) F.bm_called (F.bm_typeCall _) F.entry_object_init (bya_to_bytes ho hs fun t k => ⟨t, k, rfl, rfl⟩) fun obj s₁ h₁ => ?_
  obtain ⟨t, k, rfl, rfl⟩ := h₁
  have hT' : ({ s with toks := k } : Shared).TypeIs (.bytes bs t) "bytes" := PySem.W.typeIs_bytes _ bs t
  exact ⟨hT', F.args_object_init_2 _ _, object_init_meets F.bm_called.init.lookup F.bm_called.made (by decide) prog w A.in1 _ _ ⟨hT', rfl, hQ _ _⟩⟩
end
end
section
variable {prog : Program} {w : World} {g : Heap} {n : Nat} {sc : Scope} {ρ ρ' : List Ent} {mg mb : Str → Option Value}
theorem wxc_exprV {e : Expr} {pos : Pos} {env : Env} {A : Around} {s : Shared} {Q : Flow → Shared → Prop} (ok : EnvOk env) (h : wpC (model prog w) A (eval e env) (fun _ => Q .next) noE s) (hc : noComp e = true := by rfl) :
    wpC (model prog w) A (exec (.Expr e pos) env) Q noE s := by
  rw [exec_Expr env e pos (by unfold interactive; rw [ok.1]; rfl) (swaps_none hc ..)]
  exact wpC_bind (wpC_of (wpAny_standAt (wpC_bind (wpC_mono h (fun v s' h' => wpC_of (wpAny_dropValue h')) fun _ _ x => x))))
theorem wec_meth {K : Frag} (G : GG K g mg mb) {x m : Str} {f a dx C : Addr} {fs : List (Str × Fld)} {fd : FuncData} {body : List Stmt} {es : List Expr} {np apos pos : Pos} {xs : List Str} {Kk : PV → List Ent → Prop} (F : FnOk K f fd body) (M : MethOk K C m f)
    (hx : At ρ x (.obj a dx C fs)) (hno : fs.lookup m = none) (h : WAL prog w g (n + 1) sc es ρ fun as ρ₁ => ConM true prog w g n fd body xs (.o a :: as) ρ₁ Kk)
    (hbind : ∀ vs : List Value, vs.length = xs.length → ∀ s, (∀ b o, g.get? b = some o → s.heap.get? b = some o) → BindsTo s fd ⟨vs, []⟩ (xs.zip vs))
    (hpn : nodupB xs = true := by decide) (hp : es.all plainE = true := by rfl) (hlen : decide (es.length < 30) = true := by rfl) (hline : (apos.endLine == pos.line) = true := by rfl) (hd : (x == ("__debug__" : Str)) = false := by decide) (hn : (x == ("__classdict__" : Str)) = false := by decide) :
    ∀ (env : Env) (A : Around) (H : Addr → Prop) (s : Shared), env.scope = sc → EnvOk env → Room (n + 1) A → SR w.params g env H ρ s.heap →
    wpC (model prog w) A (eval (.Call (.Attribute (.Name x np) m apos) es [] pos) env) (fun v s' => REs w.params g env H ρ s Kk v s') noE s := by
  intro env A H s hsc ok hA sr
  obtain ⟨oc, od, osl, hl⟩ := F.get
  obtain ⟨h1, ds, mm, h2, h3⟩ := slot_inst sr hx
  rw [arm_eval_Call]
  have e1 : attributeBase (.Name x np) m env (eval (.Name x np) env) = eval (.Name x np) env := rfl
  rw [e1]
  refine wpC_bind (wpC_of (load_owned ok sr hx rfl rfl (wpC_bind (wpC_of (wpAny_standAt ?_))) hd hn))
  have hform : methodCallForm (es.length + ([] : List Keyword).length) (backTo pos (starEach es env)) (backToKw pos (keywordEach [] env)) = true := by
    show ((backTo pos (starEach es env)).all (fun x => !x.1) && (backToKw pos (keywordEach [] env)).all (fun x => x.1.isSome)
      && decide (es.length + ([] : List Keyword).length + (if ([] : List Keyword).isEmpty then 0 else 1) < 30)) = true
    rw [fewP es hp]
    exact hlen
  have hpos : methodCallPos true (.Name x np) env apos pos = pure pos := by unfold methodCallPos; simp [hline]
  unfold methodCall
  rw [hform]
  have hs : shadowIn (some (dictOf ds mm)) m = some false := by
    rcases h3.getL (x := m) with ⟨_, q⟩ | ⟨f', v, q, _⟩
    · show (lookIn m (dictOf ds mm)).map _ = _
      rw [lookIn_dict, q]; rfl
    · rw [hno] at q; cases q
  refine wpC_bind (wpC_of (wpAny_holding (method_fn (G.kin.keeps sr.keep) (inst_at h1 h2) (plainGet_of M.hg).1 (plainGet_of M.hg).2 M.hf (beq_iff_eq.mp M.ht) hs ?_)))
  refine wpC_bind (wpC_of_eq hpos ?_)
  show wpC (model prog w) A (callWith pos (.ref f) [.ref a] (backTo pos (starEach es env)) []) _ _ _
  have hany : (backTo pos (starEach es env)).any (·.1) = false := anyStar es hp
  refine callWithM (c := true) hany (evalArgsM (c := true) (fun y hy => by rw [hy] at hany; cases hany) (wpC_of (wpAny_mono (h env A H s pos hsc ok hA sr) (fun vs s1 h1 => ?_) fun _ _ x => x)))
  obtain ⟨as, ρ1, k1, p1, r1⟩ := h1
  refine ⟨keep_fn (p1.sr.keep _ _ (G.kin _ _ hl)) rfl, ?_⟩
  refine wpC_mono (wpC_call (E := noE) (Q := fun v s' => REs w.params g env H ρ1 s1 Kk v s') (call_conM (c := true) (as := .o a :: as) (vals := .ref a :: vs) G F hA hpn hbind p1.sr ⟨.ref a, vs, rfl, rfl, r1⟩ k1)) (fun v s2 h2 => ?_) noE_to
  obtain ⟨d, ρ2, k2, p2, r2⟩ := h2
  exact ⟨d, ρ2, k2, p1.trans p2, r2⟩
theorem wxc_meth {K : Frag} (G : GG K g mg mb) {x m : Str} {f a dx C : Addr} {fs : List (Str × Fld)} {fd : FuncData} {body : List Stmt} {es : List Expr} {np apos pos spos : Pos} {xs : List Str} {Kk : Fl → List Ent → Prop} (F : FnOk K f fd body) (M : MethOk K C m f)
    (hx : At ρ x (.obj a dx C fs)) (hno : fs.lookup m = none) (h : WAL prog w g (n + 1) sc es ρ fun as ρ₁ => ConM true prog w g n fd body xs (.o a :: as) ρ₁ fun _ ρ₂ => Kk .next ρ₂)
    (hbind : ∀ vs : List Value, vs.length = xs.length → ∀ s, (∀ b o, g.get? b = some o → s.heap.get? b = some o) → BindsTo s fd ⟨vs, []⟩ (xs.zip vs))
    (hpn : nodupB xs = true := by decide) (hp : es.all plainE = true := by rfl) (hlen : decide (es.length < 30) = true := by rfl) (hline : (apos.endLine == pos.line) = true := by rfl) (hd : (x == ("__debug__" : Str)) = false := by decide) (hn : (x == ("__classdict__" : Str)) = false := by decide)
    (hc : noComp (.Call (.Attribute (.Name x np) m apos) es [] pos) = true := by rfl) :
    WXM true prog w g (n + 1) sc (.Expr (.Call (.Attribute (.Name x np) m apos) es [] pos) spos) ρ Kk := by
  intro env A H s hsc ok hA sr
  refine wxc_exprV ok (wpC_mono (wec_meth (Kk := fun _ ρ₂ => Kk .next ρ₂) G F M hx hno h hbind hpn hp hlen hline hd hn env A H s hsc ok hA sr) (fun v s1 h1 => ?_) noE_to) hc
  obtain ⟨d, ρ1, k1, p1, r1⟩ := h1
  exact ⟨.next, ρ1, k1, p1, rfl⟩
end
section
variable {prog : Program} {w : World} {g : Heap} {n : Nat} {sc : Scope} {ρ ρ' : List Ent} {mg mb : Str → Option Value}
section
variable {M : Model} {A : Around} {E : Value → Shared → Prop} {s : Shared}
theorem codeC_loop' {c : Code} {R : Result → Shared → Prop} (hh : holds c = false) (hq : c.quiet = true) (I : Nat → Shared → Prop)
    (turn : ∀ n s, I n s → wpC M (A.under c) (M.den c)
      (fun fin s' => match fin with
        | .done f => R (.ok f) s'
        | .again c' => (c' = c ∧ ∃ m, m < n ∧ I m s') ∨ (c'.quiet = true ∧ codeC M A c' R s')) (fun e s' => R (.error e) s') s)
    (n : Nat) (h : I n s) : codeC M A c R s := by
  induction n using Nat.strongRecOn generalizing s with
  | ind n ih =>
    refine codeC_of_tree hh (wpC_mono (turn n s h) (fun fin s' hf => ?_) fun _ _ h' => h')
    cases fin with
    | done f => exact hf
    | again c' =>
      rcases hf with ⟨rfl, m, hm, hI⟩ | hf
      · exact ⟨hq, ih m hm hI⟩
      · exact hf
theorem wpC_runOwn {c : Code} {env : Env} {Q : Flow → Shared → Prop}
    (hc : codeC M A c (fun r s' => match r with | .ok f => Q f s' | .error e => E e s') s) (hE : ∀ e s, ¬ E e s) : wpC M A (runOwn c env) Q E s := by
  unfold runOwn
  refine wpC_onRaise (wpC_run (codeC_mono hc fun r s1 h1 => ?_))
  cases r with
  | ok f => exact h1
  | error e => exact (hE _ _ h1).elim
theorem wpC_noted {α : Type} {env : Env} {m : Sem α} {Q : α → Shared → Prop} (h : wpC M A m Q noE s) : wpC M A (m.onRaise fun x => do noteFrame x env; theTreesLotGoes x) Q E s :=
  wpC_onRaise (wpC_mono h (fun _ _ q => q) fun _ _ hx => hx.elim)
end
theorem wxc_while {t : Expr} {b : List Stmt} {pos : Pos} {K : Fl → List Ent → Prop} (I : Nat → List Ent → Prop) (m₀ : Nat) (h0 : I m₀ ρ)
    (turn : ∀ m (K' : Fl → List Ent → Prop), (∀ m' ρ₂, m' < m → I m' ρ₂ → K' .next ρ₂) → (∀ d ρ₂, K (.ret d) ρ₂ → K' (.ret d) ρ₂) → ∀ ρ, I m ρ → WT prog w g n sc t ρ fun c ρ₁ => if c = true then WSM true prog w g n sc b ρ₁ K' else K .next ρ₁) : WXM true prog w g n sc (.While t b [] pos) ρ K := by
  intro env A H s hsc ok hA sr
  show wpC _ _ _ _ _ _
  rw [exec_While]
  refine wpC_bind (wpC_of (wpAny_standAt (wpC_runOwn (codeC_loop' rfl rfl (fun m s' => RTs w.params g env H ρ s (I m) s') ?_ m₀ ⟨ρ, h0, SR.post sr⟩) fun _ _ x => x)))
  rintro m s' ⟨ρ1, i1, p1⟩
  show wpC _ A ((whileTurn t b [] env).onRaise (fun x => do noteFrame x env; theTreesLotGoes x)) _ _ s'
  refine wpC_noted ?_
  simp only [whileTurn]
  refine wpC_bind (wpC_of (wpAny_mono (turn m (After K fun ρ₂ => ∃ m', m' < m ∧ I m' ρ₂) (fun m' _ h i => ⟨m', h, i⟩) (fun _ _ h => h) ρ1 i1 env A H s' hsc ok hA p1.sr) (fun c s2 h2 => ?_) noE_to))
  obtain ⟨ρ2, k2, p2⟩ := h2
  cases c with
  | true =>
    simp only [if_true] at k2
    refine wpC_bind (wpC_mono (k2 env A H s2 hsc ok hA p2.sr) (fun f s3 h3 => ?_) noE_to)
    obtain ⟨fl, ρ3, k3, p3, r3⟩ := h3
    cases fl with
    | next =>
      have : f = .next := r3
      subst this
      obtain ⟨m', hm, i3⟩ := k3
      exact wpC_pure (.inl ⟨rfl, m', hm, ρ3, i3, (p1.trans p2).trans p3⟩)
    | ret d =>
      obtain ⟨v, rfl, rv⟩ := r3
      exact wpC_pure ⟨.ret d, ρ3, k3, (p1.trans p2).trans p3, v, rfl, rv⟩
  | false =>
    simp only [Bool.false_eq_true, if_false] at k2
    exact wpC_bind (wpC_of (wpAny_execs_nil (wpC_pure ⟨.next, ρ2, k2, p1.trans p2, rfl⟩)))
theorem wxc_for {target iter : Expr} {body : List Stmt} {pos : Pos} {K : Fl → List Ent → Prop}
    (h : WI prog w g n sc target iter ρ (ForK (fun ρ' K' => WSM true prog w g n sc body ρ' K') K))
    (hs : ∀ env x, foldedSetIterable iter env x = pure x := by intro _ _; rfl) : WXM true prog w g n sc (.For target iter body [] pos) ρ K := by
  intro env A H s hsc ok hA sr
  show wpC _ _ _ _ _ _
  rw [exec_For]
  refine wpC_bind (wpC_of (wpAny_standAt (wpC_bind (wpC_of (wpAny_mono (h env A H s hsc ok hA sr) (fun x s1 h1 => ?_) noE_to)))))
  refine wpC_bind (wpC_of_eq (hs env x) (wpC_bind (wpC_of (wpAny_standAt (wpC_bind (wpC_of (wpAny_holding (wpAny_mono h1 (fun it s2 h2 => ?_) noE_to))))))))
  obtain ⟨ρ1, m, B, s1, ⟨I, i0, turn, fin⟩, p1, wr, St, ks, st0, hwr, L⟩ := h2
  have hwr' : ∀ a, (wr a ∨ False) → s1.heap.get? a = none ∧ (s2.heap.get? a).isSome = true := fun a h => h.elim (hwr a) False.elim
  have sr0 : SR w.params g env (fun a => H a ∨ (wr a ∨ False)) ρ1 s2.heap := by
    exact p1.sr.hide (fun b o e => keeps_get ks e) hwr' fun a ha => g_none_of p1.sr (hwr' a ha).1
  obtain ⟨_, L⟩ := L env H (fun _ => False) ρ1 s2 ok (Keeps.refl' _) sr0 (fun _ h => .inl h) fun _ h => h.elim
  refine wpC_runOwn (codeC_loop' rfl rfl (FI w.params g env H (fun a => wr a ∨ False) ρ1 s2 m St I) ?_ (m + 1) ⟨0, ρ1, rfl, Nat.zero_le _, i0, st0, PostW.start sr0⟩) fun _ _ x => x
  rintro c s' ⟨i, ρ2, rfl, hi, hI, hst, p⟩
  show wpC _ A ((forTurn target it body [] env).onRaise (fun x => do noteFrame x env; theTreesLotGoes x)) _ _ s'
  refine wpC_noted ?_
  simp only [forTurn]
  refine wpC_bind (wpC_of (wpAny_standAt (wpC_bind (wpC_of (wpAny_onRaise ?_)))))
  by_cases hlt : i < m
  · refine wpAny_mono (L.turn i ρ2 s' _ hlt hst p (turn i hlt (After K (I (i + 1))) (fun _ h => h) (fun _ _ h => h) ρ2 hI)) (fun r s3 h3 => ?_) noE_to
    obtain ⟨v, rfl, h3⟩ := h3
    refine wpC_bind (wpC_of (wpAny_mono h3 (fun _ s4 h4 => wpC_bind (wpC_of (wpAny_mono h4 (fun _ s5 h5 => ?_) noE_to))) noE_to))
    obtain ⟨ρ3, k3, st3, p3⟩ := h5
    replace p3 : PostW w.params g env H (fun a => wr a ∨ False) ρ1 s2 ρ3 s5 := p.comp (fun a h => .inl h) (fun a h => .inr h) p3
    refine wpC_bind (wpC_mono (k3 env A _ s5 hsc ok hA p3.sr) (fun f s6 h6 => ?_) noE_to)
    obtain ⟨fl, ρ4, k4, p4, r4⟩ := h6
    have p5 := p3.step p4
    cases fl with
    | next =>
      have : f = .next := r4
      subst this
      refine wpC_pure (.inl ⟨rfl, m + 1 - (i + 1), by omega, i + 1, ρ4, rfl, hlt, k4, L.frame _ ρ3 s5 _ p3 st3 (fun b o hb e => p4.keep b o (fun h => hb (.inl h)) e), p5⟩)
    | ret d =>
      obtain ⟨v, rfl, rv⟩ := r4
      refine wpC_pure ⟨.ret d, ρ4, k4, p1.trans (p5.un.out ks fun a ha => (hwr' a ha).1), v, rfl, rv.mono (fun _ _ _ e => e) fun a ha => .inl (ha.imp .inl id)⟩
  · have him : i = m := by omega
    subst him
    refine wpAny_mono (L.done ρ2 s' hst p) (fun r s3 h3 => ?_) noE_to
    obtain ⟨rfl, p3⟩ := h3
    replace p3 := p.fin (fun a h => .inl h) p3
    exact wpC_pure (.inr ⟨rfl, codeC_of (codeAny_block (wpAny_execs_nil ⟨.next, ρ2, fin ρ2 hI, p1.trans (p3.out ks fun a ha => (hwr' a ha).1), rfl⟩))⟩)
end
section
variable {prog : Program} {w : World} {g : Heap} {n : Nat} {sc : Scope} {ρ ρ' : List Ent} {mg mb : Str → Option Value}
theorem load_fbya {K : Frag} (G : GG K g mg mb) {env : Env} {A : Around} {H : Addr → Prop} {s : Shared} {x f : Str} {np ap : Pos} {a dx C l : Addr} {fs : List (Str × Fld)} {bs : Array UInt8} {Q : Value → Shared → Prop} (k : FldOk K C f) (ok : EnvOk env) (sr : SR w.params g env H ρ s.heap) (hx : At ρ x (.obj a dx C fs)) (hf : fs.lookup f = some (.bya l bs))
    (h : s.heap.get? l = some { cls := .type "bytearray", data := .bytearray bs 0 } → Q (.ref l) { s with toks := s.toks + 1 }) (hd : (x == ("__debug__" : Str)) = false := by decide) (hn : (x == ("__classdict__" : Str)) = false := by decide) :
    wpAny (model prog w) A (eval (.Attribute (.Name x np) f ap) env) Q noE s := by
  refine Attribute_name (load_owned ok sr hx rfl rfl (get_field G k sr hx hf fun v hv => ?_) hd hn)
  obtain ⟨rfl, hv⟩ := hv
  exact h hv
theorem we_len_fbya {K : Frag} (G : GG K g mg mb) {x f : Str} {np ap pos p : Pos} {a dx C l : Addr} {fs : List (Str × Fld)} {bs : Array UInt8} {Kk : PV → List Ent → Prop} (k : FldOk K C f) (hg : sc.names.lookup (Str.ofString "len") = some .globalImplicit) (hv : GV mg mb (Str.ofString "len") (.builtin "len"))
    (hx : At ρ x (.obj a dx C fs)) (hf : fs.lookup f = some (.bya l bs)) (hlen : bs.size ≤ 2 ^ 20) (h : Kk (.int bs.size) ρ) (hd : (x == ("__debug__" : Str)) = false := by decide) (hn : (x == ("__classdict__" : Str)) = false := by decide) :
    WE prog w g n sc (.Call (.Name (Str.ofString "len") p) [.Attribute (.Name x np) f ap] [] pos) ρ Kk := by
  intro env A H s hsc ok hA sr
  subst hsc
  refine wpAny_Call_NameR (gname G.gf ok sr hg hv (PyProof.Rows.callWith_builtin1 ?_ rfl rfl) (by decide))
  show wpAny _ _ (spliced [(false, eval (.Attribute (.Name x np) f ap) env)]) _ _ s
  refine spliced_cons (load_fbya G k ok sr hx hf (fun hb => wpAny_pure ?_) hd hn)
  exact bya_len (s := { s with toks := s.toks + 1 }) hb (by omega) ⟨_, ρ, h, (SR.post sr).grow (Keeps.tok _ _), _, rfl⟩
theorem we_bytes_fbya {K : Frag} (G : GG K g mg mb) {x f : Str} {np ap pos p : Pos} {a dx C l : Addr} {fs : List (Str × Fld)} {bs : Array UInt8} {Kk : PV → List Ent → Prop} (k : FldOk K C f) (hg : sc.names.lookup (Str.ofString "bytes") = some .globalImplicit) (hv : GV mg mb (Str.ofString "bytes") (.type "bytes"))
    (hx : At ρ x (.obj a dx C fs)) (hf : fs.lookup f = some (.bya l bs)) (hlen : bs.size ≤ 2 ^ 20) (h : Kk (.bytes bs) ρ) (hd : (x == ("__debug__" : Str)) = false := by decide) (hn : (x == ("__classdict__" : Str)) = false := by decide) :
    WE prog w g n sc (.Call (.Name (Str.ofString "bytes") p) [.Attribute (.Name x np) f ap] [] pos) ρ Kk := by
  intro env A H s hsc ok hA sr
  subst hsc
  refine wpAny_Call_NameR (gname G.gf ok sr hg hv (PySem.callWith_type1 (t := eval (.Attribute (.Name x np) f ap) env) ?_) (by decide))
  refine load_fbya G k ok sr hx hf (fun hb => ?_) hd hn
  exact bya_bytes (s := { s with toks := s.toks + 1 }) hb (by simp [sizeLine]; omega) fun t kk => ⟨_, ρ, h, (SR.post sr).grow (Keeps.tok _ _), _, rfl⟩
theorem assign_attr {env : Env} {A : Around} {E : Value → Shared → Prop} {s : Shared} {o : Expr} {attr : Str} {p' : Pos} {v : Value} {Q : Flow → Shared → Prop} {M : Model}
    (h : wpAny M A (eval o env) (fun ov s₂ => wpAny M A (setAttr ov attr v) (fun _ => Q .next) E s₂) E s) : wpAny M A (do assign (.Attribute o attr p') env v; pure Flow.next) Q E s := fun Γ p hΓ => by
  simp only [assign_Attribute, Sem.wp_bind', Sem.wp_holding, Sem.wp_cmd_standAt, Sem.wp_release, Sem.wp_pure']
  exact Sem.wp_mono M Γ _ (fun ov _ s₂ h₂ => h₂ Γ _ hΓ) (fun _ _ _ h' => h') _ _ (h Γ p hΓ)
theorem wxc_fbya {K : Frag} (G : GG K g mg mb) {x f : Str} {np ap p' p'' pos : Pos} {a dx C : Addr} {fs : List (Str × Fld)} {Kk : Fl → List Ent → Prop} (k : FldOk K C f) (hno : fs.lookup f = none) (hz : fs.length ≤ 900)
    (hg : sc.names.lookup (Str.ofString "bytearray") = some .globalImplicit) (hv : GV mg mb (Str.ofString "bytearray") (.type "bytearray"))
    (h : ∀ l, SwK ρ x (.obj a dx C fs) (.obj a dx C (fs ++ [(f, .bya l #[])])) fun ρ₃ => Kk .next ρ₃)
    (hd : (x == ("__debug__" : Str)) = false := by decide) (hn : (x == ("__classdict__" : Str)) = false := by decide) :
    WXM true prog w g n sc (.Assign [.Attribute (.Name x np) f ap] (.Call (.Name (Str.ofString "bytearray") p') [] [] p'') pos) ρ Kk := by
  intro env A H s hsc ok hA sr
  subst hsc
  show wpC _ _ _ _ _ _
  rw [plainObj_exec_Assign_Attribute (.Name x np) f ap _ pos (swaps_none rfl ..)]
  refine wpC_bind (wpC_of (wpAny_standAt (wpC_bind ?_)))
  show wpC _ _ (eval (.Name (Str.ofString "bytearray") p') env >>= fun fv => callWith p'' fv [] (backTo p'' (starEach [] env)) (backToKw p'' (keywordEach [] env))) _ _ _
  refine wpC_bind (wpC_of (gname G.gf ok sr hg hv ?_ (by decide)))
  show wpC _ _ (callWith p'' (.type "bytearray") [] [] []) _ _ _
  refine callWithM (c := true) rfl (evalArgsM (c := true) (fun y hy => by cases hy) (wpC_of (spliced_nil ⟨keep_type, bya_made fun h' hk hb => ?_⟩)))
  obtain ⟨ρ3, sw, k3⟩ := h s.heap.objs.size
  have srp : SR w.params g env (fun b => H b ∨ b ∈ [s.heap.objs.size]) ρ h' := sr.hide hk (fun b hb' => by
    rw [List.mem_singleton.mp hb']; exact ⟨get_size_none _, by rw [hb]; rfl⟩) fun b hb' => by rw [List.mem_singleton.mp hb']; exact g_none_of sr (get_size_none _)
  refine wpC_of (assign_attr (load_owned (s := { s with heap := h' }) ok srp sw.at rfl rfl (wpAny_mono (set_field_new (s := { s with heap := h' }) G k srp (fun hc => sr.off (.inl hc)) sw hno rfl hz ⟨rfl, hb⟩) (fun _ s3 q3 => ?_) noE_to) hd hn))
  obtain ⟨q1, ⟨h3, t3, e3⟩, q4, q5, q6⟩ := q3
  exact ⟨.next, ρ3, k3, ⟨q1, ⟨h3, t3, by rw [e3]⟩, fun b o hb e => q4 b o hb (hk b o e), fun b hb => (q5 b hb).imp id fun h => by rw [h]; exact get_size_none _, q6⟩, rfl⟩
theorem wxc_fappend {K : Frag} (G : GG K g mg mb) {x f : Str} {e : Expr} {np ap apos pos spos : Pos} {a dx C l : Addr} {fs : List (Str × Fld)} {bs : Array UInt8} {Kk : Fl → List Ent → Prop} (k : FldOk K C f) (hx : At ρ x (.obj a dx C fs)) (hf : fs.lookup f = some (.bya l bs))
    (h : WE prog w g n sc e ρ fun d ρ₁ => ∃ i fs₁ cs fs' ρ₂, d = .int i ∧ 0 ≤ i ∧ i < 256 ∧ cs.size ≤ 2 ^ 20 ∧ Sw ρ₁ x (.obj a dx C fs₁) (.obj a dx C fs') ρ₂ ∧ FsSw fs₁ f (.bya l cs) (.bya l (cs.push i.toNat.toUInt8)) fs' ∧ Kk .next ρ₂)
    (hp : plainE e = true := by rfl) (hline : (apos.endLine == pos.line) = true := by rfl) (hd : (x == ("__debug__" : Str)) = false := by decide) (hn : (x == ("__classdict__" : Str)) = false := by decide)
    (hc : noComp (.Call (.Attribute (.Attribute (.Name x np) f ap) (Str.ofString "append") apos) [e] [] pos) = true := by rfl) :
    WXM true prog w g n sc (.Expr (.Call (.Attribute (.Attribute (.Name x np) f ap) (Str.ofString "append") apos) [e] [] pos) spos) ρ Kk := by
  intro env A H s hsc ok hA sr
  refine wxc_exprV ok ?_ hc
  rw [arm_eval_Call]
  have e1 : attributeBase (.Attribute (.Name x np) f ap) (Str.ofString "append") env (eval (.Attribute (.Name x np) f ap) env) = eval (.Attribute (.Name x np) f ap) env := rfl
  rw [e1]
  refine wpC_bind (wpC_of (load_fbya G k ok sr hx hf (fun hb => wpC_bind (wpC_of (wpAny_standAt ?_))) hd hn))
  have hbk : backTo pos (starEach [e] env) = [(false, eval e env)] := by rw [starEach_plain hp]; rfl
  have hform : methodCallForm ([e].length + ([] : List Keyword).length) (backTo pos (starEach [e] env)) (backToKw pos (keywordEach [] env)) = true := by rw [hbk]; rfl
  have hpos : methodCallPos true (.Attribute (.Name x np) f ap) env apos pos = pure pos := by unfold methodCallPos; simp [hline]
  unfold methodCall
  rw [hform]
  have hT : ({ s with toks := s.toks + 1 } : Shared).TypeIs (.ref l) "bytearray" := ⟨_, hb, rfl⟩
  refine wpC_bind (wpC_of (wpAny_holding (getMethod_builtin hT plainAttrs_bytearray slot_bya_append type_bya_append (fun b eb => by cases eb; exact ⟨_, hb, rfl⟩) ?_)))
  refine wpC_bind (wpC_of_eq hpos ?_)
  show wpC (model prog w) A (callWith pos (.builtin "bytearray.append") [.ref l] (backTo pos (starEach [e] env)) []) _ _ _
  have p0 : Post0 w.params g env H ρ s ρ { s with toks := s.toks + 1 } := (SR.post sr).grow (Keeps.tok s _)
  rw [hbk]
  refine callWithM (c := true) rfl (evalArgsM (c := true) (fun y hy => by cases hy) (wpC_of (spliced_cons (wpAny_mono (h env A H _ hsc ok hA p0.sr) (fun v s1 h1 => spliced_nil ?_) noE_to))))
  obtain ⟨d, ρ1, ⟨i, fs1, cs, fs', ρ2, rfl, i0, i1, hcs, sw, fw, k2⟩, p1, t, rfl⟩ := h1
  refine ⟨keep_builtin, ?_⟩
  obtain ⟨_, ds, m, g2, g3⟩ := slot_inst p1.sr sw.at
  rcases g3.getL (x := f) with ⟨q, _⟩ | ⟨f', v', q1, _, q3⟩
  · rw [fw.lookup] at q; cases q
  · rw [fw.lookup] at q1; cases q1
    obtain ⟨rfl, hb1⟩ := q3
    refine bya_append hb1 i0 i1 (by simp [sizeLine]; omega) ⟨.next, ρ2, k2, (p0.trans p1).trans ?_, rfl⟩
    have hS₂ : (s1.heap.update l (Obj.mapBytearray fun b => b.push i.toNat.toUInt8)).get? l = some { cls := .type "bytearray", data := .bytearray (cs.push i.toNat.toUInt8) 0 } :=
      Heap.get?_update_self (Obj.mapBytearray fun b => b.push i.toNat.toUInt8) hb1 rfl
    exact fld_change (tk := s1.toks) p1.sr sw fw rfl rfl (Heap.SameBut.update ..) (by rw [hS₂]; rfl) fun hT v z => ⟨z.1, hS₂⟩
end
section
set_option maxHeartbeats 1000000
theorem fo_w_done (P : Params) : FldOk (KK P) 128 (Str.ofString "done") := ⟨by rfl, by rfl, by rfl, by rfl, by rfl, by rfl⟩
theorem fo_w_held (P : Params) : FldOk (KK P) 128 (Str.ofString "held") := ⟨by rfl, by rfl, by rfl, by rfl, by rfl, by rfl⟩
theorem fo_w_many (P : Params) : FldOk (KK P) 128 (Str.ofString "many") := ⟨by rfl, by rfl, by rfl, by rfl, by rfl, by rfl⟩
theorem me_put (P : Params) : MethOk (KK P) 128 (Str.ofString "put") 76 := ⟨by rfl, by rfl, by rfl⟩
theorem me_put_code (P : Params) : MethOk (KK P) 128 (Str.ofString "put_code") 83 := ⟨by rfl, by rfl, by rfl⟩
theorem me_align (P : Params) : MethOk (KK P) 128 (Str.ofString "align") 90 := ⟨by rfl, by rfl, by rfl⟩
theorem me_size (P : Params) : MethOk (KK P) 128 (Str.ofString "size") 104 := ⟨by rfl, by rfl, by rfl⟩
theorem me_octets (P : Params) : MethOk (KK P) 128 (Str.ofString "octets") 125 := ⟨by rfl, by rfl, by rfl⟩
theorem co_writer (P : Params) : ClsOk (KK P) 128 69 := ⟨by rfl, by rfl, by rfl, by rfl⟩
theorem fo_r_octets (P : Params) : FldOk (KK P) 198 (Str.ofString "octets") := ⟨by rfl, by rfl, by rfl, by rfl, by rfl, by rfl⟩
theorem fo_r_at (P : Params) : FldOk (KK P) 198 (Str.ofString "at") := ⟨by rfl, by rfl, by rfl, by rfl, by rfl, by rfl⟩
theorem fo_r_left (P : Params) : FldOk (KK P) 198 (Str.ofString "left") := ⟨by rfl, by rfl, by rfl, by rfl, by rfl, by rfl⟩
theorem fo_r_many (P : Params) : FldOk (KK P) 198 (Str.ofString "many") := ⟨by rfl, by rfl, by rfl, by rfl, by rfl, by rfl⟩
theorem me_bits (P : Params) : MethOk (KK P) 198 (Str.ofString "bits") 181 := ⟨by rfl, by rfl, by rfl⟩
theorem co_reader (P : Params) : ClsOk (KK P) 198 166 := ⟨by rfl, by rfl, by rfl, by rfl⟩
theorem fo_c_counts (P : Params) : FldOk (KK P) 241 (Str.ofString "counts") := ⟨by rfl, by rfl, by rfl, by rfl, by rfl, by rfl⟩
theorem fo_c_signs (P : Params) : FldOk (KK P) 241 (Str.ofString "signs") := ⟨by rfl, by rfl, by rfl, by rfl, by rfl, by rfl⟩
theorem me_check (P : Params) : MethOk (KK P) 241 (Str.ofString "check") 224 := ⟨by rfl, by rfl, by rfl⟩
theorem me_sorted_signs (P : Params) : MethOk (KK P) 241 (Str.ofString "sorted_signs") 231 := ⟨by rfl, by rfl, by rfl⟩
theorem me_next_sign (P : Params) : MethOk (KK P) 241 (Str.ofString "next_sign") 238 := ⟨by rfl, by rfl, by rfl⟩
theorem co_codes (P : Params) : ClsOk (KK P) 241 217 := ⟨by rfl, by rfl, by rfl, by rfl⟩
end
section
variable {prog : Program} {w : World} {g : Heap} {n : Nat} {sc : Scope} {ρ ρ' : List Ent} {mg mb : Str → Option Value}
theorem bitAnd_nat (a b : Nat) : Builtin.bitAnd (a : Int) (b : Int) = ((a &&& b : Nat) : Int) := by
  unfold Builtin.bitAnd
  rw [decide_eq_true (Int.natCast_nonneg a), decide_eq_true (Int.natCast_nonneg b)]
  simp
theorem bitNot_not (x : Int) : Builtin.bitNot (Builtin.bitNot x) = x := by unfold Builtin.bitNot; omega
theorem bitOr_nat (a b : Nat) : Builtin.bitOr (a : Int) (b : Int) = ((a ||| b : Nat) : Int) := by
  unfold Builtin.bitOr Builtin.bitAnd
  have h : ∀ c : Nat, decide (0 ≤ Builtin.bitNot (c : Int)) = false := fun c => decide_eq_false (by unfold Builtin.bitNot; omega)
  rw [h a, h b]
  simp only [bitNot_not, Int.toNat_natCast]
theorem and_255 (h : Nat) : h &&& 255 = h % 256 := Nat.and_two_pow_sub_one_eq_mod h 8
noncomputable def putL (bs : Array UInt8) (h k : Nat) : Array UInt8 × Nat × Nat :=
  if k < 8 then (bs, h, k) else putL (bs.push (h % 256).toUInt8) (h / 256) (k - 8)
termination_by k
decreasing_by omega
noncomputable abbrev wFs (l : Addr) (bs : Array UInt8) (h k : Nat) : List (Str × Fld) := [(Str.ofString "done", .bya l bs), (Str.ofString "held", .val (.int h)), (Str.ofString "many", .val (.int k))]
noncomputable abbrev wSl (a dx l : Addr) (bs : Array UInt8) (h k : Nat) : Slot := .obj a dx 128 (wFs l bs h k)
theorem wFs3 {l : Addr} {bs : Array UInt8} {h k : Nat} : (wFs l bs h k).length ≤ 900 := by show 3 ≤ 900; decide
noncomputable abbrev putR (a dx l : Addr) (bs : Array UInt8) (h k : Nat) (number m : Int) : List Ent := [⟨Str.ofString "self", none, wSl a dx l bs h k⟩, ⟨Str.ofString "number", none, .val (.int number)⟩, ⟨Str.ofString "many", none, .val (.int m)⟩]
theorem walk_put (G : GG (KK w.params) g mg mb) (a dx l : Addr) (bs : Array UInt8) (h k number m : Nat) (hk : k ≤ 100) (hm : m ≤ 100) (hn : number < 2 ^ 60) (hs : bs.size ≤ 1000) (cs : List (Str × Addr)) :
    WSM true prog w g n (fdAt w.params 76).scope (bodyAt w.params 76) (ents0 [(Str.ofString "self", wSl a dx l bs h k), (Str.ofString "number", .val (.int number)), (Str.ofString "many", .val (.int m))] cs (fdAt w.params 76).scope.names)
      fun fl ρ' => fl = .next ∧ ρ' = putR a dx l (putL bs (h ||| number <<< k) (k + m)).1 (putL bs (h ||| number <<< k) (k + m)).2.1 (putL bs (h ||| number <<< k) (k + m)).2.2 number m := by
  show WSM true prog w g n _ _ (putR a dx l bs h k number m) _
  refine wsm_gen fun K hK => ?_
  refine wsm_cons (wxm_of (wx_setattr (a := a) (dx := dx) (fs := wFs l bs h k) (hz := wFs3) G (fo_w_held _) (we_bin (we_attr G (fo_w_held _) (by trivial) rfl (we_bin (we_name (by trivial) (we_attr G (fo_w_many _) (by trivial) rfl (po_shl (by omega) (by omega) (by omega) (po_or ⟨putR a dx l bs (h ||| number <<< k) k number m, ?_, ?_⟩)))))))))
  · have e : Builtin.bitOr (h : Int) ((number : Int) * 2 ^ ((k : Int)).toNat) = ((h ||| number <<< k : Nat) : Int) := by
      rw [Int.toNat_natCast, ← bitOr_nat, Nat.shiftLeft_eq]; push_cast; rfl
    rw [e]
    trivial
  refine wsm_cons (wxm_of (wx_setattr (a := a) (dx := dx) (fs := wFs l bs (h ||| number <<< k) k) (hz := wFs3) G (fo_w_many _) (we_bin (we_attr G (fo_w_many _) (by trivial) rfl (we_name (by trivial) (po_add ⟨putR a dx l bs (h ||| number <<< k) (k + m) number m, ?_, ?_⟩))))))
  · have e : (k : Int) + (m : Int) = ((k + m : Nat) : Int) := by push_cast; rfl
    rw [e]; trivial
  refine wsm_cons (wxc_while (fun j ρ => ∃ bs1 h1, ρ = putR a dx l bs1 h1 j number m ∧ bs1.size + j ≤ 1300 ∧ putL bs1 h1 j = putL bs (h ||| number <<< k) (k + m)) (k + m) ⟨_, _, rfl, by omega, rfl⟩ ?_)
  rintro j K2 hK2 hR2 ρ ⟨bs1, h1, rfl, hsz, he⟩
  refine wt_cmp (we_attr G (fo_w_many _) (by trivial) rfl (we_int (pc_ge ⟨_, rfl, ?_⟩)))
  by_cases hj : 8 ≤ j
  · refine ifT (by simp; omega) ?_
    have hput : putL bs1 h1 j = putL (bs1.push (h1 % 256).toUInt8) (h1 / 256) (j - 8) := by
      rw [putL, if_neg (by omega)]
    refine wsm_cons (wxc_fappend G (fo_w_done _) (by trivial) rfl (we_bin (we_attr G (fo_w_held _) (by trivial) rfl (we_int (po_and ⟨((h1 % 256 : Nat) : Int), _, bs1, _, putR a dx l (bs1.push (h1 % 256).toUInt8) h1 j number m, ?_, by omega, by omega, by omega, by trivial, ?_, ?_⟩)))))
    · rw [show (255 : Int) = ((255 : Nat) : Int) from rfl, bitAnd_nat, and_255]
    · rw [Int.toNat_natCast]; exact .here
    refine wsm_cons (wxm_of (wx_setattr (a := a) (dx := dx) (fs := wFs l (bs1.push (h1 % 256).toUInt8) h1 j) (hz := wFs3) G (fo_w_held _) (we_bin (we_attr G (fo_w_held _) (by trivial) rfl (we_int (po_shr (by decide) ⟨putR a dx l (bs1.push (h1 % 256).toUInt8) (h1 / 256) j number m, ?_, ?_⟩))))))
    · have e : Int.fdiv (h1 : Int) (2 ^ ((8 : Int)).toNat) = ((h1 / 256 : Nat) : Int) := by
        rw [show (2 : Int) ^ ((8 : Int)).toNat = 256 from rfl, Int.fdiv_eq_ediv_of_nonneg _ (by decide)]
        push_cast; rfl
      rw [e]; trivial
    refine wsm_cons (wxm_of (wx_setattr (a := a) (dx := dx) (fs := wFs l (bs1.push (h1 % 256).toUInt8) (h1 / 256) j) (hz := wFs3) G (fo_w_many _) (we_bin (we_attr G (fo_w_many _) (by trivial) rfl (we_int (po_sub ⟨putR a dx l (bs1.push (h1 % 256).toUInt8) (h1 / 256) (j - 8) number m, ?_, ?_⟩))))))
    · have e : (j : Int) - 8 = ((j - 8 : Nat) : Int) := by omega
      rw [e]; trivial
    exact wsm_nil (hK2 (j - 8) _ (by omega) ⟨_, _, rfl, by simp; omega, by rw [← hput]; exact he⟩)
  · refine ifF (by simp; omega) ?_
    have hput : putL bs1 h1 j = (bs1, h1, j) := by rw [putL, if_pos (by omega)]
    refine wsm_nil (hK _ _ ⟨rfl, ?_⟩)
    rw [← he, hput]
end
section
variable {prog : Program} {w : World} {g : Heap} {n : Nat} {sc : Scope} {ρ ρ' : List Ent} {mg mb : Str → Option Value} {c : Bool}
theorem At.sw {x : Str} {sl : Slot} (h : At ρ x sl) : Sw ρ x sl sl ρ := by
  induction h with
  | here => exact .here
  | there _ ih => exact .there ih
theorem bwF_one (u : Slot × Slot) : bwF [u] = u.1.fp := by simp [bwF]
theorem con_self {fd : FuncData} {body : List Stmt} {x0 y : Str} {xs : List Str} {ds : List PV} {a : Addr} {old : Slot} {K : PV → List Ent → Prop} (hl : xs.length = ds.length) (ho : old.owned = true) (ha : old.fp.head? = some a) (hy : At ρ y old)
    (hk : (((x0 :: xs).zip (old :: ds.map Slot.val)).all fun z => fd.scope.names.lookup z.1 == some .local || fd.scope.names.lookup z.1 == some .cell) = true)
    (h : ∀ cs, WSM c prog w g n fd.scope body (ents0 ((x0 :: xs).zip (old :: ds.map Slot.val)) cs fd.scope.names) fun fl ρ' => ∃ new ρ'', new.fp = old.fp ∧ new.owned = true ∧ (∃ z l, (⟨z, l, new⟩ : Ent) ∈ ρ') ∧ Sw ρ y old new ρ'' ∧ K (match fl with | .ret d => d | .next => .none) ρ'') :
    ConM c prog w g n fd body (x0 :: xs) (.o a :: ds.map Arg.d) ρ K := by
  have efp : fps ((x0 :: xs).zip (old :: ds.map Slot.val)) = old.fp := by
    show old.fp ++ fps (xs.zip (ds.map Slot.val)) = old.fp
    rw [fps_vals, List.append_nil]
  refine ⟨old :: ds.map Slot.val, [(old, old)], ρ, ⟨old, _, rfl, ha, ho, ⟨y, hy⟩, argSl_vals ds⟩, by simp [hl], hy.sw.bw, by rw [efp, bwF_one], hk, fun cs => wsm_mono (h cs) fun fl ρ1 k => ?_⟩
  obtain ⟨new, ρ2, e1, e2, e3, sw, k⟩ := k
  exact ⟨[(old, new)], ρ2, sw.bw, by rw [efp, bwF_one], fun u hu => by rw [List.mem_singleton.mp hu]; exact ⟨e1, ho, e2, e3⟩, k⟩
noncomputable def revB (code : Nat) : Nat → Nat
  | 0 => 0
  | i + 1 => (revB code i <<< 1) ||| ((code >>> i) &&& 1)
theorem revB_lt (code : Nat) : ∀ i, revB code i < 2 ^ i := by
  intro l0
  induction l0 with
  | zero => exact by show 0 < 1; decide
  | succ i ih =>
    have h := ih
    have h1 : (code >>> i) &&& 1 ≤ 1 := Nat.and_le_right
    have h2 : revB code i <<< 1 < 2 ^ (i + 1) := by rw [Nat.shiftLeft_eq]; omega
    exact Nat.or_lt_two_pow h2 (Nat.lt_of_le_of_lt h1 (by rw [Nat.pow_succ]; have := Nat.one_le_two_pow (n := i); omega))
theorem shl_nat (a b : Nat) : (a : Int) * 2 ^ ((b : Int)).toNat = ((a <<< b : Nat) : Int) := by
  rw [Int.toNat_natCast, Nat.shiftLeft_eq]; push_cast; rfl
theorem shr_nat (a b : Nat) : Int.fdiv (a : Int) (2 ^ ((b : Int)).toNat) = ((a >>> b : Nat) : Int) := by
  rw [Int.toNat_natCast, Int.fdiv_eq_ediv_of_nonneg _ (Int.le_of_lt (Int.pow_pos (by decide))), Nat.shiftRight_eq_div_pow]; push_cast; rfl
noncomputable abbrev pcR (a dx l : Addr) (bs : Array UInt8) (h k : Nat) (code m : Int) (t e : Slot) : List Ent := [⟨Str.ofString "self", none, wSl a dx l bs h k⟩, ⟨Str.ofString "code", none, .val (.int code)⟩, ⟨Str.ofString "many", none, .val (.int m)⟩, ⟨Str.ofString "turned", none, t⟩, ⟨Str.ofString "turn", none, e⟩]
theorem walk_put_code (G : GG (KK w.params) g mg mb) (a dx l : Addr) (bs : Array UInt8) (h k code m : Nat) (hk : k ≤ 100) (hm : m ≤ 50) (hs : bs.size ≤ 1000) (cs : List (Str × Addr)) :
    WSM true prog w g (n + 1) (fdAt w.params 83).scope (bodyAt w.params 83) (ents0 [(Str.ofString "self", wSl a dx l bs h k), (Str.ofString "code", .val (.int code)), (Str.ofString "many", .val (.int m))] cs (fdAt w.params 83).scope.names)
      fun fl ρ' => fl = .next ∧ ∃ t e, ρ' = pcR a dx l (putL bs (h ||| revB code m <<< k) (k + m)).1 (putL bs (h ||| revB code m <<< k) (k + m)).2.1 (putL bs (h ||| revB code m <<< k) (k + m)).2.2 code m t e := by
  show WSM true prog w g (n + 1) _ _ (pcR a dx l bs h k code m .unb .unb) _
  refine wsm_gen fun K hK => ?_
  refine wsm_cons (wxm_of (wx_assign (we_int ⟨pcR a dx l bs h k code m (.val (.int 0)) .unb, by trivial, ?_⟩)))
  refine wsm_cons (wxm_of (wx_for (wi_range1 G.gf (by rfl) (gv_range G) (we_name (by trivial) ⟨m, rfl, by omega, by omega, fun i ρ => ∃ e, ρ = pcR a dx l bs h k code m (.val (.int (revB code i : Nat))) e, ⟨_, rfl⟩, ?_, ?_⟩))))
  · rintro i hi K hK hR ρ ⟨e, rfl⟩
    rw [Int.toNat_natCast] at hi
    have hlt := revB_lt code i
    have h50 : 2 ^ i ≤ 2 ^ 50 := Nat.pow_le_pow_right (by decide) (by omega)
    refine ⟨.int i, pcR a dx l bs h k code m (.val (.int (revB code i : Nat))) (.val (.int i)), by rw [Int.toNat_natCast, rangePV_get hi]; simp, by trivial, ?_⟩
    refine ws_cons (wx_assign (we_bin (we_bin (we_name (by trivial) (we_int (po_shl (by decide) (by decide) (by omega) (we_bin (we_bin (we_name (by trivial) (we_name (by trivial) (po_shr (by omega) (we_int (po_and (po_or ⟨pcR a dx l bs h k code m (.val (.int (revB code (i + 1) : Nat))) (.val (.int i)), ?_, ?_⟩))))))))))))))
    · have e1 : Builtin.bitOr (((revB code i : Nat) : Int) * 2 ^ ((1 : Int)).toNat) (Builtin.bitAnd (Int.fdiv (code : Int) (2 ^ ((i : Int)).toNat)) 1) = ((revB code (i + 1) : Nat) : Int) := by
        rw [shr_nat, show (1 : Int) = ((1 : Nat) : Int) from rfl, bitAnd_nat, shl_nat, bitOr_nat]; rfl
      rw [e1]; trivial
    exact ws_nil (hK _ ⟨_, rfl⟩)
  · rintro ρ ⟨e, rfl⟩
    rw [Int.toNat_natCast]
    have hlt := revB_lt code m
    have h50 : 2 ^ m ≤ 2 ^ 50 := Nat.pow_le_pow_right (by decide) (by omega)
    refine wsm_cons (wxc_meth G (fn76 _) (me_put _) (by trivial) (by rfl) (xs := [Str.ofString "self", Str.ofString "number", Str.ofString "many"]) (wal_e (we_name (by trivial) (wal_e (we_name (by trivial) (wal_nil (con_self (ds := [_, _]) (old := wSl a dx l bs h k) rfl rfl rfl (by trivial) (by rfl) fun cs => wsm_mono (walk_put G a dx l bs h k (revB code m) m hk (by omega) (by omega) hs cs) fun fl ρ1 k1 => ?_)))))) (bind3 (b76 w.params)))
    obtain ⟨rfl, rfl⟩ := k1
    exact ⟨wSl a dx l (putL bs (h ||| revB code m <<< k) (k + m)).1 (putL bs (h ||| revB code m <<< k) (k + m)).2.1 (putL bs (h ||| revB code m <<< k) (k + m)).2.2, pcR a dx l _ _ _ code m (.val (.int (revB code m : Nat))) e, rfl, rfl, ⟨_, _, .head _⟩, by trivial, wsm_nil (hK _ _ ⟨rfl, _, _, rfl⟩)⟩
noncomputable def alignL (P : Array UInt8 × Nat × Nat) : Array UInt8 × Nat × Nat := if 0 < P.2.2 then putL P.1 (P.2.1 ||| 0 <<< P.2.2) (P.2.2 + (8 - P.2.2)) else P
noncomputable abbrev pSl (a dx l : Addr) (P : Array UInt8 × Nat × Nat) : Slot := wSl a dx l P.1 P.2.1 P.2.2
theorem walk_align (G : GG (KK w.params) g mg mb) (a dx l : Addr) (P : Array UInt8 × Nat × Nat) (hk : P.2.2 < 8) (hs : P.1.size ≤ 1000) (cs : List (Str × Addr)) :
    WSM true prog w g (n + 1) (fdAt w.params 90).scope (bodyAt w.params 90) (ents0 [(Str.ofString "self", pSl a dx l P)] cs (fdAt w.params 90).scope.names)
      fun fl ρ' => fl = .next ∧ ρ' = [⟨Str.ofString "self", none, pSl a dx l (alignL P)⟩] := by
  obtain ⟨bs, h, k⟩ := P
  dsimp only at hk hs
  show WSM true prog w g (n + 1) _ _ [⟨Str.ofString "self", none, wSl a dx l bs h k⟩] _
  refine wsm_cons (wxm_if (wt_cmp (we_attr G (fo_w_many _) (by trivial) rfl (we_int (pc_gt ⟨_, rfl, ?_⟩)))))
  by_cases h0 : 0 < k
  · refine ifT (by simp; omega) ?_
    refine wsm_cons (wxc_meth G (fn76 _) (me_put _) (by trivial) (by rfl) (xs := [Str.ofString "self", Str.ofString "number", Str.ofString "many"]) (wal_e (we_int (wal_e (we_bin (we_int (we_attr G (fo_w_many _) (by trivial) rfl (po_sub (wal_nil ?_))))))))  (bind3 (b76 w.params)))
    have e8 : (8 : Int) - (k : Int) = ((8 - k : Nat) : Int) := by omega
    rw [e8]
    refine con_self (ds := [.int ((0 : Nat) : Int), _]) (old := wSl a dx l bs h k) rfl rfl rfl (by trivial) (by rfl) fun cs => wsm_mono (walk_put G a dx l bs h k 0 (8 - k) (by omega) (by omega) (by decide) hs cs) fun fl ρ1 k1 => ?_
    obtain ⟨rfl, rfl⟩ := k1
    have ea : alignL (bs, h, k) = putL bs (h ||| 0 <<< k) (k + (8 - k)) := by unfold alignL; rw [if_pos h0]
    rw [ea]
    exact ⟨pSl a dx l (putL bs (h ||| 0 <<< k) (k + (8 - k))), [⟨Str.ofString "self", none, pSl a dx l (putL bs (h ||| 0 <<< k) (k + (8 - k)))⟩], rfl, rfl, ⟨_, _, .head _⟩, by trivial, wsm_nil (wsm_nil ⟨rfl, rfl⟩)⟩
  · refine ifF (by simp; omega) ?_
    have ea : alignL (bs, h, k) = (bs, h, k) := by unfold alignL; rw [if_neg h0]
    rw [ea]
    exact wsm_nil (wsm_nil ⟨rfl, rfl⟩)
theorem walk_size (G : GG (KK w.params) g mg mb) (a dx l : Addr) (P : Array UInt8 × Nat × Nat) (hs : P.1.size ≤ 1000) (cs : List (Str × Addr)) :
    WS prog w g n (fdAt w.params 104).scope (bodyAt w.params 104) (ents0 [(Str.ofString "self", pSl a dx l P)] cs (fdAt w.params 104).scope.names)
      fun fl ρ' => fl = .ret (.int ((8 * P.1.size + P.2.2 : Nat) : Int)) ∧ ρ' = [⟨Str.ofString "self", none, pSl a dx l P⟩] := by
  show WS prog w g n _ _ [⟨Str.ofString "self", none, pSl a dx l P⟩] _
  refine ws_cons (wx_ret (we_bin (we_bin (we_int (we_len_fbya G (fo_w_done _) (by rfl) (gv_len G) (by trivial) rfl (by omega) (po_mul (we_attr G (fo_w_many _) (by trivial) rfl (po_add ⟨?_, rfl⟩)) (IntMulOk.of_left (bits_small (by omega) (by omega)))))))))
  push_cast
  rfl
theorem walk_octets (G : GG (KK w.params) g mg mb) (a dx l : Addr) (P : Array UInt8 × Nat × Nat) (hk : P.2.2 < 8) (hs : P.1.size ≤ 1000) (hs2 : (alignL P).1.size ≤ 1000) (cs : List (Str × Addr)) :
    WSM true prog w g (n + 2) (fdAt w.params 125).scope (bodyAt w.params 125) (ents0 [(Str.ofString "self", pSl a dx l P)] cs (fdAt w.params 125).scope.names)
      fun fl ρ' => fl = .ret (.bytes (alignL P).1) ∧ ρ' = [⟨Str.ofString "self", none, pSl a dx l (alignL P)⟩] := by
  show WSM true prog w g (n + 2) _ _ [⟨Str.ofString "self", none, pSl a dx l P⟩] _
  refine wsm_cons (wxc_meth G (fn90 _) (me_align _) (by trivial) (by rfl) (xs := [Str.ofString "self"]) (wal_nil (con_self (ds := []) (old := pSl a dx l P) rfl rfl rfl (by trivial) (by rfl) fun cs => wsm_mono (walk_align G a dx l P hk hs cs) fun fl ρ1 k1 => ?_)) (bind1 (b90 w.params)))
  obtain ⟨rfl, rfl⟩ := k1
  refine ⟨pSl a dx l (alignL P), [⟨Str.ofString "self", none, pSl a dx l (alignL P)⟩], rfl, rfl, ⟨_, _, .head _⟩, by trivial, ?_⟩
  exact wsm_cons (wxm_of (wx_ret (we_bytes_fbya G (fo_w_done _) (by rfl) (gv_bytes G) (by trivial) rfl (by omega) ⟨rfl, rfl⟩)))
theorem bd69 (P : Params) (v : Value) {s : Shared} (X : (KK P).In s.heap) : BindsTo s (fdAt P 69) ⟨[v], []⟩ [(Str.ofString "self", v), (Str.ofString "held", .int 0 256), (Str.ofString "many", .int 0 257)] := by
  have e : fdAt P 69 = fdAt P 69 := rfl
  conv at e => rhs; unfold fdAt; whnf
  rw [e]
  exact BindsTo.of_defaults (T := 62) rfl (X 62 _ (by rfl)) rfl rfl rfl
theorem new_writer (G : GG (KK w.params) g mg mb) {p pos : Pos} {Kk : Slot → List Ent → Prop} (hx : sc.names.lookup (Str.ofString "BitWriter") = some .globalImplicit) (h : ∀ a dx l, Kk (wSl a dx l #[] 0 0) ρ) :
    WOM prog w g true (n + 2) sc (.Call (.Name (Str.ofString "BitWriter") p) [] [] pos) ρ Kk := by
  refine wo_newM G (fn69 _) (co_writer _) (gt_BitWriter G) (xs := [Str.ofString "self", Str.ofString "held", Str.ofString "many"]) (dd := [.int 0, .int 0]) (wel_nil ⟨rfl, fun a dx => ⟨by rfl, fun cs => ?_⟩⟩) [.int 0 256, .int 0 257] (fun h T => ⟨_, _, rfl, ⟨_, rfl⟩, _, _, rfl, ⟨_, rfl⟩, rfl⟩) ?_ hx
  · show WSM true prog w g n _ _ [⟨Str.ofString "self", none, .obj a dx 128 []⟩, ⟨Str.ofString "held", none, .val (.int 0)⟩, ⟨Str.ofString "many", none, .val (.int 0)⟩] _
    refine wsm_cons (wxc_fbya (a := a) (dx := dx) (fs := []) G (fo_w_done _) (by rfl) (by show 0 ≤ 900; decide) (by rfl) (gv_bytearray G) fun l => ⟨[⟨Str.ofString "self", none, .obj a dx 128 [(Str.ofString "done", .bya l #[])]⟩, ⟨Str.ofString "held", none, .val (.int 0)⟩, ⟨Str.ofString "many", none, .val (.int 0)⟩], by trivial, ?_⟩)
    refine wsm_cons (wxm_of (wx_setattr (a := a) (dx := dx) (fs := [(Str.ofString "done", .bya l #[])]) (hz := by show 1 ≤ 900; decide) G (fo_w_held _) (we_name (by trivial) ⟨[⟨Str.ofString "self", none, .obj a dx 128 [(Str.ofString "done", .bya l #[]), (Str.ofString "held", .val (.int 0))]⟩, ⟨Str.ofString "held", none, .val (.int 0)⟩, ⟨Str.ofString "many", none, .val (.int 0)⟩], by trivial, ?_⟩)))
    refine wsm_cons (wxm_of (wx_setattr (a := a) (dx := dx) (fs := [(Str.ofString "done", .bya l #[]), (Str.ofString "held", .val (.int 0))]) (hz := by show 2 ≤ 900; decide) G (fo_w_many _) (we_name (by trivial) ⟨[⟨Str.ofString "self", none, wSl a dx l #[] 0 0⟩, ⟨Str.ofString "held", none, .val (.int 0)⟩, ⟨Str.ofString "many", none, .val (.int 0)⟩], by trivial, ?_⟩)))
    exact wsm_nil ⟨_, _, _, .head _, h a dx l, rfl⟩
  · intro v vs hl s hs
    cases vs with
    | nil => exact bd69 w.params v (G.kin.keeps hs)
    | cons _ _ => simp at hl
end
section
variable {prog : Program} {w : World} {g : Heap} {n : Nat} {sc : Scope} {ρ ρ' : List Ent} {mg mb : Str → Option Value} {c : Bool}
structure RS where
  at_ : Nat
  left : Nat
  many : Nat
noncomputable abbrev rFs (b : Array UInt8) (r : RS) : List (Str × Fld) := [(Str.ofString "octets", .val (.bytes b)), (Str.ofString "at", .val (.int r.at_)), (Str.ofString "left", .val (.int r.left)), (Str.ofString "many", .val (.int r.many))]
noncomputable abbrev rSl (a dx : Addr) (b : Array UInt8) (r : RS) : Slot := .obj a dx 198 (rFs b r)
theorem rFs4 {b : Array UInt8} {r : RS} : (rFs b r).length ≤ 900 := by show 4 ≤ 900; decide
noncomputable def fillR (b : Array UInt8) (r : RS) : RS := if r.many < 1 then ⟨r.at_ + 1, r.left ||| (b.toList.getD r.at_ 0).toNat <<< r.many, r.many + 8⟩ else r
noncomputable def nextR (b : Array UInt8) (r : RS) : RS := ⟨(fillR b r).at_, (fillR b r).left >>> 1, (fillR b r).many - 1⟩
noncomputable def bitR (b : Array UInt8) (r : RS) : Nat := (fillR b r).left % 2
noncomputable abbrev biR (a dx : Addr) (b : Array UInt8) (r : RS) (f : Slot) : List Ent := [⟨Str.ofString "self", none, rSl a dx b r⟩, ⟨Str.ofString "many", none, .val (.int 1)⟩, ⟨Str.ofString "found", none, f⟩]
theorem u8_lt (x : UInt8) : x.toNat < 256 := x.toNat_lt
theorem walk_bits (G : GG (KK w.params) g mg mb) (a dx : Addr) (b : Array UInt8) (r : RS) (hb : b.size ≤ 1000) (hr : r.at_ ≤ b.size) (hok : 1 ≤ r.many ∨ r.at_ < b.size) (hl : r.left < 2 ^ r.many) (hm : r.many ≤ 8) (cs : List (Str × Addr)) :
    WS prog w g n (fdAt w.params 181).scope (bodyAt w.params 181) (ents0 [(Str.ofString "self", rSl a dx b r), (Str.ofString "many", .val (.int 1))] cs (fdAt w.params 181).scope.names)
      fun fl ρ' => fl = .ret (.int (bitR b r : Nat)) ∧ ∃ f, ρ' = biR a dx b (nextR b r) f := by
  show WS prog w g n _ _ (biR a dx b r .unb) _
  refine WS.gen fun K hK => ?_
  refine ws_cons (wx_while (fun j ρ => (j = 1 ∧ r.many < 1 ∧ ρ = biR a dx b r .unb) ∨ (j = 0 ∧ ρ = biR a dx b (fillR b r) .unb)) (if r.many < 1 then 1 else 0) ?_ ?_)
  · by_cases h : r.many < 1
    · rw [if_pos h]; exact .inl ⟨rfl, h, rfl⟩
    · rw [if_neg h]; refine .inr ⟨rfl, ?_⟩; unfold fillR; rw [if_neg h]
  rintro j K2 hK2 hR2 ρ (⟨rfl, h, rfl⟩ | ⟨rfl, rfl⟩)
  · have hz : r.many = 0 := by omega
    have hat : r.at_ < b.size := by omega
    have e1 : fillR b r = ⟨r.at_ + 1, r.left ||| (b.toList.getD r.at_ 0).toNat <<< r.many, r.many + 8⟩ := by unfold fillR; rw [if_pos h]
    refine wt_cmp (we_attr G (fo_r_many _) (by trivial) rfl (we_name (by trivial) (pc_lt ⟨_, rfl, ?_⟩)))
    refine ifT (by simp; omega) ?_
    refine ws_cons (wx_if (wt_cmp (we_attr G (fo_r_at _) (by trivial) rfl (we_call G.gf (by rfl) (gv_len G) True.intro (wel1 (we_attr G (fo_r_octets _) (by trivial) rfl (pl_len_bytes (by omega) (pc_ge ⟨_, rfl, ?_⟩))) rfl)))))
    refine ifF (by simp; omega) (ws_nil ?_)
    have hx8 := u8_lt (b.toList.getD r.at_ 0)
    refine ws_cons (wx_setattr (a := a) (dx := dx) (fs := rFs b r) (hz := rFs4) G (fo_r_left _) (we_bin (we_attr G (fo_r_left _) (by trivial) rfl (we_bin (we_sub (we_attr G (fo_r_octets _) (by trivial) rfl ⟨rfl, we_attr G (fo_r_at _) (by trivial) rfl (pi_bytes (by omega) (by omega) (by omega) (we_attr G (fo_r_many _) (by trivial) rfl (po_shl (by omega) (by omega) (by have := u8_lt (b.toList.getD (r.at_ : Int).toNat 0); omega) (po_or ⟨biR a dx b ⟨r.at_, r.left ||| (b.toList.getD r.at_ 0).toNat <<< r.many, r.many⟩ .unb, ?_, ?_⟩))))⟩))))))
    · rw [Int.toNat_natCast, shl_nat, bitOr_nat]; trivial
    refine ws_cons (wx_augattr (a := a) (dx := dx) (fs := rFs b ⟨r.at_, r.left ||| (b.toList.getD r.at_ 0).toNat <<< r.many, r.many⟩) (hz := rFs4) G (fo_r_at _) (by trivial) rfl (we_int (po_iadd ⟨biR a dx b ⟨r.at_ + 1, r.left ||| (b.toList.getD r.at_ 0).toNat <<< r.many, r.many⟩ .unb, by trivial, ?_⟩)))
    refine ws_cons (wx_augattr (a := a) (dx := dx) (fs := rFs b ⟨r.at_ + 1, r.left ||| (b.toList.getD r.at_ 0).toNat <<< r.many, r.many⟩) (hz := rFs4) G (fo_r_many _) (by trivial) rfl (we_int (po_iadd ⟨biR a dx b (fillR b r) .unb, by rw [e1]; trivial, ?_⟩)))
    exact ws_nil (hK2 0 _ (by omega) (.inr ⟨rfl, rfl⟩))
  · have hf : (fillR b r).left < 2 ^ 16 ∧ 1 ≤ (fillR b r).many ∧ (fillR b r).many ≤ 16 := by
      unfold fillR
      split
      · rename_i h
        have hz : r.many = 0 := by omega
        have hx8 := u8_lt (b.toList.getD r.at_ 0)
        refine ⟨?_, by simp, by simp; omega⟩
        rw [hz] at hl ⊢
        have : r.left = 0 := by simpa using hl
        rw [this, Nat.shiftLeft_zero, Nat.zero_or]
        show (b.toList.getD r.at_ 0).toNat < 2 ^ 16
        omega
      · refine ⟨Nat.lt_of_lt_of_le hl (Nat.pow_le_pow_right (by decide) (by omega)), by omega, by omega⟩
    obtain ⟨f1, f2, f3⟩ := hf
    unfold nextR bitR at hK
    generalize fillR b r = q at f1 f2 f3 hK ⊢
    refine wt_cmp (we_attr G (fo_r_many _) (by trivial) rfl (we_name (by trivial) (pc_lt ⟨_, rfl, ?_⟩)))
    refine ifF (by simp; omega) ?_
    refine ws_cons (wx_assign (we_bin (we_attr G (fo_r_left _) (by trivial) rfl (we_bin (we_bin (we_int (we_name (by trivial) (po_shl (by decide) (by decide) (by decide) (we_int (po_sub (po_and ⟨biR a dx b q (.val (.int (q.left % 2 : Nat))), ?_, ?_⟩)))))))))))
    · have e : Builtin.bitAnd (q.left : Int) (1 * 2 ^ ((1 : Int)).toNat - 1) = ((q.left % 2 : Nat) : Int) := by
        rw [show (1 * 2 ^ ((1 : Int)).toNat - 1 : Int) = ((1 : Nat) : Int) from rfl, bitAnd_nat, Nat.and_one_is_mod]
      rw [e]; trivial
    refine ws_cons (wx_setattr (a := a) (dx := dx) (fs := rFs b q) (hz := rFs4) G (fo_r_left _) (we_bin (we_attr G (fo_r_left _) (by trivial) rfl (we_name (by trivial) (po_shr (by decide) ⟨biR a dx b ⟨q.at_, q.left >>> 1, q.many⟩ (.val (.int (q.left % 2 : Nat))), ?_, ?_⟩)))))
    · have e := shr_nat q.left 1
      rw [show (((1 : Nat) : Int)) = (1 : Int) from rfl] at e
      rw [e]; trivial
    refine ws_cons (wx_augattr (a := a) (dx := dx) (fs := rFs b ⟨q.at_, q.left >>> 1, q.many⟩) (hz := rFs4) G (fo_r_many _) (by trivial) rfl (we_name (by trivial) (po_isub ⟨biR a dx b ⟨q.at_, q.left >>> 1, q.many - 1⟩ (.val (.int (q.left % 2 : Nat))), ?_, ?_⟩)))
    · have e : (q.many : Int) - 1 = ((q.many - 1 : Nat) : Int) := by omega
      rw [e]; trivial
    exact ws_cons (wx_ret (we_name (by trivial) (hK _ _ ⟨rfl, _, rfl⟩)))
end
section
variable {prog : Program} {w : World} {g : Heap} {n : Nat} {sc : Scope} {ρ ρ' : List Ent} {mg mb : Str → Option Value} {c : Bool}
theorem wx_ret0 {pos : Pos} {K : Fl → List Ent → Prop} (h : K (.ret .none) ρ) : WX prog w g n sc (.Return none pos) ρ K := fun _ _ _ _ _ _ _ sr => PySem.wpAny_Return_none ⟨.ret .none, ρ, h, SR.post sr, .none, rfl, rfl⟩
theorem wx_laug {x : Str} {op : Operator} {e i : Expr} {np p' pos : Pos} {a : Addr} {xs : List PV} {Kk : Fl → List Ent → Prop} (hx : At ρ x (.lst a xs))
    (h : WE prog w g n sc i ρ fun d' ρ₁ => ∃ j ys d₁, d' = .int j ∧ At ρ₁ x (.lst a ys) ∧ 0 ≤ j ∧ j < 2 ^ 63 ∧ ys[j.toNat]? = some d₁ ∧ WE prog w g n sc e ρ₁ fun d₂ ρ₂ => PO2 prog w g n (inplaceOp op) d₁ d₂ fun d =>
      ∃ zs ρ₃, zs.length ≤ 2 ^ 20 ∧ j < (zs.length : Int) ∧ Sw ρ₂ x (.lst a zs) (.lst a (zs.set j.toNat d)) ρ₃ ∧ Kk .next ρ₃)
    (hi : ∀ ov iv new, augStore i ov iv new = (do holding [new, ov, iv] (setItem ov iv new); release [new, ov, iv] []; pure .next) := by intros; rfl)
    (hd : (x == ("__debug__" : Str)) = false := by decide) (hn : (x == ("__classdict__" : Str)) = false := by decide) :
    WX prog w g n sc (.AugAssign (.Subscript (.Name x np) i p') op e pos) ρ Kk := by
  intro env A H s hsc ok hA sr
  refine PySem.wpAny_AugAssign_SubscriptAny (load_own ok sr hx ?_ hd hn) hi
  refine wpAny_mono (h env A H s hsc ok hA sr) (fun v1 s1 h1 => ?_) fun _ _ x => x
  obtain ⟨d', ρ1, ⟨j, ys, d1, rfl, hx1, j0, j1, hj, k1⟩, p1, t, rfl⟩ := h1
  obtain ⟨us, hl1, hr1⟩ := p1.sr.own hx1
  obtain ⟨u, hu, ru⟩ := hr1.get hj
  refine wpAny_getItem_list hl1.isList j0 j1 (by simpa using hu) ?_
  refine wpAny_mono (k1 env A H s1 hsc ok hA p1.sr) (fun v2 s2 h2 => ?_) fun _ _ x => x
  obtain ⟨d2, ρ2, k2, p2, r2⟩ := h2
  refine wpAny_mono (k2 A _ s2 _ _ hA p2.sr.hr (p2.rd ru) r2) (fun v3 s3 h3 => ?_) fun _ _ x => x
  obtain ⟨d3, ⟨zs, ρ3, hzl, hjz, sw, k3⟩, r3, ks⟩ := h3
  have p3 := p2.grow ks
  obtain ⟨us2, hl2, hr2⟩ := p3.sr.own sw.at
  have hul := hr2.length
  refine setItem_plain hl2 j0 (by omega) (by simp; omega) fun h' hl' hs' => ⟨.next, ρ3, k3, (p1.trans p3).trans (Post0.mutate p3.sr sw hs' (by simpa using hl') (hr2.set r3) s3.toks), rfl⟩
noncomputable def freeF (C : List Int) : Nat → Int
  | 0 => 1
  | i + 1 => freeF C i * 2 - C.getD (i + 1) 0
noncomputable def manyC (C : List Int) : Nat → Int
  | 0 => 0
  | i + 1 => manyC C i + C.getD (i + 1) 0
noncomputable abbrev cSl (a dx : Addr) (fs : List (Str × Fld)) : Slot := .obj a dx 241 fs
noncomputable abbrev cF1 (C : List Int) : List (Str × Fld) := [(Str.ofString "counts", .val (.list (pints C)))]
noncomputable abbrev chR (a dx : Addr) (C : List Int) (f m e : Slot) : List Ent := [⟨Str.ofString "self", none, cSl a dx (cF1 C)⟩, ⟨Str.ofString "is_distance", none, .val (.bool false)⟩, ⟨Str.ofString "can_be_lone", none, .val (.bool true)⟩, ⟨Str.ofString "free", none, f⟩, ⟨Str.ofString "many", none, m⟩, ⟨Str.ofString "length", none, e⟩]
theorem gt_MOST (G : GG (KK w.params) g mg mb) : GV mg mb (Str.ofString "MOST_LENGTH") (.int 15 373) := G.top (by rfl)
theorem walk_check (G : GG (KK w.params) g mg mb) (a dx : Addr) (C : List Int) (hC : C.length = 16) (hf : ∀ i, i ≤ 15 → 0 ≤ freeF C i) (hend : freeF C 15 = 0 ∨ (manyC C 15 = 1 ∧ C.getD 1 0 = 1)) (cs : List (Str × Addr)) :
    WS prog w g n (fdAt w.params 224).scope (bodyAt w.params 224) (ents0 [(Str.ofString "self", cSl a dx (cF1 C)), (Str.ofString "is_distance", .val (.bool false)), (Str.ofString "can_be_lone", .val (.bool true))] cs (fdAt w.params 224).scope.names)
      fun fl ρ' => fl = .ret .none ∧ ∃ f m e, ρ' = chR a dx C f m e := by
  show WS prog w g n _ _ (chR a dx C .unb .unb .unb) _
  refine WS.gen fun K hK => ?_
  refine ws_cons (wx_tup (wol_cons (wo_e (we_int (wol_cons (wo_e (we_int (wol_nil ⟨by show 2 ≤ 3; decide, rfl, chR a dx C (.val (.int 1)) (.val (.int 0)) .unb, .cons (ρ₁ := chR a dx C (.val (.int 1)) .unb .unb) (by trivial) (.cons (ρ₁ := chR a dx C (.val (.int 1)) (.val (.int 0)) .unb) (by trivial) .nil), ?_⟩))))))) ?_)
  · refine ws_cons (wx_for (wi_range2 G.gf (by rfl) (gv_range G) (we_int (we_bin (we_gconst (d := .int 15) G.gf (by rfl) (gt_MOST G) ⟨_, rfl⟩ (we_int (po_add ⟨1, 16, rfl, rfl, by decide, by decide, by decide, by decide, fun i ρ => ∃ e, ρ = chR a dx C (.val (.int (freeF C i))) (.val (.int (manyC C i))) e, ⟨_, rfl⟩, ?_, ?_⟩)))))))
    · rintro i hi K hK hR ρ ⟨e, rfl⟩
      have hi' : i < 15 := hi
      have b3 := hf (i + 1) (by omega)
      have hCi : (pints C)[((i + 1 : Nat) : Int).toNat]? = some (.int (C.getD (i + 1) 0)) := by rw [Int.toNat_natCast]; exact pints_get (by omega)
      have e1 : (1 : Int) + (i : Int) * 1 = ((i + 1 : Nat) : Int) := by push_cast; omega
      refine ⟨.int ((i + 1 : Nat) : Int), chR a dx C (.val (.int (freeF C i))) (.val (.int (manyC C i))) (.val (.int ((i + 1 : Nat) : Int))), by rw [rangePV_get hi, e1], by trivial, ?_⟩
      refine ws_cons (wx_assign (we_bin (we_bin (we_name (by trivial) (we_int (po_mul (we_sub (we_attr G (fo_c_counts _) (by trivial) rfl ⟨rfl, we_name (by trivial) (pi_list (by omega) (by omega) hCi (po_sub ⟨chR a dx C (.val (.int (freeF C (i + 1)))) (.val (.int (manyC C i))) (.val (.int ((i + 1 : Nat) : Int))), by trivial, ?_⟩))⟩)) (IntMulOk.of_right (bits_small (by decide) (by decide)))))))))
      refine ws_cons (wx_aug (by trivial) (we_sub (we_attr G (fo_c_counts _) (by trivial) rfl ⟨rfl, we_name (by trivial) (pi_list (by omega) (by omega) hCi (po_iadd ⟨chR a dx C (.val (.int (freeF C (i + 1)))) (.val (.int (manyC C (i + 1)))) (.val (.int ((i + 1 : Nat) : Int))), by trivial, ?_⟩))⟩)))
      refine ws_cons (wx_if (wt_cmp (we_name (by trivial) (we_int (pc_lt ⟨_, rfl, ?_⟩)))))
      exact ifF (by simp; omega) (ws_nil (ws_nil (hK _ ⟨_, rfl⟩)))
    · rintro ρ ⟨e, rfl⟩
      refine ws_cons (wx_if (wt_cmp (we_name (by trivial) (we_int (pc_eq ⟨_, rfl, ?_⟩)))))
      by_cases h0 : freeF C 15 = 0
      · exact ifT (by show (freeF C 15 == 0) = true; simp [h0]) (ws_cons (wx_ret0 (hK _ _ ⟨rfl, _, _, _, rfl⟩)))
      · refine ifF (by show (freeF C 15 == 0) = false; simp [h0]) (ws_nil ?_)
        obtain ⟨m1, c1⟩ := hend.resolve_left h0
        refine ws_cons (wx_if (wt_bool (wtl_and_cons (wt_cmp (we_name (by trivial) (we_int (pc_eq ⟨_, rfl, ?_⟩)))))))
        refine ifF (by show (manyC C 15 == 0) = false; simp [m1]) (ifF rfl (ws_nil ?_))
        refine ws_cons (wx_if (wt_bool (wtl_and_cons (wt_cmp (we_name (by trivial) (we_int (pc_eq ⟨_, rfl, ?_⟩)))))))
        refine ifT (by show (manyC C 15 == 1) = true; simp [m1]) ?_
        refine wtl_and_cons (wt_cmp (we_sub (we_attr G (fo_c_counts _) (by trivial) rfl ⟨rfl, we_int (pi_list (d := .int (C.getD 1 0)) (by decide) (by decide) (pints_get (by omega)) (we_int (pc_eq ⟨_, rfl, ?_⟩)))⟩)))
        refine ifT (by show (C.getD 1 0 == 1) = true; rw [c1]; rfl) ?_
        refine wtl_and_cons (wt_val (we_name (by trivial) ⟨true, rfl, ?_⟩))
        exact ifT rfl (wtl_and_nil (ifT rfl (ws_cons (wx_ret0 (hK _ _ ⟨rfl, _, _, _, rfl⟩)))))
  · intro env he
    cases env
    dsimp only at he
    subst he
    rfl
end
section
variable {prog : Program} {w : World} {g : Heap} {n : Nat} {sc : Scope} {ρ ρ' : List Ent} {mg mb : Str → Option Value} {c : Bool}
noncomputable def begS (C : List Int) (m : List Int) (i : Nat) : List Int := m.set (i + 2) (m.getD (i + 1) 0 + C.getD (i + 1) 0)
noncomputable def begF (C : List Int) (i : Nat) : List Int := (List.range i).foldl (begS C) (List.replicate 17 0)
theorem begF_len (C : List Int) (i : Nat) : (begF C i).length = 17 := by
  unfold begF
  generalize List.range i = l
  have : ∀ (l : List Nat) (m : List Int), (l.foldl (begS C) m).length = m.length := by
    intro l
    induction l with
    | nil => intro m; rfl
    | cons x l ih => intro m; rw [List.foldl_cons, ih]; simp [begS]
  rw [this]; simp
theorem begF_succ (C : List Int) (i : Nat) : begF C (i + 1) = begS C (begF C i) i := by
  unfold begF; rw [List.range_succ, List.foldl_append]; rfl
noncomputable def sortS (q : List Int × List Int) (x : Nat × Int) : List Int × List Int := if 0 < x.2 then (q.1.set (q.2.getD x.2.toNat 0).toNat (x.1 : Int), q.2.set x.2.toNat (q.2.getD x.2.toNat 0 + 1)) else q
noncomputable def sortF (C ls : List Int) (i : Nat) : List Int × List Int := (((List.range ls.length).zip ls).take i).foldl sortS (List.replicate ((begF C 15).getD 16 0).toNat 0, begF C 15)
noncomputable def signsOf (C ls : List Int) : List Int := (sortF C ls ls.length).1
noncomputable abbrev ssR (a dx : Addr) (C ls : List Int) (b e f s : Slot) : List Ent := [⟨Str.ofString "self", none, cSl a dx (cF1 C)⟩, ⟨Str.ofString "lengths", none, .val (.list (pints ls))⟩, ⟨Str.ofString "begins", none, b⟩, ⟨Str.ofString "length", none, e⟩, ⟨Str.ofString "found", none, f⟩, ⟨Str.ofString "sign", none, s⟩]
theorem walk_sorted_signs (G : GG (KK w.params) g mg mb) (a dx : Addr) (C ls : List Int) (hC : C.length = 16) (hls : ls.length ≤ 100) (hr : ∀ l ∈ ls, 0 ≤ l ∧ l ≤ 15) (hb : 0 ≤ (begF C 15).getD 16 0 ∧ (begF C 15).getD 16 0 ≤ 1000)
    (hok : ∀ i, i < ls.length → 0 < ls.getD i 0 → 0 ≤ (sortF C ls i).2.getD (ls.getD i 0).toNat 0 ∧ (sortF C ls i).2.getD (ls.getD i 0).toNat 0 < (begF C 15).getD 16 0) (cs : List (Str × Addr)) :
    WS prog w g n (fdAt w.params 231).scope (bodyAt w.params 231) (ents0 [(Str.ofString "self", cSl a dx (cF1 C)), (Str.ofString "lengths", .val (.list (pints ls)))] cs (fdAt w.params 231).scope.names)
      fun fl ρ' => fl = .ret (.list (pints (signsOf C ls))) ∧ ∃ b e f s, ρ' = ssR a dx C ls b e f s := by
  show WS prog w g n _ _ (ssR a dx C ls .unb .unb .unb .unb) _
  have hll : (pints ls).length = ls.length := List.length_map ..
  refine WS.gen fun K hK => ?_
  refine ws_cons (wx_rep (we_int (we_bin (we_gconst (d := .int 15) G.gf (by rfl) (gt_MOST G) ⟨_, rfl⟩ (we_int (po_add ⟨17, rfl, by decide, by decide, fun b => ⟨ssR a dx C ls (.lst b (pints (begF C 0))) .unb .unb .unb, by trivial, ?_⟩⟩))))))
  refine ws_cons (wx_for (wi_range2 G.gf (by rfl) (gv_range G) (we_int (we_bin (we_gconst (d := .int 15) G.gf (by rfl) (gt_MOST G) ⟨_, rfl⟩ (we_int (po_add ⟨1, 16, rfl, rfl, by decide, by decide, by decide, by decide, fun i ρ => ∃ e, ρ = ssR a dx C ls (.lst b (pints (begF C i))) e .unb .unb, ⟨_, rfl⟩, ?_, ?_⟩)))))))
  · rintro i hi K hK hR ρ ⟨e, rfl⟩
    have hi' : i < 15 := hi
    have e1 : (1 : Int) + (i : Int) * 1 = ((i + 1 : Nat) : Int) := by push_cast; omega
    have hbl := begF_len C i
    refine ⟨.int ((i + 1 : Nat) : Int), ssR a dx C ls (.lst b (pints (begF C i))) (.val (.int ((i + 1 : Nat) : Int))) .unb .unb, by rw [rangePV_get hi, e1], by trivial, ?_⟩
    refine ws_cons (wx_set (we_bin (we_sub_own (by trivial) (we_name (by trivial) ⟨((i + 1 : Nat) : Int), pints (begF C i), .int ((begF C i).getD (i + 1) 0), rfl, by trivial, by omega, by omega, by rw [Int.toNat_natCast]; exact pints_get (by omega), we_sub (we_attr G (fo_c_counts _) (by trivial) rfl ⟨rfl, we_name (by trivial) (pi_list (d := .int (C.getD (i + 1) 0)) (by omega) (by omega) (by rw [Int.toNat_natCast]; exact pints_get (by omega)) (po_add ⟨b, pints (begF C i), by trivial, we_bin (we_name (by trivial) (we_int (po_add ⟨((i + 1 : Nat) : Int) + 1, pints (begF C i), ssR a dx C ls (.lst b (pints (begF C (i + 1)))) (.val (.int ((i + 1 : Nat) : Int))) .unb .unb, rfl, by omega, by simp; omega, by simp; omega, ?_, ?_⟩)))⟩))⟩)⟩))))
    · have e2 : (pints (begF C i)).set (((i + 1 : Nat) : Int) + 1).toNat (.int ((begF C i).getD (i + 1) 0 + C.getD (i + 1) 0)) = pints (begF C (i + 1)) := by
        rw [begF_succ, begS, ← pints_set]; congr 1
      rw [e2]; trivial
    exact ws_nil (hK _ ⟨_, rfl⟩)
  · rintro ρ ⟨e, rfl⟩
    show After _ _ _ (ssR a dx C ls (.lst b (pints (begF C 15))) e .unb .unb)
    have hbl := begF_len C 15
    refine ws_cons (wx_rep (we_int (we_sub_own (by trivial) (we_bin (we_gconst (d := .int 15) G.gf (by rfl) (gt_MOST G) ⟨_, rfl⟩ (we_int (po_add ⟨16, pints (begF C 15), .int ((begF C 15).getD 16 0), rfl, by trivial, by decide, by decide, pints_get (by omega), ⟨(begF C 15).getD 16 0, rfl, hb.1, by omega, fun f => ⟨ssR a dx C ls (.lst b (pints (begF C 15))) e (.lst f (pints (sortF C ls 0).1)) .unb, ?_, ?_⟩⟩⟩)))))))
    · have : List.replicate ((begF C 15).getD 16 0).toNat (PV.int 0) = pints (sortF C ls 0).1 := by simp [pints, sortF]
      rw [this]; trivial
    have flen : ∀ i, (sortF C ls i).1.length = ((begF C 15).getD 16 0).toNat ∧ (sortF C ls i).2.length = 17 := by
      intro i
      unfold sortF
      generalize ((List.range ls.length).zip ls).take i = l
      have : ∀ (l : List (Nat × Int)) (q : List Int × List Int), (l.foldl sortS q).1.length = q.1.length ∧ (l.foldl sortS q).2.length = q.2.length := by
        intro l
        induction l with
        | nil => intro q; exact ⟨rfl, rfl⟩
        | cons x l ih =>
          intro q
          rw [List.foldl_cons]
          have := ih (sortS q x)
          rw [this.1, this.2]
          unfold sortS
          split <;> simp
      have := this l (List.replicate ((begF C 15).getD 16 0).toNat 0, begF C 15)
      rw [this.1, this.2]
      exact ⟨by simp, hbl⟩
    refine ws_cons (wx_for (wi_enum G.gf (by rfl) (gv_enumerate G) (we_name (by trivial) ⟨pints ls, rfl, fun i ρ => ∃ e s, ρ = ssR a dx C ls (.lst b (pints (sortF C ls i).2)) e (.lst f (pints (sortF C ls i).1)) s, ⟨_, _, rfl⟩, ?_, ?_⟩)))
    · rintro i hi K hK hR ρ ⟨e, s, rfl⟩
      rw [hll] at hi
      obtain ⟨q, hq⟩ : ∃ q, ls[i]? = some q := ⟨_, List.getElem?_eq_getElem hi⟩
      have hqg : ls.getD i 0 = q := by rw [List.getD_eq_getElem?_getD, hq]; rfl
      obtain ⟨q1, q2⟩ := hr q (List.mem_of_getElem? hq)
      obtain ⟨fl1, fl2⟩ := flen i
      have hsucc : sortF C ls (i + 1) = sortS (sortF C ls i) (i, q) := by
        unfold sortF
        rw [take_next (q := (i, q)) (by rw [List.getElem?_zip_eq_some]; exact ⟨by simp [hi], hq⟩), List.foldl_append]
        rfl
      refine ⟨.int i, .int q, ssR a dx C ls (.lst b (pints (sortF C ls i).2)) e (.lst f (pints (sortF C ls i).1)) (.val (.int i)), ssR a dx C ls (.lst b (pints (sortF C ls i).2)) (.val (.int q)) (.lst f (pints (sortF C ls i).1)) (.val (.int i)), by simp [pints, hq], by trivial, by trivial, ?_⟩
      refine ws_cons (wx_if (wt_cmp (we_name (by trivial) (we_int (pc_gt ⟨_, rfl, ?_⟩)))))
      by_cases h0 : 0 < q
      · refine ifT (by simpa using h0) ?_
        have hk := hok i hi (by rw [hqg]; exact h0)
        rw [hqg] at hk
        have hgt : (pints (sortF C ls i).2)[q.toNat]? = some (.int ((sortF C ls i).2.getD q.toNat 0)) := pints_get (by omega)
        refine ws_cons (wx_set (we_name (by trivial) ⟨f, pints (sortF C ls i).1, by trivial, we_sub_own (by trivial) (we_name (by trivial) ⟨q, pints (sortF C ls i).2, .int ((sortF C ls i).2.getD q.toNat 0), rfl, by trivial, q1, by omega, hgt, ⟨_, pints (sortF C ls i).1, ssR a dx C ls (.lst b (pints (sortF C ls i).2)) (.val (.int q)) (.lst f (pints (sortF C ls (i + 1)).1)) (.val (.int i)), rfl, hk.1, by rw [show (pints (sortF C ls i).1).length = (sortF C ls i).1.length by simp]; omega, by simp; omega, ?_, ?_⟩⟩)⟩))
        · have e2 : (pints (sortF C ls i).1).set ((sortF C ls i).2.getD q.toNat 0).toNat (.int i) = pints (sortF C ls (i + 1)).1 := by
            rw [hsucc, sortS, if_pos h0, ← pints_set]
          rw [e2]; trivial
        refine ws_cons (wx_laug (by trivial) (we_name (by trivial) ⟨q, pints (sortF C ls i).2, .int ((sortF C ls i).2.getD q.toNat 0), rfl, by trivial, q1, by omega, hgt, we_int (po_iadd ⟨pints (sortF C ls i).2, ssR a dx C ls (.lst b (pints (sortF C ls (i + 1)).2)) (.val (.int q)) (.lst f (pints (sortF C ls (i + 1)).1)) (.val (.int i)), by simp; omega, by simp; omega, ?_, ?_⟩)⟩))
        · have e2 : (pints (sortF C ls i).2).set q.toNat (.int ((sortF C ls i).2.getD q.toNat 0 + 1)) = pints (sortF C ls (i + 1)).2 := by
            rw [hsucc, sortS, if_pos h0, ← pints_set]
          rw [e2]; trivial
        exact ws_nil (ws_nil (hK _ ⟨_, _, rfl⟩))
      · refine ifF (by simpa using h0) (ws_nil (ws_nil (hK _ ⟨.val (.int q), .val (.int i), ?_⟩)))
        rw [hsucc, sortS, if_neg h0]
    · rintro ρ ⟨e, s, rfl⟩
      rw [hll]
      exact ws_cons (wx_ret (we_frz (ρ' := ssR a dx C ls (.lst b (pints (sortF C ls ls.length).2)) e (.val (.list (pints (signsOf C ls)))) s) (by trivial) (hK _ _ ⟨rfl, _, _, _, _, rfl⟩)))
end
section
variable {prog : Program} {w : World} {g : Heap} {n : Nat} {sc : Scope} {ρ ρ' : List Ent} {mg mb : Str → Option Value} {c : Bool}
noncomputable def cntS (m : List Int) (l : Int) : List Int := m.set l.toNat (m.getD l.toNat 0 + 1)
noncomputable def cntF (ls : List Int) : List Int := ls.foldl cntS (List.replicate 16 0)
theorem cntF_len (ls : List Int) : (cntF ls).length = 16 := by
  unfold cntF
  have : ∀ (l : List Int) (m : List Int), (l.foldl cntS m).length = m.length := by
    intro l
    induction l with
    | nil => intro m; rfl
    | cons x l ih => intro m; rw [List.foldl_cons, ih]; simp [cntS]
  rw [this]; simp
noncomputable def countsF (ls : List Int) : List Int := (cntF ls).set 0 0
noncomputable abbrev cF0 (l : Addr) (xs : List PV) : List (Str × Fld) := [(Str.ofString "counts", .lst l xs)]
noncomputable abbrev cF2 (C S : List Int) : List (Str × Fld) := [(Str.ofString "counts", .val (.list (pints C))), (Str.ofString "signs", .val (.list (pints S)))]
structure CodesOk (ls : List Int) : Prop where
  len : ls.length ≤ 100
  rng : ∀ l ∈ ls, 0 ≤ l ∧ l ≤ 15
  free : ∀ i, i ≤ 15 → 0 ≤ freeF (countsF ls) i
  fin : freeF (countsF ls) 15 = 0 ∨ (manyC (countsF ls) 15 = 1 ∧ (countsF ls).getD 1 0 = 1)
  beg : 0 ≤ (begF (countsF ls) 15).getD 16 0 ∧ (begF (countsF ls) 15).getD 16 0 ≤ 1000
  put : ∀ i, i < ls.length → 0 < ls.getD i 0 → 0 ≤ (sortF (countsF ls) ls i).2.getD (ls.getD i 0).toNat 0 ∧ (sortF (countsF ls) ls i).2.getD (ls.getD i 0).toNat 0 < (begF (countsF ls) 15).getD 16 0
theorem bd217 (P : Params) (v u : Value) {s : Shared} (X : (KK P).In s.heap) : BindsTo s (fdAt P 217) ⟨[v, u], []⟩ [(Str.ofString "self", v), (Str.ofString "lengths", u), (Str.ofString "is_distance", .bool false), (Str.ofString "can_be_lone", .bool true)] := by
  have e : fdAt P 217 = fdAt P 217 := rfl
  conv at e => rhs; unfold fdAt; whnf
  rw [e]
  exact BindsTo.of_defaults (T := 210) rfl (X 210 _ (by rfl)) rfl rfl rfl
noncomputable abbrev ciR (a dx : Addr) (fs : List (Str × Fld)) (ls : List Int) (e : Slot) : List Ent := [⟨Str.ofString "self", none, cSl a dx fs⟩, ⟨Str.ofString "lengths", none, .val (.list (pints ls))⟩, ⟨Str.ofString "is_distance", none, .val (.bool false)⟩, ⟨Str.ofString "can_be_lone", none, .val (.bool true)⟩, ⟨Str.ofString "length", none, e⟩]
theorem walk_codes_init (G : GG (KK w.params) g mg mb) (a dx : Addr) (ls : List Int) (O : CodesOk ls) (cs : List (Str × Addr)) :
    WS prog w g (n + 1) (fdAt w.params 217).scope (bodyAt w.params 217) (ents0 [(Str.ofString "self", cSl a dx []), (Str.ofString "lengths", .val (.list (pints ls))), (Str.ofString "is_distance", .val (.bool false)), (Str.ofString "can_be_lone", .val (.bool true))] cs (fdAt w.params 217).scope.names)
      fun fl ρ' => fl = .next ∧ ∃ e, ρ' = ciR a dx (cF2 (countsF ls) (signsOf (countsF ls) ls)) ls e := by
  obtain ⟨O1, O2, O3, O4, O5, O6⟩ := O
  show WS prog w g (n + 1) _ _ (ciR a dx [] ls .unb) _
  have hll : (pints ls).length = ls.length := List.length_map ..
  refine WS.gen fun K hK => ?_
  refine ws_cons (wx_frep (a := a) (dx := dx) (fs := []) G (fo_c_counts _) rfl (by show 0 ≤ 900; decide) (we_int (we_bin (we_gconst (d := .int 15) G.gf (by rfl) (gt_MOST G) ⟨_, rfl⟩ (we_int (po_add ⟨16, rfl, by decide, by decide, fun l => ⟨ciR a dx [(Str.ofString "counts", .lst l (pints (List.replicate 16 0)))] ls .unb, by trivial, ?_⟩⟩))))))
  refine ws_cons (wx_for (wi_list (we_name (by trivial) ⟨pints ls, rfl, fun i ρ => ∃ e, ρ = ciR a dx [(Str.ofString "counts", .lst l (pints (cntF (ls.take i))))] ls e, ⟨_, rfl⟩, ?_, ?_⟩)))
  · rintro i hi K hK hR ρ ⟨e, rfl⟩
    rw [hll] at hi
    obtain ⟨q, hq⟩ : ∃ q, ls[i]? = some q := ⟨_, List.getElem?_eq_getElem hi⟩
    obtain ⟨q1, q2⟩ := O2 q (List.mem_of_getElem? hq)
    have hcl := cntF_len (ls.take i)
    have hsucc : cntF (ls.take (i + 1)) = cntS (cntF (ls.take i)) q := by unfold cntF; rw [take_next hq, List.foldl_append]; rfl
    refine ⟨.int q, ciR a dx [(Str.ofString "counts", .lst l (pints (cntF (ls.take i))))] ls (.val (.int q)), by simp [hq], by trivial, ?_⟩
    refine ws_cons (wx_if (wt_bool (wtl_or_cons (wt_cmp (we_name (by trivial) (we_int (pc_lt ⟨_, rfl, ?_⟩)))))))
    refine ifF (by simp; omega) (wtl_or_cons (wt_cmp (we_name (by trivial) (we_gconst (d := .int 15) G.gf (by rfl) (gt_MOST G) ⟨_, rfl⟩ (pc_gt ⟨_, rfl, ?_⟩)))))
    refine ifF (by simp; omega) (wtl_or_nil (ifF rfl (ws_nil ?_)))
    refine ws_cons (wx_faug G (fo_c_counts _) (by trivial) rfl (we_name (by trivial) ⟨q, cF0 l (pints (cntF (ls.take i))), pints (cntF (ls.take i)), .int ((cntF (ls.take i)).getD q.toNat 0), rfl, by trivial, rfl, q1, by omega, pints_get (by omega), we_int (po_iadd ⟨cF0 l (pints (cntF (ls.take i))), pints (cntF (ls.take i)), cF0 l ((pints (cntF (ls.take i))).set q.toNat (.int ((cntF (ls.take i)).getD q.toNat 0 + 1))), ciR a dx [(Str.ofString "counts", .lst l (pints (cntF (ls.take (i + 1)))))] ls (.val (.int q)), by simp; omega, by simp; omega, ?_, .here, ?_⟩)⟩))
    · have e2 : (pints (cntF (ls.take i))).set q.toNat (.int ((cntF (ls.take i)).getD q.toNat 0 + 1)) = pints (cntF (ls.take (i + 1))) := by rw [hsucc, cntS, ← pints_set]
      rw [e2]; trivial
    exact ws_nil (hK _ ⟨_, rfl⟩)
  rintro ρ ⟨e, rfl⟩
  rw [hll, List.take_length]
  have hcl := cntF_len ls
  refine ws_cons (wx_fset G (we_int ⟨a, dx, 241, cF0 l (pints (cntF ls)), l, pints (cntF ls), fo_c_counts _, by trivial, rfl, we_int ⟨0, cF0 l (pints (cntF ls)), pints (cntF ls), cF0 l ((pints (cntF ls)).set ((0 : Int)).toNat (.int 0)), ciR a dx [(Str.ofString "counts", .lst l (pints (countsF ls)))] ls e, rfl, by decide, by simp; omega, by simp; omega, ?_, .here, ?_⟩⟩))
  · have e2 : (pints (cntF ls)).set ((0 : Int)).toNat (.int 0) = pints (countsF ls) := by unfold countsF; rw [← pints_set]; rfl
    rw [e2]; trivial
  have hC : (countsF ls).length = 16 := by unfold countsF; rw [List.length_set, hcl]
  refine ws_frzf (x := Str.ofString "self") (f := Str.ofString "counts") (a := a) (dx := dx) (C := 241) (l := l) (fs := [(Str.ofString "counts", .lst l (pints (countsF ls)))]) (fs' := cF1 (countsF ls)) (ρ' := ciR a dx (cF1 (countsF ls)) ls e) (by trivial) .here ?_
  refine ws_cons (wx_expr (we_meth G (fn224 _) (me_check _) (by trivial) (by rfl) (xs := [Str.ofString "self", Str.ofString "is_distance", Str.ofString "can_be_lone"]) (wal_e (we_name (by trivial) (wal_e (we_name (by trivial) (wal_nil (con_self (c := false) (ds := [_, _]) (old := cSl a dx (cF1 (countsF ls))) rfl rfl rfl (by trivial) (by rfl) fun cs => wsm_of ((walk_check G a dx (countsF ls) hC O3 O4 cs).mono fun fl ρ1 k1 => ?_)))))))  (bind3 (b224 w.params))))
  obtain ⟨rfl, f, m, e', rfl⟩ := k1
  refine ⟨cSl a dx (cF1 (countsF ls)), ciR a dx (cF1 (countsF ls)) ls e, rfl, rfl, ⟨_, _, .head _⟩, by trivial, ?_⟩
  refine ws_cons (wx_setattr (a := a) (dx := dx) (fs := cF1 (countsF ls)) (hz := by show 1 ≤ 900; decide) G (fo_c_signs _) (we_meth G (fn231 _) (me_sorted_signs _) (by trivial) (by rfl) (xs := [Str.ofString "self", Str.ofString "lengths"]) (wal_e (we_name (by trivial) (wal_nil (con_self (c := false) (ds := [_]) (old := cSl a dx (cF1 (countsF ls))) rfl rfl rfl (by trivial) (by rfl) fun cs => wsm_of ((walk_sorted_signs G a dx (countsF ls) ls hC O1 O2 O5 O6 cs).mono fun fl ρ1 k1 => ?_))))) (bind2 (b231 w.params))))
  obtain ⟨rfl, b, e1, f, s, rfl⟩ := k1
  refine ⟨cSl a dx (cF1 (countsF ls)), ciR a dx (cF1 (countsF ls)) ls e, rfl, rfl, ⟨_, _, .head _⟩, by trivial, ?_⟩
  exact ⟨ciR a dx (cF2 (countsF ls) (signsOf (countsF ls) ls)) ls e, by trivial, ws_nil (hK _ _ ⟨rfl, _, rfl⟩)⟩
theorem new_codes (G : GG (KK w.params) g mg mb) {e : Expr} {p pos : Pos} {Kk : Slot → List Ent → Prop} (hx : sc.names.lookup (Str.ofString "Codes") = some .globalImplicit)
    (h : WE prog w g (n + 3) sc e ρ fun d ρ₁ => OfInts d fun ls => CodesOk ls ∧ ∀ a dx, Kk (cSl a dx (cF2 (countsF ls) (signsOf (countsF ls) ls))) ρ₁) (hp : plainE e = true := by rfl) :
    WO prog w g (n + 3) sc (.Call (.Name (Str.ofString "Codes") p) [e] [] pos) ρ Kk := by
  have hp2 : [e].all plainE = true := by rw [List.all_cons, hp]; rfl
  refine wo_newM (c := false) G (fn217 _) (co_codes _) (gt_Codes G) (xs := [Str.ofString "self", Str.ofString "lengths", Str.ofString "is_distance", Str.ofString "can_be_lone"]) (dd := [.bool false, .bool true]) (wel1 (h.mono fun d ρ1 k => ?_) hp) [.bool false, .bool true] (fun h T => ⟨_, _, rfl, rfl, _, _, rfl, rfl, rfl⟩) ?_ hx (hp := hp2)
  · obtain ⟨ls, rfl, O, k⟩ := k
    refine ⟨rfl, fun a dx => ⟨by rfl, fun cs => wsm_of ((walk_codes_init G a dx ls O cs).mono fun fl ρ2 k2 => ?_)⟩⟩
    obtain ⟨rfl, e', rfl⟩ := k2
    exact ⟨_, _, _, .head _, k a dx, rfl⟩
  · intro v vs hl s hs
    cases vs with
    | nil => simp at hl
    | cons u r =>
      cases r with
      | nil => exact bd217 w.params v u (G.kin.keeps hs)
      | cons _ _ => simp at hl
end
section
variable {prog : Program} {w : World} {g : Heap} {n : Nat} {sc : Scope} {ρ ρ' : List Ent} {mg mb : Str → Option Value} {c : Bool}
noncomputable def okR (b : Array UInt8) (r : RS) : Prop := r.at_ ≤ b.size ∧ (1 ≤ r.many ∨ r.at_ < b.size) ∧ r.left < 2 ^ r.many ∧ r.many ≤ 8
inductive RdBits (b : Array UInt8) : RS → List Nat → RS → Prop where
  | nil {r : RS} : RdBits b r [] r
  | cons {r r' : RS} {xs : List Nat} : okR b r → RdBits b (nextR b r) xs r' → RdBits b r (bitR b r :: xs) r'
noncomputable def decD (C S : List Int) : Nat → Int → Int → Int → List Nat → Option (Int × List Nat)
  | _, _, _, _, [] => none
  | i, code, first, ahead, x :: xs =>
    if 16 ≤ i then none
    else if code * 2 + (x : Int) < first + C.getD i 0 then
      (if 0 ≤ ahead + (code * 2 + (x : Int)) - first ∧ ahead + (code * 2 + (x : Int)) - first < S.length then some (S.getD (ahead + (code * 2 + (x : Int)) - first).toNat 0, xs) else none)
    else decD C S (i + 1) (code * 2 + (x : Int)) ((first + C.getD i 0) * 2) (ahead + C.getD i 0) xs
noncomputable abbrev nxR (a dx : Addr) (C S : List Int) (ra rx : Addr) (b : Array UInt8) (r : RS) (co fi ah le ma : Slot) : List Ent := [⟨Str.ofString "self", none, cSl a dx (cF2 C S)⟩, ⟨Str.ofString "reader", none, rSl ra rx b r⟩, ⟨Str.ofString "code", none, co⟩, ⟨Str.ofString "first", none, fi⟩, ⟨Str.ofString "ahead", none, ah⟩, ⟨Str.ofString "length", none, le⟩, ⟨Str.ofString "many", none, ma⟩]
theorem walk_next_sign (G : GG (KK w.params) g mg mb) (a dx ra rx : Addr) (C S : List Int) (b : Array UInt8) (r r' : RS) (p : List Nat) (s : Int) (hC : C.length = 16) (hS : S.length ≤ 1000) (hb : b.size ≤ 1000) (hp : RdBits b r p r') (hd : decD C S 1 0 0 0 p = some (s, [])) (cs : List (Str × Addr)) :
    WS prog w g (n + 1) (fdAt w.params 238).scope (bodyAt w.params 238) (ents0 [(Str.ofString "self", cSl a dx (cF2 C S)), (Str.ofString "reader", rSl ra rx b r)] cs (fdAt w.params 238).scope.names)
      fun fl ρ' => fl = .ret (.int s) ∧ ∃ co fi ah le ma, ρ' = nxR a dx C S ra rx b r' co fi ah le ma := by
  show WS prog w g (n + 1) _ _ (nxR a dx C S ra rx b r .unb .unb .unb .unb .unb) _
  refine WS.gen fun K0 hK0 => ?_
  refine ws_cons (wx_tup (wol_cons (wo_e (we_int (wol_cons (wo_e (we_int (wol_cons (wo_e (we_int (wol_nil ⟨by show 3 ≤ 3; decide, rfl, nxR a dx C S ra rx b r (.val (.int 0)) (.val (.int 0)) (.val (.int 0)) .unb .unb, .cons (ρ₁ := nxR a dx C S ra rx b r (.val (.int 0)) .unb .unb .unb .unb) (by trivial) (.cons (ρ₁ := nxR a dx C S ra rx b r (.val (.int 0)) (.val (.int 0)) .unb .unb .unb) (by trivial) (.cons (ρ₁ := nxR a dx C S ra rx b r (.val (.int 0)) (.val (.int 0)) (.val (.int 0)) .unb .unb) (by trivial) .nil)), ?_⟩)))))))))) ?_)
  · refine ws_cons (wx_for (wi_range2 G.gf (by rfl) (gv_range G) (we_int (we_bin (we_gconst (d := .int 15) G.gf (by rfl) (gt_MOST G) ⟨_, rfl⟩ (we_int (po_add ⟨1, 16, rfl, rfl, by decide, by decide, by decide, by decide, fun i ρ => ∃ code first ahead q r1 le ma, RdBits b r1 q r' ∧ decD C S (i + 1) code first ahead q = some (s, []) ∧ ρ = nxR a dx C S ra rx b r1 (.val (.int code)) (.val (.int first)) (.val (.int ahead)) le ma, ⟨0, 0, 0, p, r, _, _, hp, hd, rfl⟩, ?_, ?_⟩)))))))
    · rintro i hi K hK hR ρ ⟨code, first, ahead, q, r1, le, ma, hq, hdd, rfl⟩
      have hi' : i < 15 := hi
      have e1 : (1 : Int) + (i : Int) * 1 = ((i + 1 : Nat) : Int) := by push_cast; omega
      refine ⟨.int ((i + 1 : Nat) : Int), nxR a dx C S ra rx b r1 (.val (.int code)) (.val (.int first)) (.val (.int ahead)) (.val (.int ((i + 1 : Nat) : Int))) ma, by rw [rangePV_get hi, e1], by trivial, ?_⟩
      cases hq with
      | nil => cases hdd
      | @cons _ _ xs hok hq =>
      obtain ⟨k1, k2, k3, k4⟩ := hok
      replace hdd : (if 16 ≤ i + 1 then none else _) = some (s, []) := hdd
      rw [if_neg (by omega)] at hdd
      refine ws_cons (wx_assign (we_bin (we_bin (we_name (by trivial) (we_int (po_mul (we_meth G (fn181 _) (me_bits _) (by trivial) (by rfl) (xs := [Str.ofString "self", Str.ofString "many"]) (wal_e (we_int (wal_nil (con_self (c := false) (ds := [_]) (old := rSl ra rx b r1) rfl rfl rfl (by trivial) (by rfl) fun cs => wsm_of ((walk_bits G ra rx b r1 hb k1 k2 k3 k4 cs).mono fun fl ρ1 k1 => ?_))))) (bind2 (b181 w.params))) (IntMulOk.of_right (bits_small (by decide) (by decide)))))))))
      obtain ⟨rfl, f, rfl⟩ := k1
      refine ⟨rSl ra rx b (nextR b r1), nxR a dx C S ra rx b (nextR b r1) (.val (.int code)) (.val (.int first)) (.val (.int ahead)) (.val (.int ((i + 1 : Nat) : Int))) ma, rfl, rfl, ⟨_, _, .head _⟩, by trivial, ?_⟩
      refine po_add ⟨nxR a dx C S ra rx b (nextR b r1) (.val (.int (code * 2 + (bitR b r1 : Nat)))) (.val (.int first)) (.val (.int ahead)) (.val (.int ((i + 1 : Nat) : Int))) ma, by trivial, ?_⟩
      refine ws_cons (wx_assign (we_sub (we_attr G (fo_c_counts _) (by trivial) rfl ⟨rfl, we_name (by trivial) (pi_list (d := .int (C.getD (i + 1) 0)) (by omega) (by omega) (by rw [Int.toNat_natCast]; exact pints_get (by omega)) ⟨nxR a dx C S ra rx b (nextR b r1) (.val (.int (code * 2 + (bitR b r1 : Nat)))) (.val (.int first)) (.val (.int ahead)) (.val (.int ((i + 1 : Nat) : Int))) (.val (.int (C.getD (i + 1) 0))), by trivial, ?_⟩)⟩)))
      refine ws_cons (wx_if (wt_cmp (we_name (by trivial) (we_bin (we_name (by trivial) (we_name (by trivial) (po_add (pc_lt ⟨_, rfl, ?_⟩))))))))
      by_cases hlt : code * 2 + ((bitR b r1 : Nat) : Int) < first + C.getD (i + 1) 0
      · refine ifT (by simpa using hlt) ?_
        rw [if_pos hlt] at hdd
        split at hdd
        · rename_i hix
          have h1 := Option.some.inj hdd
          have h2 := Prod.mk.inj h1
          obtain ⟨h2, rfl⟩ := h2
          cases hq
          refine ws_cons (wx_ret (we_sub (we_attr G (fo_c_signs _) (by trivial) rfl ⟨rfl, we_bin (we_bin (we_name (by trivial) (we_name (by trivial) (po_add (we_name (by trivial) (po_sub (pi_list (d := .int s) hix.1 (by omega) (by rw [← h2]; exact pints_get (by omega)) (hR _ _ (hK0 _ _ ⟨rfl, _, _, _, _, _, rfl⟩)))))))))⟩)))
        · cases hdd
      · refine ifF (by simpa using hlt) (ws_nil ?_)
        rw [if_neg hlt] at hdd
        refine ws_cons (wx_aug (by trivial) (we_name (by trivial) (po_iadd ⟨nxR a dx C S ra rx b (nextR b r1) (.val (.int (code * 2 + (bitR b r1 : Nat)))) (.val (.int first)) (.val (.int (ahead + C.getD (i + 1) 0))) (.val (.int ((i + 1 : Nat) : Int))) (.val (.int (C.getD (i + 1) 0))), by trivial, ?_⟩)))
        refine ws_cons (wx_assign (we_bin (we_bin (we_name (by trivial) (we_name (by trivial) (po_add (we_int (po_mul ⟨nxR a dx C S ra rx b (nextR b r1) (.val (.int (code * 2 + (bitR b r1 : Nat)))) (.val (.int ((first + C.getD (i + 1) 0) * 2))) (.val (.int (ahead + C.getD (i + 1) 0))) (.val (.int ((i + 1 : Nat) : Int))) (.val (.int (C.getD (i + 1) 0))), by trivial, ?_⟩ (IntMulOk.of_right (bits_small (by decide) (by decide)))))))))))
        exact ws_nil (hK _ ⟨_, _, _, xs, nextR b r1, _, _, hq, hdd, rfl⟩)
    · rintro ρ ⟨code, first, ahead, q, r1, le, ma, hq, hdd, rfl⟩
      exfalso
      have h16 : ∀ q : List Nat, decD C S ((16 - 1 : Int).toNat + 1) code first ahead q = none := by
        intro q
        cases q with
        | nil => rfl
        | cons x xs => exact (if_pos (by decide) : (if 16 ≤ 16 then none else _) = none)
      rw [h16] at hdd
      cases hdd
  · intro env he
    cases env
    dsimp only at he
    subst he
    rfl
end
section
variable {prog : Program} {w : World} {g : Heap} {n : Nat} {sc : Scope} {ρ ρ' : List Ent} {mg mb : Str → Option Value} {c : Bool}
theorem bd166 (P : Params) (v u : Value) {s : Shared} (X : (KK P).In s.heap) : BindsTo s (fdAt P 166) ⟨[v, u], []⟩ [(Str.ofString "self", v), (Str.ofString "octets", u), (Str.ofString "at", .int 0 387)] := by
  have e : fdAt P 166 = fdAt P 166 := rfl
  conv at e => rhs; unfold fdAt; whnf
  rw [e]
  exact BindsTo.of_defaults (T := 159) rfl (X 159 _ (by rfl)) rfl rfl rfl
theorem new_reader (G : GG (KK w.params) g mg mb) {e : Expr} {p pos : Pos} {Kk : Slot → List Ent → Prop} (hx : sc.names.lookup (Str.ofString "BitReader") = some .globalImplicit)
    (h : WE prog w g (n + 2) sc e ρ fun d ρ₁ => ∃ b, d = .bytes b ∧ ∀ a dx, Kk (rSl a dx b ⟨0, 0, 0⟩) ρ₁) (hp : plainE e = true := by rfl) :
    WO prog w g (n + 2) sc (.Call (.Name (Str.ofString "BitReader") p) [e] [] pos) ρ Kk := by
  have hp2 : [e].all plainE = true := by rw [List.all_cons, hp]; rfl
  refine wo_newM (c := false) G (fn166 _) (co_reader _) (gt_BitReader G) (xs := [Str.ofString "self", Str.ofString "octets", Str.ofString "at"]) (dd := [.int 0]) (wel1 (h.mono fun d ρ1 k => ?_) hp) [.int 0 387] (fun h T => ⟨_, _, rfl, ⟨_, rfl⟩, rfl⟩) ?_ hx (hp := hp2)
  · obtain ⟨b, rfl, k⟩ := k
    refine ⟨rfl, fun a dx => ⟨by rfl, fun cs => wsm_of ?_⟩⟩
    show WS prog w g n _ _ [⟨Str.ofString "self", none, .obj a dx 198 []⟩, ⟨Str.ofString "octets", none, .val (.bytes b)⟩, ⟨Str.ofString "at", none, .val (.int 0)⟩] _
    refine ws_cons (wx_setattr (a := a) (dx := dx) (fs := []) (hz := by show 0 ≤ 900; decide) G (fo_r_octets _) (we_name (by trivial) ⟨[⟨Str.ofString "self", none, .obj a dx 198 [(Str.ofString "octets", .val (.bytes b))]⟩, ⟨Str.ofString "octets", none, .val (.bytes b)⟩, ⟨Str.ofString "at", none, .val (.int 0)⟩], by trivial, ?_⟩))
    refine ws_cons (wx_setattr (a := a) (dx := dx) (fs := [(Str.ofString "octets", .val (.bytes b))]) (hz := by show 1 ≤ 900; decide) G (fo_r_at _) (we_name (by trivial) ⟨[⟨Str.ofString "self", none, .obj a dx 198 [(Str.ofString "octets", .val (.bytes b)), (Str.ofString "at", .val (.int 0))]⟩, ⟨Str.ofString "octets", none, .val (.bytes b)⟩, ⟨Str.ofString "at", none, .val (.int 0)⟩], by trivial, ?_⟩))
    refine ws_cons (wx_setattr (a := a) (dx := dx) (fs := [(Str.ofString "octets", .val (.bytes b)), (Str.ofString "at", .val (.int 0))]) (hz := by show 2 ≤ 900; decide) G (fo_r_left _) (we_int ⟨[⟨Str.ofString "self", none, .obj a dx 198 [(Str.ofString "octets", .val (.bytes b)), (Str.ofString "at", .val (.int 0)), (Str.ofString "left", .val (.int 0))]⟩, ⟨Str.ofString "octets", none, .val (.bytes b)⟩, ⟨Str.ofString "at", none, .val (.int 0)⟩], by trivial, ?_⟩))
    refine ws_cons (wx_setattr (a := a) (dx := dx) (fs := [(Str.ofString "octets", .val (.bytes b)), (Str.ofString "at", .val (.int 0)), (Str.ofString "left", .val (.int 0))]) (hz := by show 3 ≤ 900; decide) G (fo_r_many _) (we_int ⟨[⟨Str.ofString "self", none, rSl a dx b ⟨0, 0, 0⟩⟩, ⟨Str.ofString "octets", none, .val (.bytes b)⟩, ⟨Str.ofString "at", none, .val (.int 0)⟩], by trivial, ?_⟩))
    exact ws_nil ⟨_, _, _, .head _, k a dx, rfl⟩
  · intro v vs hl s hs
    cases vs with
    | nil => simp at hl
    | cons u r =>
      cases r with
      | nil => exact bd166 w.params v u (G.kin.keeps hs)
      | cons _ _ => simp at hl
end
section
noncomputable abbrev bbBm : List Value := [.type "Exception", .type "BaseException", .type "object"]
noncomputable abbrev bbTl : List Value := .ref 39 :: bbBm
noncomputable abbrev bbObj : Obj := excClassObj (Str.ofString "BadBits") (Str.ofString "BadBits") 52 51 [.ref 39] bbTl true [] [] false none none (some (.ref 43)) none (some (.str (Str.ofString "BadBits") 226)) (some (.str (Str.ofString "BadBits") 234)) (some (.bool true)) "Exception.__new__"
theorem bb_get (P : Params) : (KK P).lookup 52 = some bbObj := by rfl
theorem lk_init (P : Params) : findIn (KK P) (.ref 52) "__init__" = some (some (.ref 36)) := by rfl
theorem ty_init (P : Params) : typeIn (KK P) (.ref 36) = some (.type "function") := by rfl
theorem lk_setattr (P : Params) : findIn (KK P) (.ref 52) "__setattr__" = some (some (.builtin "object.__setattr__")) := by rfl
theorem lk_told (P : Params) : findIn (KK P) (.ref 52) "told" = some none := by rfl
theorem fn36 (P : Params) : FnOk (KK P) 36 (fdAt P 36) (bodyAt P 36) := ⟨⟨_, _, _, rfl⟩, rfl, rfl, rfl, rfl, rfl, rfl, rfl, rfl, rfl⟩
noncomputable abbrev excNew (t : Addr) : Obj := { cls := .ref 52, data := .fields #[.ref t, .none, .none, .none, .bool false, .none] }
section
variable {prog : Program} {w : World} {A : Around} {E : Value → Shared → Prop} {h : Heap} {g : Array GenState} {d : Drawn} {t : Nat} {os : OsState} {R : Result → Shared → Prop}
theorem bb_check_new {M : Model} {rest : List Value} {Q : Unit → Shared → Prop} (hC : h.get? 52 = some bbObj)
    (hq : Q () ⟨h, g, d, t, os⟩) : wpAny M A (checkBuiltinCall "Exception.__new__" ⟨.ref 52 :: rest, []⟩) Q E ⟨h, g, d, t, os⟩ := by
  have F := PySem.F.excBase_Exception
  have hcont : ((Value.ref 52 :: bbTl).contains (.type "Exception")) = true := by decide
  have hstar := F.noStar
  simp only [checkBuiltinCall, F.newKind, F.newSplit, F.newRow]
  repeat (first | refine wpAny_loadPart_at hC ?_ | (refine wpAny_isSubtype_exc hC ?_; rw [hcont]) | refine wpAny_staticBase_exc hC ?_ | refine wpAny_madeBy_exc hC ?_ | simp only [bne_self_eq_false, Bool.false_eq_true, if_false] | wp_step)
  exact hq
theorem bb_new {rest : List Value} (hC : h.get? 52 = some bbObj)
    (hq : R (.ok (.ret (.ref (h.objs.size + 1)))) ⟨(h.push { cls := .type "tuple", data := .seq rest.toArray }).push (excNew h.objs.size), g, d, t, os⟩) (hrest : rest.length ≤ sizeLine) :
    codeAny (model prog w) A (.builtin "Exception.__new__" ⟨.ref 52 :: rest, []⟩) R ⟨h, g, d, t, os⟩ := by
  have F := PySem.F.excBase_Exception
  have hends := F.ends
  have hcB : (Value.ref 52 :: bbTl).contains (.type "Exception") = true := by decide
  have hcA : (Value.ref 52 :: bbTl).contains (.type "AttributeError") = false := by decide
  have hcN : (Value.ref 52 :: bbTl).contains (.type "NameError") = false := by decide
  refine codeAny_builtinAt F.entry ?_
  unfold Builtin.«BaseException.__new__»
  refine PySem.wpAt_bind ?_
  show PySem.wpAt _ _ _ (stack >>= _) _ _ _
  refine PySem.wpAt_bind (PySem.wpAt_stack fun p below => PySem.wpAt_of_wpAny ?_)
  wp_walk
  refine PySem.wpAt_of_wpAny ?_
  rw [F.owner]
  repeat (first | with_reducible refine wpAny_madeHere_exc F.canon hC ?_ | with_reducible refine wpAny_loadPart_at hC ?_ | (with_reducible refine wpAny_isSubtype_exc hC ?_; first | rw [hcB] | rw [hcA] | rw [hcN]) | wp_step)
  show R _ _
  rw [Heap.size_push]
  exact hq
theorem bb_type_call (X : (KK w.params).In h) {rest : List Value} {Q : PySem.Fin → Shared → Prop}
    (hq : wpAny (model prog w) A (call (.ref 36) (.ref (h.objs.size + 1) :: rest)) (fun r s' => r = .none ∧ Q (.done (.ret (.ref (h.objs.size + 1)))) s') E ⟨(h.push { cls := .type "tuple", data := .seq rest.toArray }).push (excNew h.objs.size), g, d, t, os⟩) (hrest : rest.length ≤ sizeLine) :
    wpAny (model prog w) A (Builtin.«type.__call__» ⟨.ref 52 :: rest, []⟩) Q E ⟨h, g, d, t, os⟩ := by
  have hC := X 52 _ (bb_get w.params)
  have F := PySem.F.excBase_Exception
  repeat (first | with_reducible refine wpAny_loadPart_at hC ?_ | with_reducible refine wpAny_madeBy_exc hC ?_ | wp_step)
  refine codeAny_call_builtin_code (Code.quiet_builtin _ F.quiet) (bb_check_new hC ?_)
  refine bb_new hC ?_ hrest
  show wpAny _ _ _ _ _ _
  have kp : ∀ b o, h.get? b = some o → ((h.push { cls := .type "tuple", data := .seq rest.toArray }).push (excNew h.objs.size)).get? b = some o := fun b o e => Heap.get?_push_of_some _ (Heap.get?_push_of_some _ e)
  have hC₁ := kp _ _ hC
  have X₁ : (KK w.params).In ((h.push { cls := .type "tuple", data := .seq rest.toArray }).push (excNew h.objs.size)) := X.keeps kp
  have hget : ((h.push { cls := .type "tuple", data := .seq rest.toArray }).push (excNew h.objs.size)).get? (h.objs.size + 1) = some (excNew h.objs.size) := by heap_get
  have hcC : (Value.ref 52 :: bbTl).contains (.ref 52) = true := by decide
  unfold isInstance
  repeat (first | with_reducible refine wpAny_loadPart_at hget ?_ | (with_reducible refine wpAny_isSubtype_exc hC₁ ?_; rw [hcC]) | wp_step)
  show wpAny _ _ (typeLookup (.ref 52) _) _ _ _
  refine (looks_findIn X₁ (lk_init w.params)).at ?_
  refine wpAny_holding (wpAny_bind ?_)
  refine (bind_fn X₁ _ (ty_init w.params)).at ?_
  refine wpAny_bind (wpAny_mono hq (fun r s' hr => ?_) fun _ _ x => x)
  obtain ⟨rfl, hQ⟩ := hr
  wp_walk
  exact hQ
theorem bb_call (X : (KK w.params).In h) {rest : List Value} {Q : Value → Shared → Prop}
    (hq : wpAny (model prog w) (A.under (.builtin "type.__call__" ⟨.ref 52 :: rest, []⟩)) (call (.ref 36) (.ref (h.objs.size + 1) :: rest)) (fun r s' => r = .none ∧ Q (.ref (h.objs.size + 1)) s') E ⟨(h.push { cls := .type "tuple", data := .seq rest.toArray }).push (excNew h.objs.size), g, d, t, os⟩) (hrest : rest.length ≤ sizeLine) :
    wpAny (model prog w) A (call (.ref 52) rest) Q E ⟨h, g, d, t, os⟩ := by
  have hC := X 52 _ (bb_get w.params)
  have f1 := tc_lookup
  have f2 := tc_bind (.ref 52)
  have hT : (⟨h, g, d, t, os⟩ : Shared).TypeIs (.ref 52) "type" := ⟨_, hC, rfl⟩
  refine wpAny_call (codeAny_of_tree ?_)
  show wpAny _ _ (callAny (.ref 52) _) _ _ _
  repeat (any_goals (first | assumption | with_reducible refine wpAny_loadPart_at hC ?_ | wp_step))
  refine ⟨rfl, ?_⟩
  exact codeAny_call_builtin_at (Code.quiet_builtin _ (by decide +kernel)) entry_typeCall (wpAny_check_type_call_sub hC (bb_type_call X hq hrest))
end
end
section
theorem passes_exc (self : Value) : refuseLoop self "__setattr__" bbBm = pure () := by kernel_rfl
section
variable {prog : Program} {w : World} {A : Around} {E : Value → Shared → Prop} {s : Shared} {R : Result → Shared → Prop}
noncomputable abbrev excHas (t d : Addr) : Obj := { cls := .ref 52, dict := some d, data := .fields #[.ref t, .none, .none, .none, .bool false, .none] }
theorem exc_osa {e t : Addr} {tk : Tok} {v : Value} (X : (KK w.params).In s.heap) (he : s.heap.get? e = some (excNew t))
    (h : ∀ h' tk d, (∀ b o, b ≠ e → s.heap.get? b = some o → h'.get? b = some o) → h'.get? e = some (excHas t d) → R (.ok (.ret .none)) { s with heap := h', toks := tk }) :
    codeAny (model prog w) A (.call (.builtin "object.__setattr__") ⟨[.ref e, .str (Str.ofString "told") tk, v], []⟩) R s := by
  have SF := PySem.F.store_object
  have hC := X 52 _ (bb_get w.params)
  have I : Looks (model prog w) s.heap (typeOf (.ref e)) (.ref 52) := (Looks.ld he).andThen .now
  have hm : Looks (model prog w) s.heap (mroOf (.ref 52)) (.ref 52 :: bbTl) := ((Looks.ld (part := none) hC).andThen .now).andThen .now
  have sub : Looks (model prog w) s.heap (isInstance (.ref e) (.type "object")) true := I.andThen (looks_mroIn X (by rfl))
  refine codeAny_call_builtin SF.slot.plain SF.entry (@check_slot (model prog w) _ _ s "object.__setattr__" "object" "__setattr__" (.ref e) [.str (Str.ofString "told") tk, v] [] _ SF.kind SF.split sub (SF.args (.ref e) (.str (Str.ofString "told") tk) v) ?_)
  rw [osa_eq, refuse_eq]
  refine wpAny_bind (wpAny_bind (I.here (wpAny_bind (hm.here ?_))))
  rw [refuseLoop_ref, refuseLoop_ref, passes_exc]
  refine wpAny_pure (wpAny_bind (I.here (wpAny_bind ((looks_findIn X (lk_told w.params)).here (wpAny_bind (wpAny_pure ?_))))))
  dsimp only
  refine wpAny_bind (wpAny_pure (wpAny_bind (wpAny_bind (wpAny_loadPart he (wpAny_bind (wpAny_bind ?_))))))
  refine wpAny_load hC (wpAny_pure ?_)
  rw [if_neg (by decide)]
  dsimp only
  rw [if_neg (by simp [typeHasDict])]
  refine wpAny_bind (wpAny_alloc ?_)
  have he1 : (s.heap.push { cls := .type "dict", data := .dict #[] }).get? e = some (excNew t) := Heap.get?_push_of_some _ he
  have hne : s.heap.objs.size ≠ e := Nat.ne_of_gt (Heap.lt_size he)
  refine wpAny_bind (wpAny_update he1 ?_)
  have he2 : ((s.heap.push { cls := .type "dict", data := .dict #[] }).update e (fun o => { o with dict := some s.heap.objs.size })).get? e = some (excHas t s.heap.objs.size) := Heap.get?_update_self _ he1 rfl
  have hd2 : ((s.heap.push { cls := .type "dict", data := .dict #[] }).update e (fun o => { o with dict := some s.heap.objs.size })).get? s.heap.objs.size = some { cls := .type "dict", data := .dict #[] } := (Heap.get?_update_other _ _ (Ne.symm hne)).trans (Heap.get?_push_size _ rfl)
  have hk2 : ∀ b o, b ≠ e → s.heap.get? b = some o → ((s.heap.push { cls := .type "dict", data := .dict #[] }).update e (fun o => { o with dict := some s.heap.objs.size })).get? b = some o := fun b o hb q => (Heap.get?_update_other _ _ (Ne.symm hb)).trans (Heap.get?_push_of_some _ q)
  refine wpAny_of_eq (show dictMade (.ref 52) e s.heap.objs.size = pure (some s.heap.objs.size) from rfl) ?_
  generalize hH : (s.heap.push { cls := .type "dict", data := .dict #[] }).update e (fun o => { o with dict := some s.heap.objs.size }) = H2 at he2 hd2 hk2
  generalize hD : s.heap.objs.size = dd at he2 hd2 hne
  dsimp only
  refine wpAny_bind (wpAny_of_eq (show Builtin.ObjectAttr.newKeyGuard dd (Str.ofString "told") (.str (Str.ofString "told") tk) = pure () from rfl) (wpAny_bind ?_))
  have D' : (H2.update dd (Obj.putName (Str.ofString "told") (PyData.keyHash w.params (Str.ofString "told")) (.str (Str.ofString "told") s.toks) v)).get? dd = some (dictOf (PySem.W.putL (Str.ofString "told") (PyData.keyHash w.params (Str.ofString "told")) (.str (Str.ofString "told") s.toks) v []) (putN (Str.ofString "told") [] 0)) := by
    rw [Heap.get?_update_self _ hd2 (by rw [show ({ cls := .type "dict", data := .dict #[] } : Obj) = dictOf [] 0 from rfl, putName_dict]; rfl), show ({ cls := .type "dict", data := .dict #[] } : Obj) = dictOf [] 0 from rfl, putName_dict]
  unfold nsSet
  refine wpAny_bind (wpAny_bind (wpAny_askSetting (wpAny_pure (wpAny_bind (wpAny_mkText (wpAny_bind (wpAny_loadPart hd2 ?_)))))))
  dsimp only
  refine wpAny_ite ?_
  rw [if_neg (by rw [aRefKeyMayBeTheName_at]; simp)]
  refine wpAny_updatePart hd2 ?_
  refine wpAny_bind (wpAny_lookBehind D' (pastItsLine_dict (by rw [List.size_toArray, sizeLine_eq]; exact Nat.le_trans (putL_len _ _ _ _ _) (by decide))) ?_)
  refine wpAny_pure (h _ _ dd (fun b o hb q => ?_) ?_)
  · have hbd : b ≠ dd := fun hc => by
      subst hc; rw [← hD, get_size_none] at q; cases q
    exact (Heap.get?_update_other _ _ (Ne.symm hbd)).trans (hk2 b o hb q)
  · exact (Heap.get?_update_other _ _ hne).trans he2
end
end
section
theorem bd36 (P : Params) (a b : Value) {s : Shared} (X : (KK P).In s.heap) : BindsTo s (fdAt P 36) ⟨[a, b], []⟩ [(Str.ofString "self", a), (Str.ofString "told", b)] := by
  have e : fdAt P 36 = fdAt P 36 := rfl
  conv at e => rhs; unfold fdAt; whnf
  rw [e]
  exact BindsTo.of_defaults (T := 29) rfl (X 29 _ (by rfl)) rfl rfl rfl
variable {prog : Program} {w : World} {A : Around} {E : Value → Shared → Prop} {s : Shared} {g : Heap} {mg mb : Str → Option Value}
theorem exc_set {e t : Addr} {v : Value} {Q : Unit → Shared → Prop} (X : (KK w.params).In s.heap) (he : s.heap.get? e = some (excNew t))
    (h : ∀ h' tk d, (∀ b o, b ≠ e → s.heap.get? b = some o → h'.get? b = some o) → h'.get? e = some (excHas t d) → Q () { s with heap := h', toks := tk }) :
    wpAny (model prog w) A (setAttr (.ref e) (Str.ofString "told") v) Q E s := by
  have I : InstAt s.heap e (excNew t) 52 none := ⟨he, rfl, rfl, True.intro⟩
  refine set_plain X I (lk_setattr w.params) (exc_osa (s := { s with toks := s.toks + 1 }) X he fun h' tk d hk hd => ?_)
  exact h h' tk d hk hd
theorem exc_init (G : GG (KK w.params) g mg mb) (hg : ∀ b o, g.get? b = some o → s.heap.get? b = some o) (hroom : A.depth < recursionLimit) {e t : Addr} {v : Value} {Q : Value → Shared → Prop} (he : s.heap.get? e = some (excNew t)) (hge : g.get? e = none)
    (h : ∀ h' tk d, (∀ b o, b ≠ e → s.heap.get? b = some o → h'.get? b = some o) → h'.get? e = some (excHas t d) → Q .none { s with heap := h', toks := tk }) :
    wpAny (model prog w) A (call (.ref 36) [.ref e, v]) Q E s := by
  have F := fn36 w.params
  obtain ⟨oc, od, osl, hl⟩ := F.get
  refine wpAny_call (codeAny_call_def hroom (hg _ _ (G.kin _ _ hl)) rfl (G.gf.lim.keeps hg) (codeRec_of (G.kin.keeps hg) F.code) F.body (bd36 w.params (.ref e) v (G.kin.keeps hg)) (by
      intro x hx
      have : (fdAt w.params 36).scope.names.all (fun x => x.2 != .cell) = true := by rfl
      have := List.all_eq_true.mp this x hx
      simpa using this) (by
      intro x hx
      rcases List.mem_cons.mp hx with rfl | hx
      · rfl
      · rw [List.mem_singleton.mp hx]; rfl) (fun h0 hns hk => ?_) F.co F.gen F.kind)
  generalize hE : callEnv (fdAt w.params 36) s.heap.objs.size 36 = env
  have hLe : s.heap.objs.size ≠ e := Nat.ne_of_gt (Heap.lt_size he)
  have he0 := hk e _ he
  have hbody : bodyAt w.params 36 = bodyAt w.params 36 := rfl
  conv at hbody => rhs; unfold bodyAt fdAt; whnf
  rw [hbody]
  have hsc : env.scope = (fdAt w.params 36).scope := by rw [← hE]; rfl
  have hloc : env.locals = s.heap.objs.size := by rw [← hE]; rfl
  have hkf : env.scope.kind = .function := by rw [hsc]; rfl
  refine wpAny_execs_cons (plainObj_wpAny_Assign_Attribute (wpAny_Name (wpAny_loadName_local (v := v) hkf (by unfold Env.kindOf; rw [hsc]; rfl) (by rw [hloc]; exact hns) rfl ?_)) rfl)
  refine wpAny_Name (wpAny_loadName_local (v := .ref e) hkf (by unfold Env.kindOf; rw [hsc]; rfl) (by rw [hloc]; exact hns) rfl ?_)
  refine exc_set (s := { s with heap := h0, toks := s.toks + 2 }) (G.kin.keeps fun b o q => hk b o (hg b o q)) he0 fun h' tk d hk' hd => ?_
  exact wpAny_execs_nil (h h' tk d (fun b o hb q => hk' b o hb (hk b o q)) hd)
theorem bb_make (G : GG (KK w.params) g mg mb) (hg : ∀ b o, g.get? b = some o → s.heap.get? b = some o) (hroom : A.depth + 1 < recursionLimit) {v : Value} {Q : Value → Shared → Prop}
    (h : ∀ h' tk e t d, (∀ b o, s.heap.get? b = some o → h'.get? b = some o) → s.heap.get? e = none → h'.get? e = some (excHas t d) → Q (.ref e) { s with heap := h', toks := tk }) :
    wpAny (model prog w) A (call (.ref 52) [v]) Q E s := by
  obtain ⟨hp, g1, d1, t1, os1⟩ := s
  refine bb_call (G.kin.keeps hg) ?_ (by show 1 ≤ sizeLine; decide)
  have kp : ∀ b o, hp.get? b = some o → ((hp.push { cls := .type "tuple", data := .seq [v].toArray }).push (excNew hp.objs.size)).get? b = some o := fun b o e => Heap.get?_push_of_some _ (Heap.get?_push_of_some _ e)
  have hen : hp.get? (hp.objs.size + 1) = none := Heap.get?_none_of_le (Nat.le_succ _)
  have hge : g.get? (hp.objs.size + 1) = none := by
    cases q : g.get? (hp.objs.size + 1) with
    | none => rfl
    | some o => rw [hg _ _ q] at hen; cases hen
  refine exc_init (s := ⟨(hp.push { cls := .type "tuple", data := .seq [v].toArray }).push (excNew hp.objs.size), g1, d1, t1, os1⟩) G (fun b o q => kp b o (hg b o q)) ?_ (t := hp.objs.size) ?_ hge fun h' tk d hk hd => ?_
  · show A.depth + 1 < recursionLimit; exact hroom
  · have : (hp.push { cls := .type "tuple", data := .seq [v].toArray }).objs.size = hp.objs.size + 1 := Heap.size_push ..
    rw [← this]; exact Heap.get?_push_size _ rfl
  · refine ⟨rfl, h h' tk _ _ d (fun b o q => hk b o (fun hc => ?_) (kp b o q)) hen hd⟩
    subst hc
    have q' : hp.get? (hp.objs.size + 1) = some o := q
    rw [hen] at q'; cases q'
end
section
variable {prog : Program} {w : World} {A : Around} {s : Shared} {g : Heap} {mg mb : Str → Option Value} {ρ : List Ent}
theorem raiseStmt_bb {M : Model} {env : Env} {E : Value → Shared → Prop} {x : Sem Value} {Q : Flow → Shared → Prop} (hh : A.handled = none)
    (h : wpAny M A x (fun v s₁ => ∃ e t d, v = .ref e ∧ s₁.heap.get? 52 = some bbObj ∧ s₁.heap.get? e = some (excHas t d) ∧ E (.ref e) s₁) E s) :
    wpAny M A (raiseStmt env (some x) none) Q E s := by
  have hcB : (Value.ref 52 :: bbTl).contains (.type "BaseException") = true := by decide
  unfold raiseStmt
  refine wpAny_bind (wpAny_mono h (fun v s₁ h₁ => ?_) fun _ _ x => x)
  obtain ⟨e, t, d', rfl, hC, he, hE⟩ := h₁
  obtain ⟨hp, g, d, tk, os⟩ := s₁
  repeat (first | with_reducible refine wpAny_loadPart_at he ?_ | with_reducible refine wpAny_loadPart_at hC ?_ | (with_reducible refine wpAny_isSubtype_exc hC ?_; rw [hcB]) | wp_step)
  exact wpAny_raiseNew_none hh hE
theorem raise_bb (G : GG (KK w.params) g mg mb) {env : Env} {H : Addr → Prop} {E : Value → Shared → Prop} {np cpos pos p2 : Pos} {txt : Str} {k : Nat} {Q : Flow → Shared → Prop} (ok : EnvOk env) (hh : A.handled = none) (hroom : A.depth + 1 < recursionLimit) (sr : SR w.params g env H ρ s.heap)
    (hx : env.scope.names.lookup (Str.ofString "BadBits") = some .globalImplicit) (htx : txt.length ≤ sizeLine)
    (h : ∀ h' tk e t d, (∀ b o, s.heap.get? b = some o → h'.get? b = some o) → s.heap.get? e = none → h'.get? e = some (excHas t d) → E (.ref e) { s with heap := h', toks := tk }) :
    wpAny (model prog w) A (exec (.Raise (some (.Call (.Name (Str.ofString "BadBits") np) [.Constant (.str txt) k p2] [] cpos)) none pos) env) Q E s := by
  rw [arm_exec_Raise]
  refine wpAny_bind (wpAny_standAt (raiseStmt_bb hh (wpAny_bind (wpAny_mono (Q := fun v s₁ => ∃ e t d, v = .ref e ∧ s₁.heap.get? 52 = some bbObj ∧ s₁.heap.get? e = some (excHas t d) ∧ E (.ref e) s₁) ?_ (fun v s₃ h₃ => wpAny_bind (wpAny_standAt (wpAny_pure h₃))) fun _ _ x => x))))
  refine PyProof.Rows.Call_Name rfl (gname G.gf ok sr hx (gt_BadBits G) ?_ (by decide))
  have hk52 : keepIn (KK w.params) (.ref 52) = true := by rfl
  refine callWith_of rfl (keeps_K hk52) (evalArgs_plain (spliced_cons ?_))
  show wpAny _ _ (eval (.Constant (.str txt) k p2) env) _ _ _
  refine PySem.wpAny_Constant_str (spliced_nil ⟨G.kin.keeps sr.keep, ?_⟩)
  refine bb_make (s := { s with toks := s.toks + 1 }) G sr.keep hroom fun h' tk e t d k1 k2 k3 => ?_
  exact ⟨e, t, d, rfl, k1 _ _ (sr.keep _ _ (G.kin _ _ (bb_get w.params))), k3, h h' tk e t d k1 k2 k3⟩
end
section
variable {prog : Program} {w : World} {g : Heap} {n : Nat} {sc : Scope} {ρ ρ' : List Ent} {mg mb : Str → Option Value}
noncomputable def WR (prog : Program) (w : World) (g : Heap) (n : Nat) (sc : Scope) (b : List Stmt) (ρ : List Ent) : Prop :=
  ∀ (env : Env) (A : Around) (H : Addr → Prop) (s : Shared) (E : Value → Shared → Prop), env.scope = sc → EnvOk env → Room n A → SR w.params g env H ρ s.heap →
    (∀ ρ' s₁ h' tk e t d, Post0 w.params g env H ρ s ρ' s₁ → (∀ b o, s₁.heap.get? b = some o → h'.get? b = some o) → s₁.heap.get? e = none → h'.get? e = some (excHas t d) → E (.ref e) { s₁ with heap := h', toks := tk }) →
    wpAny (model prog w) A (execs b env) (fun _ _ => False) E s
theorem wr_cons {st : Stmt} {r : List Stmt} (h : WX prog w g n sc st ρ (After (fun _ _ => False) fun ρ₁ => WR prog w g n sc r ρ₁)) : WR prog w g n sc (st :: r) ρ := by
  intro env A H s E hsc ok hA sr hE
  refine wpAny_execs_cons (wpAny_mono (h env A H s hsc ok hA sr) (fun f s1 h1 => ?_) noE_to)
  obtain ⟨fl, ρ1, k1, p1, r1⟩ := h1
  cases fl with
  | next =>
    have : f = .next := r1
    subst this
    exact k1 env A H s1 E hsc ok hA p1.sr fun ρ' s₂ h' tk e t d p2 a b c => hE ρ' s₂ h' tk e t d (p1.trans p2) a b c
  | ret d => exact k1.elim
theorem wr_if {t : Expr} {a b r : List Stmt} {pos : Pos} (h : WT prog w g n sc t ρ fun c ρ₁ => c = true ∧ WR prog w g n sc a ρ₁) : WR prog w g n sc (.If t a b pos :: r) ρ := by
  intro env A H s E hsc ok hA sr hE
  refine wpAny_execs_cons (PySem.wpAny_If (wpAny_mono (h env A H s hsc ok hA sr) (fun c s1 h1 => ?_) noE_to))
  obtain ⟨ρ1, ⟨rfl, k1⟩, p1⟩ := h1
  rw [if_pos rfl]
  exact wpAny_mono (k1 env A H s1 E hsc ok hA p1.sr fun ρ' s₂ h' tk e t d p2 a b c => hE ρ' s₂ h' tk e t d (p1.trans p2) a b c) (fun _ _ x => x.elim) fun _ _ x => x
theorem wr_raise (G : GG (KK w.params) g mg mb) {np cpos pos p2 : Pos} {txt : Str} {k : Nat} {r : List Stmt} (hx : sc.names.lookup (Str.ofString "BadBits") = some .globalImplicit) (htx : txt.length ≤ sizeLine) :
    WR prog w g n sc (.Raise (some (.Call (.Name (Str.ofString "BadBits") np) [.Constant (.str txt) k p2] [] cpos)) none pos :: r) ρ := by
  intro env A H s E hsc ok hA sr hE
  subst hsc
  refine wpAny_execs_cons (raise_bb G ok hA.1 ?_ sr hx htx fun h' tk e t d a b c => hE ρ s h' tk e t d (SR.post sr) a b c)
  have := hA.2.1
  have e : recursionLimit = 1000 := rfl
  omega
theorem walk_cl_bad (G : GG (KK w.params) g mg mb) (cs : List Int) (most : Nat) (hl : cs.length ≤ 5) (hm : 1 ≤ most ∧ most ≤ 4) (hu : 2 ^ most < (signsF cs).length) (cl : List (Str × Addr)) :
    WR prog w g n (fdAt w.params 144).scope (bodyAt w.params 144) (ents0 [(Str.ofString "counts", .val (.list (pints cs))), (Str.ofString "most", .val (.int most))] cl (fdAt w.params 144).scope.names) := by
  generalize hcc : ((cl.lookup (Str.ofString "counts")).getD 0) = c
  show WR prog w g n _ _ (clR cs most ((cl.lookup (Str.ofString "counts")).getD 0) .unb .unb .unb .unb .unb .unb .unb .unb .unb .unb .unb .unb .unb)
  rw [hcc]
  have hll : (pints cs).length = cs.length := List.length_map ..
  have hul := signsF_len cs
  have h2m : 2 ≤ 2 ^ most := by
    have := Nat.pow_le_pow_right (show 0 < 2 by decide) hm.1
    simpa using this
  refine wr_cons (wx_signs G.gf (gv_enumerate G) (we_name (by trivial) ⟨cs, rfl, by omega, clR cs most c .unb (.val (.list (pints (signsF cs)))) .unb .unb .unb .unb .unb .unb .unb .unb .unb .unb .unb, by trivial, ?_⟩))
  generalize signsF cs = U at hu hul ⊢
  have hUl : (pints U).length = U.length := List.length_map ..
  refine wr_cons (wx_rep (we_int (we_call G.gf (by rfl) (gv_len G) True.intro (wel1 (we_name (by trivial) (pl_len (by omega) ⟨_, rfl, by omega, by omega, fun a => ⟨clR cs most c .unb (.val (.list (pints U))) (.lst a (pints (List.replicate cs.length 0))) .unb .unb .unb .unb .unb .unb .unb .unb .unb .unb, ?_, ?_⟩⟩)) rfl))))
  · have : List.replicate (Int.toNat ((pints cs).length : Nat)) (PV.int 0) = pints (List.replicate cs.length 0) := by simp [pints]
    rw [this]; trivial
  refine wr_cons (wx_if (wt_cmp (we_call G.gf (by rfl) (gv_len G) True.intro (wel1 (we_name (by trivial) (pl_len (by omega) (we_int (pc_eq ⟨_, rfl, ?_⟩)))) rfl))))
  refine ifF (by simp; omega) (ws_nil ?_)
  refine wr_cons (wx_if (wt_cmp (we_call G.gf (by rfl) (gv_len G) True.intro (wel1 (we_name (by trivial) (pl_len (by omega) (we_int (pc_lt ⟨_, rfl, ?_⟩)))) rfl))))
  refine ifF (by simp; omega) (ws_nil ?_)
  refine wr_if (wt_cmp (we_call G.gf (by rfl) (gv_len G) True.intro (wel1 (we_name (by trivial) (pl_len (by omega) (we_bin (we_int (we_name (by trivial) (po_shl (by omega) (by omega) (by decide) (pc_gt ⟨_, rfl, ?_⟩))))))) rfl)))
  refine ⟨?_, wr_raise G (by rfl) (by decide)⟩
  have : (1 : Int) * 2 ^ ((most : Int)).toNat = ((2 ^ most : Nat) : Int) := by rw [Int.toNat_natCast]; push_cast; omega
  rw [this, hUl]
  exact decide_eq_true (by omega)
end
section
variable {prog : Program} {w : World} {g : Heap} {n : Nat} {sc : Scope} {ρ ρ' : List Ent} {mg mb : Str → Option Value}
noncomputable def Flew (base : Heap) (outer : List Env) (s : Shared) (e : Value) (s' : Shared) : Prop :=
  ∃ a t h' tk, e = .ref a ∧ s' = { s with heap := h', toks := tk } ∧ Heap.FlyingW base outer a (.ref 52) (.ref t) h' ∧ s.heap.UpToSlots h' ∧ s.heap.get? a = none
theorem call_bad {K : Frag} (G : GG K g mg mb) {a : Addr} {fd : FuncData} {body : List Stmt} (F : FnOk K a fd body) {A : Around} {outer : List Env} {base : Heap} {env : Env} {H : Addr → Prop} {s : Shared} {x y : Str} {d₁ d₂ : PV} {v₁ v₂ : Value} (hA : Room (n + 1) A) (hfr : A.frames = some outer) (sr : SR w.params g env H ρ s.heap) (hst : base.StaysIn s.heap) (hfl : s.heap.FunFrames base outer)
    (hb : ∀ a b, bindArgs fd ⟨[a, b], []⟩ = pure [(x, a), (y, b)]) (hk : okIn fd x = true) (hk2 : okIn fd y = true) (hn : nodupB [x, y] = true)
    (hW : ∀ cl, WR prog w g n fd.scope body (ents0 [(x, .val d₁), (y, .val d₂)] cl fd.scope.names)) (h1 : Rd s.heap (Tt env H ρ) d₁ v₁) (h2 : Rd s.heap (Tt env H ρ) d₂ v₂) :
    codeAny (model prog w) A (.call (.ref a) ⟨[v₁, v₂], []⟩) (fun r s' => match r with | .ok (.ret v) => (fun _ _ => False) v s' | .ok _ => False | .error e => Flew base outer s e s') s := by
  have efp : fps [(x, Slot.val d₁), (y, Slot.val d₂)] = [] := rfl
  have eT : (fun b => Tt env H ρ b ∨ b ∈ ([] : List Addr)) = Tt env H ρ := by funext b; simp
  have hkk : ([(x, Slot.val d₁), (y, Slot.val d₂)].all fun z => fd.scope.names.lookup z.1 == some .local || fd.scope.names.lookup z.1 == some .cell) = true := by
    have e1 : (fd.scope.names.lookup x == some .local || fd.scope.names.lookup x == some .cell) = true := hk
    have e2 : (fd.scope.names.lookup y == some .local || fd.scope.names.lookup y == some .cell) = true := hk2
    rw [List.all_cons, List.all_cons, e1, e2]; rfl
  refine fn_enterM (c := false) (vals := [v₁, v₂]) (E := Flew base outer s) (Q := fun _ _ => False) (T := Tt env H ρ) (ps := [(x, .val d₁), (y, .val d₂)]) (bs := [(x, v₁), (y, v₂)]) G F hA
    (by rw [efp, eT]; exact sr.hr) (by rw [efp]; exact List.nodup_nil) (by rw [efp]; intro b hb; cases hb) (by rw [efp, eT]; exact ⟨v₁, _, rfl, ⟨v₁, rfl, h1⟩, v₂, _, rfl, ⟨v₂, rfl, h2⟩, rfl⟩) (BindsTo.of_eq (hb _ _)) hkk hn fun cl env' s2 ok' hsc' hf' hA' hL' sr' same keep hV => ?_
  refine wpAny_mono (hW cl env' (A.deeper env') (Tt env H ρ) s2 (fun e s' => wpAny (model prog w) (A.deeper env') (leaving env' e) (fun _ s'' => Flew base outer s e s'') (Flew base outer s) s') hsc' ok' hA' sr' fun ρ1 s3 h3 tk e t d p3 k3 n3 g3 => ?_) (fun _ _ x => x) fun _ _ x => x
  have k03 : ∀ b o, s.heap.get? b = some o → s3.heap.get? b = some o := fun b o q => p3.keep b o (fun hc => by
    rcases hc with h | h
    · rw [h, hL'] at q; cases q
    · rcases hV b h with h | h
      · cases h
      · rw [h] at q; cases q) (keep b o q)
  have k0 : ∀ b o, s.heap.get? b = some o → h3.get? b = some o := fun b o q => k3 b o (k03 b o q)
  have fresh : ∀ b, s.heap.get? b = none → base.get? b = none := fun b hb => by
    cases q : base.get? b with
    | none => rfl
    | some o => rw [hst b o q] at hb; cases hb
  have hen : s.heap.get? e = none := by
    cases q : s.heap.get? e with
    | none => rfl
    | some o => rw [k03 e o q] at n3; cases n3
  obtain ⟨mm, hns, _⟩ := p3.sr.ents
  obtain ⟨oL, es, ep, hoL, hdL, _⟩ := hns
  have hfl3 : h3.FunFrames base (env' :: outer) := by
    refine ⟨by rw [ok'.1]; decide, ⟨env'.locals, oL, hf', fresh _ hL', k3 _ _ hoL, fun vs q => by rw [hdL] at q; cases q⟩, hfl.of_keeps fun b o q _ => ⟨o, k0 b o q, rfl⟩⟩
  refine wpAny_leaving_firstW (s := { s3 with heap := h3, toks := tk }) (a0 := .ref t) (Around.frames_deeper hfr) hfl3 hf' g3 (fun b o q => k0 b o (hst b o q)) (fresh e hen) rfl rfl rfl fun h' hL => ?_
  obtain ⟨x1, ⟨_, _, x2⟩, x3, x4⟩ := hL
  obtain ⟨ha, ta, rfl⟩ := same
  obtain ⟨hb, tb, rfl⟩ := p3.same
  exact ⟨e, t, h', tk, rfl, rfl, ⟨x1, fresh e hen, x2, x3⟩, fun b o q hn => x4 b o (k0 b o q) hn, hen⟩
theorem cl_call_bad (G : GG (KK w.params) g mg mb) {A : Around} {outer : List Env} {base : Heap} {env : Env} {H : Addr → Prop} {s : Shared} {v₁ v₂ : Value} (hA : Room (n + 1) A) (hfr : A.frames = some outer) (sr : SR w.params g env H ρ s.heap) (hst : base.StaysIn s.heap) (hfl : s.heap.FunFrames base outer)
    (cs : List Int) (most : Nat) (hl : cs.length ≤ 5) (hm : 1 ≤ most ∧ most ≤ 4) (hu : 2 ^ most < (signsF cs).length) (h1 : Rd s.heap (Tt env H ρ) (.list (pints cs)) v₁) (h2 : Rd s.heap (Tt env H ρ) (.int most) v₂) :
    codeAny (model prog w) A (.call (.ref 144) ⟨[v₁, v₂], []⟩) (fun r s' => match r with | .ok (.ret v) => (fun _ _ => False) v s' | .ok _ => False | .error e => Flew base outer s e s') s :=
  call_bad G (fn144 w.params) hA hfr sr hst hfl (b144 w.params) (by rfl) (by rfl) (by decide) (fun cl => walk_cl_bad G cs most hl hm hu cl) h1 h2
end
section
variable {prog : Program} {w : World} {g : Heap} {n : Nat} {sc : Scope} {ρ ρ' : List Ent} {mg mb : Str → Option Value}
theorem gnameH {M : Model} {env : Env} {A : Around} {s : Shared} {x : Str} {v : Value} {E : Value → Shared → Prop} {Q : Value → Shared → Prop} {pos : Pos} (G : GF g mg mb) (ok : EnvOk env) (hk : ∀ a o, g.get? a = some o → s.heap.get? a = some o)
    (hx : env.scope.names.lookup x = some .globalImplicit) (hv : GV mg mb x v) (h : Q v s) (hd : (x == ("__debug__" : Str)) = false) : wpAny M A (eval (.Name x pos) env) Q E s := by
  refine wpAny_Name ?_ hd
  rw [loadName_read ok.1 hx]
  have hg : s.heap.Ns env.globals mg := by rw [ok.2.1]; exact G.gl.keeps hk
  have hb : s.heap.Ns env.builtins mb := by rw [ok.2.2]; exact G.bl.keeps hk
  rcases hv with hv | ⟨h1, h2⟩
  · exact loadGlobal_global hg hv h
  · exact loadGlobal_builtin hg h1 hb h2 h
noncomputable def UpS (x : Addr) (h h' : Heap) : Prop := ∀ b o, b ≠ x → h.get? b = some o → (∀ vs, o.data ≠ .fields vs) → ∃ sl, h'.get? b = some { o with slots := sl }
theorem UpS.then {x : Addr} {h h' h'' : Heap} (p : UpS x h h') (q : h'.UpToSlots h'') : UpS x h h'' := fun b o hb e hn =>
  let ⟨_, e₁⟩ := p b o hb e hn; let ⟨sl, e₂⟩ := q b _ e₁ hn; ⟨sl, e₂⟩
noncomputable def Caught (base : Heap) (x : Addr) (s s' : Shared) : Prop := ∃ h' tk, s' = { s with heap := h', toks := tk } ∧ base.StaysIn h' ∧ UpS x s.heap h'
theorem funFrames_but {h h' base : Heap} {x : Addr} (k : ∀ b o, b ≠ x → h.get? b = some o → h'.get? b = some o) : ∀ {l : List Env}, h.FunFrames base l → (∀ e ∈ l, e.frame ≠ some x) → h'.FunFrames base l := by
  intro l
  induction l with
  | nil => exact fun _ _ => trivial
  | cons env rest ih =>
    intro q hn
    obtain ⟨q1, ⟨L, o, q2, q3, q4, q5⟩, q6⟩ := q
    exact ⟨q1, ⟨L, o, q2, q3, k L o (fun hc => hn env (.head _) (by rw [q2, hc])) q4, q5⟩, ih q6 fun e he => hn e (.tail _ he)⟩
noncomputable abbrev tdR (cs : List Int) (most : Int) : List Ent := [⟨Str.ofString "counts", none, .val (.list (pints cs))⟩, ⟨Str.ofString "most", none, .val (.int most)⟩]
theorem told_bad (G : GG (KK w.params) g mg mb) {A : Around} {outer : List Env} {base : Heap} {env : Env} {H : Addr → Prop} {s : Shared} (hA : Room (n + 1) A) (hfr : A.frames = some (env :: outer)) (ok : EnvOk env) (hsc : env.scope = (fdAt w.params 280).scope) (hff : env.frame = some env.locals)
    (cs : List Int) (most : Nat) (hl : cs.length ≤ 5) (hm : 1 ≤ most ∧ most ≤ 4) (hu : 2 ^ most < (signsF cs).length)
    (sr : SR w.params g env H (tdR cs most) s.heap) (hst : base.StaysIn s.heap) (hgb : ∀ a o, g.get? a = some o → base.get? a = some o) (hbL : base.get? env.locals = none) (hfl : s.heap.FunFrames base (env :: outer)) (hne : ∀ e ∈ outer, e.frame ≠ some env.locals) :
    wpAny (model prog w) A (execs (bodyAt w.params 280) env) (fun f s' => f = .ret .none ∧ Caught base env.locals s s') noE s := by
  have hb : bodyAt w.params 280 = bodyAt w.params 280 := rfl
  conv at hb => rhs; unfold bodyAt fdAt; whnf
  rw [hb]
  have hg5 : (pints cs).length = cs.length := List.length_map ..
  have hlk : ∀ x k, (fdAt w.params 280).scope.names.lookup x = some k → env.scope.names.lookup x = some k := fun x k h => by rw [hsc]; exact h
  refine wpAny_execs_cons (wpAny_Try_except (wpAny_mono (Q := fun _ _ => False) (E := fun e s' => ∃ s₁, Post0 w.params g env H (tdR cs most) s (tdR cs most) s₁ ∧ Flew base (env :: outer) s₁ e s') (wpAny_execs_cons (wpAny_Return_some ?_)) (fun _ _ x => x.elim) fun e s' hE => ?_))
  · refine wpAny_Call_NameR (gname G.gf ok sr (hlk _ _ (by rfl)) (gv_list G) (PySem.callWith_type1 (t := eval _ env) (wpAny_mono (Q := fun _ _ => False) (wpAny_Call_NameR (gname G.gf ok sr (hlk _ _ (by rfl)) (gt_code_lengths G) ?_ (by decide))) (fun _ _ x => x.elim) fun _ _ x => x)) (by decide))
    obtain ⟨oc, od, osl, hl144⟩ := (fn144 w.params).get
    have args : ∀ p1 p2 p3 p4, WEL prog w g (n + 1) (fdAt w.params 280).scope [.Call (.Name (Str.ofString "list") p1) [.Name (Str.ofString "counts") p2] [] p3, .Name (Str.ofString "most") p4] (tdR cs most) fun ds ρ₁ => ds = [.list (pints cs), .int most] ∧ ρ₁ = tdR cs most := fun p1 p2 p3 p4 =>
      wel2 (we_call G.gf (by rfl) (gv_list G) True.intro (wel1 (we_name (by trivial) (pl_copy (by omega) (we_name (by trivial) ⟨rfl, rfl⟩))) rfl)) rfl rfl
    refine callWith_function (o := ⟨oc, od, .func (fdAt w.params 144), osl⟩) (fd := fdAt w.params 144) (evalArgs_plain (wpAny_mono (args _ _ _ _ env A H s _ hsc ok hA sr) (fun vs s1 h1 => ?_) noE_to))
    obtain ⟨ds, ρ1, ⟨rfl, rfl⟩, p1, v1, _, rfl, r1, v2, _, rfl, r2, rfl⟩ := h1
    have hk1 : ∀ b o, b ≠ env.locals → s.heap.get? b = some o → s1.heap.get? b = some o := fun b o hb e => p1.keep b o (fun hc => hc.elim hb fun h => by cases h) e
    refine ⟨⟨p1.sr.keep _ _ (G.kin _ _ hl144), rfl⟩, wpAny_call (codeAny_mono (cl_call_bad G hA hfr p1.sr (fun b o q => hk1 b o (fun hc => by rw [hc, hbL] at q; cases q) (hst b o q)) ?_ cs most hl hm hu r1 r2) fun r s' z => ?_)⟩
    · obtain ⟨q1, q2, q3⟩ := hfl
      obtain ⟨mm, hns, _⟩ := p1.sr.ents
      obtain ⟨oL, es, ep, hoL, hdL, _⟩ := hns
      refine ⟨q1, ⟨env.locals, oL, hff, hbL, hoL, fun vs q => by rw [hdL] at q; cases q⟩, funFrames_but hk1 q3 hne⟩
    · rcases r with e | (v | _ | _ | _) <;> first | exact ⟨s1, p1, z⟩ | exact z.elim
  · obtain ⟨s1, p1, a, t, h', tk, rfl, rfl, hfly, hup, hnew⟩ := hE
    have hk1 : ∀ b o, b ≠ env.locals → s.heap.get? b = some o → s1.heap.get? b = some o := fun b o hb e => p1.keep b o (fun hc => hc.elim hb fun h => by cases h) e
    refine wpAny_looks_onW (s := { s1 with heap := h', toks := tk }) hfr hff hfly fun h₄ hheld₄ hsm₄ => ?_
    refine wpAny_landsW (s := { s1 with heap := h₄, toks := tk }) hheld₄ fun h₅ hfl5 hsm₅ => ?_
    have hg5' : ∀ b o, g.get? b = some o → h₅.get? b = some o := fun b o q => hfl5.1 b o (hgb b o q)
    have hC : h₅.get? 52 = some bbObj := hg5' _ _ (G.kin _ _ (bb_get w.params))
    obtain ⟨oe, he, hec⟩ := hfl5.there
    refine wpAny_handleBy_cons (codeAny_handlers_test (gnameH (s := { s1 with heap := h₅, toks := tk }) G.gf ok hg5' (hlk _ _ (by rfl)) (gt_BadBits G) ?_ (by decide))) (by intro q; cases q)
    obtain ⟨hp1, g1, d1, t1, os1⟩ := s1
    refine wpAny_excMatches_sub_self (h := h₅) hC he hec (by decide) ?_
    refine codeAny_handlers_suite (lands_againW (s := ⟨h₅, g1, d1, tk, os1⟩) hfl5 fun h₆ hfl6 hsm₆ => ?_)
    refine wpAny_execs_cons (wpAny_Return_some (wpAny_Constant_none ?_))
    refine ⟨rfl, h₆, tk, ?_, hfl6.1, ?_⟩
    · obtain ⟨hh, t2, e2⟩ := p1.same
      injection e2 with e21 e22 e23 e24 e25
      subst e22 e23 e25
      rfl
    · have u1 : UpS env.locals s.heap hp1 := fun b o hb q _ => ⟨o.slots, hk1 b o hb q⟩
      exact (((u1.then hup).then hsm₄).then hsm₅).then hsm₆
end
section
variable {prog : Program} {w : World} {g : Heap} {n : Nat} {sc : Scope} {ρ ρ' : List Ent} {mg mb : Str → Option Value}
theorem wx_try {body : List Stmt} {h₀ : ExceptHandler} {hs : List ExceptHandler} {pos : Pos} {K : Fl → List Ent → Prop} (h : WS prog w g n sc body ρ fun fl ρ' => ∃ d, fl = .ret d ∧ K (.ret d) ρ') : WX prog w g n sc (.Try body (h₀ :: hs) [] [] pos) ρ K := by
  intro env A H s hsc ok hA sr
  refine wpAny_Try_except (wpAny_mono (h env A H s hsc ok hA sr) (fun f s1 h1 => ?_) noE_to)
  obtain ⟨fl, ρ1, ⟨d, rfl, k1⟩, p1, v, rfl, r1⟩ := h1
  exact ⟨.ret d, ρ1, k1, p1, v, rfl, r1⟩
theorem walk_told_ok (G : GG (KK w.params) g mg mb) (cs : List Int) (most : Nat) (hl : cs.length ≤ 5) (hm : 1 ≤ most ∧ most ≤ 4) (hu : (signsF cs).length ≤ 2 ^ most) (hn : 2 ≤ n) (hlen : (lensF cs most).length ≤ 1000) (cl : List (Str × Addr)) :
    WS prog w g n (fdAt w.params 280).scope (bodyAt w.params 280) (ents0 [(Str.ofString "counts", .val (.list (pints cs))), (Str.ofString "most", .val (.int most))] cl (fdAt w.params 280).scope.names) fun fl _ => fl = .ret (.list (pints (lensF cs most))) := by
  obtain ⟨n, rfl⟩ : ∃ n', n = n' + 1 := ⟨n - 1, by omega⟩
  show WS prog w g (n + 1) _ _ (tdR cs most) _
  have hg5 : (pints cs).length = cs.length := List.length_map ..
  have hg6 : (pints (lensF cs most)).length = (lensF cs most).length := List.length_map ..
  refine ws_cons (wx_try (ws_cons (wx_ret (we_call G.gf (by rfl) (gv_list G) True.intro (wel1 (wd2 G (fn144 w.params) (gt_code_lengths G) (b144 w.params) (by rfl) (by rfl) (by decide) (we_call G.gf (by rfl) (gv_list G) True.intro (wel1 (we_name (by trivial) (pl_copy (by omega) (we_name (by trivial) ⟨_, fun cl => walk_cl G cs most hl hm hu (by omega) cl, pl_copy (by omega) ⟨_, rfl, rfl⟩⟩))) rfl)) (by rfl)) rfl)))))
noncomputable def Passed (base : Heap) (s s' : Shared) : Prop := ∃ h' tk, s' = { s with heap := h', toks := tk } ∧ base.StaysIn h' ∧ s.heap.UpToSlots h'
theorem call_caught {K : Frag} (G : GG K g mg mb) {a : Addr} {fd : FuncData} {body : List Stmt} (F : FnOk K a fd body) {A : Around} {outer : List Env} {base : Heap} {env : Env} {H : Addr → Prop} {s : Shared} {x y : Str} {d₁ d₂ : PV} {v₁ v₂ : Value} (hA : Room (n + 1) A) (hfr : A.frames = some outer) (sr : SR w.params g env H ρ s.heap) (hst : base.StaysIn s.heap) (hfl : s.heap.FunFrames base outer)
    (hb : ∀ a b, bindArgs fd ⟨[a, b], []⟩ = pure [(x, a), (y, b)]) (hk : okIn fd x = true) (hk2 : okIn fd y = true) (hn : nodupB [x, y] = true)
    (hW : ∀ cl env' A' s', A'.frames = some (env' :: outer) → Room n A' → EnvOk env' → env'.scope = fd.scope → env'.frame = some env'.locals → SR w.params g env' (Tt env H ρ) (ents0 [(x, .val d₁), (y, .val d₂)] cl fd.scope.names) s'.heap → base.StaysIn s'.heap → base.get? env'.locals = none → s'.heap.FunFrames base (env' :: outer) → (∀ e ∈ outer, e.frame ≠ some env'.locals) →
      wpAny (model prog w) A' (execs body env') (fun f s'' => f = .ret .none ∧ Caught base env'.locals s' s'') noE s') (h1 : Rd s.heap (Tt env H ρ) d₁ v₁) (h2 : Rd s.heap (Tt env H ρ) d₂ v₂) :
    codeAny (model prog w) A (.call (.ref a) ⟨[v₁, v₂], []⟩) (fun r s' => match r with | .ok (.ret v) => (fun v s' => v = .none ∧ Passed base s s') v s' | .ok _ => False | .error e => noE e s') s := by
  have efp : fps [(x, Slot.val d₁), (y, Slot.val d₂)] = [] := rfl
  have eT : (fun b => Tt env H ρ b ∨ b ∈ ([] : List Addr)) = Tt env H ρ := by funext b; simp
  have hkk : ([(x, Slot.val d₁), (y, Slot.val d₂)].all fun z => fd.scope.names.lookup z.1 == some .local || fd.scope.names.lookup z.1 == some .cell) = true := by
    have e1 : (fd.scope.names.lookup x == some .local || fd.scope.names.lookup x == some .cell) = true := hk
    have e2 : (fd.scope.names.lookup y == some .local || fd.scope.names.lookup y == some .cell) = true := hk2
    rw [List.all_cons, List.all_cons, e1, e2]; rfl
  refine fn_enterM (c := false) (vals := [v₁, v₂]) (E := noE) (Q := fun v s' => v = .none ∧ Passed base s s') (T := Tt env H ρ) (ps := [(x, .val d₁), (y, .val d₂)]) (bs := [(x, v₁), (y, v₂)]) G F hA
    (by rw [efp, eT]; exact sr.hr) (by rw [efp]; exact List.nodup_nil) (by rw [efp]; intro b hb; cases hb) (by rw [efp, eT]; exact ⟨v₁, _, rfl, ⟨v₁, rfl, h1⟩, v₂, _, rfl, ⟨v₂, rfl, h2⟩, rfl⟩) (BindsTo.of_eq (hb _ _)) hkk hn fun cl env' s2 ok' hsc' hf' hA' hL' sr' same keep hV => ?_
  have hbL : base.get? env'.locals = none := by
    cases q : base.get? env'.locals with
    | none => rfl
    | some o => rw [hst _ o q] at hL'; cases hL'
  obtain ⟨mm, hns, _⟩ := sr'.ents
  obtain ⟨oL, es, ep, hoL, hdL, _⟩ := hns
  refine wpAny_mono (hW cl env' (A.deeper env') s2 (Around.frames_deeper hfr) hA' ok' hsc' hf' sr' (fun b o q => keep b o (hst b o q)) hbL ⟨by rw [ok'.1]; decide, ⟨env'.locals, oL, hf', hbL, hoL, fun vs q => by rw [hdL] at q; cases q⟩, hfl.of_keeps fun b o q _ => ⟨o, keep b o q, rfl⟩⟩ fun e he hc => ?_) (fun f s' h => ?_) noE_to
  · obtain ⟨_, o, q1, _⟩ := hfl.mem (List.mem_filterMap.mpr ⟨e, he, hc⟩)
    rw [hL'] at q1; cases q1
  · obtain ⟨rfl, h', tk, rfl, x1, x2⟩ := h
    obtain ⟨ha, ta, rfl⟩ := same
    exact ⟨rfl, h', tk, rfl, x1, fun b o q hn => x2 b o (fun hc => by rw [hc, hL'] at q; cases q) (keep b o q) hn⟩
theorem told_call_bad (G : GG (KK w.params) g mg mb) {A : Around} {outer : List Env} {base : Heap} {env : Env} {H : Addr → Prop} {s : Shared} {v₁ v₂ : Value} (hA : Room (n + 2) A) (hfr : A.frames = some outer) (sr : SR w.params g env H ρ s.heap) (hst : base.StaysIn s.heap) (hgb : ∀ a o, g.get? a = some o → base.get? a = some o) (hfl : s.heap.FunFrames base outer)
    (cs : List Int) (most : Nat) (hl : cs.length ≤ 5) (hm : 1 ≤ most ∧ most ≤ 4) (hu : 2 ^ most < (signsF cs).length) (h1 : Rd s.heap (Tt env H ρ) (.list (pints cs)) v₁) (h2 : Rd s.heap (Tt env H ρ) (.int most) v₂) :
    codeAny (model prog w) A (.call (.ref 280) ⟨[v₁, v₂], []⟩) (fun r s' => match r with | .ok (.ret v) => (fun v s' => v = .none ∧ Passed base s s') v s' | .ok _ => False | .error e => noE e s') s :=
  call_caught G (fn280 w.params) hA hfr sr hst hfl (b280 w.params) (by rfl) (by rfl) (by decide) (fun cl env' A' s' x1 x2 x3 x4 x5 x6 x7 x8 x9 x10 => told_bad G x2 x1 x3 x4 x5 cs most hl hm hu x6 x7 hgb x8 x9 x10) h1 h2
end
section
theorem upto_ne {P : Params} {g : Heap} {env : Env} {H : Addr → Prop} {ρ : List Ent} {h : Heap} (sr : SR P g env H ρ h) {h' : Heap} (h1 : (hideAll h [env.locals]).StaysIn h') : ∀ b o, b ≠ env.locals → h.get? b = some o → h'.get? b = some o :=
  fun b o hb e => h1 b o (hideAll_get _ e fun hc => hb (List.mem_singleton.mp hc))
theorem SR.upto {P : Params} {g : Heap} {env : Env} {H : Addr → Prop} {ρ : List Ent} {h : Heap} (sr : SR P g env H ρ h) {h' : Heap} (h1 : (hideAll h [env.locals]).StaysIn h') (h2 : h.UpToSlots h') : SR P g env H ρ h' := by
  have k := upto_ne sr h1
  have hL := (sr.dom env.locals (.inr (.inl rfl))).2
  have hnd := (List.nodup_cons.mp sr.nd).1
  obtain ⟨m, hns, he⟩ := sr.ents
  refine ⟨fun a o e => k a o (fun hc => by rw [hc, hL] at e; cases e) (sr.keep a o e), sr.nd, sr.sep, fun a ha => ⟨?_, (sr.dom a ha).2⟩, sr.names, m, h2.ns hns, fun e hm => (he e hm).other rfl (fun a o ha e' => k a o (fun hc => ?_) e') fun a ha => .inl ha⟩
  · obtain ⟨o, ho⟩ := Option.isSome_iff_exists.mp (sr.dom a ha).1
    by_cases hc : a = env.locals
    · obtain ⟨o', es, ep, q, qd, _⟩ := h2.ns hns
      rw [hc, q]; rfl
    · rw [k a o hc ho]; rfl
  · rcases ha with ha | ha
    · exact ha (.inr (.inl hc))
    · exact hnd (hc ▸ fp_sub hm ha)
variable {prog : Program} {w : World} {g : Heap} {n : Nat} {sc : Scope} {ρ ρ' : List Ent} {mg mb : Str → Option Value}
noncomputable def WSL (prog : Program) (w : World) (g : Heap) (n : Nat) (sc : Scope) (b : List Stmt) (ρ : List Ent) (K : Fl → List Ent → Prop) : Prop :=
  ∀ (env : Env) (A : Around) (H : Addr → Prop) (s : Shared), env.scope = sc → EnvOk env → Room n A → A.frames = some [env] → env.frame = some env.locals → SR w.params g env H ρ s.heap →
    wpM true (model prog w) A (execs b env) (fun f s' => RSs w.params g env H ρ s K f s') noE s
noncomputable def WXL (prog : Program) (w : World) (g : Heap) (n : Nat) (sc : Scope) (st : Stmt) (ρ : List Ent) (K : Fl → List Ent → Prop) : Prop :=
  ∀ (env : Env) (A : Around) (H : Addr → Prop) (s : Shared), env.scope = sc → EnvOk env → Room n A → A.frames = some [env] → env.frame = some env.locals → SR w.params g env H ρ s.heap →
    wpM true (model prog w) A (exec st env) (fun f s' => RSs w.params g env H ρ s K f s') noE s
theorem wsl_of {b : List Stmt} {K : Fl → List Ent → Prop} (h : WSM true prog w g n sc b ρ K) : WSL prog w g n sc b ρ K := fun env A H s h1 h2 h3 _ _ h4 => h env A H s h1 h2 h3 h4
theorem wxl_of {b : Stmt} {K : Fl → List Ent → Prop} (h : WXM true prog w g n sc b ρ K) : WXL prog w g n sc b ρ K := fun env A H s h1 h2 h3 _ _ h4 => h env A H s h1 h2 h3 h4
theorem wsl_cons {st : Stmt} {r : List Stmt} {K : Fl → List Ent → Prop} (h : WXL prog w g n sc st ρ (After K fun ρ₁ => WSL prog w g n sc r ρ₁ K)) : WSL prog w g n sc (st :: r) ρ K := by
  intro env A H s hsc ok hA hf hl sr
  rw [execs_cons]
  refine wpM_bind (wpM_mono (h env A H s hsc ok hA hf hl sr) (fun f s1 h1 => ?_) fun _ _ x => x)
  obtain ⟨fl, ρ1, k1, p1, r1⟩ := h1
  cases fl with
  | next =>
    have : f = .next := r1
    subst this
    refine wpM_mono (k1 env A H s1 hsc ok hA hf hl p1.sr) (fun f s2 h2 => ?_) fun _ _ x => x
    obtain ⟨d, ρ2, k2, p2, r2⟩ := h2
    exact ⟨d, ρ2, k2, p1.trans p2, r2⟩
  | ret d =>
    obtain ⟨v, rfl, rv⟩ := r1
    exact wpM_pure ⟨.ret d, ρ1, k1, p1, v, rfl, rv⟩
theorem wx_told_bad (G : GG (KK w.params) g mg mb) {x : Str} {e₁ e₂ : Expr} {p p' pos spos : Pos} {cs : List Int} {most : Nat} {K : Fl → List Ent → Prop} (hl : cs.length ≤ 5) (hm : 1 ≤ most ∧ most ≤ 4) (hu : 2 ^ most < (signsF cs).length)
    (hx : sc.names.lookup (Str.ofString "_law_lengths_told") = some .globalImplicit)
    (h : WEL prog w g (n + 2) sc [e₁, e₂] ρ fun ds ρ₁ => ds = [.list (pints cs), .int most] ∧ PutK ρ₁ x (.val .none) fun ρ₂ => K .next ρ₂) (hp1 : plainE e₁ = true := by rfl) (hp2 : plainE e₂ = true := by rfl) :
    WXL prog w g (n + 2) sc (.Assign [.Name x p] (.Call (.Name (Str.ofString "_law_lengths_told") p') [e₁, e₂] [] pos) spos) ρ K := by
  intro env A H s hsc ok hA hfr hfl sr
  subst hsc
  refine wpM_of (PySem.wpAny_Assign_Name (Q := fun _ s' => _) (wpAny_mono (Q := fun v s' => ∃ ρ₁, (v = .none ∧ PutK ρ₁ x (.val .none) fun ρ₂ => K .next ρ₂) ∧ Post0 w.params g env H ρ s ρ₁ s') ?_ (fun v s1 h1 => ?_) fun _ _ x => x) (swaps_none rfl ..))
  · obtain ⟨oc, od, osl, hlk⟩ := (fn280 w.params).get
    have ho := G.kin _ _ hlk
    have hse := starEach_plain (r := [e₂]) (env := env) hp1
    refine wpAny_Call_NameR (gname G.gf ok sr hx (gt_law_lengths_told G) ?_ (by decide))
    refine PyProof.Rows.callWith_def (o := ⟨oc, od, .func (fdAt w.params 280), osl⟩) rfl (wpAny_mono (h env A H s pos rfl ok hA sr) (fun vs s1 h1 => ?_) fun _ _ x => x) hse
    obtain ⟨ds, ρ1, ⟨rfl, k1⟩, p1, r1⟩ := h1
    obtain ⟨v₁, r, rfl, rd1, v₂, r', rfl, rd2, rfl⟩ := r1
    refine ⟨p1.sr.keep _ _ ho, wpAny_call (codeAny_mono (told_call_bad G (base := hideAll s1.heap [env.locals]) (outer := [env]) hA hfr p1.sr (fun b o q => of_hideAll _ q) (fun a o q => ?_) ?_ cs most hl hm hu rd1 rd2) fun r s' hr => ?_)⟩
    · refine hideAll_get _ (p1.sr.keep a o q) fun hc => ?_
      rw [List.mem_singleton.mp hc, (p1.sr.dom env.locals (.inr (.inl rfl))).2] at q; cases q
    · obtain ⟨m, hns, _⟩ := p1.sr.ents
      obtain ⟨oL, es, ep, hoL, hdL, _⟩ := hns
      exact ⟨by rw [ok.1]; decide, ⟨env.locals, oL, hfl, hideAll_none _ (.head _), hoL, fun vs q => by rw [hdL] at q; cases q⟩, True.intro⟩
    · rcases r with e | (_ | v | _ | _)
      all_goals first | exact hr.elim | skip
      obtain ⟨rfl, h', tk, rfl, x1, x2⟩ := hr
      exact ⟨ρ1, ⟨rfl, k1⟩, p1.trans ⟨p1.sr.upto x1 x2, ⟨_, _, rfl⟩, fun b o hb q => upto_ne p1.sr x1 b o (fun hc => hb (.inl hc)) q, fun _ q => .inl q, rfl⟩⟩
  · obtain ⟨ρ1, ⟨rfl, ρ2, hput, k1⟩, p1⟩ := h1
    exact store_val ok p1.sr hput rfl fun s3 q => ⟨.next, ρ2, k1, p1.trans q, rfl⟩
end
section
variable {prog : Program} {w : World} {g : Heap} {n : Nat} {sc : Scope} {ρ ρ' : List Ent} {mg mb : Str → Option Value}
theorem we_draw (G : GG (KK w.params) g mg mb) {e : Expr} {a : Addr} {cs : List Int} {k : Nat} {p p' pos : Pos} {K : PV → List Ent → Prop} (hl : cs.length ≤ 40) (hc : ∀ c ∈ cs, 0 ≤ c ∧ c < 1000000007) (hk : k ≤ 100)
    (hx : At ρ (Str.ofString "deck") (.dct a (deckE cs k)))
    (h : WE prog w g (n + 1) sc e ρ fun d ρ₁ => OfInt d fun b => 1 ≤ b ∧ b ≤ 9 ∧ ∀ v, 0 ≤ v → v < b → SwK ρ₁ (Str.ofString "deck") (.dct a (deckE cs k)) (.dct a (deckE cs (k + 1))) fun ρ₂ => K (.int v) ρ₂)
    (hn : sc.names.lookup (Str.ofString "_law_draw") = some .globalImplicit := by rfl) (hp : plainE e = true := by rfl) :
    WE prog w g (n + 1) sc (.Call (.Name (Str.ofString "_law_draw") p) [.Name (Str.ofString "deck") p', e] [] pos) ρ K := by
  refine we_def G (fn258 w.params) (gt_law_draw G) (xs := [Str.ofString "deck", Str.ofString "below"]) (wal_o hx (wal_e (h.mono fun d ρ1 k1 => ?_) hp)) (bind2 (b258 w.params)) hn
  obtain ⟨b, rfl, b1, b2, k1⟩ := k1
  obtain ⟨ρ0, sw0, _⟩ := k1 0 (by omega) (by omega)
  refine wal_nil (con_self (ds := [.int b]) (old := .dct a (deckE cs k)) rfl rfl rfl sw0.at (by rfl) fun cl => wsm_of ((walk_draw G a cs k b hl hc hk ⟨b1, b2⟩ cl).mono fun fl ρ2 h2 => ?_))
  obtain ⟨v, at', ce, rfl, v1, v2, rfl⟩ := h2
  obtain ⟨ρ3, sw, k3⟩ := k1 v v1 v2
  exact ⟨.dct a (deckE cs (k + 1)), ρ3, rfl, rfl, ⟨_, _, .head _⟩, sw, k3⟩
theorem rd_counts (G : GG (KK w.params) g mg mb) : Rd g (fun _ => False) (.list (pints [0, 1, 2, 4, 8, 16, 3, 5])) (.ref 246) := by
  have hk : ∃ o, (KK w.params).lookup 246 = some o := ⟨_, rfl⟩
  exact ⟨246, _, rfl, fun h => h, ⟨_, G.kin _ _ rfl⟩, _, _, rfl, ⟨_, rfl⟩, _, _, rfl, ⟨_, rfl⟩, _, _, rfl, ⟨_, rfl⟩, _, _, rfl, ⟨_, rfl⟩, _, _, rfl, ⟨_, rfl⟩, _, _, rfl, ⟨_, rfl⟩, _, _, rfl, ⟨_, rfl⟩, _, _, rfl, ⟨_, rfl⟩, rfl⟩
end
section
noncomputable def lowB (h k : Nat) : List Nat := (List.range k).map fun i => h / 2 ^ i % 2
noncomputable def bitsB (bs : List UInt8) : List Nat := bs.flatMap fun x => lowB x.toNat 8
noncomputable def codeB (c m : Nat) : List Nat := ((List.range m).map fun i => c / 2 ^ i % 2).reverse
@[simp] theorem lowB_len (h k : Nat) : (lowB h k).length = k := by simp [lowB]
theorem lowB_zero (h : Nat) : lowB h 0 = [] := rfl
theorem lowB_succ (h k : Nat) : lowB h (k + 1) = h % 2 :: lowB (h / 2) k := by
  unfold lowB
  rw [List.range_succ_eq_map, List.map_cons, List.map_map]
  refine congr (congrArg List.cons (by simp)) (List.map_congr_left fun i _ => ?_)
  show h / 2 ^ (i + 1) % 2 = h / 2 / 2 ^ i % 2
  rw [Nat.div_div_eq_div_mul, Nat.pow_succ, Nat.mul_comm 2]
theorem lowB_app : ∀ (a h b : Nat), lowB h (a + b) = lowB h a ++ lowB (h / 2 ^ a) b := by
  intro l0
  induction l0 with
  | zero => exact @fun h b => by simp [lowB_zero]
  | succ a ih =>
    intro h b
    rw [show a + 1 + b = (a + b) + 1 by omega, lowB_succ, lowB_succ, ih, List.cons_append]
    rw [Nat.div_div_eq_div_mul, Nat.pow_succ, Nat.mul_comm 2]
theorem lowB_mod : ∀ (a h : Nat), lowB (h % 2 ^ a) a = lowB h a := by
  intro l0
  induction l0 with
  | zero => exact @fun h => rfl
  | succ a ih =>
    intro h
    rw [lowB_succ, lowB_succ]
    have h1 : h % 2 ^ (a + 1) % 2 = h % 2 := Nat.mod_mod_of_dvd _ (by rw [Nat.pow_succ]; exact Nat.dvd_mul_left ..)
    have h2 : h % 2 ^ (a + 1) / 2 = h / 2 % 2 ^ a := by
      rw [Nat.pow_succ, Nat.mul_comm, Nat.mod_mul_right_div_self]
    rw [h1, h2, ih]
theorem lowB_lo (h r k m : Nat) (hk : h < 2 ^ k) : lowB (h ||| r <<< k) (k + m) = lowB h k ++ lowB r m := by
  have e : h ||| r <<< k = r * 2 ^ k + h := by
    rw [Nat.or_comm, Nat.shiftLeft_eq, Nat.mul_comm r]
    exact (Nat.two_pow_add_eq_or_of_lt hk r).symm
  rw [lowB_app, e]
  have h1 : (r * 2 ^ k + h) / 2 ^ k = r := by
    rw [Nat.mul_comm, Nat.mul_add_div (Nat.two_pow_pos k), Nat.div_eq_of_lt hk, Nat.add_zero]
  have h2 : lowB (r * 2 ^ k + h) k = lowB h k := by
    rw [← lowB_mod k (r * 2 ^ k + h), Nat.mul_comm, Nat.mul_add_mod, lowB_mod]
  rw [h1, h2]
theorem bitsB_snoc (bs : List UInt8) (x : UInt8) : bitsB (bs ++ [x]) = bitsB bs ++ lowB x.toNat 8 := by simp [bitsB]
theorem putL_is (bs : Array UInt8) (h k : Nat) (hk : h < 2 ^ k) :
    bitsB (Mine.putL bs h k).1.toList ++ lowB (Mine.putL bs h k).2.1 (Mine.putL bs h k).2.2 = bitsB bs.toList ++ lowB h k ∧ (Mine.putL bs h k).2.2 < 8 ∧ (Mine.putL bs h k).2.1 < 2 ^ (Mine.putL bs h k).2.2 := by
  fun_induction Mine.putL bs h k with
  | case1 bs h k h8 => exact ⟨rfl, h8, hk⟩
  | case2 bs h k h8 ih =>
    have hlt : h / 256 < 2 ^ (k - 8) := by
      rw [Nat.div_lt_iff_lt_mul (by decide)]
      have : 2 ^ (k - 8) * 256 = 2 ^ k := by rw [show (256 : Nat) = 2 ^ 8 by rfl, ← Nat.pow_add]; congr 1; omega
      omega
    obtain ⟨i1, i2, i3⟩ := ih hlt
    refine ⟨?_, i2, i3⟩
    rw [i1, Array.toList_push, bitsB_snoc]
    have e1 : ((h % 256).toUInt8).toNat = h % 256 := by
      show h % 256 % 256 = h % 256
      omega
    have e2 : lowB h k = lowB (h % 256) 8 ++ lowB (h / 256) (k - 8) := by
      have := lowB_app 8 h (k - 8)
      rw [show 8 + (k - 8) = k by omega] at this
      rw [this]
      have := lowB_mod 8 h
      rw [show (2 : Nat) ^ 8 = 256 by rfl] at this ⊢
      rw [this]
    rw [e1, e2, List.append_assoc]
theorem revB_bits (c : Nat) : ∀ m, lowB (revB c m) m = codeB c m := by
  intro l0
  induction l0 with
  | zero => exact rfl
  | succ m ih =>
    rw [lowB_succ]
    have hb : (c >>> m) &&& 1 = c / 2 ^ m % 2 := by rw [Nat.and_one_is_mod, Nat.shiftRight_eq_div_pow]
    have e : revB c (m + 1) = 2 * revB c m + c / 2 ^ m % 2 := by
      show (revB c m <<< 1) ||| ((c >>> m) &&& 1) = _
      rw [hb, Nat.shiftLeft_eq, Nat.pow_one, Nat.mul_comm]
      have := Nat.two_pow_add_eq_or_of_lt (i := 1) (b := c / 2 ^ m % 2) (by omega) (revB c m)
      rw [Nat.pow_one] at this
      exact this.symm
    have e1 : (2 * revB c m + c / 2 ^ m % 2) % 2 = c / 2 ^ m % 2 := by omega
    have e2 : (2 * revB c m + c / 2 ^ m % 2) / 2 = revB c m := by omega
    rw [e, e1, e2, ih]
    unfold codeB
    rw [List.range_succ, List.map_append, List.reverse_append]; rfl
noncomputable def WrOk (P : Array UInt8 × Nat × Nat) (B : List Nat) : Prop := P.2.2 < 8 ∧ P.2.1 < 2 ^ P.2.2 ∧ B = bitsB P.1.toList ++ lowB P.2.1 P.2.2
theorem WrOk.start : WrOk (#[], 0, 0) [] := ⟨by decide, by decide, rfl⟩
theorem WrOk.put {P : Array UInt8 × Nat × Nat} {B : List Nat} (h : WrOk P B) (c m : Nat) : WrOk (Mine.putL P.1 (P.2.1 ||| revB c m <<< P.2.2) (P.2.2 + m)) (B ++ codeB c m) := by
  obtain ⟨h1, h2, rfl⟩ := h
  have hlt : P.2.1 ||| revB c m <<< P.2.2 < 2 ^ (P.2.2 + m) := by
    refine Nat.or_lt_two_pow (Nat.lt_of_lt_of_le h2 (Nat.pow_le_pow_right (by decide) (by omega))) ?_
    rw [Nat.shiftLeft_eq, Nat.pow_add, Nat.mul_comm]
    exact Nat.mul_lt_mul_of_pos_left (revB_lt c m) (Nat.two_pow_pos _)
  obtain ⟨i1, i2, i3⟩ := putL_is P.1 _ _ hlt
  refine ⟨i2, i3, ?_⟩
  rw [i1, lowB_lo _ _ _ _ h2, revB_bits, List.append_assoc]
theorem bitsB_len : ∀ bs : List UInt8, (bitsB bs).length = 8 * bs.length := by
  intro l0
  induction l0 with
  | nil => exact rfl
  | cons x bs ih =>
    show (lowB x.toNat 8 ++ bitsB bs).length = _
    rw [List.length_append, ih]; simp; omega
theorem WrOk.size {P : Array UInt8 × Nat × Nat} {B : List Nat} (h : WrOk P B) : B.length = 8 * P.1.size + P.2.2 := by
  obtain ⟨_, _, rfl⟩ := h
  simp [bitsB_len]
theorem lowB_wide : ∀ (k h m : Nat), h < 2 ^ k → lowB h (k + m) = lowB h k ++ List.replicate m 0 := by
  intro k h m hk
  rw [lowB_app, Nat.div_eq_of_lt hk]
  congr 1
  unfold lowB
  simp
  rw [List.map_const', List.length_range]
theorem align_is {P : Array UInt8 × Nat × Nat} {B : List Nat} (h : WrOk P B) : bitsB (alignL P).1.toList = B ++ List.replicate ((8 - B.length % 8) % 8) 0 := by
  have hs := h.size
  obtain ⟨h1, h2, rfl⟩ := h
  obtain ⟨bs, hh, k⟩ := P
  dsimp only at *
  have hm : (bitsB bs.toList ++ lowB hh k).length % 8 = k := by omega
  rw [hm]
  unfold alignL
  split
  · rename_i h0
    dsimp only at *
    have e : hh ||| 0 <<< k = hh := by simp
    rw [e, show k + (8 - k) = 8 by omega]
    have h8 : hh < 2 ^ 8 := Nat.lt_of_lt_of_le h2 (Nat.pow_le_pow_right (by decide) (by omega))
    obtain ⟨i1, i2, i3⟩ := putL_is bs hh 8 h8
    have i4 : (Mine.putL bs hh 8).2.2 = 0 := by
      rw [Mine.putL, if_neg (by decide), Mine.putL, if_pos (by decide)]
    rw [i4, lowB_zero, List.append_nil] at i1
    rw [i1, List.append_assoc]
    congr 1
    have := lowB_wide k hh (8 - k) h2
    rw [show k + (8 - k) = 8 by omega] at this
    rw [this, Nat.mod_eq_of_lt (by omega : 8 - k < 8)]
  · rename_i h0
    have : k = 0 := by dsimp only at h0; omega
    subst this
    simp [lowB_zero]
theorem byte_sum (x : Nat) (hx : x < 256) : ((List.range 8).map fun k => ((x / 2 ^ k % 2 : Nat) : Int) * 2 ^ k).sum = x := by
  have h : ∀ y : Fin 256, ((List.range 8).map fun k => ((y.val / 2 ^ k % 2 : Nat) : Int) * 2 ^ k).sum = (y.val : Int) := by decide +kernel
  exact h ⟨x, hx⟩
theorem bitsB_get : ∀ (bs : List UInt8) (i k : Nat), i < bs.length → k < 8 → (bitsB bs).getD (8 * i + k) 0 = (bs.getD i 0).toNat / 2 ^ k % 2
  | [], i, k, h, _ => absurd h (Nat.not_lt_zero _)
  | x :: bs, 0, k, _, hk => by
    show (lowB x.toNat 8 ++ bitsB bs).getD (8 * 0 + k) 0 = _
    rw [Nat.mul_zero, Nat.zero_add, List.getD_eq_getElem?_getD, List.getElem?_append_left (by simpa using hk)]
    unfold lowB
    rw [List.getElem?_map, List.getElem?_range hk]; rfl
  | x :: bs, i + 1, k, h, hk => by
    show (lowB x.toNat 8 ++ bitsB bs).getD (8 * (i + 1) + k) 0 = _
    rw [List.getD_eq_getElem?_getD, List.getElem?_append_right (by simp; omega), lowB_len, show 8 * (i + 1) + k - 8 = 8 * i + k by omega, ← List.getD_eq_getElem?_getD, bitsB_get bs i k (by simpa using h) hk]; rfl
noncomputable def nints (l : List Nat) : List Int := l.map fun (x : Nat) => (x : Int)
theorem nints_len (l : List Nat) : (nints l).length = l.length := by simp [nints]
theorem nints_app (a b : List Nat) : nints (a ++ b) = nints a ++ nints b := by simp [nints]
theorem packF_bits (bs : List UInt8) (B : List Nat) (h : bitsB bs = B ++ List.replicate ((8 - B.length % 8) % 8) 0) : packF (nints B) = bs.map fun x => (x.toNat : Int) := by
  have e0 : padF (nints B) = nints (bitsB bs) := by
    rw [h, nints_app]
    unfold padF
    congr 1
    rw [nints_len]
    rw [pad8]; simp [nints]
  unfold packF
  rw [e0, nints_len, bitsB_len, Nat.mul_div_cancel_left _ (by decide)]
  refine List.ext_getElem (by simp) fun i h1 h2 => ?_
  have hi : i < bs.length := by simpa using h2
  rw [List.getElem_map, List.getElem_map, List.getElem_range]
  unfold byteF
  have e1 : ((List.range 8).map fun k => (nints (bitsB bs)).getD (8 * i + k) 0 * 2 ^ k) = (List.range 8).map fun k => (((bs[i]).toNat / 2 ^ k % 2 : Nat) : Int) * 2 ^ k := by
    refine List.map_congr_left fun k hk => ?_
    have hk8 := List.mem_range.mp hk
    have := bitsB_get bs i k hi hk8
    rw [List.getD_eq_getElem?_getD (l := bs), List.getElem?_eq_getElem hi] at this
    have e2 : (nints (bitsB bs)).getD (8 * i + k) 0 = (((bitsB bs).getD (8 * i + k) 0 : Nat) : Int) := by
      unfold nints
      rw [List.getD_eq_getElem?_getD, List.getD_eq_getElem?_getD, List.getElem?_map]
      cases (bitsB bs)[8 * i + k]? <;> rfl
    rw [e2, this]; rfl
  rw [e1, byte_sum _ (bs[i]).toNat_lt]
noncomputable def remB (b : Array UInt8) (r : RS) : List Nat := lowB r.left r.many ++ bitsB (b.toList.drop r.at_)
noncomputable def InvR (b : Array UInt8) (r : RS) : Prop := r.at_ ≤ b.size ∧ r.left < 2 ^ r.many ∧ r.many ≤ 8
theorem rem_step {b : Array UInt8} {r : RS} {x : Nat} {xs : List Nat} (h : InvR b r) (he : remB b r = x :: xs) : okR b r ∧ bitR b r = x ∧ InvR b (nextR b r) ∧ remB b (nextR b r) = xs := by
  obtain ⟨h1, h2, h3⟩ := h
  have hok : 1 ≤ r.many ∨ r.at_ < b.size := by
    by_cases c : 1 ≤ r.many
    · exact .inl c
    · refine .inr ?_
      rcases Nat.lt_or_ge r.at_ b.size with h | h
      · exact h
      · have : r.many = 0 := by omega
        unfold remB at he
        rw [this, lowB_zero, List.drop_eq_nil_of_le (by simpa using h)] at he
        cases he
  refine ⟨⟨h1, hok, h2, h3⟩, ?_⟩
  have fin : ∀ (a l m : Nat), fillR b r = ⟨a, l, m + 1⟩ → a ≤ b.size → l < 2 ^ (m + 1) → m + 1 ≤ 8 → lowB l (m + 1) ++ bitsB (b.toList.drop a) = x :: xs → bitR b r = x ∧ InvR b (nextR b r) ∧ remB b (nextR b r) = xs := by
    intro a l m hf ha hl hm hx
    unfold bitR nextR InvR remB
    rw [hf]
    dsimp only
    rw [lowB_succ, List.cons_append] at hx
    injection hx with e1 e2
    rw [Nat.shiftRight_eq_div_pow, Nat.pow_one, Nat.add_sub_cancel]
    exact ⟨e1, ⟨ha, by rw [Nat.pow_succ] at hl; omega, by omega⟩, e2⟩
  obtain ⟨ra, rl, rm⟩ := r
  dsimp only at *
  cases rm with
  | succ m => exact fin ra rl m (by unfold fillR; rw [if_neg (by dsimp only; omega)]) h1 h2 h3 he
  | zero =>
    have hlt : ra < b.size := hok.elim (fun h => absurd h (by decide)) id
    have hl0 : rl = 0 := by simpa using h2
    subst hl0
    refine fin (ra + 1) (b.toList.getD ra 0).toNat 7 ?_ hlt ?_ (by decide) ?_
    · unfold fillR
      rw [if_pos (Nat.lt_succ_self 0)]
      simp
    · exact (b.toList.getD ra 0).toNat_lt
    · unfold remB at he
      dsimp only at he
      have hlt' : ra < b.toList.length := by simpa using hlt
      rw [lowB_zero, List.nil_append, List.drop_eq_getElem_cons hlt'] at he
      have : b.toList.getD ra 0 = b.toList[ra] := by rw [List.getD_eq_getElem?_getD, List.getElem?_eq_getElem hlt']; rfl
      rw [this]
      exact he
theorem rem_read {b : Array UInt8} : ∀ (p : List Nat) {r : RS} {rest : List Nat}, InvR b r → remB b r = p ++ rest → ∃ r', RdBits b r p r' ∧ InvR b r' ∧ remB b r' = rest := by
  intro l0
  induction l0 with
  | nil => exact @fun r rest h he => ⟨r, .nil, h, he⟩
  | cons x p ih =>
    intro r rest h he
    obtain ⟨k1, k2, k3, k4⟩ := rem_step h he
    obtain ⟨r', a, b', c⟩ := ih k3 k4
    exact ⟨r', k2 ▸ .cons k1 a, b', c⟩
end
section
theorem pack_is {P : Array UInt8 × Nat × Nat} {B : List Nat} (h : WrOk P B) : byteArr (packF (nints B)) = (alignL P).1 := by
  rw [packF_bits _ _ (align_is h)]
  refine Array.ext' ?_
  show (((alignL P).1.toList.map fun x => (x.toNat : Int)).map fun n => n.toNat.toUInt8) = _
  rw [List.map_map]
  conv => rhs; rw [← List.map_id (alignL P).1.toList]
  refine List.map_congr_left fun x _ => ?_
  show (((x.toNat : Nat) : Int).toNat).toUInt8 = x
  rw [Int.toNat_natCast]
  exact UInt8.ofNat_toNat
theorem InvR.start (b : Array UInt8) : InvR b ⟨0, 0, 0⟩ ∧ remB b ⟨0, 0, 0⟩ = bitsB b.toList := ⟨⟨Nat.zero_le _, by decide, by decide⟩, rfl⟩
noncomputable def cN (ls : List Int) (u : Int) : Nat := ((canonF ls).getD u.toNat 0).toNat
noncomputable def mN (ls : List Int) (u : Int) : Nat := (ls.getD u.toNat 0).toNat
noncomputable def signB (ls : List Int) (u : Int) : List Nat := codeB (cN ls u) (mN ls u)
noncomputable def rowB (ls : List Int) (row : List Int) : List Nat := row.flatMap (signB ls)
structure LawCode (ls U : List Int) : Prop where
  len : ls.length ≤ 5
  rng : ∀ l ∈ ls, 0 ≤ l ∧ l ≤ 4
  hcode : ∀ i, i ≤ 17 → (codeF (manyF ls) i).natAbs < 2 ^ 50 ∧ ((manyF ls).getD i 0).natAbs < 2 ^ 50
  sgn : ∀ u ∈ U, 0 ≤ u ∧ u.toNat < ls.length
  clen : (canonF ls).length = ls.length
  eqc : ∀ u ∈ U, (canonF ls).getD u.toNat 0 = (codesF ls).getD u.toNat 0
  nn : ∀ u ∈ U, 0 ≤ (canonF ls).getD u.toNat 0 ∧ (canonF ls).getD u.toNat 0 < 100
  ok : CodesOk ls
  dec : ∀ u ∈ U, decD (countsF ls) (signsOf (countsF ls) ls) 1 0 0 0 (signB ls u) = some (u, [])
theorem rowB_snoc (ls row : List Int) (u : Int) : rowB ls (row ++ [u]) = rowB ls row ++ signB ls u := by simp [rowB]
theorem signB_len (ls : List Int) (u : Int) : (signB ls u).length = mN ls u := by simp [signB, codeB]
theorem mN_le {ls : List Int} (h : ∀ l ∈ ls, 0 ≤ l ∧ l ≤ 4) (u : Int) : mN ls u ≤ 4 := by
  unfold mN
  rw [List.getD_eq_getElem?_getD]
  cases e : ls[u.toNat]? with
  | none => simp
  | some l =>
    have := h l (List.mem_of_getElem? e)
    simp; omega
theorem rowB_len {ls : List Int} (h : ∀ l ∈ ls, 0 ≤ l ∧ l ≤ 4) : ∀ row : List Int, (rowB ls row).length ≤ 4 * row.length := by
  intro l0
  induction l0 with
  | nil => exact Nat.zero_le _
  | cons u row ih =>
    show (signB ls u ++ rowB ls row).length ≤ _
    rw [List.length_append, signB_len]
    have := ih
    have := mN_le h u
    simp only [List.length_cons]; omega
theorem signB_ints (ls : List Int) (u : Int) (h0 : 0 ≤ (canonF ls).getD u.toNat 0) : nints (signB ls u) = (List.range (mN ls u)).reverse.map fun k => Int.fmod (Int.fdiv ((canonF ls).getD u.toNat 0) (2 ^ k)) 2 := by
  unfold signB codeB nints cN
  rw [← List.map_reverse, List.map_map]
  refine List.map_congr_left fun k _ => ?_
  generalize (canonF ls).getD u.toNat 0 = z at h0 ⊢
  obtain ⟨m, rfl⟩ := Int.eq_ofNat_of_zero_le h0
  show (((m / 2 ^ k % 2 : Nat)) : Int) = _
  have hp : (0 : Int) ≤ 2 ^ k := Int.le_of_lt (Int.pow_pos (by decide))
  rw [Int.fdiv_eq_ediv_of_nonneg _ hp, Int.fmod_eq_emod_of_nonneg _ (by decide)]
  push_cast
  rfl
theorem rowB_01 (ls row : List Int) : ∀ x ∈ nints (rowB ls row), x = 0 ∨ x = 1 := by
  intro x hx
  obtain ⟨y, hy, rfl⟩ := List.mem_map.mp hx
  obtain ⟨u, _, hy⟩ := List.mem_flatMap.mp hy
  unfold signB codeB at hy
  obtain ⟨i, _, rfl⟩ := List.mem_map.mp (List.mem_reverse.mp hy)
  omega
end
section
variable {c : Bool} {prog : Program} {w : World} {g : Heap} {n : Nat} {sc : Scope} {ρ ρ' : List Ent} {mg mb : Str → Option Value}
section
variable {M : Model} {A : Around} {E : Value → Shared → Prop} {s : Shared} {env : Env}
theorem splicedM_cons {x : Sem Value} {rest : List (Bool × Sem Value)} {Q : List Value → Shared → Prop}
    (h : wpM c M A x (fun v s₁ => wpM c M A (spliced rest) (fun vs s₂ => Q (v :: vs) s₂) E s₁) E s) : wpM c M A (spliced ((false, x) :: rest)) Q E s := by
  rw [spliced]
  refine wpM_bind (wpM_mono h (fun v s₁ h₁ => ?_) fun _ _ x => x)
  simp only [Bool.false_eq_true, if_false]
  exact wpM_bind (wpM_pure (wpM_bind (wpM_holding (wpM_mono h₁ (fun vs s₂ h₂ => wpM_pure h₂) fun _ _ x => x))))
theorem wpM_Tuple {elts : List Expr} {k : Nat} {pos : Pos} {Q : Value → Shared → Prop}
    (h : wpM c M A (spliced (backTo pos (starEach elts env)))
      (fun vs s₁ => vs.length ≤ sizeLine ∧ Q (.ref s₁.heap.objs.size) { s₁ with heap := s₁.heap.push { cls := .type "tuple", data := .seq vs.toArray } }) E s) : wpM c M A (eval (.Tuple elts k pos) env) Q E s := by
  rw [arm_eval_Tuple]
  exact wpM_bind (wpM_of (wpAny_standAt (wpM_bind (wpM_mono h (fun vs s₁ h₁ => wpM_of (wpAny_newObj_type h₁.2 (by show vs.toArray.size ≤ sizeLine; rw [List.size_toArray]; exact h₁.1))) fun _ _ x => x))))
theorem Assign_Tuple_swappedM {elts k tpos value pos} {names : List Str} {Q : Flow → Shared → Prop}
    (h : wpM c M A (eval value env) (fun v s₁ => wpAny M A (unpackItems v names.length none) (fun items s₂ =>
      wpAny M A (assignInOrder (names.reverse.map fun n => bindName env n) items.reverse) (fun _ => Q .next) E s₂) E s₁) E s)
    (hs : swapsWithSole [.Tuple elts k tpos] value pos.line env = pure false)
    (hw : swappedStores [.Tuple elts k tpos] value env = pure (some names)) :
    wpM c M A (exec (.Assign [.Tuple elts k tpos] value pos) env) Q E s := by
  rw [exec_Assign]
  refine wpM_bind (wpM_of (wpAny_standAt ?_))
  rw [hs]
  refine wpM_bind (wpM_pure ?_)
  rw [if_neg (by decide)]
  refine wpM_bind (wpM_mono h (fun v s₁ h₁ => ?_) fun _ _ x => x)
  rw [hw]
  refine wpM_bind (wpM_pure (wpM_of ?_))
  show wpAny M A (do rule "assign.swapped-stores"; let items ← unpackItems v names.length none; assignInOrder (names.reverse.map fun n => bindName env n) items.reverse; pure .next) Q E s₁
  exact wpAny_bind (wpAny_rule (wpAny_bind (wpAny_mono h₁ (fun items s₂ h₂ => wpAny_bind (wpAny_mono h₂ (fun _ _ x => wpAny_pure x) fun _ _ x => x)) fun _ _ x => x)))
end
variable (c prog w g) in
noncomputable def WOLM (n : Nat) (sc : Scope) (es : List Expr) (ρ : List Ent) (K : List Slot → List Ent → Prop) : Prop :=
  ∀ (env : Env) (A : Around) (H : Addr → Prop) (s : Shared) (pos : Pos), env.scope = sc → EnvOk env → Room n A → SR w.params g env H ρ s.heap →
    wpM c (model prog w) A (spliced (backTo pos (starEach es env))) (fun vs s' => RMs w.params g env H ρ s K vs s') noE s
theorem wolm_of {es : List Expr} {K : List Slot → List Ent → Prop} (h : WOL prog w g n sc es ρ K) : WOLM c prog w g n sc es ρ K := fun env A H s pos a b d e => wpM_of (h env A H s pos a b d e)
theorem wom_of {e : Expr} {K : Slot → List Ent → Prop} (h : WO prog w g n sc e ρ K) : WOM prog w g c n sc e ρ K := fun env A H s a b d e => wpM_of (h env A H s a b d e)
theorem wolm_cons {e : Expr} {r : List Expr} {K : List Slot → List Ent → Prop} (h : WOM prog w g c n sc e ρ fun sl ρ₁ => WOLM c prog w g n sc r ρ₁ fun sls ρ₂ => K (sl :: sls) ρ₂) (hp : plainE e = true := by rfl) : WOLM c prog w g n sc (e :: r) ρ K := by
  intro env A H s pos hsc ok hA sr
  rw [starEach_plain hp]
  refine splicedM_cons (wpM_mono (h env A H s hsc ok hA sr) (fun v s1 h1 => ?_) fun _ _ x => x)
  obtain ⟨sl, ρ1, k1, p1, v1, nd1⟩ := h1
  refine wpM_mono (k1 env A _ s1 pos hsc ok hA p1.p.sr) (fun vs s2 h2 => ?_) fun _ _ x => x
  obtain ⟨sls, ρ2, k2, p2, v2, nd2⟩ := h2
  have eT : (fun a => H a ∨ a ∈ slF (sl :: sls)) = fun a => (H a ∨ a ∈ sl.fp) ∨ a ∈ slF sls := by
    funext a; simp only [slF, List.flatMap_cons, List.mem_append]; exact propext (or_assoc.symm)
  refine ⟨sl :: sls, ρ2, k2, (p1.trans p2).mono fun a => by simp [slF], ⟨v, vs, rfl, ?_, ?_⟩, List.nodup_append.mpr ⟨nd1, nd2, fun a ha b hb e => p2.dis b hb (.inr (e ▸ ha))⟩⟩
  · rw [eT]
    refine v1.mono (fun a o ha e => p2.p.keep a o (fun hc => ?_) e) ?_
    · rcases hc with hc | hc
      · rcases ha with ha | ha
        · exact ha (.inr hc)
        · exact p1.p.sr.sep a (List.mem_cons.mpr hc) (.inr ha)
      · exact hc
    · rintro a ((h | h) | h | h)
      · exact .inl (.inl h)
      · exact (p2.new a h).imp (fun h => .inr (.inr h)) id
      · exact .inl (.inr (.inl h))
      · exact (p2.p.new a h).imp (fun h => .inr (.inr h)) id
  · rw [eT]; exact v2
theorem wxm_tupS {elts es : List Expr} {k kk : Nat} {tpos vpos pos : Pos} {K : Fl → List Ent → Prop} (h : WOLM c prog w g n sc es ρ fun sls ρ₁ => sls.length ≤ 3 ∧ (nameL elts).length = sls.length ∧ ∃ ρ₂, PutL ρ₁ ((nameL elts).reverse.zip sls.reverse) ρ₂ ∧ K .next ρ₂)
    (hw : ∀ env : Env, env.scope = sc → swappedStores [.Tuple elts k tpos] (.Tuple es kk vpos) env = pure (some (nameL elts))) : WXM c prog w g n sc (.Assign [.Tuple elts k tpos] (.Tuple es kk vpos) pos) ρ K := by
  intro env A H s hsc ok hA sr
  refine Assign_Tuple_swappedM (wpM_Tuple (wpM_mono (h env A H s vpos hsc ok hA sr) (fun vs s1 h1 => ?_) noE_to)) rfl (hw env hsc)
  obtain ⟨sls, ρ1, ⟨hl3, hl, ρ2, hp, k1⟩, p, hv, nd⟩ := h1
  have hvl := hv.length
  refine ⟨by show vs.length ≤ 2 ^ 24; omega, ?_⟩
  rw [show (nameL elts).length = vs.toArray.size by simp; omega]
  refine PySem.wpAny_unpackItems_tuple (items := vs.toArray) hA.1 ⟨_, Heap.get?_push_size _ rfl, rfl, 0, rfl⟩ fun h' hk => ?_
  have kp : ∀ b o, s1.heap.get? b = some o → h'.get? b = some o := fun b o e => hk b o (fun hb => by
    have e2 := Heap.get?_push_of_some { cls := .type "tuple", data := .seq vs.toArray } e
    rw [hb] at e2; have := Heap.lt_size e2; exact absurd this (Nat.lt_irrefl _)) (Heap.get?_push_of_some _ e)
  have sr' := p.p.sr.grow kp
  have hmem : ∀ a, a ∈ slF sls.reverse ↔ a ∈ slF sls := fun a => (slF_rev sls).mem_iff
  have eH : (fun a => H a ∨ a ∈ slF sls.reverse) = fun a => H a ∨ a ∈ slF sls := by funext a; rw [hmem]
  have sA : SAre prog w A env ((nameL elts).reverse.map fun n => bindName env n) (nameL elts).reverse := by
    generalize (nameL elts).reverse = l
    induction l with
    | nil => exact rfl
    | cons x r ih => exact ⟨x, r, rfl, fun v s Q q => wpAny_bindName q, ih⟩
  show wpAny _ _ (assignInOrder _ vs.toArray.toList.reverse) _ _ _
  refine wpAny_mono (stores ok _ _ sls.reverse vs.reverse ρ1 ρ2 { s1 with heap := h' } sA (by simpa using hl) (by rw [eH]; exact sr') (by rw [eH]; exact (hv.mono (fun b o _ e => kp b o e) fun a ha => .inl ha).rev) ((slF_rev sls).nodup_iff.mpr nd) (fun a ha => p.dis a ((hmem a).mp ha)) hp) (fun _ s2 z => ?_) fun _ _ x => x
  obtain ⟨z1, ⟨h2, t2, e2⟩, z3, z4, z5⟩ := z
  exact ⟨.next, ρ2, k1, tup_fin p ⟨h2, t2, by rw [e2]⟩ (fun b o hb e => z3 b o (fun hc => hb (hc.imp id fun h => h.imp id (hmem b).mp)) (kp b o e)) (fun b hb => (z4 b hb).imp id (hmem b).mp) z5 z1, rfl⟩
variable (c prog w g) in
noncomputable def WEM (n : Nat) (sc : Scope) (e : Expr) (ρ : List Ent) (K : PV → List Ent → Prop) : Prop :=
  ∀ (env : Env) (A : Around) (H : Addr → Prop) (s : Shared), env.scope = sc → EnvOk env → Room n A → SR w.params g env H ρ s.heap →
    wpM c (model prog w) A (eval e env) (fun v s' => REs w.params g env H ρ s K v s') noE s
variable (c prog w g) in
noncomputable def WTM (n : Nat) (sc : Scope) (e : Expr) (ρ : List Ent) (K : Bool → List Ent → Prop) : Prop :=
  ∀ (env : Env) (A : Around) (H : Addr → Prop) (s : Shared), env.scope = sc → EnvOk env → Room n A → SR w.params g env H ρ s.heap →
    wpM c (model prog w) A (isTrue e env (eval e env)) (fun b s' => RTs w.params g env H ρ s (K b) s') noE s
variable (c prog w g) in
noncomputable def WTLM (n : Nat) (sc : Scope) (op : BoolOp) (es : List Expr) (ρ : List Ent) (K : Bool → List Ent → Prop) : Prop :=
  ∀ (env : Env) (A : Around) (H : Addr → Prop) (s : Shared), env.scope = sc → EnvOk env → Room n A → SR w.params g env H ρ s.heap →
    wpM c (model prog w) A (allTrue op es env) (fun b s' => RTs w.params g env H ρ s (K b) s') noE s
theorem wem_of {e : Expr} {K : PV → List Ent → Prop} (h : WE prog w g n sc e ρ K) : WEM c prog w g n sc e ρ K := fun env A H s a b d e => wpM_of (h env A H s a b d e)
theorem wtlm_of {op : BoolOp} {es : List Expr} {K : Bool → List Ent → Prop} (h : WTL prog w g n sc op es ρ K) : WTLM c prog w g n sc op es ρ K := fun env A H s a b d e => wpM_of (h env A H s a b d e)
theorem wem_meth {K : Frag} (G : GG K g mg mb) {x m : Str} {f a dx C : Addr} {fs : List (Str × Fld)} {fd : FuncData} {body : List Stmt} {es : List Expr} {np apos pos : Pos} {xs : List Str} {Kk : PV → List Ent → Prop} (F : FnOk K f fd body) (M : MethOk K C m f)
    (hx : At ρ x (.obj a dx C fs)) (hno : fs.lookup m = none) (h : WAL prog w g (n + 1) sc es ρ fun as ρ₁ => ConM true prog w g n fd body xs (.o a :: as) ρ₁ Kk)
    (hbind : ∀ vs : List Value, vs.length = xs.length → ∀ s, (∀ b o, g.get? b = some o → s.heap.get? b = some o) → BindsTo s fd ⟨vs, []⟩ (xs.zip vs))
    (hpn : nodupB xs = true := by decide) (hp : es.all plainE = true := by rfl) (hlen : decide (es.length < 30) = true := by rfl) (hline : (apos.endLine == pos.line) = true := by rfl) (hd : (x == ("__debug__" : Str)) = false := by decide) (hn : (x == ("__classdict__" : Str)) = false := by decide) :
    WEM true prog w g (n + 1) sc (.Call (.Attribute (.Name x np) m apos) es [] pos) ρ Kk := fun env A H s a b d e => wec_meth G F M hx hno h hbind hpn hp hlen hline hd hn env A H s a b d e
theorem wtlm_or_cons {e : Expr} {r : List Expr} {K : Bool → List Ent → Prop} (h : WTM c prog w g n sc e ρ fun b ρ₁ => if b = true then K true ρ₁ else WTLM c prog w g n sc .Or r ρ₁ K) : WTLM c prog w g n sc .Or (e :: r) ρ K := by
  intro env A H s hsc ok hA sr
  show wpM c _ A (do match BoolOp.Or, ← isTrue e env (eval e env) with | .And, false => pure false | .Or, true => pure true | _, _ => allTrue .Or r env) _ _ s
  refine wpM_bind (wpM_mono (h env A H s hsc ok hA sr) (fun b s1 h1 => ?_) fun _ _ x => x)
  obtain ⟨ρ1, k1, p1⟩ := h1
  cases b with
  | true => simp only [if_true] at k1; exact wpM_pure ⟨ρ1, k1, p1⟩
  | false => simp only [Bool.false_eq_true, if_false] at k1; exact wpM_mono (k1 env A H s1 hsc ok hA p1.sr) (fun v s2 h2 => by obtain ⟨ρ2, k2, p2⟩ := h2; exact ⟨ρ2, k2, p1.trans p2⟩) fun _ _ x => x
theorem wtm_bool {op : BoolOp} {es : List Expr} {pos : Pos} {K : Bool → List Ent → Prop} (h : WTLM c prog w g n sc op es ρ K) : WTM c prog w g n sc (.BoolOp op es pos) ρ K :=
  fun env A H s hsc ok hA sr => by rw [arm_isTrue_BoolOp]; exact h env A H s hsc ok hA sr
theorem cmp_rest {M : Model} {A : Around} {E : Value → Shared → Prop} {s : Shared} {env : Env} {a : Value} {r : Expr} {op : CmpOp} {pos : Pos} {Q : Bool → Shared → Prop}
    (h : wpAny M A (eval r env) (fun b s₂ => wpAny M A (compareOp op a b) (fun c s₃ => wpAny M A (truthy c) Q E s₃) E s₂) E s) :
    wpAny M A (do let b ← holding [a] (eval r env); standAt pos; let c ← operate [a, b] (compareOp op a b); holding [c] (truthy c)) Q E s := fun Γ p hΓ => by
  simp only [Sem.wp_bind', Sem.wp_holding, Sem.wp_cmd_standAt, Sem.wp_operate]
  exact Sem.wp_mono M Γ _ (fun b _ s₂ h₂ => Sem.wp_mono M Γ _ (fun c p₃ s₃ h₃ => h₃ Γ p₃ hΓ) (fun _ _ _ h' => h') _ _ (h₂ Γ _ hΓ)) (fun _ _ _ h' => h') _ _ (h Γ p hΓ)
theorem wtm_cmp {a b : Expr} {op : CmpOp} {pos : Pos} {K : Bool → List Ent → Prop}
    (h : WEM c prog w g n sc a ρ fun d₁ ρ₁ => WE prog w g n sc b ρ₁ fun d₂ ρ₂ => PO2 prog w g n (compareOp op) d₁ d₂ fun d => OfBool d fun b => K b ρ₂)
    (hm : behindInMarks op b = false := by with_unfolding_all rfl) : WTM c prog w g n sc (.Compare a [op] [b] pos) ρ K := by
  intro env A H s hsc ok hA sr
  rw [isTrue_Compare1, markedBehindIn_of_false hm]
  refine wpM_bind (wpM_mono (h env A H s hsc ok hA sr) (fun v1 s1 h1 => wpM_of (cmp_rest ?_)) fun _ _ x => x)
  obtain ⟨d1, ρ1, k1, p1, r1⟩ := h1
  refine wpAny_mono (k1 env A H s1 hsc ok hA p1.sr) (fun v2 s2 h2 => ?_) fun _ _ x => x
  obtain ⟨d2, ρ2, k2, p2, r2⟩ := h2
  refine wpAny_mono (k2 A _ s2 v1 v2 hA p2.sr.hr (p2.rd r1) r2) (fun v s3 h3 => ?_) fun _ _ x => x
  obtain ⟨d, ⟨b, rfl, kb⟩, r, ks⟩ := h3
  have : v = .bool b := r
  subst this
  exact wpAny_truthy_bool ⟨ρ2, kb, (p1.trans p2).grow ks⟩
theorem wxm_ifM {t : Expr} {a b : List Stmt} {pos : Pos} {K : Fl → List Ent → Prop} (h : WTM c prog w g n sc t ρ fun x ρ₁ => if x = true then WSM c prog w g n sc a ρ₁ K else WSM c prog w g n sc b ρ₁ K) : WXM c prog w g n sc (.If t a b pos) ρ K := by
  intro env A H s hsc ok hA sr
  rw [exec_If]
  refine wpM_bind (wpM_of (wpAny_standAt (wpM_bind (wpM_mono (h env A H s hsc ok hA sr) (fun x s1 h1 => ?_) fun _ _ x => x))))
  obtain ⟨ρ1, k1, p1⟩ := h1
  have fin : ∀ b, WSM c prog w g n sc b ρ1 K → wpM c (model prog w) A (execs b env) (fun f s' => RSs w.params g env H ρ s K f s') noE s1 := fun e he =>
    wpM_mono (he env A H s1 hsc ok hA p1.sr) (fun v s2 h2 => by obtain ⟨d, ρ2, k2, p2, r2⟩ := h2; exact ⟨d, ρ2, k2, p1.trans p2, r2⟩) fun _ _ x => x
  cases x with
  | true => simp only [if_true] at k1 ⊢; exact fin _ k1
  | false => simp only [Bool.false_eq_true, if_false] at k1 ⊢; exact fin _ k1
theorem wem_type1 {x : Str} {T : String} {e : Expr} {p pos : Pos} {K : PV → List Ent → Prop} (G : GF g mg mb) (hx : sc.names.lookup x = some .globalImplicit) (hv : GV mg mb x (.type T))
    (h : WEM c prog w g n sc e ρ fun d ρ₁ => POL prog w g n (fun vs => call (.type T) vs) [d] fun d => K d ρ₁)
    (hp : plainE e = true := by rfl) (hd : (x == ("__debug__" : Str)) = false := by decide) : WEM c prog w g n sc (.Call (.Name x p) [e] [] pos) ρ K := by
  intro env A H s hsc ok hA sr
  subst hsc
  show wpM c _ A (do callWith pos (← eval (.Name x p) env) [] (backTo pos (starEach [e] env)) (backToKw pos (keywordEach [] env))) _ _ s
  refine wpM_bind (wpM_of (gname G ok sr hx hv ?_ hd))
  show wpM c _ A (callWith pos (.type T) [] (backTo pos (starEach [e] env)) []) _ _ s
  rw [starEach_plain hp]
  refine callWithM (by rfl) (evalArgsM (fun y hy => by cases hy) (splicedM_cons (wpM_mono (h env A H s rfl ok hA sr) (fun v s1 h1 => ?_) fun _ _ x => x)))
  obtain ⟨d, ρ1, k1, p1, r1⟩ := h1
  refine wpM_pure ⟨keep_type, wpM_of (wpAny_mono (k1 A _ s1 [v] hA p1.sr.hr ⟨v, [], rfl, r1, rfl⟩) (fun v s2 h2 => ?_) fun _ _ x => x)⟩
  obtain ⟨d', kd, rd, ks⟩ := h2
  exact ⟨d', ρ1, kd, p1.grow ks, rd⟩
end
section
variable {c : Bool} {prog : Program} {w : World} {g : Heap} {n : Nat} {sc : Scope} {ρ ρ' : List Ent} {mg mb : Str → Option Value}
noncomputable abbrev lawR (s : List Int) (c1 c2 c3 c4 c5 c6 c7 : Addr) (deck sign counts most told some' codes row bits writer reader found : Slot) : List Ent :=
  [⟨Str.ofString "script", none, .val (.list (pints s))⟩, ⟨Str.ofString "deck", some c1, deck⟩, ⟨Str.ofString "sign", some c2, sign⟩, ⟨Str.ofString "counts", none, counts⟩, ⟨Str.ofString "most", none, most⟩, ⟨Str.ofString "told", some c3, told⟩, ⟨Str.ofString "some", some c4, some'⟩, ⟨Str.ofString "codes", some c5, codes⟩, ⟨Str.ofString "row", none, row⟩, ⟨Str.ofString "bits", none, bits⟩, ⟨Str.ofString "writer", none, writer⟩, ⟨Str.ofString "reader", some c6, reader⟩, ⟨Str.ofString "found", some c7, found⟩]
noncomputable def inB (P : Params) : List Stmt := onStmt [] (fun _ _ _ _ => []) id (fun _ => []) (((bodyAt P 300).drop 6).headD (.Pass ⟨0, 0, 0, 0⟩))
noncomputable abbrev cmR (c6 c7 : Addr) (e rd fo : Slot) : List Ent := [⟨Str.ofString ".0", none, .unb⟩, ⟨Str.ofString "sign", none, e⟩, ⟨Str.ofString "reader", some c6, rd⟩, ⟨Str.ofString "found", some c7, fo⟩]
theorem we_next (G : GG (KK w.params) g mg mb) {c6 c7 a dx ra rx : Addr} {e : Slot} {C S : List Int} {b : Array UInt8} {r r' : RS} {p : List Nat} {s : Int} {np ap pp pos : Pos} {K : PV → List Ent → Prop} (hC : C.length = 16) (hS : S.length ≤ 1000) (hb : b.size ≤ 1000) (hp : RdBits b r p r') (hd : decD C S 1 0 0 0 p = some (s, []))
    (h : K (.int s) (cmR c6 c7 e (rSl ra rx b r') (cSl a dx (cF2 C S)))) (hline : (ap.endLine == pos.line) = true := by rfl) :
    WE prog w g (n + 2) sc (.Call (.Attribute (.Name (Str.ofString "found") np) (Str.ofString "next_sign") ap) [.Name (Str.ofString "reader") pp] [] pos) (cmR c6 c7 e (rSl ra rx b r) (cSl a dx (cF2 C S))) K := by
  refine we_meth G (fn238 _) (me_next_sign _) (by trivial) (by rfl) (xs := [Str.ofString "self", Str.ofString "reader"]) (wal_o (sl := rSl ra rx b r) (a := ra) (by trivial) (wal_nil ?_)) (bind2 (b238 w.params)) (hline := hline)
  refine ⟨[cSl a dx (cF2 C S), rSl ra rx b r], [(rSl ra rx b r, rSl ra rx b r), (cSl a dx (cF2 C S), cSl a dx (cF2 C S))], _, ⟨_, _, rfl, rfl, rfl, ⟨Str.ofString "found", by trivial⟩, _, _, rfl, rfl, rfl, ⟨Str.ofString "reader", by trivial⟩, rfl⟩, rfl, .same (.same (.swap (.swap .nil))), ?_, by rfl, fun cs => wsm_of ((walk_next_sign G a dx ra rx C S b r r' p s hC hS hb hp hd cs).mono fun fl ρ2 h2 => ?_)⟩
  · exact List.perm_append_comm.trans (by simp [fps, bwF])
  · obtain ⟨rfl, co, fi, ah, le, ma, rfl⟩ := h2
    refine ⟨[(rSl ra rx b r, rSl ra rx b r'), (cSl a dx (cF2 C S), cSl a dx (cF2 C S))], _, .same (.same (.swap (.swap .nil))), ?_, ?_, h⟩
    · exact List.perm_append_comm.trans (by simp [fps, bwF])
    · intro u hu
      rcases List.mem_cons.mp hu with rfl | hu
      · exact ⟨rfl, rfl, rfl, _, _, .tail _ (.head _)⟩
      · rw [List.mem_singleton.mp hu]
        exact ⟨rfl, rfl, rfl, _, _, .head _⟩
end
section
variable {c : Bool} {prog : Program} {w : World} {g : Heap} {n : Nat} {sc : Scope} {ρ ρ' : List Ent} {mg mb : Str → Option Value}
theorem walk_law_tail (G : GG (KK w.params) g mg mb) (s : List Int) (c1 c2 c3 c4 c5 c6 c7 wa wdx wl : Addr) (deck sign counts most some' codes : Slot) (ls U row : List Int) (P : Array UInt8 × Nat × Nat) (hL : LawCode ls U) (hrow : ∀ u ∈ row, u ∈ U) (hrl : row.length ≤ 8) (hP : WrOk P (rowB ls row)) (hn : 4 ≤ n) (hS : (signsOf (countsF ls) ls).length ≤ 1000) (hC : (countsF ls).length = 16) :
    WSM true prog w g n (fdAt w.params 300).scope ((inB w.params).drop 4) (lawR s c1 c2 c3 c4 c5 c6 c7 deck sign counts most (.val (.list (pints ls))) some' codes (.val (.list (pints row))) (.val (.list (pints (nints (rowB ls row))))) (pSl wa wdx wl P) .unb .unb) fun fl _ => fl = .next := by
  obtain ⟨n, rfl⟩ : ∃ n', n = n' + 4 := ⟨n - 4, by omega⟩
  obtain ⟨hLl, hLr, hLh, hLs, hLc, hLe, hLn, hLo, hLd⟩ := hL
  have hBl := rowB_len hLr row
  have hB1 : (nints (rowB ls row)).length ≤ 32 := by rw [nints_len]; omega
  have hll : (pints (nints (rowB ls row))).length = (rowB ls row).length := by simp [nints]
  have hsz := hP.size
  have hpk := pack_is hP
  have halign := align_is hP
  have hals : 8 * (alignL P).1.size ≤ 40 := by
    have := congrArg List.length halign
    rw [bitsB_len, List.length_append, List.length_replicate, Array.length_toList] at this
    omega
  show WSM true prog w g (n + 4) _ _ (lawR s c1 c2 c3 c4 c5 c6 c7 deck sign counts most (.val (.list (pints ls))) some' codes (.val (.list (pints row))) (.val (.list (pints (nints (rowB ls row))))) (pSl wa wdx wl P) .unb .unb) _
  refine wsm_cons (wxm_ifM (wtm_bool (wtlm_or_cons (wtm_cmp (wem_of (we_meth G (fn104 _) (me_size _) (by trivial) (by rfl) (xs := [Str.ofString "self"]) (wal_nil (con_self (ds := []) (old := pSl wa wdx wl P) rfl rfl rfl (by trivial) (by rfl) fun cs => wsm_of ((walk_size G wa wdx wl P (by omega) cs).mono fun fl ρ1 k1 => ?_))) (bind1 (b104 w.params))))))))
  obtain ⟨rfl, rfl⟩ := k1
  refine ⟨pSl wa wdx wl P, lawR s c1 c2 c3 c4 c5 c6 c7 deck sign counts most (.val (.list (pints ls))) some' codes (.val (.list (pints row))) (.val (.list (pints (nints (rowB ls row))))) (pSl wa wdx wl P) .unb .unb, rfl, rfl, ⟨_, _, .head _⟩, by trivial, ?_⟩
  refine we_call G.gf (by rfl) (gv_len G) True.intro (wel1 (we_name (by trivial) (pl_len (by omega) (pc_ne ⟨_, rfl, ?_⟩))) rfl)
  refine ifF (by rw [hll, hsz]; simp) ?_
  refine wtlm_or_cons (wtm_cmp (wem_type1 G.gf (by rfl) (gv_bytes G) (wem_meth G (fn125 _) (me_octets _) (by trivial) (by rfl) (xs := [Str.ofString "self"]) (wal_nil (con_self (ds := []) (old := pSl wa wdx wl P) rfl rfl rfl (by trivial) (by rfl) fun cs => wsm_mono (walk_octets G wa wdx wl P hP.1 (by omega) (by omega) cs) fun fl ρ1 k1 => ?_)) (bind1 (b125 w.params)))))
  obtain ⟨rfl, rfl⟩ := k1
  refine ⟨pSl wa wdx wl (alignL P), lawR s c1 c2 c3 c4 c5 c6 c7 deck sign counts most (.val (.list (pints ls))) some' codes (.val (.list (pints row))) (.val (.list (pints (nints (rowB ls row))))) (pSl wa wdx wl (alignL P)) .unb .unb, rfl, rfl, ⟨_, _, .head _⟩, by trivial, ?_⟩
  refine pl_bytes_bytes (wd1 G (fn295 _) (gt_law_packed G) (b295 _) (by rfl) (we_name (by trivial) ⟨_, fun cl => walk_packed G _ (by omega) (rowB_01 ls row) cl, pc_bytes_ne ⟨_, rfl, ?_⟩⟩))
  rw [hpk]
  refine ifF (by simp) ?_
  refine wtlm_of (wtl_or_nil ?_)
  refine ifF rfl ?_
  refine wsm_nil ?_
  refine wsm_cons (wxm_of (wx_tup (wol_cons (new_reader G (by rfl) (wd1 G (fn295 _) (gt_law_packed G) (b295 _) (by rfl) (we_name (by trivial) ⟨_, fun cl => walk_packed G _ (by omega) (rowB_01 ls row) cl, _, rfl, fun ra rx => ?_⟩)))) ?_))
  · rw [hpk]
    refine wol_cons (new_codes G (by rfl) (we_call G.gf (by rfl) (gv_list G) True.intro (wel1 (we_name (by trivial) (pl_copy (by simp; omega) ⟨ls, rfl, hLo, fun a dx => wol_nil ⟨by show 2 ≤ 3; decide, rfl, lawR s c1 c2 c3 c4 c5 c6 c7 deck sign counts most (.val (.list (pints ls))) some' codes (.val (.list (pints row))) (.val (.list (pints (nints (rowB ls row))))) (pSl wa wdx wl (alignL P)) (rSl ra rx (alignL P).1 ⟨0, 0, 0⟩) (cSl a dx (cF2 (countsF ls) (signsOf (countsF ls) ls))), ?_, ?_⟩⟩)) rfl)))
    · exact .cons (ρ₁ := lawR s c1 c2 c3 c4 c5 c6 c7 deck sign counts most (.val (.list (pints ls))) some' codes (.val (.list (pints row))) (.val (.list (pints (nints (rowB ls row))))) (pSl wa wdx wl (alignL P)) (rSl ra rx (alignL P).1 ⟨0, 0, 0⟩) .unb) (by trivial) (.cons (by trivial) .nil)
    · refine wsm_cons (wxm_of (wx_if (wt_cmp (we_comp [false, false, false, false, false, false, false, false, false, false, false, true, true] (wi_list (we_name (by trivial) ⟨pints row, rfl, by rfl, by simp; omega, fun C => ⟨fun i acc ρ => ∃ e r, ρ = cmR c6 c7 e (rSl ra rx (alignL P).1 r) (cSl a dx (cF2 (countsF ls) (signsOf (countsF ls) ls))) ∧ InvR (alignL P).1 r ∧ remB (alignL P).1 r = rowB ls (row.drop i) ++ List.replicate ((8 - (rowB ls row).length % 8) % 8) 0 ∧ acc = pints (row.take i), ?_, ?_, ?_⟩⟩))))))
      · exact ⟨.unb, ⟨0, 0, 0⟩, rfl, (InvR.start _).1, by rw [(InvR.start _).2]; exact halign, rfl⟩
      · rintro i hi F hF acc ρ ⟨e, r, rfl, hI, hR, rfl⟩
        have hi' : i < row.length := by simpa using hi
        obtain ⟨u, hu⟩ : ∃ u, row[i]? = some u := ⟨_, List.getElem?_eq_getElem hi'⟩
        have hum := hrow u (List.mem_of_getElem? hu)
        refine ⟨.int u, _, get_map hu, by trivial, ?_⟩
        show WE prog w g (n + 4) _ _ _ _
        have hd : row.drop i = u :: row.drop (i + 1) := by
          rw [List.drop_eq_getElem_cons hi']
          have : row[i] = u := by rw [List.getElem?_eq_getElem hi'] at hu; exact Option.some.inj hu
          rw [this]
        rw [hd] at hR
        obtain ⟨r', h1, h2, h3⟩ := rem_read (signB ls u) (rest := rowB ls (row.drop (i + 1)) ++ List.replicate ((8 - (rowB ls row).length % 8) % 8) 0) hI (by rw [hR]; show (signB ls u ++ rowB ls (row.drop (i + 1))) ++ _ = _; rw [List.append_assoc])
        refine we_next G hC hS (by omega) h1 (hLd u hum) (hF _ _ ⟨_, r', rfl, h2, h3, ?_⟩)
        rw [take_next hu]; simp
      · rintro acc ρ ⟨e, r, rfl, hI, hR, rfl⟩
        have e1 : (pints row).length = row.length := List.length_map ..
        rw [e1, List.take_length]
        refine ⟨[_, _], [_, _], rfl, rfl, ?_⟩
        refine we_name (by trivial) (pc_lne ⟨_, rfl, ?_⟩)
        exact ifF (by simp) (ws_nil (wsm_nil rfl))
  · intro env he
    cases env
    dsimp only at he
    subst he
    rfl
end
section
variable {c : Bool} {prog : Program} {w : World} {g : Heap} {n : Nat} {sc : Scope} {ρ ρ' : List Ent} {mg mb : Str → Option Value}
theorem rsize_down (m : Nat) : (Builtin.Range.rangeSize ((m : Int) - 1) (-1) (-1)).toNat = m := by
  have h1 := rangeSize_toNat ((m : Int) - 1) (-1) (-1)
  unfold Builtin.Range.rangeSize
  simp
  try omega
theorem codes_get {ls : List Int} {u : Int} (h : u.toNat < ls.length) : (pints ls)[u.toNat]? = some (.int (ls.getD u.toNat 0)) := pints_get h
theorem walk_law_for (G : GG (KK w.params) g mg mb) (s : List Int) (c1 c2 c3 c4 c5 c6 c7 wa wdx wl : Addr) (deck counts most some' sg0 : Slot) (ls U row : List Int) (hL : LawCode ls U) (hrow : ∀ u ∈ row, u ∈ U) (hrl : row.length ≤ 8) (hn : 4 ≤ n) (hS : (signsOf (countsF ls) ls).length ≤ 1000) (hC : (countsF ls).length = 16) :
    WSM true prog w g n (fdAt w.params 300).scope ((inB w.params).drop 3) (lawR s c1 c2 c3 c4 c5 c6 c7 deck sg0 counts most (.val (.list (pints ls))) some' (.val (.list (pints (canonF ls)))) (.val (.list (pints row))) (.val (.list [])) (wSl wa wdx wl #[] 0 0) .unb .unb) fun fl _ => fl = .next := by
  obtain ⟨n, rfl⟩ : ∃ n', n = n' + 4 := ⟨n - 4, by omega⟩
  have hL' := hL
  obtain ⟨hLl, hLr, hLh, hLs, hLc, hLe, hLn, hLo, hLd⟩ := hL'
  have e1 : (pints row).length = row.length := List.length_map ..
  show WSM true prog w g (n + 4) _ _ (lawR s c1 c2 c3 c4 c5 c6 c7 deck sg0 counts most (.val (.list (pints ls))) some' (.val (.list (pints (canonF ls)))) (.val (.list (pints row))) (.val (.list [])) (pSl wa wdx wl (#[], 0, 0)) .unb .unb) _
  refine wsm_gen fun K hK => ?_
  refine wsm_cons (wxc_for (wi_list (we_name (by trivial) ⟨pints row, rfl, fun i ρ => ∃ sg P, ρ = lawR s c1 c2 c3 c4 c5 c6 c7 deck sg counts most (.val (.list (pints ls))) some' (.val (.list (pints (canonF ls)))) (.val (.list (pints row))) (.val (.list (pints (nints (rowB ls (row.take i)))))) (pSl wa wdx wl P) .unb .unb ∧ WrOk P (rowB ls (row.take i)), ⟨sg0, _, rfl, WrOk.start⟩, ?_, ?_⟩)))
  · rintro i hi K2 hK2 hR2 ρ ⟨sg, P, rfl, hP⟩
    have hi' : i < row.length := by simpa using hi
    obtain ⟨u, hu⟩ : ∃ u, row[i]? = some u := ⟨_, List.getElem?_eq_getElem hi'⟩
    have hum := hrow u (List.mem_of_getElem? hu)
    obtain ⟨u0, u1⟩ := hLs u hum
    obtain ⟨n0, n1⟩ := hLn u hum
    have hBl := rowB_len hLr (row.take i)
    have htl : (row.take i).length ≤ 8 := by simp; omega
    have hsz := hP.size
    have hk := hP.1
    have hc := codes_get (ls := canonF ls) (u := u) (by omega)
    have ht := codes_get (ls := ls) (u := u) (by omega)
    have hm4 := mN_le hLr u
    have ec : (canonF ls).getD u.toNat 0 = ((cN ls u : Nat) : Int) := by unfold cN; omega
    have et : ls.getD u.toNat 0 = ((mN ls u : Nat) : Int) := by
      have : 0 ≤ ls.getD u.toNat 0 := by
        rw [List.getD_eq_getElem?_getD, List.getElem?_eq_getElem u1]
        exact (hLr _ (List.getElem_mem u1)).1
      unfold mN; omega
    refine ⟨.int u, _, get_map hu, by trivial, ?_⟩
    refine wsm_cons (wxc_meth G (fn83 _) (me_put_code _) (by trivial) (by rfl) (xs := [Str.ofString "self", Str.ofString "code", Str.ofString "many"]) (wal_e (we_sub (we_name (by trivial) ⟨rfl, we_name (by trivial) (pi_list (d := .int (cN ls u)) u0 (by omega) (by rw [hc, ec]) ?_)⟩))) (bind3 (b83 w.params)))
    refine wal_e (we_sub (we_name (by trivial) ⟨rfl, we_name (by trivial) (pi_list (d := .int (mN ls u)) u0 (by omega) (by rw [ht, et]) ?_)⟩))
    refine wal_nil (con_self (ds := [.int (cN ls u), .int (mN ls u)]) (old := pSl wa wdx wl P) rfl rfl rfl (by trivial) (by rfl) fun cs => wsm_mono (walk_put_code G wa wdx wl P.1 P.2.1 P.2.2 (cN ls u) (mN ls u) (by omega) (by omega) (by omega) cs) fun fl ρ1 k1 => ?_)
    obtain ⟨rfl, t, e, rfl⟩ := k1
    have hput := hP.put (cN ls u) (mN ls u)
    rw [show rowB ls (row.take i) ++ codeB (cN ls u) (mN ls u) = rowB ls (row.take (i + 1)) by rw [take_next hu, rowB_snoc]; rfl] at hput
    generalize Mine.putL P.1 (P.2.1 ||| revB (cN ls u) (mN ls u) <<< P.2.2) (P.2.2 + mN ls u) = P' at hput
    refine ⟨pSl wa wdx wl P', lawR s c1 c2 c3 c4 c5 c6 c7 deck (.val (.int u)) counts most (.val (.list (pints ls))) some' (.val (.list (pints (canonF ls)))) (.val (.list (pints row))) (.val (.list (pints (nints (rowB ls (row.take i)))))) (pSl wa wdx wl P') .unb .unb, rfl, rfl, ⟨_, _, .head _⟩, by trivial, ?_⟩
    have hBs : nints (rowB ls (row.take (i + 1))) = nints (rowB ls (row.take i)) ++ nints (signB ls u) := by rw [take_next hu, rowB_snoc, nints_app]
    have hsB : (nints (signB ls u)).length = mN ls u := by rw [nints_len, signB_len]
    have hz : (pints (nints (rowB ls (row.take i)))).length + (pints (nints (signB ls u))).length ≤ sizeLine := by
      have e2 : (pints (nints (rowB ls (row.take i)))).length = (rowB ls (row.take i)).length := by simp [nints]
      have e3 : (pints (nints (signB ls u))).length = (signB ls u).length := by simp [nints]
      rw [e2, e3, signB_len]
      show _ ≤ 2 ^ 24
      omega
    refine wsm_cons (wxm_of (wx_assign (we_bin (we_name (by trivial) (we_comp [false, false, true, false, false, false, false, true, false, false, false, false, false] (wi_range3 G.gf (by rfl) (gv_range G) (we_bin (we_sub (we_name (by trivial) ⟨rfl, we_name (by trivial) (pi_list (d := .int (mN ls u)) u0 (by omega) (by rw [ht, et]) (we_int (po_sub (we_neg (we_int ⟨1, rfl, we_neg (we_int ⟨1, rfl, _, _, _, rfl, rfl, rfl, by decide, by decide, by decide, by omega, by omega, by decide, by decide, by rfl, by rw [rsize_down]; omega, fun C => ⟨fun j acc ρ => ∃ o, ρ = [⟨Str.ofString ".0", none, .unb⟩, ⟨Str.ofString "k", none, o⟩, ⟨Str.ofString "sign", some c2, .val (.int u)⟩, ⟨Str.ofString "codes", some c5, .val (.list (pints (canonF ls)))⟩] ∧ acc = pints ((nints (signB ls u)).take j), ?_, ?_, ?_⟩⟩)⟩)))))⟩)))))))))
    · exact ⟨.unb, rfl, rfl⟩
    · rintro j hj F hF acc ρ ⟨o, rfl, rfl⟩
      rw [rsize_down] at hj
      refine ⟨.int ((mN ls u : Int) - 1 + (j : Nat) * (-1)), _, rangePV_get (by rw [rsize_down]; exact hj), by trivial, ?_⟩
      show WE prog w g (n + 4) _ _ _ _
      have ek : ((mN ls u : Int) - 1 + (j : Nat) * (-1)) = ((mN ls u - 1 - j : Nat) : Int) := by omega
      rw [ek]
      have hq : (nints (signB ls u))[j]? = some (Int.fmod (Int.fdiv ((cN ls u : Nat) : Int) (2 ^ (mN ls u - 1 - j))) 2) := by
        rw [signB_ints ls u n0, List.getElem?_map, List.getElem?_reverse (by simpa using hj), List.length_range, List.getElem?_range (by omega), ec]
        rfl
      refine we_bin (we_bin (we_sub (we_name (by trivial) ⟨rfl, we_name (by trivial) (pi_list (d := .int (cN ls u)) u0 (by omega) (by rw [hc, ec]) (we_bin (we_int (we_name (by trivial) (po_pow (by omega) (by omega) (by decide) (po_div ?_ ?_ (we_int (po_mod (by decide) (hF _ _ ⟨_, rfl, ?_⟩)))))))))⟩)))
      · rw [Int.toNat_natCast]; exact Int.ne_of_gt (Int.pow_pos (by decide))
      · rw [Int.toNat_natCast]
        have h1 : mN ls u - 1 - j ≤ 3 := by omega
        have h2 : ∀ k, k ≤ 3 → 0 ≤ (2 : Int) ^ k ∧ (2 : Int) ^ k ≤ 1000 := by decide
        exact div_small (h2 _ h1).1 (h2 _ h1).2
      · rw [take_next hq]; simp
    · rintro acc ρ ⟨o, rfl, rfl⟩
      refine ⟨[_, _], [_, _], rfl, rfl, ?_⟩
      rw [rsize_down, ← hsB, List.take_length]
      refine po_cat ⟨lawR s c1 c2 c3 c4 c5 c6 c7 deck (.val (.int u)) counts most (.val (.list (pints ls))) some' (.val (.list (pints (canonF ls)))) (.val (.list (pints row))) (.val (.list (pints (nints (rowB ls (row.take (i + 1))))))) (pSl wa wdx wl P') .unb .unb, ?_, ?_⟩ hz
      · rw [hBs]
        have : ∀ a b : List Int, pints a ++ pints b = pints (a ++ b) := fun a b => by simp
        rw [this]; trivial
      · exact wsm_nil (hK2 _ ⟨_, P', rfl, hput⟩)
  · rintro ρ ⟨sg, P, rfl, hP⟩
    rw [e1, List.take_length] at hP ⊢
    exact wsm_mono (walk_law_tail G s c1 c2 c3 c4 c5 c6 c7 wa wdx wl deck sg counts most some' _ ls U row P hL hrow hrl hP (by omega) hS hC) hK
end
section
variable {c : Bool} {prog : Program} {w : World} {g : Heap} {n : Nat} {sc : Scope} {ρ ρ' : List Ent} {mg mb : Str → Option Value}
theorem walk_law_in (G : GG (KK w.params) g mg mb) (s : List Int) (c1 c2 c3 c4 c5 c6 c7 da : Addr) (cells : List Int) (k : Nat) (counts most : Slot) (ls U : List Int) (hL : LawCode ls U) (hU : U ≠ []) (hUl : U.length ≤ 5) (hcl : cells.length ≤ 40) (hcc : ∀ c ∈ cells, 0 ≤ c ∧ c < 1000000007) (hk : k ≤ 50) (hn : 8 ≤ n) (hS : (signsOf (countsF ls) ls).length ≤ 1000) (hC : (countsF ls).length = 16) :
    WSM true prog w g n (fdAt w.params 300).scope (inB w.params) (lawR s c1 c2 c3 c4 c5 c6 c7 (.dct da (deckE cells k)) .unb counts most (.val (.list (pints ls))) (.val (.list (pints U))) .unb .unb .unb .unb .unb .unb) fun fl _ => fl = .next := by
  obtain ⟨n, rfl⟩ : ∃ n', n = n' + 8 := ⟨n - 8, by omega⟩
  have hL' := hL
  obtain ⟨hLl, hLr, hLh, hLs, hLc, hLe, hLn, hLo, hLd⟩ := hL'
  have hll : (pints ls).length = ls.length := List.length_map ..
  have hul : (pints U).length = U.length := List.length_map ..
  have hU1 : 1 ≤ U.length := List.length_pos_iff.mpr hU
  have hcol : (codesF ls).length = ls.length := by simp [codesF]
  show WSM true prog w g (n + 8) _ _ (lawR s c1 c2 c3 c4 c5 c6 c7 (.dct da (deckE cells k)) .unb counts most (.val (.list (pints ls))) (.val (.list (pints U))) .unb .unb .unb .unb .unb .unb) _
  refine wsm_cons (wxm_of (wx_assign (we_call G.gf (by rfl) (gv_list G) True.intro (wel1 (wd1 G (fn151 _) (gt_canonical G) (b151 _) (by rfl) (we_call G.gf (by rfl) (gv_list G) True.intro (wel1 (we_name (by trivial) (pl_copy (by omega) ⟨.list (pints (canonF ls)), fun cl => walk_canonical G ls (by omega) (fun l hl => ⟨(hLr l hl).1, by have := (hLr l hl).2; omega⟩) hLh cl, pl_copy (by simp; omega) ⟨lawR s c1 c2 c3 c4 c5 c6 c7 (.dct da (deckE cells k)) .unb counts most (.val (.list (pints ls))) (.val (.list (pints U))) (.val (.list (pints (canonF ls)))) .unb .unb .unb .unb .unb, by trivial, ?_⟩⟩)) rfl))) rfl))))
  refine wsm_cons (wxm_of (wx_if (wt_cmp (we_comp [false, false, false, false, false, false, false, true, false, false, false, false, false] (wi_list (we_name (by trivial) ⟨pints U, rfl, by rfl, by omega, fun C => ⟨fun i acc ρ => ∃ o, ρ = [⟨Str.ofString ".0", none, .unb⟩, ⟨Str.ofString "sign", none, o⟩, ⟨Str.ofString "codes", some c5, .val (.list (pints (canonF ls)))⟩] ∧ acc = pints ((U.take i).map fun u => (canonF ls).getD u.toNat 0), ?_, ?_, ?_⟩⟩))))))
  · exact ⟨.unb, rfl, rfl⟩
  · rintro i hi F hF acc ρ ⟨o, rfl, rfl⟩
    have hi' : i < U.length := by omega
    obtain ⟨u, hu⟩ : ∃ u, U[i]? = some u := ⟨_, List.getElem?_eq_getElem hi'⟩
    obtain ⟨u0, u1⟩ := hLs u (List.mem_of_getElem? hu)
    refine ⟨.int u, _, get_map hu, by trivial, ?_⟩
    show WE prog w g (n + 8) _ _ _ _
    refine we_sub (we_name (by trivial) ⟨rfl, we_name (by trivial) (pi_list (d := .int ((canonF ls).getD u.toNat 0)) u0 (by omega) (codes_get (by omega)) (hF _ _ ⟨_, rfl, ?_⟩))⟩)
    rw [take_next hu]; simp
  · rintro acc ρ ⟨o, rfl, rfl⟩
    rw [hul, List.take_length]
    refine ⟨[_, _], [_], rfl, rfl, ?_⟩
    refine we_comp [false, false, false, false, false, true, false, false, false, false, false, false, false] (wi_list (we_name (by trivial) ⟨pints U, rfl, by rfl, by omega, fun C => ⟨fun i acc ρ => ∃ o, ρ = [⟨Str.ofString ".0", none, .unb⟩, ⟨Str.ofString "sign", none, o⟩, ⟨Str.ofString "told", some c3, .val (.list (pints ls))⟩] ∧ acc = pints ((U.take i).map fun u => (codesF ls).getD u.toNat 0), ?_, ?_, ?_⟩⟩))
    · exact ⟨.unb, rfl, rfl⟩
    · rintro i hi F hF acc ρ ⟨o, rfl, rfl⟩
      have hi' : i < U.length := by omega
      obtain ⟨u, hu⟩ : ∃ u, U[i]? = some u := ⟨_, List.getElem?_eq_getElem hi'⟩
      obtain ⟨u0, u1⟩ := hLs u (List.mem_of_getElem? hu)
      refine ⟨.int u, _, get_map hu, by trivial, ?_⟩
      show WE prog w g (n + 8) _ _ _ _
      refine we_sub (wd1 G (fn290 _) (gt_law_codes G) (b290 _) (by rfl) (we_name (by trivial) ⟨.list (pints (codesF ls)), fun cl => walk_codes G ls (by omega) (fun l hl => ⟨(hLr l hl).1, by have := (hLr l hl).2; omega⟩) cl, rfl, we_name (by trivial) (pi_list (d := .int ((codesF ls).getD u.toNat 0)) u0 (by omega) (codes_get (by omega)) (hF _ _ ⟨_, rfl, ?_⟩))⟩))
      rw [take_next hu]; simp
    · rintro acc ρ ⟨o, rfl, rfl⟩
      rw [hul, List.take_length]
      refine ⟨[_, _], [_], rfl, rfl, ?_⟩
      refine pc_lne ⟨_, rfl, ?_⟩
      have he : (U.map fun u => (canonF ls).getD u.toNat 0) = U.map fun u => (codesF ls).getD u.toNat 0 := List.map_congr_left fun u hu => hLe u hu
      rw [he]
      refine ifF (by simp) (ws_nil ?_)
      refine wsm_cons (wxm_tupS (wolm_cons (wom_of (wo_e (we_comp [false, true, false, false, false, false, true, false, false, false, false, false, false] (wi_range1 G.gf (by rfl) (gv_range G) (we_draw (a := da) (k := k) G hcl hcc (by omega) (by trivial) (we_int ⟨9, rfl, by decide, by decide, fun v v0 v1 => ⟨lawR s c1 c2 c3 c4 c5 c6 c7 (.dct da (deckE cells (k + 1))) .unb counts most (.val (.list (pints ls))) (.val (.list (pints U))) (.val (.list (pints (canonF ls)))) .unb .unb .unb .unb .unb, by trivial, v, rfl, by omega, by omega, by rfl, by omega, fun C => ⟨fun i acc ρ => ∃ o row, ρ = [⟨Str.ofString ".0", none, .unb⟩, ⟨Str.ofString "turn", none, o⟩, ⟨Str.ofString "deck", some c1, .dct da (deckE cells (k + 1 + i))⟩, ⟨Str.ofString "some", some c4, .val (.list (pints U))⟩] ∧ acc = pints row ∧ row.length = i ∧ ∀ u ∈ row, u ∈ U, ?_, ?_, ?_⟩⟩⟩))))))) ?_)
      · exact ⟨.unb, [], rfl, rfl, rfl, fun u hu => nomatch hu⟩
      · rintro i hi F hF acc ρ ⟨o, row, rfl, rfl, hr1, hr2⟩
        refine ⟨.int (0 + (i : Nat) * 1), _, rangePV_get hi, by trivial, ?_⟩
        show WE prog w g (n + 8) _ _ _ _
        refine we_sub (we_name (by trivial) ⟨rfl, we_draw (a := da) (k := k + 1 + i) G hcl hcc (by omega) (by trivial) (we_call G.gf (by rfl) (gv_len G) True.intro (wel1 (we_name (by trivial) (pl_len (by omega) ⟨_, rfl, by omega, by omega, fun q q0 q1 => ⟨[⟨Str.ofString ".0", none, .unb⟩, ⟨Str.ofString "turn", none, .val (.int (0 + (i : Nat) * 1))⟩, ⟨Str.ofString "deck", some c1, .dct da (deckE cells (k + 1 + i + 1))⟩, ⟨Str.ofString "some", some c4, .val (.list (pints U))⟩], by trivial, ?_⟩⟩)) rfl))⟩)
        have hq : q.toNat < U.length := by omega
        refine pi_list (d := .int (U.getD q.toNat 0)) q0 (by omega) (codes_get hq) (hF _ _ ⟨_, row ++ [U.getD q.toNat 0], rfl, by simp, by simp [hr1], fun u hu => ?_⟩)
        rcases List.mem_append.mp hu with h | h
        · exact hr2 u h
        · rw [List.mem_singleton.mp h, List.getD_eq_getElem?_getD, List.getElem?_eq_getElem hq]
          exact List.getElem_mem hq
      · rintro acc ρ ⟨o, row, rfl, rfl, hr1, hr2⟩
        refine ⟨[_, _], [_, _], rfl, rfl, ?_⟩
        refine wolm_cons (wom_of (wo_e (we_list (wel_nil ⟨?_, by show 0 ≤ 2 ^ 24; decide⟩))))
        refine wolm_cons (new_writer G (by rfl) fun wa wdx wl => wolm_of (wol_nil ⟨by show 3 ≤ 3; decide, rfl, lawR s c1 c2 c3 c4 c5 c6 c7 (.dct da (deckE cells (k + 1 + v.toNat))) .unb counts most (.val (.list (pints ls))) (.val (.list (pints U))) (.val (.list (pints (canonF ls)))) (.val (.list (pints row))) (.val (.list [])) (wSl wa wdx wl #[] 0 0) .unb .unb, ?_, ?_⟩))
        · exact .cons (ρ₁ := lawR s c1 c2 c3 c4 c5 c6 c7 (.dct da (deckE cells (k + 1 + v.toNat))) .unb counts most (.val (.list (pints ls))) (.val (.list (pints U))) (.val (.list (pints (canonF ls)))) .unb .unb (wSl wa wdx wl #[] 0 0) .unb .unb) (by trivial) (.cons (ρ₁ := lawR s c1 c2 c3 c4 c5 c6 c7 (.dct da (deckE cells (k + 1 + v.toNat))) .unb counts most (.val (.list (pints ls))) (.val (.list (pints U))) (.val (.list (pints (canonF ls)))) .unb (.val (.list [])) (wSl wa wdx wl #[] 0 0) .unb .unb) (by trivial) (.cons (by trivial) .nil))
        · exact walk_law_for G s c1 c2 c3 c4 c5 c6 c7 wa wdx wl _ counts most _ .unb ls U row hL hr2 (by omega) (by omega) hS hC
      · intro env he
        cases env
        dsimp only at he
        subst he
        rfl
end
section
variable {c : Bool} {prog : Program} {w : World} {g : Heap} {n : Nat} {sc : Scope} {ρ ρ' : List Ent} {mg mb : Str → Option Value}
theorem countsF_len (ls : List Int) : (countsF ls).length = 16 := by simp [countsF, cntF_len]
theorem signsOf_len (C ls : List Int) : (signsOf C ls).length = ((begF C 15).getD 16 0).toNat := by
  unfold signsOf sortF
  have : ∀ (l : List (Nat × Int)) (q : List Int × List Int), (l.foldl sortS q).1.length = q.1.length := by
    intro l
    induction l with
    | nil => intro q; rfl
    | cons x l ih =>
      intro q
      rw [List.foldl_cons, ih]
      unfold sortS
      split
      · simp
      · rfl
  rw [this]; simp
theorem wo_mono {e : Expr} {K K' : Slot → List Ent → Prop} (h : WO prog w g n sc e ρ K) (hk : ∀ sl ρ', K sl ρ' → K' sl ρ') : WO prog w g n sc e ρ K' := by
  intro env A H s hsc ok hA sr
  refine wpAny_mono (h env A H s hsc ok hA sr) (fun v s1 h1 => ?_) noE_to
  obtain ⟨sl, ρ1, k1, p, r, nn⟩ := h1
  exact ⟨sl, ρ1, hk _ _ k1, p, r, nn⟩
noncomputable def cntsL : List Int := [0, 1, 2, 4, 8, 16, 3, 5]
structure LawOk (cs : List Int) (most : Nat) : Prop where
  bad : 2 ^ most < (signsF cs).length → rightP cs most none (bestF cs most) = true
  good : (signsF cs).length ≤ 2 ^ most → rightP cs most (some (lensF cs most)) (bestF cs most) = true ∧ (lensF cs most).length ≤ 5 ∧ (∀ x ∈ lensF cs most, 0 ≤ x ∧ x ≤ most) ∧ (signsF cs ≠ [] → LawCode (lensF cs most) (signsF cs))
theorem ret_true (k : Nat) (p pos : Pos) : WSL prog w g n sc [.Return (some (.Constant (.bool true) k p)) pos] ρ fun fl _ => fl = .ret (.bool true) :=
  wsl_of (wsm_of (ws_cons (wx_ret (we_true rfl))))
noncomputable abbrev lawA (s : List Int) (c1 c2 c3 c4 c5 c6 c7 : Addr) (deck counts most told some' : Slot) : List Ent := lawR s c1 c2 c3 c4 c5 c6 c7 deck .unb counts most told some' .unb .unb .unb .unb .unb .unb
theorem walk_law_b (G : GG (KK w.params) g mg mb) (s : List Int) (c1 c2 c3 c4 c5 c6 c7 da : Addr) (cells : List Int) (k : Nat) (cs : List Int) (most : Nat) (told : Option (List Int)) (hcl : cells.length ≤ 40) (hcc : ∀ c ∈ cells, 0 ≤ c ∧ c < 1000000007) (hk : k ≤ 50) (hl : cs.length ≤ 5) (hcs : ∀ c ∈ cs, 0 ≤ c ∧ c ≤ 1000) (hm : 1 ≤ most ∧ most ≤ 4) (hn : 8 ≤ n)
    (hr : rightP cs most told (bestF cs most) = true) (ht : ∀ t, told = some t → t.length ≤ 5 ∧ (∀ x ∈ t, 0 ≤ x ∧ x ≤ most) ∧ (signsF cs ≠ [] → LawCode t (signsF cs))) :
    WSL prog w g n (fdAt w.params 300).scope ((bodyAt w.params 300).drop 4) (lawA s c1 c2 c3 c4 c5 c6 c7 (.dct da (deckE cells k)) (.val (.list (pints cs))) (.val (.int most)) (.val (toldP told)) .unb) fun fl _ => fl = .ret (.bool true) := by
  obtain ⟨n, rfl⟩ : ∃ n', n = n' + 8 := ⟨n - 8, by omega⟩
  show WSL prog w g (n + 8) _ _ (lawA s c1 c2 c3 c4 c5 c6 c7 (.dct da (deckE cells k)) (.val (.list (pints cs))) (.val (.int most)) (.val (toldP told)) .unb) _
  have hll : (pints cs).length = cs.length := List.length_map ..
  refine wsl_cons (wxl_of (wxm_of (wx_if (wt_not (wt_val (wd3 G (fn285 _) (gt_law_are_right G) (b285 _) (by rfl) (by rfl) (by rfl) (by decide) (we_name (by trivial) (we_name (by trivial) (we_name (by trivial) ⟨.bool (rightP cs most told (bestF cs most)), fun cl => walk_right G cs most told hl hcs (by omega) (fun t e => ⟨(ht t e).1, (ht t e).2.1⟩) (by omega) cl, _, rfl, ?_⟩)))))))))
  rw [hr]
  refine ifF rfl (ws_nil ?_)
  refine wsl_cons (wxl_of (wxm_of (wx_cell_comp (we_signs G.gf (gv_enumerate G) (we_name (by trivial) ⟨cs, rfl, by omega, lawA s c1 c2 c3 c4 c5 c6 c7 (.dct da (deckE cells k)) (.val (.list (pints cs))) (.val (.int most)) (.val (toldP told)) (.val (.list (pints (signsF cs)))), by trivial, ?_⟩)))))
  have hul := signsF_len cs
  cases told with
  | none =>
    refine wsl_cons (wxl_of (wxm_of (wx_if (wt_bool (wtl_and_cons (wt_cmp (we_name (by trivial) (we_none (pc_isnot ⟨_, rfl, ?_⟩)))))))))
    exact ifF rfl (ifF rfl (ws_nil (ret_true _ _ _)))
  | some t =>
    refine wsl_cons (wxl_of (wxm_if (wt_bool (wtl_and_cons (wt_cmp (we_name (by trivial) (we_none (pc_isnot ⟨_, rfl, ?_⟩))))))))
    refine ifT rfl (wtl_and_cons (wt_cmp (we_name (by trivial) (we_list (wel_nil ⟨pc_lne (ns := signsF cs) (ms := []) ⟨_, rfl, ?_⟩, by show 0 ≤ 2 ^ 24; decide⟩)))))
    by_cases h0 : signsF cs = []
    · exact ifF (by simp [h0]) (ifF rfl (wsm_nil (ret_true _ _ _)))
    · refine ifT (by simp [h0]) (wtl_and_nil (ifT rfl ?_))
      obtain ⟨t1, t2, t3⟩ := ht t rfl
      have hL := t3 h0
      refine wsm_mono (walk_law_in G s c1 c2 c3 c4 c5 c6 c7 da cells k (.val (.list (pints cs))) (.val (.int most)) t (signsF cs) hL h0 (by omega) hcl hcc hk (by omega) ?_ (countsF_len t)) fun fl ρ' e => ?_
      · rw [signsOf_len]; have := hL.ok.beg; omega
      · subst e; exact ret_true _ _ _
theorem cnts_rng {x : Int} (h : x ∈ cntsL) : 0 ≤ x ∧ x ≤ 1000 := by
  have : ∀ x ∈ cntsL, 0 ≤ x ∧ x ≤ 1000 := by decide
  exact this x h
theorem walk_law (G : GG (KK w.params) g mg mb) (s : List Int) (hs : s.length ≤ 2 ^ 20) (hLaw : ∀ cs most, 1 ≤ cs.length → cs.length ≤ 5 → (∀ c ∈ cs, c ∈ cntsL) → 1 ≤ most → most ≤ 4 → LawOk cs most) (hn : 8 ≤ n) (cl : List (Str × Addr)) :
    WSL prog w g n (fdAt w.params 300).scope (bodyAt w.params 300) (ents0 [(Str.ofString "script", .val (.list (pints s)))] cl (fdAt w.params 300).scope.names) fun fl _ => fl = .ret (.bool true) := by
  obtain ⟨n, rfl⟩ : ∃ n', n = n' + 8 := ⟨n - 8, by omega⟩
  generalize hc1 : ((cl.lookup (Str.ofString "deck")).getD 0) = c1
  generalize hc2 : ((cl.lookup (Str.ofString "sign")).getD 0) = c2
  generalize hc3 : ((cl.lookup (Str.ofString "told")).getD 0) = c3
  generalize hc4 : ((cl.lookup (Str.ofString "some")).getD 0) = c4
  generalize hc5 : ((cl.lookup (Str.ofString "codes")).getD 0) = c5
  generalize hc6 : ((cl.lookup (Str.ofString "reader")).getD 0) = c6
  generalize hc7 : ((cl.lookup (Str.ofString "found")).getD 0) = c7
  show WSL prog w g (n + 8) _ _ (lawA s ((cl.lookup (Str.ofString "deck")).getD 0) ((cl.lookup (Str.ofString "sign")).getD 0) ((cl.lookup (Str.ofString "told")).getD 0) ((cl.lookup (Str.ofString "some")).getD 0) ((cl.lookup (Str.ofString "codes")).getD 0) ((cl.lookup (Str.ofString "reader")).getD 0) ((cl.lookup (Str.ofString "found")).getD 0) .unb .unb .unb .unb .unb) _
  rw [hc1, hc2, hc3, hc4, hc5, hc6, hc7]
  obtain ⟨hcl, hcc⟩ := cellsF_is s
  refine wsl_cons (wxl_of (wxm_of (wx_own (wo_defret G (fn251 w.params) (gt_law_deck G) (xs := [Str.ofString "script"]) (wel1 (we_name (by trivial) ⟨rfl, by rfl, fun cs => wo_mono (walk_deck G s hs cs _ rfl) fun sl _ h => ?_⟩) rfl) (bind1 (b251 w.params))))))
  obtain ⟨da, rfl⟩ := h
  generalize cellsF s = cells at hcl hcc
  refine ⟨lawA s c1 c2 c3 c4 c5 c6 c7 (.dct da (deckE cells 0)) .unb .unb .unb .unb, by trivial, ?_⟩
  refine wsl_cons (wxl_of (wxm_of (wx_assign_comp [false, true, false, false, false, false, false, false, false, false, false, false, false] (wi_range1 G.gf (by rfl) (gv_range G) (we_bin (we_int (we_draw (a := da) (k := 0) G hcl hcc (by omega) (by trivial) (we_int ⟨5, rfl, by decide, by decide, fun v v0 v1 => ⟨lawA s c1 c2 c3 c4 c5 c6 c7 (.dct da (deckE cells 1)) .unb .unb .unb .unb, by trivial, po_add ⟨_, rfl, by omega, by omega, by rfl, by omega, fun C => ⟨fun i acc ρ => ∃ o cs, ρ = [⟨Str.ofString ".0", none, .unb⟩, ⟨Str.ofString "sign", none, o⟩, ⟨Str.ofString "deck", some c1, .dct da (deckE cells (1 + i))⟩] ∧ acc = pints cs ∧ cs.length = i ∧ ∀ x ∈ cs, x ∈ cntsL, ?_, ?_, ?_⟩⟩⟩⟩))))))))
  · exact ⟨.unb, [], rfl, rfl, rfl, fun u hu => nomatch hu⟩
  · rintro i hi F hF acc ρ ⟨o, cs, rfl, rfl, h1, h2⟩
    refine ⟨.int (0 + (i : Nat) * 1), _, rangePV_get hi, by trivial, ?_⟩
    show WE prog w g (n + 8) _ _ _ _
    refine we_sub (we_gconst (d := .list (pints cntsL)) G.gf (by rfl) (gt_law_counts G) (rd_counts G) ⟨rfl, we_draw (a := da) (k := 1 + i) G hcl hcc (by omega) (by trivial) (we_int ⟨8, rfl, by decide, by decide, fun q q0 q1 => ⟨[⟨Str.ofString ".0", none, .unb⟩, ⟨Str.ofString "sign", none, .val (.int (0 + (i : Nat) * 1))⟩, ⟨Str.ofString "deck", some c1, .dct da (deckE cells (1 + i + 1))⟩], by trivial, ?_⟩⟩)⟩)
    have hq : q.toNat < cntsL.length := by show q.toNat < 8; omega
    refine pi_list (d := .int (cntsL.getD q.toNat 0)) q0 (by omega) (codes_get hq) (hF _ _ ⟨_, cs ++ [cntsL.getD q.toNat 0], rfl, by simp, by simp [h1], fun u hu => ?_⟩)
    rcases List.mem_append.mp hu with h | h
    · exact h2 u h
    · rw [List.mem_singleton.mp h, List.getD_eq_getElem?_getD, List.getElem?_eq_getElem hq]
      exact List.getElem_mem hq
  · rintro acc ρ ⟨o, cs, rfl, rfl, h1, h2⟩
    refine ⟨[_, _], [_], rfl, rfl, ?_⟩
    refine ⟨lawA s c1 c2 c3 c4 c5 c6 c7 (.dct da (deckE cells (1 + (1 + v).toNat))) (.val (.list (pints cs))) .unb .unb .unb, by trivial, ?_⟩
    have hk : 1 + (1 + v).toNat ≤ 6 := by omega
    have hlen : 1 ≤ cs.length ∧ cs.length ≤ 5 := by omega
    generalize 1 + (1 + v).toNat = k at hk ⊢
    refine wsl_cons (wxl_of (wxm_of (wx_assign (we_bin (we_int (we_draw (a := da) (k := k) G hcl hcc (by omega) (by trivial) (we_int ⟨4, rfl, by decide, by decide, fun u u0 u1 => ⟨lawA s c1 c2 c3 c4 c5 c6 c7 (.dct da (deckE cells (k + 1))) (.val (.list (pints cs))) .unb .unb .unb, by trivial, po_add ⟨lawA s c1 c2 c3 c4 c5 c6 c7 (.dct da (deckE cells (k + 1))) (.val (.list (pints cs))) (.val (.int (1 + u))) .unb .unb, by trivial, ?_⟩⟩⟩)))))))
    obtain ⟨most, hmo, hm1, hm4⟩ : ∃ m : Nat, 1 + u = (m : Int) ∧ 1 ≤ m ∧ m ≤ 4 := ⟨(1 + u).toNat, by omega, by omega, by omega⟩
    rw [hmo]
    obtain ⟨lb, lg⟩ := hLaw cs most hlen.1 hlen.2 h2 hm1 hm4
    have hcs : ∀ c ∈ cs, 0 ≤ c ∧ c ≤ 1000 := fun c hc => cnts_rng (h2 c hc)
    by_cases hb : (signsF cs).length ≤ 2 ^ most
    · obtain ⟨g1, g2, g3, g4⟩ := lg hb
      refine wsl_cons (wxl_of (wxm_of (wx_assign (wd2 G (fn280 _) (gt_law_lengths_told G) (b280 _) (by rfl) (by rfl) (by decide) (we_name (by trivial) (we_name (by trivial) ⟨.list (pints (lensF cs most)), fun cl => walk_told_ok G cs most hlen.2 ⟨hm1, hm4⟩ hb (by omega) (by omega) cl, lawA s c1 c2 c3 c4 c5 c6 c7 (.dct da (deckE cells (k + 1))) (.val (.list (pints cs))) (.val (.int most)) (.val (toldP (some (lensF cs most)))) .unb, by trivial, ?_⟩))))))
      exact walk_law_b G s c1 c2 c3 c4 c5 c6 c7 da cells (k + 1) cs most (some (lensF cs most)) hcl hcc (by omega) hlen.2 hcs ⟨hm1, hm4⟩ (by omega) g1 fun t e => by cases e; exact ⟨g2, g3, g4⟩
    · refine wsl_cons (wx_told_bad G (cs := cs) (most := most) hlen.2 ⟨hm1, hm4⟩ (by omega) (by rfl) (wel2 (we_name (by trivial) (we_name (by trivial) ⟨rfl, lawA s c1 c2 c3 c4 c5 c6 c7 (.dct da (deckE cells (k + 1))) (.val (.list (pints cs))) (.val (.int most)) (.val (toldP none)) .unb, by trivial, ?_⟩)) rfl rfl))
      exact walk_law_b G s c1 c2 c3 c4 c5 c6 c7 da cells (k + 1) cs most none hcl hcc (by omega) hlen.2 hcs ⟨hm1, hm4⟩ (by omega) (lb (by omega)) fun t e => by cases e
end
section
noncomputable def allLs : Nat → List (List Int)
  | 0 => [[]]
  | n + 1 => (allLs n).flatMap fun r => [0 :: r, 1 :: r, 2 :: r, 3 :: r, 4 :: r]
theorem allLs_mem : ∀ (ls : List Int), (∀ l ∈ ls, 0 ≤ l ∧ l ≤ 4) → ls ∈ allLs ls.length := by
  intro l0
  induction l0 with
  | nil => exact @fun _ => .head _
  | cons l ls ih =>
    intro h
    obtain ⟨h0, h4⟩ := h l (.head _)
    refine List.mem_flatMap.mpr ⟨ls, ih fun x hx => h x (.tail _ hx), ?_⟩
    have : l = 0 ∨ l = 1 ∨ l = 2 ∨ l = 3 ∨ l = 4 := by omega
    rcases this with rfl | rfl | rfl | rfl | rfl <;> simp
noncomputable def validB (ls : List Int) : Bool := decide ((ls.filter fun l => decide (0 < l)) = [1]) || decide ((roomF ls 4).sum = 16)
noncomputable def codeChk (ls : List Int) : Bool :=
  ((List.range 18).all fun i => decide ((codeF (manyF ls) i).natAbs < 2 ^ 50) && decide (((manyF ls).getD i 0).natAbs < 2 ^ 50)) &&
  (decide ((canonF ls).length = ls.length) &&
  (((signsF ls).all fun u => decide ((canonF ls).getD u.toNat 0 = (codesF ls).getD u.toNat 0) && (decide (0 ≤ (canonF ls).getD u.toNat 0) && decide ((canonF ls).getD u.toNat 0 < 100))) &&
  (((List.range 16).all fun i => decide (0 ≤ freeF (countsF ls) i)) &&
  ((decide (freeF (countsF ls) 15 = 0) || (decide (manyC (countsF ls) 15 = 1) && decide ((countsF ls).getD 1 0 = 1))) &&
  ((decide (0 ≤ (begF (countsF ls) 15).getD 16 0) && decide ((begF (countsF ls) 15).getD 16 0 ≤ 1000)) &&
  (((List.range ls.length).all fun i => decide (ls.getD i 0 ≤ 0) || (decide (0 ≤ (sortF (countsF ls) ls i).2.getD (ls.getD i 0).toNat 0) && decide ((sortF (countsF ls) ls i).2.getD (ls.getD i 0).toNat 0 < (begF (countsF ls) 15).getD 16 0))) &&
  ((signsF ls).all fun u => decide (decD (countsF ls) (signsOf (countsF ls) ls) 1 0 0 0 (signB ls u) = some (u, [])))))))))
theorem codeChk_is {ls : List Int} (hl : ls.length ≤ 5) (hr : ∀ l ∈ ls, 0 ≤ l ∧ l ≤ 4) (h : codeChk ls = true) : LawCode ls (signsF ls) := by
  unfold codeChk at h
  simp only [Bool.and_eq_true, Bool.or_eq_true, List.all_eq_true, decide_eq_true_eq, List.mem_range] at h
  obtain ⟨h1, h2, h3, h4, h5, h6, h7, h8⟩ := h
  exact ⟨hl, hr, fun i hi => h1 i (by omega), fun u hu => signsF_mem hu, h2, fun u hu => (h3 u hu).1, fun u hu => (h3 u hu).2,
    ⟨by omega, fun l hl => ⟨(hr l hl).1, by have := (hr l hl).2; omega⟩, fun i hi => h4 i (by omega), h5, h6, fun i hi h0 => (h7 i hi).elim (fun h => by omega) id⟩, h8⟩
set_option maxHeartbeats 4000000
theorem all_cut {α : Type} {l : List α} {p : α → Bool} (n : Nat) (h1 : (l.take n).all p = true) (h2 : (l.drop n).all p = true) : l.all p = true := by
  rw [← List.take_append_drop n l, List.all_append, h1, h2]; rfl
theorem codes1 : (allLs 1).all (fun ls => !validB ls || codeChk ls) = true := by decide +kernel
theorem codes2 : (allLs 2).all (fun ls => !validB ls || codeChk ls) = true := by decide +kernel
theorem codes3 : (allLs 3).all (fun ls => !validB ls || codeChk ls) = true := by decide +kernel
theorem codes4 : (allLs 4).all (fun ls => !validB ls || codeChk ls) = true := by decide +kernel
theorem codes5 : (allLs 5).all (fun ls => !validB ls || codeChk ls) = true := all_cut 1000 (by decide +kernel) (all_cut 1000 (by decide +kernel) (by decide +kernel))
theorem valid_code {ls : List Int} (h1 : 1 ≤ ls.length) (hl : ls.length ≤ 5) (hr : ∀ l ∈ ls, 0 ≤ l ∧ l ≤ 4) (hv : validB ls = true) : LawCode ls (signsF ls) := by
  have hm := allLs_mem ls hr
  have key : ∀ n, (allLs n).all (fun ls => !validB ls || codeChk ls) = true → ls ∈ allLs n → codeChk ls = true := fun n hn hm => by
    have := List.all_eq_true.mp hn ls hm
    rw [hv] at this
    simpa using this
  refine codeChk_is hl hr ?_
  have : ls.length = 1 ∨ ls.length = 2 ∨ ls.length = 3 ∨ ls.length = 4 ∨ ls.length = 5 := by omega
  rcases this with h | h | h | h | h <;> rw [h] at hm
  · exact key 1 codes1 hm
  · exact key 2 codes2 hm
  · exact key 3 codes3 hm
  · exact key 4 codes4 hm
  · exact key 5 codes5 hm
end
section
noncomputable def posL : List Int := [1, 2, 3, 4, 5, 8, 16]
noncomputable def riseL : Nat → List (List Int)
  | 0 => [[]]
  | n + 1 => (riseL n).flatMap fun r => (posL.filter fun a => match r with | [] => true | b :: _ => decide (a ≤ b)).map (· :: r)
theorem riseL_mem : ∀ (v : List Int), v.Pairwise (· ≤ ·) → (∀ x ∈ v, x ∈ posL) → v ∈ riseL v.length := by
  intro l0
  induction l0 with
  | nil => exact @fun _ _ => .head _
  | cons a v ih =>
    intro hs hp
    obtain ⟨h1, h2⟩ := List.pairwise_cons.mp hs
    refine List.mem_flatMap.mpr ⟨v, ih h2 fun x hx => hp x (.tail _ hx), List.mem_map.mpr ⟨a, List.mem_filter.mpr ⟨hp a (.head _), ?_⟩, rfl⟩⟩
    cases v with
    | nil => rfl
    | cons b v => simpa using h1 b (.head _)
noncomputable def singP (v : List Int) : List Item := v.zipIdx.map fun q => (q.1, [((q.2 : Nat) : Int)])
noncomputable def lenP (v : List Int) (most : Nat) : List Int := foundF v.length ((rowF (singP v) most).take (2 * v.length - 2))
noncomputable def chkV (v : List Int) (most : Nat) : Bool :=
  if v.length ≤ 2 ^ most then
    ((lenP v most).all fun l => decide (1 ≤ l) && decide (l ≤ most)) && ((decide ((roomF (lenP v most) most).sum = 2 ^ most) && decide ((roomF (lenP v most) 4).sum = 16)) &&
      (match costsF v.reverse most (risingF v.length 1 most) with | [] => false | x :: r => decide (minF (x :: r) = costF v (lenP v most))))
  else (costsF v.reverse most (risingF v.length 1 most)).isEmpty
set_option maxHeartbeats 4000000
theorem vs2 : (riseL 2).all (fun v => chkV v 1 && (chkV v 2 && (chkV v 3 && chkV v 4))) = true := by decide +kernel
theorem vs3 : (riseL 3).all (fun v => chkV v 1 && (chkV v 2 && (chkV v 3 && chkV v 4))) = true := by decide +kernel
theorem vs4 : (riseL 4).all (fun v => chkV v 1 && (chkV v 2 && (chkV v 3 && chkV v 4))) = true := all_cut 105 (by decide +kernel) (by decide +kernel)
theorem vs5 : (riseL 5).all (fun v => chkV v 1 && (chkV v 2 && (chkV v 3 && chkV v 4))) = true := all_cut 115 (by decide +kernel) (all_cut 115 (by decide +kernel) (all_cut 115 (by decide +kernel) (by decide +kernel)))
end
section
noncomputable def ren (r : Int → Int) (q : Item) : Item := (q.1, q.2.map r)
theorem dm_ren (r : Int → Int) : ∀ (ps f q : List Item), dm (f.map (ren r)) (q.map (ren r)) (ps.map (ren r)) = (dm f q ps).map (ren r) := by
  intro l0
  induction l0 with
  | nil => exact @fun f q => by simp [dm]
  | cons p ps ih =>
    intro f q
    rw [List.map_cons, dm, dm, ← ih]
    congr 1
    · rw [List.map_append, List.map_append, List.takeWhile_map]; rfl
    · rw [List.dropWhile_map]; rfl
theorem getD_ren (r : Int → Int) (l : List Item) (i : Nat) : (l.map (ren r)).getD i (0, []) = ren r (l.getD i (0, [])) := by
  rw [List.getD_eq_getElem?_getD, List.getD_eq_getElem?_getD, List.getElem?_map]
  cases l[i]? <;> rfl
theorem pairsF_ren (r : Int → Int) (l : List Item) : pairsF (l.map (ren r)) = (pairsF l).map (ren r) := by
  unfold pairsF
  rw [List.length_map, List.map_map]
  refine List.map_congr_left fun j _ => ?_
  show pairI _ _ = ren r (pairI _ _)
  unfold pairI
  rw [getD_ren, getD_ren]
  simp [ren]
theorem rowF_ren (r : Int → Int) (S : List Item) : ∀ k, rowF (S.map (ren r)) k = (rowF S k).map (ren r) := by
  intro l0
  induction l0 with
  | zero => exact rfl
  | succ k ih =>
    show dm [] (S.map (ren r)) (pairsF (rowF (S.map (ren r)) k)) = (dm [] S (pairsF (rowF S k))).map (ren r)
    rw [ih, pairsF_ren, ← dm_ren]; rfl
noncomputable def flatI (its : List Item) : List Int := its.flatMap (·.2)
theorem flatI_ren (r : Int → Int) (its : List Item) : flatI (its.map (ren r)) = (flatI its).map r := by
  induction its with
  | nil => rfl
  | cons a l ih =>
    show (ren r a).2 ++ flatI (l.map (ren r)) = (a.2 ++ flatI l).map r
    rw [ih, List.map_append]; rfl
noncomputable def cnt (x : Int) (l : List Int) : Int := (l.countP fun y => decide (y = x) : Nat)
theorem cnt_cons (x y : Int) (l : List Int) : cnt x (y :: l) = cnt x l + if y = x then 1 else 0 := by
  unfold cnt
  rw [List.countP_cons]
  by_cases h : y = x <;> simp [h]
theorem bump_get {m : Nat} {j : Nat} (hj : j < m) : ∀ (l : List Int) (f : List Int), f.length = m → (∀ s ∈ l, 0 ≤ s ∧ s.toNat < m) → (l.foldl bumpS f).getD j 0 = f.getD j 0 + cnt j l := by
  intro l0
  induction l0 with
  | nil => exact @fun f _ _ => by simp [cnt]
  | cons s l ih =>
    intro f hf h
    obtain ⟨s0, s1⟩ := h s (.head _)
    rw [List.foldl_cons, ih (bumpS f s) (by simp [bumpS, hf]) fun x hx => h x (.tail _ hx), cnt_cons]
    unfold bumpS
    rw [List.getD_eq_getElem?_getD, List.getElem?_set, List.getD_eq_getElem?_getD (l := f) (i := j)]
    by_cases e : s.toNat = j
    · have e2 : s = (j : Int) := by omega
      rw [if_pos e, if_pos (by omega), if_pos e2, e]
      simp [List.getD_eq_getElem?_getD]
      omega
    · have e2 : ¬ s = (j : Int) := by omega
      rw [if_neg e, if_neg e2]
      omega
theorem foundF_get {m j : Nat} (hj : j < m) (its : List Item) (h : ∀ s ∈ flatI its, 0 ≤ s ∧ s.toNat < m) : (foundF m its).getD j 0 = cnt j (flatI its) := by
  have e : foundF m its = (flatI its).foldl bumpS (List.replicate m 0) := by
    unfold foundF flatI
    rw [List.foldl_flatMap]; rfl
  rw [e, bump_get hj _ _ (by simp) h]
  rw [List.getD_eq_getElem?_getD, List.getElem?_replicate, if_pos hj]
  simp
theorem cnt_map {r : Int → Int} {i : Int} : ∀ (l : List Int), (∀ x ∈ l, r x = r i → x = i) → cnt (r i) (l.map r) = cnt i l := by
  intro l0
  induction l0 with
  | nil => exact @fun _ => rfl
  | cons x l ih =>
    intro h
    rw [List.map_cons, cnt_cons, cnt_cons, ih fun y hy => h y (.tail _ hy)]
    by_cases e : x = i
    · rw [if_pos e, if_pos (by rw [e])]
    · rw [if_neg e, if_neg fun hc => e (h x (.head _) hc)]
theorem cnt_zero {x : Int} : ∀ (l : List Int), (∀ y ∈ l, y ≠ x) → cnt x l = 0 := by
  intro l0
  induction l0 with
  | nil => exact @fun _ => rfl
  | cons y l ih =>
    intro h
    rw [cnt_cons, ih fun z hz => h z (.tail _ hz), if_neg (h y (.head _))]; rfl
theorem signsF_eq (cs : List Int) : signsF cs = ((List.range cs.length).filter fun j => decide (0 < cs.getD j 0)).map fun j => ((j : Nat) : Int) := by
  have e : cs.zipIdx = (List.range cs.length).map fun j => (cs.getD j 0, j) := by
    refine List.ext_getElem (by simp) fun i h1 h2 => ?_
    have hi : i < cs.length := by simpa using h1
    rw [List.getElem_zipIdx, List.getElem_map, List.getElem_range, List.getD_eq_getElem?_getD, List.getElem?_eq_getElem hi]
    simp
  unfold signsF
  rw [e, List.filter_map, List.map_map]; rfl
theorem signsF_iff {cs : List Int} {s : Int} : s ∈ signsF cs ↔ 0 ≤ s ∧ s.toNat < cs.length ∧ 0 < cs.getD s.toNat 0 := by
  rw [signsF_eq]
  simp only [List.mem_map, List.mem_filter, List.mem_range, decide_eq_true_eq]
  constructor
  · rintro ⟨j, ⟨h1, h2⟩, rfl⟩
    exact ⟨by omega, by simpa using h1, by simpa using h2⟩
  · rintro ⟨h0, h1, h2⟩
    exact ⟨s.toNat, ⟨h1, h2⟩, by omega⟩
theorem signsF_congr {cs t : List Int} (hl : t.length = cs.length) (h : ∀ j, j < cs.length → (0 < t.getD j 0 ↔ 0 < cs.getD j 0)) : signsF t = signsF cs := by
  rw [signsF_eq, signsF_eq, hl]
  congr 1
  refine List.filter_congr fun j hj => ?_
  have := h j (List.mem_range.mp hj)
  rw [decide_eq_decide]; exact this
theorem range_getD (t : List Int) : (List.range t.length).map (fun j => t.getD j 0) = t := by
  refine List.ext_getElem (by simp) fun i h1 h2 => ?_
  rw [List.getElem_map, List.getElem_range, List.getD_eq_getElem?_getD, List.getElem?_eq_getElem h2]; rfl
theorem used_eq (t : List Int) : t.filter (fun l => decide (0 < l)) = (signsF t).map fun s => t.getD s.toNat 0 := by
  conv => lhs; rw [← range_getD t]
  rw [List.filter_map, signsF_eq, List.map_map]
  refine List.map_congr_left fun j _ => ?_
  show _ = t.getD ((j : Int)).toNat 0
  rw [Int.toNat_natCast]
theorem sum_perm {l l' : List Int} (h : l.Perm l') : l.sum = l'.sum := by
  induction h with
  | nil => rfl
  | cons x _ ih => rw [List.sum_cons, List.sum_cons, ih]
  | swap x y l => simp only [List.sum_cons]; omega
  | trans _ _ a b => exact a.trans b
theorem sum_drop (f : Nat → Int) (p : Nat → Bool) : ∀ l : List Nat, (∀ j ∈ l, p j = false → f j = 0) → (l.map f).sum = ((l.filter p).map f).sum := by
  intro l0
  induction l0 with
  | nil => exact @fun _ => rfl
  | cons j l ih =>
    intro h
    have ih := ih fun x hx => h x (.tail _ hx)
    cases hp : p j with
    | true => rw [List.filter_cons_of_pos hp, List.map_cons, List.map_cons, List.sum_cons, List.sum_cons, ih]
    | false => rw [List.filter_cons_of_neg (by simp [hp]), List.map_cons, List.sum_cons, ih, h j (.head _) hp]; simp
theorem cost_eq {cs t : List Int} (hl : t.length = cs.length) (hz : ∀ j, j < cs.length → ¬ 0 < cs.getD j 0 → t.getD j 0 = 0) : costF cs t = ((signsF cs).map fun s => cs.getD s.toNat 0 * t.getD s.toNat 0).sum := by
  have e : List.zipWith (· * ·) cs t = (List.range cs.length).map fun j => cs.getD j 0 * t.getD j 0 := by
    refine List.ext_getElem (by simp [hl]) fun i h1 h2 => ?_
    have hi : i < cs.length := by simpa using h2
    have hi' : i < t.length := by omega
    rw [List.getElem_zipWith, List.getElem_map, List.getElem_range, List.getD_eq_getElem?_getD, List.getElem?_eq_getElem hi, List.getD_eq_getElem?_getD, List.getElem?_eq_getElem hi']; rfl
  unfold costF
  rw [e, sum_drop _ (fun j => decide (0 < cs.getD j 0)), signsF_eq, List.map_map]
  · rfl
  · intro j hj hp
    rw [hz j (List.mem_range.mp hj) (by simpa using hp)]; simp
end
section
theorem getD_mem {l : List Int} {i : Nat} (h : i < l.length) : l.getD i 0 ∈ l := by
  rw [List.getD_eq_getElem?_getD, List.getElem?_eq_getElem h]; exact List.getElem_mem h
theorem getD_map' {α : Type} {f : α → Int} {l : List α} {i : Nat} (h : i < l.length) : (l.map f).getD i 0 = f l[i] := by
  rw [List.getD_eq_getElem?_getD, List.getElem?_map, List.getElem?_eq_getElem h]; rfl
noncomputable def vW (cs : List Int) : List Int := (weighF cs).map (·.1)
noncomputable def sW (cs : List Int) : List Int := (weighF cs).map (·.2)
theorem weigh_perm (cs : List Int) : (weighF cs).Perm (keysF cs) := sortG_perm _
theorem sW_perm (cs : List Int) : (sW cs).Perm (signsF cs) := by
  have h := (weigh_perm cs).map (·.2)
  have e : (keysF cs).map (·.2) = signsF cs := by
    unfold keysF
    rw [List.map_map]
    conv => rhs; rw [← List.map_id (signsF cs)]
    rfl
  rw [e] at h; exact h
theorem vW_eq (cs : List Int) : vW cs = (sW cs).map fun s => cs.getD s.toNat 0 := by
  unfold vW sW
  rw [List.map_map]
  refine List.map_congr_left fun q hq => ?_
  have := (weigh_perm cs).mem_iff.mp hq
  unfold keysF at this
  obtain ⟨s, _, rfl⟩ := List.mem_map.mp this
  rfl
theorem vW_sorted (cs : List Int) : (vW cs).Pairwise (· ≤ ·) := by
  unfold vW
  refine List.pairwise_map.mpr ((sortG_sorted ltT_tr ltT_as (keysF cs)).imp fun {a b} h => ?_)
  rw [ltT_is, decide_eq_false_iff_not] at h
  omega
theorem vW_len (cs : List Int) : (vW cs).length = (signsF cs).length := by rw [vW_eq, List.length_map, (sW_perm cs).length_eq]
theorem sW_len (cs : List Int) : (sW cs).length = (signsF cs).length := (sW_perm cs).length_eq
theorem singF_ren (cs : List Int) : singF cs = (singP (vW cs)).map (ren fun i => (sW cs).getD i.toNat 0) := by
  refine List.ext_getElem (by simp [singF, singP, vW]) fun i h1 h2 => ?_
  have hi : i < (weighF cs).length := by simpa [singF] using h1
  have e : (sW cs).getD i 0 = ((weighF cs)[i]).2 := getD_map' hi
  rw [List.getD_eq_getElem?_getD] at e
  simp only [singF, singP, vW, List.getElem_map, List.getElem_zipIdx, ren, List.map_cons, List.map_nil]
  simp [e]
theorem inj_of_nodup {l : List Int} (h : l.Nodup) {i j : Nat} (hi : i < l.length) (hj : j < l.length) (e : l.getD i 0 = l.getD j 0) : i = j := by
  rw [List.getD_eq_getElem?_getD, List.getElem?_eq_getElem hi, List.getD_eq_getElem?_getD, List.getElem?_eq_getElem hj] at e
  exact (List.getElem_inj h).mp e
theorem scatter {cs : List Int} {most : Nat} (h2 : 2 ≤ (signsF cs).length) (h5 : (signsF cs).length ≤ 5) :
    (∀ i, i < (sW cs).length → (lensF cs most).getD ((sW cs).getD i 0).toNat 0 = (lenP (vW cs) most).getD i 0) ∧ (∀ j, j < cs.length → ((j : Nat) : Int) ∉ sW cs → (lensF cs most).getD j 0 = 0) := by
  have hsl := sW_len cs
  have hvl := vW_len cs
  have hund : (sW cs).Nodup := (sW_perm cs).nodup_iff.mpr (signsF_nd cs)
  have hum : ∀ s ∈ sW cs, 0 ≤ s ∧ s.toNat < cs.length := fun s hs => signsF_mem ((sW_perm cs).mem_iff.mp hs)
  have hS : (singP (vW cs)).length = (signsF cs).length := by simp [singP, hvl]
  have hrow := (rowF_is (singP (vW cs)) (vW cs).length (by omega) (fun x hx => by
    obtain ⟨q, hq, rfl⟩ := List.mem_map.mp hx
    have := (List.mem_zipIdx' hq).1
    refine ⟨Nat.le_refl _, fun s hs => ?_⟩
    rw [List.mem_singleton.mp hs]
    exact ⟨by omega, by simpa using this⟩) most).2
  have hflat : ∀ x ∈ flatI ((rowF (singP (vW cs)) most).take (2 * (vW cs).length - 2)), 0 ≤ x ∧ x.toNat < (vW cs).length := by
    intro x hx
    obtain ⟨it, hit, hx⟩ := List.mem_flatMap.mp hx
    exact (hrow it (List.mem_of_mem_take hit)).2 x hx
  have e0 : lensF cs most = foundF cs.length (((rowF (singP (vW cs)) most).take (2 * (vW cs).length - 2)).map (ren fun i => (sW cs).getD i.toNat 0)) := by
    unfold lensF
    rw [if_neg (by omega), singF_ren, rowF_ren, List.map_take, hvl]
  have hmem : ∀ s ∈ flatI (((rowF (singP (vW cs)) most).take (2 * (vW cs).length - 2)).map (ren fun i => (sW cs).getD i.toNat 0)), s ∈ sW cs := by
    intro s hs
    rw [flatI_ren] at hs
    obtain ⟨x, hx, rfl⟩ := List.mem_map.mp hs
    exact getD_mem (by have := (hflat x hx).2; omega)
  refine ⟨fun i hi => ?_, fun j hj hn => ?_⟩
  · have hm := getD_mem hi
    obtain ⟨s0, s1⟩ := hum _ hm
    rw [e0, foundF_get s1 _ fun s hs => hum s (hmem s hs), flatI_ren]
    have er : (((sW cs).getD i 0).toNat : Int) = (fun i : Int => (sW cs).getD i.toNat 0) (i : Int) := by
      show _ = (sW cs).getD ((i : Int)).toNat 0
      rw [Int.toNat_natCast]; omega
    rw [er, cnt_map (r := fun i : Int => (sW cs).getD i.toNat 0) (i := (i : Int))]
    · unfold lenP
      rw [foundF_get (by omega) _ hflat]
    · intro x hx e
      obtain ⟨x0, x1⟩ := hflat x hx
      have := inj_of_nodup hund (by omega) (by rw [Int.toNat_natCast]; exact hi) e
      rw [Int.toNat_natCast] at this
      omega
  · rw [e0, foundF_get hj _ fun s hs => hum s (hmem s hs)]
    exact cnt_zero _ fun y hy e => hn (e ▸ hmem y hy)
theorem seen {cs t L v σ : List Int} (hσ : σ.Perm (signsF cs)) (hv : v = σ.map fun s => cs.getD s.toNat 0) (hL : L = σ.map fun s => t.getD s.toNat 0) (htl : t.length = cs.length) (hL1 : ∀ l ∈ L, 1 ≤ l) (hz : ∀ j, j < cs.length → ¬ 0 < cs.getD j 0 → t.getD j 0 = 0) :
    signsF t = signsF cs ∧ (t.map fun c => decide (0 < c)) = (cs.map fun c => decide (0 < c)) ∧ (t.filter fun c => decide (0 < c)).Perm L ∧ (∀ k, (roomF t k).sum = (roomF L k).sum) ∧ costF cs t = costF v L := by
  have hpos : ∀ j, j < cs.length → (0 < t.getD j 0 ↔ 0 < cs.getD j 0) := by
    intro j hj
    constructor
    · intro h
      by_cases c : 0 < cs.getD j 0
      · exact c
      · rw [hz j hj c] at h; omega
    · intro h
      have hm : ((j : Nat) : Int) ∈ σ := hσ.mem_iff.mpr (signsF_iff.mpr ⟨by omega, by simpa using hj, by simpa using h⟩)
      have := hL1 _ (by rw [hL]; exact List.mem_map.mpr ⟨_, hm, rfl⟩)
      rw [Int.toNat_natCast] at this
      omega
  have e1 := signsF_congr htl hpos
  have hp : (t.filter fun c => decide (0 < c)).Perm L := by
    rw [used_eq, e1, hL]
    exact hσ.symm.map _
  have hLf : L.filter (fun c => decide (0 < c)) = L := List.filter_eq_self.mpr fun l hl => by
    have := hL1 l hl
    simp; omega
  refine ⟨e1, ?_, hp, fun k => ?_, ?_⟩
  · refine List.ext_getElem (by simp [htl]) fun i h1 h2 => ?_
    have hi : i < cs.length := by simpa using h2
    have hi' : i < t.length := by omega
    have := hpos i hi
    rw [List.getD_eq_getElem?_getD, List.getElem?_eq_getElem hi', List.getD_eq_getElem?_getD, List.getElem?_eq_getElem hi] at this
    rw [List.getElem_map, List.getElem_map, decide_eq_decide]
    exact this
  · unfold roomF
    rw [hLf]
    exact sum_perm (hp.map _)
  · rw [cost_eq htl hz, ← sum_perm (hσ.map _), hv, hL]
    unfold costF
    rw [List.zipWith_map, List.zipWith_self]
end
section
theorem vW_pos {cs : List Int} (hc : ∀ c ∈ cs, c ∈ cntsL) : ∀ x ∈ vW cs, x ∈ posL := by
  intro x hx
  rw [vW_eq] at hx
  obtain ⟨s, hs, rfl⟩ := List.mem_map.mp hx
  obtain ⟨s0, s1, s2⟩ := signsF_iff.mp ((sW_perm cs).mem_iff.mp hs)
  have h := hc _ (getD_mem s1)
  have key : ∀ y ∈ cntsL, 0 < y → y ∈ posL := by decide
  exact key _ h s2
theorem fallF_eq (cs : List Int) : fallF cs = (vW cs).reverse := by
  unfold fallF
  rw [← isortF_is (l' := vW cs) ?_ (vW_sorted cs)]
  rw [used_eq, vW_eq]
  exact (sW_perm cs).map _
theorem chk_all {v : List Int} {most : Nat} (hs : v.Pairwise (· ≤ ·)) (hp : ∀ x ∈ v, x ∈ posL) (h2 : 2 ≤ v.length) (h5 : v.length ≤ 5) (hm : 1 ≤ most ∧ most ≤ 4) : chkV v most = true := by
  have hmem := riseL_mem v hs hp
  have key : ∀ n, (riseL n).all (fun v => chkV v 1 && (chkV v 2 && (chkV v 3 && chkV v 4))) = true → v ∈ riseL n → chkV v most = true := fun n hn hv => by
    have h := List.all_eq_true.mp hn v hv
    simp only [Bool.and_eq_true] at h
    obtain ⟨a, b, c, d⟩ := h
    have : most = 1 ∨ most = 2 ∨ most = 3 ∨ most = 4 := by omega
    rcases this with rfl | rfl | rfl | rfl <;> assumption
  have : v.length = 2 ∨ v.length = 3 ∨ v.length = 4 ∨ v.length = 5 := by omega
  rcases this with h | h | h | h <;> rw [h] at hmem
  · exact key 2 vs2 hmem
  · exact key 3 vs3 hmem
  · exact key 4 vs4 hmem
  · exact key 5 vs5 hmem
theorem best_small0 : ∀ m ∈ [(1 : Int), 2, 3, 4], costsF [] m (risingF 0 1 m) ≠ [] := by decide +kernel
theorem best_small1 : ∀ c ∈ posL, ∀ m ∈ [(1 : Int), 2, 3, 4], costsF [c] m (risingF 1 1 m) ≠ [] := by decide +kernel
theorem most_mem {most : Nat} (hm : 1 ≤ most ∧ most ≤ 4) : (most : Int) ∈ [(1 : Int), 2, 3, 4] := by
  have : most = 1 ∨ most = 2 ∨ most = 3 ∨ most = 4 := by omega
  rcases this with rfl | rfl | rfl | rfl <;> decide
theorem lensF_len (cs : List Int) (most : Nat) : (lensF cs most).length = cs.length := by
  unfold lensF
  split
  · have : ∀ (l : List Int) (f : List Int), (l.foldl (fun f s => f.set s.toNat 1) f).length = f.length := by
      intro l
      induction l with
      | nil => intro f; rfl
      | cons x l ih => intro f; rw [List.foldl_cons, ih]; simp
    rw [this]; simp
  · exact foundF_len _ _
theorem law_many {cs : List Int} {most : Nat} (h1 : 1 ≤ cs.length) (h5 : cs.length ≤ 5) (hc : ∀ c ∈ cs, c ∈ cntsL) (hm : 1 ≤ most ∧ most ≤ 4) (h2 : 2 ≤ (signsF cs).length) : LawOk cs most := by
  have hu5 : (signsF cs).length ≤ 5 := Nat.le_trans (signsF_len cs) h5
  have hvl := vW_len cs
  have hsl := sW_len cs
  have hchk := chk_all (most := most) (vW_sorted cs) (vW_pos hc) (by omega) (by omega) hm
  unfold chkV at hchk
  have hrl : (vW cs).reverse.length = (vW cs).length := by simp
  constructor
  · intro hb
    rw [if_neg (by omega)] at hchk
    have e : costsF (vW cs).reverse most (risingF (vW cs).length 1 most) = [] := List.isEmpty_iff.mp hchk
    unfold bestF bestOf
    rw [fallF_eq, hrl, if_pos e]; rfl
  · intro hg
    rw [if_pos (by omega)] at hchk
    simp only [Bool.and_eq_true, List.all_eq_true, decide_eq_true_eq] at hchk
    obtain ⟨hL, ⟨hr, hr4⟩, hcost⟩ := hchk
    obtain ⟨sc1, sc2⟩ := scatter (most := most) h2 hu5
    have hLl : (lenP (vW cs) most).length = (vW cs).length := foundF_len _ _
    have hLe : lenP (vW cs) most = (sW cs).map fun s => (lensF cs most).getD s.toNat 0 := by
      refine List.ext_getElem (by simp; omega) fun i h1 h2 => ?_
      have hi : i < (sW cs).length := by simpa using h2
      have := sc1 i hi
      rw [List.getD_eq_getElem?_getD (l := sW cs), List.getElem?_eq_getElem hi, List.getD_eq_getElem?_getD (l := lenP (vW cs) most), List.getElem?_eq_getElem h1] at this
      rw [List.getElem_map]
      exact this.symm
    have hz : ∀ j, j < cs.length → ¬ 0 < cs.getD j 0 → (lensF cs most).getD j 0 = 0 := fun j hj hn => sc2 j hj fun hm => by
      have := (signsF_iff.mp ((sW_perm cs).mem_iff.mp hm)).2.2
      rw [Int.toNat_natCast] at this
      exact hn this
    obtain ⟨q1, q2, q3, q4, q5⟩ := seen (sW_perm cs) (vW_eq cs) hLe (lensF_len cs most) (fun l hl => (hL l hl).1) hz
    have hrng : ∀ x ∈ lensF cs most, 0 ≤ x ∧ x ≤ most := by
      intro x hx
      by_cases hx0 : 0 < x
      · have := hL x (q3.mem_iff.mp (List.mem_filter.mpr ⟨hx, by simpa using hx0⟩))
        omega
      · obtain ⟨j, hj, rfl⟩ := List.getElem_of_mem hx
        have hj' : j < cs.length := by rw [← lensF_len cs most]; exact hj
        by_cases hcj : 0 < cs.getD j 0
        · exfalso
          have hm : ((j : Nat) : Int) ∈ signsF (lensF cs most) := q1 ▸ signsF_iff.mpr ⟨by omega, by simpa using hj', by simpa using hcj⟩
          have := (signsF_iff.mp hm).2.2
          rw [Int.toNat_natCast, List.getD_eq_getElem?_getD, List.getElem?_eq_getElem hj] at this
          exact hx0 this
        · have := hz j hj' hcj
          rw [List.getD_eq_getElem?_getD, List.getElem?_eq_getElem hj] at this
          have e : (lensF cs most)[j] = 0 := this
          rw [e]; omega
    refine ⟨?_, by rw [lensF_len]; exact h5, hrng, fun _ => ?_⟩
    · cases hcc : costsF (vW cs).reverse most (risingF (vW cs).length 1 most) with
      | nil => rw [hcc] at hcost; cases hcost
      | cons x r =>
        rw [hcc] at hcost
        have hmin : minF (x :: r) = costF (vW cs) (lenP (vW cs) most) := by simpa using hcost
        have hb : bestF cs most = .int (costF (vW cs) (lenP (vW cs) most)) := by
          unfold bestF bestOf
          rw [fallF_eq, hrl, hcc, if_neg (by simp), hmin]
        rw [hb]
        show rightL cs (lensF cs most) most _ = true
        unfold rightL
        have hul : ((lensF cs most).filter fun c => decide (0 < c)).length = (signsF cs).length := by rw [q3.length_eq, hLl, hvl]
        rw [if_neg (by rw [lensF_len]; simp [q2]), if_neg (by omega)]
        have hmx : mxF ((lensF cs most).filter fun c => decide (0 < c)) ≤ most := (mxF_le (by omega) fun l hl => (hL l (q3.mem_iff.mp hl)).2).2
        rw [q4, hr, q5]
        simp [hmx]
    · rw [← q1]
      refine valid_code (by rw [lensF_len]; exact h1) (by rw [lensF_len]; exact h5) (fun l hl => ⟨(hrng l hl).1, by have := (hrng l hl).2; omega⟩) ?_
      unfold validB
      rw [q4, hr4]
      simp
theorem law_few {cs : List Int} {most : Nat} (h1 : 1 ≤ cs.length) (h5 : cs.length ≤ 5) (hc : ∀ c ∈ cs, c ∈ cntsL) (hm : 1 ≤ most ∧ most ≤ 4) (h2 : (signsF cs).length < 2) : LawOk cs most := by
  have hvl := vW_len cs
  have hp2 : 2 ≤ 2 ^ most := by
    have : 2 ^ 1 ≤ 2 ^ most := Nat.pow_le_pow_right (by decide) hm.1
    exact this
  refine ⟨fun hb => by omega, fun _ => ?_⟩
  have hrl : (vW cs).reverse.length = (vW cs).length := by simp
  have hbest : ∃ b, bestF cs most = .int b := by
    have key : costsF (vW cs).reverse most (risingF (vW cs).length 1 most) ≠ [] := by
      have hp := vW_pos hc
      cases hv : vW cs with
      | nil => exact best_small0 _ (most_mem hm)
      | cons c r =>
        rw [hv] at hvl hp
        have : r = [] := List.eq_nil_of_length_eq_zero (by simp at hvl; omega)
        subst this
        exact best_small1 c (hp c (.head _)) _ (most_mem hm)
    unfold bestF bestOf
    rw [fallF_eq, hrl, if_neg key]
    exact ⟨_, rfl⟩
  obtain ⟨b, hb⟩ := hbest
  have hlen := lensF_len cs most
  have ht : lensF cs most = (signsF cs).foldl (fun f s => f.set s.toNat 1) (List.replicate cs.length 0) := by
    unfold lensF; rw [if_pos h2]
  have key : (∀ s ∈ signsF cs, (lensF cs most).getD s.toNat 0 = 1) ∧ (∀ j, j < cs.length → ¬ 0 < cs.getD j 0 → (lensF cs most).getD j 0 = 0) ∧ ∀ x ∈ lensF cs most, x = 0 ∨ x = 1 := by
    rw [ht]
    cases hs : signsF cs with
    | nil =>
      refine ⟨fun s hs => (nomatch hs), fun j hj _ => ?_, fun x hx => ?_⟩
      · show (List.replicate cs.length (0 : Int)).getD j 0 = 0
        rw [List.getD_eq_getElem?_getD, List.getElem?_replicate, if_pos hj]; rfl
      · exact .inl (List.eq_of_mem_replicate hx)
    | cons s r =>
      have : r = [] := List.eq_nil_of_length_eq_zero (by rw [hs] at h2; simp at h2; omega)
      subst this
      obtain ⟨s0, s1, s2⟩ := signsF_iff.mp (show s ∈ signsF cs by rw [hs]; exact .head _)
      show (∀ s' ∈ [s], ((List.replicate cs.length (0 : Int)).set s.toNat 1).getD s'.toNat 0 = 1) ∧ (∀ j, j < cs.length → ¬ 0 < cs.getD j 0 → ((List.replicate cs.length (0 : Int)).set s.toNat 1).getD j 0 = 0) ∧ ∀ x ∈ (List.replicate cs.length (0 : Int)).set s.toNat 1, x = 0 ∨ x = 1
      refine ⟨fun s' hs' => ?_, fun j hj hn => ?_, fun x hx => ?_⟩
      · rw [List.mem_singleton.mp hs', List.getD_eq_getElem?_getD, List.getElem?_set, if_pos rfl, if_pos (by simpa using s1)]; rfl
      · have hne : ¬ s.toNat = j := fun e => hn (by rw [← e]; exact s2)
        rw [List.getD_eq_getElem?_getD, List.getElem?_set, if_neg hne, List.getElem?_replicate, if_pos hj]; rfl
      · rcases List.mem_or_eq_of_mem_set hx with h | h
        · exact .inl (List.eq_of_mem_replicate h)
        · exact .inr h
  obtain ⟨k1, k2, k3⟩ := key
  have hL1 : ∀ l ∈ (signsF cs).map fun s => (lensF cs most).getD s.toNat 0, 1 ≤ l := by
    intro l hl
    obtain ⟨s, hs, rfl⟩ := List.mem_map.mp hl
    rw [k1 s hs]; decide
  obtain ⟨q1, q2, q3, q4, q5⟩ := seen (List.Perm.refl (signsF cs)) rfl rfl hlen hL1 k2
  have hused : ((lensF cs most).filter fun c => decide (0 < c)) = (signsF cs).map fun _ => 1 := by
    rw [used_eq, q1]
    exact List.map_congr_left fun s hs => k1 s hs
  refine ⟨?_, by omega, fun x hx => by rcases k3 x hx with h | h <;> omega, fun h0 => ?_⟩
  · rw [hb]
    show rightL cs (lensF cs most) most b = true
    unfold rightL
    rw [if_neg (by rw [hlen]; simp [q2]), hused, if_pos (by simpa using h2)]
    cases hs : signsF cs with
    | nil => rfl
    | cons s r =>
      have : r = [] := List.eq_nil_of_length_eq_zero (by rw [hs] at h2; simp at h2; omega)
      subst this
      rfl
  · rw [← q1]
    refine valid_code (by omega) (by omega) (fun l hl => by rcases k3 l hl with h | h <;> omega) ?_
    unfold validB
    rw [hused]
    cases hs : signsF cs with
    | nil => exact absurd hs h0
    | cons s r =>
      have : r = [] := List.eq_nil_of_length_eq_zero (by rw [hs] at h2; simp at h2; omega)
      subst this
      rfl
theorem law_ok (cs : List Int) (most : Nat) (h1 : 1 ≤ cs.length) (h5 : cs.length ≤ 5) (hc : ∀ c ∈ cs, c ∈ cntsL) (hm1 : 1 ≤ most) (hm4 : most ≤ 4) : LawOk cs most := by
  by_cases h2 : (signsF cs).length < 2
  · exact law_few h1 h5 hc ⟨hm1, hm4⟩ h2
  · exact law_many h1 h5 hc ⟨hm1, hm4⟩ (by omega)
end
section
theorem plain_of_well {P : Params} {h : Heap} {l : Addr} {vs : List Value} {xs : List WData} (w : Well P h (.ref l) (.list xs)) (hL : h.IsList l vs.toArray) : h.PlainList l vs.toArray := by
  obtain ⟨o, ho, hc, n, hd⟩ := hL
  cases w with
  | list hg _ =>
    rw [ho] at hg
    cases hg
    cases hd
    exact ⟨0, ho⟩
theorem call_true {prog : Program} {w : World} {g : Heap} {mg mb : Str → Option Value} {K : Frag} (G : GG K g mg mb) {s₁ : Shared} (hg : s₁.heap = g) {l f : Addr} {vs : List Value} {ns : List Int} {fd : FuncData} {body : List Stmt} {x : Str} (F : FnOk K f fd body) (hl : s₁.heap.PlainList l vs.toArray) (hi : IntsAre vs ns)
    (hb : ∀ a, bindArgs fd ⟨[a], []⟩ = pure [(x, a)]) (hk : okIn fd x = true)
    (hW : ∀ cs, WSL prog w g 12 fd.scope body (ents0 [(x, .val (.list (pints ns)))] cs fd.scope.names) fun fl _ => fl = .ret (.bool true)) :
    wpC (model prog w) callerA (call (.ref f) [.ref l]) (fun v s' => v = .bool true ∧ (∀ b o, s₁.heap.get? b = some o → s'.heap.get? b = some o) ∧ ∃ h' tk, s' = { s₁ with heap := h', toks := tk }) noE s₁ := by
  refine wpC_call ?_
  have hk' : (fd.scope.names.lookup x == some .local || fd.scope.names.lookup x == some .cell) = true := hk
  refine fn_enterM (c := true) (n := 12) (A := callerA) (T := fun _ => False) (vals := [.ref l]) (ps := [(x, .val (.list (pints ns)))]) (bs := [(x, .ref l)]) (Q := fun v s' => v = .bool true ∧ (∀ b o, s₁.heap.get? b = some o → s'.heap.get? b = some o) ∧ ∃ h' tk, s' = { s₁ with heap := h', toks := tk }) (E := noE) G F ⟨rfl, by decide, by decide +kernel⟩ ?_ List.nodup_nil (fun b hb => nomatch hb) ⟨_, _, rfl, ⟨_, rfl, l, vs, rfl, ?_, hl, of_ints hi⟩, rfl⟩ (BindsTo.of_eq (hb (.ref l))) (by show ((fd.scope.names.lookup x == some .local || fd.scope.names.lookup x == some .cell) && true) = true; rw [hk']; rfl) rfl fun cs env s2 ok hsc hfr hR hnone sr same keep hV => ?_
  · rw [hg]
    refine ⟨fun _ _ e => e, fun a ha => ?_⟩
    rcases ha with h | h
    · exact h.elim
    · cases h
  · rintro (h | h)
    · exact h
    · cases h
  · refine wpM_mono (hW cs env (callerA.deeper env) _ s2 hsc ok hR (Around.frames_deeper rfl) hfr sr) (fun f s3 h3 => ?_) noE_to
    obtain ⟨fl, ρ', rfl, p, v, rfl, rd⟩ := h3
    refine ⟨rd, fun b o hb => p.keep b o (fun hc => ?_) (keep b o hb), ?_⟩
    · rcases hc with rfl | hc
      · rw [hnone] at hb; cases hb
      · rcases hV b hc with h | h
        · cases h
        · rw [h] at hb; cases hb
    · exact same_trans same p.same
theorem call_law {prog : Program} {w : World} {g : Heap} {mg mb : Str → Option Value} (G : GG (KK w.params) g mg mb) {s₁ : Shared} (hg : s₁.heap = g) {l : Addr} {vs : List Value} {ns : List Int} (hl : s₁.heap.PlainList l vs.toArray) (hi : IntsAre vs ns) (hn : ns.length ≤ 63) :
    wpC (model prog w) callerA (call (.ref 300) [.ref l]) (fun v s' => v = .bool true ∧ (∀ b o, s₁.heap.get? b = some o → s'.heap.get? b = some o) ∧ ∃ h' tk, s' = { s₁ with heap := h', toks := tk }) noE s₁ :=
  call_true G hg (fn300 w.params) hl hi (b300 w.params) (by rfl) fun cs => walk_law G ns (by omega) law_ok (by decide) cs
theorem law_at {P : Params} {g : Heap} {mg mb : Str → Option Value} (G : GG (KK P) g mg mb) : mg (Str.ofString "law") = some (.ref 300) := mg_of G.kin G.gf.gl (by rfl)
end
section
set_option maxHeartbeats 2000000
theorem fin : PySem.Challenge.rw_pb0112_01.Holds := by
  w_on
  refine top_head (by rfl) (by rfl) (by rfl) ?hw ?hc
  case hw => w_witness2
  intro w s₀ s₁ mg mb G Y fa o pm cd doc dV kV ho hd hcd hD hmg hg args vals as hpre hlay hrd hwl hlo
  have KX : (KK w.params).In s₁.heap := kIn_of Y
  have GG' : GG (KK w.params) s₁.heap mg mb := ⟨⟨G.T.g, G.T.b, G.T.nolimit⟩, KX, G.T.builtins⟩
  have e300 : fa = 300 := by
    have h := law_at GG'
    have h' : mg (Str.ofString "law") = some (.ref fa) := hmg
    rw [h] at h'
    injection h' with h'
    injection h' with h'
    exact h'.symm
  subst e300
  clear ho hd hcd hD hmg
  wrow_args hpre hlay hrd hwl hlo
  rename_i ns hs hlay0 hL1 hr1 hl2 a1 a2 l vs a3 hL ra w1 r0 hI hr hc1 hc2
  have hpl : s₁.heap.PlainList l vs.toArray := plain_of_well w1 hL
  refine wpC_mono (call_law (prog := PySem.Challenge.rw_pb0112_01.row.prog) GG' rfl hpl hI (by omega)) (fun v s' h => ?_) (fun _ _ h => h.elim)
  obtain ⟨rfl, keep, h', tk, rfl⟩ := h
  refine GoodW.toG ⟨.inl ⟨.bool true, .bool true, [], rfl, ?_, .bool true, ?_, fun _ => ⟨List.nodup_nil, fun a ha => nomatch ha⟩⟩, keep, rfl, hg⟩
  · intro cls; rfl
  · wrow_post
end
end Mine
theorem PySem.Challenge.cw_pb0112_01_holds : PySem.Challenge.rw_pb0112_01.Holds := by
  exact Mine.fin
