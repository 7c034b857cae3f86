import PyProof.Rows.All
import Wide.All
import OpenK.AllK
import Wide.FinOn
import HandS.ForMost
import HandS.Wide
import HandS.WideMore
import HandS.Exc
import HandS.WordsExc
import HandS.ExcIs
import HandS.ExcField
import HandS.Deep
import HandS.Conv
import HandS.IsInst
import HandS.Style
import HandS.SortInts
import HandS.Strs
import HandS.RevRange
import HandS.Flow
import KE.SortData
import KE.DataCmp
import HandS.RaiseMore
import PyProof.ReprLen
import HandS.Text
import PyProof.StrOps2
import PyProof.MeetsStr3
import PyProof.Rows.StrNews2
import HandS.ExcInit
import HandS.ExcOwn
import HandS.ClsMeth
import PySem.Challenge.RW_packwants_k09_no_offer_at_every_door
set_option Elab.async false
set_option linter.all false
set_option maxRecDepth 100000
set_option maxHeartbeats 4000000
/-! Promises of defs that are called where no text of a list is being made (guards). -/
namespace Dn
open PySem PySem.Spec PyProof.Rows L2
structure RoomG (k : Nat) (A : Around) : Prop extends Room k A where
  gd : A.guards = some []
theorem RoomG.mono {j k : Nat} {A : Around} (r : RoomG k A) (h : j ≤ k) : RoomG j A := ⟨r.toRoom.mono h, r.gd⟩
theorem RoomG.deeper {k : Nat} {A : Around} (r : RoomG (k + 1) A) (env : Env) : RoomG k (A.deeper env) := ⟨r.toRoom.deeper env, r.gd⟩
/-- the def at f keeps its promise wherever nothing is being shown -/
structure FnG (P : Program) (w : World) (K : PySem.W.Frag) (mg : Str → Option Value) (base : Heap) (CX : CXT) (k : Nat) (f : Addr) (fd : FuncData) (ps : List Str) (sp : Sp) : Prop where
  len : ∀ vs H Q E, sp vs H Q E → vs.length = ps.length
  go : ∀ (A : Around) (out : List Env) (t : Shared) (H : Hp) (as : Args) (zs : List Value) (xs : List V) (Q : VK) (E : XK), RoomG k A → Env0 P w K mg base A out t H → BindsTo t fd as (ps.zip zs) → Vals xs zs → sp xs H Q E → codeAny (model P w) A (.call (.ref f) as) (CR CX out P w H t Q E) t
section
variable {P : Program} {w : World} {K : PySem.W.Frag} {mg : Str → Option Value} {base : Heap} {C : CXT}
theorem FnG.or {k : Nat} {f : Addr} {fd : FuncData} {ps : List Str} {sp sp' : Sp} (F : FnG P w K mg base C k f fd ps sp) (G : FnG P w K mg base C k f fd ps sp') : FnG P w K mg base C k f fd ps (fun vs H Q E => sp vs H Q E ∨ sp' vs H Q E) :=
  ⟨fun vs H Q E h => h.elim (F.len vs H Q E) (G.len vs H Q E), fun A out t H as zs xs Q E r e b v h => h.elim (F.go A out t H as zs xs Q E r e b v) (G.go A out t H as zs xs Q E r e b v)⟩
/-- a def by its body -/
theorem Fun.okG {x q : Str} {st : Stmt} {f : Addr} {fd : FuncData} {N ps : List Str} {k : Nat} {sp : Sp} (D : Fun K x q st f fd) (S : FnScope N ps (defScope st)) (len : ∀ vs H Q E, sp vs H Q E → vs.length = ps.length)
    (walk : ∀ (cv : Value) (A : Around) (out : List Env) (t : Shared) (H : Hp) (xs : List V) (Q : VK) (E : XK), RoomG k (A.deeper (envOfC q (defScope st) t.heap.objs.size f cv)) → sp xs H Q E →
      ∃ r, PSs (cxOf C P w K mg base N q (defScope st) f cv A out t H E) (defBody st) r ∧ r { nx := fun _ H' => Q .non H', rt := Q } (L2.start N xs) H) : FnG P w K mg base C (k + 1) f fd ps sp := by
  obtain ⟨oc, od, kV, dc, pm, an, cv, ct, os, rfl, look, code⟩ := D.ex
  constructor
  · exact len
  intro A out t H as zs xs Q E room e0 bind rel ask
  have inK : K.In t.heap := e0.mod.kin.keeps fun b o h => (e0.bs b o h).1
  have noLim : t.heap.NoLimit := e0.mod.nolimit.keeps fun b o h => (e0.bs b o h).1
  refine codeAny_call_function room.toRoom.depth (inK _ _ look) rfl S.co S.gen rfl (PySem.W.codeRec_of inK code) (bind _ _ _ _ ?_)
  refine wpAny_newFunctionEnv_cells S.kind (fun ⟨n, z⟩ hz => ?_) fun env henv t1 X1 => ?_
  · rcases S.par n (List.of_mem_zip hz).1 with h | h
    · exact .inl h
    · exact .inr ⟨h, PySem.W.cellsFrom_some _ _ _ (.inl h)⟩
  subst henv
  obtain ⟨r, hr, ask2⟩ := walk cv A out t H xs Q E (room.deeper _) ask
  have J0 := inv_start (CX := C) (E := E) S room.toRoom.hd e0 (len _ _ _ _ ask) rel X1
  refine ⟨noLim.keeps X1.toInCall.keep, codeAny_func (wpAny_mono (hr.run [] t1 (L2.start N xs) H _ J0 ask2) (fun fl t2 h2 => ?_) fun _ _ h => h)⟩
  match fl, h2 with
  | .ret u, ⟨v, _, H', J, rv, q⟩ => exact ⟨v, H', J.os, J.bare, J.base, J.hok, rv, q⟩
  | .next, ⟨_, H', J, q⟩ => exact ⟨V.non, H', J.os, J.bare, J.base, J.hok, rfl, q⟩
  | .brk, ⟨_, _, _, q⟩ => exact False.elim q
  | .cont, ⟨_, _, _, q⟩ => exact False.elim q
end
section
variable {X : Cx} {C : CXT} {k : Nat} {f : Addr} {fd : FuncData} {ps : List Str} {sp : Sp} {dvs : List V} {ds : List Value} {E : XK} {x : Str} {p pos : Pos} {e : Expr} {es : List Expr} {t : TA}
theorem FnG.at {pins : List (Addr × Obj)} {σ : L2.St} {H : Hp} {s : Shared} {Q : VK} {us : List Value} {vs : List V} (F : FnG X.prog X.w X.K X.mg X.base C k f fd ps sp) (room : RoomG k X.A) (hb : Binds X.K fd ps ds) (hd : Vals dvs ds) (hx : Passes C X E)
    (I : Inv X pins σ H s) (r : Vals vs us) (h : sp (vs ++ dvs) H Q E) : wpAny (model X.prog X.w) X.A (call (.ref f) us) (EP X pins σ Q) X.xe s := by
  have rr : Vals (vs ++ dvs) (us ++ ds) := r.append hd
  have ll : (us ++ ds).length = ps.length := rr.length ▸ F.len _ _ _ _ h
  refine wpAny_call (codeAny_mono (F.go X.A X.stack s H ⟨us, []⟩ _ _ Q E room I.env0 (hb s us I.kIn ll) rr h) fun res s2 hq => ?_)
  match res, hq with
  | .error er, hq => exact hx pins σ H s er s2 I hq
  | .ok (.ret u), hq => exact I.after hq
  | .ok .next, hq => exact hq.elim
  | .ok .brk, hq => exact hq.elim
  | .ok .cont, hq => exact hq.elim
theorem pe_callG (F : FnG X.prog X.w X.K X.mg X.base C k f fd ps sp) (room : RoomG k X.A) (hg : Gl X x) (hm : X.mg x = some (.ref f)) (hk : PySem.W.keepIn X.K (.ref f) = true) (hb : Binds X.K fd ps ds) (hd : Vals dvs ds) (hx : Passes C X E) (ha : PA X (e :: es) t)
    (hdb : (x == ("__debug__" : Str)) = false := by decide) (he : starEach (e :: es) X.env = (false, eval e X.env) :: starEach es X.env := by rfl) (hpl : (backTo pos (starEach es X.env)).any (·.1) = false := by rfl) :
    PE X (.Call (.Name x p) (e :: es) [] pos) (tCall sp dvs E t) :=
  ⟨fun pins s σ H Q I h => wpAny_Call_Name_kw (ld_glob I hg hm (PySem.W.callWith_K (h₀ := X.base) I.ok.mod.kin hk (thn (ha.run pos pins s σ H _ I h) fun us s1 ⟨vs, H1, I1, r, q⟩ => ⟨I1.kIn, F.at room hb hd hx I1 r q⟩) he hpl) hdb)⟩
theorem pe_callG0 (F : FnG X.prog X.w X.K X.mg X.base C k f fd ps sp) (room : RoomG k X.A) (hg : Gl X x) (hm : X.mg x = some (.ref f)) (hk : PySem.W.keepIn X.K (.ref f) = true) (hb : Binds X.K fd ps ds) (hd : Vals dvs ds) (hx : Passes C X E)
    (hdb : (x == ("__debug__" : Str)) = false := by decide) : PE X (.Call (.Name x p) [] [] pos) (tCall sp dvs E tNil) :=
  ⟨fun pins s σ H Q I h => wpAny_Call_Name_kw (ld_glob I hg hm (PySem.W.callWith_K0 I.kIn hk (F.at (us := []) room hb hd hx I .nil h)) hdb)⟩
end
/-- the law's call, where the script alone is tracked -/
theorem lawG {P : Program} {w : World} {K : PySem.W.Frag} {mg mb : Str → Option Value} {C : CXT} {k : Nat} {fa a : Addr} {fd : FuncData} {x : Str} {sp : Sp} {t : Shared} {vs : List Value} {ns : List Int}
    (inK : K.In t.heap) (hns : t.heap.Ns mainGlobals mg) (hb : t.heap.Ns builtinsNs mb) (hbb : ∀ x : Str, x ≠ "__name__" → mb x = bootBuiltins x) (lim : t.heap.NoLimit) (hg : t.gens = #[])
    (ha : t.heap.get? a = some { cls := .type "list", data := .seq vs.toArray }) (hi : IntsAre vs ns) (hl : ns.length ≤ sizeLine) (room : Room k callerA)
    (F : ∀ base : Heap, K.In base → base.Ns mainGlobals mg → FnG P w K mg base C k fa fd [x] sp) (bind : ∀ (s : Shared) (u : Value), BindsTo s fd ⟨[u], []⟩ [(x, u)])
    (hsp : ∀ H : Hp, Only H → SqL K H a (ns.map V.int) → sp [.ref a] H (fun v _ => v = .bl true) fun _ _ _ => False) (hC : ∀ H e s', C [] H t (fun _ _ _ => False) e s' → False) :
    codeAny (model P w) callerA (.call (.ref fa) ⟨[.ref a], []⟩) (fun r s' => r = .ok (.ret (.bool true)) ∧ OldK t.heap s'.heap ∧ s'.os = t.os ∧ AllBare s'.gens) t := by
  have main : ∀ H : Hp, Only H → SqL K H a (ns.map V.int) → HOk P w H t.heap → (∀ b, H b ≠ none → b = a ∧ K.lookup b = none) → codeAny (model P w) callerA (.call (.ref fa) ⟨[.ref a], []⟩) (fun r s' => r = .ok (.ret (.bool true)) ∧ OldK t.heap s'.heap ∧ s'.os = t.os ∧ AllBare s'.gens) t := by
    intro H only seq ok alone
    have free : ∀ (b : Addr) (o : Obj), t.heap.get? b = some o → (b = a → False) → (hidT t.heap H).get? b = some o := fun b o e n => hidT_get e (Classical.byContradiction fun z => n (alone b z).1)
    have ns' : ∀ {b : Addr} {m : Str → Option Value}, t.heap.Ns b m → (hidT t.heap H).Ns b m := by
      rintro b m ⟨o, es, ep, e, d, r⟩
      refine ⟨o, es, ep, free b o e fun z => ?_, d, r⟩
      subst z
      rw [ha] at e
      cases e
      exact nomatch d
    have kb : K.In (hidT t.heap H) := fun b o e => hidT_get (inK b o e) (Classical.byContradiction fun z => by rw [(alone b z).2] at e; cases e)
    have lim' : (hidT t.heap H).NoLimit := by
      obtain ⟨mc, l1, l2⟩ := lim
      exact ⟨mc, ns' l1, l2⟩
    have e0 : Env0 P w K mg (hidT t.heap H) callerA [] t H := ⟨rfl, ⟨kb, ns' hns, ⟨mb, ns' hb, hbb⟩, lim'⟩, fun b o e => of_hidT e, Nat.le_of_eq (hidT_size _ _), trivial, fun b hb => absurd (show b ∈ ([] : List Addr) from hb) (by simp), ok, .of_eq hg⟩
    refine codeAny_mono ((F _ kb (ns' hns)).go callerA [] t H ⟨[.ref a], []⟩ [.ref a] [.ref a] _ _ ⟨room, rfl⟩ e0 (bind t (.ref a)) (.cons rfl .nil) (hsp H only seq)) fun r s' h => ?_
    match r, h with
    | .error e, h => exact (hC H e s' h).elim
    | .ok .next, h => exact h.elim
    | .ok .brk, h => exact h.elim
    | .ok .cont, h => exact h.elim
    | .ok (.ret u), ⟨v, H', os, bare, un, ok', rv, q⟩ =>
      obtain rfl : v = .bl true := q
      obtain rfl : u = Value.bool true := rv
      refine ⟨rfl, OldK.of_keep fun b o e => ?_, os, bare⟩
      rcases only b with z | ⟨ob, xs, z⟩
      · exact un.keep b o e z (fun y => absurd (show b ∈ ([] : List Addr) from y) (by simp)) (by simp)
      · have h1 := (ok b _ z).1
        rw [e] at h1
        cases h1
        exact (ok' b _ (un.frzs b o _ z)).1
  have rv := vals_ints hi
  cases hk : K.lookup a with
  | some o =>
    have e := inK a o hk
    rw [ha] at e
    cases e
    exact main (fun _ => none) (fun _ => .inl rfl) (.inr ⟨_, vs.toArray, _, hk, rfl, rfl, rfl, by rw [List.size_toArray, hi.length]; exact hl, by simpa using rv⟩) (fun b u z => by cases z) fun b z => absurd rfl z
  | none =>
    have at1 : ∀ (b : Addr) (u : HO), (if b = a then some (HO.frz { cls := .type "list", data := .seq vs.toArray } (.lst (ns.map V.int))) else none) = some u → b = a ∧ u = HO.frz { cls := .type "list", data := .seq vs.toArray } (.lst (ns.map V.int)) := fun b u z => by
      split at z
      · rename_i hb
        cases z
        exact ⟨hb, rfl⟩
      · cases z
    refine main (fun b => if b = a then some (.frz { cls := .type "list", data := .seq vs.toArray } (.lst (ns.map V.int))) else none) (fun b => ?_) (.inl (.inr ⟨_, if_pos rfl⟩)) (fun b u z => ?_) fun b z => ?_
    · show (if b = a then some _ else none) = none ∨ ∃ o xs, (if b = a then some _ else none) = some (HO.frz o (.lst xs))
      split
      · exact .inr ⟨_, _, rfl⟩
      · exact .inl rfl
    · obtain ⟨rfl, rfl⟩ := at1 b u z
      exact ⟨ha, by rw [List.length_map]; exact hl, vs, _, rv, ha⟩
    · have : b = a := Classical.byContradiction fun n => z (if_neg n)
      exact ⟨this, this ▸ hk⟩
theorem walkG {l : PySem.W.OpenLaw} {n k : Nat} {q : Program} {loose : List Str} {XP : (Str → Option Value) → Heap → Prop} {YP : World → Heap → Prop} {d : DefRec} {K : Params → PySem.W.Frag} {C : World → CXT} {sp : World → Sp} {x : Str}
    (hn : l.most = some n) (hn2 : n ≤ sizeLine) (hdf : d.params.defaults = []) (room : Room k callerA) (hY : ∀ (w : World) (h : Heap), YP w h → (K w.params).In h)
    (F : ∀ (w : World) (mg : Str → Option Value) (fa : Addr) (h : Heap), (K w.params).In h → h.Ns mainGlobals mg → mg d.name = some (.ref fa) →
      ∃ fd : FuncData, (∀ (s : Shared) (u : Value), BindsTo s fd ⟨[u], []⟩ [(x, u)]) ∧ ∀ base : Heap, (K w.params).In base → base.Ns mainGlobals mg → FnG l.prog w (K w.params) mg base (C w) k fa fd [x] (sp w))
    (hsp : ∀ (w : World) (H : Hp) (a : Addr) (ns : List Int), ns.length ≤ n → Only H → SqL (K w.params) H a (ns.map V.int) → sp w [.ref a] H (fun v _ => v = .bl true) fun _ _ _ => False)
    (hC : ∀ (w : World) (H : Hp) (s : Shared) (e : Value) (s' : Shared), C w [] H s (fun _ _ _ => False) e s' → False) : PySem.W.WalkO q loose XP YP l.row.toRowW d [] (fun f vs => PySem.call f vs) :=
  Att.attach_call hn hdf fun w s0 s1 mg mb fa o pm cd doc a vs ns G Y ho hd hcd hmg hobj hints hlen hg => by
    have inK := hY w _ Y
    obtain ⟨fd, hb, hF⟩ := F w mg fa _ inK G.T.g hmg
    exact lawG inK G.T.g G.T.b G.T.builtins G.T.nolimit hg hobj hints (Nat.le_trans hlen hn2) room hF hb (fun H hO hS => hsp w H a ns hlen hO hS) fun H e s' => hC w H s1 e s'
end Dn

set_option Elab.async false
set_option linter.all false
set_option maxRecDepth 100000
set_option maxHeartbeats 4000000
/-! an error that is caught and kept in a variable: it is tracked behind its except suite -/
namespace Dn
open PySem PySem.Spec PyProof.Rows L2
/-- an error of the class cls, its dict at d, at a -/
def ExV (cls : Value) (d : Option Addr) (a : Addr) : HO := .ext fun h => ∃ (oe : Obj) (vs : Array Value), h.get? a = some oe ∧ Zc cls d oe ∧ oe.data = .fields vs
theorem exV_ok {P : Program} {w : World} {H : Hp} {h : Heap} {a : Addr} {cls : Value} {d : Option Addr} {oe : Obj} {vs : Array Value} (e : h.get? a = some oe) (z : Zc cls d oe) (f : oe.data = .fields vs) : ObjOk P w H h a (ExV cls d a) :=
  ⟨⟨oe, vs, e, z, f⟩, ⟨oe, e⟩, fun _ _ ⟨o, v, q, r⟩ k => ⟨o, v, k o q, r⟩⟩
theorem exV_at {P : Program} {w : World} {H : Hp} {h : Heap} {a : Addr} {cls : Value} {d : Option Addr} (x : HOk P w H h) (e : H a = some (ExV cls d a)) : ∃ (oe : Obj) (vs : Array Value), h.get? a = some oe ∧ Zc cls d oe ∧ oe.data = .fields vs := (x a _ e).1
section
variable {X : Cx} {pins : List (Addr × Obj)} {σ : L2.St} {H : Hp} {s : Shared}
/-- what a suite's pin tells, tracked from now on -/
theorem Inv.hold {a : Addr} {oe : Obj} {cls : Value} {d : Option Addr} {pn : List (Addr × Obj)} (S : Inv (X.suite a ((a, oe) :: (X.pn ++ pins))) pn σ H s) (ok : X.Ok) (z : Zc cls d oe) (f : ∃ vs, oe.data = .fields vs)
    (n0 : X.s_0.heap.get? a = none) (np : ∀ p ∈ X.pn ++ pins, p.1 ≠ a) : Inv X pins σ (upd H a (ExV cls d a)) s := by
  obtain ⟨vs, hf⟩ := f
  obtain ⟨ga, na, nL, nF, nC⟩ := S.pin (a, oe) (List.mem_append_left _ (List.mem_cons_self ..))
  have b0 : ∀ b o, X.s_0.heap.get? b = some o → b ≠ a := fun b o e q => by rw [q, n0] at e; cases e
  have bH : ∀ b (o : HO), H b = some o → b ≠ a := fun b o e q => by rw [q, na] at e; cases e
  refine ⟨ok, S.os, S.bare, ?_, S.loc, S.cell, ?_, ?_, ?_, ?_, S.len⟩
  · have U := S.base
    exact ⟨U.keep, U.slot, fun b o e n x => (upd_ne (b0 b o e)).trans (U.free b o e n x), U.there, fun b xs e => (upd_ne (bH b _ (U.tups b xs e))).trans (U.tups b xs e), fun b o u e => (upd_ne (bH b _ (U.frzs b o u e))).trans (U.frzs b o u e), fun b ps e => by
      obtain ⟨m, q⟩ := U.tbls b ps e
      exact ⟨m, (upd_ne (bH b _ q)).trans q⟩⟩
  · exact (upd_ne fun q => nL q.symm).trans S.free
  · intro x c e
    obtain ⟨v, o, g, dc⟩ := S.cell x c e
    refine (upd_ne fun q => ?_).trans (S.freeC x c e)
    rw [q, ga] at g
    cases g
    exact nC v dc
  · intro p hp
    obtain ⟨g, n, r⟩ := S.pin p (List.mem_append_left _ (List.mem_cons_of_mem _ hp))
    exact ⟨g, (upd_ne (np p hp)).trans n, r⟩
  · intro b u e
    by_cases q : b = a
    · subst q
      rw [upd_same] at e
      cases e
      exact exV_ok ga z hf
    · rw [upd_ne q] at e
      exact (S.hok b u e).stay (fun c v _ g => g) (fun c g => (upd_ne (bH c _ g)).trans g) fun c xs g => (upd_ne (bH c _ g)).trans g
end
/-- what 'except x as n: suite' wishes, where the error lives on -/
def wKeep (K : PySem.W.Frag) (c : Value) (i : Nat) (ts : Addr → Value → Option Addr → TS) (D : Ends) : WX := fun cls d σ H =>
  PySem.W.exmOne K cls c = some true ∧ ∀ a, H a = none → ts a cls d { nx := fun σ' H' => D.nx (σ'.set i none) (upd H' a (ExV cls d a)), rt := fun _ _ => False, bk := fun _ _ => False, ct := fun _ _ => False } (σ.set i (some (.ref a))) H
section
variable {X : Cx} {x n : Str} {c : Value} {i : Nat} {body suite : List Stmt} {b0 : Stmt} {np pos pos' : Pos} {tb : WX → TS} {ts : Addr → Value → Option Addr → TS}
theorem ps_try_keep (hs : X.stack = X.env :: X.outer) (hf : X.env.frame = some X.env.locals) (hx : X.ex = []) (hN : X.N.Nodup) (hi : X.N[i]? = some n) (hln : X.env.kindOf n = some .local) (hc : L2.Names X x c)
    (hb : ∀ (W : WX) (pn : List (Addr × Obj)) (xe : Value → Shared → Prop), Takes (X.tr pn xe) W → PassesOwn (model X.prog X.w) X.A X.env xe → PSs (X.tr pn xe) body (tb W))
    (hsu : ∀ (a : Addr) (oe : Obj) (cls : Value) (d : Option Addr) (pn : List (Addr × Obj)), Zc cls d oe → (∃ vs, oe.data = .fields vs) → PSs (X.suite a ((a, oe) :: pn)) (b0 :: suite) (ts a cls d)) :
    PS X (.Try body [.ExceptHandler (some (.Name x np)) (some n) (b0 :: suite) pos'] [] [] pos) (fun D σ H => tb (wKeep X.K c i ts D) D σ H) := ⟨fun pins s σ H D I h => by
  have fr : X.A.frames = some (X.env :: X.outer) := I.ok.frames.trans (congrArg some hs)
  have catch_ : Takes (X.tr (X.pn ++ pins) fun e s1 => wpAny (model X.prog X.w) X.A (noteFrame e X.env) (fun _ s2 => wpAny (model X.prog X.w) X.A (setFlight e none) (fun _ s3 =>
      wpAny (model X.prog X.w) X.A (handleBy e X.env [.ExceptHandler (some (.Name x np)) (some n) (b0 :: suite) pos']) (SP X pins D) X.xe s3) X.xe s2) X.xe s1) (wKeep X.K c i ts D) := by
    rintro u s1 ⟨a, B, sI, pins1, σ1, H1, cls, d, rfl, J0, nb, up, sky, na, os, ag, hm, hgo⟩
    have J : Inv X pins σ1 H1 sI := J0.ofTry I.ok
    have sky1 : Sky B (X.env :: X.outer) a (Zc cls d) X.env.locals s1.heap := hs ▸ sky
    refine Sky.land (env := X.env) (outer := X.outer) (L := X.env.locals) Zc.steady fr hf sky1 fun h2 fl up2 => ?_
    have J2 : Inv X pins σ1 H1 { s1 with heap := h2 } := J.landed nb fl.1 (up.trans up2) os ag
    obtain ⟨o2, v2, g2, z2, d2⟩ := fl.there
    have out : a ∉ frs (X.env :: X.outer) := fun m => by
      obtain ⟨_, o', g', k'⟩ := fl.2.2.1.mem m
      rw [g2] at g'
      cases g'
      exact k' _ d2
    have nL : a ≠ X.env.locals := fun q => out (List.mem_filterMap.mpr ⟨X.env, List.mem_cons_self .., hf.trans (congrArg some q.symm)⟩)
    have nF : a ∉ X.fs := fun m => by
      obtain ⟨e, he, q⟩ := List.mem_filterMap.mp m
      exact out (List.mem_filterMap.mpr ⟨e, List.mem_cons_of_mem _ he, q⟩)
    have nI : sI.heap.get? a = none := by
      cases q : sI.heap.get? a with
      | none => rfl
      | some o =>
        have := nb a o q (by rw [hs]; exact out)
        rw [fl.2.1] at this
        cases this
    have n0 : X.s_0.heap.get? a = none := by
      cases q : X.s_0.heap.get? a with
      | none => rfl
      | some o =>
        obtain ⟨o', q'⟩ := J.base.there a o q (by rw [hx]; exact List.not_mem_nil)
        rw [nI] at q'
        cases q'
    have npn : ∀ p ∈ X.pn ++ pins, p.1 ≠ a := fun p hp q => by
      have := (J.pin p hp).1
      rw [q, nI] at this
      cases this
    refine wpAny_handleBy_cons (codeAny_handlers_test ?_) (by intro q; cases q)
    have S2 := J2.suite g2 d2 na nL nF
    have look : PySem.W.Looks (model X.prog X.w) h2 (typeOf (.ref a)) cls := fun A Q E s k q => wpAny_typeOf_ref (k _ _ g2) (by rw [z2.1]; exact q)
    have match_ := PySem.W.exm_one (M := model X.prog X.w) J2.kIn look hm
    have ask : ∀ {Q : Value → Shared → Prop} {E : Value → Shared → Prop}, Q c { s1 with heap := h2 } → wpAny (model X.prog X.w) (X.A.mark (some (.ref a))) (eval (.Name x np) X.env) Q E { s1 with heap := h2 } := fun {Q E} q => by
      obtain ⟨g, db, m | ⟨m, v, nn⟩⟩ := hc
      · exact ld_glob (X := X.suite a ((a, o2) :: (X.pn ++ pins))) S2 g m q db
      · exact ld_blt (X := X.suite a ((a, o2) :: (X.pn ++ pins))) S2 g m v q nn db
    refine ask (match_.here (codeAny_handlers_suite_as (HandSPX.lands_againZ fl fun h3 fl3 up3 => ?_)))
    have J3 : Inv X pins σ1 H1 { s1 with heap := h3 } := J.landed nb fl3.1 ((up.trans up2).trans up3) os ag
    obtain ⟨o3, v3, g3, z3, d3⟩ := fl3.there
    refine store_ok (X := X.suite a ((a, o3) :: (X.pn ++ pins))) (v := .ref a) (J3.suite g3 d3 na nL nF) hN hi (.inl hln) rfl (fun s4 S4 => ?_) (.inr hln)
    refine wpAny_mono ((hsu a o3 cls d (X.pn ++ pins) z3 ⟨_, d3⟩).run [] s4 _ H1 _ S4 (hgo a na)) (fun fl s5 r5 => ?_) fun _ _ q => q.elim
    cases fl with
    | next =>
      obtain ⟨σ5, H5, S5, q5⟩ := r5
      exact gone_ok (X := X.suite a ((a, o3) :: (X.pn ++ pins))) S5 hN hi hln fun s6 S6 => ⟨_, _, Inv.hold S6 I.ok z3 ⟨_, d3⟩ n0 npn, q5⟩
    | ret u =>
      obtain ⟨_, _, _, _, _, q5⟩ := r5
      exact q5.elim
    | brk =>
      obtain ⟨_, _, _, q5⟩ := r5
      exact q5.elim
    | cont =>
      obtain ⟨_, _, _, q5⟩ := r5
      exact q5.elim
  refine wpAny_Try_except (wpAny_mono ((hb _ _ _ catch_ PassesOwn.looking).run [] s σ H D (I.toTry _) h) (fun fl s1 r => ?_) fun _ _ q => q)
  cases fl with
  | next =>
    obtain ⟨σ1, H1, J1, q⟩ := r
    exact wpAny_execs_nil ⟨σ1, H1, J1.ofTry I.ok, q⟩
  | ret u =>
    obtain ⟨v, σ1, H1, J1, rv, q⟩ := r
    exact ⟨v, σ1, H1, J1.ofTry I.ok, rv, q⟩
  | brk =>
    obtain ⟨σ1, H1, J1, q⟩ := r
    exact ⟨σ1, H1, J1.ofTry I.ok, q⟩
  | cont =>
    obtain ⟨σ1, H1, J1, q⟩ := r
    exact ⟨σ1, H1, J1.ofTry I.ok, q⟩⟩
end
end Dn

set_option Elab.async false
set_option linter.all false
set_option maxRecDepth 100000
set_option maxHeartbeats 4000000
/-! isinstance(e, c) and e.f of an error that is tracked and has a dict -/
namespace Dn
open PySem PySem.Spec PySem.W PySem.Calls PyProof.Rows
section
variable {prog : Program} {w : World} {A : Around} {E : Value → Shared → Prop} {s : Shared} {K : Frag} {a D : Addr}
theorem clsOfE {oa : Obj} {od : Option Obj} {Q : Option Value → Shared → Prop} (T : L2.ExcC K D) (k : K.In s.heap) (I : PySem.W.InstAt s.heap a oa D od) (q : Q (some (.ref D)) { s with toks := s.toks + 1 }) : wpAny (model prog w) A (getAttr? (.ref a) "__class__") Q E s := by
  have fo : findObj K D od "__class__" = some (.bind (.builtin "getset_descriptor.__get__") (.builtin "object.__class__")) := by
    obtain ⟨cd, hc, _⟩ := any_some T.hd
    cases od with
    | none => exact findObj_dataN (by rw [hc]; rfl) T.ha T.hn T.ht
    | some od => exact findObj_data (by rw [hc]; rfl) T.ha T.hn T.ht
  obtain ⟨hp, g, dr, tk, os⟩ := s
  have lT := I.type (M := model prog w)
  have lG := looks_findIn (M := model prog w) k T.hg
  have lA := looks_findIn (M := model prog w) k T.hk
  have lF := looks_find (M := model prog w) k I fo
  have isE : Looks (model prog w) hp (isInstance (.ref a) (.type "BaseException")) true := lT.andThen (looks_subIn k T.hs)
  have ne : (onTheHeap (Value.ref D) && Value.builtin "BaseException.__getattribute__" == Value.builtin "object.__getattribute__") = false := by
    rw [show (Value.builtin "BaseException.__getattribute__" == Value.builtin "object.__getattribute__") = false by decide +kernel, Bool.and_false]
  have no : (false && onTheHeap (Value.builtin "BaseException.__getattribute__")) = false := Bool.false_and _
  unfold getAttr? getAttrBy? getAttrBy
  refine wpAny_bind (wpAny_mkText (wpAny_bind (wpAny_attempt (wpAny_holding (wpAny_bind (lT.at (wpAny_bind (lG.at ?b))))))))
  show wpAny _ _ (if (onTheHeap (Value.ref D) && Value.builtin "BaseException.__getattribute__" == Value.builtin "object.__getattribute__") = true then _ else _) _ _ _
  rw [ne]
  rw [if_neg (show ¬ (false = true) from Bool.false_ne_true)]
  unfold getAttrByItsOwn hookBefore
  refine wpAny_bind (show wpAny _ _ (if onTheHeap (Value.ref D) = true then _ else _) _ _ _ from ?c)
  rw [if_pos (show onTheHeap (Value.ref D) = true by rfl)]
  refine lA.at (wpAny_bind (wpAny_attempt (wpAny_holding ?d)))
  unfold callGetattribute
  rw [no]
  rw [if_neg (show ¬ (false = true) from Bool.false_ne_true)]
  unfold boundAndCalled
  rw [PySem.F.excAttr_ValueError.ga.bind (.ref a)]
  refine wpAny_bind (wpAny_pure (show wpAny _ _ (call (.builtin "BaseException.__getattribute__") [.ref a, .str "__class__" tk]) _ _ _ from ?e))
  refine wpAny_call (codeAny_call_builtin PySem.F.excAttr_ValueError.ga.plain PySem.F.entry_bexc_ga (@check_slot (model prog w) _ _ ⟨hp, g, dr, tk + 1, os⟩ "BaseException.__getattribute__" "BaseException" "__getattribute__" (.ref a) [.str "__class__" tk] [] _ (by decide +kernel) (by decide +kernel) isE (PySem.F.args_bexc_ga (.ref a) (.str "__class__" tk)) ?f))
  unfold Builtin.«object.__getattribute__»
  refine wpAny_bind (wpAny_of_eq (a := ((Value.ref a : Value), [Value.str "__class__" tk])) (by first | rfl | (simp only [slotArgs]; rfl)) (wpAny_bind (wpAny_pure (wpAny_bind (lT.at (wpAny_bind (lF.at ?g)))))))
  show wpAny _ _ (holding [Value.builtin "object.__class__"] (call (.builtin "getset_descriptor.__get__") [.builtin "object.__class__", .ref a, .ref D]) >>= ret) _ _ _
  refine wpAny_bind (wpAny_holding (wpAny_call (class_get (s := ⟨hp, g, dr, tk + 1, os⟩) (ox := oa) (od := od) k I T.hm (wpAny_pure (show wpAny _ _ (handedOut (.ref D)) _ _ _ from ?h)))))
  rw [handedOut_of (v := Value.ref D) rfl]
  first
    | exact wpAny_pure (wpAny_pure q)
    | exact wpAny_pure q
    | exact wpAny_pure (wpAny_bind (wpAny_pure (wpAny_pure q)))
/-- isinstance asks an error of the class D rightly, with a dict or without -/
theorem kitE (T : L2.ExcC K D) : KitX K (.ref a) (.ref D) (fun h => ∃ oa od, PySem.W.InstAt h a oa D od) where
  ty := fun _ _ _ ⟨_, _, I⟩ => I.type
  it := fun _ _ k _ => by
    obtain ⟨cd, hc, _⟩ := any_some T.hd
    unfold clsIn at hc
    split at hc
    · rename_i ho
      intro A' Q' E' s' kk q
      unfold isType loadHead
      exact wpAny_bind (wpAny_loadPart (kk _ _ (k _ _ ho)) (wpAny_pure q))
    · cases hc
  ne := fun h tp dd its n sl k htp => Bool.eq_false_iff.mpr fun q => by
    obtain ⟨cd, hc, _⟩ := any_some T.hd
    obtain rfl : D = tp := Value.ref.inj (beq_iff_eq.mp q)
    unfold clsIn at hc
    split at hc
    · rename_i ho
      cases (k _ _ ho).symm.trans htp
    · cases hc
  ca := fun k ⟨_, _, I⟩ q => clsOfE T k I q
end
end Dn
namespace Dn
open PySem PySem.Spec PyProof.Rows L2
section
variable {X : Cx}
theorem exV_inst {P : Program} {w : World} {H : Hp} {h : Heap} {a dd D : Addr} {fs : List (Str × V)} (x : HOk P w H h) (e : H a = some (ExV (.ref D) (some dd) a)) (f : H dd = some (.xd fs)) :
    ∃ oa od mA, PySem.W.InstAt h a oa D (some od) ∧ h.Ns1 dd mA ∧ (∀ g, RelO (fs.lookup g) (mA g)) ∧ h.get? dd = some od := by
  obtain ⟨oa, vs, g, z, dt⟩ := exV_at x e
  obtain ⟨mA, hn, r⟩ : ∃ mA, h.Ns1 dd mA ∧ ∀ g, RelO (fs.lookup g) (mA g) := x dd _ f
  obtain ⟨od, ho, _⟩ := lookIn_ns hn
  exact ⟨oa, od, mA, ⟨g, z.1, by unfold PySem.W.notCls; rw [dt] <;> rfl, by rw [z.2]; exact ho⟩, hn, r, ho⟩
/-- isinstance(e, c): e a tracked error, c a class -/
def rIsV (K : PySem.W.Frag) : List V → Hp → VK → Prop := fun xs H Q => ∃ (a dd D : Addr) (fs : List (Str × V)) (c : V) (cv : Value) (b : Bool), xs = [.ref a, c] ∧ H a = some (ExV (.ref D) (some dd) a) ∧ H dd = some (.xd fs) ∧ ExcC K D ∧ (∀ u, RelV c u → u = cv) ∧ PySem.W.kitOne K (.ref D) cv = some b ∧ Q (.bl b) H
theorem call_isV : CallR X (.builtin "isinstance") (rIsV X.K) := by
  intro pins s σ H xs us Q I r ⟨a, dd, D, fs, c, cv, b, hx, ha, hd, T, hc, hk, q⟩
  subst hx
  obtain ⟨ua, uc, rfl, ra, rc⟩ : ∃ ua uc, us = [ua, uc] ∧ RelV (.ref a) ua ∧ RelV c uc := by
    cases r with
    | cons r1 r => cases r with
      | cons r2 r => cases r; exact ⟨_, _, rfl, r1, r2⟩
  obtain rfl : ua = .ref a := ra
  obtain rfl := hc uc rc
  obtain ⟨oa, od, mA, J, _⟩ := exV_inst I.hok ha hd
  exact PySem.W.kia_one (kitE T) I.kIn ⟨oa, _, J⟩ hk (fun z => nomatch z) fun tk => ⟨.bl b, H, I.kept (t' := tk) fun _ _ z => z, rfl, q⟩
/-- e.f -/
def tFldV (K : PySem.W.Frag) (n : Str) (te : TE) : TE := fun σ H Q => te σ H fun x H1 => ∃ (a dd D : Addr) (fs : List (Str × V)) (v : V), x = .ref a ∧ H1 a = some (ExV (.ref D) (some dd) a) ∧ H1 dd = some (.xd fs) ∧ XfC K D ∧ PySem.W.findIn K (.ref D) n = some none ∧ fs.lookup n = some v ∧ Q v H1
theorem pe_fldV {e : Expr} {te : TE} {pos : Pos} {n : Str} (he : PE X e te) (hb : attributeBase e n X.env (eval e X.env) = eval e X.env := by rfl) : PE X (.Attribute e n pos) (tFldV X.K n te) := ⟨fun pins s σ H Q I h => attr_of hb (thn (he.run pins s σ H _ I h) fun u s1 hh => by
  obtain ⟨x, H1, I1, rx, a, dd, D, fs, v, hx, ha, hd, T, no, l, q⟩ := hh
  subst hx
  obtain rfl : u = .ref a := rx
  obtain ⟨oa, od, mA, J, hn, r, ho⟩ := exV_inst I1.hok ha hd
  obtain ⟨od', ho', lk⟩ := lookIn_ns hn
  rw [ho] at ho'
  cases ho'
  obtain ⟨u, hu, ru⟩ := RelO.some_of (v := v) (o := mA n) (by rw [← l]; exact r n)
  exact HandSPX.exc_get I1.kIn J T.ga T.gg T.exC (PySem.W.findObj_own T.hdC no rfl (by rw [lk, hu])) (handed_of ru) ⟨v, H1, I1.tok _, ru, q⟩)⟩
end
end Dn

set_option Elab.async false
set_option linter.all false
set_option maxRecDepth 100000
set_option maxHeartbeats 4000000
/-! Denotations: resources, what stands in the heap, by trees of data. -/
namespace Dn
open PySem L2

/-- an error: the name of its class, its field, an int -/
structure Exn where
  c : Str
  f : Str
  v : Int
/-- the class of this name -/
def ClsAt (K : PySem.W.Frag) (c : Str) (C : Addr) : Prop := PySem.W.nsIn K mainGlobals c = some (some (.ref C))
/-- a thing that lives: frozen data, or a tree of which the one who holds it is the only holder -/
inductive O where
  | v (d : PyData)
  | s (ns : List Int)
  | fx (u : HO)
  | ex (x : Exn)
  | l (xs : List O)
  | t (xs : List O)
  | dk (kvs : List (Key × PyData))
  | dt (kvs : List (List Key × PyData))
  | ob (C : Addr) (ns : List Str) (xs : List O)

mutual
def O.toD : O → Option PyData
  | .v d => some d
  | .l xs => (O.toDs xs).map .list
  | .t xs => (O.toDs xs).map .tuple
  | _ => none
def O.toDs : List O → Option (List PyData)
  | [] => some []
  | x :: xs => match O.toD x, O.toDs xs with
    | some d, some ds => some (d :: ds)
    | _, _ => none
end

section
variable {K : PySem.W.Frag}
theorem rd_mono {H H' : Hp} {a : Addr} {u : HO} (e : Same H H') (h : Rd H a u) : Rd H' a u := by
  rcases h with h | ⟨o, h⟩
  · exact .inl (e _ _ h)
  · exact .inr ⟨o, e _ _ h⟩
theorem sqt_mono {H H' : Hp} {a : Addr} {xs : List V} (e : Same H H') (h : SqT K H a xs) : SqT K H' a xs := by
  rcases h with h | h
  · exact .inl (rd_mono e h)
  · exact .inr h
theorem sql_mono {H H' : Hp} {a : Addr} {xs : List V} (e : Same H H') (h : SqL K H a xs) : SqL K H' a xs := e.seq h
mutual
/-- frozen data: its lists stand as lists -/
inductive Df (K : PySem.W.Frag) (F : Hp) : V → PyData → Prop
  | non : Df K F .non .none
  | bl (b : Bool) : Df K F (.bl b) (.bool b)
  | int (i : Int) : Df K F (.int i) (.int i)
  | str (x : Str) : Df K F (.str x) (.str x)
  | lst {a : Addr} {xs : List V} {ds : List PyData} : F a = some (.lst xs) → DfAll K F xs ds → Df K F (.ref a) (.list ds)
  | tup {a : Addr} {xs : List V} {ds : List PyData} : F a = some (.tup xs) → DfAll K F xs ds → Df K F (.ref a) (.tuple ds)
inductive DfAll (K : PySem.W.Frag) (F : Hp) : List V → List PyData → Prop
  | nil : DfAll K F [] []
  | cons {v : V} {vs : List V} {d : PyData} {ds : List PyData} : Df K F v d → DfAll K F vs ds → DfAll K F (v :: vs) (d :: ds)
end
mutual
theorem Df.dp {F H : Hp} (e : Same F H) : ∀ {v : V} {d : PyData}, Df K F v d → Dp K H v d
  | _, _, .non => .non
  | _, _, .bl b => .bl b
  | _, _, .int i => .int i
  | _, _, .str x => .str x
  | _, _, .lst h a => .lst (.of (e _ _ h)) (DfAll.dp e a)
  | _, _, .tup h a => .tup (.of (e _ _ h)) (DfAll.dp e a)
theorem DfAll.dp {F H : Hp} (e : Same F H) : ∀ {vs : List V} {ds : List PyData}, DfAll K F vs ds → DpAll K H vs ds
  | _, _, .nil => .nil
  | _, _, .cons h t => .cons (Df.dp e h) (DfAll.dp e t)
end
mutual
theorem dp_mono {F F' : Hp} (e : Same F F') : ∀ {v : V} {d : PyData}, Df K F v d → Df K F' v d
  | _, _, .non => .non
  | _, _, .bl b => .bl b
  | _, _, .int i => .int i
  | _, _, .str x => .str x
  | _, _, .lst h a => .lst (e _ _ h) (dpa_mono e a)
  | _, _, .tup h a => .tup (e _ _ h) (dpa_mono e a)
theorem dpa_mono {F F' : Hp} (e : Same F F') : ∀ {vs : List V} {ds : List PyData}, DfAll K F vs ds → DfAll K F' vs ds
  | _, _, .nil => .nil
  | _, _, .cons h t => .cons (dp_mono e h) (dpa_mono e t)
end
end

abbrev Ws := List (V × O)
mutual
inductive Rp (K : PySem.W.Frag) (F H : Hp) : V → O → List Addr → Prop
  | v {x : V} {d : PyData} : Df K F x d → Rp K F H x (.v d) []
  | s {a : Addr} {ns : List Int} : SqL K F a (ns.map V.int) → Rp K F H (.ref a) (.s ns) []
  | fx {a : Addr} {u : HO} : F a = some u → Rp K F H (.ref a) (.fx u) []
  | ex {a dd C : Addr} {x : Exn} : ClsAt K x.c C → F a = some (ExV (.ref C) (some dd) a) → F dd = some (.xd [(x.f, V.int x.v)]) → Rp K F H (.ref a) (.ex x) []
  | l {p : Addr} {vs : List V} {xs : List O} {ws : Ws} {T : List Addr} : H p = some (.lst vs) → vs = ws.map (·.1) → xs = ws.map (·.2) → RpL K F H ws T → Rp K F H (.ref p) (.l xs) (p :: T)
  | t {p : Addr} {vs : List V} {xs : List O} {ws : Ws} {T : List Addr} : H p = some (.tup vs) → vs = ws.map (·.1) → xs = ws.map (·.2) → RpL K F H ws T → Rp K F H (.ref p) (.t xs) (p :: T)
  | dk {p : Addr} {kvs : List (Key × V)} {ks : List (Key × PyData)} : H p = some (.dK kvs) → kvs.map (·.1) = ks.map (·.1) → DfAll K F (kvs.map (·.2)) (ks.map (·.2)) → Rp K F H (.ref p) (.dk ks) [p]
  | dt {p : Addr} {kvs : List (List Key × V)} {ks : List (List Key × PyData)} : H p = some (.dT kvs) → kvs.map (·.1) = ks.map (·.1) → DfAll K F (kvs.map (·.2)) (ks.map (·.2)) → Rp K F H (.ref p) (.dt ks) [p]
  | ob {p dx C : Addr} {fs : List (Str × V)} {ns : List Str} {xs : List O} {ws : Ws} {T : List Addr} : H p = some (.ins C dx fs) → H dx = some (.own p) → fs.map (·.1) = ns → fs.map (·.2) = ws.map (·.1) → xs = ws.map (·.2) → RpL K F H ws T → Rp K F H (.ref p) (.ob C ns xs) (p :: dx :: T)
inductive RpL (K : PySem.W.Frag) (F H : Hp) : Ws → List Addr → Prop
  | nil : RpL K F H [] []
  | cons {x : V} {o : O} {ws : Ws} {T1 T2 : List Addr} : Rp K F H x o T1 → RpL K F H ws T2 → RpL K F H ((x, o) :: ws) (T1 ++ T2)
end

section
variable {K : PySem.W.Frag}
mutual
theorem rp_mono {F F' H H' : Hp} (e : Same F F') : ∀ {v : V} {o : O} {T : List Addr}, Rp K F H v o T → (∀ p ∈ T, H' p = H p) → Rp K F' H' v o T
  | _, _, _, .v h, _ => .v (dp_mono e h)
  | _, _, _, .s h, _ => .s (sql_mono e h)
  | _, _, _, .fx h, _ => .fx (e _ _ h)
  | _, _, _, .ex h1 h2 h3, _ => .ex h1 (e _ _ h2) (e _ _ h3)
  | _, _, _, .l h e1 e2 r, k => .l ((k _ (List.mem_cons_self ..)).trans h) e1 e2 (rpl_mono e r fun p hp => k p (List.mem_cons_of_mem _ hp))
  | _, _, _, .t h e1 e2 r, k => .t ((k _ (List.mem_cons_self ..)).trans h) e1 e2 (rpl_mono e r fun p hp => k p (List.mem_cons_of_mem _ hp))
  | _, _, _, .dk h e1 a, k => .dk ((k _ (List.mem_cons_self ..)).trans h) e1 (dpa_mono e a)
  | _, _, _, .dt h e1 a, k => .dt ((k _ (List.mem_cons_self ..)).trans h) e1 (dpa_mono e a)
  | _, _, _, .ob h h' e0 e1 e2 r, k => .ob ((k _ (List.mem_cons_self ..)).trans h) ((k _ (List.mem_cons_of_mem _ (List.mem_cons_self ..))).trans h') e0 e1 e2 (rpl_mono e r fun p hp => k p (List.mem_cons_of_mem _ (List.mem_cons_of_mem _ hp)))
theorem rpl_mono {F F' H H' : Hp} (e : Same F F') : ∀ {ws : Ws} {T : List Addr}, RpL K F H ws T → (∀ p ∈ T, H' p = H p) → RpL K F' H' ws T
  | _, _, .nil, _ => .nil
  | _, _, .cons h t, k => .cons (rp_mono e h fun p hp => k p (List.mem_append_left _ hp)) (rpl_mono e t fun p hp => k p (List.mem_append_right _ hp))
end
mutual
theorem rp_dom {F H : Hp} : ∀ {v : V} {o : O} {T : List Addr}, Rp K F H v o T → ∀ p ∈ T, H p ≠ none
  | _, _, _, .v h, p, hp => by cases hp
  | _, _, _, .s h, p, hp => by cases hp
  | _, _, _, .fx h, p, hp => by cases hp
  | _, _, _, .ex _ _ _, p, hp => by cases hp
  | _, _, _, .l h _ _ r, p, hp => by
    rcases List.mem_cons.mp hp with e | hp
    · rw [e, h]; exact nofun
    · exact rpl_dom r p hp
  | _, _, _, .t h _ _ r, p, hp => by
    rcases List.mem_cons.mp hp with e | hp
    · rw [e, h]; exact nofun
    · exact rpl_dom r p hp
  | _, _, _, .dk h _ _, p, hp => by
    rcases List.mem_cons.mp hp with e | hp
    · rw [e, h]; exact nofun
    · cases hp
  | _, _, _, .dt h _ _, p, hp => by
    rcases List.mem_cons.mp hp with e | hp
    · rw [e, h]; exact nofun
    · cases hp
  | _, _, _, .ob h h' _ _ _ r, p, hp => by
    rcases List.mem_cons.mp hp with e | hp
    · rw [e, h]; exact nofun
    · rcases List.mem_cons.mp hp with e | hp
      · rw [e, h']; exact nofun
      · exact rpl_dom r p hp
theorem rpl_dom {F H : Hp} : ∀ {ws : Ws} {T : List Addr}, RpL K F H ws T → ∀ p ∈ T, H p ≠ none
  | _, _, .nil, p, hp => by cases hp
  | _, _, .cons h t, p, hp => by
    rcases List.mem_append.mp hp with hp | hp
    · exact rp_dom h p hp
    · exact rpl_dom t p hp
end
mutual
theorem rp_freeze {F F' H : Hp} (e : Same F F') : ∀ {v : V} {o : O} {T : List Addr} {d : PyData}, Rp K F H v o T → o.toD = some d → (∀ p ∈ T, F' p = H p) → Df K F' v d
  | _, _, _, _, .v h, z, _ => by
    unfold O.toD at z
    cases z
    exact dp_mono e h
  | _, _, _, _, .l (xs := xs) h e1 e2 r, z, k => by
    unfold O.toD at z
    obtain ⟨ds, hd, rfl⟩ := Option.map_eq_some_iff.mp z
    subst e2
    subst e1
    exact .lst ((k _ (List.mem_cons_self ..)).trans h) (rpl_freeze e r hd fun p hp => k p (List.mem_cons_of_mem _ hp))
  | _, _, _, _, .t (xs := xs) h e1 e2 r, z, k => by
    unfold O.toD at z
    obtain ⟨ds, hd, rfl⟩ := Option.map_eq_some_iff.mp z
    subst e2
    subst e1
    exact .tup ((k _ (List.mem_cons_self ..)).trans h) (rpl_freeze e r hd fun p hp => k p (List.mem_cons_of_mem _ hp))
  | _, _, _, _, .s h, z, _ => by unfold O.toD at z; cases z
  | _, _, _, _, .fx h, z, _ => by unfold O.toD at z; cases z
  | _, _, _, _, .ex _ _ _, z, _ => by unfold O.toD at z; cases z
  | _, _, _, _, .dk h e1 a, z, _ => by unfold O.toD at z; cases z
  | _, _, _, _, .dt h e1 a, z, _ => by unfold O.toD at z; cases z
  | _, _, _, _, .ob h h' e0 e1 e2 r, z, _ => by unfold O.toD at z; cases z
theorem rpl_freeze {F F' H : Hp} (e : Same F F') : ∀ {ws : Ws} {T : List Addr} {ds : List PyData}, RpL K F H ws T → O.toDs (ws.map (·.2)) = some ds → (∀ p ∈ T, F' p = H p) → DfAll K F' (ws.map (·.1)) ds
  | _, _, _, .nil, z, _ => by
    unfold O.toDs at z
    cases z
    exact .nil
  | _, _, _, .cons (x := x) (o := o) (ws := ws) h t, z, k => by
    simp only [List.map_cons] at z ⊢
    unfold O.toDs at z
    split at z
    · rename_i d ds h1 h2
      cases z
      exact .cons (rp_freeze e h h1 fun p hp => k p (List.mem_append_left _ hp)) (rpl_freeze e t h2 fun p hp => k p (List.mem_append_right _ hp))
    · cases z
end
theorem rpl_perm {F H : Hp} {ws ws' : Ws} (h : ws.Perm ws') : ∀ {T : List Addr}, RpL K F H ws T → ∃ T', T.Perm T' ∧ RpL K F H ws' T' := by
  induction h with
  | nil => intro T r; exact ⟨T, .refl _, r⟩
  | cons x _ ih =>
    intro T r
    cases r with
    | cons a t =>
      obtain ⟨T', p, r'⟩ := ih t
      exact ⟨_, List.Perm.append_left _ p, .cons a r'⟩
  | swap x y l =>
    intro T r
    cases r with
    | cons a t =>
      cases t with
      | cons b t =>
        refine ⟨_, ?_, .cons b (.cons a t)⟩
        rw [← List.append_assoc, ← List.append_assoc]
        exact List.Perm.append_right _ List.perm_append_comm
  | trans _ _ ih1 ih2 =>
    intro T r
    obtain ⟨T1, p1, r1⟩ := ih1 r
    obtain ⟨T2, p2, r2⟩ := ih2 r1
    exact ⟨T2, p1.trans p2, r2⟩
theorem rpl_append {F H : Hp} : ∀ {w1 w2 : Ws} {T1 T2 : List Addr}, RpL K F H w1 T1 → RpL K F H w2 T2 → RpL K F H (w1 ++ w2) (T1 ++ T2)
  | _, _, _, _, .nil, r => r
  | _, _, _, _, .cons a t, r => by
    rw [List.append_assoc]
    exact .cons a (rpl_append t r)
theorem rpl_split {F H : Hp} : ∀ {w1 w2 : Ws} {T : List Addr}, RpL K F H (w1 ++ w2) T → ∃ T1 T2, T = T1 ++ T2 ∧ RpL K F H w1 T1 ∧ RpL K F H w2 T2
  | [], _, T, r => ⟨[], T, rfl, .nil, r⟩
  | (x, o) :: w1, w2, _, .cons a t => by
    obtain ⟨T1, T2, rfl, r1, r2⟩ := rpl_split (w1 := w1) t
    exact ⟨_, T2, (List.append_assoc _ _ _).symm, .cons a r1, r2⟩

/-- what stands: the entry's heap H0 (kept), the frozen part at the entry F0, now F, the heap H, all live things ws -/
structure Rel (K : PySem.W.Frag) (H0 F0 F H : Hp) (ws : Ws) : Prop where
  h0 : Same H0 H
  f0 : Same F0 F
  fn : ∀ p o, F p = some o → F0 p = some o ∨ H0 p = none
  fh : Same F H
  res : ∃ T, RpL K F H ws T ∧ T.Nodup ∧ ∀ p ∈ T, F p = none ∧ H0 p = none

variable {H0 F0 F H : Hp} {ws ws' : Ws}
theorem Rel.perm (r : Rel K H0 F0 F H ws) (h : ws.Perm ws') : Rel K H0 F0 F H ws' := by
  obtain ⟨T, rl, nd, hp⟩ := r.res
  obtain ⟨T', p, rl'⟩ := rpl_perm h rl
  exact ⟨r.h0, r.f0, r.fn, r.fh, T', rl', p.nodup_iff.mp nd, fun q hq => hp q (p.mem_iff.mpr hq)⟩
theorem Rel.drop {w : Ws} (r : Rel K H0 F0 F H (w ++ ws)) : Rel K H0 F0 F H ws := by
  obtain ⟨T, rl, nd, hp⟩ := r.res
  obtain ⟨T1, T2, rfl, r1, r2⟩ := rpl_split rl
  exact ⟨r.h0, r.f0, r.fn, r.fh, T2, r2, (List.nodup_append.mp nd).2.1, fun q hq => hp q (List.mem_append_right _ hq)⟩
theorem Rel.tail {w : V × O} (r : Rel K H0 F0 F H (w :: ws)) : Rel K H0 F0 F H ws := Rel.drop (w := [w]) r
/-- frozen things may be told twice -/
theorem Rel.dp {x : V} {d : PyData} (r : Rel K H0 F0 F H ((x, .v d) :: ws)) : Df K F x d := by
  obtain ⟨T, rl, nd, hp⟩ := r.res
  cases rl with
  | cons a t =>
    cases a with
    | v h => exact h
theorem Rel.add {x : V} {d : PyData} (r : Rel K H0 F0 F H ws) (h : Df K F x d) : Rel K H0 F0 F H ((x, .v d) :: ws) := by
  obtain ⟨T, rl, nd, hp⟩ := r.res
  exact ⟨r.h0, r.f0, r.fn, r.fh, T, .cons (.v h) rl, nd, hp⟩
theorem mem_perm {w : V × O} (h : w ∈ ws) : ∃ w', ws.Perm (w :: w') := by
  obtain ⟨a, b, rfl⟩ := List.append_of_mem h
  exact ⟨a ++ b, List.perm_middle⟩
theorem Rel.mem {x : V} {d : PyData} (r : Rel K H0 F0 F H ws) (h : (x, O.v d) ∈ ws) : Df K F x d :=
  let ⟨_, p⟩ := mem_perm h
  (r.perm p).dp
/-- a thing's standing -/
theorem Rel.at {x : V} {o : O} (r : Rel K H0 F0 F H ((x, o) :: ws)) : ∃ T, Rp K F H x o T := by
  obtain ⟨T, rl, nd, hp⟩ := r.res
  cases rl with
  | cons a t => exact ⟨_, a⟩
theorem Rel.memAt {x : V} {o : O} (r : Rel K H0 F0 F H ws) (h : (x, o) ∈ ws) : ∃ T, Rp K F H x o T :=
  let ⟨_, p⟩ := mem_perm h
  (r.perm p).at
/-- to freeze -/
theorem Rel.freeze {x : V} {o : O} {d : PyData} (r : Rel K H0 F0 F H ((x, o) :: ws)) (h : o.toD = some d) : ∃ F', Rel K H0 F0 F' H ((x, .v d) :: ws) := by
  obtain ⟨T, rl, nd, hp⟩ := r.res
  cases rl with
  | cons a t =>
    rename_i T1 T2
    obtain ⟨n1, n2, n3⟩ := List.nodup_append.mp nd
    have s1 : Same F (fun p => if p ∈ T1 then H p else F p) := fun b o e => by
      have nb : b ∉ T1 := fun hb => by
        rw [(hp b (List.mem_append_left _ hb)).1] at e
        cases e
      show (if b ∈ T1 then H b else F b) = some o
      rw [if_neg nb]
      exact e
    refine ⟨fun p => if p ∈ T1 then H p else F p, r.h0, r.f0.trans s1, fun p u e => ?_, fun p u e => ?_, T2, ?_, n2, fun p q => ⟨?_, (hp p (List.mem_append_right _ q)).2⟩⟩
    · by_cases hb : p ∈ T1
      · exact .inr (hp p (List.mem_append_left _ hb)).2
      · simp only [if_neg hb] at e
        exact r.fn p u e
    · by_cases hb : p ∈ T1
      · simp only [if_pos hb] at e
        exact e
      · simp only [if_neg hb] at e
        exact r.fh p u e
    · refine .cons (T1 := []) (.v (rp_freeze s1 a h fun p hp => if_pos hp)) (rpl_mono s1 t fun _ _ => rfl)
    · show (if p ∈ T1 then H p else F p) = none
      rw [if_neg fun z => n3 p z p q rfl]
      exact (hp p (List.mem_append_right _ q)).1
/-- an address that is not tracked is new to all -/
theorem Rel.f_none (r : Rel K H0 F0 F H ws) {p : Addr} (h : H p = none) : F p = none := r.fh.free h
theorem Rel.h_none (r : Rel K H0 F0 F H ws) {p : Addr} (h : H p = none) : H0 p = none := r.h0.free h
theorem same_upd {H : Hp} {p : Addr} {o : HO} (h : H p = none) : Same H (upd H p o) := fun b x e => by
  rw [upd_ne (ne_of_none e h)]
  exact e
/-- a new object that holds the things w -/
theorem Rel.newWith {p : Addr} {w : Ws} {u : HO} {x : O} (r : Rel K H0 F0 F H (w ++ ws)) (h : H p = none)
    (hx : ∀ T, RpL K F (upd H p u) w T → Rp K F (upd H p u) (.ref p) x (p :: T)) : Rel K H0 F0 F (upd H p u) ((.ref p, x) :: ws) := by
  obtain ⟨T, rl, nd, hp⟩ := r.res
  obtain ⟨T1, T2, rfl, r1, r2⟩ := rpl_split rl
  have nT : ∀ q ∈ T1 ++ T2, q ≠ p := fun q hq e => by
    have := rpl_dom rl q hq
    rw [e, h] at this
    exact this rfl
  have m1 : RpL K F (upd H p u) w T1 := rpl_mono (Same.refl F) r1 fun q hq => upd_ne (nT q (List.mem_append_left _ hq))
  have m2 : RpL K F (upd H p u) ws T2 := rpl_mono (Same.refl F) r2 fun q hq => upd_ne (nT q (List.mem_append_right _ hq))
  have s1 := same_upd (o := u) h
  refine ⟨r.h0.trans s1, r.f0, r.fn, r.fh.trans s1, (p :: T1) ++ T2, .cons (hx T1 m1) m2, ?_, fun q hq => ?_⟩
  · rw [List.cons_append]
    exact List.nodup_cons.mpr ⟨fun z => nT p z rfl, nd⟩
  · rcases List.mem_cons.mp hq with e | hq
    · rw [e]; exact ⟨r.f_none h, r.h_none h⟩
    · exact hp q hq
theorem Rel.newL {p : Addr} {w : Ws} (r : Rel K H0 F0 F H (w ++ ws)) (h : H p = none) : Rel K H0 F0 F (upd H p (.lst (w.map (·.1)))) ((.ref p, .l (w.map (·.2))) :: ws) :=
  r.newWith h fun _ m => .l upd_same rfl rfl m
theorem Rel.newT {p : Addr} {w : Ws} (r : Rel K H0 F0 F H (w ++ ws)) (h : H p = none) : Rel K H0 F0 F (upd H p (.tup (w.map (·.1)))) ((.ref p, .t (w.map (·.2))) :: ws) :=
  r.newWith h fun _ m => .t upd_same rfl rfl m

def O.fz : O → Bool
  | .v _ => true
  | .s _ => true
  | .fx _ => true
  | .ex _ => true
  | _ => false
theorem rpl_frozen {F H : Hp} : ∀ {w : Ws} {T : List Addr}, RpL K F H w T → (∀ x ∈ w, x.2.fz = true) → T = []
  | _, _, .nil, _ => rfl
  | _, _, .cons (x := x) (o := o) a t, h => by
    have e : o.fz = true := h _ (List.mem_cons_self ..)
    rw [rpl_frozen t fun y hy => h y (List.mem_cons_of_mem _ hy)]
    cases a <;> first | rfl | cases e
/-- a part of the things is handed on; the rest stands behind as it stood -/
theorem Rel.hand {w : Ws} (r : Rel K H0 F0 F H (w ++ ws)) : ∃ H1, Rel K H1 F F H w ∧ (∀ F' H' w', Rel K H1 F F' H' w' → Rel K H0 F0 F' H' (w' ++ ws)) ∧ ((∀ x ∈ w, x.2.fz = true) → H1 = H) := by
  obtain ⟨T, rl, nd, hp⟩ := r.res
  obtain ⟨T1, T2, rfl, r1, r2⟩ := rpl_split rl
  obtain ⟨n1, n2, n3⟩ := List.nodup_append.mp nd
  refine ⟨fun p => if p ∈ T1 then none else H p, ⟨fun p o e => ?_, Same.refl F, fun p o e => .inl e, r.fh, T1, r1, n1, fun p q => ⟨(hp p (List.mem_append_left _ q)).1, if_pos q⟩⟩, fun F' H' w' r' => ?_, fun hw => ?_⟩
  · by_cases hq : p ∈ T1
    · simp only [if_pos hq] at e
      cases e
    · simp only [if_neg hq] at e
      exact e
  · have k0 : ∀ p o, H0 p = some o → (if p ∈ T1 then none else H p) = some o := fun p o e => by
      have nq : p ∉ T1 := fun q => by
        rw [(hp p (List.mem_append_left _ q)).2] at e
        cases e
      rw [if_neg nq]
      exact r.h0 p o e
    have k1 : ∀ p, (if p ∈ T1 then none else H p) = none → H0 p = none := fun p e => by
      cases q : H0 p with
      | none => rfl
      | some o =>
        rw [k0 p o q] at e
        cases e
    have kT : ∀ p ∈ T2, ∃ o, H p = some o ∧ (if p ∈ T1 then none else H p) = some o := fun p q => by
      cases e : H p with
      | none => exact absurd e (rpl_dom r2 p q)
      | some o =>
        refine ⟨o, rfl, ?_⟩
        rw [if_neg fun z => n3 p z p q rfl]
    obtain ⟨T', rl', nd', hp'⟩ := r'.res
    refine ⟨fun p o e => r'.h0 p o (k0 p o e), r.f0.trans r'.f0, fun p o e => ?_, r'.fh, T' ++ T2, rpl_append rl' (rpl_mono r'.f0 r2 fun p q => ?_), List.nodup_append.mpr ⟨nd', n2, fun p q p2 q2 z => ?_⟩, fun p q => ?_⟩
    · rcases r'.fn p o e with e | e
      · exact r.fn p o e
      · exact .inr (k1 p e)
    · obtain ⟨o, e1, e2⟩ := kT p q
      rw [e1]
      exact r'.h0 p o e2
    · subst z
      obtain ⟨o, _, e2⟩ := kT p q2
      have := (hp' p q).2
      rw [e2] at this
      cases this
    · rcases List.mem_append.mp q with q | q
      · exact ⟨(hp' p q).1, k1 p (hp' p q).2⟩
      · refine ⟨?_, (hp p (List.mem_append_right _ q)).2⟩
        cases e : F' p with
        | none => rfl
        | some o =>
          rcases r'.fn p o e with e1 | e1
          · rw [(hp p (List.mem_append_right _ q)).1] at e1
            cases e1
          · obtain ⟨o', _, e2⟩ := kT p q
            rw [e2] at e1
            cases e1
  · have e := rpl_frozen r1 hw
    subst e
    funext p
    exact if_neg (by simp)
end
end Dn

set_option Elab.async false
set_option linter.all false
set_option maxRecDepth 100000
set_option maxHeartbeats 4000000
namespace Dn
open PySem L2

/-- a slot: nothing, a thing of one's own, a thing that the caller lent -/
inductive Sl where
  | no
  | own (o : O)
  | pin (o : O)
abbrev En := List Sl

def slots : St → En → Ws
  | some v :: σ, .own o :: e => (v, o) :: slots σ e
  | some v :: σ, .pin o :: e => (v, o) :: slots σ e
  | _ :: σ, _ :: e => slots σ e
  | _, _ => []
def Sl.ok (v0 : Option V) : Option V → Sl → Prop
  | _, .no => True
  | x, .own _ => ∃ v, x = some v
  | x, .pin _ => ∃ v, x = some v ∧ v0 = some v
/-- the slots hold what the environment tells; lent things stay in their slots -/
structure SlOk (vs : List V) (σ : St) (e : En) : Prop where
  len : σ.length = e.length
  sl : ∀ (i : Nat) (s : Sl), e[i]? = some s → ∃ x, σ[i]? = some x ∧ s.ok vs[i]? x

def Sl.o? : Sl → Option O
  | .no => none
  | .own o => some o
  | .pin o => some o
/-- what a slot holds, ahead of the others -/
theorem slots_take {v : V} {s : Sl} {o : O} (hs : s.o? = some o) : ∀ {σ : St} {e : En} {i : Nat}, σ[i]? = some (some v) → e[i]? = some s → (slots σ e).Perm ((v, o) :: slots σ (e.set i .no))
  | [], _, _, h, _ => by simp at h
  | _ :: _, [], _, _, h => by simp at h
  | x :: σ, y :: e, 0, h1, h2 => by
    simp only [List.getElem?_cons_zero, Option.some.injEq] at h1 h2
    subst h1; subst h2
    cases y with
    | no => cases hs
    | own o' => cases hs; exact .refl _
    | pin o' => cases hs; exact .refl _
  | x :: σ, y :: e, i + 1, h1, h2 => by
    simp only [List.getElem?_cons_succ] at h1 h2
    have ih := slots_take hs h1 h2
    simp only [List.set_cons_succ]
    cases x with
    | none => exact ih
    | some x =>
      cases y with
      | no => exact ih
      | own z => exact (List.Perm.cons _ ih).trans (.swap _ _ _)
      | pin z => exact (List.Perm.cons _ ih).trans (.swap _ _ _)
theorem slots_no {x : Option V} : ∀ {σ : St} {e : En} {i : Nat}, slots (σ.set i x) (e.set i .no) = slots σ (e.set i .no)
  | [], _, _ => rfl
  | _ :: _, [], i => by cases i <;> simp [slots]
  | y :: σ, z :: e, 0 => by
    simp only [List.set_cons_zero]
    cases x <;> cases y <;> rfl
  | y :: σ, z :: e, i + 1 => by
    simp only [List.set_cons_succ]
    have ih := slots_no (x := x) (σ := σ) (e := e) (i := i)
    cases y <;> cases z <;> simp only [slots, ih]
theorem slots_put {v : V} {s : Sl} {o : O} (hs : s.o? = some o) {σ : St} {e : En} {i : Nat} (hi : i < e.length) (hσ : σ[i]? = some (some v)) : (slots σ (e.set i s)).Perm ((v, o) :: slots σ (e.set i .no)) := by
  have h := slots_take hs hσ (e := e.set i s) (by rw [List.getElem?_set_self hi])
  rw [List.set_set] at h
  exact h
theorem slots_less {σ : St} {e : En} {i : Nat} {x : Option V} {s : Sl} (h1 : σ[i]? = some x) (h2 : e[i]? = some s) : ∃ w, (slots σ e).Perm (w ++ slots σ (e.set i .no)) := by
  cases hs : s.o? with
  | none =>
    cases s with
    | no =>
      have : e.set i .no = e := by
        apply List.ext_getElem?
        intro j
        by_cases hj : i = j
        · subst hj
          rw [List.getElem?_set_self (List.getElem?_eq_some_iff.mp h2).1, h2]
        · rw [List.getElem?_set_ne hj]
      rw [this]
      exact ⟨[], .refl _⟩
    | own o => cases hs
    | pin o => cases hs
  | some o =>
    cases x with
    | some v => exact ⟨[(v, o)], slots_take hs h1 h2⟩
    | none =>
      refine ⟨[], ?_⟩
      have : slots σ e = slots σ (e.set i .no) := by
        clear hs
        induction σ generalizing e i with
        | nil => simp at h1
        | cons y σ ih =>
          cases e with
          | nil => simp at h2
          | cons z e =>
            cases i with
            | zero =>
              simp only [List.getElem?_cons_zero, Option.some.injEq] at h1
              subst h1
              rfl
            | succ i =>
              simp only [List.getElem?_cons_succ] at h1 h2
              simp only [List.set_cons_succ]
              cases y <;> cases z <;> simp only [slots, ih h2 h1]
      rw [this]
      exact .refl _

theorem SlOk.set {vs : List V} {σ : St} {e : En} {i : Nat} {v : V} {o : O} (h : SlOk vs σ e) : SlOk vs (σ.set i (some v)) (e.set i (.own o)) := by
  refine ⟨by rw [List.length_set, List.length_set]; exact h.len, fun j s hj => ?_⟩
  by_cases hij : i = j
  · subst hij
    have hi : i < e.length := by
      have := (List.getElem?_eq_some_iff.mp hj).1
      rw [List.length_set] at this
      exact this
    rw [List.getElem?_set_self hi] at hj
    cases hj
    exact ⟨some v, by rw [List.getElem?_set_self (by rw [h.len]; exact hi)], v, rfl⟩
  · rw [List.getElem?_set_ne hij] at hj ⊢
    exact h.sl j s hj
theorem SlOk.no {vs : List V} {σ : St} {e : En} {i : Nat} (h : SlOk vs σ e) : SlOk vs σ (e.set i .no) := by
  refine ⟨by rw [List.length_set]; exact h.len, fun j s hj => ?_⟩
  by_cases hij : i = j
  · subst hij
    have hi : i < e.length := by
      have := (List.getElem?_eq_some_iff.mp hj).1
      rw [List.length_set] at this
      exact this
    rw [List.getElem?_set_self hi] at hj
    cases hj
    have : i < σ.length := by rw [h.len]; exact hi
    exact ⟨σ[i], by rw [List.getElem?_eq_getElem this], trivial⟩
  · rw [List.getElem?_set_ne hij] at hj
    exact h.sl j s hj
theorem SlOk.own {vs : List V} {σ : St} {e : En} {i : Nat} {o o' : O} (h : SlOk vs σ e) (hi : e[i]? = some (.own o)) : SlOk vs σ (e.set i (.own o')) := by
  refine ⟨by rw [List.length_set]; exact h.len, fun j s hj => ?_⟩
  by_cases hij : i = j
  · subst hij
    rw [List.getElem?_set_self (List.getElem?_eq_some_iff.mp hi).1] at hj
    cases hj
    obtain ⟨x, hx, q⟩ := h.sl i _ hi
    exact ⟨x, hx, q⟩
  · rw [List.getElem?_set_ne hij] at hj
    exact h.sl j s hj
theorem SlOk.pin {vs : List V} {σ : St} {e : En} {i : Nat} {o o' : O} (h : SlOk vs σ e) (hi : e[i]? = some (.pin o)) : SlOk vs σ (e.set i (.pin o')) := by
  refine ⟨by rw [List.length_set]; exact h.len, fun j s hj => ?_⟩
  by_cases hij : i = j
  · subst hij
    rw [List.getElem?_set_self (List.getElem?_eq_some_iff.mp hi).1] at hj
    cases hj
    obtain ⟨x, hx, q⟩ := h.sl i _ hi
    exact ⟨x, hx, q⟩
  · rw [List.getElem?_set_ne hij] at hj
    exact h.sl j s hj

/-- the entry of a def: its heap, what was frozen then, its arguments -/
structure Bs where
  H0 : Hp
  F0 : Hp
  vs : List V
/-- where one stands: the slots' things and G, the things at hand -/
structure Sta (K : PySem.W.Frag) (B : Bs) (F H : Hp) (σ : St) (e : En) (G : Ws) : Prop where
  ok : SlOk B.vs σ e
  rel : Rel K B.H0 B.F0 F H (slots σ e ++ G)

section
variable {K : PySem.W.Frag} {B : Bs} {F H : Hp} {σ : St} {e : En} {G : Ws} {x : V} {o : O}
theorem Sta.perm {G' : Ws} (s : Sta K B F H σ e G) (h : G.Perm G') : Sta K B F H σ e G' := ⟨s.ok, s.rel.perm (List.Perm.append_left _ h)⟩
theorem mid {α : Type} (a : α) (l m : List α) : (l ++ a :: m).Perm (a :: (l ++ m)) := List.perm_middle
theorem Sta.pop (s : Sta K B F H σ e ((x, o) :: G)) : Sta K B F H σ e G := ⟨s.ok, (s.rel.perm (mid _ _ _)).tail⟩
theorem Sta.at (s : Sta K B F H σ e ((x, o) :: G)) : ∃ T, Rp K F H x o T := (s.rel.perm (mid _ _ _)).at
theorem Sta.push {d : PyData} (s : Sta K B F H σ e G) (h : Df K F x d) : Sta K B F H σ e ((x, .v d) :: G) := ⟨s.ok, (s.rel.add h).perm (mid _ _ _).symm⟩
theorem Sta.freeze {d : PyData} (s : Sta K B F H σ e ((x, o) :: G)) (h : o.toD = some d) : ∃ F', Sta K B F' H σ e ((x, .v d) :: G) := by
  obtain ⟨F', r⟩ := (s.rel.perm (mid _ _ _)).freeze h
  exact ⟨F', s.ok, r.perm (mid _ _ _).symm⟩
theorem Sta.fh (s : Sta K B F H σ e G) : Same F H := s.rel.fh
/-- as data in the heap as it stands -/
theorem rp_dp {T : List Addr} {d : PyData} (fh : Same F H) (r : Rp K F H x o T) (h : o.toD = some d) : Df K H x d := rp_freeze fh r h fun _ _ => rfl
theorem Sta.df {d : PyData} (s : Sta K B F H σ e ((x, o) :: G)) (h : o.toD = some d) : Df K H x d := by
  obtain ⟨T, r⟩ := s.at
  exact rp_dp s.fh r h
/-- out of a slot -/
theorem Sta.out {i : Nat} {sl : Sl} (s : Sta K B F H σ e G) (hi : e[i]? = some sl) (ho : sl.o? = some o) : ∃ v, σ[i]? = some (some v) ∧ Sta K B F H σ (e.set i .no) ((v, o) :: G) := by
  obtain ⟨x, hx, h⟩ := s.ok.sl i sl hi
  have : ∃ v, x = some v := by
    cases sl with
    | no => cases ho
    | own _ => exact h
    | pin _ => obtain ⟨v, e, _⟩ := h; exact ⟨v, e⟩
  obtain ⟨v, rfl⟩ := this
  refine ⟨v, hx, s.ok.no, ?_⟩
  have p := (slots_take ho hx hi).append_right G
  exact (s.rel.perm p).perm (mid _ _ _).symm
/-- into a slot, by a store -/
theorem Sta.store {i : Nat} {v : V} (s : Sta K B F H σ e ((v, o) :: G)) (hi : i < e.length) : Sta K B F H (σ.set i (some v)) (e.set i (.own o)) G := by
  refine ⟨s.ok.set, ?_⟩
  have hσ : i < σ.length := by rw [s.ok.len]; exact hi
  have r := s.rel.perm (mid _ _ _)
  obtain ⟨w, pw⟩ := slots_less (σ := σ) (e := e) (i := i) (List.getElem?_eq_getElem hσ) (List.getElem?_eq_getElem hi)
  have p2 : (slots (σ.set i (some v)) (e.set i (.own o))).Perm ((v, o) :: slots σ (e.set i .no)) := by
    have q := slots_put (s := Sl.own o) rfl (σ := σ.set i (some v)) (e := e) hi (by rw [List.getElem?_set_self hσ])
    rw [slots_no] at q
    exact q
  have p3 : ((v, o) :: (slots σ e ++ G)).Perm (w ++ ((v, o) :: (slots σ (e.set i .no) ++ G))) := by
    refine ((pw.append_right G).cons (v, o)).trans ?_
    rw [List.append_assoc]
    exact (mid _ _ _).symm
  exact ((r.perm p3).drop).perm (p2.append_right G).symm
/-- back into its slot -/
theorem Sta.back {i : Nat} {v : V} {sl : Sl} (s : Sta K B F H σ (e.set i .no) ((v, o) :: G)) (hσ : σ[i]? = some (some v)) (hi : i < e.length) (ho : sl.o? = some o) (ok : SlOk B.vs σ (e.set i sl)) : Sta K B F H σ (e.set i sl) G :=
  ⟨ok, (s.rel.perm (mid _ _ _)).perm ((slots_put ho hi hσ).append_right G).symm⟩
/-- new objects -/
theorem Sta.newL {p : Addr} {w : Ws} (s : Sta K B F H σ e (w ++ G)) (h : H p = none) : Sta K B F (upd H p (.lst (w.map (·.1)))) σ e ((.ref p, .l (w.map (·.2))) :: G) := by
  refine ⟨s.ok, ?_⟩
  have q : (slots σ e ++ (w ++ G)).Perm (w ++ (slots σ e ++ G)) := by
    rw [← List.append_assoc, ← List.append_assoc]
    exact List.perm_append_comm.append_right G
  exact ((s.rel.perm q).newL h).perm (mid _ _ _).symm
theorem Sta.newT {p : Addr} {w : Ws} (s : Sta K B F H σ e (w ++ G)) (h : H p = none) : Sta K B F (upd H p (.tup (w.map (·.1)))) σ e ((.ref p, .t (w.map (·.2))) :: G) := by
  refine ⟨s.ok, ?_⟩
  have q : (slots σ e ++ (w ++ G)).Perm (w ++ (slots σ e ++ G)) := by
    rw [← List.append_assoc, ← List.append_assoc]
    exact List.perm_append_comm.append_right G
  exact ((s.rel.perm q).newT h).perm (mid _ _ _).symm
end

/-! ### denotations -/
abbrev MD (α : Type) := En → Option (α × En)
/-- an expression; a (true): nothing that stood is changed -/
def den (K : PySem.W.Frag) (a : Bool) (m : MD O) : TE := fun σ H Q => ∃ B F e G x e', Sta K B F H σ e G ∧ m e = some (x, e') ∧ ∀ F' H' v, Sta K B F' H' σ e' ((v, x) :: G) → (a = true → Same H H') → Q v H'
/-- an expression that is only looked at -/
def denB (K : PySem.W.Frag) (m : En → Option O) : TE := fun σ H Q => ∃ B F e G x, Sta K B F H σ e G ∧ m e = some x ∧ ∀ v T, Rp K F H v x T → Q v H
/-- a test -/
def denT (K : PySem.W.Frag) (a : Bool) (m : MD Bool) : TT := fun σ H Q => ∃ B F e G b e', Sta K B F H σ e G ∧ m e = some (b, e') ∧ ∀ F' H', Sta K B F' H' σ e' G → (a = true → Same H H') → Q b H'
/-- arguments: the last one lies on top -/
def denA (K : PySem.W.Frag) (a : Bool) (m : MD (List O)) : TA := fun σ H Q => ∃ B F e G xs e', Sta K B F H σ e G ∧ m e = some (xs, e') ∧ ∀ F' H' ws, Sta K B F' H' σ e' (ws ++ G) → ws.map (·.2) = xs → (a = true → Same H H') → Q (ws.map (·.1)) H'

inductive Oc where
  | nx (e : En) | rt (x : O) (e : En) | bk (e : En) | ct (e : En)
abbrev MS := En → Option Oc
def Oc.end (K : PySem.W.Frag) (B : Bs) (G : Ws) (D : Ends) : Oc → Prop
  | .nx e => ∀ F H σ, Sta K B F H σ e G → D.nx σ H
  | .bk e => ∀ F H σ, Sta K B F H σ e G → D.bk σ H
  | .ct e => ∀ F H σ, Sta K B F H σ e G → D.ct σ H
  | .rt x e => ∀ F H σ v, Sta K B F H σ e ((v, x) :: G) → D.rt v H
def denS (K : PySem.W.Frag) (m : MS) : TS := fun D σ H => ∃ B F e G oc, Sta K B F H σ e G ∧ m e = some oc ∧ oc.end K B G D

/-! ### a smaller reading serves -/
section
variable {X : Cx}
theorem pe_imp {e : Expr} {t u : TE} (h : PE X e t) (k : ∀ σ H Q, u σ H Q → t σ H Q) : PE X e u := ⟨fun pins s σ H Q I q => h.run pins s σ H Q I (k _ _ _ q)⟩
theorem pt_imp {e : Expr} {t u : TT} (h : PT X e t) (k : ∀ σ H Q, u σ H Q → t σ H Q) : PT X e u := ⟨fun pins s σ H Q I q => h.run pins s σ H Q I (k _ _ _ q)⟩
theorem pw_imp {e : Expr} {t u : TT} (h : PW X e t) (k : ∀ σ H Q, u σ H Q → t σ H Q) : PW X e u := ⟨fun wh pins s σ H Q I q => h.run wh pins s σ H Q I (k _ _ _ q)⟩
theorem pa_imp {es : List Expr} {t u : TA} (h : PA X es t) (k : ∀ σ H Q, u σ H Q → t σ H Q) : PA X es u := ⟨fun pos pins s σ H Q I q => h.run pos pins s σ H Q I (k _ _ _ q)⟩
theorem ps_imp {st : Stmt} {t u : TS} (h : PS X st t) (k : ∀ D σ H, u D σ H → t D σ H) : PS X st u := ⟨fun pins s σ H D I q => h.run pins s σ H D I (k _ _ _ q)⟩
theorem pss_imp {st : List Stmt} {t u : TS} (h : PSs X st t) (k : ∀ D σ H, u D σ H → t D σ H) : PSs X st u := ⟨fun pins s σ H D I q => h.run pins s σ H D I (k _ _ _ q)⟩
theorem opr_or {f : Value → Value → Sem Value} {r r' : R2} (h : OpR X f r) (h' : OpR X f r') : OpR X f (fun x y H Q => r x y H Q ∨ r' x y H Q) := by
  intro pins s σ H x y v u Q I rx ry q
  rcases q with q | q
  · exact h pins s σ H x y v u Q I rx ry q
  · exact h' pins s σ H x y v u Q I rx ry q
end
end Dn

set_option Elab.async false
set_option linter.all false
set_option maxRecDepth 100000
set_option maxHeartbeats 4000000
namespace Dn
open PySem L2

theorem shut_ex {α : Type} (a : α) : ∃ x : α, x = a := ⟨a, rfl⟩
/-- sealed: the kernel does not look into it -/
noncomputable def shut {α : Type} (a : α) : α := Classical.choose (shut_ex a)
theorem shut_eq {α : Type} (a : α) : shut a = a := Classical.choose_spec (shut_ex a)
theorem so {α β : Type} {a c : α} {b d : β} (h : some (a, b) = some (c, d)) : a = c ∧ b = d := by cases h; exact ⟨rfl, rfl⟩
/-! ### scalars -/
def sV : PyData → Option V
  | .none => some .non
  | .bool b => some (.bl b)
  | .int i => some (.int i)
  | .str x => some (.str x)
  | _ => none
theorem sV_df {K : PySem.W.Frag} {F : Hp} {d : PyData} {v : V} (h : sV d = some v) : Df K F v d := by
  cases d <;> simp only [sV, Option.some.injEq, reduceCtorEq] at h
  all_goals subst h; constructor
theorem df_sV {K : PySem.W.Frag} {F : Hp} {d : PyData} {v u : V} (h : sV d = some v) (k : Df K F u d) : u = v := by
  cases d <;> simp only [sV, Option.some.injEq, reduceCtorEq] at h
  all_goals subst h; cases k; rfl

/-! ### names, constants -/
def mC (d : PyData) : MD O := fun e => some (.v d, e)
def mVar (i : Nat) : MD O := fun e => match e[i]? with
  | some (.own (.v d)) => some (.v d, e)
  | some (.own (.s ns)) => some (.s ns, e)
  | some (.own o) => (match o.toD with | some d => some (.v d, e.set i (.own (.v d))) | none => none)
  | some (.pin (.v d)) => some (.v d, e)
  | some (.pin (.s ns)) => some (.s ns, e)
  | _ => none
def mMv (i : Nat) : MD O := fun e => match e[i]? with
  | some (.own o) => some (o, e.set i .no)
  | _ => none
def bVar (i : Nat) : En → Option O := fun e => (e[i]?).bind Sl.o?
section
variable {K : PySem.W.Frag} {B : Bs} {F H : Hp} {σ : St} {e : En} {G : Ws}
theorem Sta.seeO {i : Nat} {sl : Sl} {o : O} (s : Sta K B F H σ e G) (hi : e[i]? = some sl) (ho : sl.o? = some o) : ∃ v, σ[i]? = some (some v) ∧ ∃ T, Rp K F H v o T := by
  obtain ⟨v, hv, s'⟩ := s.out hi ho
  exact ⟨v, hv, s'.at⟩
theorem Sta.pushS {a : Addr} {ns : List Int} (s : Sta K B F H σ e G) (h : SqL K F a (ns.map V.int)) : Sta K B F H σ e ((.ref a, .s ns) :: G) := by
  refine ⟨s.ok, ?_⟩
  obtain ⟨T, rl, nd, hp⟩ := s.rel.res
  have q : Rel K B.H0 B.F0 F H ((.ref a, .s ns) :: (slots σ e ++ G)) := ⟨s.rel.h0, s.rel.f0, s.rel.fn, s.rel.fh, T, .cons (T1 := []) (.s h) rl, nd, hp⟩
  exact q.perm (mid _ _ _).symm
theorem set_self {i : Nat} {s : Sl} {e : En} (h : e[i]? = some s) : e.set i s = e := by
  apply List.ext_getElem?
  intro j
  by_cases hj : i = j
  · subst hj
    rw [List.getElem?_set_self (List.getElem?_eq_some_iff.mp h).1, h]
  · rw [List.getElem?_set_ne hj]
theorem var_see {i : Nat} {x : O} {e' : En} (s : Sta K B F H σ e G) (hm : mVar i e = some (x, e')) : ∃ v, σ[i]? = some (some v) ∧ ∃ F', Sta K B F' H σ e' ((v, x) :: G) := by
  have fr : ∀ {sl : Sl} {d : PyData}, e[i]? = some sl → sl.o? = some (.v d) → ∃ v, σ[i]? = some (some v) ∧ ∃ F', Sta K B F' H σ e ((v, .v d) :: G) := fun hi ho => by
    obtain ⟨v, hv, T, r⟩ := s.seeO hi ho
    cases r with
    | v h => exact ⟨v, hv, F, s.push h⟩
  have fs : ∀ {sl : Sl} {ns : List Int}, e[i]? = some sl → sl.o? = some (.s ns) → ∃ v, σ[i]? = some (some v) ∧ ∃ F', Sta K B F' H σ e ((v, .s ns) :: G) := fun hi ho => by
    obtain ⟨v, hv, T, r⟩ := s.seeO hi ho
    cases r with
    | s h => exact ⟨_, hv, F, s.pushS h⟩
  have fo : ∀ {o : O} {d : PyData}, e[i]? = some (.own o) → o.toD = some d → ∃ v, σ[i]? = some (some v) ∧ ∃ F', Sta K B F' H σ (e.set i (.own (.v d))) ((v, .v d) :: G) := fun {o d} hi ho => by
    obtain ⟨v, hv, s1⟩ := s.out hi (show (Sl.own o).o? = some o from rfl)
    obtain ⟨F', s2⟩ := s1.freeze ho
    obtain ⟨T, r⟩ := s2.at
    cases r with
    | v h =>
      have hl : i < e.length := (List.getElem?_eq_some_iff.mp hi).1
      have s3 : Sta K B F' H σ (e.set i (.own (.v d))) G := Sta.back (e := e) s2 hv hl (show (Sl.own (.v d)).o? = some (.v d) from rfl) (s.ok.own hi)
      exact ⟨v, hv, F', s3.push h⟩
  unfold mVar at hm
  split at hm
  · rename_i d hi; cases hm; exact fr hi rfl
  · rename_i ns hi; cases hm; exact fs hi rfl
  · rename_i o hi
    split at hm
    · rename_i d hd; cases hm; exact fo hi hd
    · cases hm
  · rename_i d hi; cases hm; exact fr hi rfl
  · rename_i ns hi; cases hm; exact fs hi rfl
  · cases hm
end

section
variable {X : Cx}
theorem d_int {i j pos} : PE X (.Constant (.int i) j pos) (den X.K true (mC (.int i))) := pe_imp pe_int fun σ H Q ⟨B, F, e, G, x, e', s, hm, k⟩ => by
  cases hm
  exact k F H _ (s.push (.int i)) fun _ => .refl _
theorem d_bl {b j pos} : PE X (.Constant (.bool b) j pos) (den X.K true (mC (.bool b))) := pe_imp pe_bl fun σ H Q ⟨B, F, e, G, x, e', s, hm, k⟩ => by
  cases hm
  exact k F H _ (s.push (.bl b)) fun _ => .refl _
theorem d_non {j pos} : PE X (.Constant .none j pos) (den X.K true (mC .none)) := pe_imp pe_non fun σ H Q ⟨B, F, e, G, x, e', s, hm, k⟩ => by
  cases hm
  exact k F H _ (s.push .non) fun _ => .refl _
theorem d_str {x j pos} : PE X (.Constant (.str x) j pos) (den X.K true (mC (.str x))) := pe_imp pe_str fun σ H Q ⟨B, F, e, G, y, e', s, hm, k⟩ => by
  cases hm
  exact k F H _ (s.push (.str x)) fun _ => .refl _
theorem d_var (i : Nat) {x : Str} {pos : Pos} (h : PE X (.Name x pos) (tVar i)) : PE X (.Name x pos) (den X.K true (mVar i)) := pe_imp h fun σ H Q ⟨B, F, e, G, y, e', s, hm, k⟩ => by
  obtain ⟨v, hv, F', s'⟩ := var_see s hm
  exact ⟨v, hv, k F' H v s' fun _ => .refl _⟩
theorem d_mv (i : Nat) {x : Str} {pos : Pos} (h : PE X (.Name x pos) (tVar i)) : PE X (.Name x pos) (den X.K true (mMv i)) := pe_imp h fun σ H Q ⟨B, F, e, G, y, e', s, hm, k⟩ => by
  unfold mMv at hm
  split at hm
  · rename_i o hi
    obtain ⟨rfl, rfl⟩ := so hm
    obtain ⟨v, hv, s'⟩ := s.out hi (show (Sl.own o).o? = some o from rfl)
    exact ⟨v, hv, k F H v s' fun _ => .refl _⟩
  · cases hm
theorem d_weak {e : Expr} {m : MD O} {p : Bool} (h : PE X e (den X.K true m)) : PE X e (den X.K p m) := pe_imp h fun σ H Q ⟨B, F, e, G, y, e', s, hm, k⟩ => ⟨B, F, e, G, y, e', s, hm, fun F' H' v s' q => k F' H' v s' fun _ => q rfl⟩
theorem db_var (i : Nat) {x : Str} {pos : Pos} (h : PE X (.Name x pos) (tVar i)) : PE X (.Name x pos) (denB X.K (bVar i)) := pe_imp h fun σ H Q ⟨B, F, e, G, y, s, hm, k⟩ => by
  obtain ⟨sl, hi, ho⟩ := Option.bind_eq_some_iff.mp hm
  obtain ⟨v, hv, T, r⟩ := s.seeO hi ho
  exact ⟨v, hv, k v T r⟩
def bC (d : PyData) : En → Option O := fun _ => some (.v d)
theorem db_int {i j pos} : PE X (.Constant (.int i) j pos) (denB X.K (bC (.int i))) := pe_imp pe_int fun σ H Q ⟨B, F, e, G, y, s, hm, k⟩ => by
  cases hm
  exact k _ [] (.v (.int i))
/-- a look that comes to frozen things -/
def mB (m : En → Option O) : MD O := fun e => match m e with
  | some (.v d) => some (.v d, e)
  | _ => none
theorem d_B {e : Expr} {m : En → Option O} (h : PE X e (denB X.K m)) : PE X e (den X.K true (mB m)) := pe_imp h fun σ H Q ⟨B, F, e, G, y, e', s, hm, k⟩ => by
  unfold mB at hm
  split at hm
  · rename_i d hd
    cases hm
    refine ⟨B, F, e, G, .v d, s, hd, fun v T r => ?_⟩
    cases r with
    | v h => exact k F H v (s.push h) fun _ => .refl _
  · cases hm
end

/-! ### arguments that are looked at -/
inductive RpA (K : PySem.W.Frag) (F H : Hp) : List V → List O → Prop
  | nil : RpA K F H [] []
  | cons {v : V} {o : O} {vs : List V} {os : List O} {T : List Addr} : Rp K F H v o T → RpA K F H vs os → RpA K F H (v :: vs) (o :: os)
theorem RpA.df {K : PySem.W.Frag} {F H : Hp} (fh : Same F H) : ∀ {vs : List V} {os : List O} {ds : List PyData}, RpA K F H vs os → O.toDs os = some ds → DfAll K H vs ds
  | _, _, _, .nil, h => by
    unfold O.toDs at h
    cases h
    exact .nil
  | _, _, _, .cons r t, h => by
    unfold O.toDs at h
    split at h
    · rename_i d ds h1 h2
      cases h
      exact .cons (rp_dp fh r h1) (t.df fh h2)
    · cases h
/-- what is looked at is not kept -/
def denL (K : PySem.W.Frag) (a : Bool) (m : MD (List O)) : TA := fun σ H Q => ∃ B F e G xs e', Sta K B F H σ e G ∧ m e = some (xs, e') ∧ ∀ F' H' vs, Sta K B F' H' σ e' G → RpA K F' H' vs xs → (a = true → Same H H') → Q vs H'
def lNil : MD (List O) := fun e => some ([], e)
def lCons (m : MD O) (ms : MD (List O)) : MD (List O) := fun e => match m e with
  | some (x, e1) => (match ms e1 with
    | some (xs, e2) => some (x :: xs, e2)
    | none => none)
  | none => none
/-- a slot that is looked at when all is reckoned -/
def lSee (i : Nat) (ms : MD (List O)) : MD (List O) := fun e => match bVar i e with
  | some _ => (match ms e with
    | some (xs, e1) => (match bVar i e1 with
      | some x => some (x :: xs, e1)
      | none => none)
    | none => none)
  | none => none
def lB (m : En → Option O) : MD (List O) := fun e => match m e with
  | some x => some ([x], e)
  | none => none
def LS (K : PySem.W.Frag) (p : Bool) (m : MD (List O)) (t : TA) : Prop := ∀ σ H Q, denL K p m σ H Q → t σ H Q
section
variable {K : PySem.W.Frag}
theorem ls_nil : LS K true lNil tNil := fun σ H Q ⟨B, F, e, G, y, e', s, hm, k⟩ => by
  cases hm
  exact k F H [] s .nil fun _ => .refl _
theorem ls_cons {p q : Bool} {m : MD O} {ms : MD (List O)} {t : TA} (h : LS K q ms t) : LS K (p && q) (lCons m ms) (tCons (den K p m) t) := fun σ H Q ⟨B, F, e, G, y, e', s, hm, k⟩ => by
  unfold lCons at hm
  split at hm
  · rename_i x e1 h1
    split at hm
    · rename_i xs e2 h2
      obtain ⟨rfl, rfl⟩ := so hm
      refine ⟨B, F, e, G, x, e1, s, h1, fun F1 H1 v s1 sm1 => h σ H1 _ ⟨B, F1, e1, (v, x) :: G, xs, e2, s1, h2, fun F2 H2 vs s2 r2 sm2 => ?_⟩⟩
      obtain ⟨T, r⟩ := s2.at
      refine k F2 H2 (v :: vs) s2.pop (.cons r r2) fun z => ?_
      cases p
      · cases z
      · cases q
        · cases z
        · exact (sm1 rfl).trans (sm2 rfl)
    · cases hm
  · cases hm
theorem ls_see {q : Bool} {i : Nat} {ms : MD (List O)} {t : TA} (h : LS K q ms t) : LS K q (lSee i ms) (tCons (tVar i) t) := fun σ H Q ⟨B, F, e, G, y, e', s, hm, k⟩ => by
  unfold lSee at hm
  split at hm
  · rename_i x0 h0
    split at hm
    · rename_i xs e1 h1
      split at hm
      · rename_i x h2
        obtain ⟨rfl, rfl⟩ := so hm
        obtain ⟨sl0, hi0, ho0⟩ := Option.bind_eq_some_iff.mp h0
        obtain ⟨v, hv, _⟩ := s.seeO hi0 ho0
        refine ⟨v, hv, h σ H _ ⟨B, F, e, G, xs, e1, s, h1, fun F1 H1 vs s1 r1 sm1 => ?_⟩⟩
        obtain ⟨sl, hi, ho⟩ := Option.bind_eq_some_iff.mp h2
        obtain ⟨v', hv', T, r⟩ := s1.seeO hi ho
        obtain rfl : v' = v := by rw [hv] at hv'; cases hv'; rfl
        exact k F1 H1 (v' :: vs) s1 (.cons r r1) sm1
      · cases hm
    · cases hm
  · cases hm
theorem ls_B {m : En → Option O} : LS K true (lB m) (tCons (denB K m) tNil) := fun σ H Q ⟨B, F, e, G, y, e', s, hm, k⟩ => by
  unfold lB at hm
  split at hm
  · rename_i x h1
    obtain ⟨rfl, rfl⟩ := so hm
    exact ⟨B, F, e, G, x, s, h1, fun v T r => k F H [v] s (.cons r .nil) fun _ => .refl _⟩
  · cases hm

/-! ### what is reckoned from data to a scalar -/
def mL (f : List PyData → Option PyData) (ms : MD (List O)) : MD O := fun e => match ms e with
  | some (xs, e1) => (match O.toDs xs with
    | some ds => (match f ds with
      | some z => some (.v z, e1)
      | none => none)
    | none => none)
  | none => none
/-- r, asked of data, tells f's scalar and leaves the heap -/
def Sc (K : PySem.W.Frag) (f : List PyData → Option PyData) (r : List V → Hp → VK → Prop) : Prop :=
  ∀ H vs ds z, DfAll K H vs ds → f ds = some z → ∃ v, sV z = some v ∧ ∀ Q : VK, Q v H → r vs H Q
theorem mL_den {p : Bool} {f : List PyData → Option PyData} {ms : MD (List O)} {r : List V → Hp → VK → Prop} {t : TA} (hr : Sc K f r) (hl : LS K p ms t) : ∀ σ H Q, den K p (mL f ms) σ H Q → tCB r t σ H Q := fun σ H Q ⟨B, F, e, G, y, e', s, hm, k⟩ => by
  unfold mL at hm
  split at hm
  · rename_i xs e1 h1
    split at hm
    · rename_i ds h2
      split at hm
      · rename_i z h3
        obtain ⟨rfl, rfl⟩ := so hm
        refine hl σ H _ ⟨B, F, e, G, xs, e1, s, h1, fun F1 H1 vs s1 r1 sm1 => ?_⟩
        obtain ⟨v, hz, q⟩ := hr H1 vs ds z (r1.df s1.fh h2) h3
        exact q Q (k F1 H1 v (s1.push (sV_df hz)) sm1)
      · cases hm
    · cases hm
  · cases hm
/-- the same as a look -/
def bL (f : List PyData → Option PyData) (ms : En → Option (List O)) : En → Option O := fun e => match ms e with
  | some xs => (match O.toDs xs with
    | some ds => (match f ds with
      | some z => some (.v z)
      | none => none)
    | none => none)
  | none => none
end

/-! ### operators -/
def r2 (r : R2) : List V → Hp → VK → Prop := fun vs H Q => match vs with
  | [x, y] => r x y H Q
  | _ => False
def r1 (r : V → Hp → VK → Prop) : List V → Hp → VK → Prop := fun vs H Q => match vs with
  | [x] => r x H Q
  | _ => False
section
variable {X : Cx} {a b c : Expr} {ta tb tc : TE} {p : Bool} {ms : MD (List O)} {f : List PyData → Option PyData} {pos : Pos}
theorem d_op {op : Operator} {r : R2} (ho : OpR X (binaryOp op) r) (hs : Sc X.K f (r2 r)) (ha : PE X a ta) (hb : PE X b tb) (hl : LS X.K p ms (tCons ta (tCons tb tNil))) : PE X (.BinOp a op b pos) (den X.K p (mL f ms)) :=
  pe_imp (pe_op ho ha hb) (mL_den (r := r2 r) hs hl)
theorem d_un {op : UnaryOp} {r : V → Hp → VK → Prop} (ho : UnR X (unaryOp op) r) (hs : Sc X.K f (r1 r)) (ha : PE X a ta) (hl : LS X.K p ms (tCons ta tNil)) : PE X (.UnaryOp op a pos) (den X.K p (mL f ms)) :=
  pe_imp (pe_un ho ha) (mL_den (r := r1 r) hs hl)
theorem d_cmp {op : CmpOp} {r : R2} (ho : OpR X (compareOp op) r) (hs : Sc X.K f (r2 r)) (ha : PE X a ta) (hb : PE X b tb) (hm : behindInMarks op b = false) (hl : LS X.K p ms (tCons ta (tCons tb tNil))) : PE X (.Compare a [op] [b] pos) (den X.K p (mL f ms)) :=
  pe_imp (pe_cmpR ho ha hb hm) (mL_den (r := r2 r) hs hl)
/-- a value as a test -/
def mT (m : MD O) : MD Bool := fun e => match m e with
  | some (.v (.bool b), e1) => some (b, e1)
  | _ => none
theorem mT_den {K : PySem.W.Frag} {m : MD O} {t : TE} (h : ∀ σ H Q, den K p m σ H Q → t σ H Q) : ∀ σ H Q, denT K p (mT m) σ H Q → tTest t σ H Q := fun σ H Q ⟨B, F, e, G, y, e', s, hm, k⟩ => by
  unfold mT at hm
  split at hm
  · rename_i b e1 h1
    obtain ⟨rfl, rfl⟩ := so hm
    refine h σ H _ ⟨B, F, e, G, _, e1, s, h1, fun F1 H1 v s1 sm => ?_⟩
    obtain ⟨T, r⟩ := s1.at
    cases r with
    | v h =>
      cases h
      exact ⟨b, rfl, k F1 H1 s1.pop sm⟩
  · cases hm
theorem dt_cmp {op : CmpOp} {r : R2} (ho : OpR X (compareOp op) r) (hs : Sc X.K f (r2 r)) (ha : PE X a ta) (hb : PE X b tb) (hm : behindInMarks op b = false) (hl : LS X.K p ms (tCons ta (tCons tb tNil))) : PT X (.Compare a [op] [b] pos) (denT X.K p (mT (mL f ms))) :=
  pt_imp (pt_cmpR ho ha hb hm) (mT_den (t := tOp r ta tb) (mL_den (r := r2 r) hs hl))
/-- an expression of truth as a test -/
theorem dt_val {m : MD O} (h : PE X a (den X.K p m)) (he : ∀ whole, isTrue a X.env whole = (do let v ← whole; standAt a.pos; holding [v] (truthy v)) := by intro _; rfl) : PT X a (denT X.K p (mT m)) :=
  pt_imp (pt_val h he) (mT_den (t := den X.K p m) fun _ _ _ h => h)
end
end Dn

set_option Elab.async false
set_option linter.all false
set_option maxRecDepth 100000
set_option maxHeartbeats 4000000
namespace Dn
open PySem L2

/-! ### a list's, a tuple's parts -/
def O.lparts : O → Option (List O)
  | .l xs => some xs
  | .v (.list ds) => some (ds.map .v)
  | _ => none
def O.tparts : O → Option (List O)
  | .t xs => some xs
  | .v (.tuple ds) => some (ds.map .v)
  | _ => none
section
variable {K : PySem.W.Frag} {H0 F0 F H : Hp} {ws : Ws} {B : Bs} {σ : St} {e : En} {G : Ws}
theorem Rel.addAll (r : Rel K H0 F0 F H ws) : ∀ {vs : List V} {ds : List PyData}, DfAll K F vs ds → Rel K H0 F0 F H (vs.zip (ds.map O.v) ++ ws)
  | _, _, .nil => r
  | _, _, .cons h t => (r.addAll t).add h
theorem dfa_len {F : Hp} : ∀ {vs : List V} {ds : List PyData}, DfAll K F vs ds → vs.length = ds.length
  | _, _, .nil => rfl
  | _, _, .cons _ t => by rw [List.length_cons, List.length_cons, dfa_len t]
theorem zip_fst {α β : Type} : ∀ {a : List α} {b : List β}, a.length = b.length → (a.zip b).map (·.1) = a
  | [], [], _ => rfl
  | x :: a, y :: b, h => by
    simp only [List.length_cons, Nat.add_right_cancel_iff] at h
    simp only [List.zip_cons_cons, List.map_cons, zip_fst h]
  | [], _ :: _, h => by simp at h
  | _ :: _, [], h => by simp at h
theorem zip_snd {α β : Type} : ∀ {a : List α} {b : List β}, a.length = b.length → (a.zip b).map (·.2) = b
  | [], [], _ => rfl
  | x :: a, y :: b, h => by
    simp only [List.length_cons, Nat.add_right_cancel_iff] at h
    simp only [List.zip_cons_cons, List.map_cons, zip_snd h]
  | [], _ :: _, h => by simp at h
  | _ :: _, [], h => by simp at h
theorem zip_self {α β : Type} : ∀ (w : List (α × β)), w = (w.map (·.1)).zip (w.map (·.2))
  | [] => rfl
  | (x, y) :: w => by
    simp only [List.map_cons, List.zip_cons_cons]
    rw [← zip_self w]
/-- a container's node frozen, its parts at hand -/
theorem Rel.openN {p : Addr} {x : O} {u : HO} {w : Ws} (r : Rel K H0 F0 F H ((.ref p, x) :: ws)) (hp : H p = some u)
    (hx : ∀ T, Rp K F H (.ref p) x T → ∃ T', T = p :: T' ∧ RpL K F H w T') : Rel K H0 F0 (upd F p u) H (w ++ ws) := by
  obtain ⟨T, rl, nd, hT⟩ := r.res
  cases rl with
  | cons a t =>
    rename_i T1 T2
    obtain ⟨T', rfl, rw⟩ := hx _ a
    have hpn := hT p (List.mem_append_left _ (List.mem_cons_self ..))
    have nd1 := nd
    rw [List.cons_append] at nd1
    obtain ⟨np, nd2⟩ := List.nodup_cons.mp nd1
    have sF : Same F (upd F p u) := same_upd hpn.1
    refine ⟨r.h0, r.f0.trans sF, fun q o e => ?_, fun q o e => ?_, T' ++ T2, rpl_append (rpl_mono sF rw fun _ _ => rfl) (rpl_mono sF t fun _ _ => rfl), nd2, fun q hq => ?_⟩
    · by_cases hqp : q = p
      · rw [hqp]; exact .inr hpn.2
      · rw [upd_ne hqp] at e
        exact r.fn q o e
    · by_cases hqp : q = p
      · rw [hqp] at e ⊢
        rw [upd_same] at e
        rw [hp]
        exact e
      · rw [upd_ne hqp] at e
        exact r.fh q o e
    · have hqp : q ≠ p := fun z => np (z ▸ hq)
      have := hT q (by rw [List.cons_append]; exact List.mem_cons_of_mem _ hq)
      rw [upd_ne hqp]
      exact this
theorem Rel.openL {v : V} {x : O} {os : List O} (r : Rel K H0 F0 F H ((v, x) :: ws)) (h : x.lparts = some os) :
    ∃ p w F', v = .ref p ∧ F' p = some (.lst (w.map (·.1))) ∧ w.map (·.2) = os ∧ Same F F' ∧ Rel K H0 F0 F' H (w ++ ws) := by
  obtain ⟨T, a⟩ := r.at
  cases x with
  | v d =>
    cases d with
    | list ds =>
      cases h
      cases a with
      | v hd =>
        cases hd with
        | lst hp ha =>
          rename_i p vs
          have hl : vs.length = (ds.map O.v).length := by rw [List.length_map]; exact dfa_len ha
          refine ⟨p, vs.zip (ds.map O.v), F, rfl, ?_, zip_snd hl, Same.refl F, r.tail.addAll ha⟩
          rw [zip_fst hl]
          exact hp
    | _ => cases h
  | l xs =>
    cases h
    cases a with
    | l hp e1 e2 rl =>
      rename_i p vs w T'
      refine ⟨p, w, upd F p (.lst vs), rfl, ?_, e2.symm, ?_, r.openN hp fun T2 r2 => ?_⟩
      · rw [upd_same, e1]
      · refine same_upd ?_
        obtain ⟨T, rl, nd, hT⟩ := r.res
        cases rl with
        | cons a t =>
          cases a with
          | l _ _ _ _ => exact (hT p (List.mem_append_left _ (List.mem_cons_self ..))).1
      · cases r2 with
        | l hp' e1' e2' rl' =>
          rename_i vs' ws' T''
          rw [hp] at hp'
          cases hp'
          have : ws' = w := by
            have h1 : ws'.map (·.1) = w.map (·.1) := by rw [← e1', e1]
            have h2 : ws'.map (·.2) = w.map (·.2) := by rw [← e2', e2]
            rw [zip_self ws', zip_self w, h1, h2]
          subst this
          exact ⟨_, rfl, rl'⟩
  | _ => cases h
theorem Rel.openT {v : V} {x : O} {os : List O} (r : Rel K H0 F0 F H ((v, x) :: ws)) (h : x.tparts = some os) :
    ∃ p w F', v = .ref p ∧ F' p = some (.tup (w.map (·.1))) ∧ w.map (·.2) = os ∧ Same F F' ∧ Rel K H0 F0 F' H (w ++ ws) := by
  obtain ⟨T, a⟩ := r.at
  cases x with
  | v d =>
    cases d with
    | tuple ds =>
      cases h
      cases a with
      | v hd =>
        cases hd with
        | tup hp ha =>
          rename_i p vs
          have hl : vs.length = (ds.map O.v).length := by rw [List.length_map]; exact dfa_len ha
          refine ⟨p, vs.zip (ds.map O.v), F, rfl, ?_, zip_snd hl, Same.refl F, r.tail.addAll ha⟩
          rw [zip_fst hl]
          exact hp
    | _ => cases h
  | t xs =>
    cases h
    cases a with
    | t hp e1 e2 rl =>
      rename_i p vs w T'
      refine ⟨p, w, upd F p (.tup vs), rfl, ?_, e2.symm, ?_, r.openN hp fun T2 r2 => ?_⟩
      · rw [upd_same, e1]
      · refine same_upd ?_
        obtain ⟨T, rl, nd, hT⟩ := r.res
        cases rl with
        | cons a t =>
          cases a with
          | t _ _ _ _ => exact (hT p (List.mem_append_left _ (List.mem_cons_self ..))).1
      · cases r2 with
        | t hp' e1' e2' rl' =>
          rename_i vs' ws' T''
          rw [hp] at hp'
          cases hp'
          have : ws' = w := by
            have h1 : ws'.map (·.1) = w.map (·.1) := by rw [← e1', e1]
            have h2 : ws'.map (·.2) = w.map (·.2) := by rw [← e2', e2]
            rw [zip_self ws', zip_self w, h1, h2]
          subst this
          exact ⟨_, rfl, rl'⟩
  | _ => cases h
theorem pmid {α : Type} (w l m : List α) : (l ++ (w ++ m)).Perm (w ++ (l ++ m)) := by
  rw [← List.append_assoc, ← List.append_assoc]
  exact List.perm_append_comm.append_right m
theorem Sta.openL {v : V} {x : O} {os : List O} (s : Sta K B F H σ e ((v, x) :: G)) (h : x.lparts = some os) :
    ∃ p w F', v = .ref p ∧ F' p = some (.lst (w.map (·.1))) ∧ w.map (·.2) = os ∧ Same F F' ∧ Sta K B F' H σ e (w ++ G) := by
  obtain ⟨p, w, F', e1, e2, e3, e4, r⟩ := (s.rel.perm (mid _ _ _)).openL h
  exact ⟨p, w, F', e1, e2, e3, e4, s.ok, r.perm (pmid _ _ _).symm⟩
theorem Sta.openT {v : V} {x : O} {os : List O} (s : Sta K B F H σ e ((v, x) :: G)) (h : x.tparts = some os) :
    ∃ p w F', v = .ref p ∧ F' p = some (.tup (w.map (·.1))) ∧ w.map (·.2) = os ∧ Same F F' ∧ Sta K B F' H σ e (w ++ G) := by
  obtain ⟨p, w, F', e1, e2, e3, e4, r⟩ := (s.rel.perm (mid _ _ _)).openT h
  exact ⟨p, w, F', e1, e2, e3, e4, s.ok, r.perm (pmid _ _ _).symm⟩
end

/-! ### arguments that are handed on -/
def aNil : MD (List O) := lNil
def aCons (m : MD O) (ms : MD (List O)) : MD (List O) := lCons m ms
/-- a slot that is emptied when all is reckoned -/
def aMv (i : Nat) (ms : MD (List O)) : MD (List O) := fun e => match bVar i e with
  | some _ => (match ms e with
    | some (xs, e1) => (match mMv i e1 with
      | some (x, e2) => some (x :: xs, e2)
      | none => none)
    | none => none)
  | none => none
def AS (K : PySem.W.Frag) (p : Bool) (m : MD (List O)) (t : TA) : Prop := ∀ σ H Q, denA K p m σ H Q → t σ H Q
section
variable {K : PySem.W.Frag}
theorem as_nil : AS K true aNil tNil := fun σ H Q ⟨B, F, e, G, y, e', s, hm, k⟩ => by
  cases hm
  exact k F H [] s rfl fun _ => .refl _
theorem as_cons {p q : Bool} {m : MD O} {ms : MD (List O)} {t : TA} (h : AS K q ms t) : AS K (p && q) (aCons m ms) (tCons (den K p m) t) := fun σ H Q ⟨B, F, e, G, y, e', s, hm, k⟩ => by
  unfold aCons lCons at hm
  split at hm
  · rename_i x e1 h1
    split at hm
    · rename_i xs e2 h2
      obtain ⟨rfl, rfl⟩ := so hm
      refine ⟨B, F, e, G, x, e1, s, h1, fun F1 H1 v s1 sm1 => h σ H1 _ ⟨B, F1, e1, (v, x) :: G, xs, e2, s1, h2, fun F2 H2 ws s2 r2 sm2 => ?_⟩⟩
      refine k F2 H2 ((v, x) :: ws) (s2.perm (mid _ _ _)) (by rw [List.map_cons, r2]) fun z => ?_
      cases p
      · cases z
      · cases q
        · cases z
        · exact (sm1 rfl).trans (sm2 rfl)
    · cases hm
  · cases hm
theorem as_mv {q : Bool} {i : Nat} {ms : MD (List O)} {t : TA} (h : AS K q ms t) : AS K q (aMv i ms) (tCons (tVar i) t) := fun σ H Q ⟨B, F, e, G, y, e', s, hm, k⟩ => by
  unfold aMv at hm
  split at hm
  · rename_i x0 h0
    split at hm
    · rename_i xs e1 h1
      split at hm
      · rename_i x e2 h2
        obtain ⟨rfl, rfl⟩ := so hm
        obtain ⟨sl0, hi0, ho0⟩ := Option.bind_eq_some_iff.mp h0
        obtain ⟨v, hv, _⟩ := s.seeO hi0 ho0
        refine ⟨v, hv, h σ H _ ⟨B, F, e, G, xs, e1, s, h1, fun F1 H1 ws s1 r1 sm1 => ?_⟩⟩
        unfold mMv at h2
        split at h2
        · rename_i o hi
          obtain ⟨rfl, rfl⟩ := so h2
          obtain ⟨v', hv', s2⟩ := s1.out hi (show (Sl.own o).o? = some o from rfl)
          obtain rfl : v' = v := by rw [hv] at hv'; cases hv'; rfl
          exact k F1 H1 ((v', o) :: ws) s2 (by rw [List.map_cons, r1]) sm1
        · cases h2
      · cases hm
    · cases hm
  · cases hm
end
section
variable {X : Cx} {p q : Bool}
theorem da_nil : PA X [] (denA X.K true aNil) := pa_imp pa_nil as_nil
theorem da_cons {e : Expr} {es : List Expr} {m : MD O} {ms : MD (List O)} (ha : PE X e (den X.K p m)) (hr : PA X es (denA X.K q ms)) (hs : starEach (e :: es) X.env = (false, eval e X.env) :: starEach es X.env := by rfl) :
    PA X (e :: es) (denA X.K (p && q) (aCons m ms)) := pa_imp (pa_cons ha hr hs) (as_cons fun _ _ _ h => h)
theorem da_mv {i : Nat} {e : Expr} {es : List Expr} {ms : MD (List O)} (ha : PE X e (tVar i)) (hr : PA X es (denA X.K q ms)) (hs : starEach (e :: es) X.env = (false, eval e X.env) :: starEach es X.env := by rfl) :
    PA X (e :: es) (denA X.K q (aMv i ms)) := pa_imp (pa_cons ha hr hs) (as_mv fun _ _ _ h => h)
theorem dl_nil : PA X [] (denL X.K true lNil) := pa_imp pa_nil ls_nil
theorem dl_cons {e : Expr} {es : List Expr} {m : MD O} {ms : MD (List O)} (ha : PE X e (den X.K p m)) (hr : PA X es (denL X.K q ms)) (hs : starEach (e :: es) X.env = (false, eval e X.env) :: starEach es X.env := by rfl) :
    PA X (e :: es) (denL X.K (p && q) (lCons m ms)) := pa_imp (pa_cons ha hr hs) (ls_cons fun _ _ _ h => h)
theorem dl_see {i : Nat} {e : Expr} {es : List Expr} {ms : MD (List O)} (ha : PE X e (tVar i)) (hr : PA X es (denL X.K q ms)) (hs : starEach (e :: es) X.env = (false, eval e X.env) :: starEach es X.env := by rfl) :
    PA X (e :: es) (denL X.K q (lSee i ms)) := pa_imp (pa_cons ha hr hs) (ls_see fun _ _ _ h => h)
theorem dl_B {e : Expr} {m : En → Option O} (ha : PE X e (denB X.K m)) (hs : starEach [e] X.env = (false, eval e X.env) :: starEach [] X.env := by rfl) :
    PA X [e] (denL X.K true (lB m)) := pa_imp (pa_cons ha pa_nil hs) ls_B
end

/-! ### what takes the things handed on and tells a thing -/
def mA (f : List O → Option O) (ms : MD (List O)) : MD O := fun e => match ms e with
  | some (xs, e1) => (match f xs with
    | some x => some (x, e1)
    | none => none)
  | none => none
def Al (K : PySem.W.Frag) (f : List O → Option O) (r : List V → Hp → VK → Prop) : Prop :=
  ∀ (B : Bs) (F H : Hp) (σ : St) (e : En) (G ws : Ws) (x : O) (Q : VK), Sta K B F H σ e (ws ++ G) → f (ws.map (·.2)) = some x →
    (∀ F' H' v, Sta K B F' H' σ e ((v, x) :: G) → Same H H' → Q v H') → r (ws.map (·.1)) H Q
theorem mA_den {K : PySem.W.Frag} {p : Bool} {f : List O → Option O} {ms : MD (List O)} {r : List V → Hp → VK → Prop} {t : TA} (hr : Al K f r) (hl : AS K p ms t) : ∀ σ H Q, den K p (mA f ms) σ H Q → tCB r t σ H Q := fun σ H Q ⟨B, F, e, G, y, e', s, hm, k⟩ => by
  unfold mA at hm
  split at hm
  · rename_i xs e1 h1
    split at hm
    · rename_i x h2
      obtain ⟨rfl, rfl⟩ := so hm
      refine hl σ H _ ⟨B, F, e, G, xs, e1, s, h1, fun F1 H1 ws s1 r1 sm1 => ?_⟩
      exact hr B F1 H1 σ e1 G ws x Q s1 (by rw [r1]; exact h2) fun F2 H2 v s2 sm2 => k F2 H2 v s2 fun z => (sm1 z).trans sm2
    · cases hm
  · cases hm
/-- a tuple of frozen things is frozen -/
def O.allV : List O → Option (List PyData)
  | [] => some []
  | .v d :: xs => (match O.allV xs with
    | some ds => some (d :: ds)
    | none => none)
  | _ => none
def tupO (xs : List O) : Option O := if xs.length ≤ sizeLine then (match O.allV xs with
  | some ds => some (.v (.tuple ds))
  | none => some (.t xs)) else none
def lstO (xs : List O) : Option O := if xs.length ≤ sizeLine then some (.l xs) else none
theorem allV_toDs : ∀ {xs : List O} {ds : List PyData}, O.allV xs = some ds → O.toDs xs = some ds
  | [], _, h => by cases h; rfl
  | .v d :: xs, ds, h => by
    unfold O.allV at h
    split at h
    · rename_i ds' h'
      cases h
      unfold O.toDs O.toD
      rw [allV_toDs h']
    · cases h
  | .l _ :: _, _, h => by cases h
  | .t _ :: _, _, h => by cases h
  | .s _ :: _, _, h => by cases h
  | .fx _ :: _, _, h => by cases h
  | .ex _ :: _, _, h => by cases h
  | .dk _ :: _, _, h => by cases h
  | .dt _ :: _, _, h => by cases h
  | .ob _ _ _ :: _, _, h => by cases h
section
variable {K : PySem.W.Frag}
def rTup : List V → Hp → VK → Prop := fun xs H Q => xs.length ≤ sizeLine ∧ ∀ p, H p = none → Q (.ref p) (upd H p (.tup xs))
def rLst : List V → Hp → VK → Prop := fun xs H Q => xs.length ≤ sizeLine ∧ ∀ p, H p = none → Q (.ref p) (upd H p (.lst xs))
theorem al_lst : Al K lstO rLst := fun B F H σ e G ws x Q s hx k => by
  unfold lstO at hx
  split at hx
  · rename_i hl
    cases hx
    rw [List.length_map] at hl
    exact ⟨by rw [List.length_map]; exact hl, fun p hp => k F _ _ (s.newL hp) (same_upd hp)⟩
  · cases hx
theorem al_tup : Al K tupO rTup := fun B F H σ e G ws x Q s hx k => by
  unfold tupO at hx
  split at hx
  · rename_i hl
    rw [List.length_map] at hl
    refine ⟨by rw [List.length_map]; exact hl, fun p hp => ?_⟩
    have s1 := s.newT hp
    split at hx
    · rename_i ds hd
      cases hx
      obtain ⟨F', s2⟩ := s1.freeze (show (O.t (ws.map (·.2))).toD = some (.tuple ds) by unfold O.toD; rw [allV_toDs hd]; rfl)
      exact k F' _ _ s2 (same_upd hp)
    · cases hx
      exact k F _ _ s1 (same_upd hp)
  · cases hx
end
section
variable {X : Cx} {es : List Expr} {p : Bool} {ms : MD (List O)} {pos : Pos}
theorem d_lst (h : PA X es (denA X.K p ms)) : PE X (.List es pos) (den X.K p (mA lstO ms)) := pe_imp (pe_lst h) (mA_den al_lst fun _ _ _ h => h)
theorem d_tup {x1} (h : PA X es (denA X.K p ms)) : PE X (.Tuple es x1 pos) (den X.K p (mA tupO ms)) := pe_imp (pe_tup h) (mA_den al_tup fun _ _ _ h => h)
end
end Dn

set_option Elab.async false
set_option linter.all false
set_option maxRecDepth 100000
set_option maxHeartbeats 4000000
namespace Dn
open PySem L2

/-! ### scalars by data -/
def fI2 (g : Int → Int → Option PyData) : List PyData → Option PyData
  | [.int i, .int j] => g i j
  | _ => none
def fI1 (g : Int → Option PyData) : List PyData → Option PyData
  | [.int i] => g i
  | _ => none
section
variable {K : PySem.W.Frag} {X : Cx}
theorem fI2_some {g : Int → Int → Option PyData} {ds : List PyData} {z : PyData} (h : fI2 g ds = some z) : ∃ i j, ds = [.int i, .int j] ∧ g i j = some z := by
  unfold fI2 at h
  split at h
  · exact ⟨_, _, rfl, h⟩
  · cases h
theorem fI1_some {g : Int → Option PyData} {ds : List PyData} {z : PyData} (h : fI1 g ds = some z) : ∃ i, ds = [.int i] ∧ g i = some z := by
  unfold fI1 at h
  split at h
  · exact ⟨_, rfl, h⟩
  · cases h
theorem df_int {H : Hp} {v : V} {i : Int} (h : Df K H v (.int i)) : v = .int i := by cases h; rfl
theorem df_str {H : Hp} {v : V} {x : Str} (h : Df K H v (.str x)) : v = .str x := by cases h; rfl
theorem df_bool {H : Hp} {v : V} {b : Bool} (h : Df K H v (.bool b)) : v = .bl b := by cases h; rfl
theorem dfa1 {H : Hp} {vs : List V} {d : PyData} (h : DfAll K H vs [d]) : ∃ v, vs = [v] ∧ Df K H v d := by
  cases h with
  | cons a t => cases t; exact ⟨_, rfl, a⟩
theorem dfa2 {H : Hp} {vs : List V} {d d' : PyData} (h : DfAll K H vs [d, d']) : ∃ v u, vs = [v, u] ∧ Df K H v d ∧ Df K H u d' := by
  cases h with
  | cons a t =>
    obtain ⟨u, rfl, b⟩ := dfa1 t
    exact ⟨_, _, rfl, a, b⟩
theorem sc_I0 {g : Int → Int → PyData} {g' : Int → Int → V} (h : ∀ i j, sV (g i j) = some (g' i j)) : Sc K (fI2 fun i j => some (g i j)) (r2 (rI0 g')) := fun H vs ds z a hf => by
  obtain ⟨i, j, rfl, hz⟩ := fI2_some hf
  cases hz
  obtain ⟨v, u, rfl, b, c⟩ := dfa2 a
  obtain rfl := df_int b
  obtain rfl := df_int c
  exact ⟨g' i j, h i j, fun Q q => ⟨i, j, rfl, rfl, q⟩⟩
theorem sc_I {C : Int → Int → Prop} {D : Int → Int → Prop} [∀ i j, Decidable (D i j)] {g : Int → Int → PyData} {g' : Int → Int → V} (hC : ∀ i j, D i j → C i j) (h : ∀ i j, sV (g i j) = some (g' i j)) :
    Sc K (fI2 fun i j => if shut (decide (D i j)) = true then some (g i j) else none) (r2 (rI C g')) := fun H vs ds z a hf => by
  obtain ⟨i, j, rfl, hz⟩ := fI2_some hf
  split at hz
  · rename_i hd
    rw [shut_eq, decide_eq_true_eq] at hd
    cases hz
    obtain ⟨v, u, rfl, b, c⟩ := dfa2 a
    obtain rfl := df_int b
    obtain rfl := df_int c
    exact ⟨g' i j, h i j, fun Q q => ⟨i, j, rfl, rfl, hC i j hd, q⟩⟩
  · cases hz
def fSub := fI2 fun i j => some (.int (i - j))
noncomputable def fMod := fI2 fun i j => if shut (decide (0 < j)) = true then some (.int (i % j)) else none
instance (i j : Int) : Decidable (CDivW i j) := inferInstanceAs (Decidable (0 < j ∧ j.natAbs.log2 < 9000))
noncomputable def fDiv := fI2 fun i j => if shut (decide (CDivW i j)) = true then some (.int (i / j)) else none
instance (i j : Int) : Decidable (CPow i j) := inferInstanceAs (Decidable (0 ≤ j ∧ j ≤ 1000000 ∧ i.natAbs < 2 ^ 64))
instance (i j : Int) : Decidable (CMul i j) := inferInstanceAs (Decidable ((-(2 ^ 64) < i ∧ i < 2 ^ 64) ∨ (-(2 ^ 64) < j ∧ j < 2 ^ 64)))
instance (i j : Int) : Decidable (CMulW i j) := inferInstanceAs (Decidable (i.natAbs.log2 + j.natAbs.log2 < 1000000))
noncomputable def fPow := fI2 fun i j => if shut (decide (CPow i j)) = true then some (.int (i ^ j.toNat)) else none
noncomputable def fShl := fI2 fun i j => if shut (decide (CPow i j)) = true then some (.int (i * 2 ^ j.toNat)) else none
noncomputable def fShr := fI2 fun i j => if shut (decide (0 ≤ j)) = true then some (.int (i / 2 ^ j.toNat)) else none
def fAnd := fI2 fun i j => some (.int (Builtin.bitAnd i j))
noncomputable def fMul := fI2 fun i j => if shut (decide (CMul i j ∨ CMulW i j)) = true then some (.int (i * j)) else none
def fLt := fI2 fun i j => some (.bool (decide (i < j)))
def fLe := fI2 fun i j => some (.bool (decide (i ≤ j)))
def fGt := fI2 fun i j => some (.bool (decide (j < i)))
def fGe := fI2 fun i j => some (.bool (decide (j ≤ i)))
def fNeg := fI1 fun i => some (.int (-i))
theorem sc_sub : Sc K fSub (r2 (rI0 fun i j => .int (i - j))) := sc_I0 fun _ _ => rfl
theorem sc_mod : Sc K fMod (r2 (rI (fun _ j => 0 < j) fun i j => .int (i % j))) := sc_I (fun _ _ h => h) fun _ _ => rfl
theorem sc_div : Sc K fDiv (r2 (rI CDivW fun i j => .int (i / j))) := sc_I (fun _ _ h => h) fun _ _ => rfl
theorem sc_pow : Sc K fPow (r2 (rI CPow fun i j => .int (i ^ j.toNat))) := sc_I (fun _ _ h => h) fun _ _ => rfl
theorem sc_shl : Sc K fShl (r2 (rI CPow fun i j => .int (i * 2 ^ j.toNat))) := sc_I (fun _ _ h => h) fun _ _ => rfl
theorem sc_shr : Sc K fShr (r2 (rI (fun _ j => 0 ≤ j) fun i j => .int (i / 2 ^ j.toNat))) := sc_I (fun _ _ h => h) fun _ _ => rfl
theorem sc_and : Sc K fAnd (r2 (rI0 fun i j => .int (Builtin.bitAnd i j))) := sc_I0 fun _ _ => rfl
theorem sc_mul : Sc K fMul (r2 (rI (fun i j => CMul i j ∨ CMulW i j) fun i j => .int (i * j))) := sc_I (fun _ _ h => h) fun _ _ => rfl
theorem op_mulA : OpR X (binaryOp .Mult) (rI (fun i j => CMul i j ∨ CMulW i j) fun i j => .int (i * j)) := by
  intro pins s σ H x y v u Q I rx ry h
  obtain ⟨i, j, e1, e2, hc, q⟩ := h
  rcases hc with hc | hc
  · exact op_mul pins s σ H x y v u Q I rx ry ⟨i, j, e1, e2, hc, q⟩
  · exact op_mulW pins s σ H x y v u Q I rx ry ⟨i, j, e1, e2, hc, q⟩
theorem sc_lt : Sc K fLt (r2 (rI0 fun i j => .bl (decide (i < j)))) := sc_I0 fun _ _ => rfl
theorem sc_le : Sc K fLe (r2 (rI0 fun i j => .bl (decide (i ≤ j)))) := sc_I0 fun _ _ => rfl
theorem sc_gt : Sc K fGt (r2 (rI0 fun i j => .bl (decide (j < i)))) := sc_I0 fun _ _ => rfl
theorem sc_ge : Sc K fGe (r2 (rI0 fun i j => .bl (decide (j ≤ i)))) := sc_I0 fun _ _ => rfl
theorem sc_neg : Sc K fNeg (r1 (rU fun i => .int (-i))) := fun H vs ds z a hf => by
  obtain ⟨i, rfl, hz⟩ := fI1_some hf
  cases hz
  obtain ⟨v, rfl, b⟩ := dfa1 a
  obtain rfl := df_int b
  exact ⟨_, rfl, fun Q q => ⟨i, rfl, q⟩⟩
/-- == -/
def fEq : List PyData → Option PyData
  | [d, e] => if SeqAt.shaped d && SeqAt.shaped e then some (.bool (PyData.eqv d e)) else none
  | _ => none
def fNe : List PyData → Option PyData
  | [d, e] => if SeqAt.shaped d && SeqAt.shaped e then some (.bool (!PyData.eqv d e)) else none
  | _ => none
theorem sc_eq : Sc K fEq (r2 (rEqD K)) := fun H vs ds z a hf => by
  unfold fEq at hf
  split at hf
  · split at hf
    · rename_i d e hs
      cases hf
      simp only [Bool.and_eq_true] at hs
      obtain ⟨v, u, rfl, b, c⟩ := dfa2 a
      exact ⟨_, rfl, fun Q q => ⟨d, e, b.dp (Same.refl H), c.dp (Same.refl H), hs.1, hs.2, q⟩⟩
    · cases hf
  · cases hf
theorem sc_ne : Sc K fNe (r2 (rNeD K)) := fun H vs ds z a hf => by
  unfold fNe at hf
  split at hf
  · split at hf
    · rename_i d e hs
      cases hf
      simp only [Bool.and_eq_true] at hs
      obtain ⟨v, u, rfl, b, c⟩ := dfa2 a
      exact ⟨_, rfl, fun Q q => ⟨d, e, b.dp (Same.refl H), c.dp (Same.refl H), hs.1, hs.2, q⟩⟩
    · cases hf
  · cases hf
/-- is None -/
def isN : PyData → Bool
  | .none => true
  | _ => false
def fIsN : List PyData → Option PyData
  | [d, .none] => some (.bool (isN d))
  | _ => none
def fNotN : List PyData → Option PyData
  | [d, .none] => some (.bool (!isN d))
  | _ => none
theorem df_isN {H : Hp} {v : V} {d : PyData} (h : Df K H v d) : decide (v = .non) = isN d := by
  cases h <;> first | rfl | exact decide_eq_false (fun z => by cases z)
theorem sc_isN : Sc K fIsN (r2 fun x y H Q => y = .non ∧ Q (.bl (decide (x = .non))) H) := fun H vs ds z a hf => by
  unfold fIsN at hf
  split at hf
  · cases hf
    obtain ⟨v, u, rfl, b, c⟩ := dfa2 a
    cases c
    exact ⟨_, rfl, fun Q q => ⟨rfl, by rw [df_isN b]; exact q⟩⟩
  · cases hf
theorem sc_notN : Sc K fNotN (r2 fun x y H Q => y = .non ∧ Q (.bl (!decide (x = .non))) H) := fun H vs ds z a hf => by
  unfold fNotN at hf
  split at hf
  · cases hf
    obtain ⟨v, u, rfl, b, c⟩ := dfa2 a
    cases c
    exact ⟨_, rfl, fun Q q => ⟨rfl, by rw [df_isN b]; exact q⟩⟩
  · cases hf
/-- in, by a list's or a text's -/
def fIn : List PyData → Option PyData
  | [.str a, .str b] => some (.bool (!(Builtin.Str.occurrences b a 0 b.length 1).isEmpty))
  | [d, .list ds] => if SeqAt.shaped d && SeqAt.shaped (.list ds) then some (.bool (ds.any fun z => PyData.eqv z d)) else none
  | _ => none
def fNotIn : List PyData → Option PyData
  | [.str a, .str b] => some (.bool (!(!(Builtin.Str.occurrences b a 0 b.length 1).isEmpty)))
  | [d, .list ds] => if SeqAt.shaped d && SeqAt.shaped (.list ds) then some (.bool (!ds.any fun z => PyData.eqv z d)) else none
  | _ => none

def rInA (K : PySem.W.Frag) : R2 := fun x y H Q => (∃ i j, x = V.str i ∧ y = V.str j ∧ Q (.bl (!(Builtin.Str.occurrences j i 0 j.length 1).isEmpty)) H) ∨ rInD K x y H Q
def rNotInA (K : PySem.W.Frag) : R2 := fun x y H Q => (∃ i j, x = V.str i ∧ y = V.str j ∧ Q (.bl (!(!(Builtin.Str.occurrences j i 0 j.length 1).isEmpty))) H) ∨ rNotInD K x y H Q
theorem op_inA (hu : X.A.units + 65 < cLine) : OpR X (compareOp .In) (rInA X.K) := opr_or op_in_str (op_inD hu)
theorem op_notInA (hu : X.A.units + 65 < cLine) : OpR X (compareOp .NotIn) (rNotInA X.K) := opr_or op_notIn_str (op_notInD hu)
theorem sc_in : Sc K fIn (r2 (rInA K)) := fun H vs ds z a hf => by
  unfold fIn at hf
  split at hf
  · cases hf
    obtain ⟨v, u, rfl, b, c⟩ := dfa2 a
    obtain rfl := df_str b
    obtain rfl := df_str c
    exact ⟨_, rfl, fun Q q => .inl ⟨_, _, rfl, rfl, q⟩⟩
  · split at hf
    · rename_i hs
      cases hf
      simp only [Bool.and_eq_true] at hs
      obtain ⟨v, u, rfl, b, c⟩ := dfa2 a
      exact ⟨_, rfl, fun Q q => .inr ⟨_, _, b.dp (Same.refl H), c.dp (Same.refl H), hs.1, hs.2, q⟩⟩
    · cases hf
  · cases hf
theorem sc_notIn : Sc K fNotIn (r2 (rNotInA K)) := fun H vs ds z a hf => by
  unfold fNotIn at hf
  split at hf
  · cases hf
    obtain ⟨v, u, rfl, b, c⟩ := dfa2 a
    obtain rfl := df_str b
    obtain rfl := df_str c
    exact ⟨_, rfl, fun Q q => .inl ⟨_, _, rfl, rfl, q⟩⟩
  · split at hf
    · rename_i hs
      cases hf
      simp only [Bool.and_eq_true] at hs
      obtain ⟨v, u, rfl, b, c⟩ := dfa2 a
      exact ⟨_, rfl, fun Q q => .inr ⟨_, _, b.dp (Same.refl H), c.dp (Same.refl H), hs.1, hs.2, q⟩⟩
    · cases hf
  · cases hf

/-! ### built-ins that tell scalars -/
def asInts : List PyData → Option (List Int)
  | [] => some []
  | .int i :: ds => (match asInts ds with
    | some ns => some (i :: ns)
    | none => none)
  | _ => none
def asBools : List PyData → Option (List Bool)
  | [] => some []
  | .bool b :: ds => (match asBools ds with
    | some ns => some (b :: ns)
    | none => none)
  | _ => none
def asStrs : List PyData → Option (List Str)
  | [] => some []
  | .str b :: ds => (match asStrs ds with
    | some ns => some (b :: ns)
    | none => none)
  | _ => none
theorem asInts_v {F : Hp} : ∀ {vs : List V} {ds : List PyData} {ns : List Int}, DfAll K F vs ds → asInts ds = some ns → vs = ns.map V.int
  | _, _, _, .nil, h => by unfold asInts at h; cases h; rfl
  | _, _, _, .cons (d := d) a t, h => by
    unfold asInts at h
    split at h
    · rename_i e1; cases e1
    · rename_i i ds' e1
      cases e1
      split at h
      · rename_i ns' h'
        cases h
        rw [df_int a, asInts_v t h', List.map_cons]
      · cases h
    · cases h
theorem asBools_v {F : Hp} : ∀ {vs : List V} {ds : List PyData} {ns : List Bool}, DfAll K F vs ds → asBools ds = some ns → vs = ns.map V.bl
  | _, _, _, .nil, h => by unfold asBools at h; cases h; rfl
  | _, _, _, .cons (d := d) a t, h => by
    unfold asBools at h
    split at h
    · rename_i e1; cases e1
    · rename_i i ds' e1
      cases e1
      split at h
      · rename_i ns' h'
        cases h
        rw [df_bool a, asBools_v t h', List.map_cons]
      · cases h
    · cases h
theorem asStrs_v {F : Hp} : ∀ {vs : List V} {ds : List PyData} {ns : List Str}, DfAll K F vs ds → asStrs ds = some ns → vs = ns.map V.str
  | _, _, _, .nil, h => by unfold asStrs at h; cases h; rfl
  | _, _, _, .cons (d := d) a t, h => by
    unfold asStrs at h
    split at h
    · rename_i e1; cases e1
    · rename_i i ds' e1
      cases e1
      split at h
      · rename_i ns' h'
        cases h
        rw [df_str a, asStrs_v t h', List.map_cons]
      · cases h
    · cases h
theorem df_list {H : Hp} {v : V} {ds : List PyData} (h : Df K H v (.list ds)) : ∃ p vs, v = .ref p ∧ H p = some (.lst vs) ∧ DfAll K H vs ds := by
  cases h with
  | lst a b => exact ⟨_, _, rfl, a, b⟩
theorem df_tuple {H : Hp} {v : V} {ds : List PyData} (h : Df K H v (.tuple ds)) : ∃ p vs, v = .ref p ∧ H p = some (.tup vs) ∧ DfAll K H vs ds := by
  cases h with
  | tup a b => exact ⟨_, _, rfl, a, b⟩
def fLen : List PyData → Option PyData
  | [.list ds] => some (.int ds.length)
  | [.tuple ds] => some (.int ds.length)
  | [.str x] => if x.length ≤ sizeLine then some (.int x.length) else none
  | _ => none
theorem sc_len : Sc K fLen (fun xs H Q => ∃ x n, xs = [x] ∧ LenV K x H n ∧ Q (.int n) H) := fun H vs ds z a hf => by
  unfold fLen at hf
  split at hf
  · cases hf
    obtain ⟨v, rfl, b⟩ := dfa1 a
    obtain ⟨p, ws, rfl, hp, ha⟩ := df_list b
    exact ⟨_, rfl, fun Q q => ⟨_, _, rfl, .inl ⟨ws, .of hp, rfl⟩, by rw [dfa_len ha]; exact q⟩⟩
  · cases hf
    obtain ⟨v, rfl, b⟩ := dfa1 a
    obtain ⟨p, ws, rfl, hp, ha⟩ := df_tuple b
    exact ⟨_, rfl, fun Q q => ⟨_, _, rfl, .inr ⟨ws, .of hp, rfl⟩, by rw [dfa_len ha]; exact q⟩⟩
  · split at hf
    · rename_i hl
      cases hf
      obtain ⟨v, rfl, b⟩ := dfa1 a
      obtain rfl := df_str b
      exact ⟨_, rfl, fun Q q => ⟨_, _, rfl, ⟨hl, rfl⟩, q⟩⟩
    · cases hf
  · cases hf
def maxL : Int → List Int → Int
  | m, [] => m
  | m, x :: xs => maxL (max m x) xs
def minL : Int → List Int → Int
  | m, [] => m
  | m, x :: xs => minL (min m x) xs
theorem maxL_ge : ∀ (m : Int) (xs : List Int), m ≤ maxL m xs ∧ ∀ x ∈ xs, x ≤ maxL m xs
  | m, [] => ⟨Int.le_refl _, fun _ h => by cases h⟩
  | m, x :: xs => by
    obtain ⟨h1, h2⟩ := maxL_ge (max m x) xs
    refine ⟨Int.le_trans (Int.le_max_left m x) h1, fun y hy => ?_⟩
    rcases List.mem_cons.mp hy with rfl | hy
    · exact Int.le_trans (Int.le_max_right m y) h1
    · exact h2 y hy
theorem maxL_mem : ∀ (m : Int) (xs : List Int), maxL m xs = m ∨ maxL m xs ∈ xs
  | m, [] => .inl rfl
  | m, x :: xs => by
    rcases maxL_mem (max m x) xs with h | h
    · show maxL (max m x) xs = m ∨ _
      rw [h]
      by_cases hx : m ≤ x
      · right; show maxL (max m x) xs ∈ _; rw [h, Int.max_eq_right hx]; exact List.mem_cons_self ..
      · left; exact Int.max_eq_left (by omega)
    · exact .inr (List.mem_cons_of_mem _ h)
theorem minL_le : ∀ (m : Int) (xs : List Int), minL m xs ≤ m ∧ ∀ x ∈ xs, minL m xs ≤ x
  | m, [] => ⟨Int.le_refl _, fun _ h => by cases h⟩
  | m, x :: xs => by
    obtain ⟨h1, h2⟩ := minL_le (min m x) xs
    refine ⟨Int.le_trans h1 (Int.min_le_left m x), fun y hy => ?_⟩
    rcases List.mem_cons.mp hy with rfl | hy
    · exact Int.le_trans h1 (Int.min_le_right m y)
    · exact h2 y hy
theorem minL_mem : ∀ (m : Int) (xs : List Int), minL m xs = m ∨ minL m xs ∈ xs
  | m, [] => .inl rfl
  | m, x :: xs => by
    rcases minL_mem (min m x) xs with h | h
    · show minL (min m x) xs = m ∨ _
      rw [h]
      by_cases hx : m ≤ x
      · left; exact Int.min_eq_left hx
      · right; show minL (min m x) xs ∈ _; rw [h, Int.min_eq_right (by omega)]; exact List.mem_cons_self ..
    · exact .inr (List.mem_cons_of_mem _ h)
def fMax : List PyData → Option PyData
  | [.int i, .int j] => some (.int (if j > i then j else i))
  | [.list ds] => (match asInts ds with
    | some (n :: ns) => some (.int (maxL n ns))
    | _ => none)
  | _ => none
def fMin : List PyData → Option PyData
  | [.int i, .int j] => some (.int (if j < i then j else i))
  | [.list ds] => (match asInts ds with
    | some (n :: ns) => some (.int (minL n ns))
    | _ => none)
  | _ => none
theorem callr_or {f : Value} {r r' : List V → Hp → VK → Prop} (h : CallR X f r) (h' : CallR X f r') : CallR X f (fun x H Q => r x H Q ∨ r' x H Q) := by
  intro pins s σ H x u Q I rx q
  rcases q with q | q
  · exact h pins s σ H x u Q I rx q
  · exact h' pins s σ H x u Q I rx q
def rMaxA (K : PySem.W.Frag) : List V → Hp → VK → Prop := fun xs H Q => (∃ i j, xs = [.int i, .int j] ∧ Q (.int (if j > i then j else i)) H) ∨ rMax K xs H Q
def rMinA (K : PySem.W.Frag) : List V → Hp → VK → Prop := fun xs H Q => (∃ i j, xs = [.int i, .int j] ∧ Q (.int (if j < i then j else i)) H) ∨ rMin K xs H Q
theorem call_maxA (hc : X.calm = true) : CallR X (.builtin "max") (rMaxA X.K) := callr_or (call_max2 hc) (cr_max hc)
theorem call_minA (hc : X.calm = true) : CallR X (.builtin "min") (rMinA X.K) := callr_or (call_min2 hc) (cr_min hc)
theorem sc_max : Sc K fMax (rMaxA K) := fun H vs ds z a hf => by
  unfold fMax at hf
  split at hf
  · cases hf
    obtain ⟨v, u, rfl, b, c⟩ := dfa2 a
    obtain rfl := df_int b
    obtain rfl := df_int c
    exact ⟨_, rfl, fun Q q => .inl ⟨_, _, rfl, q⟩⟩
  · split at hf
    · rename_i n ns hn
      cases hf
      obtain ⟨v, rfl, b⟩ := dfa1 a
      obtain ⟨p, ws, rfl, hp, ha⟩ := df_list b
      have e := asInts_v ha hn
      subst e
      refine ⟨_, rfl, fun Q q => .inr ⟨p, n :: ns, rfl, .of hp, by simp, fun m hm hle => ?_⟩⟩
      have e : m = maxL n ns := by
        have h1 := maxL_ge n ns
        have h2 : m ≤ maxL n ns := by
          rcases List.mem_cons.mp hm with e | hm
          · rw [e]; exact h1.1
          · exact h1.2 m hm
        have h3 : maxL n ns ≤ m := by
          rcases maxL_mem n ns with e | e
          · rw [e]; exact hle n (List.mem_cons_self ..)
          · exact hle _ (List.mem_cons_of_mem _ e)
        omega
      rw [e]
      exact q
    · cases hf
  · cases hf
theorem sc_min : Sc K fMin (rMinA K) := fun H vs ds z a hf => by
  unfold fMin at hf
  split at hf
  · cases hf
    obtain ⟨v, u, rfl, b, c⟩ := dfa2 a
    obtain rfl := df_int b
    obtain rfl := df_int c
    exact ⟨_, rfl, fun Q q => .inl ⟨_, _, rfl, q⟩⟩
  · split at hf
    · rename_i n ns hn
      cases hf
      obtain ⟨v, rfl, b⟩ := dfa1 a
      obtain ⟨p, ws, rfl, hp, ha⟩ := df_list b
      have e := asInts_v ha hn
      subst e
      refine ⟨_, rfl, fun Q q => .inr ⟨p, n :: ns, rfl, .of hp, by simp, fun m hm hle => ?_⟩⟩
      have e : m = minL n ns := by
        have h1 := minL_le n ns
        have h2 : minL n ns ≤ m := by
          rcases List.mem_cons.mp hm with e | hm
          · rw [e]; exact h1.1
          · exact h1.2 m hm
        have h3 : m ≤ minL n ns := by
          rcases minL_mem n ns with e | e
          · rw [e]; exact hle n (List.mem_cons_self ..)
          · exact hle _ (List.mem_cons_of_mem _ e)
        omega
      rw [e]
      exact q
    · cases hf
  · cases hf
def fAbs := fI1 fun i => some (.int (if i < 0 then -i else i))
theorem sc_abs : Sc K fAbs (fun xs H Q => ∃ i, xs = [.int i] ∧ Q (.int (if i < 0 then -i else i)) H) := fun H vs ds z a hf => by
  obtain ⟨i, rfl, hz⟩ := fI1_some hf
  cases hz
  obtain ⟨v, rfl, b⟩ := dfa1 a
  obtain rfl := df_int b
  exact ⟨_, rfl, fun Q q => ⟨i, rfl, q⟩⟩
def fSum : List PyData → Option PyData
  | [.list ds] => (match asInts ds with
    | some ns => some (.int ns.sum)
    | _ => none)
  | _ => none
theorem sc_sum : Sc K fSum (rSum K) := fun H vs ds z a hf => by
  unfold fSum at hf
  split at hf
  · split at hf
    · rename_i ns hn
      cases hf
      obtain ⟨v, rfl, b⟩ := dfa1 a
      obtain ⟨p, ws, rfl, hp, ha⟩ := df_list b
      have e := asInts_v ha hn
      subst e
      exact ⟨_, rfl, fun Q q => ⟨p, ns, rfl, .of hp, q⟩⟩
    · cases hf
  · cases hf
def fAll : List PyData → Option PyData
  | [.list ds] => (match asBools ds with
    | some ns => some (.bool (ns.all id))
    | _ => none)
  | _ => none
def fAny : List PyData → Option PyData
  | [.list ds] => (match asBools ds with
    | some ns => some (.bool (ns.any id))
    | _ => none)
  | _ => none
theorem sc_all : Sc K fAll (rAll K) := fun H vs ds z a hf => by
  unfold fAll at hf
  split at hf
  · split at hf
    · rename_i ns hn
      cases hf
      obtain ⟨v, rfl, b⟩ := dfa1 a
      obtain ⟨p, ws, rfl, hp, ha⟩ := df_list b
      have e := asBools_v ha hn
      subst e
      exact ⟨_, rfl, fun Q q => ⟨p, ns, rfl, .of hp, q⟩⟩
    · cases hf
  · cases hf
theorem sc_any : Sc K fAny (rAny K) := fun H vs ds z a hf => by
  unfold fAny at hf
  split at hf
  · split at hf
    · rename_i ns hn
      cases hf
      obtain ⟨v, rfl, b⟩ := dfa1 a
      obtain ⟨p, ws, rfl, hp, ha⟩ := df_list b
      have e := asBools_v ha hn
      subst e
      exact ⟨_, rfl, fun Q q => ⟨p, ns, rfl, .of hp, q⟩⟩
    · cases hf
  · cases hf
/-- int(..) -/
def fInt : List PyData → Option PyData
  | [.int i] => some (.int i)
  | [.bool k] => some (.int (if k then 1 else 0))
  | [.str x] => (match intText? x with
    | some n => if x.length ≤ 640 then some (.int n) else none
    | none => none)
  | _ => none
def rIntA : List V → Hp → VK → Prop := fun xs H Q => ((∃ i, xs = [.int i] ∧ Q (.int i) H) ∨ ∃ k, xs = [.bl k] ∧ Q (.int (if k then 1 else 0)) H) ∨ ∃ a n, xs = [V.str a] ∧ intText? a = some n ∧ a.length ≤ 640 ∧ Q (V.int n) H
theorem call_intA : CallR X (.type "int") rIntA := callr_or call_int1 call_int_str
theorem sc_int : Sc K fInt rIntA := fun H vs ds z a hf => by
  unfold fInt at hf
  split at hf
  · cases hf
    obtain ⟨v, rfl, b⟩ := dfa1 a
    obtain rfl := df_int b
    exact ⟨_, rfl, fun Q q => .inl (.inl ⟨_, rfl, q⟩)⟩
  · cases hf
    obtain ⟨v, rfl, b⟩ := dfa1 a
    obtain rfl := df_bool b
    exact ⟨_, rfl, fun Q q => .inl (.inr ⟨_, rfl, q⟩)⟩
  · split at hf
    · rename_i n hn
      split at hf
      · rename_i hl
        cases hf
        obtain ⟨v, rfl, b⟩ := dfa1 a
        obtain rfl := df_str b
        exact ⟨_, rfl, fun Q q => .inr ⟨_, n, rfl, hn, hl, q⟩⟩
      · cases hf
    · cases hf
  · cases hf
noncomputable def fStr := fI1 fun i => if shut (decide (i.natAbs.log2 < 1920)) = true then some (.str (toString i)) else none
theorem sc_str : Sc K fStr (fun xs H Q => ∃ i, xs = [.int i] ∧ i.natAbs.log2 < 1920 ∧ Q (.str (toString i)) H) := fun H vs ds z a hf => by
  obtain ⟨i, rfl, hz⟩ := fI1_some hf
  split at hz
  · rename_i hl
    rw [shut_eq, decide_eq_true_eq] at hl
    cases hz
    obtain ⟨v, rfl, b⟩ := dfa1 a
    obtain rfl := df_int b
    exact ⟨_, rfl, fun Q q => ⟨i, rfl, hl, q⟩⟩
  · cases hz
section
variable {e : Expr} {es : List Expr} {p : Bool} {ms : MD (List O)} {f : List PyData → Option PyData} {g : List O → Option O} {r : List V → Hp → VK → Prop} {id T : String} {x : Str} {p1 pos : Pos}
theorem d_callB (hc : CallR X (.builtin id) r) (hs : Sc X.K f r) (hg : Gl X x) (hm : X.mg x = none) (hv : bootBuiltins x = some (.builtin id)) (ha : PA X (e :: es) (denL X.K p ms)) (hn : x ≠ "__name__" := by decide) (hdb : (x == ("__debug__" : Str)) = false := by decide)
    (he : starEach (e :: es) X.env = (false, eval e X.env) :: starEach es X.env := by rfl) (hpl : (backTo pos (starEach es X.env)).any (·.1) = false := by rfl) : PE X (.Call (.Name x p1) (e :: es) [] pos) (den X.K p (mL f ms)) :=
  pe_imp (pe_callB hc hg hm hv ha hn hdb he hpl) (mL_den hs fun _ _ _ h => h)
theorem d_callTy (hc : CallR X (.type T) r) (hs : Sc X.K f r) (hg : Gl X x) (hm : X.mg x = none) (hv : bootBuiltins x = some (.type T)) (ha : PA X (e :: es) (denL X.K p ms)) (hn : x ≠ "__name__" := by decide) (hdb : (x == ("__debug__" : Str)) = false := by decide)
    (he : starEach (e :: es) X.env = (false, eval e X.env) :: starEach es X.env := by rfl) (hpl : (backTo pos (starEach es X.env)).any (·.1) = false := by rfl) : PE X (.Call (.Name x p1) (e :: es) [] pos) (den X.K p (mL f ms)) :=
  pe_imp (pe_callTy hc hg hm hv ha hn hdb he hpl) (mL_den hs fun _ _ _ h => h)
theorem d_callTyA (hc : CallR X (.type T) r) (hs : Al X.K g r) (hg : Gl X x) (hm : X.mg x = none) (hv : bootBuiltins x = some (.type T)) (ha : PA X (e :: es) (denA X.K p ms)) (hn : x ≠ "__name__" := by decide) (hdb : (x == ("__debug__" : Str)) = false := by decide)
    (he : starEach (e :: es) X.env = (false, eval e X.env) :: starEach es X.env := by rfl) (hpl : (backTo pos (starEach es X.env)).any (·.1) = false := by rfl) : PE X (.Call (.Name x p1) (e :: es) [] pos) (den X.K p (mA g ms)) :=
  pe_imp (pe_callTy hc hg hm hv ha hn hdb he hpl) (mA_den hs fun _ _ _ h => h)
theorem d_callBA (hc : CallR X (.builtin id) r) (hs : Al X.K g r) (hg : Gl X x) (hm : X.mg x = none) (hv : bootBuiltins x = some (.builtin id)) (ha : PA X (e :: es) (denA X.K p ms)) (hn : x ≠ "__name__" := by decide) (hdb : (x == ("__debug__" : Str)) = false := by decide)
    (he : starEach (e :: es) X.env = (false, eval e X.env) :: starEach es X.env := by rfl) (hpl : (backTo pos (starEach es X.env)).any (·.1) = false := by rfl) : PE X (.Call (.Name x p1) (e :: es) [] pos) (den X.K p (mA g ms)) :=
  pe_imp (pe_callB hc hg hm hv ha hn hdb he hpl) (mA_den hs fun _ _ _ h => h)
end
end
end Dn

set_option Elab.async false
set_option linter.all false
set_option maxRecDepth 100000
set_option maxHeartbeats 4000000
namespace Dn
open PySem L2

section
variable {K : PySem.W.Frag} {X : Cx}
theorem ws1 {ws : Ws} {x : O} (h : ws.map (·.2) = [x]) : ∃ v, ws = [(v, x)] := by
  match ws, h with
  | [(v, y)], h => simp only [List.map_cons, List.map_nil, List.cons.injEq, and_true] at h; exact ⟨v, by rw [h]⟩
theorem ws2 {ws : Ws} {x y : O} (h : ws.map (·.2) = [x, y]) : ∃ v u, ws = [(v, x), (u, y)] := by
  match ws, h with
  | [(v, a), (u, b)], h => simp only [List.map_cons, List.map_nil, List.cons.injEq, and_true] at h; exact ⟨v, u, by rw [h.1, h.2]⟩
/-! ### + -/
def addO : List O → Option O
  | [.v (.int i), .v (.int j)] => some (.v (.int (i + j)))
  | [.v (.str a), .v (.str b)] => if a.length + b.length ≤ sizeLine then some (.v (.str (a ++ b))) else none
  | [x, y] => (match x.lparts, y.lparts with
    | some xs, some ys => if xs.length + ys.length ≤ sizeLine then some (.l (xs ++ ys)) else none
    | _, _ => (match x.tparts, y.tparts with
      | some (a :: xs), some (b :: ys) => if (a :: xs).length + (b :: ys).length ≤ sizeLine then tupO ((a :: xs) ++ (b :: ys)) else none
      | some (_ :: as), some [] => if as.length < sizeLine then some x else none
      | _, _ => none))
  | _ => none
theorem rp_tupAt {F H : Hp} {v : V} {x : O} {T : List Addr} {os : List O} (fh : Same F H) (r : Rp K F H v x T) (h : x.tparts = some os) : ∃ p vs, v = .ref p ∧ H p = some (.tup vs) ∧ vs.length = os.length := by
  cases x with
  | v d =>
    cases d with
    | tuple ds =>
      cases h
      cases r with
      | v hd =>
        cases hd with
        | tup hp ha => exact ⟨_, _, rfl, fh _ _ hp, by rw [List.length_map]; exact dfa_len ha⟩
    | _ => cases h
  | t xs =>
    cases h
    cases r with
    | t hp e1 e2 rl => exact ⟨_, _, rfl, hp, by rw [e1, e2, List.length_map, List.length_map]⟩
  | _ => cases h
def rAddA (K : PySem.W.Frag) : R2 := fun x y H Q => rI0 (fun i j => .int (i + j)) x y H Q ∨ (∃ i j, x = V.str i ∧ y = V.str j ∧ i.length + j.length ≤ sizeLine ∧ Q (V.str (i ++ j)) H) ∨ rCat x y H Q ∨ rCatT K x y H Q
theorem op_addA : OpR X (binaryOp .Add) (rAddA X.K) := opr_or op_add (opr_or op_add_str (opr_or op_cat op_catT))
theorem al_add : Al K addO (r2 (rAddA K)) := fun B F H σ e G ws x Q s hx k => by
  unfold addO at hx
  split at hx
  · rename_i i j hw
    cases hx
    obtain ⟨v, u, rfl⟩ := ws2 hw
    obtain ⟨_, r1⟩ := s.at
    obtain ⟨_, r2⟩ := s.pop.at
    cases r1 with
    | v h1 =>
      cases r2 with
      | v h2 =>
        obtain rfl := df_int h1
        obtain rfl := df_int h2
        exact .inl ⟨i, j, rfl, rfl, k F H _ (s.pop.pop.push (.int _)) (.refl _)⟩
  · rename_i a b hw
    split at hx
    · rename_i hl
      cases hx
      obtain ⟨v, u, rfl⟩ := ws2 hw
      obtain ⟨_, r1⟩ := s.at
      obtain ⟨_, r2⟩ := s.pop.at
      cases r1 with
      | v h1 =>
        cases r2 with
        | v h2 =>
          obtain rfl := df_str h1
          obtain rfl := df_str h2
          exact .inr (.inl ⟨a, b, rfl, rfl, hl, k F H _ (s.pop.pop.push (.str _)) (.refl _)⟩)
    · cases hx
  · rename_i y z _ _ hw
    obtain ⟨v, u, rfl⟩ := ws2 hw
    split at hx
    · rename_i xs ys h1 h2
      split at hx
      · rename_i hl
        cases hx
        obtain ⟨p, w1, F1, rfl, e1, e2, e3, s1⟩ := Sta.openL (G := (u, z) :: G) s h1
        obtain ⟨q, w2, F2, rfl, e1', e2', e3', s2⟩ := Sta.openL (s1.perm (mid _ _ _)) h2
        subst e2
        subst e2'
        rw [List.length_map, List.length_map] at hl
        refine .inr (.inr (.inl ⟨p, q, _, _, rfl, rfl, s2.fh _ _ (e3' _ _ e1), s2.fh _ _ e1', by rw [List.length_map, List.length_map]; exact hl, fun t ht => ?_⟩))
        have s3 : Sta K B F2 H σ e ((w1 ++ w2) ++ G) := s2.perm (by
          rw [List.append_assoc]
          exact pmid _ _ _)
        have s4 := s3.newL ht
        rw [List.map_append, List.map_append] at s4
        exact k F2 _ _ s4 (same_upd ht)
      · cases hx
    · split at hx
      · rename_i a xs b ys h1 h2
        split at hx
        · rename_i hl
          obtain ⟨p, w1, F1, rfl, e1, e2, e3, s1⟩ := Sta.openT (G := (u, z) :: G) s h1
          obtain ⟨q, w2, F2, rfl, e1', e2', e3', s2⟩ := Sta.openT (s1.perm (mid _ _ _)) h2
          have hl1 : w1.length = (a :: xs).length := by rw [← e2, List.length_map]
          have hl2 : w2.length = (b :: ys).length := by rw [← e2', List.length_map]
          have n1 : w1.map (·.1) ≠ [] := fun z => by
            have := congrArg List.length z
            rw [List.length_map, hl1] at this
            simp at this
          have n2 : w2.map (·.1) ≠ [] := fun z => by
            have := congrArg List.length z
            rw [List.length_map, hl2] at this
            simp at this
          have s3 : Sta K B F2 H σ e ((w1 ++ w2) ++ G) := s2.perm (by
            rw [List.append_assoc]
            exact pmid _ _ _)
          refine .inr (.inr (.inr ⟨p, q, _, _, rfl, rfl, .of (s2.fh _ _ (e3' _ _ e1)), .of (s2.fh _ _ e1'), n1, by rw [List.length_map, List.length_map, hl1, hl2]; exact hl, fun z => absurd z n2, fun _ t ht => ?_⟩))
          have := al_tup B F2 H σ e G (w1 ++ w2) x Q s3 (by rw [List.map_append, e2, e2']; exact hx) k
          rw [← List.map_append]
          exact this.2 t ht
        · cases hx
      · rename_i a as h1 h2
        split at hx
        · rename_i hl
          cases hx
          obtain ⟨_, r1⟩ := s.at
          obtain ⟨_, r2⟩ := s.pop.at
          obtain ⟨p, vs, rfl, hp, hpl⟩ := rp_tupAt s.fh r1 h1
          obtain ⟨q, us, rfl, hq, hql⟩ := rp_tupAt s.fh r2 h2
          have hu : us = [] := List.length_eq_zero_iff.mp hql
          subst hu
          refine .inr (.inr (.inr ⟨p, q, _, _, rfl, rfl, .of hp, .of hq, fun z => ?_, ?_, fun _ => k F H _ (Sta.pop (s.perm (.swap _ _ _))) (.refl _), fun z => absurd rfl z⟩))
          · rw [z] at hpl; simp at hpl
          · rw [hpl]; simp; omega
        · cases hx
      · cases hx
  · cases hx
theorem d_add {a b : Expr} {ta tb : TE} {p : Bool} {ms : MD (List O)} {pos : Pos} (ha : PE X a ta) (hb : PE X b tb) (hl : AS X.K p ms (tCons ta (tCons tb tNil))) : PE X (.BinOp a .Add b pos) (den X.K p (mA addO ms)) :=
  pe_imp (pe_op op_addA ha hb) (mA_den (r := r2 (rAddA X.K)) al_add hl)

/-! ### an item -/
def mLk (f : List O → Option PyData) (ms : MD (List O)) : MD O := fun e => match ms e with
  | some (xs, e1) => (match f xs with
    | some z => some (.v z, e1)
    | none => none)
  | none => none
def La (K : PySem.W.Frag) (f : List O → Option PyData) (r : List V → Hp → VK → Prop) : Prop :=
  ∀ F H vs xs z, Same F H → RpA K F H vs xs → f xs = some z → ∃ v, Df K F v z ∧ ∀ Q : VK, Q v H → r vs H Q
theorem mLk_den {p : Bool} {f : List O → Option PyData} {ms : MD (List O)} {r : List V → Hp → VK → Prop} {t : TA} (hr : La K f r) (hl : LS K p ms t) : ∀ σ H Q, den K p (mLk f ms) σ H Q → tCB r t σ H Q := fun σ H Q ⟨B, F, e, G, y, e', s, hm, k⟩ => by
  unfold mLk at hm
  split at hm
  · rename_i xs e1 h1
    split at hm
    · rename_i z h3
      obtain ⟨rfl, rfl⟩ := so hm
      refine hl σ H _ ⟨B, F, e, G, xs, e1, s, h1, fun F1 H1 vs s1 r1 sm1 => ?_⟩
      obtain ⟨v, hz, q⟩ := hr F1 H1 vs xs z s1.fh r1 h3
      exact q Q (k F1 H1 v (s1.push hz) sm1)
    · cases hm
  · cases hm
def ixO : List O → Option PyData
  | [.v (.list ds), .v (.int i)] => atI ds i
  | [.v (.tuple ds), .v (.int i)] => atI ds i
  | [.v (.str z), .v (.int i)] => if z.length ≤ sizeLine then (match atI z.cps.toList i with
    | some c => some (.str ⟨#[c]⟩)
    | none => none) else none
  | [.l os, .v (.int i)] => (match atI os i with
    | some (.v d) => some d
    | _ => none)
  | [.t os, .v (.int i)] => (match atI os i with
    | some (.v d) => some d
    | _ => none)
  | _ => none
theorem dfa_get {F : Hp} : ∀ {vs : List V} {ds : List PyData} {j : Nat} {d : PyData}, DfAll K F vs ds → ds[j]? = some d → ∃ v, vs[j]? = some v ∧ Df K F v d
  | _, _, j, _, .nil, h => by simp at h
  | _, _, 0, _, .cons a t, h => by simp at h; subst h; exact ⟨_, rfl, a⟩
  | _, _, j + 1, _, .cons a t, h => by
    obtain ⟨v, h1, h2⟩ := dfa_get (j := j) t (by simpa using h)
    exact ⟨v, by simpa using h1, h2⟩
theorem rpl_get {F H : Hp} : ∀ {ws : Ws} {T : List Addr} {j : Nat} {w : V × O}, RpL K F H ws T → ws[j]? = some w → ∃ T', Rp K F H w.1 w.2 T'
  | _, _, j, _, .nil, h => by simp at h
  | _, _, 0, _, .cons a t, h => by simp at h; subst h; exact ⟨_, a⟩
  | _, _, j + 1, _, .cons a t, h => rpl_get (j := j) t (by simpa using h)
theorem atI_some {α : Type} {xs : List α} {i : Int} {x : α} (h : atI xs i = some x) : ∃ j, ixN xs.length i = some j ∧ xs[j]? = some x := by
  unfold atI at h
  obtain ⟨j, h1, h2⟩ := Option.bind_eq_some_iff.mp h
  exact ⟨j, h1, h2⟩
theorem atI_of {α : Type} {xs : List α} {i : Int} {x : α} {j : Nat} (h1 : ixN xs.length i = some j) (h2 : xs[j]? = some x) : atI xs i = some x := by
  unfold atI
  rw [h1]
  exact h2
theorem rpa2 {F H : Hp} {vs : List V} {x y : O} (h : RpA K F H vs [x, y]) : ∃ v u T T', vs = [v, u] ∧ Rp K F H v x T ∧ Rp K F H u y T' := by
  cases h with
  | cons a t =>
    cases t with
    | cons b t => cases t; exact ⟨_, _, _, _, rfl, a, b⟩
theorem rpa1 {F H : Hp} {vs : List V} {x : O} (h : RpA K F H vs [x]) : ∃ v T, vs = [v] ∧ Rp K F H v x T := by
  cases h with
  | cons a t => cases t; exact ⟨_, _, rfl, a⟩
theorem rp_v {F H : Hp} {v : V} {d : PyData} {T : List Addr} (h : Rp K F H v (.v d) T) : Df K F v d := by
  cases h with
  | v a => exact a
theorem rp_int {F H : Hp} {v : V} {i : Int} {T : List Addr} (h : Rp K F H v (.v (.int i)) T) : v = .int i := by
  cases h with
  | v a => exact df_int a
theorem la_ix : La K ixO (r2 (rIx K)) := fun F H vs xs z fh ra hf => by
  unfold ixO at hf
  split at hf
  · obtain ⟨v, u, T, T', rfl, a, b⟩ := rpa2 ra
    obtain rfl := rp_int b
    cases a with
    | v h =>
      obtain ⟨p, ws, rfl, hp, ha⟩ := df_list h
      obtain ⟨j, h1, h2⟩ := atI_some hf
      obtain ⟨y, h3, h4⟩ := dfa_get ha h2
      exact ⟨y, h4, fun Q q => .inl ⟨p, ws, _, y, rfl, rfl, .of (fh _ _ hp), atI_of (by rw [dfa_len ha]; exact h1) h3, q⟩⟩
  · obtain ⟨v, u, T, T', rfl, a, b⟩ := rpa2 ra
    obtain rfl := rp_int b
    cases a with
    | v h =>
      obtain ⟨p, ws, rfl, hp, ha⟩ := df_tuple h
      obtain ⟨j, h1, h2⟩ := atI_some hf
      obtain ⟨y, h3, h4⟩ := dfa_get ha h2
      exact ⟨y, h4, fun Q q => .inr (.inl ⟨p, ws, _, y, rfl, rfl, .of (fh _ _ hp), atI_of (by rw [dfa_len ha]; exact h1) h3, q⟩)⟩
  · split at hf
    · rename_i hl
      split at hf
      · rename_i c hc
        cases hf
        obtain ⟨v, u, T, T', rfl, a, b⟩ := rpa2 ra
        obtain rfl := rp_int b
        cases a with
        | v h =>
          obtain rfl := df_str h
          exact ⟨_, .str _, fun Q q => .inr (.inr ⟨_, _, c, rfl, rfl, hl, hc, q⟩)⟩
      · cases hf
    · cases hf
  · split at hf
    · rename_i d hd
      cases hf
      obtain ⟨v, u, T, T', rfl, a, b⟩ := rpa2 ra
      obtain rfl := rp_int b
      cases a with
      | l hp e1 e2 rl =>
        rename_i p vs ws T0
        obtain ⟨j, h1, h2⟩ := atI_some hd
        subst e2
        rw [List.getElem?_map] at h2
        obtain ⟨w, h3, h4⟩ := Option.map_eq_some_iff.mp h2
        obtain ⟨T2, r⟩ := rpl_get rl h3
        rw [h4] at r
        refine ⟨_, rp_v r, fun Q q => .inl ⟨p, _, _, w.1, rfl, rfl, .of hp, atI_of (j := j) ?_ ?_, q⟩⟩
        · rw [List.length_map] at h1
          rw [e1, List.length_map]; exact h1
        · rw [e1, List.getElem?_map, h3]; rfl
    · cases hf
  · split at hf
    · rename_i d hd
      cases hf
      obtain ⟨v, u, T, T', rfl, a, b⟩ := rpa2 ra
      obtain rfl := rp_int b
      cases a with
      | t hp e1 e2 rl =>
        rename_i p vs ws T0
        obtain ⟨j, h1, h2⟩ := atI_some hd
        subst e2
        rw [List.getElem?_map] at h2
        obtain ⟨w, h3, h4⟩ := Option.map_eq_some_iff.mp h2
        obtain ⟨T2, r⟩ := rpl_get rl h3
        rw [h4] at r
        refine ⟨_, rp_v r, fun Q q => .inr (.inl ⟨p, _, _, w.1, rfl, rfl, .of hp, atI_of (j := j) ?_ ?_, q⟩)⟩
        · rw [List.length_map] at h1
          rw [e1, List.length_map]; exact h1
        · rw [e1, List.getElem?_map, h3]; rfl
    · cases hf
  · cases hf
theorem d_ix {a b : Expr} {ta tb : TE} {p : Bool} {ms : MD (List O)} {pos : Pos} (ha : PE X a ta) (hb : PE X b tb) (hs : PlainIx b) (hl : LS X.K p ms (tCons ta (tCons tb tNil))) : PE X (.Subscript a b pos) (den X.K p (mLk ixO ms)) :=
  pe_imp (pe_ix ix_seq ha hb hs) (mLk_den (r := r2 (rIx X.K)) la_ix hl)

/-! ### list(..), tuple(..) -/
def listO : List O → Option O
  | [x] => (match x.lparts with
    | some xs => if xs.length ≤ sizeLine then some (.l xs) else none
    | none => (match x.tparts with
      | some xs => if xs.length ≤ sizeLine then some (.l xs) else none
      | none => none))
  | _ => none
def tupleO : List O → Option O
  | [x] => (match x.lparts with
    | some xs => tupO xs
    | none => none)
  | _ => none
theorem al_list : Al K listO (fun xs H Q => ∃ p ys, xs = [.ref p] ∧ (SqL K H p ys ∨ SqT K H p ys) ∧ ∀ l, H l = none → Q (.ref l) (upd H l (.lst ys))) := fun B F H σ e G ws x Q s hx k => by
  unfold listO at hx
  split at hx
  · rename_i y hw
    obtain ⟨v, rfl⟩ := ws1 hw
    split at hx
    · rename_i xs h1
      split at hx
      · cases hx
        obtain ⟨p, w1, F1, rfl, e1, e2, e3, s1⟩ := Sta.openL s h1
        subst e2
        exact ⟨p, _, rfl, .inl (.of (s1.fh _ _ e1)), fun l hl => k F1 _ _ (s1.newL hl) (same_upd hl)⟩
      · cases hx
    · split at hx
      · rename_i xs h1
        split at hx
        · cases hx
          obtain ⟨p, w1, F1, rfl, e1, e2, e3, s1⟩ := Sta.openT s h1
          subst e2
          exact ⟨p, _, rfl, .inr (.of (s1.fh _ _ e1)), fun l hl => k F1 _ _ (s1.newL hl) (same_upd hl)⟩
        · cases hx
      · cases hx
  · cases hx
theorem al_tuple : Al K tupleO (fun xs H Q => ∃ p ys, xs = [.ref p] ∧ ((SqL K H p ys ∧ ∀ l, H l = none → Q (.ref l) (upd H l (.tup ys))) ∨ (SqT K H p ys ∧ Q (.ref p) H))) := fun B F H σ e G ws x Q s hx k => by
  unfold tupleO at hx
  split at hx
  · rename_i y hw
    obtain ⟨v, rfl⟩ := ws1 hw
    split at hx
    · rename_i xs h1
      obtain ⟨p, w1, F1, rfl, e1, e2, e3, s1⟩ := Sta.openL s h1
      subst e2
      exact ⟨p, _, rfl, .inl ⟨.of (s1.fh _ _ e1), (al_tup B F1 H σ e G w1 x Q s1 hx k).2⟩⟩
    · cases hx
  · cases hx

/-! ### slices -/
abbrev MO := MD (Option Int)
def oNone : MO := fun e => some (none, e)
def oSome (m : MD O) : MO := fun e => match m e with
  | some (.v (.int i), e1) => some (some i, e1)
  | _ => none
def denO (K : PySem.W.Frag) (a : Bool) (m : MO) : TO := fun σ H Q => ∃ B F e G x e', Sta K B F H σ e G ∧ m e = some (x, e') ∧ ∀ F' H', Sta K B F' H' σ e' G → (a = true → Same H H') → Q x H'
theorem po_imp {e : Option Expr} {t u : TO} (h : PO X e t) (k : ∀ σ H Q, u σ H Q → t σ H Q) : PO X e u := ⟨fun pins s σ H Q I q => h.run pins s σ H Q I (k _ _ _ q)⟩
theorem do_none : PO X none (denO X.K true oNone) := po_imp po_none fun σ H Q ⟨B, F, e, G, x, e', s, hm, k⟩ => by
  cases hm
  exact k F H s fun _ => .refl _
theorem do_some {e : Expr} {p : Bool} {m : MD O} (h : PE X e (den X.K p m)) : PO X (some e) (denO X.K p (oSome m)) := po_imp (po_some h) fun σ H Q ⟨B, F, e, G, x, e', s, hm, k⟩ => by
  unfold oSome at hm
  split at hm
  · rename_i i e1 h1
    obtain ⟨rfl, rfl⟩ := so hm
    refine ⟨B, F, e, G, _, e1, s, h1, fun F1 H1 v s1 sm => ?_⟩
    obtain ⟨T, r⟩ := s1.at
    obtain rfl := rp_int r
    exact ⟨i, rfl, k F1 H1 s1.pop sm⟩
  · cases hm
def cutG {α : Type} (xs : List α) (lo hi : Option Int) : List α := (xs.drop (HT.sIx xs.length 0 lo)).take (HT.sIx xs.length xs.length hi - HT.sIx xs.length 0 lo)
theorem cutV_map {α : Type} (f : α → V) (xs : List α) (lo hi : Option Int) : cutV (xs.map f) lo hi = (cutG xs lo hi).map f := by
  unfold cutV cutG
  rw [List.length_map, List.map_take, List.map_drop]
theorem cutG_map {α β : Type} (f : α → β) (xs : List α) (lo hi : Option Int) : cutG (xs.map f) lo hi = (cutG xs lo hi).map f := by
  unfold cutG
  rw [List.length_map, List.map_take, List.map_drop]
theorem cut_perm {α : Type} (xs : List α) (lo hi : Option Int) : ∃ r, xs.Perm (r ++ cutG xs lo hi) := by
  unfold cutG
  generalize HT.sIx xs.length 0 lo = a
  generalize HT.sIx xs.length xs.length hi - a = b
  refine ⟨xs.take a ++ (xs.drop a).drop b, ?_⟩
  have h1 : xs = xs.take a ++ ((xs.drop a).take b ++ (xs.drop a).drop b) := by rw [List.take_append_drop, List.take_append_drop]
  rw [List.append_assoc]
  conv => lhs; rw [h1]
  exact List.Perm.append_left _ List.perm_append_comm
def slO (x : O) (lo hi : Option Int) : Option O := match x with
  | .s ns => some (.l ((cutG ns lo hi).map fun n => .v (.int n)))
  | .v (.str z) => if z.length ≤ sizeLine then some (.v (.str (cutS z lo hi))) else none
  | x => (match x.lparts with
    | some xs => some (.l (cutG xs lo hi))
    | none => (match x.tparts with
      | some xs => if HT.sIx xs.length 0 lo = 0 ∧ HT.sIx xs.length xs.length hi = xs.length then none else tupO (cutG xs lo hi)
      | none => none))
def mSl (m : MD O) (lo hi : MO) : MD O := fun e => match m e with
  | some (x, e1) => (match lo e1 with
    | some (a, e2) => (match hi e2 with
      | some (b, e3) => (match slO x a b with
        | some y => some (y, e3)
        | none => none)
      | none => none)
    | none => none)
  | none => none
def rSlA (K : PySem.W.Frag) : V → Option Int → Option Int → Hp → VK → Prop := fun x lo hi H Q => rSlL K x lo hi H Q ∨ rSlS x lo hi H Q ∨ rSlT K x lo hi H Q
theorem slr_or {r r' : V → Option Int → Option Int → Hp → VK → Prop} (h : SlR X r) (h' : SlR X r') : SlR X (fun x lo hi H Q => r x lo hi H Q ∨ r' x lo hi H Q) := by
  intro pins s σ H x v vl vu lo hi sl Q I rx hs pl pu q
  rcases q with q | q
  · exact h pins s σ H x v vl vu lo hi sl Q I rx hs pl pu q
  · exact h' pins s σ H x v vl vu lo hi sl Q I rx hs pl pu q
theorem sl_A : SlR X (rSlA X.K) := slr_or sl_list (slr_or sl_str sl_tup)
theorem Sta.ints {B : Bs} {F H : Hp} {σ : St} {e : En} {G : Ws} (s : Sta K B F H σ e G) : ∀ ns : List Int, Sta K B F H σ e (ns.map (fun n => (V.int n, O.v (.int n))) ++ G)
  | [] => s
  | n :: ns => (s.ints ns).push (.int n)
theorem sl_run {B : Bs} {F H : Hp} {σ : St} {e : En} {G : Ws} {v : V} {x y : O} {lo hi : Option Int} {Q : VK} (s : Sta K B F H σ e ((v, x) :: G)) (hx : slO x lo hi = some y)
    (k : ∀ F' H' v, Sta K B F' H' σ e ((v, y) :: G) → Same H H' → Q v H') : rSlA K v lo hi H Q := by
  have gen : ∀ (hx : (match x.lparts with
    | some xs => some (O.l (cutG xs lo hi))
    | none => (match x.tparts with
      | some xs => if HT.sIx xs.length 0 lo = 0 ∧ HT.sIx xs.length xs.length hi = xs.length then none else tupO (cutG xs lo hi)
      | none => none)) = some y), rSlA K v lo hi H Q := fun hx => by
    split at hx
    · rename_i xs h1
      cases hx
      obtain ⟨p, w1, F1, rfl, e1, e2, e3, s1⟩ := Sta.openL s h1
      subst e2
      refine .inl ⟨p, _, rfl, .of (s1.fh _ _ e1), fun l hl => ?_⟩
      obtain ⟨r, pr⟩ := cut_perm w1 lo hi
      have s2 : Sta K B F1 H σ e (cutG w1 lo hi ++ G) := by
        refine ⟨s1.ok, ?_⟩
        have q := s1.rel.perm (pmid w1 _ _)
        have q2 := q.perm (pr.append_right _)
        rw [List.append_assoc] at q2
        exact q2.drop.perm (pmid _ _ _).symm
      rw [cutV_map, cutG_map] at *
      exact k F1 _ _ (s2.newL hl) (same_upd hl)
    · split at hx
      · rename_i xs h1
        split at hx
        · cases hx
        · rename_i hn
          obtain ⟨p, w1, F1, rfl, e1, e2, e3, s1⟩ := Sta.openT s h1
          subst e2
          rw [List.length_map] at hn
          refine .inr (.inr ⟨p, _, rfl, .of (s1.fh _ _ e1), by rw [List.length_map]; exact hn, fun l hl => ?_⟩)
          obtain ⟨r, pr⟩ := cut_perm w1 lo hi
          have s2 : Sta K B F1 H σ e (cutG w1 lo hi ++ G) := by
            refine ⟨s1.ok, ?_⟩
            have q := s1.rel.perm (pmid w1 _ _)
            have q2 := q.perm (pr.append_right _)
            rw [List.append_assoc] at q2
            exact q2.drop.perm (pmid _ _ _).symm
          rw [cutV_map]
          rw [cutG_map] at hx
          exact (al_tup B F1 H σ e G _ y Q s2 hx k).2 l hl
      · cases hx
  unfold slO at hx
  split at hx
  · rename_i ns
    cases hx
    obtain ⟨T, r⟩ := s.at
    cases r with
    | s h =>
      refine .inl ⟨_, _, rfl, sql_mono s.fh h, fun l hl => ?_⟩
      have s1 := (s.pop.ints (cutG ns lo hi)).newL (p := l) (w := (cutG ns lo hi).map (fun n => (V.int n, O.v (.int n)))) hl
      rw [List.map_map, List.map_map] at s1
      rw [cutV_map]
      exact k F _ _ s1 (same_upd hl)
  · split at hx
    · rename_i hl
      cases hx
      obtain ⟨T, r⟩ := s.at
      cases r with
      | v h =>
        obtain rfl := df_str h
        exact .inr (.inl ⟨_, rfl, hl, k F H _ (s.pop.push (.str _)) (.refl _)⟩)
    · cases hx
  · exact gen hx
theorem d_sl {e : Expr} {lo hi : Option Expr} {p q r : Bool} {m : MD O} {ml mh : MO} {pos p2 : Pos} (he : PE X e (den X.K p m)) (hl : PO X lo (denO X.K q ml)) (hu : PO X hi (denO X.K r mh)) :
    PE X (.Subscript e (.Slice lo hi none p2) pos) (den X.K (p && (q && r)) (mSl m ml mh)) := pe_imp (pe_slice sl_A he hl hu) fun σ H Q ⟨B, F, e, G, x, e', s, hm, k⟩ => by
  unfold mSl at hm
  split at hm
  · rename_i y e1 h1
    split at hm
    · rename_i a e2 h2
      split at hm
      · rename_i b e3 h3
        split at hm
        · rename_i z h4
          obtain ⟨rfl, rfl⟩ := so hm
          refine ⟨B, F, e, G, y, e1, s, h1, fun F1 H1 v s1 sm1 => ⟨B, F1, e1, _, a, e2, s1, h2, fun F2 H2 s2 sm2 => ⟨B, F2, e2, _, b, e3, s2, h3, fun F3 H3 s3 sm3 => ?_⟩⟩⟩
          refine sl_run s3 h4 fun F4 H4 v4 s4 sm4 => k F4 H4 v4 s4 fun z => ?_
          cases p
          · cases z
          · cases q
            · cases z
            · cases r
              · cases z
              · exact (((sm1 rfl).trans (sm2 rfl)).trans (sm3 rfl)).trans sm4
        · cases hm
      · cases hm
    · cases hm
  · cases hm
end
end Dn

set_option Elab.async false
set_option linter.all false
set_option maxRecDepth 100000
set_option maxHeartbeats 4000000
namespace Dn
open PySem L2

/-! ### a list of one's own that changes -/
section
variable {K : PySem.W.Frag} {H0 F0 F H : Hp} {ws : Ws} {B : Bs} {σ : St} {e : En} {G : Ws}
theorem Rel.put {v : V} {xs : List O} (r : Rel K H0 F0 F H ((v, .l xs) :: ws)) : ∃ p w, v = .ref p ∧ H p = some (.lst (w.map (·.1))) ∧ w.map (·.2) = xs ∧
    ∀ w' rest, (w ++ ws).Perm (w' ++ rest) → Rel K H0 F0 F (upd H p (.lst (w'.map (·.1)))) ((.ref p, .l (w'.map (·.2))) :: rest) := by
  obtain ⟨T, rl, nd, hT⟩ := r.res
  cases rl with
  | cons a t =>
    cases a with
    | l hp e1 e2 rw =>
      rename_i T2 p vs w T1
      refine ⟨p, w, rfl, by rw [hp, e1], e2.symm, fun w' rest pm => ?_⟩
      have hpn := hT p (List.mem_append_left _ (List.mem_cons_self ..))
      rw [List.cons_append] at nd
      obtain ⟨np, nd2⟩ := List.nodup_cons.mp nd
      have m1 : RpL K F (upd H p (.lst (w'.map (·.1)))) (w ++ ws) (T1 ++ T2) := rpl_mono (Same.refl F) (rpl_append rw t) fun q hq => upd_ne fun z => np (z ▸ hq)
      obtain ⟨T', pT, m2⟩ := rpl_perm pm m1
      obtain ⟨Ta, Tb, rfl, ra, rb⟩ := rpl_split m2
      refine ⟨fun q o e => ?_, r.f0, r.fn, fun q o e => ?_, (p :: Ta) ++ Tb, .cons (.l upd_same rfl rfl ra) rb, ?_, fun q hq => ?_⟩
      · have : q ≠ p := fun z => by rw [z, hpn.2] at e; cases e
        rw [upd_ne this]
        exact r.h0 q o e
      · have : q ≠ p := fun z => by rw [z, hpn.1] at e; cases e
        rw [upd_ne this]
        exact r.fh q o e
      · rw [List.cons_append]
        exact List.nodup_cons.mpr ⟨fun z => np (pT.mem_iff.mpr z), pT.nodup_iff.mp nd2⟩
      · rcases List.mem_cons.mp hq with rfl | hq
        · exact hpn
        · have := pT.mem_iff.mpr hq
          exact hT q (by rw [List.cons_append]; exact List.mem_cons_of_mem _ this)
def Sl.like : Sl → O → Sl
  | .own _, o => .own o
  | .pin _, o => .pin o
  | .no, _ => .no
theorem Sta.put {i : Nat} {sl : Sl} {xs : List O} (s : Sta K B F H σ e G) (hi : e[i]? = some sl) (ho : sl.o? = some (.l xs)) : ∃ p w, σ[i]? = some (some (.ref p)) ∧ H p = some (.lst (w.map (·.1))) ∧ w.map (·.2) = xs ∧
    ∀ w' G', (w ++ G).Perm (w' ++ G') → Sta K B F (upd H p (.lst (w'.map (·.1)))) σ (e.set i (sl.like (.l (w'.map (·.2))))) G' := by
  obtain ⟨v, hv, s1⟩ := s.out hi ho
  obtain ⟨p, w, rfl, hp, hw, k⟩ := (s1.rel.perm (mid _ _ _)).put
  refine ⟨p, w, hv, hp, hw, fun w' G' pm => ?_⟩
  have r := k w' (slots σ (e.set i .no) ++ G') (by
    refine (pmid _ _ _).symm.trans ?_
    refine (List.Perm.append_left _ pm).trans ?_
    exact pmid _ _ _)
  have hl : i < e.length := (List.getElem?_eq_some_iff.mp hi).1
  have ok : SlOk B.vs σ (e.set i (sl.like (.l (w'.map (·.2))))) := by
    cases sl with
    | no => cases ho
    | own o => exact s.ok.own hi
    | pin o => exact s.ok.pin hi
  refine ⟨ok, r.perm ?_⟩
  have hlo : (sl.like (.l (w'.map (·.2)))).o? = some (.l (w'.map (·.2))) := by
    cases sl with
    | no => cases ho
    | own o => rfl
    | pin o => rfl
  exact ((slots_put hlo hl hv).append_right G').symm
end
/-- x.m(..), x a slot's list: what it becomes, what is told -/
def mUp (i : Nat) (ms : MD (List O)) (f : List O → List O → Option (List O × O)) : MD O := fun e => match bVar i e with
  | some (.l _) => (match ms e with
    | some (ys, e1) => (match e1[i]? with
      | some (.own (.l xs)) => (match f xs ys with
        | some (xs', y) => some (y, e1.set i (.own (.l xs')))
        | none => none)
      | some (.pin (.l xs)) => (match f xs ys with
        | some (xs', y) => some (y, e1.set i (.pin (.l xs')))
        | none => none)
      | _ => none)
    | none => none)
  | _ => none
/-- r does what f says -/
def Up (K : PySem.W.Frag) (f : List O → List O → Option (List O × O)) (r : V → List V → Hp → VK → Prop) : Prop :=
  ∀ (B : Bs) (F H : Hp) (σ : St) (e : En) (G ws : Ws) (i : Nat) (sl : Sl) (xs xs' : List O) (y : O) (Q : VK) (v0 : V), Sta K B F H σ e (ws ++ G) → e[i]? = some sl → sl.o? = some (.l xs) → f xs (ws.map (·.2)) = some (xs', y) → σ[i]? = some (some v0) →
    (∀ F' H' v, Sta K B F' H' σ (e.set i (sl.like (.l xs'))) ((v, y) :: G) → Q v H') → r v0 (ws.map (·.1)) H Q
section
variable {K : PySem.W.Frag} {X : Cx}
def uApp : List O → List O → Option (List O × O)
  | xs, [y] => if xs.length < sizeLine then some (xs ++ [y], .v .none) else none
  | _, _ => none
def uExt : List O → List O → Option (List O × O)
  | xs, [y] => (match y.lparts with
    | some ys => if xs.length + ys.length ≤ sizeLine then some (xs ++ ys, .v .none) else none
    | none => none)
  | _, _ => none
def uPop : List O → List O → Option (List O × O)
  | xs, [] => (match xs[xs.length - 1]? with
    | some y => some (xs.dropLast, y)
    | none => none)
  | _, _ => none
def uPop0 : List O → List O → Option (List O × O)
  | x :: xs, [.v (.int 0)] => some (xs, x)
  | _, _ => none
def uRev : List O → List O → Option (List O × O)
  | xs, [] => some (xs.reverse, .v .none)
  | _, _ => none
def uClear : List O → List O → Option (List O × O)
  | _, [] => some ([], .v .none)
  | _, _ => none
theorem up_app : Up K uApp rAppend := fun B F H σ e G ws i sl xs xs' y Q v0 s hi ho hf hv k => by
  unfold uApp at hf
  split at hf
  · rename_i z hw
    split at hf
    · rename_i hl
      cases hf
      obtain ⟨u, rfl⟩ := ws1 hw
      obtain ⟨p, w, hv', hp, rfl, q⟩ := s.put hi ho
      rw [hv] at hv'
      cases hv'
      rw [List.length_map] at hl
      have s1 := q (w ++ [(u, z)]) G (by rw [List.append_assoc])
      rw [List.map_append, List.map_append] at s1
      exact ⟨p, _, u, rfl, rfl, hp, by rw [List.length_map]; exact hl, k F _ .non (s1.push .non)⟩
    · cases hf
  · cases hf
theorem up_ext : Up K uExt rExtend := fun B F H σ e G ws i sl xs xs' y Q v0 s hi ho hf hv k => by
  unfold uExt at hf
  split at hf
  · rename_i z hw
    split at hf
    · rename_i ys hy
      split at hf
      · rename_i hl
        cases hf
        obtain ⟨u, rfl⟩ := ws1 hw
        obtain ⟨b, w2, F2, rfl, e1, e2, e3, s2⟩ := Sta.openL (G := G) s hy
        obtain ⟨p, w, hv', hp, rfl, q⟩ := s2.put hi ho
        rw [hv] at hv'
        cases hv'
        subst e2
        rw [List.length_map, List.length_map] at hl
        have s1 := q (w ++ w2) G (by rw [List.append_assoc])
        rw [List.map_append, List.map_append] at s1
        exact ⟨p, b, _, _, rfl, rfl, hp, s2.fh _ _ e1, by rw [List.length_map, List.length_map]; exact hl, k F2 _ .non (s1.push .non)⟩
      · cases hf
    · cases hf
  · cases hf
theorem up_rev : Up K uRev rReverse := fun B F H σ e G ws i sl xs xs' y Q v0 s hi ho hf hv k => by
  unfold uRev at hf
  split at hf
  · rename_i hw
    cases hf
    have : ws = [] := List.map_eq_nil_iff.mp hw
    subst this
    obtain ⟨p, w, hv', hp, rfl, q⟩ := s.put hi ho
    rw [hv] at hv'
    cases hv'
    have s1 := q w.reverse G ((List.reverse_perm w).symm.append_right _)
    rw [List.map_reverse, List.map_reverse] at s1
    exact ⟨p, _, rfl, rfl, hp, k F _ .non (s1.push .non)⟩
  · cases hf
theorem up_clear : Up K uClear rClear := fun B F H σ e G ws i sl xs xs' y Q v0 s hi ho hf hv k => by
  unfold uClear at hf
  split at hf
  · rename_i hw
    cases hf
    have : ws = [] := List.map_eq_nil_iff.mp hw
    subst this
    obtain ⟨p, w, hv', hp, rfl, q⟩ := s.put hi ho
    rw [hv] at hv'
    cases hv'
    have s1 := q [] (w ++ G) (.refl _)
    have s2 : Sta K B F _ σ _ G := ⟨s1.ok, (s1.rel.perm (pmid _ _ _)).drop⟩
    exact ⟨p, _, rfl, rfl, hp, k F _ .non (s2.push .non)⟩
  · cases hf
theorem up_pop : Up K uPop rPop := fun B F H σ e G ws i sl xs xs' y Q v0 s hi ho hf hv k => by
  unfold uPop at hf
  split at hf
  · rename_i hw
    split at hf
    · rename_i z hz
      cases hf
      have : ws = [] := List.map_eq_nil_iff.mp hw
      subst this
      obtain ⟨p, w, hv', hp, rfl, q⟩ := s.put hi ho
      rw [hv] at hv'
      cases hv'
      rw [List.length_map, List.getElem?_map] at hz
      obtain ⟨u, h1, h2⟩ := Option.map_eq_some_iff.mp hz
      have hw2 : w = w.dropLast ++ [u] := by
        have hne : w ≠ [] := fun z => by rw [z] at h1; simp at h1
        have := List.dropLast_concat_getLast hne
        rw [List.getLast_eq_getElem] at this
        have hl : w.length - 1 < w.length := by
          have : 0 < w.length := List.length_pos_iff.mpr hne
          omega
        rw [List.getElem?_eq_getElem hl] at h1
        rw [Option.some.inj h1] at this
        exact this.symm
      have s1 := q w.dropLast (u :: G) (by
        conv => lhs; rw [hw2]
        rw [List.append_assoc]
        exact .refl _)
      rw [List.map_dropLast, List.map_dropLast] at s1
      obtain ⟨u1, u2⟩ := u
      cases h2
      refine ⟨p, _, u1, rfl, rfl, hp, ?_, k F _ u1 s1⟩
      rw [List.length_map, List.getElem?_map, h1]
      rfl
    · cases hf
  · cases hf
theorem up_pop0 : Up K uPop0 rPopAt := fun B F H σ e G ws i sl xs xs' y Q v0 s hi ho hf hv k => by
  unfold uPop0 at hf
  split at hf
  · rename_i x xs'' hw
    cases hf
    obtain ⟨u, rfl⟩ := ws1 hw
    obtain ⟨T, r⟩ := s.at
    obtain rfl := rp_int r
    have s0 : Sta K B F H σ e G := s.pop
    obtain ⟨p, w, hv', hp, hw2, q⟩ := s0.put hi ho
    rw [hv] at hv'
    cases hv'
    match w, hw2 with
    | (a, b) :: w, hw2 =>
      simp only [List.map_cons, List.cons.injEq] at hw2
      obtain ⟨rfl, rfl⟩ := hw2
      have s1 := q w ((a, b) :: G) (by
        rw [List.cons_append]
        exact (mid _ _ _).symm)
      exact ⟨p, _, 0, 0, a, rfl, rfl, hp, by decide, by decide, by simp [seqIndex?], rfl, k F _ a s1⟩
  · cases hf
theorem mUp_den {p : Bool} {i : Nat} {ms : MD (List O)} {f : List O → List O → Option (List O × O)} {r : V → List V → Hp → VK → Prop} {t : TA} (hr : Up K f r) (hl : AS K p ms t) : ∀ σ H Q, den K false (mUp i ms f) σ H Q → tBM K "list" r (tVar i) t σ H Q := fun σ H Q ⟨B, F, e, G, y, e', s, hm, k⟩ => by
  unfold mUp at hm
  split at hm
  · rename_i os h0
    split at hm
    · rename_i ys e1 h1
      obtain ⟨sl0, hi0, ho0⟩ := Option.bind_eq_some_iff.mp h0
      obtain ⟨v, hv, T, rv⟩ := s.seeO hi0 ho0
      have ty : tyV K "list" v H := by
        cases rv with
        | l hp _ _ _ => exact .inl ⟨rfl, _, .of hp⟩
      refine ⟨v, hv, ty, hl σ H _ ⟨B, F, e, G, ys, e1, s, h1, fun F1 H1 ws s1 r1 sm1 => ?_⟩⟩
      subst r1
      split at hm
      · rename_i xs hx
        split at hm
        · rename_i xs' z hz
          obtain ⟨rfl, rfl⟩ := so hm
          exact hr B F1 H1 σ e1 G ws i _ xs xs' z Q v s1 hx rfl hz hv fun F2 H2 v2 s2 => k F2 H2 v2 s2 fun z => nomatch z
        · cases hm
      · rename_i xs hx
        split at hm
        · rename_i xs' z hz
          obtain ⟨rfl, rfl⟩ := so hm
          exact hr B F1 H1 σ e1 G ws i _ xs xs' z Q v s1 hx rfl hz hv fun F2 H2 v2 s2 => k F2 H2 v2 s2 fun z => nomatch z
        · cases hm
      · cases hm
    · cases hm
  · cases hm
theorem d_up {i : Nat} {p : Bool} {x : Expr} {ex : Expr} {es : List Expr} {ms : MD (List O)} {f : List O → List O → Option (List O × O)} {r : V → List V → Hp → VK → Prop} {name : Str} {id : String} {apos cpos : Pos} (slot : Slot "list" name id) (hty : typeOf (.builtin id) = pure (.type "method_descriptor")) (hm : MtR X id r) (hr : Up X.K f r)
    (ho : PE X x (tVar i)) (ha : PA X (ex :: es) (denA X.K p ms)) (hbase : attributeBase x name X.env (eval x X.env) = eval x X.env := by rfl)
    (hfew : ((backTo cpos (starEach (ex :: es) X.env)).all (fun x => !x.1) && (backToKw cpos (keywordEach [] X.env)).all (fun x => x.1.isSome)
      && decide ((ex :: es).length + ([] : List Keyword).length + (if ([] : List Keyword).isEmpty then 0 else 1) < 30)) = true := by rfl)
    (hline : (apos.endLine == cpos.line) = true := by rfl) (hs : starEach (ex :: es) X.env = (false, eval ex X.env) :: starEach es X.env := by rfl) (hplain : (backTo cpos (starEach es X.env)).any (·.1) = false := by rfl) :
    PE X (.Call (.Attribute x name apos) (ex :: es) [] cpos) (den X.K false (mUp i ms f)) :=
  pe_imp (pe_bm PySem.F.plainAttrs_list slot hty hm ho ha hbase hfew hline hs hplain) (mUp_den hr fun _ _ _ h => h)
theorem d_up0 {i : Nat} {x : Expr} {f : List O → List O → Option (List O × O)} {r : V → List V → Hp → VK → Prop} {name : Str} {id : String} {apos cpos : Pos} (slot : Slot "list" name id) (hty : typeOf (.builtin id) = pure (.type "method_descriptor")) (hm : MtR X id r) (hr : Up X.K f r)
    (ho : PE X x (tVar i)) (hbase : attributeBase x name X.env (eval x X.env) = eval x X.env := by rfl) (hline : (apos.endLine == cpos.line) = true := by rfl) :
    PE X (.Call (.Attribute x name apos) [] [] cpos) (den X.K false (mUp i aNil f)) :=
  pe_imp (pe_bm0 PySem.F.plainAttrs_list slot hty hm ho hbase hline) fun σ H Q h => mUp_den (t := tNil) hr as_nil σ H Q h
/-- xs[k] = e, xs a slot's list -/
def mSetI (i : Nat) (mv mk : MD O) : MS := fun e => match mv e with
  | some (y, e1) => (match bVar i e1 with
    | some (.l _) => (match mk e1 with
      | some (.v (.int k), e2) => (match e2[i]? with
        | some (.own (.l xs)) => (match ixN xs.length k with
          | some j => some (.nx (e2.set i (.own (.l (xs.set j y)))))
          | none => none)
        | some (.pin (.l xs)) => (match ixN xs.length k with
          | some j => some (.nx (e2.set i (.pin (.l (xs.set j y)))))
          | none => none)
        | _ => none)
      | _ => none)
    | _ => none)
  | none => none
theorem set_perm {α : Type} {w : List α} {j : Nat} {a b : α} {G : List α} (h : w[j]? = some a) : (w ++ (b :: G)).Perm (w.set j b ++ (a :: G)) := by
  have hj := (List.getElem?_eq_some_iff.mp h).1
  have e1 : w = w.take j ++ a :: w.drop (j + 1) := by
    have := List.take_append_drop j w
    rw [List.drop_eq_getElem_cons hj] at this
    rw [(List.getElem?_eq_some_iff.mp h).2] at this
    exact this.symm
  have e2 : w.set j b = w.take j ++ b :: w.drop (j + 1) := by
    rw [List.set_eq_take_append_cons_drop, if_pos hj]
  rw [e2]
  conv => lhs; rw [e1]
  rw [List.append_assoc, List.append_assoc, List.cons_append, List.cons_append]
  refine List.Perm.append_left _ ?_
  refine ((mid b _ G).cons a).trans ?_
  refine (List.Perm.swap _ _ _).trans ?_
  exact ((mid a _ G).symm).cons b
theorem setI_run {B : Bs} {F H : Hp} {σ : St} {e : En} {G : Ws} {i j : Nat} {sl : Sl} {xs : List O} {v v0 : V} {y : O} {k : Int} {Q : Hp → Prop} (s : Sta K B F H σ e ((v, y) :: G)) (hi : e[i]? = some sl) (ho : sl.o? = some (.l xs)) (hk : ixN xs.length k = some j) (hv : σ[i]? = some (some v0))
    (q : ∀ H', Sta K B F H' σ (e.set i (sl.like (.l (xs.set j y)))) G → Q H') : rSetL v0 (.int k) v H Q := by
  obtain ⟨p, w, hv', hp, rfl, q'⟩ := s.put hi ho
  rw [hv] at hv'
  cases hv'
  rw [List.length_map] at hk
  have hj : j < w.length := by
    unfold ixN at hk
    split at hk
    · split at hk
      · cases hk; omega
      · cases hk
    · split at hk
      · cases hk; omega
      · cases hk
  have s1 := q' (w.set j (v, y)) (w[j] :: G) (set_perm (List.getElem?_eq_getElem hj))
  have s2 := s1.pop
  rw [List.map_set, List.map_set] at s2
  exact ⟨p, _, k, j, rfl, rfl, hp, by rw [List.length_map]; exact hk, q _ s2⟩
theorem ds_setI {i : Nat} {x ek ev : Expr} {p q : Bool} {mv mk : MD O} {pos spos : Pos} (hv : PE X ev (den X.K p mv)) (ho : PE X x (tVar i)) (hk : PE X ek (den X.K q mk))
    (ha : ∀ v, assign (.Subscript x ek spos) X.env v = (do
      let ov ← holding [v] (eval x X.env)
      let iv ← holding [v, ov] (eval ek X.env)
      standAt spos
      holding [v, ov, iv] (setItem ov iv v)
      release [v, ov, iv] []) := by intro _; rfl) (hs : swapsWithSole [.Subscript x ek spos] ev pos.line X.env = pure false := by rfl) (hw : swappedStores [.Subscript x ek spos] ev X.env = pure none := by rfl)
    (h1 : (assignEach [.Subscript x ek spos] X.env).map (·.2) = [assign (.Subscript x ek spos) X.env] := by rfl) :
    PS X (.Assign [.Subscript x ek spos] ev pos) (denS X.K (mSetI i mv mk)) := ps_imp (ps_asg hv (pg_sub ho hk set_list ha) hs hw h1) fun D σ H ⟨B, F, e, G, oc, s, hm, k⟩ => by
  unfold mSetI at hm
  split at hm
  · rename_i y e1 h1
    split at hm
    · rename_i os h0
      split at hm
      · rename_i z e2 h2
        refine ⟨B, F, e, G, y, e1, s, h1, fun F1 H1 v s1 _ => ?_⟩
        obtain ⟨sl0, hi0, ho0⟩ := Option.bind_eq_some_iff.mp h0
        obtain ⟨v0, hv0, _⟩ := s1.seeO hi0 ho0
        refine ⟨v0, hv0, ⟨B, F1, e1, _, _, e2, s1, h2, fun F2 H2 v2 s2 _ => ?_⟩⟩
        obtain ⟨T, r⟩ := s2.at
        obtain rfl := rp_int r
        split at hm
        · rename_i xs hx
          split at hm
          · rename_i j hj
            cases hm
            exact setI_run s2.pop hx rfl hj hv0 fun H' s3 => k F2 H' σ s3
          · cases hm
        · rename_i xs hx
          split at hm
          · rename_i j hj
            cases hm
            exact setI_run s2.pop hx rfl hj hv0 fun H' s3 => k F2 H' σ s3
          · cases hm
        · cases hm
      · cases hm
    · cases hm
  · cases hm

/-! ### statements -/
def setE (e : En) (i : Nat) (x : O) : Option En := match e[i]? with
  | some .no => some (e.set i (.own x))
  | some (.own _) => some (e.set i (.own x))
  | _ => none
theorem setE_store {B : Bs} {F H : Hp} {σ : St} {e e' : En} {G : Ws} {i : Nat} {v : V} {x : O} (s : Sta K B F H σ e ((v, x) :: G)) (h : setE e i x = some e') : Sta K B F H (σ.set i (some v)) e' G := by
  unfold setE at h
  split at h
  · rename_i hi
    cases h
    exact s.store (List.getElem?_eq_some_iff.mp hi).1
  · rename_i hi
    cases h
    exact s.store (List.getElem?_eq_some_iff.mp hi).1
  · cases h
def mSet (i : Nat) (m : MD O) : MS := fun e => match m e with
  | some (x, e1) => (match setE e1 i x with
    | some e2 => some (.nx e2)
    | none => none)
  | none => none
theorem mSet_den {i : Nat} {p : Bool} {m : MD O} {t : TE} (h : ∀ σ H Q, den K p m σ H Q → t σ H Q) : ∀ D σ H, denS K (mSet i m) D σ H → tAsg t (gName i) D σ H := fun D σ H ⟨B, F, e, G, oc, s, hm, k⟩ => by
  unfold mSet at hm
  split at hm
  · rename_i x e1 h1
    split at hm
    · rename_i e2 h2
      cases hm
      exact h σ H _ ⟨B, F, e, G, x, e1, s, h1, fun F1 H1 v s1 _ => k F1 H1 _ (setE_store s1 h2)⟩
    · cases hm
  · cases hm
theorem ds_set {i : Nat} {x : Str} {e : Expr} {p : Bool} {m : MD O} {pos pos' : Pos} (hN : X.N.Nodup) (hi : X.N[i]? = some x) (hx : Loc X.env.scope x) (he : PE X e (den X.K p m)) (hs : swapsWith e (some (.Name x pos')) pos.line X.env = pure false := by rfl) (hf : X.fn x = true ∨ X.env.scope.names.lookup x = some .local := by first | exact .inl rfl | exact .inr rfl | assumption) :
    PS X (.Assign [.Name x pos'] e pos) (denS X.K (mSet i m)) := ps_imp (ps_set hN hi hx he hs hf) (mSet_den fun _ _ _ h => h)
def mDrop (m : MD O) : MS := fun e => match m e with
  | some (_, e1) => some (.nx e1)
  | none => none
theorem ds_expr {e : Expr} {p : Bool} {m : MD O} {pos : Pos} (he : PE X e (den X.K p m)) (hs : swapsWith e none pos.line X.env = pure false := by rfl) : PS X (.Expr e pos) (denS X.K (mDrop m)) := ps_imp (ps_expr he hs) fun D σ H ⟨B, F, e, G, oc, s, hm, k⟩ => by
  unfold mDrop at hm
  split at hm
  · rename_i x e1 h1
    cases hm
    exact ⟨B, F, e, G, x, e1, s, h1, fun F1 H1 v s1 _ => k F1 H1 σ s1.pop⟩
  · cases hm
def mRet (m : MD O) : MS := fun e => match m e with
  | some (x, e1) => some (.rt x e1)
  | none => none
theorem ds_ret {e : Expr} {p : Bool} {m : MD O} {pos : Pos} (he : PE X e (den X.K p m)) : PS X (.Return (some e) pos) (denS X.K (mRet m)) := ps_imp (ps_ret he) fun D σ H ⟨B, F, e, G, oc, s, hm, k⟩ => by
  unfold mRet at hm
  split at hm
  · rename_i x e1 h1
    cases hm
    exact ⟨B, F, e, G, x, e1, s, h1, fun F1 H1 v s1 _ => k F1 H1 σ v s1⟩
  · cases hm
def mRetN : MS := fun e => some (.rt (.v .none) e)
theorem ds_retN {pos : Pos} : PS X (.Return none pos) (denS X.K mRetN) := ps_imp ps_retN fun D σ H ⟨B, F, e, G, oc, s, hm, k⟩ => by
  cases hm
  exact k F H σ .non (s.push .non)
def mIf (c : MD Bool) (t u : MS) : MS := fun e => match c e with
  | some (true, e1) => t e1
  | some (false, e1) => u e1
  | none => none
theorem ds_if {c : Expr} {a b : List Stmt} {p : Bool} {mc : MD Bool} {t u : MS} {pos : Pos} (hc : PT X c (denT X.K p mc)) (ha : PSs X a (denS X.K t)) (hb : PSs X b (denS X.K u)) : PS X (.If c a b pos) (denS X.K (mIf mc t u)) := ps_imp (ps_if hc ha hb) fun D σ H ⟨B, F, e, G, oc, s, hm, k⟩ => by
  unfold mIf at hm
  split at hm
  · rename_i e1 h1
    exact ⟨B, F, e, G, true, e1, s, h1, fun F1 H1 s1 _ => iteT ⟨B, F1, e1, G, oc, s1, hm, k⟩⟩
  · rename_i e1 h1
    exact ⟨B, F, e, G, false, e1, s, h1, fun F1 H1 s1 _ => iteF ⟨B, F1, e1, G, oc, s1, hm, k⟩⟩
  · cases hm
def mNil : MS := fun e => some (.nx e)
theorem dss_nil : PSs X [] (denS X.K mNil) := pss_imp pss_nil fun D σ H ⟨B, F, e, G, oc, s, hm, k⟩ => by
  cases hm
  exact k F H σ s
def mSeq (a b : MS) : MS := fun e => match a e with
  | some (.nx e1) => b e1
  | r => r
theorem dss_cons {st : Stmt} {rest : List Stmt} {t u : MS} (h1 : PS X st (denS X.K t)) (h2 : PSs X rest (denS X.K u)) : PSs X (st :: rest) (denS X.K (mSeq t u)) := pss_imp (pss_cons h1 h2) fun D σ H ⟨B, F, e, G, oc, s, hm, k⟩ => by
  unfold mSeq at hm
  split at hm
  · rename_i e1 h1
    exact ⟨B, F, e, G, _, s, h1, fun F1 H1 σ1 s1 => ⟨B, F1, e1, G, oc, s1, hm, k⟩⟩
  · rename_i hn
    refine ⟨B, F, e, G, oc, s, hm, ?_⟩
    cases oc with
    | nx e1 => exact absurd hm (hn e1)
    | rt x e1 => exact k
    | bk e1 => exact k
    | ct e1 => exact k
theorem dss_one {st : Stmt} {t : MS} (h1 : PS X st (denS X.K t)) : PSs X [st] (denS X.K (mSeq t mNil)) := dss_cons h1 dss_nil
theorem ds_pass {pos : Pos} : PS X (.Pass pos) (denS X.K mNil) := ps_imp ps_pass fun D σ H ⟨B, F, e, G, oc, s, hm, k⟩ => by
  cases hm
  exact k F H σ s
def mNo : MS := fun _ => none
theorem ds_never {st : Stmt} : PS X st (denS X.K mNo) := ps_imp ps_never fun D σ H ⟨B, F, e, G, oc, s, hm, k⟩ => by cases hm
/-! ### tests -/
def tAndM (a b : MD Bool) : MD Bool := fun e => match a e with
  | some (true, e1) => b e1
  | r => r
def tOrM (a b : MD Bool) : MD Bool := fun e => match a e with
  | some (false, e1) => b e1
  | r => r
def tNotM (a : MD Bool) : MD Bool := fun e => match a e with
  | some (b, e1) => some (!b, e1)
  | none => none
theorem band1 {p q : Bool} (h : (p && q) = true) : p = true := by cases p <;> simp_all
theorem band2 {p q : Bool} (h : (p && q) = true) : q = true := by cases p <;> simp_all
variable {a b : Expr} {rest : List Expr} {p q : Bool} {ma mb : MD Bool} {pos : Pos}
theorem dw_and (ha : PT X a (denT X.K p ma)) (hb : PW X (.BoolOp .And (b :: rest) pos) (denT X.K q mb)) : PW X (.BoolOp .And (a :: b :: rest) pos) (denT X.K (p && q) (tAndM ma mb)) := pw_imp (pw_and ha hb) fun σ H Q ⟨B, F, e, G, x, e', s, hm, k⟩ => by
  unfold tAndM at hm
  split at hm
  · rename_i e1 h1
    exact ⟨B, F, e, G, true, e1, s, h1, fun F1 H1 s1 sm1 => iteT ⟨B, F1, e1, G, x, e', s1, hm, fun F2 H2 s2 sm2 => k F2 H2 s2 fun z => (sm1 (band1 z)).trans (sm2 (band2 z))⟩⟩
  · rename_i r hn
    cases x with
    | true => exact absurd hm (hn e')
    | false => exact ⟨B, F, e, G, false, e', s, hm, fun F1 H1 s1 sm1 => iteF (k F1 H1 s1 fun z => sm1 (band1 z))⟩
theorem dw_and1 (ha : PT X a (denT X.K p ma)) : PW X (.BoolOp .And [a] pos) (denT X.K p ma) := pw_and1 ha
theorem dw_or (ha : PT X a (denT X.K p ma)) (hb : PW X (.BoolOp .Or (b :: rest) pos) (denT X.K q mb)) : PW X (.BoolOp .Or (a :: b :: rest) pos) (denT X.K (p && q) (tOrM ma mb)) := pw_imp (pw_or ha hb) fun σ H Q ⟨B, F, e, G, x, e', s, hm, k⟩ => by
  unfold tOrM at hm
  split at hm
  · rename_i e1 h1
    exact ⟨B, F, e, G, false, e1, s, h1, fun F1 H1 s1 sm1 => iteF ⟨B, F1, e1, G, x, e', s1, hm, fun F2 H2 s2 sm2 => k F2 H2 s2 fun z => (sm1 (band1 z)).trans (sm2 (band2 z))⟩⟩
  · rename_i r hn
    cases x with
    | false => exact absurd hm (hn e')
    | true => exact ⟨B, F, e, G, true, e', s, hm, fun F1 H1 s1 sm1 => iteT (k F1 H1 s1 fun z => sm1 (band1 z))⟩
theorem dw_or1 (ha : PT X a (denT X.K p ma)) : PW X (.BoolOp .Or [a] pos) (denT X.K p ma) := pw_or1 ha
theorem dt_not (ha : PT X a (denT X.K p ma)) : PT X (.UnaryOp .Not a pos) (denT X.K p (tNotM ma)) := pt_imp (pt_not ha) fun σ H Q ⟨B, F, e, G, x, e', s, hm, k⟩ => by
  unfold tNotM at hm
  split at hm
  · rename_i c e1 h1
    obtain ⟨rfl, rfl⟩ := so hm
    exact ⟨B, F, e, G, c, e1, s, h1, fun F1 H1 s1 sm => k F1 H1 s1 sm⟩
  · cases hm
/-- .. as values -/
def vAnd (a b : MD O) : MD O := fun e => match a e with
  | some (.v (.bool true), e1) => b e1
  | some (.v (.bool false), e1) => some (.v (.bool false), e1)
  | _ => none
def vOr (a b : MD O) : MD O := fun e => match a e with
  | some (.v (.bool false), e1) => b e1
  | some (.v (.bool true), e1) => some (.v (.bool true), e1)
  | _ => none
def vNot (a : MD O) : MD O := fun e => match a e with
  | some (.v (.bool b), e1) => some (.v (.bool (!b)), e1)
  | _ => none
theorem sta_bool {B : Bs} {F H : Hp} {σ : St} {e : En} {G : Ws} {v : V} {c : Bool} (s : Sta K B F H σ e ((v, .v (.bool c)) :: G)) : v = .bl c := by
  obtain ⟨T, r⟩ := s.at
  exact df_bool (rp_v r)
variable {na nb : MD O}
theorem d_and (ha : PE X a (den X.K p na)) (hb : PE X (.BoolOp .And (b :: rest) pos) (den X.K q nb)) : PE X (.BoolOp .And (a :: b :: rest) pos) (den X.K (p && q) (vAnd na nb)) := pe_imp (pe_and ha hb) fun σ H Q ⟨B, F, e, G, x, e', s, hm, k⟩ => by
  unfold vAnd at hm
  split at hm
  · rename_i e1 h1
    refine ⟨B, F, e, G, _, e1, s, h1, fun F1 H1 v s1 sm1 => ⟨true, sta_bool s1, iteT ⟨B, F1, e1, G, x, e', s1.pop, hm, fun F2 H2 v2 s2 sm2 => k F2 H2 v2 s2 fun z => (sm1 (band1 z)).trans (sm2 (band2 z))⟩⟩⟩
  · rename_i e1 h1
    obtain ⟨rfl, rfl⟩ := so hm
    refine ⟨B, F, e, G, _, e1, s, h1, fun F1 H1 v s1 sm1 => ⟨false, sta_bool s1, iteF (k F1 H1 _ (s1.pop.push (.bl false)) fun z => sm1 (band1 z))⟩⟩
  · cases hm
theorem d_or (ha : PE X a (den X.K p na)) (hb : PE X (.BoolOp .Or (b :: rest) pos) (den X.K q nb)) : PE X (.BoolOp .Or (a :: b :: rest) pos) (den X.K (p && q) (vOr na nb)) := pe_imp (pe_or ha hb) fun σ H Q ⟨B, F, e, G, x, e', s, hm, k⟩ => by
  unfold vOr at hm
  split at hm
  · rename_i e1 h1
    refine ⟨B, F, e, G, _, e1, s, h1, fun F1 H1 v s1 sm1 => ⟨false, sta_bool s1, iteF ⟨B, F1, e1, G, x, e', s1.pop, hm, fun F2 H2 v2 s2 sm2 => k F2 H2 v2 s2 fun z => (sm1 (band1 z)).trans (sm2 (band2 z))⟩⟩⟩
  · rename_i e1 h1
    obtain ⟨rfl, rfl⟩ := so hm
    refine ⟨B, F, e, G, _, e1, s, h1, fun F1 H1 v s1 sm1 => ⟨true, sta_bool s1, iteT (k F1 H1 _ (s1.pop.push (.bl true)) fun z => sm1 (band1 z))⟩⟩
  · cases hm
theorem d_one {op} (h : PE X a (den X.K p na)) : PE X (.BoolOp op [a] pos) (den X.K p na) := pe_one h
theorem d_not (ha : PE X a (den X.K p na)) : PE X (.UnaryOp .Not a pos) (den X.K p (vNot na)) := pe_imp (pe_not ha) fun σ H Q ⟨B, F, e, G, x, e', s, hm, k⟩ => by
  unfold vNot at hm
  split at hm
  · rename_i c e1 h1
    obtain ⟨rfl, rfl⟩ := so hm
    exact ⟨B, F, e, G, _, e1, s, h1, fun F1 H1 v s1 sm => ⟨c, sta_bool s1, k F1 H1 _ (s1.pop.push (.bl _)) sm⟩⟩
  · cases hm
end
end Dn

set_option Elab.async false
set_option linter.all false
set_option maxRecDepth 100000
set_option maxHeartbeats 4000000
namespace Dn
open PySem L2

/-! ### targets -/
inductive Tg where
  | n (i : Nat)
  | tp (ts : List Tg)
mutual
def Tg.rd (K : PySem.W.Frag) : Tg → TG
  | .n i => gName i
  | .tp ts => gTup K ts.length (Tg.rds K ts)
def Tg.rds (K : PySem.W.Frag) : List Tg → TGs
  | [] => gNil
  | g :: ts => gCons (Tg.rd K g) (Tg.rds K ts)
end
mutual
def asg : Tg → O → En → Option En
  | .n i, x, e => setE e i x
  | .tp ts, x, e => (match x.tparts with
    | some xs => asgs ts xs e
    | none => none)
def asgs : List Tg → List O → En → Option En
  | [], [], e => some e
  | g :: ts, x :: xs, e => (match asg g x e with
    | some e1 => asgs ts xs e1
    | none => none)
  | _, _, _ => none
end
mutual
def Tg.in (vs : List Nat) : Tg → Bool
  | .n i => vs.contains i
  | .tp ts => Tg.ins vs ts
def Tg.ins (vs : List Nat) : List Tg → Bool
  | [] => true
  | g :: ts => Tg.in vs g && Tg.ins vs ts
end
theorem wipe_get {σ : St} {j : Nat} : ∀ {vs : List Nat}, (wipe σ vs)[j]? = if j ∈ vs then (σ[j]?).map (fun _ => none) else σ[j]?
  | [] => by simp [wipe]
  | v :: vs => by
    unfold wipe
    by_cases h : v = j
    · subst h
      rw [if_pos (List.mem_cons_self ..)]
      by_cases hv : v < σ.length
      · rw [List.getElem?_set_self (by rw [wipe_length]; exact hv), List.getElem?_eq_getElem hv]
        rfl
      · rw [List.getElem?_eq_none (by rw [List.length_set, wipe_length]; omega), List.getElem?_eq_none (by omega)]
        rfl
    · rw [List.getElem?_set_ne h, wipe_get]
      by_cases h2 : j ∈ vs
      · rw [if_pos h2, if_pos (List.mem_cons_of_mem _ h2)]
      · rw [if_neg h2, if_neg (by simp only [List.mem_cons, not_or]; exact ⟨fun z => h z.symm, h2⟩)]
theorem wipe_set {σ : St} {i : Nat} {x : Option V} {vs : List Nat} (h : i ∈ vs) : wipe (σ.set i x) vs = wipe σ vs := by
  apply List.ext_getElem?
  intro j
  rw [wipe_get, wipe_get]
  by_cases hj : i = j
  · subst hj
    rw [if_pos h, if_pos h]
    by_cases hv : i < σ.length
    · rw [List.getElem?_set_self hv, List.getElem?_eq_getElem hv]; rfl
    · rw [List.getElem?_eq_none (by rw [List.length_set]; omega), List.getElem?_eq_none (by omega)]
  · rw [List.getElem?_set_ne hj]
section
variable {K : PySem.W.Frag} {B : Bs}
mutual
theorem asg_run {vs : List Nat} : ∀ {tg : Tg} {F H : Hp} {σ : St} {e e' : En} {G : Ws} {v : V} {x : O} {Q : St → Hp → Prop}, Sta K B F H σ e ((v, x) :: G) → asg tg x e = some e' →
    (∀ F' σ', Sta K B F' H σ' e' G → Same F F' → (tg.in vs = true → wipe σ' vs = wipe σ vs) → Q σ' H) → tg.rd K v σ H Q
  | .n i, F, H, σ, e, e', G, v, x, Q, s, h, k => by
    unfold Tg.rd
    unfold asg at h
    exact k F _ (setE_store s h) (.refl _) fun z => wipe_set (by unfold Tg.in at z; exact List.contains_iff_mem.mp z)
  | .tp ts, F, H, σ, e, e', G, v, x, Q, s, h, k => by
    unfold Tg.rd
    unfold asg at h
    split at h
    · rename_i xs hx
      obtain ⟨p, w, F1, rfl, e1, e2, e3, s1⟩ := s.openT hx
      subst e2
      have hl := asgs_len h
      rw [List.length_map] at hl
      refine ⟨p, _, rfl, .of (s1.fh _ _ e1), by rw [List.length_map]; exact hl.symm, ?_⟩
      exact asgs_run (vs := vs) s1 h fun F' σ' s' sm z => k F' σ' s' (e3.trans sm) fun y => z (by unfold Tg.in at y; exact y)
    · cases h
theorem asgs_len : ∀ {ts : List Tg} {xs : List O} {e e' : En}, asgs ts xs e = some e' → ts.length = xs.length
  | [], [], _, _, _ => rfl
  | t :: ts, x :: xs, e, e', h => by
    unfold asgs at h
    split at h
    · rw [List.length_cons, List.length_cons, asgs_len h]
    · cases h
  | [], _ :: _, _, _, h => by unfold asgs at h; cases h
  | _ :: _, [], _, _, h => by unfold asgs at h; cases h
theorem asgs_run {vs : List Nat} : ∀ {ts : List Tg} {F H : Hp} {σ : St} {e e' : En} {G w : Ws} {Q : St → Hp → Prop}, Sta K B F H σ e (w ++ G) → asgs ts (w.map (·.2)) e = some e' →
    (∀ F' σ', Sta K B F' H σ' e' G → Same F F' → (Tg.ins vs ts = true → wipe σ' vs = wipe σ vs) → Q σ' H) → Tg.rds K ts (w.map (·.1)) σ H Q
  | [], F, H, σ, e, e', G, [], Q, s, h, k => by
    unfold Tg.rds
    unfold asgs at h
    cases h
    exact ⟨rfl, k F σ s (.refl _) fun _ => rfl⟩
  | t :: ts, F, H, σ, e, e', G, (v, x) :: w, Q, s, h, k => by
    unfold Tg.rds
    simp only [List.map_cons] at h ⊢
    unfold asgs at h
    split at h
    · rename_i e1 h1
      refine ⟨v, _, rfl, ?_⟩
      refine asg_run (vs := vs) (G := w ++ G) s h1 fun F1 σ1 s1 sm1 z1 => ?_
      exact asgs_run (vs := vs) s1 h fun F2 σ2 s2 sm2 z2 => k F2 σ2 s2 (sm1.trans sm2) fun y => by
        unfold Tg.ins at y
        simp only [Bool.and_eq_true] at y
        rw [z2 y.2, z1 y.1]
    · cases h
  | [], _, _, _, _, _, _, _ :: _, _, _, h, _ => by unfold asgs at h; simp at h
  | _ :: _, _, _, _, _, _, _, [], _, _, h, _ => by unfold asgs at h; simp at h
end
end

/-! ### what is walked -/
inductive Im where
  | one (w : V × O)
  | tup (ws : Ws)
def Im.ws : Im → Ws
  | .one w => [w]
  | .tup ws => ws
def Im.o : Im → O
  | .one w => w.2
  | .tup ws => .t (ws.map (·.2))
def Yl (x : V) (H H3 : Hp) : Im → Prop
  | .one w => H3 = H ∧ x = w.1
  | .tup ws => ∃ T, x = .ref T ∧ H T = none ∧ H3 = upd H T (.tup (ws.map (·.1)))
abbrev Cs := List (Addr × HO)
def fxW (cs : Cs) : Ws := cs.map fun c => (.ref c.1, .fx c.2)
def ItOk (cs : Cs) (J : It) (ims : List Im) : Prop := ∀ H : Hp, (∀ c ∈ cs, H c.1 = some c.2) → (∀ i im, ims[i]? = some im → J.go i H ∧ ∀ x H3, J.yld i H x H3 → Yl x H H3 im) ∧ J.stop ims.length H
def denI (K : PySem.W.Frag) (a : Bool) (mi : MD (List O)) : TI := fun σ H R => ∃ B F e G os e', Sta K B F H σ e G ∧ mi e = some (os, e') ∧ ∀ F' H' J ims cs, Sta K B F' H' σ e' (ims.flatMap Im.ws ++ (fxW cs ++ G)) → ims.map Im.o = os → ItOk cs J ims → (a = true → Same H H') → R J H'
theorem pi_imp {X : Cx} {tg iter : Expr} {t u : TI} (h : PI X tg iter t) (k : ∀ σ H R, u σ H R → t σ H R) : PI X tg iter u := ⟨fun pins s σ H R I q => h.run pins s σ H R I (k _ _ _ q)⟩
theorem pi_or {X : Cx} {tg iter : Expr} {t u : TI} (h : PI X tg iter t) (h' : PI X tg iter u) : PI X tg iter (fun σ H R => t σ H R ∨ u σ H R) := ⟨fun pins s σ H R I q => by
  rcases q with q | q
  · exact h.run pins s σ H R I q
  · exact h'.run pins s σ H R I q⟩
theorem flat_one (w : Ws) : (w.map Im.one).flatMap Im.ws = w := by
  induction w with
  | nil => rfl
  | cons x w ih => simp only [List.map_cons, List.flatMap_cons, ih]; rfl
theorem map_one (w : Ws) : (w.map Im.one).map Im.o = w.map (·.2) := by
  rw [List.map_map]; rfl
section
variable {K : PySem.W.Frag} {X : Cx} {tg iter : Expr}
theorem Sta.drop {B : Bs} {F H : Hp} {σ : St} {e : En} {w G : Ws} (s : Sta K B F H σ e (w ++ G)) : Sta K B F H σ e G := ⟨s.ok, (s.rel.perm (pmid _ _ _)).drop⟩
theorem Sta.fix {B : Bs} {F H : Hp} {σ : St} {e : En} {w G : Ws} {a : Addr} {u : HO} (s : Sta K B F H σ e (w ++ G)) (h : F a = some u) : Sta K B F H σ e (w ++ ((.ref a, .fx u) :: G)) := by
  obtain ⟨T, rl, nd, hp⟩ := s.rel.res
  have q : Rel K B.H0 B.F0 F H ((.ref a, .fx u) :: (slots σ e ++ (w ++ G))) := ⟨s.rel.h0, s.rel.f0, s.rel.fn, s.rel.fh, T, .cons (T1 := []) (.fx h) rl, nd, hp⟩
  refine ⟨s.ok, q.perm ?_⟩
  rw [← List.append_assoc, ← List.append_assoc]
  exact (mid _ _ _).symm
theorem Sta.fixed {B : Bs} {F H : Hp} {σ : St} {e : En} {cs : Cs} {w G : Ws} (s : Sta K B F H σ e (w ++ (fxW cs ++ G))) : ∀ c ∈ cs, H c.1 = some c.2 := fun c hc => by
  have hm : (V.ref c.1, O.fx c.2) ∈ slots σ e ++ (w ++ (fxW cs ++ G)) := by
    refine List.mem_append_right _ (List.mem_append_right _ (List.mem_append_left _ ?_))
    unfold fxW
    exact List.mem_map.mpr ⟨c, hc, rfl⟩
  obtain ⟨T, r⟩ := s.rel.memAt hm
  generalize hv : V.ref c.1 = v at r
  generalize ho : O.fx c.2 = o at r
  cases r with
  | fx h => cases hv; cases ho; exact s.fh _ _ h
  | _ => cases ho
def iL (m : MD O) : MD (List O) := fun e => match m e with
  | some (x, e1) => (match x.lparts with
    | some os => some (os, e1)
    | none => (match x.tparts with
      | some os => some (os, e1)
      | none => none))
  | none => none
theorem itok_l {a : Addr} {w : Ws} : ItOk [(a, .lst (w.map (·.1)))] (Itl K a) (w.map Im.one) := fun H fh => by
  have hq : SqL K H a (w.map (·.1)) := .of (fh _ (List.mem_cons_self ..))
  refine ⟨fun i im hi => ?_, ⟨_, hq, by rw [List.length_map, List.length_map]; exact Nat.le_refl _⟩⟩
  rw [List.getElem?_map] at hi
  obtain ⟨y, h1, rfl⟩ := Option.map_eq_some_iff.mp hi
  have h2 : (w.map (·.1))[i]? = some y.1 := by rw [List.getElem?_map, h1]; rfl
  refine ⟨⟨_, y.1, hq, h2⟩, fun x H3 hy => ?_⟩
  obtain ⟨e1, e2⟩ := hy
  have := e2 _ hq
  rw [h2] at this
  exact ⟨e1, (Option.some.inj this).symm⟩
theorem itok_t {a : Addr} {w : Ws} : ItOk [(a, .tup (w.map (·.1)))] (Itt K a) (w.map Im.one) := fun H fh => by
  have hq : SqT K H a (w.map (·.1)) := .of (fh _ (List.mem_cons_self ..))
  refine ⟨fun i im hi => ?_, ⟨_, hq, by rw [List.length_map, List.length_map]; exact Nat.le_refl _⟩⟩
  rw [List.getElem?_map] at hi
  obtain ⟨y, h1, rfl⟩ := Option.map_eq_some_iff.mp hi
  have h2 : (w.map (·.1))[i]? = some y.1 := by rw [List.getElem?_map, h1]; rfl
  refine ⟨⟨_, y.1, hq, h2⟩, fun x H3 hy => ?_⟩
  obtain ⟨e1, e2⟩ := hy
  have := e2 _ hq
  rw [h2] at this
  exact ⟨e1, (Option.some.inj this).symm⟩
theorem di_list {p : Bool} {m : MD O} (h : PE X iter (den X.K p m)) : PI X tg iter (denI X.K p (iL m)) := pi_imp (pi_or (pi_list h) (pi_tup h)) fun σ H R ⟨B, F, e, G, os, e', s, hm, k⟩ => by
  unfold iL at hm
  split at hm
  · rename_i x e1 h1
    split at hm
    · rename_i xs h2
      obtain ⟨rfl, rfl⟩ := so hm
      refine .inl ⟨B, F, e, G, x, e1, s, h1, fun F1 H1 v s1 sm1 => ?_⟩
      obtain ⟨a, w, F2, rfl, e2, e3, e4, s2⟩ := s1.openL h2
      refine ⟨a, rfl, ⟨_, .of (s2.fh _ _ e2)⟩, k F2 H1 _ (w.map Im.one) [(a, .lst (w.map (·.1)))] (by rw [flat_one]; exact s2.fix e2) (by rw [map_one]; exact e3) itok_l sm1⟩
    · split at hm
      · rename_i xs h2
        obtain ⟨rfl, rfl⟩ := so hm
        refine .inr ⟨B, F, e, G, x, e1, s, h1, fun F1 H1 v s1 sm1 => ?_⟩
        obtain ⟨a, w, F2, rfl, e2, e3, e4, s2⟩ := s1.openT h2
        refine ⟨a, rfl, ⟨_, .of (s2.fh _ _ e2)⟩, k F2 H1 _ (w.map Im.one) [(a, .tup (w.map (·.1)))] (by rw [flat_one]; exact s2.fix e2) (by rw [map_one]; exact e3) itok_t sm1⟩
      · cases hm
  · cases hm
/-- the ints lo, lo + 1, .. -/
def rngO (lo : Int) (n : Nat) : List O := (List.range n).map fun (k : Nat) => .v (.int (lo + (k : Int)))
def rngW (lo : Int) (n : Nat) : Ws := (List.range n).map fun (k : Nat) => (.int (lo + (k : Int)), .v (.int (lo + (k : Int))))
theorem Sta.rng {B : Bs} {F H : Hp} {σ : St} {e : En} {G : Ws} (s : Sta K B F H σ e G) (lo : Int) (n : Nat) : Sta K B F H σ e (rngW lo n ++ G) := by
  have h := s.ints ((List.range n).map fun (k : Nat) => lo + (k : Int))
  rw [List.map_map] at h
  exact h
theorem itok_r {lo : Int} {n : Nat} : ItOk [] (Itr lo n) ((rngW lo n).map Im.one) := fun H fh => by
  have hl : ((rngW lo n).map Im.one).length = n := by rw [List.length_map]; unfold rngW; rw [List.length_map, List.length_range]
  refine ⟨fun i im hi => ?_, by rw [hl]; exact Nat.le_refl n⟩
  have hlt : i < n := by
    have := (List.getElem?_eq_some_iff.mp hi).1
    rw [hl] at this
    exact this
  unfold rngW at hi
  rw [List.getElem?_map, List.getElem?_map, List.getElem?_range hlt] at hi
  cases hi
  exact ⟨hlt, fun x H3 ⟨e1, e2⟩ => ⟨e1, e2⟩⟩
noncomputable def iR1 (ms : MD (List O)) : MD (List O) := fun e => match ms e with
  | some ([.v (.int j)], e1) => if shut (decide (-(2 ^ 62) ≤ j ∧ j < 2 ^ 62)) = true then some (rngO 0 j.toNat, e1) else none
  | _ => none
noncomputable def iR2 (ms : MD (List O)) : MD (List O) := fun e => match ms e with
  | some ([.v (.int i), .v (.int j)], e1) => if shut (decide (-(2 ^ 62) ≤ i ∧ i < 2 ^ 62 ∧ -(2 ^ 62) ≤ j ∧ j < 2 ^ 62)) = true then some (rngO i (j - i).toNat, e1) else none
  | _ => none
theorem rng_o (lo : Int) (n : Nat) : ((rngW lo n).map Im.one).map Im.o = rngO lo n := by
  rw [map_one]; unfold rngW rngO; rw [List.map_map]; rfl
theorem di_r1 {a : Expr} {p : Bool} {ms : MD (List O)} {p1 pos : Pos} (hg : Gl X "range") (hm : X.mg "range" = none) (ha : PA X [a] (denL X.K p ms)) (hs : starEach [a] X.env = [(false, eval a X.env)] := by rfl) :
    PI X tg (.Call (.Name "range" p1) [a] [] pos) (denI X.K p (iR1 ms)) := pi_imp (pi_range1 hg hm ha hs) fun σ H R ⟨B, F, e, G, os, e', s, hm, k⟩ => by
  unfold iR1 at hm
  split at hm
  · rename_i j e1 h1
    split at hm
    · rename_i hj
      rw [shut_eq, decide_eq_true_eq] at hj
      obtain ⟨rfl, rfl⟩ := so hm
      refine ⟨B, F, e, G, _, e1, s, h1, fun F1 H1 vs s1 r1 sm1 => ?_⟩
      obtain ⟨v, T, rfl, r⟩ := rpa1 r1
      obtain rfl := rp_int r
      exact ⟨j, rfl, hj.1, hj.2, k F1 H1 _ ((rngW 0 j.toNat).map Im.one) [] (by rw [flat_one]; exact s1.rng 0 _) (rng_o _ _) itok_r sm1⟩
    · cases hm
  · cases hm
theorem di_r2 {a b : Expr} {p : Bool} {ms : MD (List O)} {p1 pos : Pos} (hg : Gl X "range") (hm : X.mg "range" = none) (ha : PA X [a, b] (denL X.K p ms)) (hs : starEach [a, b] X.env = [(false, eval a X.env), (false, eval b X.env)] := by rfl) (hs2 : starEach [b] X.env = [(false, eval b X.env)] := by rfl) :
    PI X tg (.Call (.Name "range" p1) [a, b] [] pos) (denI X.K p (iR2 ms)) := pi_imp (pi_range2 hg hm ha hs hs2) fun σ H R ⟨B, F, e, G, os, e', s, hm, k⟩ => by
  unfold iR2 at hm
  split at hm
  · rename_i i j e1 h1
    split at hm
    · rename_i hj
      rw [shut_eq, decide_eq_true_eq] at hj
      obtain ⟨rfl, rfl⟩ := so hm
      refine ⟨B, F, e, G, _, e1, s, h1, fun F1 H1 vs s1 r1 sm1 => ?_⟩
      obtain ⟨v, u, T, T', rfl, r, r'⟩ := rpa2 r1
      obtain rfl := rp_int r
      obtain rfl := rp_int r'
      exact ⟨i, j, rfl, hj, k F1 H1 _ ((rngW i (j - i).toNat).map Im.one) [] (by rw [flat_one]; exact s1.rng i _) (rng_o _ _) itok_r sm1⟩
    · cases hm
  · cases hm
/-- zip of two lists -/
def zipO : List O → List O → List O
  | x :: xs, y :: ys => .t [x, y] :: zipO xs ys
  | _, _ => []
def zipI : Ws → Ws → List Im
  | x :: xs, y :: ys => .tup [x, y] :: zipI xs ys
  | _, _ => []
theorem zip_o : ∀ (a b : Ws), (zipI a b).map Im.o = zipO (a.map (·.2)) (b.map (·.2))
  | [], _ => rfl
  | _ :: _, [] => rfl
  | x :: a, y :: b => by simp only [zipI, List.map_cons, zipO, zip_o a b, Im.o, List.map_nil]
theorem zip_flat : ∀ (a b : Ws), ∃ r, (a ++ b).Perm (r ++ (zipI a b).flatMap Im.ws)
  | [], b => ⟨b, by simp [zipI]⟩
  | x :: a, [] => ⟨x :: a, by simp [zipI]⟩
  | x :: a, y :: b => by
    obtain ⟨r, h⟩ := zip_flat a b
    refine ⟨r, ?_⟩
    show (x :: (a ++ y :: b)).Perm (r ++ (x :: y :: (zipI a b).flatMap Im.ws))
    refine ((mid y a b).cons x).trans ?_
    refine ((h.cons y).cons x).trans ?_
    exact ((mid x r _).trans ((mid y r _).cons x)).symm
theorem zip_at : ∀ (a b : Ws) (i : Nat) (im : Im), (zipI a b)[i]? = some im → ∃ x y, a[i]? = some x ∧ b[i]? = some y ∧ im = .tup [x, y]
  | [], _, _, _, h => by simp [zipI] at h
  | _ :: _, [], _, _, h => by simp [zipI] at h
  | x :: a, y :: b, 0, im, h => by
    simp [zipI] at h
    exact ⟨x, y, rfl, rfl, h.symm⟩
  | x :: a, y :: b, i + 1, im, h => by
    simp [zipI] at h
    obtain ⟨x', y', h1, h2, h3⟩ := zip_at a b i im h
    exact ⟨x', y', by simpa using h1, by simpa using h2, h3⟩
theorem zip_len : ∀ (a b : Ws), a.length ≤ (zipI a b).length ∨ b.length ≤ (zipI a b).length
  | [], _ => .inl (Nat.zero_le _)
  | _ :: _, [] => .inr (Nat.zero_le _)
  | x :: a, y :: b => by
    rcases zip_len a b with h | h
    · left; simp [zipI]; exact h
    · right; simp [zipI]; exact h
theorem itok_z {a b : Addr} {w u : Ws} : ItOk [(a, .lst (w.map (·.1))), (b, .lst (u.map (·.1)))] (Itz K a b) (zipI w u) := fun H fh => by
  have hq : SqL K H a (w.map (·.1)) := .of (fh _ (List.mem_cons_self ..))
  have hq' : SqL K H b (u.map (·.1)) := .of (fh _ (List.mem_cons_of_mem _ (List.mem_cons_self ..)))
  refine ⟨fun i im hi => ?_, ⟨_, _, hq, hq', by rw [List.length_map, List.length_map]; exact zip_len w u⟩⟩
  obtain ⟨x, y, h1, h2, rfl⟩ := zip_at w u i im hi
  have g1 : (w.map (·.1))[i]? = some x.1 := by rw [List.getElem?_map, h1]; rfl
  have g2 : (u.map (·.1))[i]? = some y.1 := by rw [List.getElem?_map, h2]; rfl
  refine ⟨⟨_, _, x.1, y.1, hq, hq', g1, g2⟩, fun z H3 hy => ?_⟩
  obtain ⟨T, x', y', rfl, hT, rfl, f1, f2⟩ := hy
  have e1 := f1 _ hq
  have e2 := f2 _ hq'
  rw [g1] at e1
  rw [g2] at e2
  cases e1
  cases e2
  exact ⟨T, rfl, hT, rfl⟩
def iZ (ms : MD (List O)) : MD (List O) := fun e => match ms e with
  | some ([x, y], e1) => (match x.lparts, y.lparts with
    | some xs, some ys => some (zipO xs ys, e1)
    | _, _ => none)
  | _ => none
theorem di_zip {x y : Expr} {p : Bool} {ms : MD (List O)} {p1 pos tpos : Pos} {elts : List Expr} {kk : Nat} (hg : Gl X "zip") (hm : X.mg "zip" = none) (ha : PA X [x, y] (denA X.K p ms))
    (hs : starEach [x, y] X.env = (false, eval x X.env) :: starEach [y] X.env := by rfl) (hpl : (backTo pos (starEach [y] X.env)).any (·.1) = false := by rfl) :
    PI X (.Tuple elts kk tpos) (.Call (.Name "zip" p1) [x, y] [] pos) (denI X.K p (iZ ms)) := pi_imp (pi_zip hg hm ha hs hpl) fun σ H R ⟨B, F, e, G, os, e', s, hm, k⟩ => by
  unfold iZ at hm
  split at hm
  · rename_i a b e1 h1
    split at hm
    · rename_i xs ys h2 h3
      obtain ⟨rfl, rfl⟩ := so hm
      refine ⟨B, F, e, G, _, e1, s, h1, fun F1 H1 ws s1 r1 sm1 => ?_⟩
      obtain ⟨v, u, rfl⟩ := ws2 r1
      obtain ⟨p, w1, F2, rfl, g1, g2, g3, s2⟩ := Sta.openL (G := (u, b) :: G) s1 h2
      obtain ⟨q, w2, F3, rfl, g1', g2', g3', s3⟩ := Sta.openL (s2.perm (mid _ _ _)) h3
      obtain ⟨r, pr⟩ := zip_flat w1 w2
      have s4 : Sta X.K B F3 H1 σ e1 (r ++ ((zipI w1 w2).flatMap Im.ws ++ G)) := s3.perm (by
        have q1 : (w2 ++ (w1 ++ G)).Perm ((w1 ++ w2) ++ G) := by
          rw [← List.append_assoc]
          exact List.perm_append_comm.append_right G
        have q2 := pr.append_right G
        rw [List.append_assoc r] at q2
        exact q1.trans q2)
      refine ⟨p, q, _, _, rfl, .of (s3.fh _ _ (g3' _ _ g1)), .of (s3.fh _ _ g1'), k F3 H1 _ (zipI w1 w2) [(p, HO.lst (w1.map fun x : V × O => x.1)), (q, HO.lst (w2.map fun x : V × O => x.1))] ((s4.drop.fix g1').fix (g3' _ _ g1)) ?_ itok_z sm1⟩
      rw [zip_o, g2, g2']
    · cases hm
  · cases hm
/-- enumerate of a list -/
def enuO : Nat → List O → List O
  | _, [] => []
  | n, x :: xs => .t [.v (.int (n : Int)), x] :: enuO (n + 1) xs
def enuI : Nat → Ws → List Im
  | _, [] => []
  | n, x :: xs => .tup [(.int (n : Int), .v (.int (n : Int))), x] :: enuI (n + 1) xs
theorem enu_o : ∀ (n : Nat) (a : Ws), (enuI n a).map Im.o = enuO n (a.map (·.2))
  | _, [] => rfl
  | n, x :: a => by simp only [enuI, List.map_cons, enuO, enu_o (n + 1) a, Im.o, List.map_nil]
theorem enu_at : ∀ (n : Nat) (a : Ws) (i : Nat) (im : Im), (enuI n a)[i]? = some im → ∃ x, a[i]? = some x ∧ im = .tup [(.int ((n + i : Nat) : Int), .v (.int ((n + i : Nat) : Int))), x]
  | _, [], _, _, h => by simp [enuI] at h
  | n, x :: a, 0, im, h => by
    simp [enuI] at h
    exact ⟨x, rfl, by rw [← h]; simp⟩
  | n, x :: a, i + 1, im, h => by
    simp [enuI] at h
    obtain ⟨x', h1, h3⟩ := enu_at (n + 1) a i im h
    exact ⟨x', by simpa using h1, by rw [h3]; rw [show n + 1 + i = n + (i + 1) by omega]⟩
theorem enu_len : ∀ (n : Nat) (a : Ws), (enuI n a).length = a.length
  | _, [] => rfl
  | n, x :: a => by simp [enuI, enu_len (n + 1) a]
theorem itok_e {a : Addr} {w : Ws} : ItOk [(a, .lst (w.map (·.1)))] (Ite K a) (enuI 0 w) := fun H fh => by
  have hq : SqL K H a (w.map (·.1)) := .of (fh _ (List.mem_cons_self ..))
  refine ⟨fun i im hi => ?_, ⟨_, hq, by rw [List.length_map, enu_len]; exact Nat.le_refl _⟩⟩
  obtain ⟨x, h1, rfl⟩ := enu_at 0 w i im hi
  have g1 : (w.map (·.1))[i]? = some x.1 := by rw [List.getElem?_map, h1]; rfl
  refine ⟨⟨_, x.1, hq, g1⟩, fun z H3 hy => ?_⟩
  obtain ⟨T, x', rfl, hT, rfl, f1⟩ := hy
  have e1 := f1 _ hq
  rw [g1] at e1
  cases e1
  refine ⟨T, rfl, hT, ?_⟩
  rw [Nat.zero_add]
  rfl
theorem Sta.enu {B : Bs} {F H : Hp} {σ : St} {e : En} : ∀ {w G : Ws} (n : Nat), Sta K B F H σ e (w ++ G) → Sta K B F H σ e ((enuI n w).flatMap Im.ws ++ G)
  | [], G, n, s => s
  | x :: w, G, n, s => by
    have s1 : Sta K B F H σ e (w ++ (x :: G)) := s.perm (mid _ _ _).symm
    have s2 := (Sta.enu (n + 1) s1).perm (mid _ _ _)
    exact s2.push (.int n)
def iE (ms : MD (List O)) : MD (List O) := fun e => match ms e with
  | some ([x], e1) => (match x.lparts with
    | some xs => some (enuO 0 xs, e1)
    | _ => none)
  | _ => none
theorem di_enum {x : Expr} {p : Bool} {ms : MD (List O)} {p1 pos tpos : Pos} {elts : List Expr} {kk : Nat} (hg : Gl X "enumerate") (hm : X.mg "enumerate" = none) (ha : PA X [x] (denA X.K p ms)) (hs : starEach [x] X.env = [(false, eval x X.env)] := by rfl) :
    PI X (.Tuple elts kk tpos) (.Call (.Name "enumerate" p1) [x] [] pos) (denI X.K p (iE ms)) := pi_imp (pi_enum hg hm ha hs) fun σ H R ⟨B, F, e, G, os, e', s, hm, k⟩ => by
  unfold iE at hm
  split at hm
  · rename_i a e1 h1
    split at hm
    · rename_i xs h2
      obtain ⟨rfl, rfl⟩ := so hm
      refine ⟨B, F, e, G, _, e1, s, h1, fun F1 H1 ws s1 r1 sm1 => ?_⟩
      obtain ⟨v, rfl⟩ := ws1 r1
      obtain ⟨p, w1, F2, rfl, g1, g2, g3, s2⟩ := Sta.openL (G := G) s1 h2
      refine ⟨p, _, rfl, .of (s2.fh _ _ g1), k F2 H1 _ (enuI 0 w1) [(p, .lst (w1.map (·.1)))] ((s2.enu 0).fix g1) ?_ itok_e sm1⟩
      rw [enu_o, g2]
    · cases hm
  · cases hm
/-- a text, sign by sign -/
def sgO (x : Str) : List O := x.cps.toList.map fun c => .v (.str ⟨#[c]⟩)
def iS (m : MD O) : MD (List O) := fun e => match m e with
  | some (.v (.str x), e1) => some (sgO x, e1)
  | _ => none
theorem Sta.strs {B : Bs} {F H : Hp} {σ : St} {e : En} {G : Ws} (s : Sta K B F H σ e G) : ∀ ns : List Str, Sta K B F H σ e (ns.map (fun n => (V.str n, O.v (.str n))) ++ G)
  | [] => s
  | n :: ns => (s.strs ns).push (.str n)
theorem di_str {p : Bool} {m : MD O} (h : PE X iter (den X.K p m)) : PI X tg iter (denI X.K p (iS m)) := pi_imp (pi_str h) fun σ H R ⟨B, F, e, G, os, e', s, hm, k⟩ => by
  unfold iS at hm
  split at hm
  · rename_i x e1 h1
    obtain ⟨rfl, rfl⟩ := so hm
    refine ⟨B, F, e, G, _, e1, s, h1, fun F1 H1 v s1 sm1 => ?_⟩
    obtain ⟨T, r⟩ := s1.at
    obtain rfl := df_str (rp_v r)
    have s2 := s1.pop.strs (x.cps.toList.map fun c => (⟨#[c]⟩ : Str))
    rw [List.map_map] at s2
    refine ⟨x, rfl, k F1 H1 _ ((x.cps.toList.map ((fun n => (V.str n, O.v (.str n))) ∘ fun c => (⟨#[c]⟩ : Str))).map Im.one) [] (by rw [flat_one]; exact s2) ?_ (fun H2 fh => ⟨fun i im hi => ?_, ?_⟩) sm1⟩
    · rw [map_one, List.map_map]; rfl
    · rw [List.getElem?_map, List.getElem?_map] at hi
      obtain ⟨y, h2, rfl⟩ := Option.map_eq_some_iff.mp hi
      obtain ⟨c, h3, rfl⟩ := Option.map_eq_some_iff.mp h2
      have h4 : x.cps[i]? = some c := by rw [← Array.getElem?_toList]; exact h3
      refine ⟨?_, fun z H3 ⟨g1, c', g2, g3⟩ => ?_⟩
      · have := (List.getElem?_eq_some_iff.mp h3).1
        rw [Array.length_toList] at this
        exact this
      · rw [h4] at g2
        cases g2
        exact ⟨g1, g3⟩
    · show x.cps.size ≤ _
      rw [List.length_map, List.length_map, Array.length_toList]
      exact Nat.le_refl _
  · cases hm

/-! ### for -/
def forL (tg : Tg) (body : MS) : List O → MS
  | [], e => some (.nx e)
  | x :: xs, e => (match asg tg x e with
    | some e1 => (match body e1 with
      | some (.nx e2) => forL tg body xs e2
      | some (.ct e2) => forL tg body xs e2
      | some (.bk e2) => some (.nx e2)
      | some (.rt y e2) => some (.rt y e2)
      | none => none)
    | none => none)
def mFor (mi : MD (List O)) (tg : Tg) (body : MS) : MS := fun e => match mi e with
  | some (os, e1) => forL tg body os e1
  | none => none
theorem Sta.item {B : Bs} {F H H3 : Hp} {σ : St} {e : En} {G : Ws} {im : Im} {x : V} (s : Sta K B F H σ e (im.ws ++ G)) (h : Yl x H H3 im) : Sta K B F H3 σ e ((x, im.o) :: G) := by
  cases im with
  | one w =>
    obtain ⟨rfl, rfl⟩ := h
    exact s
  | tup ws =>
    obtain ⟨T, rfl, hT, rfl⟩ := h
    exact s.newT hT
theorem Oc.drop {B : Bs} {w G : Ws} {D : Ends} {oc : Oc} (h : oc.end K B G D) : oc.end K B (w ++ G) D := by
  cases oc with
  | nx e => exact fun F H σ s => h F H σ s.drop
  | bk e => exact fun F H σ s => h F H σ s.drop
  | ct e => exact fun F H σ s => h F H σ s.drop
  | rt x e => exact fun F H σ v s => h F H σ v (Sta.drop (w := w) (s.perm (by
      rw [← List.cons_append]
      exact (mid _ _ _).symm)))
theorem ds_for {tgE : Expr} {body : List Stmt} {tg : Tg} {p : Bool} {mi : MD (List O)} {mb : MS} {pos : Pos} (hp : PassesOwn (model X.prog X.w) X.A X.env X.xe) (hc : X.calm = true) (hi : PI X tgE iter (denI X.K p mi)) (hg : PG X tgE (tg.rd X.K)) (hb : PSs X body (denS X.K mb))
    (hs : ∀ x, foldedSetIterable iter X.env x = pure x := by intro _; rfl) : PS X (.For tgE iter body [] pos) (denS X.K (mFor mi tg mb)) := ps_imp (ps_for hp hc hi hg hb hs) fun D σ H ⟨B, F, e, G, oc, s, hm, k⟩ => by
  unfold mFor at hm
  split at hm
  · rename_i os e1 h1
    refine ⟨B, F, e, G, os, e1, s, h1, fun F1 H1 J ims cs s1 r1 it sm1 => ?_⟩
    subst r1
    refine ⟨fun i m σ H => ∃ F e, i + m = ims.length ∧ Sta X.K B F H σ e ((ims.drop i).flatMap Im.ws ++ (fxW cs ++ G)) ∧ forL tg mb ((ims.drop i).map Im.o) e = some oc, ⟨ims.length, F1, e1, by omega, s1, hm⟩, fun i m σ H ⟨F, e, hl, s2, h2⟩ => ?_⟩
    obtain ⟨g1, g2⟩ := it H s2.fixed
    cases m with
    | zero =>
      have : i = ims.length := by omega
      subst this
      rw [List.drop_length] at h2 s2
      cases h2
      exact .inl ⟨g2, k F H σ (Sta.drop (w := fxW cs) s2)⟩
    | succ m =>
      have hlt : i < ims.length := by omega
      obtain ⟨f1, f2⟩ := g1 i ims[i] (List.getElem?_eq_getElem hlt)
      rw [List.drop_eq_getElem_cons hlt] at h2 s2
      simp only [List.map_cons, List.flatMap_cons, List.append_assoc] at h2 s2
      unfold forL at h2
      refine .inr ⟨f1, fun σ H => ∃ F e, Sta X.K B F H σ e ((ims.drop (i + 1)).flatMap Im.ws ++ (fxW cs ++ G)) ∧ forL tg mb ((ims.drop (i + 1)).map Im.o) e = some oc, fun σ' H' ⟨F', e', q2, q3⟩ => ⟨m, Nat.lt_succ_self _, F', e', by omega, q2, q3⟩, fun x H3 hy => ?_⟩
      have s3 := s2.item (f2 x H3 hy)
      split at h2
      · rename_i e2 h3
        refine asg_run (vs := []) s3 h3 fun F4 σ4 s4 sF4 _ => ?_
        split at h2
        · rename_i e5 h5
          exact ⟨B, F4, e2, _, _, s4, h5, fun F6 H6 σ6 s6 => ⟨F6, e5, s6, h2⟩⟩
        · rename_i e5 h5
          exact ⟨B, F4, e2, _, _, s4, h5, fun F6 H6 σ6 s6 => ⟨F6, e5, s6, h2⟩⟩
        · rename_i e5 h5
          cases h2
          exact ⟨B, F4, e2, _, _, s4, h5, fun F6 H6 σ6 s6 => k F6 H6 σ6 s6.drop.drop⟩
        · rename_i y e5 h5
          cases h2
          exact ⟨B, F4, e2, _, _, s4, h5, Oc.drop (oc := .rt y e5) (Oc.drop (oc := .rt y e5) k)⟩
        · cases h2
      · cases h2
  · cases hm
end
end Dn

set_option Elab.async false
set_option linter.all false
set_option maxRecDepth 100000
set_option maxHeartbeats 4000000
namespace Dn
open PySem L2

/-! ### while -/
def whileF (c : MD Bool) (b : MS) : Nat → MS
  | 0, _ => none
  | n + 1, e => (match c e with
    | some (false, e1) => some (.nx e1)
    | some (true, e1) => (match b e1 with
      | some (.nx e2) => whileF c b n e2
      | some (.ct e2) => whileF c b n e2
      | some (.bk e2) => some (.nx e2)
      | some (.rt x e2) => some (.rt x e2)
      | none => none)
    | none => none)
theorem whileF_mono {c : MD Bool} {b : MS} : ∀ {n : Nat} {e : En} {oc : Oc}, whileF c b n e = some oc → whileF c b (n + 1) e = some oc
  | 0, _, _, h => by cases h
  | n + 1, e, oc, h => by
    unfold whileF at h
    unfold whileF
    split at h
    · exact h
    · split at h
      · exact whileF_mono h
      · exact whileF_mono h
      · exact h
      · exact h
      · cases h
    · cases h
theorem whileF_add {c : MD Bool} {b : MS} {n : Nat} {e : En} {oc : Oc} (h : whileF c b n e = some oc) : ∀ k, whileF c b (n + k) e = some oc
  | 0 => h
  | k + 1 => whileF_mono (whileF_add h k)
open Classical in
noncomputable def mWhile (c : MD Bool) (b : MS) : MS := fun e => if h : ∃ oc n, whileF c b n e = some oc then some h.choose else none
theorem mWhile_of {c : MD Bool} {b : MS} {n : Nat} {e : En} {oc : Oc} (h : whileF c b n e = some oc) : mWhile c b e = some oc := by
  have hex : ∃ oc n, whileF c b n e = some oc := ⟨oc, n, h⟩
  unfold mWhile
  rw [dif_pos hex]
  obtain ⟨n', h'⟩ := hex.choose_spec
  have a := whileF_add h n'
  have b' := whileF_add h' n
  rw [Nat.add_comm] at b'
  rw [a] at b'
  rw [← b']
theorem mWhile_some {c : MD Bool} {b : MS} {e : En} {oc : Oc} (h : mWhile c b e = some oc) : ∃ n, whileF c b n e = some oc := by
  unfold mWhile at h
  split at h
  · rename_i hex
    cases h
    exact hex.choose_spec
  · cases h
section
variable {K : PySem.W.Frag} {X : Cx}
theorem ds_while {c : Expr} {body : List Stmt} {p : Bool} {mc : MD Bool} {mb : MS} {pos : Pos} (hp : PassesOwn (model X.prog X.w) X.A X.env X.xe) (hc : PT X c (denT X.K p mc)) (hb : PSs X body (denS X.K mb)) :
    PS X (.While c body [] pos) (denS X.K (mWhile mc mb)) := ps_imp (ps_while hp hc hb) fun D σ H ⟨B, F, e, G, oc, s, hm, k⟩ => by
  obtain ⟨n, hn⟩ := mWhile_some hm
  refine ⟨fun m σ H => ∃ F e, Sta X.K B F H σ e G ∧ whileF mc mb m e = some oc, ⟨n, F, e, s, hn⟩, fun m σ H ⟨F, e, s1, h1⟩ => ?_⟩
  cases m with
  | zero => cases h1
  | succ m =>
    unfold whileF at h1
    split at h1
    · rename_i e1 h2
      cases h1
      exact ⟨B, F, e, G, false, e1, s1, h2, fun F2 H2 s2 _ => iteF (k F2 H2 σ s2)⟩
    · rename_i e1 h2
      refine ⟨B, F, e, G, true, e1, s1, h2, fun F2 H2 s2 _ => iteT ⟨fun σ H => ∃ F e, Sta X.K B F H σ e G ∧ whileF mc mb m e = some oc, fun σ' H' q => ⟨m, Nat.lt_succ_self _, q⟩, ?_⟩⟩
      split at h1
      · rename_i e2 h3
        exact ⟨B, F2, e1, G, _, s2, h3, fun F4 H4 σ4 s4 => ⟨F4, e2, s4, h1⟩⟩
      · rename_i e2 h3
        exact ⟨B, F2, e1, G, _, s2, h3, fun F4 H4 σ4 s4 => ⟨F4, e2, s4, h1⟩⟩
      · rename_i e2 h3
        cases h1
        exact ⟨B, F2, e1, G, _, s2, h3, fun F4 H4 σ4 s4 => k F4 H4 σ4 s4⟩
      · rename_i x e2 h3
        cases h1
        exact ⟨B, F2, e1, G, _, s2, h3, fun F4 H4 σ4 v s4 => k F4 H4 σ4 v s4⟩
      · cases h1
    · cases h1

/-! ### comprehensions -/
def hide (e : En) : List Nat → En
  | [] => e
  | v :: vs => (hide e vs).set v .no
def keepV : Option Sl → Sl
  | some (.own (.v d)) => .own (.v d)
  | some (.own (.s ns)) => .own (.s ns)
  | _ => .no
def unhide (e1 : En) : En → List Nat → En
  | e2, [] => e2
  | e2, v :: vs => unhide e1 (e2.set v (if vs.contains v then .no else keepV e1[v]?)) vs
def lcL (tg : Tg) (mt : MD Bool) (me : MD O) (vs : List Nat) : List O → En → Option (List O × En)
  | [], e => some ([], e)
  | x :: xs, e => (match asg tg x e with
    | some e1 => (match mt e1 with
      | some (true, e2) => (match me e2 with
        | some (y, e3) => (match lcL tg mt me vs xs (hide e3 vs) with
          | some (ys, e4) => some (y :: ys, e4)
          | none => none)
        | none => none)
      | some (false, e2) => lcL tg mt me vs xs (hide e2 vs)
      | none => none)
    | none => none)
def mLc (mi : MD (List O)) (tg : Tg) (mt : MD Bool) (me : MD O) (vs : List Nat) : MD O := fun e => match mi e with
  | some (os, e1) => if os.length ≤ sizeLine && tg.in vs then (match lcL tg mt me vs os (hide e1 vs) with
    | some (ys, e2) => some (.l ys, unhide e1 e2 vs)
    | none => none) else none
  | none => none
variable {B : Bs} {F H : Hp} {σ : St} {e : En} {G : Ws}
theorem Sta.wipe1 {v : Nat} {x : Option V} (s : Sta K B F H σ e G) : Sta K B F H (σ.set v x) (e.set v .no) G := by
  by_cases hv : v < e.length
  · have hσ : v < σ.length := by rw [s.ok.len]; exact hv
    obtain ⟨w, pw⟩ := slots_less (σ := σ) (e := e) (i := v) (List.getElem?_eq_getElem hσ) (List.getElem?_eq_getElem hv)
    have r : Rel K B.H0 B.F0 F H (slots σ (e.set v .no) ++ G) := by
      have q := s.rel.perm (pw.append_right G)
      rw [List.append_assoc] at q
      exact q.drop
    refine ⟨⟨by rw [List.length_set, List.length_set]; exact s.ok.len, fun j sl hj => ?_⟩, by rw [slots_no]; exact r⟩
    by_cases h : v = j
    · subst h
      rw [List.getElem?_set_self hv] at hj
      cases hj
      exact ⟨x, by rw [List.getElem?_set_self hσ], trivial⟩
    · rw [List.getElem?_set_ne h] at hj ⊢
      exact s.ok.sl j sl hj
  · have e1 : e.set v .no = e := List.set_eq_of_length_le (by omega)
    have e2 : σ.set v x = σ := List.set_eq_of_length_le (by rw [s.ok.len]; omega)
    rw [e1, e2]
    exact s
theorem Sta.hide : ∀ {vs : List Nat}, Sta K B F H σ e G → Sta K B F H (wipe σ vs) (hide e vs) G
  | [], s => s
  | v :: vs, s => by
    unfold wipe Dn.hide
    exact (Sta.hide (vs := vs) s).wipe1
theorem wipe_wipe {σ : St} {vs : List Nat} : wipe (wipe σ vs) vs = wipe σ vs := by
  apply List.ext_getElem?
  intro j
  rw [wipe_get, wipe_get]
  by_cases h : j ∈ vs
  · rw [if_pos h, if_pos h, Option.map_map]
    rfl
  · rw [if_neg h, if_neg h]
variable {vs : List Nat}
/-- what is frozen in slots stays so -/
def Kept (K : PySem.W.Frag) (F : Hp) (σ : St) (e1 : En) (vs : List Nat) : Prop := ∀ (v : Nat), v ∈ vs → ∀ o, (keepV e1[v]?).o? = some o → ∃ x, σ[v]? = some (some x) ∧ ∀ H, Rp K F H x o []
/-- the frozen slots as things: they outlast the comprehension -/
def keptW (σ : St) (e1 : En) : List Nat → Ws
  | [] => []
  | v :: vs => (match σ[v]?, (keepV e1[v]?).o? with
    | some (some x), some o => [(x, o)]
    | _, _ => []) ++ keptW σ e1 vs
theorem keepV_fz {sl : Option Sl} {o : O} (h : (keepV sl).o? = some o) : ∃ s, sl = some s ∧ s.o? = some o ∧ ((∃ d, o = .v d) ∨ ∃ ns, o = .s ns) := by
  unfold keepV at h
  split at h
  · cases h; exact ⟨_, rfl, rfl, .inl ⟨_, rfl⟩⟩
  · cases h; exact ⟨_, rfl, rfl, .inr ⟨_, rfl⟩⟩
  · cases h
theorem Sta.keptPush (s : Sta K B F H σ e G) : ∀ vs : List Nat, Sta K B F H σ e (keptW σ e vs ++ G)
  | [] => s
  | v :: vs => by
    have s1 := s.keptPush vs
    unfold keptW
    split
    · rename_i x o hx ho
      obtain ⟨sl, h1, h2, h3⟩ := keepV_fz ho
      obtain ⟨x', hx', T, r⟩ := s.seeO h1 h2
      rw [hx] at hx'
      cases hx'
      rcases h3 with ⟨d, rfl⟩ | ⟨ns, rfl⟩
      · exact s1.push (rp_v r)
      · cases r with
        | s h => exact s1.pushS h
    · exact s1
theorem Sta.kept {σ1 : St} {e1 e2 : En} (s : Sta K B F H σ1 e2 (keptW σ e1 vs ++ G)) (ok : SlOk B.vs σ e1) : Kept K F σ e1 vs := fun v hv o ho => by
  obtain ⟨sl, h1, h2, h3⟩ := keepV_fz ho
  obtain ⟨y, hy, hok⟩ := ok.sl v sl h1
  have : ∃ x, y = some x := by
    cases sl with
    | no => cases h2
    | own _ => exact hok
    | pin _ => obtain ⟨x, e, _⟩ := hok; exact ⟨x, e⟩
  obtain ⟨x, rfl⟩ := this
  have hm : (x, o) ∈ keptW σ e1 vs := by
    clear s
    induction vs with
    | nil => cases hv
    | cons u vs ih =>
      unfold keptW
      rcases List.mem_cons.mp hv with rfl | hv
      · rw [hy, ho]
        exact List.mem_append_left _ (List.mem_cons_self ..)
      · exact List.mem_append_right _ (ih hv)
  obtain ⟨T, r⟩ := s.rel.memAt (List.mem_append_right _ (List.mem_append_left _ hm))
  refine ⟨x, hy, fun H' => ?_⟩
  rcases h3 with ⟨d, rfl⟩ | ⟨ns, rfl⟩
  · exact .v (rp_v r)
  · cases r with
    | s h => exact .s h
theorem Sta.unhide1 {e1 : En} {v : Nat} {vs vs' : List Nat} (kp : Kept K F σ e1 vs') (hv' : v ∈ vs') (s : Sta K B F H (wipe σ (v :: vs)) e G) : Sta K B F H (wipe σ vs) (e.set v (if vs.contains v then .no else keepV e1[v]?)) G := by
  have s1 : Sta K B F H (wipe σ vs) (e.set v .no) G := by
    have q := s.wipe1 (v := v) (x := ((wipe σ vs)[v]?).join)
    have : (wipe σ (v :: vs)).set v ((wipe σ vs)[v]?).join = wipe σ vs := by
      show ((wipe σ vs).set v none).set v _ = _
      rw [List.set_set]
      apply List.ext_getElem?
      intro j
      by_cases h : v = j
      · subst h
        by_cases hv : v < (wipe σ vs).length
        · rw [List.getElem?_set_self hv, List.getElem?_eq_getElem hv]; rfl
        · rw [List.getElem?_eq_none (by rw [List.length_set]; omega), List.getElem?_eq_none (by omega)]
      · rw [List.getElem?_set_ne h]
    rw [this] at q
    exact q
  by_cases hc : vs.contains v = true
  · rw [if_pos hc]; exact s1
  · rw [if_neg hc]
    cases ho : (keepV e1[v]?).o? with
    | none =>
      have : keepV e1[v]? = .no := by
        cases h : keepV e1[v]? with
        | no => rfl
        | own o => rw [h] at ho; cases ho
        | pin o => rw [h] at ho; cases ho
      rw [this]
      exact s1
    | some o =>
      obtain ⟨x, hx, r⟩ := kp v hv' o ho
      have hx' : (wipe σ vs)[v]? = some (some x) := by
        rw [wipe_get, if_neg (fun z => hc (List.contains_iff_mem.mpr z))]
        exact hx
      have hlen : v < e.length := by
        have := (List.getElem?_eq_some_iff.mp hx').1
        rw [s1.ok.len, List.length_set] at this
        exact this
      obtain ⟨T, rl, nd, hp⟩ := s1.rel.res
      have q : Rel K B.H0 B.F0 F H ((x, o) :: (slots (wipe σ vs) (e.set v .no) ++ G)) := ⟨s1.rel.h0, s1.rel.f0, s1.rel.fn, s1.rel.fh, T, .cons (T1 := []) (r H) rl, nd, hp⟩
      have hsl : ∃ o', keepV e1[v]? = .own o' := by
        unfold keepV at ho ⊢
        split at ho <;> first | exact ⟨_, rfl⟩ | cases ho
      obtain ⟨o', hsl⟩ := hsl
      rw [hsl] at ho ⊢
      refine ⟨⟨by rw [List.length_set]; have := s1.ok.len; rw [List.length_set] at this; exact this, fun j sl hj => ?_⟩, q.perm ((slots_put ho hlen hx').append_right G).symm⟩
      by_cases h : v = j
      · subst h
        rw [List.getElem?_set_self hlen] at hj
        cases hj
        exact ⟨_, hx', x, rfl⟩
      · rw [List.getElem?_set_ne h] at hj
        exact s1.ok.sl j sl (by rw [List.getElem?_set_ne h]; exact hj)
theorem Sta.unhide {e1 : En} {vs' : List Nat} (kp : Kept K F σ e1 vs') : ∀ {vs : List Nat} {e : En}, (∀ v ∈ vs, v ∈ vs') → Sta K B F H (wipe σ vs) e G → Sta K B F H σ (unhide e1 e vs) G
  | [], _, _, s => s
  | v :: vs, e, hs, s => by
    unfold Dn.unhide
    exact Sta.unhide kp (fun u hu => hs u (List.mem_cons_of_mem _ hu)) (s.unhide1 kp (hs v (List.mem_cons_self ..)))
theorem lc_den {p q r : Bool} {mi : MD (List O)} {tg : Tg} {mt : MD Bool} {me : MD O} {vs : List Nat} : ∀ σ H Q, den K false (mLc mi tg mt me vs) σ H Q → tLc (denI K p mi) (tg.rd K) (denT K q mt) (den K r me) vs σ H Q := fun σ H Q ⟨B, F, e, G, x, e', s, hm, k⟩ => by
  unfold mLc at hm
  split at hm
  · rename_i os e1 h1
    split at hm
    · rename_i hz
      simp only [Bool.and_eq_true, decide_eq_true_eq] at hz
      split at hm
      · rename_i ys e2 h2
        obtain ⟨rfl, rfl⟩ := so hm
        refine ⟨B, F, e, G, os, e1, s, h1, fun F1 H1 J ims cs s1 r1 it sm1 D hD => ?_⟩
        subst r1
        have hlen : ims.length ≤ sizeLine := by
          have := hz.1
          rw [List.length_map] at this
          exact this
        -- the frozen slots are kept
        have s2 : Sta K B F1 H1 σ e1 (keptW σ e1 vs ++ (ims.flatMap Im.ws ++ (fxW cs ++ G))) := s1.keptPush vs
        have s3 : Sta K B F1 H1 (wipe σ vs) (Dn.hide e1 vs) (ims.flatMap Im.ws ++ (fxW cs ++ (keptW σ e1 vs ++ G))) := (s2.hide (vs := vs)).perm (by
          refine (pmid _ _ _).trans ?_
          exact List.Perm.append_left _ (pmid _ _ _))
        refine ⟨fun i m H => ∃ F e acc, i + m = ims.length ∧ acc.length ≤ i ∧ Sta K B F H (wipe σ vs) e ((.ref D, .l acc) :: ((ims.drop i).flatMap Im.ws ++ (fxW cs ++ (keptW σ e1 vs ++ G)))) ∧ ∃ zs, lcL tg mt me vs ((ims.drop i).map Im.o) e = some (zs, e2) ∧ acc ++ zs = ys,
          ⟨ims.length, F1, Dn.hide e1 vs, [], by omega, Nat.le_refl _, s3.newL (w := []) hD, ys, h2, rfl⟩, fun i m H ⟨F, e, acc, hl, ha, s4, zs, h4, hz4⟩ => ?_⟩
        have s5 : Sta K B F H (wipe σ vs) e ((ims.drop i).flatMap Im.ws ++ (fxW cs ++ (keptW σ e1 vs ++ G))) := s4.pop
        obtain ⟨g1, g2⟩ := it H s5.fixed
        cases m with
        | zero =>
          have : i = ims.length := by omega
          subst this
          rw [List.drop_length] at h4 s4
          cases h4
          rw [List.append_nil] at hz4
          subst hz4
          have s6 : Sta K B F H (wipe σ vs) e2 (keptW σ e1 vs ++ ((.ref D, .l acc) :: G)) := by
            have q0 : Sta K B F H (wipe σ vs) e2 ((.ref D, .l acc) :: (fxW cs ++ (keptW σ e1 vs ++ G))) := s4
            have q1 : Sta K B F H (wipe σ vs) e2 (fxW cs ++ ((.ref D, .l acc) :: (keptW σ e1 vs ++ G))) := q0.perm (mid _ _ _).symm
            exact q1.drop.perm (mid _ _ _).symm
          have kp := s6.kept s1.ok
          exact .inl ⟨g2, k F H _ (Sta.unhide kp (fun _ h => h) s6.drop) fun z => nomatch z⟩
        | succ m =>
          have hlt : i < ims.length := by omega
          obtain ⟨f1, f2⟩ := g1 i ims[i] (List.getElem?_eq_getElem hlt)
          rw [List.drop_eq_getElem_cons hlt] at h4 s4
          simp only [List.map_cons, List.flatMap_cons, List.append_assoc] at h4 s4
          unfold lcL at h4
          refine .inr ⟨f1, fun H => ∃ F e acc, acc.length ≤ i + 1 ∧ Sta K B F H (wipe σ vs) e ((.ref D, .l acc) :: ((ims.drop (i + 1)).flatMap Im.ws ++ (fxW cs ++ (keptW σ e1 vs ++ G)))) ∧ ∃ zs, lcL tg mt me vs ((ims.drop (i + 1)).map Im.o) e = some (zs, e2) ∧ acc ++ zs = ys,
            fun H' ⟨F', e', acc', q1, q2, q3⟩ => ⟨m, Nat.lt_succ_self _, F', e', acc', by omega, q1, q2, q3⟩, fun x H3 hy => ?_⟩
          have s6 : Sta K B F H3 (wipe σ vs) e ((x, (ims[i]).o) :: ((.ref D, .l acc) :: ((ims.drop (i + 1)).flatMap Im.ws ++ (fxW cs ++ (keptW σ e1 vs ++ G))))) := Sta.item (s4.perm (mid _ _ _).symm) (f2 x H3 hy)
          split at h4
          · rename_i ea ha1
            refine asg_run (vs := vs) s6 ha1 fun F7 σ7 s7 _ hw => ⟨?_, ?_⟩
            · rw [hw hz.2, wipe_wipe]
            · split at h4
              · rename_i eb hb
                refine ⟨B, F7, ea, _, true, eb, s7, hb, fun F8 H8 s8 _ => iteT ?_⟩
                split at h4
                · rename_i y ec hc
                  refine ⟨B, F8, eb, _, y, ec, s8, hc, fun F9 H9 v s9 _ => ?_⟩
                  split at h4
                  · rename_i ys' ed hd
                    obtain ⟨rfl, rfl⟩ := so h4
                    have s10 : Sta K B F9 H9 σ7 ec ((.ref D, .l acc) :: ((v, y) :: ((ims.drop (i + 1)).flatMap Im.ws ++ (fxW cs ++ (keptW σ e1 vs ++ G))))) := s9.perm (.swap _ _ _)
                    obtain ⟨p', w, hpe, hp, hw2, q⟩ := (s10.rel.perm (mid _ _ _)).put
                    cases hpe
                    refine ⟨_, hp, ?_, F9, Dn.hide ec vs, acc ++ [y], ?_, ?_, ys', hd, ?_⟩
                    · rw [List.length_map]
                      have : w.length = acc.length := by rw [← hw2, List.length_map]
                      omega
                    · rw [List.length_append, List.length_singleton]; omega
                    · have r2 := q (w ++ [(v, y)]) (slots σ7 ec ++ ((ims.drop (i + 1)).flatMap Im.ws ++ (fxW cs ++ (keptW σ e1 vs ++ G)))) (by
                        rw [List.append_assoc]
                        refine List.Perm.append_left _ ?_
                        exact mid _ _ _)
                      rw [List.map_append, List.map_append, hw2] at r2
                      have s11 : Sta K B F9 (upd H9 D (.lst (w.map (·.1) ++ [v]))) σ7 ec ((.ref D, .l (acc ++ [y])) :: ((ims.drop (i + 1)).flatMap Im.ws ++ (fxW cs ++ (keptW σ e1 vs ++ G)))) := ⟨s10.ok, r2.perm (mid _ _ _).symm⟩
                      have s12 := s11.hide (vs := vs)
                      rw [hw hz.2, wipe_wipe] at s12
                      exact s12
                    · rw [← hz4, List.append_assoc]; rfl
                  · cases h4
                · cases h4
              · rename_i eb hb
                refine ⟨B, F7, ea, _, false, eb, s7, hb, fun F8 H8 s8 _ => iteF ⟨F8, Dn.hide eb vs, acc, by omega, ?_, zs, h4, hz4⟩⟩
                have s12 := s8.hide (vs := vs)
                rw [hw hz.2, wipe_wipe] at s12
                exact s12
              · cases h4
          · cases h4
      · cases hm
    · cases hm
  · cases hm
end
end Dn

set_option Elab.async false
set_option linter.all false
set_option maxRecDepth 100000
set_option maxHeartbeats 4000000
namespace Dn
open PySem L2
section
variable {X : Cx} {K : PySem.W.Frag}
theorem d_lc {elt tgE iter : Expr} {ifs : List Expr} {scope : Scope} {own : List (Str × Nat)} {pos : Pos} {tg : Tg} {p q r : Bool} {mi : MD (List O)} {mt : MD Bool} {me : MD O} (hc : X.calm = true) (hN : X.N.Nodup) (hi : PI X tgE iter (denI X.K p mi)) (ok : BlkOk X.N X.env.scope scope own)
    (hg : ∀ (s : Shared) (H : Hp) (C : Addr) (cl : List (Str × Addr)) (fp : List Addr), PG (X.blk s H scope (compEnvC scope cl C X.env) fp) tgE (tg.rd X.K))
    (ht : ∀ (s : Shared) (H : Hp) (C : Addr) (cl : List (Str × Addr)) (fp : List Addr), PTs (X.blk s H scope (compEnvC scope cl C X.env) fp) ifs (denT X.K q mt))
    (he : ∀ (s : Shared) (H : Hp) (C : Addr) (cl : List (Str × Addr)) (fp : List Addr), PE (X.blk s H scope (compEnvC scope cl C X.env) fp) elt (den X.K r me)) (hs : ∀ x, foldedSetIterable iter X.env x = pure x := by intro _; rfl) :
    PE X (.ListComp elt [⟨tgE, iter, ifs, 0⟩] scope pos) (den X.K false (mLc mi tg mt me (own.map (·.2)))) := pe_imp (pe_lc hc hN hi ok hg ht he hs) lc_den
theorem ds_setLc {i : Nat} {y : Str} {py : Pos} {elt tgE iter : Expr} {ifs : List Expr} {scope : Scope} {own : List (Str × Nat)} {pos spos : Pos} {tg : Tg} {p q r : Bool} {mi : MD (List O)} {mt : MD Bool} {me : MD O} (hc : X.calm = true) (hN : X.N.Nodup) (hy : X.N[i]? = some y) (hyl : X.env.scope.names.lookup y = some .local)
    (hsw : swapsWith (.ListComp elt [⟨tgE, iter, ifs, 0⟩] scope pos) (some (.Name y py)) spos.line X.env = pure true) (hi : PI X tgE iter (denI X.K p mi)) (ok : BlkOk X.N X.env.scope scope own)
    (hg : ∀ (s : Shared) (H : Hp) (C : Addr) (cl : List (Str × Addr)) (fp : List Addr), PG (X.blk s H scope (compEnvC scope cl C X.env) fp) tgE (tg.rd X.K))
    (ht : ∀ (s : Shared) (H : Hp) (C : Addr) (cl : List (Str × Addr)) (fp : List Addr), PTs (X.blk s H scope (compEnvC scope cl C X.env) fp) ifs (denT X.K q mt))
    (he : ∀ (s : Shared) (H : Hp) (C : Addr) (cl : List (Str × Addr)) (fp : List Addr), PE (X.blk s H scope (compEnvC scope cl C X.env) fp) elt (den X.K r me)) (hs : ∀ x, foldedSetIterable iter X.env x = pure x := by intro _; rfl) :
    PS X (.Assign [.Name y py] (.ListComp elt [⟨tgE, iter, ifs, 0⟩] scope pos) spos) (denS X.K (mSet i (mLc mi tg mt me (own.map (·.2))))) := ps_imp (ps_setLc hc hN hy hyl hsw hi ok hg ht he hs) (mSet_den lc_den)
def mYes : MD Bool := fun e => some (true, e)
theorem dts_nil : PTs X [] (denT X.K true mYes) := ⟨fun pins s σ H Q I h => pts_nil.run pins s σ H Q I (by
  obtain ⟨B, F, e, G, b, e', st, hm, k⟩ := h
  cases hm
  exact k F H st fun _ => .refl _)⟩
theorem dts_one {c : Expr} {p : Bool} {m : MD Bool} (h : PT X c (denT X.K p m)) : PTs X [c] (denT X.K p m) := pts_one h
/-- targets -/
theorem dg_name {i : Nat} {x : Str} {pos : Pos} (hN : X.N.Nodup) (hi : X.N[i]? = some x) (hx : Loc X.env.scope x) (hf : X.fn x = true ∨ X.env.scope.names.lookup x = some .local := by first | exact .inl rfl | exact .inr rfl | assumption) : PG X (.Name x pos) ((Tg.n i).rd K) := by
  unfold Tg.rd
  exact pg_name hN hi hx hf
theorem dgs_nil : PGs X [] (Tg.rds K []) := by
  unfold Tg.rds
  exact pgs_nil
theorem dgs_cons {e : Expr} {es : List Expr} {t : Tg} {ts : List Tg} (h1 : PG X e (t.rd K)) (h2 : PGs X es (Tg.rds K ts))
    (hs : (assignEach (e :: es) X.env).map (·.2) = assign e X.env :: (assignEach es X.env).map (·.2) := by rfl) : PGs X (e :: es) (Tg.rds K (t :: ts)) := by
  unfold Tg.rds
  exact pgs_cons h1 h2 hs
theorem dg_tup {es : List Expr} {k : Nat} {ts : List Tg} {pos : Pos} (hc : X.calm = true) (h : PGs X es (Tg.rds X.K ts))
    (hn : (assignEach es X.env).length = ts.length := by rfl) (hst : (assignEach es X.env).findIdx? (·.1) = none := by rfl) : PG X (.Tuple es k pos) ((Tg.tp ts).rd X.K) := by
  unfold Tg.rd
  exact pg_tup hc h hn hst
/-- a, b = e -/
def mAsg (tg : Tg) (m : MD O) : MS := fun e => match m e with
  | some (x, e1) => (match asg tg x e1 with
    | some e2 => some (.nx e2)
    | none => none)
  | none => none
theorem ds_asg {tgE e : Expr} {tg : Tg} {p : Bool} {m : MD O} {pos : Pos} (he : PE X e (den X.K p m)) (hg : PG X tgE (tg.rd X.K)) (hs : swapsWithSole [tgE] e pos.line X.env = pure false := by rfl) (hw : swappedStores [tgE] e X.env = pure none := by rfl)
    (h1 : (assignEach [tgE] X.env).map (·.2) = [assign tgE X.env] := by rfl) : PS X (.Assign [tgE] e pos) (denS X.K (mAsg tg m)) := ps_imp (ps_asg he hg hs hw h1) fun D σ H ⟨B, F, e, G, oc, s, hm, k⟩ => by
  unfold mAsg at hm
  split at hm
  · rename_i x e1 h1
    split at hm
    · rename_i e2 h2
      cases hm
      exact ⟨B, F, e, G, x, e1, s, h1, fun F1 H1 v s1 _ => asg_run (vs := []) s1 h2 fun F2 σ2 s2 _ _ => k F2 H1 σ2 s2⟩
    · cases hm
  · cases hm
/-- x += e, ints -/
def mAugI (i : Nat) (m : MD O) : MS := fun e => match e[i]? with
  | some (.own (.v (.int a))) => (match m e with
    | some (.v (.int b), e1) => (match setE e1 i (.v (.int (a + b))) with
      | some e2 => some (.nx e2)
      | none => none)
    | _ => none)
  | _ => none
theorem ds_augI {i : Nat} {x : Str} {e : Expr} {p : Bool} {m : MD O} {pos pos' : Pos} (hN : X.N.Nodup) (hi : X.N[i]? = some x) (hx : Loc X.env.scope x) (he : PE X e (den X.K p m)) (hf : X.fn x = true ∨ X.env.scope.names.lookup x = some .local := by first | exact .inl rfl | exact .inr rfl | assumption) :
    PS X (.AugAssign (.Name x pos') .Add e pos) (denS X.K (mAugI i m)) := ps_imp (ps_aug hN hi hx he ip_add hf) fun D σ H ⟨B, F, e, G, oc, s, hm, k⟩ => by
  unfold mAugI at hm
  split at hm
  · rename_i a h0
    split at hm
    · rename_i b e1 h1
      split at hm
      · rename_i e2 h2
        cases hm
        obtain ⟨v, hv, T, r⟩ := s.seeO h0 (show (Sl.own (.v (.int a))).o? = some (.v (.int a)) from rfl)
        obtain rfl := rp_int r
        refine ⟨_, hv, B, F, e, G, _, e1, s, h1, fun F1 H1 v s1 _ => ?_⟩
        obtain ⟨T, r1⟩ := s1.at
        obtain rfl := rp_int r1
        exact ⟨a, b, rfl, rfl, k F1 H1 _ (setE_store (s1.pop.push (.int _)) h2)⟩
      · cases hm
    · cases hm
  · cases hm

/-! ### defs -/
def pinsOf : List Bool → En → Option (List O)
  | [], _ => some []
  | false :: br, _ :: e => pinsOf br e
  | true :: br, .pin o :: e => (match pinsOf br e with
    | some os => some (o :: os)
    | none => none)
  | _, _ => none
def brV {α : Type} : List Bool → List α → List α
  | true :: br, v :: vs => v :: brV br vs
  | false :: br, _ :: vs => brV br vs
  | _, _ => []
def env0 : List Bool → List O → En
  | true :: br, o :: os => .pin o :: env0 br os
  | false :: br, o :: os => .own o :: env0 br os
  | _, _ => []
/-- a def's run: n slots, br tells which parameters are lent -/
def runF (n : Nat) (br : List Bool) (m : MS) (os : List O) : Option (O × List O) := if os.length = br.length then
    (match m (env0 br os ++ List.replicate (n - br.length) .no) with
    | some (.rt x e) => (match pinsOf br e with
      | some os' => some (x, os')
      | none => none)
    | some (.nx e) => (match pinsOf br e with
      | some os' => some (.v .none, os')
      | none => none)
    | _ => none) else none
/-- the promise -/
def spOf (K : PySem.W.Frag) (br : List Bool) (sem : List O → Option (O × List O)) : Sp := fun vs H Q _ => ∃ H0 F os x os', vs.length = br.length ∧ os.length = br.length ∧ Rel K H0 F F H (vs.zip os) ∧ sem os = some (x, os') ∧ ∀ F' H' v, Rel K H0 F F' H' ((v, x) :: (brV br vs).zip os') → Q v H'
theorem env0_len : ∀ {br : List Bool} {os : List O}, os.length = br.length → (env0 br os).length = br.length
  | [], [], _ => rfl
  | true :: br, o :: os, h => by simp only [env0, List.length_cons, env0_len (by simpa using h)]
  | false :: br, o :: os, h => by simp only [env0, List.length_cons, env0_len (by simpa using h)]
  | [], _ :: _, h => by simp at h
  | _ :: _, [], h => by simp at h
theorem slots_rep : ∀ (n : Nat) (σ : St), slots σ (List.replicate n .no) = []
  | 0, σ => by cases σ <;> simp [slots]
  | n + 1, [] => rfl
  | n + 1, x :: σ => by
    rw [List.replicate_succ]
    cases x <;> exact slots_rep n σ
theorem slots_env0 : ∀ {br : List Bool} {vs : List V} {os : List O} {t : St} {u : En}, vs.length = br.length → os.length = br.length → slots (vs.map some ++ t) (env0 br os ++ u) = vs.zip os ++ slots t u
  | [], [], [], t, u, _, _ => rfl
  | b :: br, v :: vs, o :: os, t, u, h1, h2 => by
    have ih := slots_env0 (br := br) (vs := vs) (os := os) (t := t) (u := u) (by simpa using h1) (by simpa using h2)
    cases b
    · simp only [List.map_cons, env0, List.cons_append, slots, ih, List.zip_cons_cons]
    · simp only [List.map_cons, env0, List.cons_append, slots, ih, List.zip_cons_cons]
  | [], _ :: _, _, _, _, h, _ => by simp at h
  | [], [], _ :: _, _, _, _, h => by simp at h
  | _ :: _, [], _, _, _, h, _ => by simp at h
  | _ :: _, _ :: _, [], _, _, _, h => by simp at h
theorem ok_env0 {br : List Bool} {vs : List V} {os : List O} {n : Nat} (h1 : vs.length = br.length) (h2 : os.length = br.length) : SlOk vs (vs.map some ++ List.replicate (n - vs.length) none) (env0 br os ++ List.replicate (n - br.length) .no) := by
  refine ⟨by rw [List.length_append, List.length_append, List.length_map, List.length_replicate, List.length_replicate, env0_len h2, h1], fun i s hi => ?_⟩
  by_cases hb : i < br.length
  · have hv : i < vs.length := by rw [h1]; exact hb
    refine ⟨some vs[i], by rw [List.getElem?_append_left (by rw [List.length_map]; exact hv), List.getElem?_map, List.getElem?_eq_getElem hv]; rfl, ?_⟩
    cases s with
    | no => trivial
    | own o => exact ⟨_, rfl⟩
    | pin o => exact ⟨_, rfl, List.getElem?_eq_getElem hv⟩
  · rw [List.getElem?_append_right (by rw [env0_len h2]; omega), List.getElem?_replicate] at hi
    split at hi
    · rename_i hlt
      cases hi
      rw [env0_len h2] at hlt
      refine ⟨none, ?_, trivial⟩
      rw [List.getElem?_append_right (by rw [List.length_map]; omega), List.length_map, List.getElem?_replicate, if_pos (by rw [h1]; exact hlt)]
    · cases hi
/-- the lent things stand in their slots -/
theorem pins_out : ∀ {br : List Bool} {vs : List V} {σ : St} {e : En} {os : List O}, pinsOf br e = some os → vs.length = br.length → σ.length = e.length → (∀ i : Nat, ∀ o, e[i]? = some (.pin o) → ∃ v, vs[i]? = some v ∧ σ[i]? = some (some v)) → ∃ r, (slots σ e).Perm ((brV br vs).zip os ++ r)
  | [], vs, σ, e, os, h, hl, _, _ => by
    cases h
    exact ⟨slots σ e, by cases vs <;> exact .refl _⟩
  | false :: br, v :: vs, σ, s :: e, os, h, hl, hse, k => by
    have h' : pinsOf br e = some os := h
    cases σ with
    | nil => simp at hse
    | cons x σ =>
      obtain ⟨r, pr⟩ := pins_out (vs := vs) (σ := σ) h' (by simpa using hl) (by simpa using hse) (fun i o hi => by
        obtain ⟨v', h1, h2⟩ := k (i + 1) o (by simpa using hi)
        exact ⟨v', by simpa using h1, by simpa using h2⟩)
      cases x with
      | none => exact ⟨r, pr⟩
      | some x =>
        cases s with
        | no => exact ⟨r, pr⟩
        | own o => exact ⟨(x, o) :: r, (pr.cons _).trans (mid _ _ _).symm⟩
        | pin o => exact ⟨(x, o) :: r, (pr.cons _).trans (mid _ _ _).symm⟩
  | true :: br, v :: vs, σ, s :: e, os, h, hl, hse, k => by
    cases s with
    | pin o =>
      unfold pinsOf at h
      split at h
      · rename_i os' h'
        cases h
        obtain ⟨v', h1, h2⟩ := k 0 o rfl
        cases h1
        cases σ with
        | nil => simp at h2
        | cons x σ =>
          simp only [List.getElem?_cons_zero, Option.some.injEq] at h2
          subst h2
          obtain ⟨r, pr⟩ := pins_out (vs := vs) (σ := σ) h' (by simpa using hl) (by simpa using hse) (fun i o hi => by
            obtain ⟨v', h1, h2⟩ := k (i + 1) o (by simpa using hi)
            exact ⟨v', by simpa using h1, by simpa using h2⟩)
          exact ⟨r, pr.cons _⟩
      · cases h
    | no => cases h
    | own o => cases h
  | _ :: _, [], _, _, _, _, hl, _, _ => by simp at hl
  | false :: _, _ :: _, _, [], _, h, _, _, _ => by cases h
  | true :: _, _ :: _, _, [], _, h, _, _, _ => by cases h
theorem ret_run {B : Bs} {br : List Bool} {F H : Hp} {σ : St} {e : En} {v : V} {x : O} {os : List O} (s : Sta K B F H σ e [(v, x)]) (hp : pinsOf br e = some os) (hl : B.vs.length = br.length) : Rel K B.H0 B.F0 F H ((v, x) :: (brV br B.vs).zip os) := by
  obtain ⟨r, pr⟩ := pins_out (vs := B.vs) (σ := σ) hp hl s.ok.len (fun i o hi => by
    obtain ⟨y, h1, v', rfl, h3⟩ := s.ok.sl i _ hi
    exact ⟨v', h3, h1⟩)
  have q := s.rel.perm (mid _ _ _)
  rw [List.append_nil] at q
  have q2 := q.perm (pr.cons _)
  have q3 := q2.perm (show ((v, x) :: ((brV br B.vs).zip os ++ r)).Perm (r ++ ((v, x) :: (brV br B.vs).zip os)) by
    rw [← List.cons_append]
    exact List.perm_append_comm)
  exact q3.drop
/-- THE RULE for a def -/
theorem okD {P : Program} {w : World} {mg : Str → Option Value} {base : Heap} {x qual : Str} {st : Stmt} {f : Addr} {fd : FuncData} {N ps : List Str} {k : Nat} {br : List Bool} {m : MS} (F : Fun K x qual st f fd) (S : FnScope N ps (defScope st)) (hbr : br.length = ps.length)
    (hbody : ∀ (cdv : Value) (A : Around) (outer : List Env) (s : Shared) (H : Hp) (E : XK), RoomG k (A.deeper (PyProof.Rows.envOfC qual (defScope st) s.heap.objs.size f cdv)) → PSs (cxOf CX0 P w K mg base N qual (defScope st) f cdv A outer s H E).nox (defBody st) (denS K m)) :
    FnG P w K mg base CX0 (k + 1) f fd ps (spOf K br (runF N.length br m)) := by
  refine Dn.Fun.okG F S (fun vs H Q E h => ?_) (fun cdv A outer s H vs Q E hr h => ⟨_, (hbody cdv A outer s H E hr).nox, ?_⟩)
  · obtain ⟨_, _, _, _, _, h, _⟩ := h
    rw [h, hbr]
  · obtain ⟨H0, F0, os, x, os', hl, hlo, rel, hm, q⟩ := h
    unfold runF at hm
    rw [if_pos hlo] at hm
    have hs : Sta K ⟨H0, F0, vs⟩ F0 H (L2.start N vs) (env0 br os ++ List.replicate (N.length - br.length) .no) [] := by
      refine ⟨?_, ?_⟩
      · exact ok_env0 hl hlo
      · unfold L2.start
        rw [slots_env0 hl hlo, slots_rep, List.append_nil, List.append_nil]
        exact rel
    split at hm
    · rename_i y e h1
      split at hm
      · rename_i os2 h2
        obtain ⟨rfl, rfl⟩ := so hm
        exact ⟨_, F0, _, [], _, hs, h1, fun F1 H1 σ1 v s1 => q F1 H1 v (ret_run (B := ⟨H0, F0, vs⟩) s1 h2 hl)⟩
      · cases hm
    · rename_i e h1
      split at hm
      · rename_i os2 h2
        obtain ⟨rfl, rfl⟩ := so hm
        exact ⟨_, F0, _, [], _, hs, h1, fun F1 H1 σ1 s1 => q F1 H1 .non (ret_run (B := ⟨H0, F0, vs⟩) (s1.push .non) h2 hl)⟩
      · cases hm
    · cases hm
end
end Dn

set_option Elab.async false
set_option linter.all false
set_option maxRecDepth 100000
set_option maxHeartbeats 4000000
namespace Dn
open PySem L2
abbrev Sem1 := List O → Option (O × List O)
section
variable {X : Cx} {K : PySem.W.Frag} {p : Bool} {ms : MD (List O)} {sem : Sem1}
/-- f(..): all arguments are frozen -/
def mCall (sem : Sem1) (ms : MD (List O)) : MD O := fun e => match ms e with
  | some (xs, e1) => if xs.all O.fz then (match sem xs with
    | some (x, []) => some (x, e1)
    | _ => none) else none
  | none => none
/-- f(..): the arguments are handed over -/
def mCallM (sem : Sem1) (ms : MD (List O)) : MD O := fun e => match ms e with
  | some (xs, e1) => (match sem xs with
    | some (x, []) => some (x, e1)
    | _ => none)
  | none => none
/-- f(..): the arguments are looked at, a scalar is told -/
def mCallL (sem : Sem1) (ms : MD (List O)) : MD O := fun e => match ms e with
  | some (xs, e1) => (match O.toDs xs with
    | some ds => (match sem (ds.map .v) with
      | some (.v z, []) => if (sV z).isSome then some (.v z, e1) else none
      | _ => none)
    | none => none)
  | none => none
theorem brV_no {α : Type} : ∀ (n : Nat) (vs : List α), brV (List.replicate n false) vs = []
  | 0, _ => by cases ‹List α› <;> rfl
  | n + 1, [] => rfl
  | n + 1, _ :: vs => brV_no n vs
theorem zip_ws (ws : Ws) : (ws.map (·.1)).zip (ws.map (·.2)) = ws := (zip_self ws).symm
theorem call_run {B : Bs} {F H : Hp} {σ : St} {e : En} {G ws : Ws} {x : O} {Q : VK} {n : Nat} (s : Sta K B F H σ e (ws ++ G)) (hn : ws.length = n) (hm : sem (ws.map (·.2)) = some (x, []))
    (k : ∀ F' H' v, Sta K B F' H' σ e ((v, x) :: G) → ((∀ w ∈ ws, w.2.fz = true) → Same H H') → Q v H') (E : XK) : spOf K (List.replicate n false) sem (ws.map (·.1)) H Q E := by
  obtain ⟨H1, r1, r2, r3⟩ := (s.rel.perm (pmid _ _ _)).hand
  refine ⟨H1, F, ws.map (·.2), x, [], by rw [List.length_map, List.length_replicate, hn], by rw [List.length_map, List.length_replicate, hn], by rw [zip_ws]; exact r1, hm, fun F' H' v r => ?_⟩
  rw [brV_no] at r
  have q := r2 F' H' [(v, x)] r
  refine k F' H' v ⟨s.ok, q.perm (show ((v, x) :: (slots σ e ++ G)).Perm (slots σ e ++ (v, x) :: G) from (mid _ _ _).symm)⟩ fun hz => ?_
  have := r.h0
  rw [r3 hz] at this
  exact this
theorem mCall_den {n : Nat} {E : XK} {t : TA} (hn : ∀ e xs e1, ms e = some (xs, e1) → xs.length = n) (hl : AS K p ms t) : ∀ σ H Q, den K p (mCall sem ms) σ H Q → tCall (spOf K (List.replicate n false) sem) [] E t σ H Q := fun σ H Q ⟨B, F, e, G, y, e', s, hm, k⟩ => by
  unfold mCall at hm
  split at hm
  · rename_i xs e1 h1
    split at hm
    · rename_i hz
      split at hm
      · rename_i x h2
        obtain ⟨rfl, rfl⟩ := so hm
        refine hl σ H _ ⟨B, F, e, G, xs, e1, s, h1, fun F1 H1 ws s1 r1 sm1 => ?_⟩
        subst r1
        rw [List.append_nil]
        refine call_run s1 (by have := hn _ _ _ h1; rw [List.length_map] at this; exact this) h2 (fun F2 H2 v s2 sm2 => k F2 H2 v s2 fun z => (sm1 z).trans (sm2 fun w hw => ?_)) E
        exact List.all_eq_true.mp hz _ (List.mem_map.mpr ⟨w, hw, rfl⟩)
      · cases hm
    · cases hm
  · cases hm
theorem mCallM_den {n : Nat} {E : XK} {t : TA} (hn : ∀ e xs e1, ms e = some (xs, e1) → xs.length = n) (hl : AS K p ms t) : ∀ σ H Q, den K false (mCallM sem ms) σ H Q → tCall (spOf K (List.replicate n false) sem) [] E t σ H Q := fun σ H Q ⟨B, F, e, G, y, e', s, hm, k⟩ => by
  unfold mCallM at hm
  split at hm
  · rename_i xs e1 h1
    split at hm
    · rename_i x h2
      obtain ⟨rfl, rfl⟩ := so hm
      refine hl σ H _ ⟨B, F, e, G, xs, e1, s, h1, fun F1 H1 ws s1 r1 sm1 => ?_⟩
      subst r1
      rw [List.append_nil]
      exact call_run s1 (by have := hn _ _ _ h1; rw [List.length_map] at this; exact this) h2 (fun F2 H2 v s2 sm2 => k F2 H2 v s2 fun z => nomatch z) E
    · cases hm
  · cases hm
theorem rpl_dfs {F H : Hp} : ∀ {vs : List V} {ds : List PyData}, DfAll K F vs ds → RpL K F H (vs.zip (ds.map O.v)) []
  | _, _, .nil => .nil
  | _, _, .cons a t => .cons (T1 := []) (.v a) (rpl_dfs t)
theorem mCallL_den {n : Nat} {E : XK} {t : TA} (hn : ∀ e xs e1, ms e = some (xs, e1) → xs.length = n) (hl : LS K p ms t) : ∀ σ H Q, den K p (mCallL sem ms) σ H Q → tCall (spOf K (List.replicate n false) sem) [] E t σ H Q := fun σ H Q ⟨B, F, e, G, y, e', s, hm, k⟩ => by
  unfold mCallL at hm
  split at hm
  · rename_i xs e1 h1
    split at hm
    · rename_i ds h2
      split at hm
      · rename_i z h3
        split at hm
        · rename_i hz
          obtain ⟨rfl, rfl⟩ := so hm
          refine hl σ H _ ⟨B, F, e, G, xs, e1, s, h1, fun F1 H1 vs s1 r1 sm1 => ?_⟩
          show spOf K (List.replicate n false) sem (vs ++ []) H1 Q E
          rw [List.append_nil]
          have hd := r1.df s1.fh h2
          have hlv : vs.length = ds.length := dfa_len hd
          have hlx : ds.length = n := by
            rw [← hn _ _ _ h1]
            clear h1 h3 hz hd hlv r1 k hn
            induction xs generalizing ds with
            | nil => unfold O.toDs at h2; cases h2; rfl
            | cons x xs ih =>
              unfold O.toDs at h2
              split at h2
              · rename_i d ds' _ h5
                cases h2
                rw [List.length_cons, List.length_cons, ih _ h5]
              · cases h2
          refine ⟨H1, H1, ds.map .v, _, [], by rw [List.length_replicate, hlv, hlx], by rw [List.length_map, List.length_replicate, hlx], ⟨.refl _, .refl _, fun p o e => .inl e, .refl _, [], rpl_dfs hd, .nil, fun p hp => nomatch hp⟩, h3, fun F' H' v r => ?_⟩
          rw [brV_no] at r
          obtain ⟨v', hv'⟩ := Option.isSome_iff_exists.mp hz
          have e : v = v' := df_sV hv' r.dp
          subst e
          have sm : Same H1 H' := r.h0
          refine k F1 H' v (Sta.push ?_ (sV_df hv')) fun z => (sm1 z).trans sm
          obtain ⟨T, rl, nd, hp⟩ := s1.rel.res
          refine ⟨s1.ok, s1.rel.h0.trans sm, s1.rel.f0, s1.rel.fn, s1.rel.fh.trans sm, T, rpl_mono (.refl _) rl fun p q => ?_, nd, hp⟩
          cases e : H1 p with
          | none => exact absurd e (rpl_dom rl p q)
          | some o => exact sm p o e
        · cases hm
      · cases hm
    · cases hm
  · cases hm
variable {k : Nat} {f : Addr} {fd : FuncData} {ps : List Str} {x : Str} {p1 pos : Pos} {e : Expr} {es : List Expr} {n : Nat}
theorem d_call (F : FnG X.prog X.w X.K X.mg X.base CX0 k f fd ps (spOf X.K (List.replicate n false) sem)) (hr : RoomG k X.A) (hg : Gl X x) (hm : X.mg x = some (.ref f)) (hk : PySem.W.keepIn X.K (.ref f) = true) (hb : Binds X.K fd ps [])
    (hn : ∀ e xs e1, ms e = some (xs, e1) → xs.length = n) (ha : PA X (e :: es) (denA X.K p ms)) (hdb : (x == ("__debug__" : Str)) = false := by decide) (he : starEach (e :: es) X.env = (false, eval e X.env) :: starEach es X.env := by rfl) (hpl : (backTo pos (starEach es X.env)).any (·.1) = false := by rfl) :
    PE X (.Call (.Name x p1) (e :: es) [] pos) (den X.K p (mCall sem ms)) := pe_imp (pe_callG F hr hg hm hk hb .nil pass0 ha hdb he hpl) (mCall_den hn fun _ _ _ h => h)
theorem d_callM (F : FnG X.prog X.w X.K X.mg X.base CX0 k f fd ps (spOf X.K (List.replicate n false) sem)) (hr : RoomG k X.A) (hg : Gl X x) (hm : X.mg x = some (.ref f)) (hk : PySem.W.keepIn X.K (.ref f) = true) (hb : Binds X.K fd ps [])
    (hn : ∀ e xs e1, ms e = some (xs, e1) → xs.length = n) (ha : PA X (e :: es) (denA X.K p ms)) (hdb : (x == ("__debug__" : Str)) = false := by decide) (he : starEach (e :: es) X.env = (false, eval e X.env) :: starEach es X.env := by rfl) (hpl : (backTo pos (starEach es X.env)).any (·.1) = false := by rfl) :
    PE X (.Call (.Name x p1) (e :: es) [] pos) (den X.K false (mCallM sem ms)) := pe_imp (pe_callG F hr hg hm hk hb .nil pass0 ha hdb he hpl) (mCallM_den hn fun _ _ _ h => h)
theorem d_callL (F : FnG X.prog X.w X.K X.mg X.base CX0 k f fd ps (spOf X.K (List.replicate n false) sem)) (hr : RoomG k X.A) (hg : Gl X x) (hm : X.mg x = some (.ref f)) (hk : PySem.W.keepIn X.K (.ref f) = true) (hb : Binds X.K fd ps [])
    (hn : ∀ e xs e1, ms e = some (xs, e1) → xs.length = n) (ha : PA X (e :: es) (denL X.K p ms)) (hdb : (x == ("__debug__" : Str)) = false := by decide) (he : starEach (e :: es) X.env = (false, eval e X.env) :: starEach es X.env := by rfl) (hpl : (backTo pos (starEach es X.env)).any (·.1) = false := by rfl) :
    PE X (.Call (.Name x p1) (e :: es) [] pos) (den X.K p (mCallL sem ms)) := pe_imp (pe_callG F hr hg hm hk hb .nil pass0 ha hdb he hpl) (mCallL_den hn fun _ _ _ h => h)
/-! how many arguments there are -/
theorem n_nil : ∀ e xs e1, lNil e = some (xs, e1) → xs.length = 0 := fun e xs e1 h => by cases h; rfl
theorem n_cons {m : MD O} {ms : MD (List O)} {n : Nat} (h : ∀ e xs e1, ms e = some (xs, e1) → xs.length = n) : ∀ e xs e1, lCons m ms e = some (xs, e1) → xs.length = n + 1 := fun e xs e1 hm => by
  unfold lCons at hm
  split at hm
  · split at hm
    · rename_i h2
      obtain ⟨rfl, rfl⟩ := so hm
      rw [List.length_cons, h _ _ _ h2]
    · cases hm
  · cases hm
theorem n_mv {i : Nat} {ms : MD (List O)} {n : Nat} (h : ∀ e xs e1, ms e = some (xs, e1) → xs.length = n) : ∀ e xs e1, aMv i ms e = some (xs, e1) → xs.length = n + 1 := fun e xs e1 hm => by
  unfold aMv at hm
  split at hm
  · split at hm
    · rename_i h2
      split at hm
      · obtain ⟨rfl, rfl⟩ := so hm
        rw [List.length_cons, h _ _ _ h2]
      · cases hm
    · cases hm
  · cases hm
theorem n_see {i : Nat} {ms : MD (List O)} {n : Nat} (h : ∀ e xs e1, ms e = some (xs, e1) → xs.length = n) : ∀ e xs e1, lSee i ms e = some (xs, e1) → xs.length = n + 1 := fun e xs e1 hm => by
  unfold lSee at hm
  split at hm
  · split at hm
    · rename_i h2
      split at hm
      · obtain ⟨rfl, rfl⟩ := so hm
        rw [List.length_cons, h _ _ _ h2]
      · cases hm
    · cases hm
  · cases hm

/-! ### things that are lent -/
def aRf (i : Nat) (ms : MD (List O)) : MD (List O) := fun e => match bVar i e with
  | some _ => (match ms e with
    | some (xs, e1) => (match bVar i e1 with
      | some x => some (x :: xs, e1.set i .no)
      | none => none)
    | none => none)
  | none => none
def valAt (σ : St) (i : Nat) : Option V := (σ[i]?).join
/-- br: which arguments are lent; rs: the slots of these -/
def denR (K : PySem.W.Frag) (a : Bool) (br : List Bool) (rs : List Nat) (m : MD (List O)) : TA := fun σ H Q => ∃ B F e G xs e', Sta K B F H σ e G ∧ m e = some (xs, e') ∧ ∀ F' H' ws, Sta K B F' H' σ e' (ws ++ G) → ws.map (·.2) = xs → ws.length = br.length → (brV br (ws.map (·.1))).map some = rs.map (valAt σ) → (a = true → Same H H') → Q (ws.map (·.1)) H'
def RS (K : PySem.W.Frag) (p : Bool) (br : List Bool) (rs : List Nat) (m : MD (List O)) (t : TA) : Prop := ∀ σ H Q, denR K p br rs m σ H Q → t σ H Q
theorem rs_nil : RS K true [] [] aNil tNil := fun σ H Q ⟨B, F, e, G, y, e', s, hm, k⟩ => by
  cases hm
  exact k F H [] s rfl rfl rfl fun _ => .refl _
theorem rs_cons {p q : Bool} {br : List Bool} {rs : List Nat} {m : MD O} {ms : MD (List O)} {t : TA} (h : RS K q br rs ms t) : RS K (p && q) (false :: br) rs (aCons m ms) (tCons (den K p m) t) := fun σ H Q ⟨B, F, e, G, y, e', s, hm, k⟩ => by
  unfold aCons lCons at hm
  split at hm
  · rename_i x e1 h1
    split at hm
    · rename_i xs e2 h2
      obtain ⟨rfl, rfl⟩ := so hm
      refine ⟨B, F, e, G, x, e1, s, h1, fun F1 H1 v s1 sm1 => h σ H1 _ ⟨B, F1, e1, (v, x) :: G, xs, e2, s1, h2, fun F2 H2 ws s2 r2 l2 b2 sm2 => ?_⟩⟩
      refine k F2 H2 ((v, x) :: ws) (s2.perm (mid _ _ _)) (by rw [List.map_cons, r2]) (by rw [List.length_cons, List.length_cons, l2]) b2 fun z => (sm1 (band1 z)).trans (sm2 (band2 z))
    · cases hm
  · cases hm
theorem rs_ref {q : Bool} {i : Nat} {br : List Bool} {rs : List Nat} {ms : MD (List O)} {t : TA} (h : RS K q br rs ms t) : RS K q (true :: br) (i :: rs) (aRf i ms) (tCons (tVar i) t) := fun σ H Q ⟨B, F, e, G, y, e', s, hm, k⟩ => by
  unfold aRf at hm
  split at hm
  · rename_i x0 h0
    split at hm
    · rename_i xs e1 h1
      split at hm
      · rename_i x h2
        obtain ⟨rfl, rfl⟩ := so hm
        obtain ⟨sl0, hi0, ho0⟩ := Option.bind_eq_some_iff.mp h0
        obtain ⟨v, hv, _⟩ := s.seeO hi0 ho0
        refine ⟨v, hv, h σ H _ ⟨B, F, e, G, xs, e1, s, h1, fun F1 H1 ws s1 r1 l1 b1 sm1 => ?_⟩⟩
        obtain ⟨sl, hi, ho⟩ := Option.bind_eq_some_iff.mp h2
        obtain ⟨v', hv', s2⟩ := s1.out hi ho
        obtain rfl : v' = v := by rw [hv] at hv'; cases hv'; rfl
        refine k F1 H1 ((v', x) :: ws) s2 (by rw [List.map_cons, r1]) (by rw [List.length_cons, List.length_cons, l1]) ?_ sm1
        simp only [List.map_cons, brV, b1, List.cons.injEq, and_true]
        unfold valAt
        rw [hv]
        rfl
      · cases hm
    · cases hm
  · cases hm
/-- behind the call the lent things stand in their slots again; e0: the kinds of the slots -/
def putBk (e0 : En) : En → List Nat → List O → Option En
  | e, [], [] => some e
  | e, i :: rs, o :: os => (match e0[i]?, e[i]? with
    | some (.own _), some .no => putBk e0 (e.set i (.own o)) rs os
    | some (.pin _), some .no => putBk e0 (e.set i (.pin o)) rs os
    | _, _ => none)
  | _, _, _ => none
def mCallR (sem : Sem1) (ms : MD (List O)) (rs : List Nat) : MD O := fun e => match ms e with
  | some (xs, e1) => (match sem xs with
    | some (x, os) => (match putBk e e1 rs os with
      | some e2 => some (x, e2)
      | none => none)
    | none => none)
  | none => none
theorem putBk_run {B : Bs} {F H : Hp} {σ : St} {e0 : En} (ok0 : SlOk B.vs σ e0) : ∀ {rs : List Nat} {os : List O} {e e2 : En} {vs : List V} {G : Ws}, putBk e0 e rs os = some e2 → vs.map some = rs.map (valAt σ) → Sta K B F H σ e (vs.zip os ++ G) → Sta K B F H σ e2 G
  | [], [], e, e2, vs, G, h, hv, s => by
    unfold putBk at h
    cases h
    cases vs with
    | nil => exact s
    | cons _ _ => simp at hv
  | i :: rs, o :: os, e, e2, v :: vs, G, h, hv, s => by
    simp only [List.map_cons, List.cons.injEq] at hv
    have hσ : σ[i]? = some (some v) := by
      have := hv.1
      unfold valAt at this
      cases h' : σ[i]? with
      | none => rw [h'] at this; cases this
      | some y => rw [h'] at this; cases y <;> cases this; rfl
    unfold putBk at h
    split at h
    · rename_i o0 h0 h1
      have hl := (List.getElem?_eq_some_iff.mp h1).1
      have e1 : e.set i .no = e := set_self h1
      have s1 : Sta K B F H σ (e.set i (.own o)) (vs.zip os ++ G) := Sta.back (e := e) (by rw [e1]; exact s) hσ hl (show (Sl.own o).o? = some o from rfl) (by
        have := s.ok.set (i := i) (v := v) (o := o)
        have e2 : σ.set i (some v) = σ := by
          apply List.ext_getElem?
          intro j
          by_cases hj : i = j
          · subst hj; rw [List.getElem?_set_self (List.getElem?_eq_some_iff.mp hσ).1, hσ]
          · rw [List.getElem?_set_ne hj]
        rw [e2] at this
        exact this)
      exact putBk_run ok0 h hv.2 s1
    · rename_i o0 h0 h1
      have hl := (List.getElem?_eq_some_iff.mp h1).1
      have e1 : e.set i .no = e := set_self h1
      have s1 : Sta K B F H σ (e.set i (.pin o)) (vs.zip os ++ G) := Sta.back (e := e) (by rw [e1]; exact s) hσ hl (show (Sl.pin o).o? = some o from rfl) (by
        refine ⟨by rw [List.length_set]; exact s.ok.len, fun j sl hj => ?_⟩
        by_cases hij : i = j
        · subst hij
          rw [List.getElem?_set_self hl] at hj
          cases hj
          obtain ⟨y, hy, q⟩ := ok0.sl i _ h0
          exact ⟨y, hy, q⟩
        · rw [List.getElem?_set_ne hij] at hj
          exact s.ok.sl j sl hj)
      exact putBk_run ok0 h hv.2 s1
    · cases h
  | i :: rs, o :: os, e, e2, [], G, h, hv, s => by simp at hv
  | [], _ :: _, _, _, _, _, h, _, _ => by unfold putBk at h; cases h
  | _ :: _, [], _, _, _, _, h, _, _ => by unfold putBk at h; cases h
theorem mCallR_den {br : List Bool} {rs : List Nat} {E : XK} {t : TA} (hl : RS K p br rs ms t) : ∀ σ H Q, den K false (mCallR sem ms rs) σ H Q → tCall (spOf K br sem) [] E t σ H Q := fun σ H Q ⟨B, F, e, G, y, e', s, hm, k⟩ => by
  unfold mCallR at hm
  split at hm
  · rename_i xs e1 h1
    split at hm
    · rename_i x os h2
      split at hm
      · rename_i e2 h3
        obtain ⟨rfl, rfl⟩ := so hm
        refine hl σ H _ ⟨B, F, e, G, xs, e1, s, h1, fun F1 H1 ws s1 r1 l1 b1 sm1 => ?_⟩
        subst r1
        rw [List.append_nil]
        obtain ⟨H2, q1, q2, _⟩ := (s1.rel.perm (pmid _ _ _)).hand
        refine ⟨H2, F1, ws.map (·.2), x, os, by rw [List.length_map, l1], by rw [List.length_map, l1], by rw [zip_ws]; exact q1, h2, fun F' H' v r => ?_⟩
        have q := q2 F' H' _ r
        have s2 : Sta K B F' H' σ e1 ((brV br (ws.map (·.1))).zip os ++ ((v, x) :: G)) := ⟨s1.ok, q.perm (by
          rw [List.cons_append]
          refine List.Perm.trans ?_ (pmid _ _ _).symm
          refine List.Perm.trans ?_ (List.Perm.append_left _ (mid _ _ _).symm)
          exact (mid _ _ _).symm)⟩
        exact k F' H' v (putBk_run s.ok h3 b1 s2) fun z => nomatch z
      · cases hm
    · cases hm
  · cases hm
theorem dr_nil : PA X [] (denR X.K true [] [] aNil) := pa_imp pa_nil rs_nil
theorem dr_cons {p q : Bool} {br : List Bool} {rs : List Nat} {m : MD O} {ms : MD (List O)} (ha : PE X e (den X.K p m)) (hr : PA X es (denR X.K q br rs ms)) (hs : starEach (e :: es) X.env = (false, eval e X.env) :: starEach es X.env := by rfl) :
    PA X (e :: es) (denR X.K (p && q) (false :: br) rs (aCons m ms)) := pa_imp (pa_cons ha hr hs) (rs_cons fun _ _ _ h => h)
theorem dr_ref {q : Bool} {i : Nat} {br : List Bool} {rs : List Nat} {ms : MD (List O)} (ha : PE X e (tVar i)) (hr : PA X es (denR X.K q br rs ms)) (hs : starEach (e :: es) X.env = (false, eval e X.env) :: starEach es X.env := by rfl) :
    PA X (e :: es) (denR X.K q (true :: br) (i :: rs) (aRf i ms)) := pa_imp (pa_cons ha hr hs) (rs_ref fun _ _ _ h => h)
theorem d_callR {br : List Bool} {rs : List Nat} (F : FnG X.prog X.w X.K X.mg X.base CX0 k f fd ps (spOf X.K br sem)) (hr : RoomG k X.A) (hg : Gl X x) (hm : X.mg x = some (.ref f)) (hk : PySem.W.keepIn X.K (.ref f) = true) (hb : Binds X.K fd ps [])
    (ha : PA X (e :: es) (denR X.K p br rs ms)) (hdb : (x == ("__debug__" : Str)) = false := by decide) (he : starEach (e :: es) X.env = (false, eval e X.env) :: starEach es X.env := by rfl) (hpl : (backTo pos (starEach es X.env)).any (·.1) = false := by rfl) :
    PE X (.Call (.Name x p1) (e :: es) [] pos) (den X.K false (mCallR sem ms rs)) := pe_imp (pe_callG F hr hg hm hk hb .nil pass0 ha hdb he hpl) (mCallR_den fun _ _ _ h => h)
/-! ### isinstance -/
def tyN : PyData → Option String
  | .none => some "NoneType"
  | .bool _ => some "bool"
  | .int _ => some "int"
  | .str _ => some "str"
  | .list _ => some "list"
  | .tuple _ => some "tuple"
  | .dict _ => none
def isiB (d : PyData) (T : String) : Bool := match d with
  | .none => false
  | .bool _ => T == "bool" || T == "int"
  | .int _ => T == "int"
  | .str _ => T == "str"
  | .list _ => T == "list"
  | .tuple _ => T == "tuple"
  | .dict _ => false
def fIsi (T : String) : List PyData → Option PyData
  | [d] => (match tyN d with
    | some _ => some (.bool (isiB d T))
    | none => none)
  | _ => none
def IsiT (T : String) : Prop := kitB "NoneType" T = some false ∧ kitB "bool" T = some (T == "bool" || T == "int") ∧ kitB "int" T = some (T == "int") ∧ kitB "str" T = some (T == "str") ∧ kitB "list" T = some (T == "list") ∧ kitB "tuple" T = some (T == "tuple")
def rIsiT (K : PySem.W.Frag) (T : String) : List V → Hp → VK → Prop := fun vs H Q => match vs with
  | [x] => rIsi K [x, .ty T] H Q
  | _ => False
theorem sc_isi {T : String} (hT : IsiT T) : Sc K (fIsi T) (rIsiT K T) := fun H vs ds z a hf => by
  unfold fIsi at hf
  split at hf
  · split at hf
    · cases hf
      obtain ⟨v, rfl, b⟩ := dfa1 a
      obtain ⟨h1, h2, h3, h4, h5, h6⟩ := hT
      refine ⟨_, rfl, fun Q q => ?_⟩
      cases b with
      | non => exact ⟨_, _, _, _, _, rfl, .ty T, .base .non, kit_ty h1, q⟩
      | bl b => exact ⟨_, _, _, _, _, rfl, .ty T, .base (.bl b), kit_ty h2, q⟩
      | int i => exact ⟨_, _, _, _, _, rfl, .ty T, .base (.int i), kit_ty h3, q⟩
      | str x => exact ⟨_, _, _, _, _, rfl, .ty T, .base (.str x), kit_ty h4, q⟩
      | lst hp _ => exact ⟨_, _, _, _, _, rfl, .ty T, .base (.lst hp), kit_ty h5, q⟩
      | tup hp _ => exact ⟨_, _, _, _, _, rfl, .ty T, .base (.tup hp), kit_ty h6, q⟩
    · cases hf
  · cases hf
theorem isi_int : IsiT "int" := by unfold IsiT; decide +kernel
theorem isi_bool : IsiT "bool" := by unfold IsiT; decide +kernel
theorem isi_str : IsiT "str" := by unfold IsiT; decide +kernel
theorem isi_list : IsiT "list" := by unfold IsiT; decide +kernel
theorem isi_tuple : IsiT "tuple" := by unfold IsiT; decide +kernel
theorem d_isi {T : String} {y : Str} {a : Expr} {ta : TE} {pn : Pos} (hT : IsiT T) (hg : Gl X "isinstance") (hm : X.mg "isinstance" = none) (hy : PE X (.Name y pn) (tC (.ty T))) (ha : PE X a ta) (hl : LS X.K p ms (tCons ta tNil))
    (hs : starEach [a, .Name y pn] X.env = (false, eval a X.env) :: starEach [.Name y pn] X.env := by rfl) (hs2 : starEach [.Name y pn] X.env = (false, eval (.Name y pn) X.env) :: starEach [] X.env := by rfl) (hpl : (backTo pos (starEach [.Name y pn] X.env)).any (·.1) = false := by rfl) :
    PE X (.Call (.Name "isinstance" p1) [a, .Name y pn] [] pos) (den X.K p (mL (fIsi T) ms)) :=
  pe_imp (pe_callB call_isi hg hm (by decide +kernel) (pa_cons ha (pa_cons hy pa_nil hs2) hs) (by decide) (by decide) hs hpl) (mL_den (r := rIsiT X.K T) (t := tCons ta tNil) (sc_isi hT) hl)
end
end Dn

set_option Elab.async false
set_option linter.all false
set_option maxRecDepth 100000
set_option maxHeartbeats 4000000
namespace Dn
open PySem L2
/-- a def of the text as callers see it -/
structure Cal (P : Program) (w : World) (K : PySem.W.Frag) (mg : Str → Option Value) (base : Heap) (k : Nat) (x : Str) (ps : List Str) (sp : Sp) : Prop where
  ex : ∃ f fd, FnG P w K mg base CX0 k f fd ps sp ∧ mg x = some (.ref f) ∧ PySem.W.keepIn K (.ref f) = true ∧ Binds K fd ps []
theorem Cal.mk' {P : Program} {w : World} {K : PySem.W.Frag} {mg : Str → Option Value} {base : Heap} {k : Nat} {x : Str} {ps : List Str} {sp : Sp} {f : Addr} {fd : FuncData} (G : FnG P w K mg base CX0 k f fd ps sp) (m : mg x = some (.ref f)) (kp : PySem.W.keepIn K (.ref f) = true) (b : Binds K fd ps []) : Cal P w K mg base k x ps sp := ⟨f, fd, G, m, kp, b⟩
theorem hu65 {A : Around} {k : Nat} (hr : RoomG k A) : A.units + 65 < cLine := by have := hr.un; omega
section
variable {X : Cx} {p : Bool} {ms : MD (List O)} {sem : Sem1} {k : Nat} {ps : List Str} {x : Str} {p1 pos : Pos} {e : Expr} {es : List Expr} {n : Nat}
theorem c_call (C : Cal X.prog X.w X.K X.mg X.base k x ps (spOf X.K (List.replicate n false) sem)) (hr : RoomG k X.A) (hg : Gl X x)
    (hn : ∀ e xs e1, ms e = some (xs, e1) → xs.length = n) (ha : PA X (e :: es) (denA X.K p ms)) (hdb : (x == ("__debug__" : Str)) = false := by decide) (he : starEach (e :: es) X.env = (false, eval e X.env) :: starEach es X.env := by rfl) (hpl : (backTo pos (starEach es X.env)).any (·.1) = false := by rfl) :
    PE X (.Call (.Name x p1) (e :: es) [] pos) (den X.K p (mCall sem ms)) := by
  obtain ⟨f, fd, F, hm, hk, hb⟩ := C.ex
  exact d_call F hr hg hm hk hb hn ha hdb he hpl
theorem c_callM (C : Cal X.prog X.w X.K X.mg X.base k x ps (spOf X.K (List.replicate n false) sem)) (hr : RoomG k X.A) (hg : Gl X x)
    (hn : ∀ e xs e1, ms e = some (xs, e1) → xs.length = n) (ha : PA X (e :: es) (denA X.K p ms)) (hdb : (x == ("__debug__" : Str)) = false := by decide) (he : starEach (e :: es) X.env = (false, eval e X.env) :: starEach es X.env := by rfl) (hpl : (backTo pos (starEach es X.env)).any (·.1) = false := by rfl) :
    PE X (.Call (.Name x p1) (e :: es) [] pos) (den X.K false (mCallM sem ms)) := by
  obtain ⟨f, fd, F, hm, hk, hb⟩ := C.ex
  exact d_callM F hr hg hm hk hb hn ha hdb he hpl
theorem c_callL (C : Cal X.prog X.w X.K X.mg X.base k x ps (spOf X.K (List.replicate n false) sem)) (hr : RoomG k X.A) (hg : Gl X x)
    (hn : ∀ e xs e1, ms e = some (xs, e1) → xs.length = n) (ha : PA X (e :: es) (denL X.K p ms)) (hdb : (x == ("__debug__" : Str)) = false := by decide) (he : starEach (e :: es) X.env = (false, eval e X.env) :: starEach es X.env := by rfl) (hpl : (backTo pos (starEach es X.env)).any (·.1) = false := by rfl) :
    PE X (.Call (.Name x p1) (e :: es) [] pos) (den X.K p (mCallL sem ms)) := by
  obtain ⟨f, fd, F, hm, hk, hb⟩ := C.ex
  exact d_callL F hr hg hm hk hb hn ha hdb he hpl
theorem c_callR {br : List Bool} {rs : List Nat} (C : Cal X.prog X.w X.K X.mg X.base k x ps (spOf X.K br sem)) (hr : RoomG k X.A) (hg : Gl X x)
    (ha : PA X (e :: es) (denR X.K p br rs ms)) (hdb : (x == ("__debug__" : Str)) = false := by decide) (he : starEach (e :: es) X.env = (false, eval e X.env) :: starEach es X.env := by rfl) (hpl : (backTo pos (starEach es X.env)).any (·.1) = false := by rfl) :
    PE X (.Call (.Name x p1) (e :: es) [] pos) (den X.K false (mCallR sem ms rs)) := by
  obtain ⟨f, fd, F, hm, hk, hb⟩ := C.ex
  exact d_callR F hr hg hm hk hb ha hdb he hpl
/-- a constant of the module -/
theorem d_glob {d : PyData} {v : V} {u : Value} (hg : Gl X x) (hm : X.mg x = some u) (r : RelV v u) (hd : sV d = some v) (hdb : (x == ("__debug__" : Str)) = false := by decide) : PE X (.Name x pos) (den X.K true (mC d)) := pe_imp (pe_glob hg hm r hdb) fun σ H Q ⟨B, F, e, G, y, e', s, hm, k⟩ => by
  cases hm
  exact k F H v (s.push (sV_df hd)) fun _ => .refl _
/-- a built-in class as a value -/
theorem d_ty {T : String} (hg : Gl X x) (hm : X.mg x = none) (hv : bootBuiltins x = some (.type T)) (hn : x ≠ "__name__" := by decide) (hdb : (x == ("__debug__" : Str)) = false := by decide) : PE X (.Name x pos) (tC (.ty T)) := pe_bltn hg hm hv rfl hn hdb
end
theorem bb_len : bootBuiltins "len" = some (.builtin "len") := by decide +kernel
theorem bb_max : bootBuiltins "max" = some (.builtin "max") := by decide +kernel
theorem bb_min : bootBuiltins "min" = some (.builtin "min") := by decide +kernel
theorem bb_abs : bootBuiltins "abs" = some (.builtin "abs") := by decide +kernel
theorem bb_sum : bootBuiltins "sum" = some (.builtin "sum") := by decide +kernel
theorem bb_all : bootBuiltins "all" = some (.builtin "all") := by decide +kernel
theorem bb_any : bootBuiltins "any" = some (.builtin "any") := by decide +kernel
theorem bb_sorted : bootBuiltins "sorted" = some (.builtin "sorted") := by decide +kernel
theorem bb_int : bootBuiltins "int" = some (.type "int") := by decide +kernel
theorem bb_str : bootBuiltins "str" = some (.type "str") := by decide +kernel
theorem bb_list : bootBuiltins "list" = some (.type "list") := by decide +kernel
theorem bb_tuple : bootBuiltins "tuple" = some (.type "tuple") := by decide +kernel
theorem bb_bool : bootBuiltins "bool" = some (.type "bool") := by decide +kernel
theorem bb_set : bootBuiltins "set" = some (.type "set") := by decide +kernel
/-! methods that tell scalars -/
section
variable {K : PySem.W.Frag} {X : Cx}
/-- x.index(y): the first place -/
def idxD (d : PyData) : List PyData → Nat → Option Nat
  | [], _ => none
  | z :: zs, n => if PyData.eqv z d then some n else idxD d zs (n + 1)
def fIndex : List PyData → Option PyData
  | [.list ds, d] => if SeqAt.shaped (.list ds) && SeqAt.shaped d then (match idxD d ds 0 with
    | some j => some (.int (j : Nat))
    | none => none) else none
  | _ => none
theorem idxD_some {d : PyData} : ∀ {ds : List PyData} {n j : Nat}, idxD d ds n = some j → ∃ i z, j = n + i ∧ ds[i]? = some z ∧ PyData.eqv z d = true ∧ ∀ (m : Nat) (z' : PyData), m < i → ds[m]? = some z' → PyData.eqv z' d = false
  | [], _, _, h => by cases h
  | z :: zs, n, j, h => by
    unfold idxD at h
    split at h
    · rename_i hz
      cases h
      exact ⟨0, z, rfl, rfl, hz, fun m z' hm => absurd hm (Nat.not_lt_zero _)⟩
    · rename_i hz
      obtain ⟨i, z1, e1, e2, e3, e4⟩ := idxD_some h
      refine ⟨i + 1, z1, by omega, by simpa using e2, e3, fun m z' hm hz' => ?_⟩
      cases m with
      | zero =>
        simp at hz'
        subst hz'
        simpa using hz
      | succ m => exact e4 m z' (by omega) (by simpa using hz')
/-- a method's reading by a list of values -/
def rM (r : V → List V → Hp → VK → Prop) : List V → Hp → VK → Prop := fun vs H Q => match vs with
  | x :: xs => r x xs H Q
  | [] => False
theorem sc_index : Sc K fIndex (rM (rIndexD K)) := fun H vs ds z a hf => by
  unfold fIndex at hf
  split at hf
  · split at hf
    · rename_i hs
      simp only [Bool.and_eq_true] at hs
      split at hf
      · rename_i j hj
        cases hf
        obtain ⟨v, u, rfl, b, c⟩ := dfa2 a
        obtain ⟨i, z, e1, e2, e3, e4⟩ := idxD_some hj
        obtain ⟨p, ws, rfl, hp, ha⟩ := df_list b
        rw [Nat.zero_add] at e1
        subst e1
        exact ⟨_, rfl, fun Q q => ⟨p, u, _, _, j, z, rfl, rfl, b.dp (.refl H), c.dp (.refl H), hs.1, hs.2, e2, e3, e4, q⟩⟩
      · cases hf
    · cases hf
  · cases hf
/-- x.m(y), x a slot's list that is looked at -/
def mLM (i : Nat) (f : List PyData → Option PyData) (ms : MD (List O)) : MD O := fun e => match bVar i e with
  | some (.l _) => mL f (lSee i ms) e
  | some (.v (.list _)) => mL f (lSee i ms) e
  | _ => none
theorem d_lm {i : Nat} {p : Bool} {x ex : Expr} {es : List Expr} {ms : MD (List O)} {f : List PyData → Option PyData} {r : V → List V → Hp → VK → Prop} {name : Str} {id : String} {apos cpos : Pos} (slot : Slot "list" name id) (hty : typeOf (.builtin id) = pure (.type "method_descriptor")) (hm : MtR X id r) (hr : Sc X.K f (rM r))
    (ho : PE X x (tVar i)) (ha : PA X (ex :: es) (denL X.K p ms)) (hbase : attributeBase x name X.env (eval x X.env) = eval x X.env := by rfl)
    (hfew : ((backTo cpos (starEach (ex :: es) X.env)).all (fun x => !x.1) && (backToKw cpos (keywordEach [] X.env)).all (fun x => x.1.isSome)
      && decide ((ex :: es).length + ([] : List Keyword).length + (if ([] : List Keyword).isEmpty then 0 else 1) < 30)) = true := by rfl)
    (hline : (apos.endLine == cpos.line) = true := by rfl) (hs : starEach (ex :: es) X.env = (false, eval ex X.env) :: starEach es X.env := by rfl) (hplain : (backTo cpos (starEach es X.env)).any (·.1) = false := by rfl) :
    PE X (.Call (.Attribute x name apos) (ex :: es) [] cpos) (den X.K p (mLM i f ms)) :=
  pe_imp (pe_bm PySem.F.plainAttrs_list slot hty hm ho ha hbase hfew hline hs hplain) fun σ H Q ⟨B, F, e, G, y, e', s, hmm, k⟩ => by
    have gen : ∀ {o : O}, bVar i e = some o → mL f (lSee i ms) e = some (y, e') → (∀ v, (∃ T, Rp X.K F H v o T) → tyV X.K "list" v H) → tBM X.K "list" r (tVar i) (denL X.K p ms) σ H Q := fun {o} h0 hm2 ty => by
      have q := mL_den (K := X.K) (p := p) (r := rM r) (t := tCons (tVar i) (denL X.K p ms)) hr (ls_see fun _ _ _ h => h) σ H Q ⟨B, F, e, G, y, e', s, hm2, k⟩
      obtain ⟨v, hv, q⟩ := q
      obtain ⟨sl0, hi0, ho0⟩ := Option.bind_eq_some_iff.mp h0
      obtain ⟨v', hv', T, rv⟩ := s.seeO hi0 ho0
      obtain rfl : v' = v := by rw [hv] at hv'; cases hv'; rfl
      exact ⟨v', hv, ty v' ⟨T, rv⟩, q⟩
    unfold mLM at hmm
    split at hmm
    · rename_i xs h0
      refine gen h0 hmm fun v ⟨T, rv⟩ => ?_
      cases rv with
      | l hp _ _ _ => exact .inl ⟨rfl, _, .of hp⟩
    · rename_i ds h0
      refine gen h0 hmm fun v ⟨T, rv⟩ => ?_
      obtain ⟨p, ws, rfl, hp, _⟩ := df_list (rp_v rv)
      exact .inl ⟨rfl, _, .of (s.fh _ _ hp)⟩
    · cases hmm
end
end Dn

set_option Elab.async false
set_option linter.all false
set_option maxRecDepth 100000
set_option maxHeartbeats 4000000
namespace Dn
open PySem L2
section
variable {K : PySem.W.Frag} {X : Cx} {B : Bs} {F H : Hp} {σ : St} {e : En} {G : Ws}
/-! ### to forget slots -/
theorem set_join {σ : St} {v : Nat} : σ.set v (σ[v]?).join = σ := by
  apply List.ext_getElem?
  intro j
  by_cases h : v = j
  · subst h
    by_cases hv : v < σ.length
    · rw [List.getElem?_set_self hv, List.getElem?_eq_getElem hv]; rfl
    · rw [List.getElem?_eq_none (by rw [List.length_set]; omega), List.getElem?_eq_none (by omega)]
  · rw [List.getElem?_set_ne h]
theorem Sta.forget1 {v : Nat} (s : Sta K B F H σ e G) : Sta K B F H σ (e.set v .no) G := by
  have q := s.wipe1 (v := v) (x := (σ[v]?).join)
  rw [set_join] at q
  exact q
theorem Sta.forget : ∀ {vs : List Nat}, Sta K B F H σ e G → Sta K B F H σ (Dn.hide e vs) G
  | [], s => s
  | v :: vs, s => by
    unfold Dn.hide
    exact (Sta.forget (vs := vs) s).forget1
def mKill (vs : List Nat) : MS := fun e => some (.nx (hide e vs))
theorem dss_kill {vs : List Nat} {st : List Stmt} {m : MS} (h : PSs X st (denS X.K m)) : PSs X st (denS X.K (mSeq (mKill vs) m)) := pss_imp h fun D σ H ⟨B, F, e, G, oc, s, hm, k⟩ =>
  ⟨B, F, hide e vs, G, oc, s.forget, hm, k⟩
/-! ### to freeze slots -/
def frzS : Sl → Sl
  | .own o => (match o.toD with
    | some d => .own (.v d)
    | none => .own o)
  | s => s
def frz (e : En) : List Nat → En
  | [] => e
  | v :: vs => frz (match e[v]? with
    | some s => e.set v (frzS s)
    | none => e) vs
theorem Sta.frz1 {v : Nat} {sl : Sl} (s : Sta K B F H σ e G) (hi : e[v]? = some sl) : ∃ F', Sta K B F' H σ (e.set v (frzS sl)) G := by
  cases sl with
  | no => exact ⟨F, by rw [show frzS .no = .no from rfl, set_self hi]; exact s⟩
  | pin o => exact ⟨F, by rw [show frzS (.pin o) = .pin o from rfl, set_self hi]; exact s⟩
  | own o =>
    cases h : o.toD with
    | none =>
      have : frzS (.own o) = .own o := by show (match o.toD with | some d => Sl.own (O.v d) | none => Sl.own o) = _; rw [h]
      exact ⟨F, by rw [this, set_self hi]; exact s⟩
    | some d =>
      have : frzS (.own o) = .own (.v d) := by show (match o.toD with | some d => Sl.own (O.v d) | none => Sl.own o) = _; rw [h]
      rw [this]
      obtain ⟨x, hv, s1⟩ := s.out hi (show (Sl.own o).o? = some o from rfl)
      obtain ⟨F', s2⟩ := s1.freeze h
      have hl : v < e.length := (List.getElem?_eq_some_iff.mp hi).1
      exact ⟨F', Sta.back (e := e) s2 hv hl (show (Sl.own (.v d)).o? = some (.v d) from rfl) (s.ok.own hi)⟩
theorem Sta.frz : ∀ {vs : List Nat} {F : Hp} {e : En}, Sta K B F H σ e G → ∃ F', Sta K B F' H σ (Dn.frz e vs) G
  | [], F, e, s => ⟨F, s⟩
  | v :: vs, F, e, s => by
    unfold Dn.frz
    cases hi : e[v]? with
    | none => exact Sta.frz (vs := vs) s
    | some sl =>
      obtain ⟨F', s'⟩ := s.frz1 hi
      exact Sta.frz (vs := vs) s'
def mFrz (vs : List Nat) : MS := fun e => some (.nx (frz e vs))
theorem dss_frz {vs : List Nat} {st : List Stmt} {m : MS} (h : PSs X st (denS X.K m)) : PSs X st (denS X.K (mSeq (mFrz vs) m)) := pss_imp h fun D σ H ⟨B, F, e, G, oc, s, hm, k⟩ => by
  obtain ⟨F', s'⟩ := s.frz (vs := vs)
  exact ⟨B, F', _, G, oc, s', hm, k⟩
/-- the slots vs frozen, then m -/
def mFrzE {α : Type} (vs : List Nat) (m : MD α) : MD α := fun e => m (frz e vs)
theorem d_frz {x : Expr} {vs : List Nat} {p : Bool} {m : MD O} (h : PE X x (den X.K p m)) : PE X x (den X.K p (mFrzE vs m)) := pe_imp h fun σ H Q ⟨B, F, e, G, y, e', s, hm, k⟩ => by
  obtain ⟨F', s'⟩ := s.frz (vs := vs)
  exact ⟨B, F', _, G, y, e', s', hm, k⟩
theorem di_frz {tg iter : Expr} {vs : List Nat} {p : Bool} {m : MD (List O)} (h : PI X tg iter (denI X.K p m)) : PI X tg iter (denI X.K p (mFrzE vs m)) := pi_imp h fun σ H R ⟨B, F, e, G, y, e', s, hm, k⟩ => by
  obtain ⟨F', s'⟩ := s.frz (vs := vs)
  exact ⟨B, F', _, G, y, e', s', hm, k⟩
/-- what is told, frozen -/
def mFz (m : MD O) : MD O := fun e => match m e with
  | some (x, e1) => (match x.toD with
    | some d => some (.v d, e1)
    | none => none)
  | none => none
theorem fz_den {p : Bool} {m : MD O} {t : TE} (h : ∀ σ H Q, den K p m σ H Q → t σ H Q) : ∀ σ H Q, den K p (mFz m) σ H Q → t σ H Q := fun σ H Q ⟨B, F, e, G, y, e', s, hm, k⟩ => by
  unfold mFz at hm
  split at hm
  · rename_i z e1 h1
    split at hm
    · rename_i d hd
      obtain ⟨rfl, rfl⟩ := so hm
      refine h σ H Q ⟨B, F, e, G, z, e1, s, h1, fun F1 H1 v s1 sm => ?_⟩
      obtain ⟨F2, s2⟩ := s1.freeze hd
      exact k F2 H1 v s2 sm
    · cases hm
  · cases hm
theorem d_fz {x : Expr} {p : Bool} {m : MD O} (h : PE X x (den X.K p m)) : PE X x (den X.K p (mFz m)) := pe_imp h (fz_den fun _ _ _ h => h)
theorem ds_setLcF {i : Nat} {y : Str} {py : Pos} {elt tgE iter : Expr} {ifs : List Expr} {scope : Scope} {own : List (Str × Nat)} {pos spos : Pos} {tg : Tg} {p q r : Bool} {mi : MD (List O)} {mt : MD Bool} {me : MD O} (hc : X.calm = true) (hN : X.N.Nodup) (hy : X.N[i]? = some y) (hyl : X.env.scope.names.lookup y = some .local)
    (hsw : swapsWith (.ListComp elt [⟨tgE, iter, ifs, 0⟩] scope pos) (some (.Name y py)) spos.line X.env = pure true) (hi : PI X tgE iter (denI X.K p mi)) (ok : BlkOk X.N X.env.scope scope own)
    (hg : ∀ (s : Shared) (H : Hp) (C : Addr) (cl : List (Str × Addr)) (fp : List Addr), PG (X.blk s H scope (compEnvC scope cl C X.env) fp) tgE (tg.rd X.K))
    (ht : ∀ (s : Shared) (H : Hp) (C : Addr) (cl : List (Str × Addr)) (fp : List Addr), PTs (X.blk s H scope (compEnvC scope cl C X.env) fp) ifs (denT X.K q mt))
    (he : ∀ (s : Shared) (H : Hp) (C : Addr) (cl : List (Str × Addr)) (fp : List Addr), PE (X.blk s H scope (compEnvC scope cl C X.env) fp) elt (den X.K r me)) (hs : ∀ x, foldedSetIterable iter X.env x = pure x := by intro _; rfl) :
    PS X (.Assign [.Name y py] (.ListComp elt [⟨tgE, iter, ifs, 0⟩] scope pos) spos) (denS X.K (mSet i (mFz (mLc mi tg mt me (own.map (·.2)))))) := ps_imp (ps_setLc hc hN hy hyl hsw hi ok hg ht he hs) (mSet_den (fz_den lc_den))
/-! ### how a def's run ends -/
def fin (br : List Bool) : Option Oc → Option (O × List O)
  | some (.rt x e) => (match pinsOf br e with
    | some os' => some (x, os')
    | none => none)
  | some (.nx e) => (match pinsOf br e with
    | some os' => some (.v .none, os')
    | none => none)
  | _ => none
end
end Dn

set_option Elab.async false
set_option linter.all false
set_option maxRecDepth 100000
set_option maxHeartbeats 4000000
namespace Dn
open PySem L2
section
variable {K : PySem.W.Frag} {X : Cx}
/-! ### xs * k -/
def repO0 : List O → Option O
  | [x, .v (.int k)] => (match x.lparts with
    | some xs => (match O.allV xs with
      | some ds => if -(2 ^ 63) ≤ k ∧ k < 2 ^ 63 ∧ xs.length * k.toNat ≤ sizeLine then some (.l ((List.replicate k.toNat ds).flatten.map .v)) else none
      | none => none)
    | none => none)
  | _ => none
theorem repO_ex : ∃ f : List O → Option O, f = repO0 := ⟨repO0, rfl⟩
/-- sealed: the kernel must not look into the bounds -/
noncomputable def repO : List O → Option O := Classical.choose repO_ex
theorem repO_eq : repO = repO0 := Classical.choose_spec repO_ex
theorem Sta.pushAll {B : Bs} {F H : Hp} {σ : St} {e : En} {G : Ws} (s : Sta K B F H σ e G) : ∀ {vs : List V} {ds : List PyData}, DfAll K F vs ds → Sta K B F H σ e (vs.zip (ds.map O.v) ++ G)
  | _, _, .nil => s
  | _, _, .cons h t => (s.pushAll t).push h
theorem Sta.frozenAll {B : Bs} {F H : Hp} {σ : St} {e : En} {G : Ws} : ∀ {w : Ws} {ds : List PyData}, Sta K B F H σ e (w ++ G) → O.allV (w.map (·.2)) = some ds → DfAll K F (w.map (·.1)) ds
  | [], _, s, h => by cases h; exact .nil
  | (v, x) :: w, ds, s, h => by
    rw [List.map_cons] at h
    cases x with
    | v d =>
      unfold O.allV at h
      split at h
      · rename_i ds' h'
        cases h
        obtain ⟨T, r⟩ := s.at
        exact .cons (rp_v r) (Sta.frozenAll (w := w) s.pop h')
      · cases h
    | _ => cases h
theorem dfa_append {F : Hp} : ∀ {v1 v2 : List V} {d1 d2 : List PyData}, DfAll K F v1 d1 → DfAll K F v2 d2 → DfAll K F (v1 ++ v2) (d1 ++ d2)
  | _, _, _, _, .nil, h => h
  | _, _, _, _, .cons a t, h => .cons a (dfa_append t h)
theorem dfa_rep {F : Hp} {vs : List V} {ds : List PyData} (h : DfAll K F vs ds) : ∀ n : Nat, DfAll K F (List.replicate n vs).flatten (List.replicate n ds).flatten
  | 0 => .nil
  | n + 1 => by
    rw [List.replicate_succ, List.replicate_succ, List.flatten_cons, List.flatten_cons]
    exact dfa_append h (dfa_rep h n)
theorem al_rep : Al K repO (r2 rRep) := fun B F H σ e G ws x Q s hx k => by
  rw [repO_eq] at hx
  unfold repO0 at hx
  split at hx
  · rename_i y n hw
    obtain ⟨v, u, rfl⟩ := ws2 hw
    split at hx
    · rename_i xs h1
      split at hx
      · rename_i ds h2
        split at hx
        · rename_i hl
          cases hx
          obtain ⟨_, r⟩ := s.pop.at
          obtain rfl := rp_int r
          obtain ⟨p, w1, F1, rfl, e1, e2, e3, s1⟩ := Sta.openL (G := (V.int n, O.v (.int n)) :: G) s h1
          subst e2
          have hd := s1.frozenAll h2
          have hr := dfa_rep hd n.toNat
          rw [List.length_map] at hl
          refine ⟨p, n, w1.map (·.1), rfl, rfl, s1.fh _ _ e1, hl.1, hl.2.1, by rw [List.length_map]; exact hl.2.2, fun q hq => ?_⟩
          have s2 := (s1.drop.pop.pushAll hr).newL hq
          have hlen := dfa_len hr
          rw [zip_fst (by rw [List.length_map]; exact hlen), zip_snd (by rw [List.length_map]; exact hlen)] at s2
          exact k F1 _ _ s2 (same_upd hq)
        · cases hx
      · cases hx
    · cases hx
  · cases hx
theorem d_rep {a b : Expr} {ta tb : TE} {p : Bool} {ms : MD (List O)} {pos : Pos} (ha : PE X a ta) (hb : PE X b tb) (hl : AS X.K p ms (tCons ta (tCons tb tNil))) : PE X (.BinOp a .Mult b pos) (den X.K p (mA repO ms)) :=
  pe_imp (pe_op op_rep ha hb) (mA_den (r := r2 rRep) al_rep hl)
/-! ### sorted(xs) of data -/
def rSortD (K : PySem.W.Frag) : List V → Hp → VK → Prop := fun vs H Q => ∃ (a : Addr) (xs : List V) (ds : List PyData), vs = [.ref a] ∧ SqL K H a xs ∧ DpAll K H xs ds ∧ PySem.W.AllAlike ds ∧ PySem.W.Sortable ds ∧ (∀ d ∈ ds, d.depth ≤ 60) ∧
  ∀ l, H l = none → Q (.ref l) (upd H l (.lst (((xs.zip ds).mergeSort (PySem.W.dataLe false (·.2))).map (·.1))))
theorem dpa_len {H : Hp} : ∀ {vs : List V} {ds : List PyData}, DpAll K H vs ds → vs.length = ds.length
  | _, _, .nil => rfl
  | _, _, .cons _ t => by rw [List.length_cons, List.length_cons, dpa_len t]
theorem each_vals : ∀ {bs : List (V × PyData)} {us : List Value}, PySem.W.EachIs (fun u (b : V × PyData) => RelV b.1 u) us bs → Vals (bs.map (·.1)) us
  | [], _, .nil => .nil
  | _ :: _, _, .cons h t => .cons h (each_vals t)
theorem vals_each : ∀ {vs : List V} {ds : List PyData} {us : List Value}, Vals vs us → vs.length = ds.length → PySem.W.EachIs (fun u (b : V × PyData) => RelV b.1 u) us (vs.zip ds)
  | [], [], _, .nil, _ => .nil
  | v :: vs, d :: ds, _, .cons h t, hl => .cons h (vals_each t (by simpa using hl))
  | [], _ :: _, _, _, h => by simp at h
  | _ :: _, [], _, _, h => by simp at h
theorem reads_each {h : Heap} : ∀ {vs : List V} {ds : List PyData} {us : List Value} {as : List Addr}, ReadsAll h us ds as → vs.length = ds.length → PySem.W.EachIs (fun u (b : V × PyData) => ∃ as, Reads h u b.2 as) us (vs.zip ds)
  | [], [], _, _, .nil, _ => .nil
  | v :: vs, d :: ds, _, _, .cons h t, hl => .cons ⟨_, h⟩ (reads_each t (by simpa using hl))
  | [], _ :: _, _, _, _, h => by simp at h
  | _ :: _, [], _, _, _, h => by simp at h
theorem cr_sortD (hu : X.A.units + 65 < cLine) : CallR X (.builtin "sorted") (rSortD X.K) := by
  intro pins s σ H vs us Q I r h
  obtain ⟨a, xs, ds, rfl, hs, hd, hal, hso, hdp, q⟩ := h
  obtain ⟨its, rv, hl, hz⟩ := I.list hs
  obtain ⟨u, rfl, ru⟩ := vals1 r
  obtain rfl : u = Value.ref a := ru
  obtain ⟨as, hr⟩ := Dp.readsAll I ds xs its hd rv
  have hlen := dpa_len hd
  have hmap : (xs.zip ds).map (·.2) = ds := zip_snd hlen
  refine PySem.W.sorted_data (bs := xs.zip ds) (enc := (·.2)) (R := fun u b => RelV b.1 u) hl.isList (vals_each rv hlen) (reads_each hr hlen) (by rw [hmap]; exact hal) (by rw [hmap]; exact hso) ?_ ?_ ?_
  · rw [List.length_zip]; omega
  · intro b hb
    have : b.2 ∈ ds := (List.of_mem_zip hb).2
    have := hdp _ this
    omega
  · intro out hout he
    obtain ⟨n, hn⟩ := PyProof.Rows.sortedAll_at s.heap its out.toArray
    refine ⟨.ref _, upd H (s.heap.objs.size + 1) (.lst (((xs.zip ds).mergeSort (PySem.W.dataLe false (·.2))).map (·.1))), I.laid (t' := s.toks) (fun b o e => PyProof.Rows.sortedAll_old e) (Nat.le_succ _) ⟨?_, out, n, each_vals he, hn⟩, rfl, q _ (I.hok.fresh (Nat.le_succ _))⟩
    rw [List.length_map, List.length_mergeSort, List.length_zip]
    omega
def allAlikeB (ds : List PyData) : Bool := ds.all fun d => ds.all fun d' => PySem.W.alike d d'
def isTupB : PyData → Bool
  | .tuple (_ :: _) => true
  | _ => false
def isOthB : PyData → Bool
  | .none => false
  | .tuple _ => false
  | _ => true
def sortableB (ds : List PyData) : Bool := ds.all isTupB || ds.all isOthB
def srtO : List O → Option O
  | [x] => (match x.lparts with
    | some xs => (match O.toDs xs with
      | some ds => if allAlikeB ds && sortableB ds && ds.all (fun d => decide (d.depth ≤ 60)) then some (.l (((xs.zip ds).mergeSort (PySem.W.dataLe false (·.2))).map (·.1))) else none
      | none => none)
    | none => none)
  | _ => none
theorem Sta.dfs {B : Bs} {F H : Hp} {σ : St} {e : En} {G : Ws} : ∀ {w : Ws} {ds : List PyData}, Sta K B F H σ e (w ++ G) → O.toDs (w.map (·.2)) = some ds → DfAll K H (w.map (·.1)) ds
  | [], _, s, h => by unfold O.toDs at h; cases h; exact .nil
  | (v, x) :: w, ds, s, h => by
    rw [List.map_cons] at h
    unfold O.toDs at h
    split at h
    · rename_i d ds' h1 h2
      cases h
      exact .cons (s.df h1) (Sta.dfs (w := w) s.pop h2)
    · cases h
theorem merge_map {α β : Type} (f : α → β) (le : β → β → Bool) (xs : List α) : (xs.map f).mergeSort le = (xs.mergeSort fun a b => le (f a) (f b)).map f :=
  (List.map_mergeSort (r := fun a b => le (f a) (f b)) (s := le) (f := f) (l := xs) (fun _ _ _ _ => rfl)).symm
theorem zip_map_map {α β δ : Type} (f : α → β) : ∀ (xs : List α) (ds : List δ), (xs.map f).zip ds = (xs.zip ds).map fun p => (f p.1, p.2)
  | [], _ => by simp
  | _ :: _, [] => by simp
  | x :: xs, d :: ds => by simp [zip_map_map f xs ds]
theorem al_srt : Al K srtO (rSortD K) := fun B F H σ e G ws x Q s hx k => by
  unfold srtO at hx
  split at hx
  · rename_i y hw
    obtain ⟨v, rfl⟩ := ws1 hw
    split at hx
    · rename_i xs h1
      split at hx
      · rename_i ds h2
        split at hx
        · rename_i hc
          cases hx
          simp only [Bool.and_eq_true, List.all_eq_true, decide_eq_true_eq] at hc
          obtain ⟨p, w, F1, rfl, e1, e2, e3, s1⟩ := Sta.openL (G := G) s h1
          subst e2
          have hd := s1.dfs h2
          have hlen := dfa_len hd
          rw [List.length_map] at hlen
          refine ⟨p, _, ds, rfl, .of (s1.fh _ _ e1), hd.dp (Same.refl H), ?_, ?_, hc.2, fun l hl => ?_⟩
          · intro d hd' d' hd''
            have := hc.1.1
            unfold allAlikeB at this
            simp only [List.all_eq_true] at this
            exact this d hd' d' hd''
          · have := hc.1.2
            unfold sortableB at this
            simp only [Bool.or_eq_true, List.all_eq_true] at this
            rcases this with h | h
            · left
              intro d hd'
              have := h d hd'
              unfold isTupB at this
              split at this
              · exact ⟨_, _, rfl⟩
              · cases this
            · right
              intro d hd'
              have := h d hd'
              unfold isOthB at this
              split at this
              · cases this
              · cases this
              · rename_i h1 h2
                exact ⟨fun z => h1 z, fun xs z => h2 xs z⟩
          · let L := (w.zip ds).mergeSort (PySem.W.dataLe false (·.2))
            have hV : ((w.map (·.1)).zip ds).mergeSort (PySem.W.dataLe false (·.2)) = L.map fun p => (p.1.1, p.2) := by
              rw [zip_map_map (fun x : V × O => x.1)]
              exact merge_map (fun p : (V × O) × PyData => (p.1.1, p.2)) (PySem.W.dataLe false (·.2)) (w.zip ds)
            have hO : ((w.map (·.2)).zip ds).mergeSort (PySem.W.dataLe false (·.2)) = L.map fun p => (p.1.2, p.2) := by
              rw [zip_map_map (fun x : V × O => x.2)]
              exact merge_map (fun p : (V × O) × PyData => (p.1.2, p.2)) (PySem.W.dataLe false (·.2)) (w.zip ds)
            have pL : w.Perm (L.map (·.1)) := by
              have h3 := (List.mergeSort_perm (w.zip ds) (PySem.W.dataLe false (·.2))).map (·.1)
              rw [zip_fst hlen] at h3
              exact h3.symm
            have s2 : Sta K B F1 H σ e (L.map (·.1) ++ G) := s1.perm (pL.append_right G)
            have s3 := s2.newL hl
            rw [List.map_map, List.map_map] at s3
            have e1 : (((w.map (·.1)).zip ds).mergeSort (PySem.W.dataLe false (·.2))).map (·.1) = L.map ((·.1) ∘ (·.1)) := by rw [hV, List.map_map]; rfl
            have e2 : (((w.map (·.2)).zip ds).mergeSort (PySem.W.dataLe false (·.2))).map (·.1) = L.map ((·.2) ∘ (·.1)) := by rw [hO, List.map_map]; rfl
            rw [e1]
            rw [e2] at k
            exact k F1 _ _ s3 (same_upd hl)
        · cases hx
      · cases hx
    · cases hx
  · cases hx
/-! ### a chain of two comparisons -/
def mChain (f g : List PyData → Option PyData) (ms : MD (List O)) (mc : MD O) : MD O := fun e => match ms e with
  | some (xs, e1) => (match O.toDs xs with
    | some [x, y] => (match f [x, y] with
      | some (.bool true) => (match sV y with
        | some _ => mL g (lCons (mC y) (lCons mc lNil)) e1
        | none => none)
      | some (.bool false) => some (.v (.bool false), e1)
      | _ => none)
    | _ => none)
  | none => none
theorem chain_den {p q : Bool} {f g : List PyData → Option PyData} {ms : MD (List O)} {mc : MD O} {r r' : R2} {ta tb : TE} (hf : Sc K f (r2 r)) (hg : Sc K g (r2 r')) (hl : LS K p ms (tCons ta (tCons tb tNil))) :
    ∀ σ H Q, den K (p && q) (mChain f g ms mc) σ H Q → tChain r r' ta tb (den K q mc) σ H Q := fun σ H Q ⟨B, F, e, G, y, e', s, hm, k⟩ => by
  unfold mChain at hm
  split at hm
  · rename_i xs e1 h1
    refine hl σ H (fun vs H2 => match vs with | [x, y] => r x y H2 (fun z H3 => ∃ c, z = V.bl c ∧ (if c = true then den K q mc σ H3 (fun w' H4 => r' y w' H4 Q) else Q (.bl false) H3)) | _ => False) ⟨B, F, e, G, xs, e1, s, h1, fun F1 H1 vs s1 r1 sm1 => ?_⟩
    split at hm
    · rename_i dx dy h2
      have hd := r1.df s1.fh h2
      obtain ⟨vx, vy, rfl, bx, by'⟩ := dfa2 hd
      split at hm
      · rename_i h3
        split at hm
        · rename_i vy' h4
          obtain rfl := df_sV h4 by'
          obtain ⟨v, hv, q1⟩ := hf H1 _ _ _ hd h3
          cases hv
          refine q1 _ ⟨true, rfl, iteT ?_⟩
          rw [mL] at hm
          split at hm
          · rename_i zs e2 h5
            split at hm
            · rename_i ds h6
              split at hm
              · rename_i z h7
                obtain ⟨rfl, rfl⟩ := so hm
                unfold lCons at h5
                split at h5
                · rename_i x0 e0 h8
                  cases h8
                  split at h5
                  · rename_i xs0 e9 h9
                    obtain ⟨rfl, rfl⟩ := so h5
                    split at h9
                    · rename_i x1 e1' h10
                      split at h9
                      · rename_i xs1 e11 h11
                        cases h11
                        obtain ⟨rfl, rfl⟩ := so h9
                        refine ⟨B, F1, e1, G, x1, _, s1, h10, fun F2 H2 v2 s2 sm2 => ?_⟩
                        unfold O.toDs at h6
                        split at h6
                        · rename_i d1 ds1 h12 h13
                          cases h6
                          unfold O.toDs at h13
                          split at h13
                          · rename_i d2 ds2 h14 h15
                            cases h13
                            unfold O.toDs at h15
                            cases h15
                            cases h12
                            have hdd : DfAll K H2 [vy, v2] [dy, d2] := .cons (sV_df h4) (.cons (s2.df h14) .nil)
                            obtain ⟨v3, hv3, q3⟩ := hg H2 _ _ _ hdd h7
                            exact q3 Q (k F2 H2 v3 (s2.pop.push (sV_df hv3)) fun z => (sm1 (band1 z)).trans (sm2 (band2 z)))
                          · cases h13
                        · cases h6
                      · cases h9
                    · cases h9
                  · cases h5
                · cases h5
              · cases hm
            · cases hm
          · cases hm
        · cases hm
      · rename_i h3
        obtain ⟨rfl, rfl⟩ := so hm
        obtain ⟨v, hv, q1⟩ := hf H1 _ _ _ hd h3
        cases hv
        exact q1 _ ⟨false, rfl, iteF (k F1 H1 _ (s1.push (.bl false)) fun z => sm1 (band1 z))⟩
      · cases hm
    · cases hm
  · cases hm
variable {a b c : Expr} {ta tb : TE} {p q : Bool} {ms : MD (List O)} {mc : MD O} {f g : List PyData → Option PyData} {pos : Pos}
theorem d_chain {op op' : CmpOp} {r r' : R2} (ho : OpR X (compareOp op) r) (ho' : OpR X (compareOp op') r') (hf : Sc X.K f (r2 r)) (hg : Sc X.K g (r2 r')) (ha : PE X a ta) (hb : PE X b tb) (hc : PE X c (den X.K q mc)) (hl : LS X.K p ms (tCons ta (tCons tb tNil)))
    (hm : lastMarks [op, op'] [b, c] = false := by with_unfolding_all rfl) : PE X (.Compare a [op, op'] [b, c] pos) (den X.K (p && q) (mChain f g ms mc)) := pe_imp (pe_chain ho ho' ha hb hc hm) (chain_den hf hg hl)
theorem dt_chain {op op' : CmpOp} {r r' : R2} (ho : OpR X (compareOp op) r) (ho' : OpR X (compareOp op') r') (hf : Sc X.K f (r2 r)) (hg : Sc X.K g (r2 r')) (ha : PE X a ta) (hb : PE X b tb) (hc : PE X c (den X.K q mc)) (hl : LS X.K p ms (tCons ta (tCons tb tNil)))
    (hm : lastMarks [op, op'] [b, c] = false := by with_unfolding_all rfl) : PT X (.Compare a [op, op'] [b, c] pos) (denT X.K (p && q) (mT (mChain f g ms mc))) := pt_imp (pt_chain ho ho' ha hb hc hm) (mT_den (t := tChain r r' ta tb (den X.K q mc)) (chain_den hf hg hl))
/-! ### x or y by truth: lists, texts -/
def truO : O → Option Bool
  | .l xs => some (!xs.isEmpty)
  | .v (.list ds) => some (!ds.isEmpty)
  | .v (.str x) => if x.length ≤ sizeLine then some ((x.length : Int) != 0) else none
  | _ => none
def vOrT (a b : MD O) : MD O := fun e => match a e with
  | some (x, e1) => (match truO x with
    | some true => some (x, e1)
    | some false => b e1
    | none => none)
  | none => none
theorem truO_ok {F H : Hp} {v : V} {x : O} {T : List Addr} {k : Bool} (fh : Same F H) (r : Rp K F H v x T) (h : truO x = some k) : TruV K v H k := by
  unfold truO at h
  split at h
  · cases h
    cases r with
    | l hp e1 e2 _ =>
      refine .inl ⟨_, .of hp, ?_⟩
      subst e1 e2
      rw [List.isEmpty_map, List.isEmpty_map]
  · cases h
    obtain ⟨p, ws, rfl, hp, ha⟩ := df_list (rp_v r)
    refine .inl ⟨_, .of (fh _ _ hp), ?_⟩
    cases ha <;> rfl
  · split at h
    · rename_i hl
      cases h
      obtain rfl := df_str (rp_v r)
      exact ⟨hl, rfl⟩
    · cases h
  · cases h
theorem d_orT {na nb : MD O} {rest : List Expr} (ha : PE X a (den X.K p na)) (hb : PE X (.BoolOp .Or (b :: rest) pos) (den X.K q nb)) : PE X (.BoolOp .Or (a :: b :: rest) pos) (den X.K (p && q) (vOrT na nb)) := pe_imp (pe_orT ha hb) fun σ H Q ⟨B, F, e, G, x, e', s, hm, k⟩ => by
  unfold vOrT at hm
  split at hm
  · rename_i y e1 h1
    split at hm
    · rename_i h2
      obtain ⟨rfl, rfl⟩ := so hm
      refine ⟨B, F, e, G, _, e1, s, h1, fun F1 H1 v s1 sm1 => ?_⟩
      obtain ⟨T, r⟩ := s1.at
      exact ⟨true, truO_ok s1.fh r h2, iteT (k F1 H1 v s1 fun z => sm1 (band1 z))⟩
    · rename_i h2
      refine ⟨B, F, e, G, _, e1, s, h1, fun F1 H1 v s1 sm1 => ?_⟩
      obtain ⟨T, r⟩ := s1.at
      exact ⟨false, truO_ok s1.fh r h2, iteF ⟨B, F1, e1, G, x, e', s1.pop, hm, fun F2 H2 v2 s2 sm2 => k F2 H2 v2 s2 fun z => (sm1 (band1 z)).trans (sm2 (band2 z))⟩⟩
    · cases hm
  · cases hm
/-! ### xs[::-1] -/
def mRev (m : MD O) : MD O := fun e => match m e with
  | some (x, e1) => (match x.lparts with
    | some xs => some (.l xs.reverse, e1)
    | none => none)
  | none => none
theorem d_revL {m : MD O} {k : Nat} {p1 p2 p3 : Pos} (he : PE X a (den X.K p m)) : PE X (.Subscript a (.Slice none none (some (.UnaryOp .USub (.Constant (.int 1) k p1) p2)) p3) pos) (den X.K p (mRev m)) := pe_imp (pe_revL he) fun σ H Q ⟨B, F, e, G, x, e', s, hm, k⟩ => by
  unfold mRev at hm
  split at hm
  · rename_i y e1 h1
    split at hm
    · rename_i xs h2
      obtain ⟨rfl, rfl⟩ := so hm
      refine ⟨B, F, e, G, y, e1, s, h1, fun F1 H1 v s1 sm1 => ?_⟩
      obtain ⟨p, w, F2, rfl, e1', e2, e3, s2⟩ := s1.openL h2
      subst e2
      refine ⟨p, _, rfl, .of (s2.fh _ _ e1'), fun l hl => ?_⟩
      have s3 := (s2.perm ((List.reverse_perm w).symm.append_right G)).newL hl
      rw [List.map_reverse, List.map_reverse] at s3
      exact k F2 _ _ s3 fun z => (sm1 z).trans (same_upd hl)
    · cases hm
  · cases hm
end
end Dn

set_option Elab.async false
set_option linter.all false
set_option maxRecDepth 100000
set_option maxHeartbeats 4000000
namespace Dn
open PySem L2
/-! ### a list within a tree of one's own that changes -/
def O.kids : O → Option (List O)
  | .l xs => some xs
  | .t xs => some xs
  | _ => none
def O.withKids : O → List O → O
  | .l _, ys => .l ys
  | .t _, ys => .t ys
  | o, _ => o
def atK : O → List Int → Option O
  | o, [] => some o
  | o, k :: ks => (match o.kids with
    | some xs => (match ixN xs.length k with
      | some j => (match xs[j]? with
        | some x => atK x ks
        | none => none)
      | none => none)
    | none => none)
def setK : O → List Int → List O → Option O
  | .l _, [], ys => some (.l ys)
  | o, k :: ks, ys => (match o.kids with
    | some xs => (match ixN xs.length k with
      | some j => (match xs[j]? with
        | some x => (match setK x ks ys with
          | some x' => some (o.withKids (xs.set j x'))
          | none => none)
        | none => none)
      | none => none)
    | none => none)
  | _, [], _ => none
section
variable {K : PySem.W.Frag} {F H : Hp}
/-- the way from a value down to another one -/
inductive Way (K : PySem.W.Frag) (H : Hp) : V → List Int → V → Prop
  | nil {v : V} : Way K H v [] v
  | cons {p : Addr} {vs : List V} {k : Int} {j : Nat} {u z : V} {ks : List Int} : (H p = some (.lst vs) ∨ H p = some (.tup vs)) → ixN vs.length k = some j → vs[j]? = some u → Way K H u ks z → Way K H (.ref p) (k :: ks) z
theorem set_same {α : Type} {l : List α} {j : Nat} {a : α} (h : l[j]? = some a) : l.set j a = l := by
  apply List.ext_getElem?
  intro i
  by_cases hi : j = i
  · subst hi
    rw [List.getElem?_set_self (List.getElem?_eq_some_iff.mp h).1, h]
  · rw [List.getElem?_set_ne hi]
theorem rpl_pick : ∀ {ws : Ws} {T : List Addr} {j : Nat} {w : V × O}, RpL K F H ws T → ws[j]? = some w → ∃ T1 T2, T.Perm (T1 ++ T2) ∧ Rp K F H w.1 w.2 T1 ∧
    ∀ H' o' T1', Rp K F H' w.1 o' T1' → (∀ p ∈ T2, H' p = H p) → ∃ T', RpL K F H' (ws.set j (w.1, o')) T' ∧ T'.Perm (T1' ++ T2)
  | _, _, j, w, .nil, h => by simp at h
  | _, _, 0, w, .cons (T1 := Ta) (T2 := Tb) a t, h => by
    simp at h
    subst h
    refine ⟨Ta, Tb, .refl _, a, fun H' o' T1' r k => ⟨T1' ++ Tb, ?_, .refl _⟩⟩
    rw [List.set_cons_zero]
    exact .cons r (rpl_mono (Same.refl F) t k)
  | _, _, j + 1, w, .cons (x := x) (o := o) (T1 := Ta) (T2 := Tb) a t, h => by
    obtain ⟨T1, T2, p1, r1, k1⟩ := rpl_pick (j := j) t (by simpa using h)
    refine ⟨T1, Ta ++ T2, (List.Perm.append_left Ta p1).trans (pmid _ _ _), r1, fun H' o' T1' r k => ?_⟩
    obtain ⟨T', r2, p2⟩ := k1 H' o' T1' r fun p hp => k p (List.mem_append_right _ hp)
    refine ⟨Ta ++ T', ?_, (List.Perm.append_left Ta p2).trans (pmid _ _ _)⟩
    rw [List.set_cons_succ]
    exact .cons (rp_mono (Same.refl F) a fun p hp => k p (List.mem_append_left _ hp)) r2
theorem rp_leaf : ∀ (ks : List Int) {v : V} {o : O} {T : List Addr} {xs : List O}, Rp K F H v o T → atK o ks = some (.l xs) →
    ∃ q w Tw Tr, T.Perm (q :: (Tw ++ Tr)) ∧ H q = some (.lst (w.map (·.1))) ∧ w.map (·.2) = xs ∧ RpL K F H w Tw ∧ Way K H v ks (.ref q) ∧
    ∀ H' w' Tw', (∀ p ∈ Tr, H' p = H p) → H' q = some (.lst (w'.map (·.1))) → RpL K F H' w' Tw' → ∃ T' o', setK o ks (w'.map (·.2)) = some o' ∧ Rp K F H' v o' T' ∧ T'.Perm (q :: (Tw' ++ Tr))
  | [], v, o, T, xs, r, h => by
    unfold atK at h
    cases h
    cases r with
    | l hp e1 e2 rl =>
      rename_i p vs ws T'
      refine ⟨p, ws, T', [], by rw [List.append_nil], by rw [hp, e1], e2.symm, rl, .nil, fun H' w' Tw' k hq rl' => ⟨p :: Tw', _, rfl, .l hq rfl rfl rl', by rw [List.append_nil]⟩⟩
  | k :: ks, v, o, T, xs, r, h => by
    unfold atK at h
    split at h
    · rename_i zs hz
      split at h
      · rename_i j hj
        split at h
        · rename_i x hx
          cases o with
          | l ys =>
            cases hz
            cases r with
            | l hp e1 e2 rl =>
              rename_i p vs ws T'
              subst e2
              rw [List.getElem?_map] at hx
              obtain ⟨w0, hw0, rfl⟩ := Option.map_eq_some_iff.mp hx
              obtain ⟨T1, T2, p1, r1, k1⟩ := rpl_pick rl hw0
              obtain ⟨q, w, Tw, Tr, p2, hq, hw, rlw, way, k2⟩ := rp_leaf ks r1 h
              rw [List.length_map] at hj
              refine ⟨q, w, Tw, p :: (Tr ++ T2), ?_, hq, hw, rlw, .cons (.inl hp) (by rw [e1, List.length_map]; exact hj) (by rw [e1, List.getElem?_map, hw0]; rfl) way, fun H' w' Tw' kk hq' rl' => ?_⟩
              · refine ((p1.trans (List.Perm.append_right T2 p2)).cons p).trans ?_
                refine (List.Perm.swap _ _ _).trans (List.Perm.cons _ ?_)
                show (p :: ((Tw ++ Tr) ++ T2)).Perm _
                rw [List.append_assoc]
                exact (mid _ _ _).symm
              · obtain ⟨T', o', s1, s2, s3⟩ := k2 H' w' Tw' (fun a ha => kk a (List.mem_cons_of_mem _ (List.mem_append_left _ ha))) hq' rl'
                obtain ⟨T'', s4, s5⟩ := k1 H' o' T' s2 fun a ha => kk a (List.mem_cons_of_mem _ (List.mem_append_right _ ha))
                refine ⟨p :: T'', .l ((ws.map (·.2)).set j o'), ?_, .l ((kk p (List.mem_cons_self ..)).trans hp) ?_ ?_ s4, ?_⟩
                · unfold setK
                  simp only [O.kids, List.length_map, hj, List.getElem?_map, hw0, Option.map_some, s1, O.withKids]
                · rw [e1, List.map_set]
                  symm
                  apply set_same
                  rw [List.getElem?_map, hw0]; rfl
                · rw [List.map_set]
                · refine ((s5.trans (List.Perm.append_right T2 s3)).cons p).trans ?_
                  refine (List.Perm.swap _ _ _).trans (List.Perm.cons _ ?_)
                  show (p :: ((Tw' ++ Tr) ++ T2)).Perm _
                  rw [List.append_assoc]
                  exact (mid _ _ _).symm
          | t ys =>
            cases hz
            cases r with
            | t hp e1 e2 rl =>
              rename_i p vs ws T'
              subst e2
              rw [List.getElem?_map] at hx
              obtain ⟨w0, hw0, rfl⟩ := Option.map_eq_some_iff.mp hx
              obtain ⟨T1, T2, p1, r1, k1⟩ := rpl_pick rl hw0
              obtain ⟨q, w, Tw, Tr, p2, hq, hw, rlw, way, k2⟩ := rp_leaf ks r1 h
              rw [List.length_map] at hj
              refine ⟨q, w, Tw, p :: (Tr ++ T2), ?_, hq, hw, rlw, .cons (.inr hp) (by rw [e1, List.length_map]; exact hj) (by rw [e1, List.getElem?_map, hw0]; rfl) way, fun H' w' Tw' kk hq' rl' => ?_⟩
              · refine ((p1.trans (List.Perm.append_right T2 p2)).cons p).trans ?_
                refine (List.Perm.swap _ _ _).trans (List.Perm.cons _ ?_)
                show (p :: ((Tw ++ Tr) ++ T2)).Perm _
                rw [List.append_assoc]
                exact (mid _ _ _).symm
              · obtain ⟨T', o', s1, s2, s3⟩ := k2 H' w' Tw' (fun a ha => kk a (List.mem_cons_of_mem _ (List.mem_append_left _ ha))) hq' rl'
                obtain ⟨T'', s4, s5⟩ := k1 H' o' T' s2 fun a ha => kk a (List.mem_cons_of_mem _ (List.mem_append_right _ ha))
                refine ⟨p :: T'', .t ((ws.map (·.2)).set j o'), ?_, .t ((kk p (List.mem_cons_self ..)).trans hp) ?_ ?_ s4, ?_⟩
                · unfold setK
                  simp only [O.kids, List.length_map, hj, List.getElem?_map, hw0, Option.map_some, s1, O.withKids]
                · rw [e1, List.map_set]
                  symm
                  apply set_same
                  rw [List.getElem?_map, hw0]; rfl
                · rw [List.map_set]
                · refine ((s5.trans (List.Perm.append_right T2 s3)).cons p).trans ?_
                  refine (List.Perm.swap _ _ _).trans (List.Perm.cons _ ?_)
                  show (p :: ((Tw' ++ Tr) ++ T2)).Perm _
                  rw [List.append_assoc]
                  exact (mid _ _ _).symm
          | _ => cases hz
        · cases h
      · cases h
    · cases h
variable {H0 F0 : Hp} {ws : Ws} {B : Bs} {σ : St} {e : En} {G : Ws}
theorem Rel.putK {v : V} {o : O} {ks : List Int} {xs : List O} (r : Rel K H0 F0 F H ((v, o) :: ws)) (h : atK o ks = some (.l xs)) : ∃ q w, Way K H v ks (.ref q) ∧ H q = some (.lst (w.map (·.1))) ∧ w.map (·.2) = xs ∧
    ∀ w' rest, (w ++ ws).Perm (w' ++ rest) → ∃ o', setK o ks (w'.map (·.2)) = some o' ∧ Rel K H0 F0 F (upd H q (.lst (w'.map (·.1)))) ((v, o') :: rest) := by
  obtain ⟨T, rl, nd, hT⟩ := r.res
  cases rl with
  | cons a t =>
    rename_i T1 T2
    obtain ⟨q, w, Tw, Tr, p1, hq, hw, rlw, way, k⟩ := rp_leaf ks a h
    refine ⟨q, w, way, hq, hw, fun w' rest pm => ?_⟩
    have pT : (T1 ++ T2).Perm (q :: (Tw ++ T2 ++ Tr)) := by
      refine (List.Perm.append_right T2 p1).trans ?_
      rw [List.cons_append]
      refine List.Perm.cons _ ?_
      rw [List.append_assoc, List.append_assoc]
      exact List.Perm.append_left _ List.perm_append_comm
    have nd1 := pT.nodup_iff.mp nd
    obtain ⟨nq, nd2⟩ := List.nodup_cons.mp nd1
    have hqn := hT q (pT.mem_iff.mpr (List.mem_cons_self ..))
    have kq : ∀ p ∈ Tw ++ T2 ++ Tr, upd H q (.lst (w'.map (·.1))) p = H p := fun p hp => upd_ne fun z => nq (z ▸ hp)
    have m1 : RpL K F (upd H q (.lst (w'.map (·.1)))) (w ++ ws) (Tw ++ T2) := rpl_mono (Same.refl F) (rpl_append rlw t) fun p hp => kq p (List.mem_append_left _ hp)
    obtain ⟨T', pT', m2⟩ := rpl_perm pm m1
    obtain ⟨Ta, Tb, rfl, ra, rb⟩ := rpl_split m2
    obtain ⟨T3, o', s1, s2, s3⟩ := k _ w' Ta (fun p hp => kq p (List.mem_append_right _ hp)) upd_same ra
    have pF : (T3 ++ Tb).Perm (q :: (Tw ++ T2 ++ Tr)) := by
      refine (List.Perm.append_right Tb s3).trans ?_
      rw [List.cons_append]
      refine List.Perm.cons _ ?_
      rw [List.append_assoc]
      refine (List.Perm.append_left Ta List.perm_append_comm).trans ?_
      rw [← List.append_assoc]
      exact List.Perm.append_right Tr pT'.symm
    refine ⟨o', s1, fun p u e => ?_, r.f0, r.fn, fun p u e => ?_, T3 ++ Tb, .cons s2 rb, pF.nodup_iff.mpr nd1, fun p hp => hT p (pT.mem_iff.mpr (pF.mem_iff.mp hp))⟩
    · have : p ≠ q := fun z => by rw [z, hqn.2] at e; cases e
      rw [upd_ne this]
      exact r.h0 p u e
    · have : p ≠ q := fun z => by rw [z, hqn.1] at e; cases e
      rw [upd_ne this]
      exact r.fh p u e
theorem Sta.putK {i : Nat} {sl : Sl} {o : O} {ks : List Int} {xs : List O} (s : Sta K B F H σ e G) (hi : e[i]? = some sl) (ho : sl.o? = some o) (h : atK o ks = some (.l xs)) : ∃ v q w, σ[i]? = some (some v) ∧ Way K H v ks (.ref q) ∧ H q = some (.lst (w.map (·.1))) ∧ w.map (·.2) = xs ∧
    ∀ w' G', (w ++ G).Perm (w' ++ G') → ∃ o', setK o ks (w'.map (·.2)) = some o' ∧ Sta K B F (upd H q (.lst (w'.map (·.1)))) σ (e.set i (sl.like o')) G' := by
  obtain ⟨v, hv, s1⟩ := s.out hi ho
  obtain ⟨q, w, way, hp, hw, k⟩ := (s1.rel.perm (mid _ _ _)).putK h
  refine ⟨v, q, w, hv, way, hp, hw, fun w' G' pm => ?_⟩
  obtain ⟨o', ho', r⟩ := k w' (slots σ (e.set i .no) ++ G') (by
    refine (pmid _ _ _).symm.trans ?_
    refine (List.Perm.append_left _ pm).trans ?_
    exact pmid _ _ _)
  refine ⟨o', ho', ?_⟩
  have hl : i < e.length := (List.getElem?_eq_some_iff.mp hi).1
  have ok : SlOk B.vs σ (e.set i (sl.like o')) := by
    cases sl with
    | no => cases ho
    | own o => exact s.ok.own hi
    | pin o => exact s.ok.pin hi
  refine ⟨ok, r.perm ?_⟩
  have hlo : (sl.like o').o? = some o' := by
    cases sl with
    | no => cases ho
    | own o => rfl
    | pin o => rfl
  exact ((slots_put hlo hl hv).append_right G').symm
/-- what a method does to a list at the end of a way -/
def UpK (K : PySem.W.Frag) (f : List O → List O → Option (List O × O)) (r : V → List V → Hp → VK → Prop) : Prop :=
  ∀ (B : Bs) (F H : Hp) (σ : St) (e : En) (G ws : Ws) (i : Nat) (sl : Sl) (o : O) (ks : List Int) (xs xs' : List O) (y : O) (Q : VK), Sta K B F H σ e (ws ++ G) → e[i]? = some sl → sl.o? = some o → atK o ks = some (.l xs) → f xs (ws.map (·.2)) = some (xs', y) →
    ∃ v q vs0, σ[i]? = some (some v) ∧ Way K H v ks (.ref q) ∧ H q = some (.lst vs0) ∧ ∃ o', setK o ks xs' = some o' ∧ ((∀ F' H' v, Sta K B F' H' σ (e.set i (sl.like o')) ((v, y) :: G) → Q v H') → r (.ref q) (ws.map (·.1)) H Q)
theorem upk_app : UpK K uApp rAppend := fun B F H σ e G ws i sl o ks xs xs' y Q s hi ho ha hf => by
  unfold uApp at hf
  split at hf
  · rename_i z hw
    split at hf
    · rename_i hl
      cases hf
      obtain ⟨u, rfl⟩ := ws1 hw
      obtain ⟨v, q, w, hv, way, hp, rfl, k⟩ := s.putK hi ho ha
      rw [List.length_map] at hl
      obtain ⟨o', h1, s1⟩ := k (w ++ [(u, z)]) G (by rw [List.append_assoc])
      rw [List.map_append] at s1 h1
      exact ⟨v, q, _, hv, way, hp, o', h1, fun kk => ⟨q, _, u, rfl, rfl, hp, by rw [List.length_map]; exact hl, kk F _ .non (s1.push .non)⟩⟩
    · cases hf
  · cases hf
theorem upk_rev : UpK K uRev rReverse := fun B F H σ e G ws i sl o ks xs xs' y Q s hi ho ha hf => by
  unfold uRev at hf
  split at hf
  · rename_i hw
    cases hf
    have : ws = [] := List.map_eq_nil_iff.mp hw
    subst this
    obtain ⟨v, q, w, hv, way, hp, rfl, k⟩ := s.putK hi ho ha
    obtain ⟨o', h1, s1⟩ := k w.reverse G ((List.reverse_perm w).symm.append_right _)
    rw [List.map_reverse] at s1 h1
    exact ⟨v, q, _, hv, way, hp, o', h1, fun kk => ⟨q, _, rfl, rfl, hp, kk F _ .non (s1.push .non)⟩⟩
  · cases hf
theorem upk_clear : UpK K uClear rClear := fun B F H σ e G ws i sl o ks xs xs' y Q s hi ho ha hf => by
  unfold uClear at hf
  split at hf
  · rename_i hw
    cases hf
    have : ws = [] := List.map_eq_nil_iff.mp hw
    subst this
    obtain ⟨v, q, w, hv, way, hp, rfl, k⟩ := s.putK hi ho ha
    obtain ⟨o', h1, s1⟩ := k [] (w ++ G) (.refl _)
    have s2 : Sta K B F _ σ _ G := ⟨s1.ok, (s1.rel.perm (pmid _ _ _)).drop⟩
    exact ⟨v, q, _, hv, way, hp, o', h1, fun kk => ⟨q, _, rfl, rfl, hp, kk F _ .non (s2.push .non)⟩⟩
  · cases hf
def pathK (e : En) : List (En → Option O) → Option (List Int)
  | [] => some []
  | b :: bs => (match b e with
    | some (.v (.int k)) => (match pathK e bs with
      | some ks => some (k :: ks)
      | none => none)
    | _ => none)
/-- x[..].m(..): the arguments leave the slots -/
def mUpK (i : Nat) (bs : List (En → Option O)) (ms : MD (List O)) (f : List O → List O → Option (List O × O)) : MD O := fun e => match pathK e bs, e[i]?, ms e with
  | some ks, some (.own o), some (ys, _) => (match atK o ks with
    | some (.l xs) => (match f xs ys with
      | some (xs', y) => (match setK o ks xs' with
        | some o' => some (y, e.set i (.own o'))
        | none => none)
      | none => none)
    | _ => none)
  | some ks, some (.pin o), some (ys, _) => (match atK o ks with
    | some (.l xs) => (match f xs ys with
      | some (xs', y) => (match setK o ks xs' with
        | some o' => some (y, e.set i (.pin o'))
        | none => none)
      | none => none)
    | _ => none)
  | _, _, _ => none
def Recv (K : PySem.W.Frag) (i : Nat) (bs : List (En → Option O)) (t : TE) : Prop := ∀ (B : Bs) (F H : Hp) (σ : St) (e : En) (G : Ws) (v z : V) (ks : List Int) (Q : VK), Sta K B F H σ e G → σ[i]? = some (some v) → pathK e bs = some ks → Way K H v ks z → Q z H → t σ H Q
theorem way_same {H' : Hp} (sm : Same H H') : ∀ {v z : V} {ks : List Int}, Way K H v ks z → Way K H' v ks z
  | _, _, _, .nil => .nil
  | _, _, _, .cons hs hj hu w => .cons (hs.elim (fun h => .inl (sm _ _ h)) fun h => .inr (sm _ _ h)) hj hu (way_same sm w)
theorem way_uniq1 : ∀ {v z z' : V} {ks : List Int}, Way K H v ks z → Way K H v ks z' → z = z'
  | _, _, _, _, .nil, .nil => rfl
  | _, _, _, _, .cons hs hj hu w, .cons hs' hj' hu' w' => by
    have : ∀ {p : Addr} {a b : List V}, (H p = some (.lst a) ∨ H p = some (.tup a)) → (H p = some (.lst b) ∨ H p = some (.tup b)) → a = b := fun h1 h2 => by
      rcases h1 with h1 | h1 <;> rcases h2 with h2 | h2 <;> rw [h1] at h2 <;> cases h2 <;> rfl
    obtain rfl := this hs hs'
    rw [hj] at hj'
    cases hj'
    rw [hu] at hu'
    cases hu'
    exact way_uniq1 w w'
theorem way_uniq {H' : Hp} {v z z' : V} {ks : List Int} (sm : true = true → Same H H') (w : Way K H v ks z) (w' : Way K H' v ks z') : z' = z := way_uniq1 w' (way_same (sm rfl) w)
theorem ix_way {F : Hp} {p : Addr} {vs : List V} {k : Int} {j : Nat} {u : V} {Q : VK} (hs : H p = some (.lst vs) ∨ H p = some (.tup vs)) (hj : ixN vs.length k = some j) (hu : vs[j]? = some u) (q : Q u H) : rIx K (.ref p) (.int k) H Q := by
  rcases hs with h | h
  · exact .inl ⟨p, vs, k, u, rfl, rfl, .of h, atI_of hj hu, q⟩
  · exact .inr (.inl ⟨p, vs, k, u, rfl, rfl, .of h, atI_of hj hu, q⟩)
theorem recv1 {i : Nat} {b : En → Option O} : Recv K i [b] (tOp (rIx K) (tVar i) (denB K b)) := fun B F H σ e G v z ks Q s hv hk way q => by
  unfold pathK at hk
  split at hk
  · rename_i k hb
    unfold pathK at hk
    cases hk
    cases way with
    | cons hs hj hu w =>
      cases w
      refine ⟨_, hv, B, F, e, G, _, s, hb, fun v' T r => ?_⟩
      obtain rfl := rp_int r
      exact ix_way (F := F) hs hj hu q
  · cases hk
theorem recv2 {i : Nat} {b b' : En → Option O} : Recv K i [b, b'] (tOp (rIx K) (tOp (rIx K) (tVar i) (denB K b)) (denB K b')) := fun B F H σ e G v z ks Q s hv hk way q => by
  unfold pathK at hk
  split at hk
  · rename_i k hb
    split at hk
    · rename_i ks' hk'
      cases hk
      unfold pathK at hk'
      split at hk'
      · rename_i k' hb'
        unfold pathK at hk'
        cases hk'
        cases way with
        | cons hs hj hu w =>
          cases w with
          | cons hs' hj' hu' w' =>
            cases w'
            refine ⟨_, hv, B, F, e, G, _, s, hb, fun v' T r => ?_⟩
            obtain rfl := rp_int r
            refine ix_way (F := F) hs hj hu ⟨B, F, e, G, _, s, hb', fun v' T r => ?_⟩
            obtain rfl := rp_int r
            exact ix_way (F := F) hs' hj' hu' q
      · cases hk'
    · cases hk
  · cases hk
/-- the arguments leave the slots as they are -/
def PureA (ms : MD (List O)) : Prop := ∀ e ys e1, ms e = some (ys, e1) → e1 = e
def PureE (m : MD O) : Prop := ∀ e x e1, m e = some (x, e1) → e1 = e
theorem pure_nil : PureA aNil := fun e ys e1 h => by cases h; rfl
theorem pure_cons {m : MD O} {ms : MD (List O)} (h1 : PureE m) (h2 : PureA ms) : PureA (aCons m ms) := fun e ys e1 h => by
  unfold aCons lCons at h
  split at h
  · rename_i x e2 h3
    split at h
    · rename_i xs e3 h4
      obtain ⟨rfl, rfl⟩ := so h
      rw [h2 _ _ _ h4, h1 _ _ _ h3]
    · cases h
  · cases h
theorem pure_c {d : PyData} : PureE (mC d) := fun e x e1 h => by cases h; rfl
theorem pure_a {f : List O → Option O} {ms : MD (List O)} (h : PureA ms) : PureE (mA f ms) := fun e x e1 hm => by
  unfold mA at hm
  split at hm
  · rename_i xs e2 h1
    split at hm
    · obtain ⟨rfl, rfl⟩ := so hm
      exact h _ _ _ h1
    · cases hm
  · cases hm
theorem mUpK_den {i : Nat} {bs : List (En → Option O)} {ms : MD (List O)} {f : List O → List O → Option (List O × O)} {r : V → List V → Hp → VK → Prop} {t : TA} {tr : TE} (hr : UpK K f r) (hrec : Recv K i bs tr) (hp : PureA ms) (hl : AS K true ms t) : ∀ σ H Q, den K false (mUpK i bs ms f) σ H Q → tBM K "list" r tr t σ H Q := fun σ H Q ⟨B, F, e, G, y, e', s, hm, k⟩ => by
  have go : ∀ {sl : Sl} {o o' : O} {ks : List Int} {xs xs' ys : List O} {ex : En}, pathK e bs = some ks → e[i]? = some sl → sl.o? = some o → ms e = some (ys, ex) → atK o ks = some (.l xs) → f xs ys = some (xs', y) → setK o ks xs' = some o' → e' = e.set i (sl.like o') → tBM K "list" r tr t σ H Q := fun {sl o o' ks xs xs' ys ex} hk hi ho hms hat hf hset he => by
    obtain ⟨v, q, w, hv, way, hq, _, _⟩ := s.putK hi ho hat
    refine hrec B F H σ e G v (.ref q) ks _ s hv hk way ⟨.inl ⟨rfl, _, .of hq⟩, ?_⟩
    refine hl σ H _ ⟨B, F, e, G, ys, ex, s, hms, fun F1 H1 ws s1 r1 sm1 => ?_⟩
    subst r1
    obtain rfl := hp _ _ _ hms
    obtain ⟨v1, q1, vs1, hv1, way1, hq1, o1, hs1, kk⟩ := hr B F1 H1 σ ex G ws i sl o ks xs xs' y Q s1 hi ho hat hf
    rw [hset] at hs1
    cases hs1
    rw [hv] at hv1
    cases hv1
    have : V.ref q1 = V.ref q := way_uniq sm1 way way1
    cases this
    exact kk fun F2 H2 v2 s2 => k F2 H2 v2 (by rw [he]; exact s2) fun z => nomatch z
  unfold mUpK at hm
  split at hm
  · rename_i ks o ys ex hk hi hms
    split at hm
    · rename_i xs hat
      split at hm
      · rename_i xs' y' hf
        split at hm
        · rename_i o' hset
          obtain ⟨rfl, rfl⟩ := so hm
          exact go hk hi rfl hms hat hf hset rfl
        · cases hm
      · cases hm
    · cases hm
  · rename_i ks o ys ex hk hi hms
    split at hm
    · rename_i xs hat
      split at hm
      · rename_i xs' y' hf
        split at hm
        · rename_i o' hset
          obtain ⟨rfl, rfl⟩ := so hm
          exact go hk hi rfl hms hat hf hset rfl
        · cases hm
      · cases hm
    · cases hm
  · cases hm
variable {X : Cx}
theorem d_upK {i : Nat} {bs : List (En → Option O)} {x ex : Expr} {es : List Expr} {ms : MD (List O)} {f : List O → List O → Option (List O × O)} {r : V → List V → Hp → VK → Prop} {tr : TE} {name : Str} {id : String} {apos cpos : Pos} (slot : Slot "list" name id) (hty : typeOf (.builtin id) = pure (.type "method_descriptor")) (hm : MtR X id r) (hr : UpK X.K f r)
    (hrec : Recv X.K i bs tr) (ho : PE X x tr) (hpu : PureA ms) (ha : PA X (ex :: es) (denA X.K true ms)) (hbase : attributeBase x name X.env (eval x X.env) = eval x X.env := by rfl)
    (hfew : ((backTo cpos (starEach (ex :: es) X.env)).all (fun x => !x.1) && (backToKw cpos (keywordEach [] X.env)).all (fun x => x.1.isSome)
      && decide ((ex :: es).length + ([] : List Keyword).length + (if ([] : List Keyword).isEmpty then 0 else 1) < 30)) = true := by rfl)
    (hline : (apos.endLine == cpos.line) = true := by rfl) (hs : starEach (ex :: es) X.env = (false, eval ex X.env) :: starEach es X.env := by rfl) (hplain : (backTo cpos (starEach es X.env)).any (·.1) = false := by rfl) :
    PE X (.Call (.Attribute x name apos) (ex :: es) [] cpos) (den X.K false (mUpK i bs ms f)) :=
  pe_imp (pe_bm PySem.F.plainAttrs_list slot hty hm ho ha hbase hfew hline hs hplain) (mUpK_den hr hrec hpu fun _ _ _ h => h)
theorem d_upK0 {i : Nat} {bs : List (En → Option O)} {x : Expr} {f : List O → List O → Option (List O × O)} {r : V → List V → Hp → VK → Prop} {tr : TE} {name : Str} {id : String} {apos cpos : Pos} (slot : Slot "list" name id) (hty : typeOf (.builtin id) = pure (.type "method_descriptor")) (hm : MtR X id r) (hr : UpK X.K f r)
    (hrec : Recv X.K i bs tr) (ho : PE X x tr) (hbase : attributeBase x name X.env (eval x X.env) = eval x X.env := by rfl) (hline : (apos.endLine == cpos.line) = true := by rfl) :
    PE X (.Call (.Attribute x name apos) [] [] cpos) (den X.K false (mUpK i bs aNil f)) :=
  pe_imp (pe_bm0 PySem.F.plainAttrs_list slot hty hm ho hbase hline) fun σ H Q h => mUpK_den (t := tNil) hr hrec pure_nil as_nil σ H Q h
theorem px1 {a b : Expr} {i : Nat} {mb : En → Option O} {pos : Pos} (ha : PE X a (tVar i)) (hb : PE X b (denB X.K mb)) (hs : PlainIx b) : PE X (.Subscript a b pos) (tOp (rIx X.K) (tVar i) (denB X.K mb)) := pe_ix ix_seq ha hb hs
theorem px2 {a b : Expr} {t : TE} {mb : En → Option O} {pos : Pos} (ha : PE X a t) (hb : PE X b (denB X.K mb)) (hs : PlainIx b) : PE X (.Subscript a b pos) (tOp (rIx X.K) t (denB X.K mb)) := pe_ix ix_seq ha hb hs
theorem d_globI {x : Str} {i : Int} {pos : Pos} (hg : Gl X x) (hm : ∃ t, X.mg x = some (.int i t)) (hdb : (x == ("__debug__" : Str)) = false := by decide) : PE X (.Name x pos) (den X.K true (mC (.int i))) := by
  obtain ⟨t, hm⟩ := hm
  exact d_glob (v := .int i) hg hm ⟨t, rfl⟩ rfl hdb
theorem d_globS {x z : Str} {pos : Pos} (hg : Gl X x) (hm : ∃ t, X.mg x = some (.str z t)) (hdb : (x == ("__debug__" : Str)) = false := by decide) : PE X (.Name x pos) (den X.K true (mC (.str z))) := by
  obtain ⟨t, hm⟩ := hm
  exact d_glob (v := .str z) hg hm ⟨t, rfl⟩ rfl hdb
end
end Dn

set_option Elab.async false
set_option linter.all false
set_option maxRecDepth 100000
set_option maxHeartbeats 4000000
namespace Dn
open PySem L2
/-! ### a look down a way into a tree -/
def O.kidsL : O → Option (List O)
  | .l xs => some xs
  | .t xs => some xs
  | .v (.list ds) => some (ds.map .v)
  | .v (.tuple ds) => some (ds.map .v)
  | _ => none
def atL : O → List Int → Option O
  | o, [] => some o
  | o, k :: ks => (match o.kidsL with
    | some xs => (match ixN xs.length k with
      | some j => (match xs[j]? with
        | some x => atL x ks
        | none => none)
      | none => none)
    | none => none)
section
variable {K : PySem.W.Frag} {F H : Hp} {X : Cx}
theorem rp_at (fh : Same F H) : ∀ (ks : List Int) {v : V} {o x : O} {T : List Addr}, Rp K F H v o T → atL o ks = some x → ∃ z T', Way K H v ks z ∧ Rp K F H z x T'
  | [], v, o, x, T, r, h => by
    unfold atL at h
    cases h
    exact ⟨v, T, .nil, r⟩
  | k :: ks, v, o, x, T, r, h => by
    unfold atL at h
    split at h
    · rename_i zs hz
      split at h
      · rename_i j hj
        split at h
        · rename_i y hy
          have main : ∃ p vs u T', v = .ref p ∧ (H p = some (.lst vs) ∨ H p = some (.tup vs)) ∧ vs.length = zs.length ∧ vs[j]? = some u ∧ Rp K F H u y T' := by
            cases o with
            | l ys =>
              cases hz
              cases r with
              | l hp e1 e2 rl =>
                rename_i p vs ws T'
                subst e2
                rw [List.getElem?_map] at hy
                obtain ⟨w0, hw0, rfl⟩ := Option.map_eq_some_iff.mp hy
                obtain ⟨T2, r2⟩ := rpl_get rl hw0
                exact ⟨p, vs, w0.1, T2, rfl, .inl hp, by rw [e1, List.length_map, List.length_map], by rw [e1, List.getElem?_map, hw0]; rfl, r2⟩
            | t ys =>
              cases hz
              cases r with
              | t hp e1 e2 rl =>
                rename_i p vs ws T'
                subst e2
                rw [List.getElem?_map] at hy
                obtain ⟨w0, hw0, rfl⟩ := Option.map_eq_some_iff.mp hy
                obtain ⟨T2, r2⟩ := rpl_get rl hw0
                exact ⟨p, vs, w0.1, T2, rfl, .inr hp, by rw [e1, List.length_map, List.length_map], by rw [e1, List.getElem?_map, hw0]; rfl, r2⟩
            | v d =>
              cases d with
              | list ds =>
                cases hz
                obtain ⟨p, vs, rfl, hp, ha⟩ := df_list (rp_v r)
                rw [List.getElem?_map] at hy
                obtain ⟨d0, hd0, rfl⟩ := Option.map_eq_some_iff.mp hy
                obtain ⟨u, h1, h2⟩ := dfa_get ha hd0
                exact ⟨p, vs, u, [], rfl, .inl (fh _ _ hp), by rw [List.length_map]; exact dfa_len ha, h1, .v h2⟩
              | tuple ds =>
                cases hz
                obtain ⟨p, vs, rfl, hp, ha⟩ := df_tuple (rp_v r)
                rw [List.getElem?_map] at hy
                obtain ⟨d0, hd0, rfl⟩ := Option.map_eq_some_iff.mp hy
                obtain ⟨u, h1, h2⟩ := dfa_get ha hd0
                exact ⟨p, vs, u, [], rfl, .inr (fh _ _ hp), by rw [List.length_map]; exact dfa_len ha, h1, .v h2⟩
              | _ => cases hz
            | _ => cases hz
          obtain ⟨p, vs, u, T', rfl, hp, hlen, hu, r'⟩ := main
          obtain ⟨z, T'', way, rz⟩ := rp_at fh ks r' h
          exact ⟨z, T'', .cons hp (by rw [hlen]; exact hj) hu way, rz⟩
        · cases h
      · cases h
    · cases h
/-- a look at x[..] ahead of further looks that leave the slots -/
def lAt (i : Nat) (bs : List (En → Option O)) (ms : MD (List O)) : MD (List O) := fun e => match pathK e bs, (e[i]?).bind Sl.o?, ms e with
  | some ks, some o, some (xs, e1) => (match atL o ks with
    | some x => some (x :: xs, e1)
    | none => none)
  | _, _, _ => none
theorem ls_at {i : Nat} {bs : List (En → Option O)} {ms : MD (List O)} {t : TA} {tr : TE} (hrec : Recv K i bs tr) (hp : PureA ms) (h : LS K true ms t) : LS K true (lAt i bs ms) (tCons tr t) := fun σ H Q ⟨B, F, e, G, y, e', s, hm, k⟩ => by
  unfold lAt at hm
  split at hm
  · rename_i ks o xs e1 hk ho hms
    split at hm
    · rename_i x hx
      obtain ⟨rfl, rfl⟩ := so hm
      obtain ⟨sl, hi, hs⟩ := Option.bind_eq_some_iff.mp ho
      obtain ⟨v, hv, T, r⟩ := s.seeO hi hs
      obtain ⟨z, T', way, rz⟩ := rp_at s.fh ks r hx
      have e1e := hp _ _ _ hms
      refine hrec B F H σ e G v z ks _ s hv hk way ?_
      refine h σ H _ ⟨B, F, e, G, xs, _, s, hms, fun F1 H1 vs s1 r1 sm1 => ?_⟩
      obtain ⟨v1, hv1, T1, r2⟩ := s1.seeO (by rw [e1e]; exact hi) hs
      rw [hv] at hv1
      cases hv1
      obtain ⟨z1, T2, way1, rz1⟩ := rp_at s1.fh ks r2 hx
      have : z1 = z := way_uniq sm1 way way1
      subst this
      exact k F1 H1 (z1 :: vs) s1 (.cons rz1 r1) sm1
    · cases hm
  · cases hm
theorem ls_consT {p : Bool} {m : MD O} {ms : MD (List O)} {t : TA} (h : LS K true ms t) (hp : p = true := by rfl) : LS K true (lCons m ms) (tCons (den K p m) t) := by
  subst hp
  exact ls_cons (p := true) (q := true) h
theorem dl_consT {p : Bool} {e : Expr} {es : List Expr} {m : MD O} {ms : MD (List O)} (ha : PE X e (den X.K p m)) (hr : PA X es (denL X.K true ms)) (hp : p = true := by rfl) (hs : starEach (e :: es) X.env = (false, eval e X.env) :: starEach es X.env := by rfl) :
    PA X (e :: es) (denL X.K true (lCons m ms)) := by
  subst hp
  exact dl_cons (p := true) (q := true) ha hr hs
theorem pureL_nil : PureA lNil := fun e ys e1 h => by cases h; rfl
theorem pureL_cons {m : MD O} {ms : MD (List O)} (h1 : PureE m) (h2 : PureA ms) : PureA (lCons m ms) := pure_cons h1 h2
theorem pureL_see {i : Nat} {ms : MD (List O)} (h : PureA ms) : PureA (lSee i ms) := fun e ys e1 hm => by
  unfold lSee at hm
  split at hm
  · split at hm
    · rename_i xs e2 h2
      split at hm
      · obtain ⟨rfl, rfl⟩ := so hm
        exact h _ _ _ h2
      · cases hm
    · cases hm
  · cases hm
theorem pureL_at {i : Nat} {bs : List (En → Option O)} {ms : MD (List O)} (h : PureA ms) : PureA (lAt i bs ms) := fun e ys e1 hm => by
  unfold lAt at hm
  split at hm
  · rename_i h3
    split at hm
    · obtain ⟨rfl, rfl⟩ := so hm
      exact h _ _ _ h3
    · cases hm
  · cases hm
theorem pureE_lk {f : List O → Option PyData} {ms : MD (List O)} (h : PureA ms) : PureE (mLk f ms) := fun e x e1 hm => by
  unfold mLk at hm
  split at hm
  · rename_i h1
    split at hm
    · obtain ⟨rfl, rfl⟩ := so hm
      exact h _ _ _ h1
    · cases hm
  · cases hm
theorem pureE_l {f : List PyData → Option PyData} {ms : MD (List O)} (h : PureA ms) : PureE (mL f ms) := fun e x e1 hm => by
  unfold mL at hm
  split at hm
  · rename_i h1
    split at hm
    · split at hm
      · obtain ⟨rfl, rfl⟩ := so hm
        exact h _ _ _ h1
      · cases hm
    · cases hm
  · cases hm
theorem dl_at {i : Nat} {bs : List (En → Option O)} {e : Expr} {es : List Expr} {ms : MD (List O)} {tr : TE} (hrec : Recv X.K i bs tr) (hpu : PureA ms) (ha : PE X e tr) (hr : PA X es (denL X.K true ms)) (hs : starEach (e :: es) X.env = (false, eval e X.env) :: starEach es X.env := by rfl) :
    PA X (e :: es) (denL X.K true (lAt i bs ms)) := pa_imp (pa_cons ha hr hs) (ls_at hrec hpu fun _ _ _ h => h)
theorem n_at {i : Nat} {bs : List (En → Option O)} {ms : MD (List O)} {n : Nat} (h : ∀ e xs e1, ms e = some (xs, e1) → xs.length = n) : ∀ e xs e1, lAt i bs ms e = some (xs, e1) → xs.length = n + 1 := fun e xs e1 hm => by
  unfold lAt at hm
  split at hm
  · rename_i h3
    split at hm
    · obtain ⟨rfl, rfl⟩ := so hm
      rw [List.length_cons, h _ _ _ h3]
    · cases hm
  · cases hm
/-! ### a slice of a tuple that is looked at: its parts are frozen -/
def mSlK (i : Nat) (bs : List (En → Option O)) (lo hi : Option Int) : MD O := fun e => match pathK e bs, (e[i]?).bind Sl.o? with
  | some ks, some o => (match atL o ks with
    | some x => (match x.tparts with
      | some xs => (match O.allV (cutG xs lo hi) with
        | some ds => if HT.sIx xs.length 0 lo = 0 ∧ HT.sIx xs.length xs.length hi = xs.length then none else if ds.length ≤ sizeLine then some (.v (.tuple ds), e) else none
        | none => none)
      | none => none)
    | none => none)
  | _, _ => none
/-- a written end of a slice -/
def tLit (o : Option Int) : TO := fun _ H Q => Q o H
theorem po_lit {n : Nat} {j pos} : PO X (some (.Constant (.int (n : Int)) j pos)) (tLit (some (n : Int))) := po_imp (po_some pe_int) fun σ H Q h => ⟨_, rfl, h⟩
theorem po_nolit : PO X none (tLit none) := po_imp po_none fun σ H Q h => h
theorem toDs_v0 : ∀ ds : List PyData, O.toDs (ds.map .v) = some ds
  | [] => rfl
  | d :: ds => by rw [List.map_cons]; unfold O.toDs; rw [toDs_v0 ds]; rfl
theorem rpl_cutV {ws : Ws} {T : List Addr} {lo hi : Option Int} {ds : List PyData} (r : RpL K F H ws T) (h : O.allV (cutG (ws.map (·.2)) lo hi) = some ds) : DfAll K F (cutV (ws.map (·.1)) lo hi) ds := by
  rw [cutV_map]
  rw [cutG_map] at h
  have hsub : ∀ w ∈ cutG ws lo hi, ∃ T', Rp K F H w.1 w.2 T' := fun w hw => by
    have : w ∈ ws := by
      unfold cutG at hw
      exact List.mem_of_mem_drop (List.mem_of_mem_take hw)
    obtain ⟨j, hj, rfl⟩ := List.getElem_of_mem this
    exact rpl_get r (List.getElem?_eq_getElem hj)
  generalize cutG ws lo hi = cs at h hsub
  clear r
  induction cs generalizing ds with
  | nil => cases h; exact .nil
  | cons c cs ih =>
    obtain ⟨v, o⟩ := c
    rw [List.map_cons] at h
    cases o with
    | v d =>
      unfold O.allV at h
      split at h
      · rename_i ds' h'
        cases h
        obtain ⟨T', r⟩ := hsub (v, .v d) (List.mem_cons_self ..)
        exact .cons (rp_v r) (ih h' fun w hw => hsub w (List.mem_cons_of_mem _ hw))
      · cases h
    | _ => cases h
theorem d_slK {i : Nat} {bs : List (En → Option O)} {x : Expr} {tr : TE} {lo hi : Option Expr} {lo' hi' : Option Int} {pos p2 : Pos} (hrec : Recv X.K i bs tr) (he : PE X x tr) (hl : PO X lo (tLit lo')) (hu : PO X hi (tLit hi')) :
    PE X (.Subscript x (.Slice lo hi none p2) pos) (den X.K true (mSlK i bs lo' hi')) := pe_imp (pe_slice sl_A he hl hu) fun σ H Q ⟨B, F, e, G, y, e', s, hm, k⟩ => by
  unfold mSlK at hm
  split at hm
  · rename_i ks o hk ho
    split at hm
    · rename_i x hx
      split at hm
      · rename_i xs hxs
        split at hm
        · rename_i ds hds
          split at hm
          · cases hm
          · rename_i hn
            split at hm
            · rename_i hlen
              obtain ⟨rfl, rfl⟩ := so hm
              obtain ⟨sl, hi, hs⟩ := Option.bind_eq_some_iff.mp ho
              obtain ⟨v, hv, T, r⟩ := s.seeO hi hs
              obtain ⟨z, T', way, rz⟩ := rp_at s.fh ks r hx
              refine hrec B F H σ e G v z ks _ s hv hk way ?_
              show rSlA X.K z _ _ H Q
              have main : ∃ p vs, z = .ref p ∧ SqT X.K H p vs ∧ vs.length = xs.length ∧ DfAll X.K F (cutV vs lo' hi') ds := by
                cases x with
                | t ys =>
                  cases hxs
                  cases rz with
                  | t hp e1 e2 rl =>
                    subst e2
                    refine ⟨_, _, rfl, .of hp, by rw [e1, List.length_map, List.length_map], ?_⟩
                    rw [e1]
                    exact rpl_cutV rl hds
                | v d =>
                  cases d with
                  | tuple es =>
                    cases hxs
                    obtain ⟨p, vs, rfl, hp, ha⟩ := df_tuple (rp_v rz)
                    refine ⟨p, vs, rfl, .of (s.fh _ _ hp), by rw [List.length_map]; exact dfa_len ha, ?_⟩
                    have hl : vs.length = (es.map O.v).length := by rw [List.length_map]; exact dfa_len ha
                    have := rpl_cutV (ws := vs.zip (es.map O.v)) (H := H) (rpl_dfs ha) (by rw [zip_snd hl]; exact hds)
                    rw [zip_fst hl] at this
                    exact this
                  | _ => cases hxs
                | _ => cases hxs
              obtain ⟨p, vs, rfl, hq, hlv, hd⟩ := main
              refine .inr (.inr ⟨p, vs, rfl, hq, by rw [hlv]; exact hn, fun q hq' => ?_⟩)
              have s1 := (s.pushAll hd).newT hq'
              have hl2 := dfa_len hd
              rw [zip_fst (by rw [List.length_map]; exact hl2), zip_snd (by rw [List.length_map]; exact hl2)] at s1
              obtain ⟨F', s2⟩ := s1.freeze (show (O.t (ds.map .v)).toD = some (.tuple ds) by
                show (O.toDs (ds.map .v)).map PyData.tuple = _
                rw [toDs_v0]; rfl)
              exact k F' _ _ s2 fun _ => same_upd hq'
            · cases hm
        · cases hm
      · cases hm
    · cases hm
  · cases hm
/-! ### order of data -/
def ordOk (d e : PyData) : Bool := PySem.W.alike d e && !isN d && decide (d.depth ≤ 60)
def fLtD : List PyData → Option PyData
  | [d, e] => if ordOk d e then some (.bool (PySem.W.dataLt d e)) else none
  | _ => none
def fGtD : List PyData → Option PyData
  | [d, e] => if ordOk d e then some (.bool (PySem.W.dataLt e d)) else none
  | _ => none
def fLeD : List PyData → Option PyData
  | [d, e] => if ordOk d e then some (.bool (!PySem.W.dataLt e d)) else none
  | _ => none
def fGeD : List PyData → Option PyData
  | [d, e] => if ordOk d e then some (.bool (!PySem.W.dataLt d e)) else none
  | _ => none
def rOrd (K : PySem.W.Frag) (b : PyData → PyData → Bool) : R2 := fun x y H Q => ∃ d e, Dp K H x d ∧ Dp K H y e ∧ PySem.W.alike d e = true ∧ d ≠ .none ∧ d.depth ≤ 60 ∧ Q (.bl (b d e)) H
theorem op_ltD (hu : X.A.units + 65 < cLine) : OpR X (compareOp .Lt) (rOrd X.K PySem.W.dataLt) := by
  intro pins s σ H x y v u Q I rx ry ⟨d, e, hd, he, ha, hn, hdp, q⟩
  obtain ⟨as, r1⟩ := Dp.reads I d x v hd rx
  obtain ⟨bs, r2⟩ := Dp.reads I e y u he ry
  exact PySem.W.lt_data r1 r2 ha hn (by omega) ⟨.bl _, H, I, rfl, q⟩
theorem op_gtD (hu : X.A.units + 65 < cLine) : OpR X (compareOp .Gt) (rOrd X.K fun d e => PySem.W.dataLt e d) := by
  intro pins s σ H x y v u Q I rx ry ⟨d, e, hd, he, ha, hn, hdp, q⟩
  obtain ⟨as, r1⟩ := Dp.reads I d x v hd rx
  obtain ⟨bs, r2⟩ := Dp.reads I e y u he ry
  exact PySem.W.gt_data r1 r2 ha hn (by omega) ⟨.bl _, H, I, rfl, q⟩
theorem op_leD (hu : X.A.units + 65 < cLine) : OpR X (compareOp .LtE) (rOrd X.K fun d e => !PySem.W.dataLt e d) := by
  intro pins s σ H x y v u Q I rx ry ⟨d, e, hd, he, ha, hn, hdp, q⟩
  obtain ⟨as, r1⟩ := Dp.reads I d x v hd rx
  obtain ⟨bs, r2⟩ := Dp.reads I e y u he ry
  exact PySem.W.le_data r1 r2 ha hn (by omega) ⟨.bl _, H, I, rfl, q⟩
theorem op_geD (hu : X.A.units + 65 < cLine) : OpR X (compareOp .GtE) (rOrd X.K fun d e => !PySem.W.dataLt d e) := by
  intro pins s σ H x y v u Q I rx ry ⟨d, e, hd, he, ha, hn, hdp, q⟩
  obtain ⟨as, r1⟩ := Dp.reads I d x v hd rx
  obtain ⟨bs, r2⟩ := Dp.reads I e y u he ry
  exact PySem.W.ge_data r1 r2 ha hn (by omega) ⟨.bl _, H, I, rfl, q⟩
theorem sc_ord {b : PyData → PyData → Bool} : Sc K (fun ds => match ds with | [d, e] => if ordOk d e then some (.bool (b d e)) else none | _ => none) (r2 (rOrd K b)) := fun H vs ds z a hf => by
  dsimp only at hf
  split at hf
  · split at hf
    · rename_i d e ho
      cases hf
      unfold ordOk at ho
      simp only [Bool.and_eq_true, Bool.not_eq_true', decide_eq_true_eq] at ho
      obtain ⟨v, u, rfl, h1, h2⟩ := dfa2 a
      refine ⟨_, rfl, fun Q q => ⟨d, e, h1.dp (.refl H), h2.dp (.refl H), ho.1.1, fun z => ?_, ho.2, q⟩⟩
      subst z
      cases ho.1.2
    · cases hf
  · cases hf
theorem sc_ltD : Sc K fLtD (r2 (rOrd K PySem.W.dataLt)) := sc_ord
theorem sc_gtD : Sc K fGtD (r2 (rOrd K fun d e => PySem.W.dataLt e d)) := sc_ord
theorem sc_leD : Sc K fLeD (r2 (rOrd K fun d e => !PySem.W.dataLt e d)) := sc_ord
theorem sc_geD : Sc K fGeD (r2 (rOrd K fun d e => !PySem.W.dataLt d e)) := sc_ord
end
end Dn

set_option Elab.async false
set_option linter.all false
set_option maxRecDepth 100000
set_option maxHeartbeats 4000000
namespace Dn
open PySem L2
/-! ### xs = xs + [r + [y] for r in xs], the rows of xs stay one's own -/
def dblRow (d : PyData) : O → Option O
  | .l zs => (match O.allV zs with
    | some ds => if ds.length + 1 ≤ sizeLine then some (.l ((ds ++ [d]).map .v)) else none
    | none => none)
  | _ => none
def dblRows (d : PyData) : List O → Option (List O)
  | [] => some []
  | x :: xs => (match dblRow d x, dblRows d xs with
    | some y, some ys => some (y :: ys)
    | _, _ => none)
def mDbl (i r y : Nat) : MS := fun e => match e[i]?, e[r]?, e[y]? with
  | some (.own (.l xs)), some .no, some (.own (.v d)) => if i ≠ r ∧ y ≠ r ∧ xs.length + xs.length ≤ sizeLine then (match dblRows d xs with
    | some ys => some (.nx (e.set i (.own (.l (xs ++ ys)))))
    | none => none) else none
  | _, _, _ => none
theorem dblRows_len {d : PyData} : ∀ {xs ys : List O}, dblRows d xs = some ys → ys.length = xs.length
  | [], _, h => by cases h; rfl
  | x :: xs, ys, h => by
    unfold dblRows at h
    split at h
    · rename_i h1 h2
      cases h
      rw [List.length_cons, List.length_cons, dblRows_len h2]
    · cases h
theorem dblRows_snoc {d : PyData} {x y : O} (hy : dblRow d x = some y) : ∀ {xs ys : List O}, dblRows d xs = some ys → dblRows d (xs ++ [x]) = some (ys ++ [y])
  | [], _, h => by
    cases h
    show (match dblRow d x, some [] with | some y, some ys => some (y :: ys) | _, _ => none) = some [y]
    rw [hy]
  | z :: xs, ys, h => by
    unfold dblRows at h
    split at h
    · rename_i a b h1 h2
      cases h
      rw [List.cons_append]
      unfold dblRows
      rw [h1, dblRows_snoc hy h2]
      rfl
    · cases h
theorem dblRows_get {d : PyData} {x : O} : ∀ {xs ys : List O} {k : Nat}, dblRows d xs = some ys → xs[k]? = some x → ∃ y, dblRow d x = some y
  | [], _, k, _, h => by simp at h
  | z :: xs, ys, k, h, hk => by
    unfold dblRows at h
    split at h
    · rename_i a b h1 h2
      cases k with
      | zero => simp at hk; subst hk; exact ⟨a, h1⟩
      | succ k => exact dblRows_get h2 (by simpa using hk)
    · cases h
section
variable {K : PySem.W.Frag} {F H : Hp} {X : Cx} {B : Bs} {σ : St} {e : En} {G : Ws}
theorem rpl_allV : ∀ {w : Ws} {T : List Addr} {ds : List PyData}, RpL K F H w T → O.allV (w.map (·.2)) = some ds → DfAll K F (w.map (·.1)) ds
  | [], _, _, _, h => by cases h; exact .nil
  | (v, x) :: w, _, ds, .cons a t, h => by
    rw [List.map_cons] at h
    cases x with
    | v d =>
      unfold O.allV at h
      split at h
      · rename_i ds' h'
        cases h
        exact .cons (rp_v a) (rpl_allV t h')
      · cases h
    | _ => cases h
theorem Sta.unwipe {r : Nat} (s : Sta K B F H (wipe σ [r]) e G) (h : e[r]? = some .no) : Sta K B F H σ e G := by
  have q := s.wipe1 (v := r) (x := (σ[r]?).join)
  rw [set_self h] at q
  have : (wipe σ [r]).set r (σ[r]?).join = σ := by
    show ((wipe σ []).set r none).set r _ = σ
    rw [List.set_set]
    exact set_join
  rw [this] at q
  exact q
theorem wipe1_get {r j : Nat} (h : ¬ j = r) : (wipe σ [r])[j]? = σ[j]? := by
  rw [wipe_get, if_neg (by simpa using h)]
theorem ds_dbl {i r y : Nat} {x : Str} {ex : Expr} {pos pos' : Pos} (hN : X.N.Nodup) (hi : X.N[i]? = some x) (hx : Loc X.env.scope x)
    (he : PE X ex (tOp (rAddA X.K) (tVar i) (tLc (iList X.K (tVar i)) (gName r) tYes (tOp rCat (tVar r) (tLst (tCons (tVar y) tNil))) [r])))
    (hs : swapsWith ex (some (.Name x pos')) pos.line X.env = pure false := by rfl) (hf : X.fn x = true ∨ X.env.scope.names.lookup x = some .local := by first | exact .inl rfl | exact .inr rfl | assumption) :
    PS X (.Assign [.Name x pos'] ex pos) (denS X.K (mDbl i r y)) := ps_imp (ps_set hN hi hx he hs hf) fun D σ H ⟨B, F, e, G, oc, s, hm, k⟩ => by
  unfold mDbl at hm
  split at hm
  · rename_i xs d h1 h2 h3
    split at hm
    · rename_i hne
      obtain ⟨n1, n2, hlen⟩ := hne
      split at hm
      · rename_i ys h4
        cases hm
        obtain ⟨v, hv, T, rv⟩ := s.seeO h1 (show (Sl.own (.l xs)).o? = some (.l xs) from rfl)
        obtain ⟨u, hu, Tu, ru⟩ := s.seeO h3 (show (Sl.own (.v d)).o? = some (.v d) from rfl)
        cases rv with
        | l hp e1 e2 rl =>
          rename_i p vs ws T'
          refine ⟨_, hv, _, hv, p, rfl, ⟨_, .of hp⟩, fun D' hD => ?_⟩
          have s0 : Sta X.K B F H (wipe σ [r]) e G := by
            have q := s.hide (vs := [r])
            have e3 : Dn.hide e [r] = e := by
              show (Dn.hide e []).set r .no = e
              exact set_self h2
            rw [e3] at q
            exact q
          refine ⟨fun j m H' => j + m = xs.length ∧ ∃ F' acc, Sta X.K B F' H' (wipe σ [r]) e ((.ref D', .l acc) :: G) ∧ dblRows d (xs.take j) = some acc, ⟨xs.length, by omega, F, [], s0.newL (w := []) hD, rfl⟩, fun j m H' ⟨hjm, F', acc, s1, ha⟩ => ?_⟩
          obtain ⟨v1, hv1, T1, rv1⟩ := s1.seeO h1 (show (Sl.own (.l xs)).o? = some (.l xs) from rfl)
          rw [wipe1_get n1, hv] at hv1
          cases hv1
          cases rv1 with
          | l hp1 f1 f2 rl1 =>
            rename_i vs1 ws1 T1'
            cases m with
            | zero =>
              have hj : j = xs.length := by omega
              subst hj
              left
              refine ⟨⟨_, .of hp1, ?_⟩, ?_⟩
              · rw [f1, f2, List.length_map, List.length_map]; exact Nat.le_refl _
              · rw [List.take_length] at ha
                have : acc = ys := by rw [ha] at h4; exact Option.some.inj h4
                subst this
                have s2 := s1.unwipe h2
                obtain ⟨v2, hv2, s3⟩ := s2.out h1 (show (Sl.own (.l xs)).o? = some (.l xs) from rfl)
                rw [hv] at hv2
                cases hv2
                have hal := dblRows_len ha
                refine al_add B F' H' σ (e.set i .no) G [(.ref p, .l xs), (.ref D', .l acc)] (.l (xs ++ acc)) _ s3 ?_ fun F4 H4 v4 s4 _ => ?_
                · show (if xs.length + acc.length ≤ sizeLine then some (O.l (xs ++ acc)) else none) = _
                  rw [if_pos (by omega)]
                · have hlt := (List.getElem?_eq_some_iff.mp h1).1
                  have s5 := setE_store (i := i) (e' := e.set i (.own (.l (xs ++ acc)))) s4 (by
                    unfold setE
                    rw [List.getElem?_set_self hlt, List.set_set])
                  exact k F4 H4 _ s5
            | succ m =>
              right
              have hjl : j < xs.length := by omega
              have hw : j < ws1.length := by
                have : xs.length = ws1.length := by rw [f2, List.length_map]
                omega
              have hgo : vs1[j]? = some (ws1[j]).1 := by rw [f1, List.getElem?_map, List.getElem?_eq_getElem hw]; rfl
              refine ⟨⟨_, (ws1[j]).1, .of hp1, hgo⟩, fun H'' => ∃ F' acc, Sta X.K B F' H'' (wipe σ [r]) e ((.ref D', .l acc) :: G) ∧ dblRows d (xs.take (j + 1)) = some acc, fun H'' q => ⟨m, Nat.lt_succ_self _, by omega, q⟩, fun z H3 hz => ?_⟩
              obtain ⟨rfl, hz2⟩ := hz
              have hzz := hz2 _ (.of hp1)
              rw [hgo] at hzz
              cases hzz
              have hxj : xs[j]? = some (ws1[j]).2 := by rw [f2, List.getElem?_map, List.getElem?_eq_getElem hw]; rfl
              obtain ⟨Tj, rj⟩ := rpl_get rl1 (List.getElem?_eq_getElem hw)
              obtain ⟨yj, hyj⟩ := dblRows_get h4 hxj
              have hr : r < (wipe σ [r]).length := by
                have := (List.getElem?_eq_some_iff.mp h2).1
                rw [s1.ok.len]; exact this
              show wipe ((wipe σ [r]).set r (some ws1[j].1)) [r] = wipe σ [r] ∧ tYes ((wipe σ [r]).set r (some ws1[j].1)) H3 _
              constructor
              · rw [wipe_set (List.mem_singleton.mpr rfl), wipe_wipe]
              · unfold tYes
                dsimp only
                rw [if_pos rfl]
                generalize ws1[j] = wj at *
                obtain ⟨z, oz⟩ := wj
                simp only at hgo hxj rj
                cases oz with
                | l zs =>
                  unfold dblRow at hyj
                  dsimp only at hyj
                  split at hyj
                  · rename_i ds hds
                    split at hyj
                    · rename_i hsz
                      cases hyj
                      cases rj with
                      | l hq g1 g2 rlq =>
                        rename_i q zv wz Tz
                        subst g2
                        have hdf := rpl_allV rlq hds
                        have hzl := dfa_len hdf
                        obtain ⟨u1, hu1, Tu1, ru1⟩ := s1.seeO h3 (show (Sl.own (.v d)).o? = some (.v d) from rfl)
                        rw [wipe1_get n2, hu] at hu1
                        cases hu1
                        have hdu := rp_v ru1
                        refine ⟨.ref q, by rw [List.getElem?_set_self hr], u, by rw [List.getElem?_set_ne (fun z => n2 z.symm), wipe1_get n2]; exact hu, by show 1 ≤ sizeLine; decide, fun p1 hp1' => ?_⟩
                        have hqp : q ≠ p1 := fun z => by rw [z, hp1'] at hq; cases hq
                        refine ⟨q, p1, zv, [u], rfl, rfl, by rw [upd_ne hqp]; exact hq, upd_same, by rw [g1]; rw [List.length_map] at hzl ⊢; show wz.length + 1 ≤ sizeLine; omega, fun t ht => ?_⟩
                        have s2 : Sta X.K B F' _ (wipe σ [r]) e _ := (s1.push hdu).newL (w := [(u, .v d)]) hp1'
                        have s3 := s2.pop
                        have hdd : DfAll X.K F' (zv ++ [u]) (ds ++ [d]) := by rw [g1]; exact dfa_append hdf (.cons hdu .nil)
                        have s4 := (s3.pushAll hdd).newL ht
                        have hl4 := dfa_len hdd
                        rw [zip_fst (by rw [List.length_map]; exact hl4), zip_snd (by rw [List.length_map]; exact hl4)] at s4
                        have s5 := s4.perm (.swap _ _ _)
                        obtain ⟨p', w, hpe, hp', hw2, qq⟩ := (s5.rel.perm (mid _ _ _)).put
                        cases hpe
                        have hla : acc.length ≤ j := by
                          have := dblRows_len ha
                          rw [List.length_take] at this
                          omega
                        refine ⟨w.map (fun x : V × O => x.1), hp', ?_, ⟨F', acc ++ [.l ((ds ++ [d]).map .v)], ?_, ?_⟩⟩
                        · rw [List.length_map]
                          have : w.length = acc.length := by rw [← hw2, List.length_map]
                          omega
                        · have r2 := qq (w ++ [(.ref t, .l ((ds ++ [d]).map .v))]) (slots (wipe σ [r]) e ++ G) (by
                            rw [List.append_assoc]
                            refine List.Perm.append_left _ ?_
                            exact mid _ _ _)
                          rw [List.map_append (f := fun x : V × O => x.1), List.map_append (f := fun x : V × O => x.2), hw2] at r2
                          exact ⟨s5.ok, r2.perm (mid _ _ _).symm⟩
                        · rw [List.take_succ_eq_append_getElem hjl]
                          refine dblRows_snoc ?_ ha
                          have : xs[j] = .l (wz.map (·.2)) := by
                            rw [List.getElem?_eq_getElem hjl] at hxj
                            exact Option.some.inj hxj
                          rw [this]
                          show (match O.allV (wz.map (·.2)) with | some ds => if ds.length + 1 ≤ sizeLine then some (O.l ((ds ++ [d]).map .v)) else none | none => none) = _
                          rw [hds]
                          dsimp only
                          rw [if_pos hsz]
                    · cases hyj
                  · cases hyj
                | _ => cases hyj
      · cases hm
    · cases hm
  · cases hm
end
end Dn

set_option Elab.async false
set_option linter.all false
set_option maxRecDepth 100000
set_option maxHeartbeats 4000000
namespace L2
open PySem PySem.Spec PyProof.Rows
section
variable {X : Cx}
/-- l.count(x): how many are equal -/
def rCountD (K : PySem.W.Frag) : V → List V → Hp → VK → Prop := fun x xs H Q => ∃ (a : Addr) (y : V) (d : PyData) (ds : List PyData), x = V.ref a ∧ xs = [y] ∧ Dp K H (V.ref a) (.list ds) ∧ Dp K H y d ∧
  SeqAt.shaped (.list ds) = true ∧ SeqAt.shaped d = true ∧ Q (.int ((ds.countP fun z => PyData.eqv z d) : Nat)) H
theorem mt_countD (hu : X.A.units + 65 < cLine) : MtR X "list.count" (rCountD X.K) := by
  intro pins s σ H x xs v us Q I rx rxs h
  obtain ⟨a, y, d, ds, rfl, rfl, hl, hy, sl, sd, q⟩ := h
  cases rx
  cases rxs with
  | cons ry rt =>
    rename_i uy ut
    cases rt
    obtain ⟨bs, r1⟩ := Dp.reads I d y uy hy ry
    have hxs : PyData.canLayAll0 ds = true := SeqAt.canLay_of_shaped sl
    have hroom : X.A.units + 1 + min (PyData.depthAll ds) d.depth < cLine := room_in_shaped sd hu
    cases hl with
    | lst hs ha =>
      obtain ⟨its, rv, ⟨⟨cls, dd, data, sls⟩, n, ho, hc, hdn, hdt⟩, hlen⟩ := I.list hs
      simp only at hc hdt
      subst hc hdt
      obtain ⟨as, h4⟩ := Dp.readsAll I ds _ its ha rv
      have hmap : its.map (SeqAt.readOf s.heap) = ds := SeqAt.readsAll_map ds its as hxs h4
      refine call_meets PySem.F.slot_list_count ⟨_, ho, rfl⟩ PySem.F.entry_list_count (PySem.F.args_list_count_2 _ _)
        (SeqAt.list_countAt a its.toArray n dd sls uy (fun u => PyData.eqv (SeqAt.readOf s.heap u) d)) ⟨ho, SeqAt.items_eqAt (vs := its.toArray) (show ReadsAll s.heap its.toArray.toList ds as from h4) r1 hxs (SeqAt.canLay_of_shaped sd) hroom, ?_⟩
      have ec : its.toArray.toList.countP (fun u => PyData.eqv (SeqAt.readOf s.heap u) d) = ds.countP fun z => PyData.eqv z d := by
        rw [← hmap, List.countP_map]; rfl
      refine ⟨.int (ds.countP fun z => PyData.eqv z d : Nat), H, I.tok _, ⟨s.toks, ?_⟩, q⟩
      show Value.int ((its.toArray.toList.countP _ : Nat) : Int) s.toks = Value.int ((ds.countP _ : Nat) : Int) s.toks
      rw [ec]
end
end L2
namespace Dn
open PySem L2
variable {K : PySem.W.Frag}
def fCount : List PyData → Option PyData
  | [.list ds, d] => if SeqAt.shaped (.list ds) && SeqAt.shaped d then some (.int ((ds.countP fun z => PyData.eqv z d) : Nat)) else none
  | _ => none
theorem sc_count : Sc K fCount (rM (rCountD K)) := fun H vs ds z a hf => by
  unfold fCount at hf
  split at hf
  · split at hf
    · rename_i hs
      simp only [Bool.and_eq_true] at hs
      cases hf
      obtain ⟨v, u, rfl, b, c⟩ := dfa2 a
      obtain ⟨p, ws, rfl, hp, ha⟩ := df_list b
      exact ⟨_, rfl, fun Q q => ⟨p, u, _, _, rfl, rfl, b.dp (.refl H), c.dp (.refl H), hs.1, hs.2, q⟩⟩
    · cases hf
  · cases hf
end Dn

set_option Elab.async false
set_option linter.all false
set_option maxRecDepth 100000
set_option maxHeartbeats 4000000
/-! dicts: new, d[k], d[k] = v; keys ints and texts, or tuples of these -/
namespace Dn
open PySem L2
def keyD : PyData → Option Key
  | .int i => some (.inl i)
  | .str x => some (.inr x)
  | _ => none
def keysD : List PyData → Option (List Key)
  | [] => some []
  | d :: ds => (match keyD d, keysD ds with
    | some k, some ks => some (k :: ks)
    | _, _ => none)
section
variable {κ : Type} [DecidableEq κ]
def dval (kvs : List (κ × PyData)) (k : κ) : Option PyData := (kvs.find? fun kv => decide (kv.1 = k)).map (·.2)
def dput (kvs : List (κ × PyData)) (k : κ) (v : PyData) : List (κ × PyData) :=
  if (kvs.any fun kv => decide (kv.1 = k)) = true then kvs.map (fun kv => if kv.1 = k then (kv.1, v) else kv) else kvs ++ [(k, v)]
variable {K : PySem.W.Frag} {F : Hp}
theorem dval_ok (k : κ) : ∀ {kvs : List (κ × V)} {ks : List (κ × PyData)} {d : PyData}, kvs.map (·.1) = ks.map (·.1) → DfAll K F (kvs.map (·.2)) (ks.map (·.2)) → dval ks k = some d → ∃ v, valV kvs k = some v ∧ Df K F v d
  | [], [], d, _, _, h => by simp [dval] at h
  | [], _ :: _, _, h, _, _ => by simp at h
  | _ :: _, [], _, h, _, _ => by simp at h
  | (a, v) :: kvs, (b, e) :: ks, d, h1, h2, h3 => by
    simp only [List.map_cons, List.cons.injEq] at h1 h2
    obtain ⟨rfl, h1⟩ := h1
    cases h2 with
    | cons hv ht =>
      by_cases q : a = k
      · have : dval ((a, e) :: ks) k = some e := by simp [dval, List.find?_cons, q]
        rw [this] at h3
        cases h3
        exact ⟨v, valV_pos q, hv⟩
      · have : dval ((a, e) :: ks) k = dval ks k := by simp [dval, List.find?_cons, q]
        rw [this] at h3
        obtain ⟨u, e1, e2⟩ := dval_ok k h1 ht h3
        exact ⟨u, by rw [valV_neg (by exact q)]; exact e1, e2⟩
theorem dval_no (k : κ) : ∀ {kvs : List (κ × V)} {ks : List (κ × PyData)}, kvs.map (·.1) = ks.map (·.1) → dval ks k = none → valV kvs k = none
  | [], [], _, _ => rfl
  | [], _ :: _, h, _ => by simp at h
  | _ :: _, [], h, _ => by simp at h
  | (a, v) :: kvs, (b, e) :: ks, h1, h3 => by
    simp only [List.map_cons, List.cons.injEq] at h1
    obtain ⟨rfl, h1⟩ := h1
    by_cases q : a = k
    · have : dval ((a, e) :: ks) k = some e := by simp [dval, List.find?_cons, q]
      rw [this] at h3
      cases h3
    · have : dval ((a, e) :: ks) k = dval ks k := by simp [dval, List.find?_cons, q]
      rw [this] at h3
      rw [valV_neg (by exact q)]
      exact dval_no k h1 h3
theorem any_keys (k : κ) : ∀ {α β : Type} {kvs : List (κ × α)} {ks : List (κ × β)}, kvs.map (·.1) = ks.map (·.1) → (kvs.any fun kv => decide (kv.1 = k)) = ks.any fun kv => decide (kv.1 = k)
  | _, _, [], [], _ => rfl
  | _, _, [], _ :: _, h => by simp at h
  | _, _, _ :: _, [], h => by simp at h
  | _, _, (a, v) :: kvs, (b, e) :: ks, h1 => by
    simp only [List.map_cons, List.cons.injEq] at h1
    obtain ⟨rfl, h1⟩ := h1
    rw [List.any_cons, List.any_cons, any_keys k h1]
theorem rep_keys (k : κ) {α : Type} (v : α) : ∀ (kvs : List (κ × α)), (kvs.map (fun kv => if kv.1 = k then (kv.1, v) else kv)).map (·.1) = kvs.map (·.1)
  | [] => rfl
  | (a, e) :: kvs => by
    rw [List.map_cons, List.map_cons, List.map_cons, rep_keys k v kvs]
    by_cases q : a = k
    · simp [q]
    · simp [q]
theorem rep_df (k : κ) {v : V} {d : PyData} (hv : Df K F v d) : ∀ {kvs : List (κ × V)} {ks : List (κ × PyData)}, kvs.map (·.1) = ks.map (·.1) → DfAll K F (kvs.map (·.2)) (ks.map (·.2)) → DfAll K F ((kvs.map (fun kv => if kv.1 = k then (kv.1, v) else kv)).map (·.2)) ((ks.map (fun kv => if kv.1 = k then (kv.1, d) else kv)).map (·.2))
  | [], [], _, _ => .nil
  | [], _ :: _, h, _ => by simp at h
  | _ :: _, [], h, _ => by simp at h
  | (a, u) :: kvs, (b, e) :: ks, h1, h2 => by
    simp only [List.map_cons, List.cons.injEq] at h1
    obtain ⟨rfl, h1⟩ := h1
    rw [List.map_cons, List.map_cons] at h2
    cases h2 with
    | cons hu ht =>
      have ih := rep_df k hv h1 ht
      by_cases q : a = k
      · simp only [List.map_cons, q, if_true]
        exact .cons hv ih
      · simp only [List.map_cons, q, if_false]
        exact .cons hu ih
theorem dput_ok {k : κ} {v : V} {d : PyData} {kvs : List (κ × V)} {ks : List (κ × PyData)} (hv : Df K F v d) (h1 : kvs.map (·.1) = ks.map (·.1)) (h2 : DfAll K F (kvs.map (·.2)) (ks.map (·.2))) :
    (putK kvs k v).map (·.1) = (dput ks k d).map (·.1) ∧ DfAll K F ((putK kvs k v).map (·.2)) ((dput ks k d).map (·.2)) := by
  unfold putK dput
  rw [any_keys k h1]
  split
  · exact ⟨by rw [rep_keys, rep_keys, h1], rep_df k hv h1 h2⟩
  · refine ⟨by rw [List.map_append, List.map_append, h1]; rfl, ?_⟩
    rw [List.map_append, List.map_append]
    exact dfa_append h2 (.cons hv .nil)
end
section
variable {K : PySem.W.Frag} {H0 F0 F H : Hp} {ws : Ws} {B : Bs} {σ : St} {e : En} {G : Ws} {X : Cx}
theorem keysD_v : ∀ {vs : List V} {ds : List PyData} {ks : List Key}, DfAll K F vs ds → keysD ds = some ks → vs = ks.map kV
  | _, [], _, .nil, h => by cases h; rfl
  | _, d :: ds, ks, .cons a t, h => by
    unfold keysD at h
    split at h
    · rename_i k ks' h1 h2
      cases h
      rw [List.map_cons, ← keysD_v t h2]
      congr 1
      cases d <;> simp only [keyD, Option.some.injEq, reduceCtorEq] at h1
      · subst h1; cases a; rfl
      · subst h1; cases a; rfl
    · cases h
theorem keyD_v {v : V} {d : PyData} {k : Key} (a : Df K F v d) (h1 : keyD d = some k) : v = kV k := by
  cases d <;> simp only [keyD, Option.some.injEq, reduceCtorEq] at h1
  · subst h1; cases a; rfl
  · subst h1; cases a; rfl
/-- new ones -/
theorem Sta.newT0 {p : Addr} (s : Sta K B F H σ e G) (h : H p = none) : Sta K B F (upd H p (.dT [])) σ e ((.ref p, .dt []) :: G) :=
  ⟨s.ok, (Rel.newWith (w := []) s.rel h fun T m => by cases m; exact .dt upd_same rfl .nil).perm (mid _ _ _).symm⟩
theorem Sta.newK0 {p : Addr} (s : Sta K B F H σ e G) (h : H p = none) : Sta K B F (upd H p (.dK [])) σ e ((.ref p, .dk []) :: G) :=
  ⟨s.ok, (Rel.newWith (w := []) s.rel h fun T m => by cases m; exact .dk upd_same rfl .nil).perm (mid _ _ _).symm⟩
def mDnT : MD O := fun e => some (.dt [], e)
def mDnK : MD O := fun e => some (.dk [], e)
theorem d_dnT {pos : Pos} : PE X (.Dict [] [] pos) (den X.K true mDnT) := pe_imp pe_dnewT fun σ H Q ⟨B, F, e, G, x, e', s, hm, k⟩ => by
  cases hm
  exact fun p hp => k F _ _ (s.newT0 hp) fun _ => same_upd hp
theorem d_dnK {pos : Pos} : PE X (.Dict [] [] pos) (den X.K true mDnK) := pe_imp pe_dnewK fun σ H Q ⟨B, F, e, G, x, e', s, hm, k⟩ => by
  cases hm
  exact fun p hp => k F _ _ (s.newK0 hp) fun _ => same_upd hp
/-- what a dict tells of a key -/
def dgetO : O → PyData → Option (Option PyData)
  | .dt kvs, .tuple ds => (match keysD ds with
    | some k => some (dval kvs k)
    | none => none)
  | .dk kvs, d => (match keyD d with
    | some k => some (dval kvs k)
    | none => none)
  | _, _ => none
def dputO : O → PyData → PyData → Option O
  | .dt kvs, .tuple ds, d => (match keysD ds with
    | some k => if kvs.length < sizeLine then some (.dt (dput kvs k d)) else none
    | none => none)
  | .dk kvs, y, d => (match keyD y with
    | some k => if kvs.length < sizeLine then some (.dk (dput kvs k d)) else none
    | none => none)
  | _, _, _ => none
theorem dget_run {F H : Hp} {v y : V} {x : O} {d z : PyData} {T : List Addr} (fh : Same F H) (r : Rp K F H v x T) (hy : Df K F y d) (h : dgetO x d = some (some z)) : ∃ a u, v = .ref a ∧ DGet H a y (some u) ∧ Df K F u z := by
  cases r with
  | dt hp e1 a =>
    rename_i p kvs ks
    cases d with
    | tuple ds =>
      have h' : (match keysD ds with | some k => some (dval ks k) | none => none) = some (some z) := h
      split at h'
      · rename_i k hk
        cases hy with
        | tup hb hall =>
          have := keysD_v hall hk
          subst this
          obtain ⟨u, h1, h2⟩ := dval_ok k e1 a (Option.some.inj h')
          exact ⟨p, u, rfl, by rw [← h1]; exact DGet.t hp (fh _ _ hb), h2⟩
      · cases h'
    | _ => cases h
  | dk hp e1 a =>
    rename_i p kvs ks
    have h' : (match keyD d with | some k => some (dval ks k) | none => none) = some (some z) := h
    split at h'
    · rename_i k hk
      have := keyD_v hy hk
      subst this
      obtain ⟨u, h1, h2⟩ := dval_ok k e1 a (Option.some.inj h')
      exact ⟨p, u, rfl, by rw [← h1]; exact DGet.k hp, h2⟩
    · cases h'
  | _ => cases h
theorem dget_run0 {F H : Hp} {v y : V} {x : O} {d : PyData} {z : Option PyData} {T : List Addr} (fh : Same F H) (r : Rp K F H v x T) (hy : Df K F y d) (h : dgetO x d = some z) : ∃ a u, v = .ref a ∧ DGet H a y u ∧ u.isSome = z.isSome := by
  cases z with
  | some z =>
    obtain ⟨a, u, h1, h2, h3⟩ := dget_run fh r hy h
    exact ⟨a, _, h1, h2, rfl⟩
  | none =>
    cases r with
    | dt hp e1 a =>
      rename_i p kvs ks
      cases d with
      | tuple ds =>
        have h' : (match keysD ds with | some k => some (dval ks k) | none => none) = some none := h
        split at h'
        · rename_i k hk
          cases hy with
          | tup hb hall =>
            have := keysD_v hall hk
            subst this
            have h1 := dval_no k e1 (Option.some.inj h')
            exact ⟨p, none, rfl, by rw [← h1]; exact DGet.t hp (fh _ _ hb), rfl⟩
        · cases h'
      | _ => cases h
    | dk hp e1 a =>
      rename_i p kvs ks
      have h' : (match keyD d with | some k => some (dval ks k) | none => none) = some none := h
      split at h'
      · rename_i k hk
        have := keyD_v hy hk
        subst this
        have h1 := dval_no k e1 (Option.some.inj h')
        exact ⟨p, none, rfl, by rw [← h1]; exact DGet.k hp, rfl⟩
      · cases h'
    | _ => cases h
/-- d[k], d a slot's dict; the key is reckoned behind -/
def mDget (i : Nat) (mk : MD O) : MD O := fun e => match bVar i e with
  | some _ => (match mk e with
    | some (.v d, e1) => (match bVar i e1 with
      | some x => (match dgetO x d with
        | some (some z) => some (.v z, e1)
        | _ => none)
      | none => none)
    | _ => none)
  | none => none
theorem d_dget {i : Nat} {p : Bool} {o k : Expr} {mk : MD O} {pos : Pos} (hu : X.A.units + 65 < cLine) (ho : PE X o (tVar i)) (hk : PE X k (den X.K p mk)) (hs : NoSl k) : PE X (.Subscript o k pos) (den X.K p (mDget i mk)) := pe_imp (pe_dget (by omega) ho hk hs) fun σ H Q ⟨B, F, e, G, x, e', s, hm, kk⟩ => by
  unfold mDget at hm
  split at hm
  · rename_i x0 h0
    split at hm
    · rename_i d e1 h1
      split at hm
      · rename_i y h2
        split at hm
        · rename_i z h3
          obtain ⟨rfl, rfl⟩ := so hm
          obtain ⟨sl0, hi0, ho0⟩ := Option.bind_eq_some_iff.mp h0
          obtain ⟨v, hv, _⟩ := s.seeO hi0 ho0
          refine ⟨v, hv, ⟨B, F, e, G, _, e1, s, h1, fun F1 H1 u s1 sm => ?_⟩⟩
          obtain ⟨sl, hi, ho⟩ := Option.bind_eq_some_iff.mp h2
          obtain ⟨v', hv', T, r⟩ := s1.seeO hi ho
          obtain rfl : v' = v := by rw [hv] at hv'; cases hv'; rfl
          obtain ⟨T', ru⟩ := s1.at
          obtain ⟨a, w, e2, g, hw⟩ := dget_run s1.fh r (rp_v ru) h3
          exact ⟨a, w, e2, g, kk F1 H1 w (s1.pop.push hw) sm⟩
        · cases hm
      · cases hm
    · cases hm
  · cases hm
/-- k in d -/
def mDin (b : Bool) (mk : MD O) (i : Nat) : MD O := fun e => match mk e with
  | some (.v d, e1) => (match bVar i e1 with
    | some x => (match dgetO x d with
      | some z => some (.v (.bool (z.isSome == b)), e1)
      | none => none)
    | none => none)
  | _ => none
/-- the put -/
theorem Rel.putD {v : V} {x x' : O} {y : V} {yd d : PyData} {u : V} (r : Rel K H0 F0 F H ((v, x) :: ws)) (hy : Df K F y yd) (hu : Df K F u d) (h : dputO x yd d = some x') : ∃ a H', v = .ref a ∧ DPut H a y u H' ∧ Rel K H0 F0 F H' ((v, x') :: ws) := by
  obtain ⟨T, rl, nd, hT⟩ := r.res
  cases rl with
  | cons a t =>
    rename_i T1 T2
    have main : ∀ (p : Addr) (ob : HO), v = .ref p → T1 = [p] → H p ≠ none → Rp K F (upd H p ob) (.ref p) x' [p] → Rel K H0 F0 F (upd H p ob) ((v, x') :: ws) := by
      intro p ob hv ht _ hr
      subst hv
      subst ht
      have hpn := hT p (List.mem_append_left _ (List.mem_cons_self ..))
      have nd0 := nd
      rw [List.cons_append] at nd
      obtain ⟨np, nd2⟩ := List.nodup_cons.mp nd
      rw [List.nil_append] at np
      refine ⟨fun q o e => ?_, r.f0, r.fn, fun q o e => ?_, [p] ++ T2, .cons hr (rpl_mono (Same.refl F) t fun q hq => upd_ne fun z => np (z ▸ hq)), nd0, hT⟩
      · have : q ≠ p := fun z => by rw [z, hpn.2] at e; cases e
        rw [upd_ne this]
        exact r.h0 q o e
      · have : q ≠ p := fun z => by rw [z, hpn.1] at e; cases e
        rw [upd_ne this]
        exact r.fh q o e
    cases a with
    | dt hp e1 hall =>
      rename_i p kvs ks
      cases yd with
      | tuple ds =>
        have h' : (match keysD ds with | some k => if ks.length < sizeLine then some (O.dt (dput ks k d)) else none | none => none) = some x' := h
        split at h'
        · rename_i k hk
          split at h'
          · rename_i hl
            cases h'
            cases hy with
            | tup hb hal =>
              have := keysD_v hal hk
              subst this
              obtain ⟨q1, q2⟩ := dput_ok (k := k) hu e1 hall
              have hlen : kvs.length = ks.length := by
                have := congrArg List.length e1
                simpa using this
              exact ⟨p, _, rfl, DPut.t hp (r.fh _ _ hb) (by rw [hlen]; exact hl), main p _ rfl rfl (by rw [hp]; exact nofun) (.dt upd_same q1 q2)⟩
          · cases h'
        · cases h'
      | _ => cases h
    | dk hp e1 hall =>
      rename_i p kvs ks
      have h' : (match keyD yd with | some k => if ks.length < sizeLine then some (O.dk (dput ks k d)) else none | none => none) = some x' := h
      split at h'
      · rename_i k hk
        split at h'
        · rename_i hl
          cases h'
          have := keyD_v hy hk
          subst this
          obtain ⟨q1, q2⟩ := dput_ok (k := k) hu e1 hall
          have hlen : kvs.length = ks.length := by
            have := congrArg List.length e1
            simpa using this
          exact ⟨p, _, rfl, DPut.k hp (by rw [hlen]; exact hl), main p _ rfl rfl (by rw [hp]; exact nofun) (.dk upd_same q1 q2)⟩
        · cases h'
      · cases h'
    | _ => cases h
theorem Sta.putD {i : Nat} {sl : Sl} {x x' : O} {y u : V} {yd d : PyData} (s : Sta K B F H σ e ((y, .v yd) :: (u, .v d) :: G)) (hi : e[i]? = some sl) (ho : sl.o? = some x) (h : dputO x yd d = some x') :
    ∃ a H', σ[i]? = some (some (.ref a)) ∧ DPut H a y u H' ∧ Sta K B F H' σ (e.set i (sl.like x')) G := by
  obtain ⟨Ty, ry⟩ := s.at
  obtain ⟨Tu, ru⟩ := s.pop.at
  obtain ⟨v, hv, s1⟩ := s.pop.pop.out hi ho
  obtain ⟨a, H', rfl, g, r⟩ := (s1.rel.perm (mid _ _ _)).putD (rp_v ry) (rp_v ru) h
  refine ⟨a, H', hv, g, ?_⟩
  have hl : i < e.length := (List.getElem?_eq_some_iff.mp hi).1
  have ok : SlOk B.vs σ (e.set i (sl.like x')) := by
    cases sl with
    | no => cases ho
    | own o => exact s.ok.own hi
    | pin o => exact s.ok.pin hi
  have hlo : (sl.like x').o? = some x' := by
    cases sl with
    | no => cases ho
    | own o => rfl
    | pin o => rfl
  exact ⟨ok, r.perm ((slots_put hlo hl hv).append_right G).symm⟩
/-- d[k] = v -/
def mDput (i : Nat) (mv mk : MD O) : MS := fun e => match mv e with
  | some (.v d, e1) => (match bVar i e1 with
    | some _ => (match mk e1 with
      | some (.v yd, e2) => (match e2[i]? with
        | some (.own x) => (match dputO x yd d with
          | some x' => some (.nx (e2.set i (.own x')))
          | none => none)
        | some (.pin x) => (match dputO x yd d with
          | some x' => some (.nx (e2.set i (.pin x')))
          | none => none)
        | _ => none)
      | _ => none)
    | none => none)
  | _ => none
theorem ds_dput {i : Nat} {p q : Bool} {o k v : Expr} {mv mk : MD O} {pos pos' : Pos} (hu : X.A.units + 65 < cLine) (hv : PE X v (den X.K p mv)) (ho : PE X o (tVar i)) (hk : PE X k (den X.K q mk)) (hs : swapsWith v (some (.Subscript o k pos')) pos.line X.env = pure false := by rfl) :
    PS X (.Assign [.Subscript o k pos'] v pos) (denS X.K (mDput i mv mk)) := ps_imp (ps_dput (by omega) ho hk hv hs) fun D σ H ⟨B, F, e, G, oc, s, hm, kk⟩ => by
  unfold mDput at hm
  split at hm
  · rename_i d e1 h1
    split at hm
    · rename_i x0 h0
      split at hm
      · rename_i yd e2 h2
        refine ⟨B, F, e, G, _, e1, s, h1, fun F1 H1 u s1 _ => ?_⟩
        obtain ⟨sl0, hi0, ho0⟩ := Option.bind_eq_some_iff.mp h0
        obtain ⟨v0, hv0, _⟩ := s1.seeO hi0 ho0
        refine ⟨v0, hv0, ⟨B, F1, e1, _, _, e2, s1, h2, fun F2 H2 y s2 _ => ?_⟩⟩
        split at hm
        · rename_i x hx
          split at hm
          · rename_i x' hx'
            cases hm
            obtain ⟨a, H', g1, g2, g3⟩ := s2.putD hx rfl hx'
            rw [hv0] at g1
            cases g1
            exact ⟨a, H', rfl, g2, kk F2 H' σ g3⟩
          · cases hm
        · rename_i x hx
          split at hm
          · rename_i x' hx'
            cases hm
            obtain ⟨a, H', g1, g2, g3⟩ := s2.putD hx rfl hx'
            rw [hv0] at g1
            cases g1
            exact ⟨a, H', rfl, g2, kk F2 H' σ g3⟩
          · cases hm
        · cases hm
      · cases hm
    · cases hm
  · cases hm
/-- f(..)[k], the dict told by a call -/
def mDgetE (m mk : MD O) : MD O := fun e => match m e with
  | some (x, e1) => (match mk e1 with
    | some (.v d, e2) => (match dgetO x d with
      | some (some z) => some (.v z, e2)
      | _ => none)
    | _ => none)
  | none => none
theorem d_dgetE {p q : Bool} {o k : Expr} {m mk : MD O} {pos : Pos} (hu : X.A.units + 65 < cLine) (ho : PE X o (den X.K p m)) (hk : PE X k (den X.K q mk)) (hs : NoSl k) : PE X (.Subscript o k pos) (den X.K (p && q) (mDgetE m mk)) := pe_imp (pe_dget (by omega) ho hk hs) fun σ H Q ⟨B, F, e, G, x, e', s, hm, kk⟩ => by
  unfold mDgetE at hm
  split at hm
  · rename_i x e1 h1
    split at hm
    · rename_i d e2 h2
      split at hm
      · rename_i z h3
        obtain ⟨rfl, rfl⟩ := so hm
        refine ⟨B, F, e, G, x, e1, s, h1, fun F1 H1 v s1 sm1 => ⟨B, F1, e1, _, _, e2, s1, h2, fun F2 H2 y s2 sm2 => ?_⟩⟩
        obtain ⟨Ty, ry⟩ := s2.at
        obtain ⟨T, r⟩ := s2.pop.at
        obtain ⟨a, w, e3, g, hw⟩ := dget_run s2.fh r (rp_v ry) h3
        exact ⟨a, w, e3, g, kk F2 H2 w (s2.pop.pop.push hw) fun z => (sm1 (band1 z)).trans (sm2 (band2 z))⟩
      · cases hm
    · cases hm
  · cases hm
end
end Dn

set_option Elab.async false
set_option linter.all false
set_option maxRecDepth 100000
set_option maxHeartbeats 4000000
/-! str(..) of data -/
namespace Dn
open PySem L2
section
variable {X : Cx} {K : PySem.W.Frag}
def strFit (d : PyData) : Bool := d.showable && !d.hasDict && decide (d.depth ≤ 60) && decide (d.shown.length ≤ sizeLine)
def rStrR (K : PySem.W.Frag) : List V → Hp → VK → Prop := fun xs H Q => ∃ a d, xs = [V.ref a] ∧ Dp K H (V.ref a) d ∧ strFit d = true ∧ Q (.str d.shown) H
theorem call_strR (hu : X.A.units + 65 < cLine) (hg : X.A.guards = some []) : CallR X (.type "str") (rStrR X.K) := by
  intro pins s σ H xs us Q I r h
  obtain ⟨a, d, rfl, hd, hf, q⟩ := h
  obtain ⟨u, rfl, ru⟩ := vals1 r
  obtain rfl : u = Value.ref a := ru
  obtain ⟨as, hr⟩ := Dp.reads I d (.ref a) (.ref a) hd rfl
  simp only [strFit, Bool.and_eq_true, Bool.not_eq_true', decide_eq_true_eq] at hf
  obtain ⟨⟨⟨h1, h2⟩, h3⟩, h4⟩ := hf
  exact str_of_reads hr h1 (fun z => by rw [h2] at z; cases z) hg (by omega) (fun _ _ e => e) (fun h' u tk hk => ⟨.str d.shown, H, I.kept (t' := tk) hk, ⟨u, rfl⟩, q⟩) h4
def rStrA (K : PySem.W.Frag) : List V → Hp → VK → Prop := fun xs H Q => ((∃ i, xs = [.int i] ∧ i.natAbs.log2 < 1920 ∧ Q (.str (toString i)) H) ∨ ∃ a, xs = [.str a] ∧ Q (.str a) H) ∨ rStrR K xs H Q
theorem call_strA (hu : X.A.units + 65 < cLine) (hg : X.A.guards = some []) : CallR X (.type "str") (rStrA X.K) := callr_or (callr_or call_str_int SkE.call_str_str) (call_strR hu hg)
noncomputable def fStrD : List PyData → Option PyData
  | [.int i] => if shut (decide (i.natAbs.log2 < 1920)) = true then some (.str (toString i)) else none
  | [.str x] => some (.str x)
  | [.list ds] => if shut (strFit (.list ds)) = true then some (.str (PyData.shown (.list ds))) else none
  | [.tuple ds] => if shut (strFit (.tuple ds)) = true then some (.str (PyData.shown (.tuple ds))) else none
  | _ => none
theorem sc_strD : Sc K fStrD (rStrA K) := fun H vs ds z a hf => by
  unfold fStrD at hf
  split at hf
  · split at hf
    · rename_i i hi
      rw [shut_eq] at hi
      cases hf
      obtain ⟨v, rfl, b⟩ := dfa1 a
      obtain rfl := df_int b
      exact ⟨_, rfl, fun Q q => .inl (.inl ⟨i, rfl, of_decide_eq_true hi, q⟩)⟩
    · cases hf
  · rename_i x
    cases hf
    obtain ⟨v, rfl, b⟩ := dfa1 a
    obtain rfl := df_str b
    exact ⟨_, rfl, fun Q q => .inl (.inr ⟨x, rfl, q⟩)⟩
  · split at hf
    · rename_i ds hi
      rw [shut_eq] at hi
      cases hf
      obtain ⟨v, rfl, b⟩ := dfa1 a
      obtain ⟨p, ws, rfl, _, _⟩ := df_list b
      exact ⟨_, rfl, fun Q q => .inr ⟨p, _, rfl, b.dp (.refl H), hi, q⟩⟩
    · cases hf
  · split at hf
    · rename_i ds hi
      rw [shut_eq] at hi
      cases hf
      obtain ⟨v, rfl, b⟩ := dfa1 a
      obtain ⟨p, ws, rfl, _, _⟩ := df_tuple b
      exact ⟨_, rfl, fun Q q => .inr ⟨p, _, rfl, b.dp (.refl H), hi, q⟩⟩
    · cases hf
  · cases hf
end
end Dn

set_option Elab.async false
set_option linter.all false
set_option maxRecDepth 100000
set_option maxHeartbeats 4000000
/-! a look at a tree of one's own, as if it were frozen; what is told does not lead into it -/
namespace Dn
open PySem L2
def scal (d : PyData) : Bool := (sV d).isSome
mutual
def O.free : O → Bool
  | .v d => scal d
  | .l xs => O.freeAll xs
  | .t xs => O.freeAll xs
  | .dk kvs => kvs.all fun kv => scal kv.2
  | .dt kvs => kvs.all fun kv => scal kv.2
  | _ => false
def O.freeAll : List O → Bool
  | [] => true
  | x :: xs => O.free x && O.freeAll xs
end
section
variable {K : PySem.W.Frag} {H0 F0 F H : Hp} {ws : Ws} {B : Bs} {σ : St} {e : En} {G : Ws} {X : Cx}
theorem df_scal {F F2 : Hp} {v : V} {d : PyData} (h : Df K F v d) (hs : scal d = true) : Df K F2 v d := by
  cases h with
  | non => exact .non
  | bl b => exact .bl b
  | int i => exact .int i
  | str x => exact .str x
  | lst _ _ => cases hs
  | tup _ _ => cases hs
theorem dfa_scal {F F2 : Hp} : ∀ {vs : List V} {ds : List PyData}, DfAll K F vs ds → (∀ d ∈ ds, scal d = true) → DfAll K F2 vs ds
  | _, _, .nil, _ => .nil
  | _, _, .cons a t, h => .cons (df_scal a (h _ (List.mem_cons_self ..))) (dfa_scal t fun d hd => h d (List.mem_cons_of_mem _ hd))
mutual
theorem rp_free {F F2 H : Hp} : ∀ {v : V} {o : O} {T : List Addr}, Rp K F H v o T → o.free = true → Rp K F2 H v o T
  | _, _, _, .v h, z => .v (df_scal h (by unfold O.free at z; exact z))
  | _, _, _, .s h, z => by unfold O.free at z; cases z
  | _, _, _, .fx h, z => by unfold O.free at z; cases z
  | _, _, _, .ex _ _ _, z => by unfold O.free at z; cases z
  | _, _, _, .l h e1 e2 r, z => .l h e1 e2 (rpl_free r (by unfold O.free at z; rw [e2] at z; exact z))
  | _, _, _, .t h e1 e2 r, z => .t h e1 e2 (rpl_free r (by unfold O.free at z; rw [e2] at z; exact z))
  | _, _, _, .dk h e1 a, z => .dk h e1 (dfa_scal a (by
    unfold O.free at z
    intro d hd
    obtain ⟨kv, hk, rfl⟩ := List.mem_map.mp hd
    exact List.all_eq_true.mp z kv hk))
  | _, _, _, .dt h e1 a, z => .dt h e1 (dfa_scal a (by
    unfold O.free at z
    intro d hd
    obtain ⟨kv, hk, rfl⟩ := List.mem_map.mp hd
    exact List.all_eq_true.mp z kv hk))
  | _, _, _, .ob h h' e0 e1 e2 r, z => by unfold O.free at z; cases z
theorem rpl_free {F F2 H : Hp} : ∀ {ws : Ws} {T : List Addr}, RpL K F H ws T → O.freeAll (ws.map (·.2)) = true → RpL K F2 H ws T
  | _, _, .nil, _ => .nil
  | _, _, .cons (ws := ws) h t, z => by
    rw [List.map_cons] at z
    unfold O.freeAll at z
    rw [Bool.and_eq_true] at z
    exact .cons (rp_free h z.1) (rpl_free t z.2)
end
/-- only frozen slots are left -/
def onlyFz (e : En) : En := e.map fun sl => match sl with
  | .own (.v d) => .own (.v d)
  | .own (.s ns) => .own (.s ns)
  | .pin (.v d) => .own (.v d)
  | .pin (.s ns) => .own (.s ns)
  | _ => .no
theorem slots_onlyFz : ∀ {σ : St} {e : En}, σ.length = e.length → ∃ r, (slots σ e).Perm (slots σ (onlyFz e) ++ r)
  | [], _, _ => ⟨[], by simp [slots]⟩
  | _ :: _, [], h => by simp at h
  | x :: σ, s :: e, h => by
    obtain ⟨r, pr⟩ := slots_onlyFz (σ := σ) (e := e) (by simpa using h)
    have key : ∀ (w : V × O) (l : Ws), (slots σ e).Perm (l ++ r) → (w :: slots σ e).Perm ((w :: l) ++ r) := fun w l p => p.cons w
    have drp : ∀ (w : V × O) (l : Ws), (slots σ e).Perm (l ++ r) → (w :: slots σ e).Perm (l ++ (w :: r)) := fun w l p => (p.cons w).trans (mid _ _ _).symm
    cases x with
    | none => exact ⟨r, by cases s with
        | no => exact pr
        | own o => cases o <;> exact pr
        | pin o => cases o <;> exact pr⟩
    | some v =>
      cases s with
      | no => exact ⟨r, pr⟩
      | own o =>
        cases o with
        | v d => exact ⟨r, key _ _ pr⟩
        | s ns => exact ⟨r, key _ _ pr⟩
        | _ => exact ⟨_, drp _ _ pr⟩
      | pin o =>
        cases o with
        | v d => exact ⟨r, key _ _ pr⟩
        | s ns => exact ⟨r, key _ _ pr⟩
        | _ => exact ⟨_, drp _ _ pr⟩
theorem slots_fz : ∀ {σ : St} {e : En} (w : V × O), w ∈ slots σ (onlyFz e) → w.2.fz = true
  | [], e, w, h => by simp [slots] at h
  | _ :: _, [], w, h => by simp [slots, onlyFz] at h
  | x :: σ, s :: e, w, h => by
    have ih := slots_fz (σ := σ) (e := e) w
    have key : ∀ (u : V × O) , u.2.fz = true → w ∈ (u :: slots σ (onlyFz e)) → w.2.fz = true := fun u hu hm => by
      rcases List.mem_cons.mp hm with rfl | hm
      · exact hu
      · exact ih hm
    cases x with
    | none => exact ih (by cases s with
        | no => exact h
        | own o => cases o <;> exact h
        | pin o => cases o <;> exact h)
    | some v =>
      cases s with
      | no => exact ih h
      | own o =>
        cases o with
        | v d => exact key _ rfl h
        | s ns => exact key _ rfl h
        | _ => exact ih h
      | pin o =>
        cases o with
        | v d => exact key _ rfl h
        | s ns => exact key _ rfl h
        | _ => exact ih h
theorem ok_onlyFz {vs : List V} {σ : St} {e : En} (h : SlOk vs σ e) : SlOk vs σ (onlyFz e) := by
  refine ⟨by rw [h.len]; simp [onlyFz], fun i s hi => ?_⟩
  unfold onlyFz at hi
  rw [List.getElem?_map] at hi
  obtain ⟨s0, h0, rfl⟩ := Option.map_eq_some_iff.mp hi
  obtain ⟨x, hx, q⟩ := h.sl i s0 h0
  refine ⟨x, hx, ?_⟩
  cases s0 with
  | no => trivial
  | own o => cases o <;> first | exact q | trivial
  | pin o =>
    obtain ⟨v, e1, e2⟩ := q
    cases o <;> first | exact ⟨v, e1⟩ | trivial
/-- the slots vs as if frozen -/
def pkIn (e : En) (vs : List Nat) : En := onlyFz (frz (e.map fun s => match s with
  | .pin o => .own o
  | s => s) vs)
theorem ok_pins {ps : List V} {σ : St} {e : En} (h : SlOk ps σ e) : SlOk ps σ (e.map fun s => match s with | .pin o => .own o | s => s) := by
  refine ⟨by rw [h.len]; simp, fun i s hi => ?_⟩
  rw [List.getElem?_map] at hi
  obtain ⟨s0, h0, rfl⟩ := Option.map_eq_some_iff.mp hi
  obtain ⟨x, hx, q⟩ := h.sl i s0 h0
  refine ⟨x, hx, ?_⟩
  cases s0 with
  | no => trivial
  | own o => exact q
  | pin o =>
    obtain ⟨v, e1, _⟩ := q
    exact ⟨v, e1⟩
theorem slots_pins : ∀ {σ : St} {e : En}, slots σ (e.map fun s => match s with | .pin o => .own o | s => s) = slots σ e
  | [], _ => by simp [slots]
  | _ :: _, [] => by simp [slots]
  | x :: σ, s :: e => by
    have ih := slots_pins (σ := σ) (e := e)
    cases x <;> cases s <;> simp only [List.map_cons, slots, ih]
theorem Sta.peek {vs : List Nat} (s : Sta K B F H σ e G) : ∃ F1, Sta K ⟨H, F1, B.vs⟩ F1 H σ (pkIn e vs) [] ∧
    ∀ F2 H2 (w : Ws), Rel K H F1 F2 H2 w → O.freeAll (w.map (·.2)) = true → Sta K B F H2 σ e (w ++ G) := by
  have s0 : Sta K B F H σ (e.map fun s => match s with | .pin o => .own o | s => s) G := ⟨ok_pins s.ok, by rw [slots_pins]; exact s.rel⟩
  obtain ⟨F1, s1⟩ := s0.frz (vs := vs)
  have ok2 := ok_onlyFz s1.ok
  obtain ⟨r, pr⟩ := slots_onlyFz s1.ok.len
  have r2 : Rel K B.H0 B.F0 F1 H ((r ++ G) ++ slots σ (pkIn e vs)) := s1.rel.perm ((pr.append_right G).trans (by rw [List.append_assoc]; exact List.perm_append_comm))
  have r3 : Rel K B.H0 B.F0 F1 H (slots σ (pkIn e vs)) := Rel.drop (w := r ++ G) r2
  obtain ⟨H1, q1, q2, q3⟩ := Rel.hand (w := slots σ (pkIn e vs)) (ws := []) (by rw [List.append_nil]; exact r3)
  have hH := q3 (fun x hx => slots_fz x hx)
  subst hH
  refine ⟨F1, ⟨ok2, by rw [List.append_nil]; exact q1⟩, fun F2 H2 w r2 hw => ⟨s.ok, ?_⟩⟩
  have sm : Same H1 H2 := r2.h0
  obtain ⟨T, rl, nd, hT⟩ := s.rel.res
  obtain ⟨T', rl', nd', hT'⟩ := r2.res
  have dom := rpl_dom rl
  have rl2 : RpL K F H2 (slots σ e ++ G) T := rpl_mono (.refl F) rl fun p hp => by
    cases q : H1 p with
    | none => exact absurd q (dom p hp)
    | some o => exact sm p o q
  have new : ∀ p ∈ T', H1 p = none := fun p hp => (hT' p hp).2
  have full : Rel K B.H0 B.F0 F H2 (w ++ (slots σ e ++ G)) := by
    refine ⟨s.rel.h0.trans sm, s.rel.f0, s.rel.fn, s.rel.fh.trans sm, T' ++ T, rpl_append (rpl_free rl' hw) rl2, List.nodup_append.mpr ⟨nd', nd, fun p hp q hq z => ?_⟩, fun p hp => ?_⟩
    · subst z
      exact dom p hq (new p hp)
    · rcases List.mem_append.mp hp with hp | hp
      · exact ⟨s.rel.f_none (new p hp), s.rel.h_none (new p hp)⟩
      · exact hT p hp
  exact full.perm (pmid _ _ _).symm
/-- an expression that looks at the slots vs -/
def mPeek (vs : List Nat) (m : MD O) : MD O := fun e => match m (pkIn e vs) with
  | some (x, _) => if x.free then some (x, e) else none
  | none => none
theorem peek_den {p : Bool} {vs : List Nat} {m : MD O} {t : TE} (h : ∀ σ H Q, den K p m σ H Q → t σ H Q) : ∀ σ H Q, den K true (mPeek vs m) σ H Q → t σ H Q := fun σ H Q ⟨B, F, e, G, y, e', s, hm, k⟩ => by
  unfold mPeek at hm
  split at hm
  · rename_i x e1 h1
    split at hm
    · rename_i hx
      obtain ⟨rfl, rfl⟩ := so hm
      obtain ⟨F1, s1, back⟩ := s.peek (vs := vs)
      refine h σ H Q ⟨_, F1, _, [], x, e1, s1, h1, fun F2 H2 v s2 _ => ?_⟩
      have r2 : Rel K H F1 F2 H2 ([(v, x)] ++ slots σ e1) := s2.rel.perm List.perm_append_comm
      have r3 : Rel K H F1 F2 H2 [(v, x)] := Rel.drop (w := slots σ e1) (s2.rel)
      exact k F H2 v (back F2 H2 [(v, x)] r3 (by simp [O.freeAll, hx])) fun _ => r3.h0
    · cases hm
  · cases hm
theorem d_peek {x : Expr} {vs : List Nat} {p : Bool} {m : MD O} (h : PE X x (den X.K p m)) : PE X x (den X.K true (mPeek vs m)) := pe_imp h (peek_den fun _ _ _ h => h)
def mPeekT (vs : List Nat) (m : MD Bool) : MD Bool := fun e => match m (pkIn e vs) with
  | some (x, _) => some (x, e)
  | none => none
theorem dt_peek {x : Expr} {vs : List Nat} {p : Bool} {m : MD Bool} (h : PT X x (denT X.K p m)) : PT X x (denT X.K true (mPeekT vs m)) := pt_imp h fun σ H Q ⟨B, F, e, G, y, e', s, hm, k⟩ => by
  unfold mPeekT at hm
  split at hm
  · rename_i x e1 h1
    obtain ⟨rfl, rfl⟩ := so hm
    obtain ⟨F1, s1, back⟩ := s.peek (vs := vs)
    refine ⟨_, F1, _, [], x, e1, s1, h1, fun F2 H2 s2 _ => ?_⟩
    have r3 : Rel X.K H F1 F2 H2 [] := Rel.drop (w := slots σ e1) s2.rel
    exact k F H2 (back F2 H2 [] r3 (by simp [O.freeAll])) fun _ => r3.h0
  · cases hm
/-- y = [..] over a look -/
theorem ds_setLcPk {i : Nat} {y : Str} {py : Pos} {elt tgE iter : Expr} {ifs : List Expr} {scope : Scope} {own : List (Str × Nat)} {pos spos : Pos} {tg : Tg} {p q r : Bool} {mi : MD (List O)} {mt : MD Bool} {me : MD O} {vs : List Nat} (hc : X.calm = true) (hN : X.N.Nodup) (hy : X.N[i]? = some y) (hyl : X.env.scope.names.lookup y = some .local)
    (hsw : swapsWith (.ListComp elt [⟨tgE, iter, ifs, 0⟩] scope pos) (some (.Name y py)) spos.line X.env = pure true) (hi : PI X tgE iter (denI X.K p mi)) (ok : BlkOk X.N X.env.scope scope own)
    (hg : ∀ (s : Shared) (H : Hp) (C : Addr) (cl : List (Str × Addr)) (fp : List Addr), PG (X.blk s H scope (compEnvC scope cl C X.env) fp) tgE (tg.rd X.K))
    (ht : ∀ (s : Shared) (H : Hp) (C : Addr) (cl : List (Str × Addr)) (fp : List Addr), PTs (X.blk s H scope (compEnvC scope cl C X.env) fp) ifs (denT X.K q mt))
    (he : ∀ (s : Shared) (H : Hp) (C : Addr) (cl : List (Str × Addr)) (fp : List Addr), PE (X.blk s H scope (compEnvC scope cl C X.env) fp) elt (den X.K r me)) (hs : ∀ x, foldedSetIterable iter X.env x = pure x := by intro _; rfl) :
    PS X (.Assign [.Name y py] (.ListComp elt [⟨tgE, iter, ifs, 0⟩] scope pos) spos) (denS X.K (mSet i (mPeek vs (mLc mi tg mt me (own.map (·.2)))))) := ps_imp (ps_setLc hc hN hy hyl hsw hi ok hg ht he hs) (mSet_den (peek_den lc_den))
theorem ds_setLcPkF {i : Nat} {y : Str} {py : Pos} {elt tgE iter : Expr} {ifs : List Expr} {scope : Scope} {own : List (Str × Nat)} {pos spos : Pos} {tg : Tg} {p q r : Bool} {mi : MD (List O)} {mt : MD Bool} {me : MD O} {vs : List Nat} (hc : X.calm = true) (hN : X.N.Nodup) (hy : X.N[i]? = some y) (hyl : X.env.scope.names.lookup y = some .local)
    (hsw : swapsWith (.ListComp elt [⟨tgE, iter, ifs, 0⟩] scope pos) (some (.Name y py)) spos.line X.env = pure true) (hi : PI X tgE iter (denI X.K p mi)) (ok : BlkOk X.N X.env.scope scope own)
    (hg : ∀ (s : Shared) (H : Hp) (C : Addr) (cl : List (Str × Addr)) (fp : List Addr), PG (X.blk s H scope (compEnvC scope cl C X.env) fp) tgE (tg.rd X.K))
    (ht : ∀ (s : Shared) (H : Hp) (C : Addr) (cl : List (Str × Addr)) (fp : List Addr), PTs (X.blk s H scope (compEnvC scope cl C X.env) fp) ifs (denT X.K q mt))
    (he : ∀ (s : Shared) (H : Hp) (C : Addr) (cl : List (Str × Addr)) (fp : List Addr), PE (X.blk s H scope (compEnvC scope cl C X.env) fp) elt (den X.K r me)) (hs : ∀ x, foldedSetIterable iter X.env x = pure x := by intro _; rfl) :
    PS X (.Assign [.Name y py] (.ListComp elt [⟨tgE, iter, ifs, 0⟩] scope pos) spos) (denS X.K (mSet i (mFz (mPeek vs (mLc mi tg mt me (own.map (·.2))))))) := ps_imp (ps_setLc hc hN hy hyl hsw hi ok hg ht he hs) (mSet_den (fz_den (peek_den lc_den)))
end
end Dn

set_option Elab.async false
set_option linter.all false
set_option maxRecDepth 100000
set_option maxHeartbeats 4000000
/-! for x in xs, xs a list of one's own, of scalars, read as it stands -/
namespace Dn
open PySem L2
def pinS : Sl → Sl
  | .own o => .pin o
  | s => s
def pinsLike : En → En → Bool
  | _, [] => true
  | s0 :: e0, s :: e => (match s, s0 with
    | .pin _, .pin _ => true
    | .pin _, _ => false
    | _, _ => true) && pinsLike e0 e
  | [], _ :: _ => false
/-- behind the loop: the slot is again what it was -/
def unpin (e0 e : En) (i : Nat) : Option En := match e0[i]?, e[i]? with
  | some (.own _), some (.pin o) => if pinsLike e0 (e.set i (.own o)) then some (e.set i (.own o)) else none
  | some (.pin _), some (.pin _) => if pinsLike e0 e then some e else none
  | _, _ => none
def forS (i : Nat) (tg : Tg) (body : MS) : Nat → Nat → MS
  | 0, j, e => (match e[i]? with
    | some (.pin (.l xs)) => if xs.length ≤ j then some (.nx e) else none
    | _ => none)
  | m + 1, j, e => (match e[i]? with
    | some (.pin (.l xs)) => (match xs[j]? with
      | some (.v d) => if scal d then (match asg tg (.v d) e with
        | some e1 => (match body e1 with
          | some (.nx e2) => forS i tg body m (j + 1) e2
          | some (.ct e2) => forS i tg body m (j + 1) e2
          | some (.bk e2) => some (.nx e2)
          | some (.rt y e2) => some (.rt y e2)
          | none => none)
        | none => none) else none
      | _ => none)
    | _ => none)
def mForS (i : Nat) (tg : Tg) (body : MS) : MS := fun e => match e[i]? with
  | some s => (match s.o? with
    | some (.l xs) => (match forS i tg body xs.length 0 (e.set i (pinS s)) with
      | some (.nx e2) => (match unpin e e2 i with
        | some e3 => some (.nx e3)
        | none => none)
      | some (.rt y e2) => (match unpin e e2 i with
        | some e3 => some (.rt y e3)
        | none => none)
      | _ => none)
    | _ => none)
  | none => none
section
variable {K : PySem.W.Frag} {B : Bs} {F H : Hp} {σ : St} {e : En} {G : Ws} {X : Cx}
def vsOf (σ : St) : List V := σ.map fun x => x.getD .non
theorem vsOf_get {σ : St} {j : Nat} {v : V} (h : σ[j]? = some (some v)) : (vsOf σ)[j]? = some v := by
  unfold vsOf
  rw [List.getElem?_map, h]
  rfl
theorem slots_pinS : ∀ {σ : St} {e : En} {i : Nat} {s : Sl}, e[i]? = some s → slots σ (e.set i (pinS s)) = slots σ e
  | [], _, _, _, _ => by simp [slots]
  | _ :: _, [], _, _, h => by simp at h
  | x :: σ, y :: e, 0, s, h => by
    simp only [List.getElem?_cons_zero, Option.some.injEq] at h
    subst h
    cases x <;> cases y <;> rfl
  | x :: σ, y :: e, i + 1, s, h => by
    simp only [List.getElem?_cons_succ] at h
    have ih := slots_pinS (σ := σ) h
    simp only [List.set_cons_succ]
    cases x <;> cases y <;> simp only [slots, ih]
theorem Sta.pinUp {i : Nat} {s0 : Sl} (s : Sta K B F H σ e G) (hi : e[i]? = some s0) : Sta K ⟨B.H0, B.F0, vsOf σ⟩ F H σ (e.set i (pinS s0)) G := by
  refine ⟨⟨by rw [List.length_set]; exact s.ok.len, fun j sl hj => ?_⟩, by rw [slots_pinS hi]; exact s.rel⟩
  have hlt : i < e.length := (List.getElem?_eq_some_iff.mp hi).1
  by_cases hij : i = j
  · subst hij
    rw [List.getElem?_set_self hlt] at hj
    cases hj
    obtain ⟨x, hx, q⟩ := s.ok.sl i s0 hi
    refine ⟨x, hx, ?_⟩
    cases s0 with
    | no => trivial
    | own o =>
      obtain ⟨v, rfl⟩ := q
      exact ⟨v, rfl, vsOf_get hx⟩
    | pin o =>
      obtain ⟨v, rfl, _⟩ := q
      exact ⟨v, rfl, vsOf_get hx⟩
  · rw [List.getElem?_set_ne hij] at hj
    obtain ⟨x, hx, q⟩ := s.ok.sl j sl hj
    refine ⟨x, hx, ?_⟩
    cases sl with
    | no => trivial
    | own o => exact q
    | pin o =>
      obtain ⟨v, rfl, _⟩ := q
      exact ⟨v, rfl, vsOf_get hx⟩
theorem pinsLike_get : ∀ {e0 e : En} {j : Nat} {o : O}, pinsLike e0 e = true → e[j]? = some (.pin o) → ∃ o0, e0[j]? = some (.pin o0)
  | _, [], _, _, _, h => by simp at h
  | [], _ :: _, _, _, h, _ => by cases h
  | s0 :: e0, s :: e, 0, o, h, hj => by
    simp only [List.getElem?_cons_zero, Option.some.injEq] at hj
    subst hj
    unfold pinsLike at h
    rw [Bool.and_eq_true] at h
    cases s0 with
    | pin o0 => exact ⟨o0, rfl⟩
    | no => cases h.1
    | own _ => cases h.1
  | s0 :: e0, s :: e, j + 1, o, h, hj => by
    unfold pinsLike at h
    rw [Bool.and_eq_true] at h
    simp only [List.getElem?_cons_succ] at hj ⊢
    exact pinsLike_get h.2 hj
theorem Sta.unpin {i : Nat} {e0 e2 e3 : En} {σ0 σ2 : St} {F2 H2 : Hp} {G2 : Ws} (ok0 : SlOk B.vs σ0 e0) (h : Dn.unpin e0 e2 i = some e3) (s : Sta K ⟨B.H0, B.F0, vsOf σ0⟩ F2 H2 σ2 e2 G2) : Sta K B F2 H2 σ2 e3 G2 := by
  have fin : ∀ e3 : En, pinsLike e0 e3 = true → SlOk (vsOf σ0) σ2 e3 → SlOk B.vs σ2 e3 := fun e3 hp ok => by
    refine ⟨ok.len, fun j sl hj => ?_⟩
    obtain ⟨x, hx, q⟩ := ok.sl j sl hj
    refine ⟨x, hx, ?_⟩
    cases sl with
    | no => trivial
    | own o => exact q
    | pin o =>
      obtain ⟨v, rfl, hv⟩ := q
      obtain ⟨o0, h0⟩ := pinsLike_get hp hj
      obtain ⟨y, hy, v0, rfl, hb⟩ := ok0.sl j _ h0
      rw [vsOf_get hy] at hv
      cases hv
      exact ⟨_, rfl, hb⟩
  unfold Dn.unpin at h
  split at h
  · rename_i o0 o h0 h2
    split at h
    · rename_i hp
      cases h
      have hl : i < e2.length := (List.getElem?_eq_some_iff.mp h2).1
      refine ⟨fin _ hp ⟨by rw [List.length_set]; exact s.ok.len, fun j sl hj => ?_⟩, ?_⟩
      · by_cases hij : i = j
        · subst hij
          rw [List.getElem?_set_self hl] at hj
          cases hj
          obtain ⟨x, hx, v, rfl, _⟩ := s.ok.sl i _ h2
          exact ⟨_, hx, v, rfl⟩
        · rw [List.getElem?_set_ne hij] at hj
          exact s.ok.sl j sl hj
      · have e1 : slots σ2 (e2.set i (.own o)) = slots σ2 e2 := by
          have hh : (e2.set i (.own o))[i]? = some (.own o) := List.getElem?_set_self hl
          have := slots_pinS (σ := σ2) hh
          rw [List.set_set] at this
          have e4 : e2.set i (pinS (.own o)) = e2 := set_self h2
          rw [e4] at this
          exact this.symm
        rw [e1]
        exact s.rel
    · cases h
  · rename_i o0 o h0 h2
    split at h
    · rename_i hp
      cases h
      exact ⟨fin _ hp s.ok, s.rel⟩
    · cases h
  · cases h
theorem ds_forS {i : Nat} {tgE iter : Expr} {body : List Stmt} {tg : Tg} {mb : MS} {pos : Pos} (hp : PassesOwn (model X.prog X.w) X.A X.env X.xe) (hc : X.calm = true) (hi : PE X iter (tVar i)) (hg : PG X tgE (tg.rd X.K)) (hb : PSs X body (denS X.K mb))
    (hs : ∀ x, foldedSetIterable iter X.env x = pure x := by intro _; rfl) : PS X (.For tgE iter body [] pos) (denS X.K (mForS i tg mb)) := ps_imp (ps_for hp hc (pi_list hi) hg hb hs) fun D σ H ⟨B, F, e, G, oc, s, hm, k⟩ => by
  unfold mForS at hm
  split at hm
  · rename_i s0 h0
    split at hm
    · rename_i xs hx
      obtain ⟨v, hv, T, r⟩ := s.seeO h0 hx
      cases r with
      | l hp0 e1 e2 rl =>
        rename_i a vs ws T'
        have main : ∀ oc1, forS i tg mb xs.length 0 (e.set i (pinS s0)) = some oc1 → (∀ F2 H2 σ2 e2, oc1 = .nx e2 → Sta X.K ⟨B.H0, B.F0, vsOf σ⟩ F2 H2 σ2 e2 G → D.nx σ2 H2) → (∀ F2 H2 σ2 y u e2, oc1 = .rt y e2 → Sta X.K ⟨B.H0, B.F0, vsOf σ⟩ F2 H2 σ2 e2 ((u, y) :: G) → D.rt u H2) → (∀ e2, oc1 ≠ .bk e2) → (∀ e2, oc1 ≠ .ct e2) →
            tFor (iList X.K (tVar i)) (tg.rd X.K) (denS X.K mb) D σ H := by
          intro oc1 hf knx krt _ _
          refine ⟨.ref a, hv, a, rfl, ⟨_, .of hp0⟩, ?_⟩
          refine ⟨fun j m σ1 H1 => ∃ F1 e1, σ1[i]? = some (some (.ref a)) ∧ Sta X.K ⟨B.H0, B.F0, vsOf σ⟩ F1 H1 σ1 e1 G ∧ forS i tg mb m j e1 = some oc1, ⟨xs.length, F, _, hv, s.pinUp h0, hf⟩, fun j m σ1 H1 ⟨F1, e1, ha, s1, h1⟩ => ?_⟩
          have look : ∀ ys, e1[i]? = some (.pin (.l ys)) → ∃ w : Ws, SqL X.K H1 a (w.map (·.1)) ∧ w.map (·.2) = ys ∧ ∃ T, RpL X.K F1 H1 w T := fun ys hy => by
            obtain ⟨u, hu, T, r⟩ := s1.seeO hy (show (Sl.pin (.l ys)).o? = some (.l ys) from rfl)
            rw [ha] at hu
            cases hu
            cases r with
            | l hpp f1 f2 rl1 =>
              rename_i vs' w' T''
              exact ⟨w', .of (by rw [hpp, f1]), f2.symm, _, rl1⟩
          cases m with
          | zero =>
            unfold forS at h1
            split at h1
            · rename_i ys hy
              split at h1
              · rename_i hle
                cases h1
                obtain ⟨w, hq, hw, _⟩ := look ys hy
                exact .inl ⟨⟨_, hq, by rw [List.length_map, ← List.length_map (f := fun x : V × O => x.2), hw]; exact hle⟩, knx F1 H1 σ1 e1 rfl s1⟩
              · cases h1
            · cases h1
          | succ m =>
            unfold forS at h1
            split at h1
            · rename_i ys hy
              obtain ⟨w, hq, hw, T, rw'⟩ := look ys hy
              split at h1
              · rename_i d hd
                split at h1
                · rename_i hsc
                  rw [← hw, List.getElem?_map] at hd
                  obtain ⟨w0, hw0, hwd⟩ := Option.map_eq_some_iff.mp hd
                  obtain ⟨T0, r0⟩ := rpl_get rw' hw0
                  rw [hwd] at r0
                  have hg1 : (w.map (·.1))[j]? = some w0.1 := by rw [List.getElem?_map, hw0]; rfl
                  refine .inr ⟨⟨_, _, hq, hg1⟩, fun σ2 H2 => ∃ F2 e2, σ2[i]? = some (some (.ref a)) ∧ Sta X.K ⟨B.H0, B.F0, vsOf σ⟩ F2 H2 σ2 e2 G ∧ forS i tg mb m (j + 1) e2 = some oc1, fun σ2 H2 ⟨F2, e2, q1, q2, q3⟩ => ⟨m, Nat.lt_succ_self _, F2, e2, q1, q2, q3⟩, fun x H3 hyl => ?_⟩
                  obtain ⟨rfl, hx2⟩ := hyl
                  have hx3 := hx2 _ hq
                  rw [hg1] at hx3
                  cases hx3
                  have s2 := s1.push (rp_v r0)
                  split at h1
                  · rename_i ea he
                    refine asg_run (vs := []) s2 he fun F4 σ4 s4 _ _ => ?_
                    have keep : ∀ F5 H5 σ5 e5, Sta X.K ⟨B.H0, B.F0, vsOf σ⟩ F5 H5 σ5 e5 G → forS i tg mb m (j + 1) e5 = some oc1 → σ5[i]? = some (some (.ref a)) := fun F5 H5 σ5 e5 s5 h5 => by
                      have : ∃ o, e5[i]? = some (.pin o) := by
                        cases m with
                        | zero =>
                          unfold forS at h5
                          split at h5
                          · rename_i z; exact ⟨_, z⟩
                          · cases h5
                        | succ m =>
                          unfold forS at h5
                          split at h5
                          · rename_i z; exact ⟨_, z⟩
                          · cases h5
                      obtain ⟨o, ho⟩ := this
                      obtain ⟨y, hy2, u, rfl, hu⟩ := s5.ok.sl i _ ho
                      have : (vsOf σ)[i]? = some u := hu
                      rw [vsOf_get hv] at this
                      cases this
                      exact hy2
                    split at h1
                    · rename_i e5 h5
                      exact ⟨_, F4, ea, _, _, s4, h5, fun F6 H6 σ6 s6 => ⟨F6, e5, keep F6 H6 σ6 e5 s6 h1, s6, h1⟩⟩
                    · rename_i e5 h5
                      exact ⟨_, F4, ea, _, _, s4, h5, fun F6 H6 σ6 s6 => ⟨F6, e5, keep F6 H6 σ6 e5 s6 h1, s6, h1⟩⟩
                    · rename_i e5 h5
                      cases h1
                      exact ⟨_, F4, ea, _, _, s4, h5, fun F6 H6 σ6 s6 => knx F6 H6 σ6 e5 rfl s6⟩
                    · rename_i y e5 h5
                      cases h1
                      exact ⟨_, F4, ea, _, _, s4, h5, fun F6 H6 σ6 u s6 => krt F6 H6 σ6 y u e5 rfl s6⟩
                    · cases h1
                  · cases h1
                · cases h1
              · cases h1
            · cases h1
        split at hm
        · rename_i e2 h2
          split at hm
          · rename_i e3 h3
            cases hm
            exact main _ h2 (fun F2 H2 σ2 e2' he s2 => by cases he; exact k F2 H2 σ2 (s2.unpin s.ok h3)) (fun _ _ _ _ _ _ he => nomatch he) (fun _ he => nomatch he) (fun _ he => nomatch he)
          · cases hm
        · rename_i y e2 h2
          split at hm
          · rename_i e3 h3
            cases hm
            exact main _ h2 (fun _ _ _ _ he => nomatch he) (fun F2 H2 σ2 y' u e2' he s2 => by cases he; exact k F2 H2 σ2 u (s2.unpin s.ok h3)) (fun _ he => nomatch he) (fun _ he => nomatch he)
          · cases hm
        · cases hm
    · cases hm
  · cases hm
end
end Dn

set_option Elab.async false
set_option linter.all false
set_option maxRecDepth 100000
set_option maxHeartbeats 4000000
/-! tuple(x) of a slot's list of scalars that is looked at; is True -/
namespace Dn
open PySem L2
section
variable {K : PySem.W.Frag} {B : Bs} {F H : Hp} {σ : St} {e : En} {G : Ws} {X : Cx}
theorem toDs_vs0 : ∀ ds : List PyData, O.toDs (ds.map O.v) = some ds
  | [] => rfl
  | d :: ds => by
    rw [List.map_cons]
    unfold O.toDs
    rw [toDs_vs0 ds]
    rfl
def mTupS (i : Nat) : MD O := fun e => match bVar i e with
  | some x => (match x.toD with
    | some (.list ds) => if ds.all scal then some (.v (.tuple ds), e) else none
    | _ => none)
  | none => none
theorem d_tupS {i : Nat} {a : Expr} {p1 pos : Pos} (hg : Gl X "tuple") (hm : X.mg "tuple" = none) (ha : PE X a (tVar i)) (hs : starEach [a] X.env = (false, eval a X.env) :: starEach [] X.env := by rfl) (hpl : (backTo pos (starEach [] X.env)).any (·.1) = false := by rfl) :
    PE X (.Call (.Name "tuple" p1) [a] [] pos) (den X.K true (mTupS i)) :=
  pe_imp (pe_callTy call_tuple_of hg hm bb_tuple (pa_cons ha pa_nil hs) (by decide) (by decide) hs hpl) fun σ H Q ⟨B, F, e, G, y, e', s, hm, k⟩ => by
    unfold mTupS at hm
    split at hm
    · rename_i x hx
      split at hm
      · rename_i ds hd
        split at hm
        · rename_i hsc
          obtain ⟨rfl, rfl⟩ := so hm
          obtain ⟨sl, hi, ho⟩ := Option.bind_eq_some_iff.mp hx
          obtain ⟨v, hv, T, r⟩ := s.seeO hi ho
          obtain ⟨p, vs, rfl, hp, hall⟩ := df_list (rp_dp s.fh r hd)
          refine ⟨_, hv, p, vs, rfl, .inl ⟨.of hp, fun l hl => ?_⟩⟩
          have hds : ∀ d ∈ ds, scal d = true := fun d hd => List.all_eq_true.mp hsc d hd
          have hF : DfAll X.K F vs ds := dfa_scal hall hds
          have hlen : vs.length = (ds.map O.v).length := by rw [List.length_map]; exact dfa_len hF
          have s1 := (s.pushAll hF).newT hl
          rw [zip_fst hlen, zip_snd hlen] at s1
          obtain ⟨F', s2⟩ := s1.freeze (show (O.t (ds.map O.v)).toD = some (.tuple ds) by unfold O.toD; rw [toDs_vs0]; rfl)
          exact k F' _ _ s2 fun _ => same_upd hl
        · cases hm
      · cases hm
    · cases hm
/-- x is True -/
def fIsB : List PyData → Option PyData
  | [.bool a, .bool b] => some (.bool (a == b))
  | _ => none
def fNotB : List PyData → Option PyData
  | [.bool a, .bool b] => some (.bool (!(a == b)))
  | _ => none
theorem dec_beq (a b : Bool) : decide (a = b) = (a == b) := by cases a <;> cases b <;> rfl
theorem sc_isB : Sc K fIsB (r2 rIsB) := fun H vs ds z a hf => by
  unfold fIsB at hf
  split at hf
  · rename_i x y
    cases hf
    obtain ⟨v, u, rfl, b, c⟩ := dfa2 a
    obtain rfl := df_bool b
    obtain rfl := df_bool c
    exact ⟨_, rfl, fun Q q => ⟨x, y, rfl, rfl, by rw [dec_beq]; exact q⟩⟩
  · cases hf
theorem sc_notB : Sc K fNotB (r2 rNotB) := fun H vs ds z a hf => by
  unfold fNotB at hf
  split at hf
  · rename_i x y
    cases hf
    obtain ⟨v, u, rfl, b, c⟩ := dfa2 a
    obtain rfl := df_bool b
    obtain rfl := df_bool c
    exact ⟨_, rfl, fun Q q => ⟨x, y, rfl, rfl, by rw [dec_beq]; exact q⟩⟩
  · cases hf
end
end Dn

set_option Elab.async false
set_option linter.all false
set_option maxRecDepth 100000
set_option maxHeartbeats 4000000
/-! for x in xs: x[..].m(..), xs a list of one's own: what is done to the items is done to xs -/
namespace Dn
open PySem L2
def forAl (i : Nat) (bs : List (En → Option O)) (ms : MD (List O)) (f : List O → List O → Option (List O × O)) : Nat → Nat → En → Option En
  | 0, k, e => (match e[i]? with
    | some (.own (.l xs)) => if xs.length ≤ k then some e else none
    | _ => none)
  | m + 1, k, e => (match pathK e bs, e[i]?, ms e with
    | some ks, some (.own (.l zs)), some (ys, _) => (match atK (.l zs) ((k : Int) :: ks) with
      | some (.l xs) => (match f xs ys with
        | some (xs', _) => (match setK (.l zs) ((k : Int) :: ks) xs' with
          | some o' => forAl i bs ms f m (k + 1) (e.set i (.own o'))
          | none => none)
        | none => none)
      | _ => none)
    | _, _, _ => none)
def mForAl (i j : Nat) (bs : List (En → Option O)) (ms : MD (List O)) (f : List O → List O → Option (List O × O)) : MS := fun e => match e[i]?, e[j]? with
  | some (.own (.l xs)), some .no => (match forAl i bs ms f xs.length 0 e with
    | some e2 => some (.nx e2)
    | none => none)
  | _, _ => none
section
variable {K : PySem.W.Frag} {B : Bs} {F H : Hp} {σ : St} {e : En} {G : Ws} {X : Cx}
theorem Sta.setNo {j : Nat} {x : Option V} (s : Sta K B F H σ e G) (h : e[j]? = some .no) : Sta K B F H (σ.set j x) e G := by
  have he : e.set j .no = e := set_self h
  have hl : j < e.length := (List.getElem?_eq_some_iff.mp h).1
  refine ⟨⟨by rw [List.length_set]; exact s.ok.len, fun l sl hj => ?_⟩, ?_⟩
  · obtain ⟨y, hy, q⟩ := s.ok.sl l sl hj
    by_cases hij : j = l
    · subst hij
      rw [h] at hj
      cases hj
      have hl2 : j < σ.length := (List.getElem?_eq_some_iff.mp hy).1
      exact ⟨x, List.getElem?_set_self hl2, trivial⟩
    · exact ⟨y, by rw [List.getElem?_set_ne hij]; exact hy, q⟩
  · have := slots_no (x := x) (σ := σ) (e := e) (i := j)
    rw [he] at this
    rw [this]
    exact s.rel
theorem ds_forAl {i j : Nat} {tgE iter : Expr} {body : List Stmt} {bs : List (En → Option O)} {ms : MD (List O)} {f : List O → List O → Option (List O × O)} {r : V → List V → Hp → VK → Prop} {tr : TE} {pos : Pos} (hp : PassesOwn (model X.prog X.w) X.A X.env X.xe) (hc : X.calm = true) (hi : PE X iter (tVar i)) (hg : PG X tgE (Tg.rd X.K (.n j))) (hr : UpK X.K f r) (hrec : Recv X.K j bs tr) (hpu : PureA ms)
    (hb : PSs X body (fun D σ H => tBM X.K "list" r tr (denA X.K true ms) σ H fun _ H1 => D.nx σ H1))
    (hs : ∀ x, foldedSetIterable iter X.env x = pure x := by intro _; rfl) : PS X (.For tgE iter body [] pos) (denS X.K (mForAl i j bs ms f)) := ps_imp (ps_for hp hc (pi_list hi) hg hb hs) fun D σ H ⟨B, F, e, G, oc, s, hm, k⟩ => by
  unfold mForAl at hm
  split at hm
  · rename_i xs h0 hj0
    split at hm
    · rename_i e2 h2
      cases hm
      obtain ⟨v, hv, T, r0⟩ := s.seeO h0 (show (Sl.own (.l xs)).o? = some (.l xs) from rfl)
      cases r0 with
      | l hp0 f1 f2 rl =>
        rename_i a vs ws T'
        have hij : j ≠ i := fun z => by rw [z, h0] at hj0; cases hj0
        refine ⟨.ref a, hv, a, rfl, ⟨_, .of hp0⟩, ?_⟩
        refine ⟨fun q m σ1 H1 => ∃ F1 e1, σ1[i]? = some (some (.ref a)) ∧ e1[j]? = some .no ∧ Sta X.K B F1 H1 σ1 e1 G ∧ forAl i bs ms f m q e1 = some e2, ⟨xs.length, F, e, hv, hj0, s, h2⟩, fun q m σ1 H1 ⟨F1, e1, ha, hj1, s1, h1⟩ => ?_⟩
        have look : ∀ ys, e1[i]? = some (.own (.l ys)) → ∃ w : Ws, SqL X.K H1 a (w.map (·.1)) ∧ H1 a = some (.lst (w.map (·.1))) ∧ w.map (·.2) = ys := fun ys hy => by
          obtain ⟨u, hu, T, r⟩ := s1.seeO hy (show (Sl.own (.l ys)).o? = some (.l ys) from rfl)
          rw [ha] at hu
          cases hu
          cases r with
          | l hpp f1 f2 rl1 =>
            rename_i vs' w' T''
            exact ⟨w', .of (by rw [hpp, f1]), by rw [hpp, f1], f2.symm⟩
        cases m with
        | zero =>
          unfold forAl at h1
          split at h1
          · rename_i ys hy
            split at h1
            · rename_i hle
              cases h1
              obtain ⟨w, hq, _, hw⟩ := look ys hy
              exact .inl ⟨⟨_, hq, by rw [List.length_map, ← List.length_map (f := fun x : V × O => x.2), hw]; exact hle⟩, k F1 H1 σ1 s1⟩
            · cases h1
          · cases h1
        | succ m =>
          unfold forAl at h1
          split at h1
          · rename_i ks zs ys ex hk hz hms
            split at h1
            · rename_i xs1 hat
              split at h1
              · rename_i xs' y hf
                split at h1
                · rename_i o' hset
                  obtain ⟨w, hq, hq2, hw⟩ := look zs hz
                  -- the item that is looked at
                  obtain ⟨v1, q1, w1, hv1, way1, hqq, _, _⟩ := s1.putK hz (show (Sl.own (.l zs)).o? = some (.l zs) from rfl) hat
                  rw [ha] at hv1
                  cases hv1
                  cases way1 with
                  | cons hs1 hj2 hu1 way2 =>
                    rename_i vsA jj u
                    have hA : vsA = w.map (·.1) := by
                      rcases hs1 with hs1 | hs1
                      · rw [hq2] at hs1; cases hs1; rfl
                      · rw [hq2] at hs1; cases hs1
                    subst hA
                    have hjj : jj = q := by
                      have hlt := (List.getElem?_eq_some_iff.mp hu1).1
                      have := ixN_seq hj2
                      unfold ixN at hj2
                      rw [if_pos (by omega), if_pos this.2.2.2] at hj2
                      cases hj2
                      simp
                    subst hjj
                    refine .inr ⟨⟨_, _, hq, hu1⟩, fun σ2 H2 => ∃ F2 e3, σ2[i]? = some (some (.ref a)) ∧ e3[j]? = some .no ∧ Sta X.K B F2 H2 σ2 e3 G ∧ forAl i bs ms f m (jj + 1) e3 = some e2, fun σ2 H2 ⟨F2, e3, g1, g2, g3, g4⟩ => ⟨m, Nat.lt_succ_self _, F2, e3, g1, g2, g3, g4⟩, fun x H3 hyl => ?_⟩
                    obtain ⟨rfl, hx2⟩ := hyl
                    have hx3 := hx2 _ hq
                    rw [hu1] at hx3
                    cases hx3
                    have hlσ : j < σ1.length := by
                      obtain ⟨y0, hy0, _⟩ := s1.ok.sl j _ hj1
                      exact (List.getElem?_eq_some_iff.mp hy0).1
                    have hai : (σ1.set j (some u))[i]? = some (some (.ref a)) := by rw [List.getElem?_set_ne hij]; exact ha
                    show tBM X.K "list" r tr (denA X.K true ms) (σ1.set j (some u)) H3 _
                    refine hrec B F1 H3 (σ1.set j (some u)) e1 G u (.ref q1) ks _ (s1.setNo hj1) (List.getElem?_set_self hlσ) hk way2 ⟨.inl ⟨rfl, _, .of hqq⟩, ?_⟩
                    refine ⟨B, F1, e1, G, ys, ex, s1.setNo hj1, hms, fun F2 H2 wa s2 r2 sm2 => ?_⟩
                    subst r2
                    obtain rfl := hpu _ _ _ hms
                    obtain ⟨v2, q2, vs2, hv2, way3, hq3, o1, hs3, kk⟩ := hr B F2 H2 (σ1.set j (some u)) ex G wa i (.own (.l zs)) (.l zs) ((jj : Int) :: ks) xs1 xs' y _ s2 hz rfl hat hf
                    rw [hset] at hs3
                    cases hs3
                    rw [hai] at hv2
                    cases hv2
                    have : V.ref q2 = V.ref q1 := way_uniq sm2 (Way.cons hs1 hj2 hu1 way2) way3
                    cases this
                    refine kk fun F3 H4 v3 s3 => ⟨F3, ex.set i (.own o'), hai, ?_, s3.pop, h1⟩
                    rw [List.getElem?_set_ne (Ne.symm hij)]
                    exact hj1
                · cases h1
              · cases h1
            · cases h1
          · cases h1
    · cases hm
  · cases hm
theorem pss_upK {x ex : Expr} {es : List Expr} {ms : MD (List O)} {r : V → List V → Hp → VK → Prop} {tr : TE} {name : Str} {id : String} {apos cpos pos : Pos} (slot : Slot "list" name id) (hty : typeOf (.builtin id) = pure (.type "method_descriptor")) (hm : MtR X id r) (ho : PE X x tr) (ha : PA X (ex :: es) (denA X.K true ms)) (hbase : attributeBase x name X.env (eval x X.env) = eval x X.env := by rfl)
    (hfew : ((backTo cpos (starEach (ex :: es) X.env)).all (fun x => !x.1) && (backToKw cpos (keywordEach [] X.env)).all (fun x => x.1.isSome)
      && decide ((ex :: es).length + ([] : List Keyword).length + (if ([] : List Keyword).isEmpty then 0 else 1) < 30)) = true := by rfl)
    (hline : (apos.endLine == cpos.line) = true := by rfl) (hs : starEach (ex :: es) X.env = (false, eval ex X.env) :: starEach es X.env := by rfl) (hplain : (backTo cpos (starEach es X.env)).any (·.1) = false := by rfl)
    (hsw : swapsWith (.Call (.Attribute x name apos) (ex :: es) [] cpos) none pos.line X.env = pure false := by rfl) :
    PSs X [.Expr (.Call (.Attribute x name apos) (ex :: es) [] cpos) pos] (fun D σ H => tBM X.K "list" r tr (denA X.K true ms) σ H fun _ H1 => D.nx σ H1) :=
  pss_imp (pss_cons (ps_expr (pe_bm PySem.F.plainAttrs_list slot hty hm ho ha hbase hfew hline hs hplain) hsw) pss_nil) fun D σ H h => h
end
end Dn

set_option Elab.async false
set_option linter.all false
set_option maxRecDepth 100000
set_option maxHeartbeats 4000000
/-! methods of texts: split, partition, join -/
namespace Dn
open PySem L2
def splitO : List O → Option O
  | [.v (.str a), .v (.str b)] => if (b.length == 0) = false ∧ a.length + 2 ≤ sizeLine then some (.l ((Txt.split a b).map fun x => .v (.str x))) else none
  | _ => none
def partO : List O → Option O
  | [.v (.str a), .v (.str b)] => if (b.length == 0) = false ∧ a.length ≤ sizeLine then some (.t [.v (.str (Txt.partition a b).1), .v (.str (Txt.partition a b).2.1), .v (.str (Txt.partition a b).2.2)]) else none
  | _ => none
def strsO : List O → Option (List Str)
  | [] => some []
  | .v (.str x) :: os => (match strsO os with
    | some ys => some (x :: ys)
    | none => none)
  | _ => none
def joinO : List O → Option O
  | [.v (.str a), x] => (match x.lparts with
    | some os => (match strsO os with
      | some ys => if (ys.map (·.length)).sum + ys.length * a.length ≤ sizeLine then some (.v (.str (Txt.join a ys))) else none
      | none => none)
    | none => none)
  | _ => none
section
variable {K : PySem.W.Frag} {X : Cx}
def rSplit : V → List V → Hp → VK → Prop := fun x xs H Q => ∃ a b, x = .str a ∧ xs = [.str b] ∧ (b.length == 0) = false ∧ a.length + 2 ≤ sizeLine ∧ rNewStrs (Txt.split a b) H Q
def rPart : V → List V → Hp → VK → Prop := fun x xs H Q => ∃ a b, x = .str a ∧ xs = [.str b] ∧ (b.length == 0) = false ∧ a.length ≤ sizeLine ∧ ∀ p, H p = none → Q (.ref p) (upd H p (.tup [.str (Txt.partition a b).1, .str (Txt.partition a b).2.1, .str (Txt.partition a b).2.2]))
def rJoin (K : PySem.W.Frag) : V → List V → Hp → VK → Prop := fun x xs H Q => ∃ a p, ∃ ys : List Str, x = .str a ∧ xs = [.ref p] ∧ (SqL K H p (ys.map V.str) ∨ SqT K H p (ys.map V.str)) ∧ (ys.map (·.length)).sum + ys.length * a.length ≤ 16777216 ∧ Q (.str (Txt.join a ys)) H
theorem strWs (ys : List Str) : (ys.map fun n => (V.str n, O.v (.str n))).map (·.1) = ys.map V.str ∧ (ys.map fun n => (V.str n, O.v (.str n))).map (·.2) = ys.map fun n => O.v (.str n) := by
  constructor <;> rw [List.map_map] <;> rfl
theorem al_split : Al K splitO (rM rSplit) := fun B F H σ e G ws x Q s hx k => by
  unfold splitO at hx
  split at hx
  · rename_i a b hw
    split at hx
    · rename_i hc
      cases hx
      obtain ⟨v, u, rfl⟩ := ws2 hw
      obtain ⟨T, r1⟩ := s.at
      obtain ⟨T2, r2⟩ := s.pop.at
      obtain rfl := df_str (rp_v r1)
      obtain rfl := df_str (rp_v r2)
      refine ⟨a, b, rfl, rfl, hc.1, hc.2, fun p hp => ?_⟩
      have s1 := s.pop.pop.strs (Txt.split a b)
      have s2 := s1.newL hp
      rw [(strWs _).1, (strWs _).2] at s2
      exact k F _ _ s2 (same_upd hp)
    · cases hx
  · cases hx
theorem al_part : Al K partO (rM rPart) := fun B F H σ e G ws x Q s hx k => by
  unfold partO at hx
  split at hx
  · rename_i a b hw
    split at hx
    · rename_i hc
      cases hx
      obtain ⟨v, u, rfl⟩ := ws2 hw
      obtain ⟨T, r1⟩ := s.at
      obtain ⟨T2, r2⟩ := s.pop.at
      obtain rfl := df_str (rp_v r1)
      obtain rfl := df_str (rp_v r2)
      refine ⟨a, b, rfl, rfl, hc.1, hc.2, fun p hp => ?_⟩
      have s1 := s.pop.pop.strs [(Txt.partition a b).1, (Txt.partition a b).2.1, (Txt.partition a b).2.2]
      have s2 := s1.newT hp
      exact k F _ _ s2 (same_upd hp)
    · cases hx
  · cases hx
theorem strs_vs {F H : Hp} : ∀ {w : Ws} {T : List Addr} {ys : List Str}, RpL K F H w T → strsO (w.map (·.2)) = some ys → w.map (·.1) = ys.map V.str
  | [], _, ys, _, h => by cases h; rfl
  | (v, o) :: w, T, ys, r, h => by
    rw [List.map_cons] at h
    cases r with
    | cons a t =>
      cases o with
      | v d =>
        cases d with
        | str x =>
          unfold strsO at h
          split at h
          · rename_i zs hz
            cases h
            rw [List.map_cons, List.map_cons, strs_vs t hz, df_str (rp_v a)]
          · cases h
        | _ => cases h
      | _ => cases h
theorem al_join : Al K joinO (rM (rJoin K)) := fun B F H σ e G ws x Q s hx k => by
  unfold joinO at hx
  split at hx
  · rename_i a y hw
    split at hx
    · rename_i os h1
      split at hx
      · rename_i ys h2
        split at hx
        · rename_i hb
          cases hx
          obtain ⟨v, u, rfl⟩ := ws2 hw
          obtain ⟨T, r1⟩ := s.at
          obtain rfl := df_str (rp_v r1)
          have s0 : Sta K B F H σ e ((u, y) :: G) := s.pop
          obtain ⟨p, w1, F1, rfl, e1, e2, e3, s1⟩ := Sta.openL s0 h1
          rw [← e2] at h2
          obtain ⟨T3, rl, _⟩ := s1.rel.res
          obtain ⟨Ta, Tb, _, _, rb⟩ := rpl_split rl
          obtain ⟨Tc, Td, _, rc, _⟩ := rpl_split rb
          have hvs := strs_vs rc h2
          rw [hvs] at e1
          have s2 : Sta K B F1 H σ e G := ⟨s1.ok, (s1.rel.perm (pmid _ _ _)).drop⟩
          exact ⟨a, p, ys, rfl, rfl, .inl (.of (s1.fh _ _ e1)), by rw [sizeLine_eq] at hb; exact hb, k F1 H _ (s2.push (.str _)) (.refl _)⟩
        · cases hx
      · cases hx
    · cases hx
  · cases hx
/-- o.m(e), o a text -/
theorem d_m1 {id : String} {name : Str} {o ex : Expr} {p q : Bool} {mo me : MD O} {f : List O → Option O} {r : V → List V → Hp → VK → Prop} {apos pos : Pos} (slot : Slot "str" name id) (ty : typeOf (.builtin id) = pure (.type "method_descriptor")) (rule : MtR X id r) (hr : Al X.K f (rM r)) (hf : ∀ x y z, f [x, y] = some z → ∃ a, x = .v (.str a)) (ho : PE X o (den X.K p mo)) (he : PE X ex (den X.K q me))
    (hs : starEach [ex] X.env = [(false, eval ex X.env)] := by rfl) (hbase : attributeBase o name X.env (eval o X.env) = eval o X.env := by rfl) (hline : (apos.endLine == pos.line) = true := by rfl) :
    PE X (.Call (.Attribute o name apos) [ex] [] pos) (den X.K (p && q) (mA f (aCons mo (aCons me aNil)))) := pe_imp (pe_m1 slot ty rule ho he hs hbase hline) fun σ H Q ⟨B, F, e, G, y, e', s, hm, k⟩ => by
  unfold mA at hm
  split at hm
  · rename_i xs e3 h3
    split at hm
    · rename_i x h4
      obtain ⟨rfl, rfl⟩ := so hm
      unfold aCons lCons at h3
      split at h3
      · rename_i x1 e1 h1
        split at h3
        · rename_i xs1 e2 h2
          obtain ⟨rfl, rfl⟩ := so h3
          split at h2
          · rename_i x2 e4 h5
            split at h2
            · rename_i xs2 e5 h6
              obtain ⟨rfl, rfl⟩ := so h2
              cases h6
              obtain ⟨a, rfl⟩ := hf _ _ _ h4
              refine ⟨B, F, e, G, _, e1, s, h1, fun F1 H1 v s1 sm1 => ⟨?_, B, F1, e1, _, x2, e4, s1, h5, fun F2 H2 u s2 sm2 => ?_⟩⟩
              · obtain ⟨T, r1⟩ := s1.at
                exact ⟨a, df_str (rp_v r1)⟩
              · exact hr B F2 H2 σ e4 G [(v, .v (.str a)), (u, x2)] _ _ (s2.perm (List.Perm.swap ..)) h4 fun F3 H3 z s3 sm3 => k F3 H3 z s3 fun c => by
                  cases p
                  · cases c
                  · cases q
                    · cases c
                    · exact ((sm1 rfl).trans (sm2 rfl)).trans sm3
            · cases h2
          · cases h2
        · cases h3
      · cases h3
    · cases hm
  · cases hm
theorem hf_split : ∀ x y z, splitO [x, y] = some z → ∃ a, x = .v (.str a) := fun x y z h => by
  unfold splitO at h
  split at h
  · rename_i a b e
    cases e
    exact ⟨a, rfl⟩
  · cases h
theorem hf_part : ∀ x y z, partO [x, y] = some z → ∃ a, x = .v (.str a) := fun x y z h => by
  unfold partO at h
  split at h
  · rename_i a b e
    cases e
    exact ⟨a, rfl⟩
  · cases h
theorem hf_join : ∀ x y z, joinO [x, y] = some z → ∃ a, x = .v (.str a) := fun x y z h => by
  unfold joinO at h
  split at h
  · rename_i a b e
    cases e
    exact ⟨a, rfl⟩
  · cases h
/-! a text many times -/
def repS (a : Str) (k : Int) : Str := ⟨(List.replicate k.toNat a.cps).foldl (· ++ ·) #[]⟩
def rMulS : R2 := fun x y H Q => ∃ a k, x = .str a ∧ y = .int k ∧ (2 ≤ k ∧ k ≤ 1000) ∧ (1 ≤ a.length ∧ a.length ≤ 1000) ∧ Q (.str (repS a k)) H
def fMulS : List PyData → Option PyData
  | [.str a, .int k] => if (2 ≤ k ∧ k ≤ 1000) ∧ (1 ≤ a.length ∧ a.length ≤ 1000) then some (.str (repS a k)) else none
  | _ => none
theorem rep_size (c : Array Nat) : ∀ (m : Nat) (acc : Array Nat), ((List.replicate m c).foldl (· ++ ·) acc).size = acc.size + m * c.size
  | 0, acc => by simp
  | m + 1, acc => by
    rw [List.replicate_succ, List.foldl_cons, rep_size c m, Array.size_append, Nat.succ_mul]
    omega
theorem op_mulS : OpR X (binaryOp .Mult) rMulS := by
  intro pins s σ H x y v u Q I rx ry h
  obtain ⟨a, k, rfl, rfl, hk, ha, q⟩ := h
  obtain ⟨t, rfl⟩ := rx
  obtain ⟨t', rfl⟩ := ry
  have h1 : ¬ k < 1 := by omega
  have h2 : (k == 1 || a.length == 0) = false := by
    rw [Bool.or_eq_false_iff]
    exact ⟨beq_false_of_ne (by omega), beq_false_of_ne (by omega)⟩
  refine P.mul_str (by
    rw [Bool.or_eq_false_iff]
    exact ⟨decide_eq_false (by omega), decide_eq_false (by omega)⟩) (fun _ _ => ?_) (fun _ _ => ?_) ?_
  · have h3 : (a.length : Int) * k ≤ 1000 * 1000 := Int.mul_le_mul (by omega) hk.2 (by omega) (by omega)
    have h4 : (a.length : Int) ≤ (2 ^ 63 - 1) / k := (Int.le_ediv_iff_mul_le (by omega)).mpr (by omega)
    omega
  · have h3 : a.length * k.toNat ≤ 1000 * 1000 := Nat.mul_le_mul ha.2 (by omega)
    show decide (a.length * k.toNat > sizeLine) = false
    refine decide_eq_false ?_
    have := sizeLine_eq
    omega
  · rw [if_neg h1, h2, if_neg Bool.false_ne_true]
    refine ⟨?_, .str (repS a k), H, I.tok _, ⟨_, rfl⟩, q⟩
    show ((List.replicate k.toNat a.cps).foldl (· ++ ·) #[]).size ≤ sizeLine
    rw [rep_size]
    have h3 : k.toNat * a.cps.size ≤ 1000 * 1000 := Nat.mul_le_mul (by omega) ha.2
    have := sizeLine_eq
    simp
    omega
theorem sc_mulS : Sc K fMulS (r2 rMulS) := fun H vs ds z a hf => by
  unfold fMulS at hf
  split at hf
  · split at hf
    · rename_i hc
      cases hf
      obtain ⟨v, u, rfl, b, c⟩ := dfa2 a
      obtain rfl := df_str b
      obtain rfl := df_int c
      exact ⟨_, rfl, fun Q q => ⟨_, _, rfl, rfl, hc.1, hc.2, q⟩⟩
    · cases hf
  · cases hf
end
end Dn

set_option Elab.async false
set_option linter.all false
set_option maxRecDepth 100000
set_option maxHeartbeats 4000000
/-! x.rpartition(sep) -/
namespace Dn
open PySem L2
def rpartO : List O → Option O
  | [.v (.str a), .v (.str b)] => if (b.length == 0) = false ∧ a.length ≤ sizeLine then some (.t [.v (.str (Txt.rpartition a b).1), .v (.str (Txt.rpartition a b).2.1), .v (.str (Txt.rpartition a b).2.2)]) else none
  | _ => none
section
variable {K : PySem.W.Frag} {X : Cx}
def rRpart : V → List V → Hp → VK → Prop := fun x xs H Q => ∃ a b, x = .str a ∧ xs = [.str b] ∧ (b.length == 0) = false ∧ a.length ≤ sizeLine ∧ ∀ p, H p = none → Q (.ref p) (upd H p (.tup [.str (Txt.rpartition a b).1, .str (Txt.rpartition a b).2.1, .str (Txt.rpartition a b).2.2]))
theorem mt_rpartition : MtR X "str.rpartition" rRpart := by
  intro pins s σ H x xs v us Q I rx rs h
  obtain ⟨a, b, rfl, rfl, hb, hz, h⟩ := h
  obtain ⟨t, rfl⟩ := rx
  cases rs with
  | cons r1 rs =>
    cases rs
    obtain ⟨u, rfl⟩ := r1
    refine call_meets F.slot_str_rpartition (typeIs_str _ _ _) F.entry_str_rpartition (F.args_str_rpartition_2 _ _) (meets_str_rpartition a b t u hb hz) ?_
    unfold Txt.rpartition at h
    revert h
    cases Builtin.Str.lastOccurrence a b 0 a.length with
    | none => intro h; exact laid_parts I h
    | some i => intro h; exact laid_parts I h
theorem al_rpart : Al K rpartO (rM rRpart) := fun B F H σ e G ws x Q s hx k => by
  unfold rpartO at hx
  split at hx
  · rename_i a b hw
    split at hx
    · rename_i hc
      cases hx
      obtain ⟨v, u, rfl⟩ := ws2 hw
      obtain ⟨T, r1⟩ := s.at
      obtain ⟨T2, r2⟩ := s.pop.at
      obtain rfl := df_str (rp_v r1)
      obtain rfl := df_str (rp_v r2)
      refine ⟨a, b, rfl, rfl, hc.1, hc.2, fun p hp => ?_⟩
      have s1 := s.pop.pop.strs [(Txt.rpartition a b).1, (Txt.rpartition a b).2.1, (Txt.rpartition a b).2.2]
      have s2 := s1.newT hp
      exact k F _ _ s2 (same_upd hp)
    · cases hx
  · cases hx
theorem hf_rpart : ∀ x y z, rpartO [x, y] = some z → ∃ a, x = .v (.str a) := fun x y z h => by
  unfold rpartO at h
  split at h
  · rename_i a b e
    cases e
    exact ⟨a, rfl⟩
  · cases h
end
end Dn

set_option Elab.async false
set_option linter.all false
set_option maxRecDepth 100000
set_option maxHeartbeats 4000000
/-! (a, t[k], b, ..): an item of an owned tuple is taken over into a new one; the old one is gone -/
namespace Dn
open PySem L2
def mTk (i : Nat) (k : Nat) (m1 : MD O) (ms : MD (List O)) : MD O := fun e => match m1 e, e[i]?, ms e with
  | some (.v d, _), some (.own (.t os)), some (ys, _) => (match os[k]?, O.allV ys with
    | some c, some ds => if ys.length < 100 then some (.t (.v d :: c :: ys), e.set i .no) else none
    | _, _ => none)
  | _, _, _ => none
section
variable {K : PySem.W.Frag} {X : Cx}
theorem mTk_den {i k : Nat} {m1 : MD O} {ms : MD (List O)} {t : TA} {tr : TE} (hp1 : PureE m1) (hps : PureA ms) (hrec : Recv K i [bC (.int (k : Int))] tr) (hl : AS K true ms t) : ∀ σ H Q, den K false (mTk i k m1 ms) σ H Q → tCB rTup (tCons (den K true m1) (tCons tr t)) σ H Q := fun σ H Q ⟨B, F, e, G, y, e', s, hm, kk⟩ => by
  unfold mTk at hm
  split at hm
  · rename_i d ex os ys ex2 h1 hi hms
    split at hm
    · rename_i c ds hc hds
      split at hm
      · rename_i hlen
        obtain ⟨rfl, rfl⟩ := so hm
        obtain rfl := hp1 _ _ _ h1
        obtain rfl := hps _ _ _ hms
        refine ⟨B, F, ex2, G, .v d, ex2, s, h1, fun F1 H1 v1 s1 sm1 => ?_⟩
        obtain ⟨v, hv, T, r⟩ := s1.seeO hi (show (Sl.own (.t os)).o? = some (.t os) from rfl)
        have hkl : k < os.length := (List.getElem?_eq_some_iff.mp hc).1
        have hat : atL (.t os) [(k : Int)] = some c := by
          show (match ixN os.length (k : Int) with | some j => (match os[j]? with | some x => atL x [] | none => none) | none => none) = _
          have : ixN os.length (k : Int) = some k := by
            unfold ixN
            rw [if_pos (by omega), if_pos (by omega)]
            simp
          rw [this]
          simp only [hc]
          rfl
        obtain ⟨z, T', way, rz⟩ := rp_at s1.fh [(k : Int)] r hat
        refine hrec B F1 H1 σ ex2 _ v z [(k : Int)] _ s1 hv rfl way ?_
        refine hl σ H1 _ ⟨B, F1, ex2, _, ys, ex2, s1, hms, fun F2 H2 ws s2 r2 sm2 => ?_⟩
        obtain ⟨v', hv', s3⟩ := s2.out hi (show (Sl.own (.t os)).o? = some (.t os) from rfl)
        rw [hv] at hv'
        cases hv'
        obtain ⟨p, w, F3, rfl, e1, e2, e3, s4⟩ := s3.openT (os := os) rfl
        have way2 := way_same (sm2 rfl) way
        have hwk : w[k]? = some (z, c) := by
          cases way2 with
          | cons hs hj hu wn =>
            cases wn
            rename_i vs0 j
            have hH : H2 p = some (.tup (w.map (·.1))) := s4.fh _ _ e1
            have hvs : vs0 = w.map (·.1) := by
              rcases hs with hs | hs
              · rw [hH] at hs; cases hs
              · rw [hH] at hs; cases hs; rfl
            subst hvs
            have hjk : j = k := by
              have := ixN_seq hj
              unfold ixN at hj
              rw [if_pos (by omega), if_pos this.2.2.2] at hj
              cases hj
              simp
            subst hjk
            rw [List.getElem?_map] at hu
            obtain ⟨wk, hw1, hw2⟩ := Option.map_eq_some_iff.mp hu
            have h3 : (w.map (·.2))[j]? = some wk.2 := by rw [List.getElem?_map, hw1]; rfl
            rw [e2, hc] at h3
            cases h3
            rw [hw1, ← hw2]
        obtain ⟨hlt, hge⟩ := List.getElem?_eq_some_iff.mp hwk
        have hw : w = w.take k ++ (z, c) :: w.drop (k + 1) := by
          rw [← hge, List.getElem_cons_drop, List.take_append_drop]
        generalize w.take k = A at hw
        generalize w.drop (k + 1) = C at hw
        have pm : (w ++ (ws ++ (v1, O.v d) :: G)).Perm ((A ++ C) ++ (((v1, O.v d) :: (z, c) :: ws) ++ G)) := by
          rw [hw]
          have q1 : (A ++ (z, c) :: C ++ (ws ++ (v1, O.v d) :: G)).Perm ((z, c) :: (A ++ C ++ (ws ++ (v1, O.v d) :: G))) := by
            rw [List.append_assoc, List.cons_append, List.append_assoc]
            exact List.perm_middle
          have q2 : (A ++ C ++ (ws ++ (v1, O.v d) :: G)).Perm ((v1, O.v d) :: (A ++ C ++ (ws ++ G))) := by
            refine (List.Perm.append_left _ List.perm_middle).trans ?_
            exact List.perm_middle
          have q3 : ((A ++ C) ++ (((v1, O.v d) :: (z, c) :: ws) ++ G)).Perm ((v1, O.v d) :: (z, c) :: (A ++ C ++ (ws ++ G))) := by
            refine List.perm_middle.trans (List.Perm.cons _ ?_)
            exact List.perm_middle
          exact (q1.trans (List.Perm.cons _ q2)).trans ((List.Perm.swap _ _ _).trans q3.symm)
        have s5 := s4.perm pm
        have s6 : Sta K B F3 H2 σ (ex2.set i .no) (((v1, O.v d) :: (z, c) :: ws) ++ G) := ⟨s5.ok, (s5.rel.perm (pmid _ _ _)).drop⟩
        have hws : ws.length = ys.length := by rw [← r2, List.length_map]
        refine ⟨?_, fun q hq => ?_⟩
        · simp only [List.length_cons, List.length_map]
          have := sizeLine_eq
          omega
        · have s7 := s6.newT hq
          simp only [List.map_cons, r2] at s7
          exact kk F3 _ _ s7 fun c => nomatch c
      · cases hm
    · cases hm
  · cases hm
theorem d_tk {i k : Nat} {e1 sub : Expr} {es : List Expr} {m1 : MD O} {ms : MD (List O)} {tr : TE} {x1} {pos : Pos} (hp1 : PureE m1) (hps : PureA ms) (hrec : Recv X.K i [bC (.int (k : Int))] tr) (h1 : PE X e1 (den X.K true m1)) (hs : PE X sub tr) (hl : PA X es (denA X.K true ms))
    (hq1 : starEach (e1 :: sub :: es) X.env = (false, eval e1 X.env) :: starEach (sub :: es) X.env := by rfl) (hq2 : starEach (sub :: es) X.env = (false, eval sub X.env) :: starEach es X.env := by rfl) :
    PE X (.Tuple (e1 :: sub :: es) x1 pos) (den X.K false (mTk i k m1 ms)) :=
  pe_imp (pe_tup (pa_cons h1 (pa_cons hs hl hq2) hq1)) (mTk_den hp1 hps hrec fun _ _ _ h => h)
/-- a name whose thing is frozen: the slots stay -/
def mVarS (i : Nat) : MD O := fun e => match e[i]? with
  | some (.own (.v d)) => some (.v d, e)
  | _ => none
theorem pure_varS {i : Nat} : PureE (mVarS i) := fun e x e1 hm => by
  unfold mVarS at hm
  split at hm
  · obtain ⟨_, rfl⟩ := so hm
    rfl
  · cases hm
theorem d_varS (i : Nat) {x : Str} {pos : Pos} (h : PE X (.Name x pos) (tVar i)) : PE X (.Name x pos) (den X.K true (mVarS i)) := pe_imp (d_var i h) fun σ H Q ⟨B, F, e, G, y, e', s, hm, k⟩ => by
  refine ⟨B, F, e, G, y, e', s, ?_, k⟩
  unfold mVarS at hm
  split at hm
  · rename_i d hd
    unfold mVar
    rw [hd]
    exact hm
  · cases hm
/-- a new tuple that stays one's own -/
def tupT (xs : List O) : Option O := if xs.length ≤ sizeLine then some (.t xs) else none
theorem al_tupT : Al K tupT rTup := fun B F H σ e G ws x Q s hx k => by
  unfold tupT at hx
  split at hx
  · rename_i hl
    cases hx
    rw [List.length_map] at hl
    exact ⟨by rw [List.length_map]; exact hl, fun p hp => k F _ _ (s.newT hp) (same_upd hp)⟩
  · cases hx
theorem d_tupT {p : Bool} {es : List Expr} {ms : MD (List O)} {x1} {pos : Pos} (h : PA X es (denA X.K p ms)) : PE X (.Tuple es x1 pos) (den X.K p (mA tupT ms)) := pe_imp (pe_tup h) (mA_den al_tupT fun _ _ _ h => h)
end
end Dn

set_option Elab.async false
set_option linter.all false
set_option maxRecDepth 100000
set_option maxHeartbeats 4000000
/-! readings of what raises an own error with one field -/
namespace Dn
open PySem L2
abbrev MX := En → Option (Exn × En)
def xNo : MX := fun _ => none
/-- a wish about errors, met by the error x in the state e' -/
def Wx (K : PySem.W.Frag) (B : Bs) (G : Ws) (σ : St) (x : Exn) (e' : En) (W : WX) : Prop := ∀ F' H' C dd, Sta K B F' H' σ e' G → ClsAt K x.c C → F' dd = some (.xd [(x.f, V.int x.v)]) → W (.ref C) (some dd) σ H'
def denX (K : PySem.W.Frag) (W : WX) (m : MX) : TE := fun σ H _ => ∃ B F e G x e', Sta K B F H σ e G ∧ m e = some (x, e') ∧ Wx K B G σ x e' W
def denAX (K : PySem.W.Frag) (W : WX) (m : MX) : TA := fun σ H _ => ∃ B F e G x e', Sta K B F H σ e G ∧ m e = some (x, e') ∧ Wx K B G σ x e' W
def denIX (K : PySem.W.Frag) (W : WX) (m : MX) : TI := fun σ H _ => ∃ B F e G x e', Sta K B F H σ e G ∧ m e = some (x, e') ∧ Wx K B G σ x e' W
def denSX (K : PySem.W.Frag) (W : WX) (m : MX) : TS := fun _ σ H => ∃ B F e G x e', Sta K B F H σ e G ∧ m e = some (x, e') ∧ ∀ σ', Wx K B G σ' x e' W
section
variable {X : Cx} {K : PySem.W.Frag} {W : WX}
theorem pe_never {e : Expr} : PE X e (fun _ _ _ => False) := ⟨fun _ _ _ _ _ _ h => h.elim⟩
theorem pa_never {es : List Expr} : PA X es (fun _ _ _ => False) := ⟨fun _ _ _ _ _ _ _ h => h.elim⟩
theorem pss_or {st : List Stmt} {t u : TS} (h : PSs X st t) (h' : PSs X st u) : PSs X st (fun D σ H => t D σ H ∨ u D σ H) := ⟨fun pins s σ H D I q => by
  rcases q with q | q
  · exact h.run pins s σ H D I q
  · exact h'.run pins s σ H D I q⟩
theorem ps_nox {st : Stmt} {t : TS} (h : PS X.nox st t) : PS X st t := ⟨fun pins s σ H D I hw => wpAny_mono (h.run pins s σ H D (I.wish _) hw) (fun _ _ q => q.unwish) fun _ _ z => z.elim⟩
theorem pa_nox {es : List Expr} {t : TA} (h : PA X.nox es t) : PA X es t := ⟨fun pos pins s σ H Q I hw => wpAny_mono (h.run pos pins s σ H Q (I.wish _) hw) (fun _ _ ⟨v, H', I', r, q⟩ => ⟨v, H', I'.unwish, r, q⟩) fun _ _ z => z.elim⟩
theorem pg_nox {tg : Expr} {g : TG} (h : PG X.nox tg g) : PG X tg g := ⟨fun pins s σ H x u Q I r hw => wpAny_mono (h.run pins s σ H x u Q (I.wish _) r hw) (fun _ _ ⟨σ', H', I', q⟩ => ⟨σ', H', I'.unwish, q⟩) fun _ _ z => z.elim⟩
/-! statements -/
theorem xs_expr {e : Expr} {m : MX} {pos : Pos} (he : PE X e (denX K W m)) (hs : swapsWith e none pos.line X.env = pure false := by rfl) : PS X (.Expr e pos) (denSX K W m) := ps_imp (ps_expr he hs) fun D σ H ⟨B, F, e, G, x, e', s, hm, k⟩ => ⟨B, F, e, G, x, e', s, hm, k σ⟩
theorem xs_set {i : Nat} {x : Str} {e : Expr} {m : MX} {pos pos' : Pos} (hN : X.N.Nodup) (hi : X.N[i]? = some x) (hx : Loc X.env.scope x) (he : PE X e (denX K W m)) (hs : swapsWith e (some (.Name x pos')) pos.line X.env = pure false := by rfl) (hf : X.fn x = true ∨ X.env.scope.names.lookup x = some .local := by first | exact .inl rfl | exact .inr rfl | assumption) :
    PS X (.Assign [.Name x pos'] e pos) (denSX K W m) := ps_imp (ps_set hN hi hx he hs hf) fun D σ H ⟨B, F, e, G, x, e', s, hm, k⟩ => ⟨B, F, e, G, x, e', s, hm, k σ⟩
theorem xs_ret {e : Expr} {m : MX} {pos : Pos} (he : PE X e (denX K W m)) : PS X (.Return (some e) pos) (denSX K W m) := ps_imp (ps_ret he) fun D σ H ⟨B, F, e, G, x, e', s, hm, k⟩ => ⟨B, F, e, G, x, e', s, hm, k σ⟩
theorem xs_no {st : Stmt} : PS X st (denSX K W xNo) := ps_imp ps_never fun D σ H ⟨B, F, e, G, x, e', s, hm, k⟩ => by cases hm
theorem xss_no {st : List Stmt} : PSs X st (denSX K W xNo) := pss_imp pss_never fun D σ H ⟨B, F, e, G, x, e', s, hm, k⟩ => by cases hm
theorem xss_here {st : Stmt} {rest : List Stmt} {m : MX} (h : PS X st (denSX K W m)) : PSs X (st :: rest) (denSX K W m) := pss_imp (pss_cons h pss_never) fun D σ H q => q
def xThen (m : MS) (x : MX) : MX := fun e => match m e with
  | some (.nx e1) => x e1
  | _ => none
theorem xss_then {st : Stmt} {rest : List Stmt} {m : MS} {x : MX} (h1 : PS X st (denS K m)) (h2 : PSs X rest (denSX K W x)) : PSs X (st :: rest) (denSX K W (xThen m x)) := pss_imp (pss_cons h1 h2) fun D σ H ⟨B, F, e, G, y, e', s, hm, k⟩ => by
  unfold xThen at hm
  split at hm
  · rename_i e1 h1
    exact ⟨B, F, e, G, _, s, h1, fun F1 H1 σ1 s1 => ⟨B, F1, e1, G, y, e', s1, hm, k⟩⟩
  · cases hm
def xAlt (a b : MX) : MX := fun e => match a e with
  | some r => some r
  | none => b e
theorem xss_alt {st : List Stmt} {a b : MX} (h1 : PSs X st (denSX K W a)) (h2 : PSs X st (denSX K W b)) : PSs X st (denSX K W (xAlt a b)) := pss_imp (pss_or h1 h2) fun D σ H ⟨B, F, e, G, y, e', s, hm, k⟩ => by
  unfold xAlt at hm
  split at hm
  · rename_i r h1
    cases hm
    exact .inl ⟨B, F, e, G, y, e', s, h1, k⟩
  · exact .inr ⟨B, F, e, G, y, e', s, hm, k⟩
/-- slots are forgotten or frozen ahead -/
theorem xss_kill {vs : List Nat} {st : List Stmt} {x : MX} (h : PSs X st (denSX K W x)) : PSs X st (denSX K W (xThen (mKill vs) x)) := pss_imp h fun D σ H ⟨B, F, e, G, y, e', s, hm, k⟩ => ⟨B, F, hide e vs, G, y, e', s.forget, hm, k⟩
def xIf (c : MD Bool) (a b : MX) : MX := fun e => match c e with
  | some (true, e1) => a e1
  | some (false, e1) => b e1
  | none => none
theorem xs_if {c : Expr} {a b : List Stmt} {p : Bool} {mc : MD Bool} {x y : MX} {pos : Pos} (hc : PT X c (denT K p mc)) (ha : PSs X a (denSX K W x)) (hb : PSs X b (denSX K W y)) : PS X (.If c a b pos) (denSX K W (xIf mc x y)) := ps_imp (ps_if hc ha hb) fun D σ H ⟨B, F, e, G, z, e', s, hm, k⟩ => by
  unfold xIf at hm
  split at hm
  · rename_i e1 h1
    exact ⟨B, F, e, G, true, e1, s, h1, fun F1 H1 s1 _ => iteT ⟨B, F1, e1, G, z, e', s1, hm, k⟩⟩
  · rename_i e1 h1
    exact ⟨B, F, e, G, false, e1, s, h1, fun F1 H1 s1 _ => iteF ⟨B, F1, e1, G, z, e', s1, hm, k⟩⟩
  · cases hm
/-- a for, one of whose turns raises -/
def forX (tg : Tg) (body : MS) (bx : MX) : List O → MX
  | [], _ => none
  | x :: xs, e => (match asg tg x e with
    | some e1 => (match bx e1 with
      | some r => some r
      | none => (match body e1 with
        | some (.nx e2) => forX tg body bx xs e2
        | some (.ct e2) => forX tg body bx xs e2
        | _ => none))
    | none => none)
def xFor (mi : MD (List O)) (tg : Tg) (body : MS) (bx : MX) : MX := fun e => match mi e with
  | some (os, e1) => forX tg body bx os e1
  | none => none
theorem Wx.drop {B : Bs} {w G : Ws} {σ : St} {x : Exn} {e' : En} (h : Wx K B G σ x e' W) : Wx K B (w ++ G) σ x e' W := fun F' H' C dd s h1 h2 => h F' H' C dd s.drop h1 h2
theorem xs_for {tgE iter : Expr} {body : List Stmt} {tg : Tg} {p : Bool} {mi : MD (List O)} {mb : MS} {bx : MX} {W : WX} {pos : Pos} (hp : PassesOwn (model X.prog X.w) X.A X.env X.xe) (hc : X.calm = true) (hi : PI X tgE iter (denI X.K p mi)) (hg : PG X tgE (tg.rd X.K)) (hb : PSs X body (denS X.K mb)) (hx : PSs X body (denSX X.K W bx))
    (hs : ∀ x, foldedSetIterable iter X.env x = pure x := by intro _; rfl) : PS X (.For tgE iter body [] pos) (denSX X.K W (xFor mi tg mb bx)) := ps_imp (ps_for hp hc hi hg (pss_or hb hx) hs) fun D σ H ⟨B, F, e, G, y, e', s, hm, k⟩ => by
  unfold xFor at hm
  split at hm
  · rename_i os e1 h1
    refine ⟨B, F, e, G, os, e1, s, h1, fun F1 H1 J ims cs s1 r1 it sm1 => ?_⟩
    subst r1
    refine ⟨fun i m σ H => ∃ F e, i + m = ims.length ∧ Sta X.K B F H σ e ((ims.drop i).flatMap Im.ws ++ (fxW cs ++ G)) ∧ forX tg mb bx ((ims.drop i).map Im.o) e = some (y, e'), ⟨ims.length, F1, e1, by omega, s1, hm⟩, fun i m σ H ⟨F, e, hl, s2, h2⟩ => ?_⟩
    obtain ⟨g1, g2⟩ := it H s2.fixed
    cases m with
    | zero =>
      have : i = ims.length := by omega
      subst this
      rw [List.drop_length] at h2
      cases h2
    | succ m =>
      have hlt : i < ims.length := by omega
      obtain ⟨f1, f2⟩ := g1 i ims[i] (List.getElem?_eq_getElem hlt)
      rw [List.drop_eq_getElem_cons hlt] at h2 s2
      simp only [List.map_cons, List.flatMap_cons, List.append_assoc] at h2 s2
      unfold forX at h2
      refine .inr ⟨f1, fun σ H => ∃ F e, Sta X.K B F H σ e ((ims.drop (i + 1)).flatMap Im.ws ++ (fxW cs ++ G)) ∧ forX tg mb bx ((ims.drop (i + 1)).map Im.o) e = some (y, e'), fun σ' H' ⟨F', e2, q2, q3⟩ => ⟨m, Nat.lt_succ_self _, F', e2, by omega, q2, q3⟩, fun x H3 hy => ?_⟩
      have s3 := s2.item (f2 x H3 hy)
      split at h2
      · rename_i e2 h3
        refine asg_run (vs := []) s3 h3 fun F4 σ4 s4 sF4 _ => ?_
        split at h2
        · rename_i r h5
          cases h2
          exact .inr ⟨B, F4, e2, _, y, e', s4, h5, fun σ5 => (Wx.drop (w := (ims.drop (i + 1)).flatMap Im.ws) (Wx.drop (w := fxW cs) (k σ5)))⟩
        · split at h2
          · rename_i e5 h5
            exact .inl ⟨B, F4, e2, _, _, s4, h5, fun F6 H6 σ6 s6 => ⟨F6, e5, s6, h2⟩⟩
          · rename_i e5 h5
            exact .inl ⟨B, F4, e2, _, _, s4, h5, fun F6 H6 σ6 s6 => ⟨F6, e5, s6, h2⟩⟩
          · cases h2
      · cases h2
  · cases hm
end
end Dn

set_option Elab.async false
set_option linter.all false
set_option maxRecDepth 100000
set_option maxHeartbeats 4000000
/-! defs that raise, and their calls -/
namespace Dn
open PySem L2
/-- a def's run that raises: n slots, k parameters -/
def runX (n k : Nat) (m : MX) (os : List O) : Option Exn := if os.length = k then (m (env0 (List.replicate k false) os ++ List.replicate (n - k) .no)).map (·.1) else none
def spX (K : PySem.W.Frag) (n : Nat) (xr : List O → Option Exn) : Sp := fun vs H _ E => ∃ H0 F os x, vs.length = n ∧ os.length = n ∧ Rel K H0 F F H (vs.zip os) ∧ xr os = some x ∧ ∀ F' H' C dd, Rel K H0 F F' H' [] → ClsAt K x.c C → F' dd = some (.xd [(x.f, V.int x.v)]) → E (.ref C) (some dd) H'
section
variable {K : PySem.W.Frag}
/-- THE RULE for a def that raises -/
theorem okX {P : Program} {w : World} {mg : Str → Option Value} {base : Heap} {x qual : Str} {st : Stmt} {f : Addr} {fd : FuncData} {N ps : List Str} {k n : Nat} {m : MX} (F : Fun K x qual st f fd) (S : FnScope N ps (defScope st)) (hps : ps.length = n)
    (hbody : ∀ (cdv : Value) (A : Around) (outer : List Env) (s : Shared) (H : Hp) (E : XK), RoomG k (A.deeper (PyProof.Rows.envOfC qual (defScope st) s.heap.objs.size f cdv)) → PSs (cxOf (L2.CX P w) P w K mg base N qual (defScope st) f cdv A outer s H E) (defBody st) (denSX K (fun cls d _ H => E cls d H) m)) :
    FnG P w K mg base (L2.CX P w) (k + 1) f fd ps (spX K n (runX N.length n m)) := by
  refine Dn.Fun.okG F S (fun vs H Q E h => ?_) (fun cdv A outer s H vs Q E hr h => ⟨_, hbody cdv A outer s H E hr, ?_⟩)
  · obtain ⟨_, _, _, _, h, _⟩ := h
    rw [h, hps]
  · obtain ⟨H0, F0, os, y, hl, hlo, rel, hm, q⟩ := h
    unfold runX at hm
    rw [if_pos hlo] at hm
    obtain ⟨⟨y', e'⟩, hm2, hy⟩ := Option.map_eq_some_iff.mp hm
    have hy : y' = y := hy
    subst hy
    have hl' : vs.length = (List.replicate n false).length := by rw [List.length_replicate]; exact hl
    have hlo' : os.length = (List.replicate n false).length := by rw [List.length_replicate]; exact hlo
    have hs : Sta K ⟨H0, F0, vs⟩ F0 H (L2.start N vs) (env0 (List.replicate n false) os ++ List.replicate (N.length - n) .no) [] := by
      refine ⟨?_, ?_⟩
      · have := ok_env0 (n := N.length) hl' hlo'
        rw [List.length_replicate] at this
        exact this
      · unfold L2.start
        rw [slots_env0 hl' hlo', slots_rep, List.append_nil, List.append_nil]
        exact rel
    refine ⟨_, F0, _, [], y', e', hs, hm2, fun σ' F' H' C dd s' h1 h2 => q F' H' C dd ?_ h1 h2⟩
    have r := s'.rel
    exact Rel.drop (w := slots σ' e') r
section
variable {X : Cx} {C : CXT} {k : Nat} {f : Addr} {fd : FuncData} {ps : List Str} {sp : Sp} {x : Str} {p pos : Pos} {e : Expr} {es : List Expr} {t : TA}
/-- a call, what it lets out by the slots -/
def tCallE (sp : Sp) (E : St → XK) (t : TA) : TE := fun σ H Q => t σ H fun vs H1 => sp vs H1 Q (E σ)
theorem pe_callGS {E : St → XK} (F : FnG X.prog X.w X.K X.mg X.base C k f fd ps sp) (room : RoomG k X.A) (hg : Gl X x) (hm : X.mg x = some (.ref f)) (hk : PySem.W.keepIn X.K (.ref f) = true) (hb : Binds X.K fd ps []) (hx : ∀ σ, PassesAt C X σ (E σ)) (ha : PA X (e :: es) t)
    (hdb : (x == ("__debug__" : Str)) = false := by decide) (he : starEach (e :: es) X.env = (false, eval e X.env) :: starEach es X.env := by rfl) (hpl : (backTo pos (starEach es X.env)).any (·.1) = false := by rfl) :
    PE X (.Call (.Name x p) (e :: es) [] pos) (tCallE sp E t) :=
  ⟨fun pins s σ H Q I h => wpAny_Call_Name_kw (ld_glob I hg hm (PySem.W.callWith_K (h₀ := X.base) I.ok.mod.kin hk (thn (ha.run pos pins s σ H _ I h) fun us s1 ⟨vs, H1, I1, r, q⟩ => ⟨I1.kIn, by
    have ll : (us ++ []).length = ps.length := by
      rw [List.append_nil, ← r.length]
      exact F.len _ _ _ _ q
    have bb := hb s1 us I1.kIn ll
    rw [List.append_nil] at bb
    refine wpAny_call (codeAny_mono (F.go X.A X.stack s1 H1 ⟨us, []⟩ _ _ Q (E σ) room I1.env0 bb r q) fun res s2 hq => ?_)
    match res, hq with
    | .error er, hq => exact hx σ pins H1 s1 er s2 I1 hq
    | .ok (.ret u), hq => exact I1.after hq
    | .ok .next, hq => exact hq.elim
    | .ok .brk, hq => exact hq.elim
    | .ok .cont, hq => exact hq.elim⟩) he hpl) hdb)⟩
end
/-- a def of the module that raises -/
structure CalX (P : Program) (w : World) (K : PySem.W.Frag) (mg : Str → Option Value) (base : Heap) (k : Nat) (x : Str) (ps : List Str) (sp : Sp) : Prop where
  ex : ∃ f fd, FnG P w K mg base (L2.CX P w) k f fd ps sp ∧ mg x = some (.ref f) ∧ PySem.W.keepIn K (.ref f) = true ∧ Binds K fd ps []
theorem CalX.mk' {P : Program} {w : World} {mg : Str → Option Value} {base : Heap} {k : Nat} {x : Str} {ps : List Str} {sp : Sp} {f : Addr} {fd : FuncData} (G : FnG P w K mg base (L2.CX P w) k f fd ps sp) (m : mg x = some (.ref f)) (kp : PySem.W.keepIn K (.ref f) = true) (b : Binds K fd ps []) : CalX P w K mg base k x ps sp := ⟨f, fd, G, m, kp, b⟩
section
variable {X : Cx} {W : WX} {p : Bool} {ms : MD (List O)} {xr : List O → Option Exn} {k n : Nat} {ps : List Str} {x : Str} {p1 pos : Pos} {e : Expr} {es : List Expr}
def xCall (xr : List O → Option Exn) (ms : MD (List O)) : MX := fun e => match ms e with
  | some (xs, e1) => (match xr xs with
    | some y => some (y, e1)
    | none => none)
  | none => none
theorem x_call (C : CalX X.prog X.w X.K X.mg X.base k x ps (spX X.K n xr)) (hr : RoomG k X.A) (hg : Gl X x) (tk : Takes X W)
    (hn : ∀ e xs e1, ms e = some (xs, e1) → xs.length = n) (ha : PA X (e :: es) (denA X.K p ms)) (hdb : (x == ("__debug__" : Str)) = false := by decide) (he : starEach (e :: es) X.env = (false, eval e X.env) :: starEach es X.env := by rfl) (hpl : (backTo pos (starEach es X.env)).any (·.1) = false := by rfl) :
    PE X (.Call (.Name x p1) (e :: es) [] pos) (denX X.K W (xCall xr ms)) := by
  obtain ⟨f, fd, F, hm, hk, hb⟩ := C.ex
  refine pe_imp (pe_callGS (E := WE W) F hr hg hm hk hb (passAt tk) ha hdb he hpl) fun σ H Q ⟨B, F, e, G, y, e', s, hm, k⟩ => ?_
  unfold xCall at hm
  split at hm
  · rename_i xs e1 h1
    split at hm
    · rename_i y' h2
      obtain ⟨rfl, rfl⟩ := so hm
      refine ⟨B, F, e, G, xs, e1, s, h1, fun F1 H1 ws s1 r1 sm1 => ?_⟩
      subst r1
      have hwl : ws.length = n := by have := hn _ _ _ h1; rw [List.length_map] at this; exact this
      obtain ⟨H2, q1, q2, q3⟩ := (s1.rel.perm (pmid _ _ _)).hand
      exact ⟨H2, F1, ws.map (·.2), _, by rw [List.length_map]; exact hwl, by rw [List.length_map]; exact hwl, by rw [zip_ws]; exact q1, h2, fun F' H' C dd r c1 c2 => k F' H' C dd ⟨s1.ok, by
        have := q2 F' H' [] r
        exact this⟩ c1 c2⟩
    · cases hm
  · cases hm
/-- the first argument raises -/
theorem x_arg {m : MX} {sem : Sem1} (C : Cal X.prog X.w X.K X.mg X.base k x ps (spOf X.K (List.replicate n false) sem)) (hr : RoomG k X.A) (hg : Gl X x) (he1 : PE X e (denX X.K W m)) (hdb : (x == ("__debug__" : Str)) = false := by decide) (he : starEach (e :: es) X.env = (false, eval e X.env) :: starEach es X.env := by rfl) (hpl : (backTo pos (starEach es X.env)).any (·.1) = false := by rfl) :
    PE X (.Call (.Name x p1) (e :: es) [] pos) (denX X.K W m) := by
  obtain ⟨f, fd, F, hm, hk, hb⟩ := C.ex
  exact pe_imp (pe_callG F hr hg hm hk hb .nil pass0 (E := fun _ _ _ => False) (pa_cons he1 pa_never he) hdb he hpl) fun σ H Q q => q
/-- the iterable of a comprehension raises -/
theorem xi_list {tg iter : Expr} {m : MX} (h : PE X iter (denX X.K W m)) : PI X tg iter (denIX X.K W m) := pi_imp (pi_list h) fun σ H R q => q
theorem x_lc {elt tgE iter : Expr} {ifs : List Expr} {scope : Scope} {own : List (Str × Nat)} {pos : Pos} {m : MX} (hc : X.calm = true) (hN : X.N.Nodup) (hi : PI X tgE iter (denIX X.K W m)) (ok : BlkOk X.N X.env.scope scope own) (hs : ∀ x, foldedSetIterable iter X.env x = pure x := by intro _; rfl) :
    PE X (.ListComp elt [⟨tgE, iter, ifs, 0⟩] scope pos) (denX X.K W m) :=
  pe_imp (pe_lc (g := fun _ _ _ _ => False) (tt := fun _ _ _ => False) (te := fun _ _ _ => False) hc hN hi ok (fun _ _ _ _ _ => ⟨fun _ _ _ _ _ _ _ _ _ h => h.elim⟩) (fun _ _ _ _ _ => ⟨fun _ _ _ _ _ _ h => h.elim⟩) (fun _ _ _ _ _ => pe_never) hs) fun σ H Q q => q
end
end
end Dn

set_option Elab.async false
set_option linter.all false
set_option maxRecDepth 100000
set_option maxHeartbeats 4000000
/-! raise C(e): C an own error class whose __init__ calls its base's and keeps one field -/
namespace Dn
open PySem PySem.Spec PyProof.Rows L2
/-- the j-th statement of a class -/
def inCls : Stmt → Nat → Stmt
  | .ClassDef _ _ _ body _ _ _ _ _ _ _, j => body.getD j (.Pass ⟨0, 0, 0, 0⟩)
  | st, _ => st
section
variable {X : Cx} {e : Expr} {es : List Expr} {ta : TA} {x : Str} {p1 p2 pos : Pos}
/-- P.__init__(self, ..), P an own class over ValueError without own __init__ -/
theorem pe_ownInit {pl : Sem Bool} {P : Addr} {mc : Value} (hg : Gl X x) (hm : X.mg x = some (.ref P)) (r : ClX.CRead X.K P mc) (v : PySem.W.findCls X.K (.ref P) mc "__init__" = some (.val (.builtin "ValueError.__init__"))) (ha : PA X (e :: es) ta) (hdb : (x == ("__debug__" : Str)) = false := by decide)
    (hc : eval (.Call (.Attribute (.Name x p1) "__init__" p2) (e :: es) [] pos) X.env = (do
      let ov ← eval (.Name x p1) X.env; standAt p2.atName
      let (f, first) ← holding [ov] (getMethod ov "__init__" pl); callWith pos f first (backTo pos (starEach (e :: es) X.env)) (backToKw pos (keywordEach [] X.env))) := by rfl)
    (he : starEach (e :: es) X.env = (false, eval e X.env) :: starEach es X.env := by rfl) (hpl : (backTo pos (starEach es X.env)).any (·.1) = false := by rfl) :
    PE X (.Call (.Attribute (.Name x p1) "__init__" p2) (e :: es) [] pos) (tVeI X.K ta) := ⟨fun pins s σ H Q I h => by
  refine PySem.W.methodCall_KW (ld_glob I hg hm (PySem.W.method_cls I.kIn r.ga (PySem.W.cls_value I.kIn r.rd v (by decide +kernel) ?_)) hdb) hc
  refine callWith_method1 (thn (ha.run pos pins _ σ H _ (I.tok _) h) fun us s1 ⟨vs, H1, I1, r1, a, C, ws, ev, hl, T, ea, q⟩ => ?_) he hpl
  subst ev
  cases r1 with
  | @cons _ u0 _ ur ra rr =>
    obtain rfl : u0 = Value.ref a := ra
    exact oinit_ok T I1 ea (by rw [← Paired.length rr, sizeLine_eq]; omega) fun s' J => ⟨.non, H1, J, rfl, q⟩⟩
end
/-- a place or a row's number -/
def smallX (v : Int) : Prop := 0 ≤ v ∧ v < 100
/-- what __init__ promises -/
def spInit (K : PySem.W.Frag) (f : Str) : Sp := fun vs H Q _ => ∃ (a C : Addr) (v : Int), vs = [.ref a, .int v] ∧ smallX v ∧ OexC K C ∧ PySem.W.findIn K (.ref C) f = some none ∧ H a = some (exo a C none) ∧ ∀ dx, H dx = none → dx ≠ a → Q .non (upd (upd H dx (exd dx [(f, V.int v)])) a (exo a C (some dx)))
theorem str_small : ∀ n : Nat, n < 100 → (Str.ofString (toString (n : Int))).length ≤ 2 := by decide +kernel
theorem str_smallX {v : Int} (h : smallX v) : (Str.ofString (toString v)).length ≤ 2 ∧ v.natAbs.log2 < 1920 := by
  obtain ⟨h0, h1⟩ := h
  have e : v = ((v.toNat : Nat) : Int) := by omega
  have hn : v.toNat < 100 := by omega
  refine ⟨by rw [e]; exact str_small _ hn, ?_⟩
  have h2 : v.natAbs < 2 ^ 7 := by omega
  have : v.natAbs.log2 < 7 := by
    by_cases hz : v.natAbs = 0
    · rw [hz]; decide
    · exact (Nat.log2_lt hz).mpr h2
  omega
/-- the reading of __init__'s body -/
def tInit (K : PySem.W.Frag) (f : Str) : TS := fun D σ H => ∃ (a C : Addr) (v : Int), σ = [some (.ref a), some (.int v)] ∧ smallX v ∧ OexC K C ∧ PySem.W.findIn K (.ref C) f = some none ∧ H a = some (exo a C none) ∧ ∀ dx, H dx = none → dx ≠ a → D.nx σ (upd (upd H dx (exd dx [(f, V.int v)])) a (exo a C (some dx)))
def rStrI : List V → Hp → VK → Prop := fun xs H Q => ∃ i, xs = [.int i] ∧ i.natAbs.log2 < 1920 ∧ Q (.str (toString i)) H
def rAddT : R2 := fun x y H Q => ∃ i j, x = .str i ∧ y = .str j ∧ i.length + j.length ≤ sizeLine ∧ Q (.str (i ++ j)) H
section
variable {X : Cx} {f tx : Str} {a b c d : Expr} {st1 st2 : Stmt}
theorem init_imp {K : PySem.W.Frag} (hl : tx.length ≤ 100) : ∀ D σ H, tInit K f D σ H → tSeq (tDrop (tVeI K (tCons (tVar 0) (tCons (tOp rAddT (tC (.str tx)) (tCB rStrI (tCons (tVar 1) tNil))) tNil)))) (tSeq (tOst K f (tVar 0) (tVar 1)) tNext) D σ H := by
  rintro D σ H ⟨a, C, v, rfl, hv, T, no, ha, k⟩
  obtain ⟨s1, s2⟩ := str_smallX hv
  refine ⟨.ref a, rfl, .int v, rfl, v, rfl, s2, tx, _, rfl, rfl, ?_, a, C, _, rfl, ?_, T, ha, ?_⟩
  · rw [sizeLine_eq]; omega
  · simp
  · exact ⟨.int v, rfl, .ref a, rfl, a, C, rfl, T, no, .inl ⟨ha, fun dx h1 h2 => k dx h1 h2⟩⟩
end
/-- an own error class by name: made with a place -/
structure ErrC (P : Program) (w : World) (K : PySem.W.Frag) (mg : Str → Option Value) (base : Heap) (k : Nat) (c f : Str) : Prop where
  ex : ∃ C fI fd pn, ClsAt K c C ∧ mg c = some (.ref C) ∧ OexC K C ∧ PySem.W.findIn K (.ref C) "__init__" = some (some (.ref fI)) ∧ PySem.W.typeIn K (.ref fI) = some (.type "function") ∧ FnOk P w K mg base CX0 k fI fd ["self", pn] (spInit K f) ∧ Binds K fd ["self", pn] [] ∧ PySem.W.findIn K (.ref C) f = some none
/-- a new frozen thing -/
theorem Sta.newF {K : PySem.W.Frag} {B : Bs} {F H : Hp} {σ : L2.St} {e : En} {G : Ws} {p : Addr} {u : HO} (s : Sta K B F H σ e G) (h : H p = none) : Sta K B (upd F p u) (upd H p u) σ e G := by
  have np : ∀ q (o : HO), H q = some o → q ≠ p := fun q o e z => by rw [z, h] at e; cases e
  have nF : F p = none := by
    cases q : F p with
    | none => rfl
    | some o => have := s.rel.fh _ _ q; rw [h] at this; cases this
  have n0 : B.H0 p = none := by
    cases q : B.H0 p with
    | none => rfl
    | some o => have := s.rel.h0 _ _ q; rw [h] at this; cases this
  have FF : Same F (upd F p u) := fun q o e => (upd_ne (fun z => by rw [z, nF] at e; cases e)).trans e
  obtain ⟨T, rl, nd, hp⟩ := s.rel.res
  refine ⟨s.ok, fun q o e => (upd_ne (np q o (s.rel.h0 q o e))).trans (s.rel.h0 q o e), s.rel.f0.trans FF, fun q o e => ?_, fun q o e => ?_, T, rpl_mono FF rl fun q hq => ?_, nd, fun q hq => ?_⟩
  · by_cases z : q = p
    · rw [z]; exact .inr n0
    · rw [upd_ne z] at e; exact s.rel.fn q o e
  · by_cases z : q = p
    · subst z
      rw [upd_same] at e ⊢
      exact e
    · rw [upd_ne z] at e ⊢
      exact s.rel.fh q o e
  · cases z : H q with
    | none => exact absurd z (rpl_dom rl q hq)
    | some o => rw [upd_ne (np q o z), z]
  · have hq' := rpl_dom rl q hq
    refine ⟨?_, (hp q hq).2⟩
    rw [upd_ne fun z => hq' (by rw [z]; exact h)]
    exact (hp q hq).1
def xRaise (c f : Str) (m : MD O) : MX := fun e => match m e with
  | some (.v (.int v), e1) => if 0 ≤ v ∧ v < 100 then some (⟨c, f, v⟩, e1) else none
  | _ => none
theorem nsIn_inj {K : PySem.W.Frag} {c : Str} {C D : Addr} (h : ClsAt K c C) (h' : ClsAt K c D) : C = D := by
  unfold ClsAt at h h'
  rw [h] at h'
  cases h'
  rfl
theorem xs_raise {X : Cx} {W : WX} {k : Nat} {c f : Str} {e : Expr} {p : Bool} {m : MD O} {p1 pos rpos : Pos} (hc : X.calm = true) (tk : Takes X W) (T : ErrC X.prog X.w X.K X.mg X.base k c f) (hr : RoomG (k + 1) X.A) (hg : Gl X c) (he : PE X e (den X.K p m)) (hdb : (c == ("__debug__" : Str)) = false := by decide)
    (hst : starEach [e] X.env = (false, eval e X.env) :: starEach [] X.env := by rfl) (hpl : (backTo pos (starEach [] X.env)).any (·.1) = false := by rfl) :
    PS X (.Raise (some (.Call (.Name c p1) [e] [] pos)) none rpos) (denSX X.K W (xRaise c f m)) := by
  obtain ⟨C, fI, fd, pn, hC, hm, O1, i1, t1, F1, b1, no⟩ := T.ex
  refine ps_imp (ps_raise hc tk (pmk_oex O1 i1 t1 F1 hr.toRoom b1 .nil pass0 hg hm (pa_cons he pa_nil hst) hdb hst hpl)) fun D σ H ⟨B, F, e, G, y, e', s, hm, kk⟩ => ?_
  unfold xRaise at hm
  split at hm
  · rename_i v e1 h1
    split at hm
    · rename_i hv
      obtain ⟨rfl, rfl⟩ := so hm
      refine ⟨B, F, e, G, _, e1, s, h1, fun F1 H1 u s1 _ => ?_⟩
      obtain rfl : u = .int v := df_int (s1.df rfl)
      refine ⟨by simp, fun a ha => ⟨a, C, v, rfl, hv, O1, no, upd_same, fun dx hd nd => ⟨rfl, dx, [(f, V.int v)], upd_same, ?_, ?_, ?_⟩⟩⟩
      · rw [upd_ne nd, upd_same]
      · rw [upd_ne nd] at hd; exact hd
      · have hd' : H1 dx = none := by rw [upd_ne nd] at hd; exact hd
        have e2 : upd (del (upd (upd (upd H1 a (exo a C none)) dx (exd dx [(f, V.int v)])) a (exo a C (some dx))) a) dx (.xd [(f, V.int v)]) = upd H1 dx (.xd [(f, V.int v)]) := by
          funext q
          by_cases z : q = dx
          · rw [z, upd_same, upd_same]
          · rw [upd_ne z, upd_ne z]
            by_cases z2 : q = a
            · rw [z2, del_same, ha]
            · rw [del_ne z2, upd_ne z2, upd_ne z, upd_ne z2]
        rw [e2]
        exact kk σ (upd F1 dx (.xd [(f, V.int v)])) _ C dx (s1.pop.newF hd') hC upd_same
    · cases hm
  · cases hm
end Dn

set_option Elab.async false
set_option linter.all false
set_option maxRecDepth 100000
set_option maxHeartbeats 4000000
/-! try: .. except C as n: kept = n, and what is asked of the kept error -/
namespace Dn
open PySem PySem.Spec PyProof.Rows L2
section
variable {K : PySem.W.Frag} {B : Bs} {F H : Hp} {σ : L2.St} {e : En} {G : Ws}
theorem SlOk.clear {vs : List V} {i : Nat} {x : Option V} (h : SlOk vs σ e) : SlOk vs (σ.set i x) (e.set i .no) := by
  refine ⟨by rw [List.length_set, List.length_set]; exact h.len, fun j s hj => ?_⟩
  by_cases hij : i = j
  · subst hij
    have hi : i < e.length := by
      have := (List.getElem?_eq_some_iff.mp hj).1
      rw [List.length_set] at this
      exact this
    rw [List.getElem?_set_self hi] at hj
    cases hj
    exact ⟨x, by rw [List.getElem?_set_self (by rw [h.len]; exact hi)], trivial⟩
  · rw [List.getElem?_set_ne hij] at hj ⊢
    exact h.sl j s hj
theorem Sta.clear {i : Nat} {x : Option V} (s : Sta K B F H σ e G) (hi : i < e.length) : Sta K B F H (σ.set i x) (e.set i .no) G := by
  have s1 : Sta K B F H σ (e.set i .no) G := by
    have := s.forget (vs := [i])
    exact this
  refine ⟨s.ok.clear, ?_⟩
  rw [slots_no]
  exact s1.rel
theorem Sta.pushX {a dd C : Addr} {x : Exn} (s : Sta K B F H σ e G) (hC : ClsAt K x.c C) (h1 : F a = some (ExV (.ref C) (some dd) a)) (h2 : F dd = some (.xd [(x.f, V.int x.v)])) : Sta K B F H σ e ((.ref a, .ex x) :: G) := by
  obtain ⟨T, rl, nd, hp⟩ := s.rel.res
  have q : Rel K B.H0 B.F0 F H ((.ref a, .ex x) :: (slots σ e ++ G)) := ⟨s.rel.h0, s.rel.f0, s.rel.fn, s.rel.fh, T, .cons (T1 := []) (.ex hC h1 h2) rl, nd, hp⟩
  exact ⟨s.ok, q.perm (mid _ _ _).symm⟩
/-- what a slot with an error tells -/
theorem Sta.exAt {i : Nat} {x : Exn} (s : Sta K B F H σ e G) (hi : e[i]? = some (.own (.ex x))) : ∃ a dd C, σ[i]? = some (some (.ref a)) ∧ ClsAt K x.c C ∧ F a = some (ExV (.ref C) (some dd) a) ∧ F dd = some (.xd [(x.f, V.int x.v)]) := by
  obtain ⟨v, hv, s'⟩ := s.out hi (show (Sl.own (.ex x)).o? = some (.ex x) from rfl)
  obtain ⟨T, r⟩ := s'.at
  generalize ho : O.ex x = o at r
  cases r with
  | ex h1 h2 h3 => cases ho; exact ⟨_, _, _, hv, h1, h2, h3⟩
  | _ => cases ho
end
def mTry (mb : MS) (xb : MX) (cs : List Str) (i j : Nat) : MS := fun e => match mb e with
  | some oc => some oc
  | none => (match xb e with
    | some (x, e1) => if cs.contains x.c = true ∧ i < e1.length ∧ j < e1.length then some (.nx (((e1.set i .no).set j (.own (.ex x))).set i .no)) else none
    | none => none)
section
variable {X : Cx}
theorem ds_try {x n kn : Str} {c : Value} {i j : Nat} {cs : List Str} {body : List Stmt} {np np2 kp ap pos pos' : Pos} {mb : MS} {xb : MX} (hs : X.stack = X.env :: X.outer) (hf : X.env.frame = some X.env.locals) (hx : X.ex = []) (hN : X.N.Nodup) (hi : X.N[i]? = some n) (hln : X.env.kindOf n = some .local) (hc : L2.Names X x c)
    (hcs : ∀ y ∈ cs, ∀ C, ClsAt X.K y C → PySem.W.exmOne X.K (.ref C) c = some true)
    (hb : ∀ (pn : List (Addr × Obj)) (xe : Value → Shared → Prop), PSs (X.tr pn xe).nox body (denS X.K mb))
    (hxb : ∀ (W : WX) (pn : List (Addr × Obj)) (xe : Value → Shared → Prop), Takes (X.tr pn xe) W → PassesOwn (model X.prog X.w) X.A X.env xe → PSs (X.tr pn xe) body (denSX X.K W xb))
    (hsu : ∀ (a : Addr) (oe : Obj) (pn : List (Addr × Obj)), PS (X.suite a ((a, oe) :: pn)) (.Assign [.Name kn kp] (.Name n np2) ap) (tAsg (tVar i) (gName j))) :
    PS X (.Try body [.ExceptHandler (some (.Name x np)) (some n) [.Assign [.Name kn kp] (.Name n np2) ap] pos'] [] [] pos) (denS X.K (mTry mb xb cs i j)) := by
  refine ps_imp (ps_try_keep (i := i) (tb := fun W D σ H => denS X.K mb D σ H ∨ denSX X.K W xb D σ H) (ts := fun _ _ _ => tSeq (tAsg (tVar i) (gName j)) tNext) hs hf hx hN hi hln hc (fun W pn xe tk po => pss_or (hb pn xe).nox (hxb W pn xe tk po)) (fun a oe cls d pn _ _ => pss_cons (hsu a oe pn) pss_nil)) ?_
  rintro D σ H ⟨B, F, e, G, oc, s, hm, k⟩
  unfold mTry at hm
  split at hm
  · rename_i oc' h1
    cases hm
    exact .inl ⟨B, F, e, G, oc, s, h1, k⟩
  · split at hm
    · rename_i y e1 h1
      split at hm
      · rename_i hif
        cases hm
        refine .inr ⟨B, F, e, G, y, e1, s, h1, fun σ' F' H' C dd s' hC hd => ⟨hcs _ (List.contains_iff_mem.mp hif.1) C hC, fun a ha => ?_⟩⟩
        have s1 := s'.newF (u := ExV (.ref C) (some dd) a) ha
        have nd : dd ≠ a := fun z => by
          have := s'.fh _ _ hd
          rw [z, ha] at this
          cases this
        have s2 := s1.pushX hC upd_same (by rw [upd_ne nd]; exact hd)
        have s3 := s2.clear (i := i) (x := some (.ref a)) hif.2.1
        have s4 := s3.store (i := j) (by rw [List.length_set]; exact hif.2.2)
        have s5 := s4.clear (i := i) (x := none) (by rw [List.length_set, List.length_set]; exact hif.2.1)
        have hl : i < σ'.length := by rw [s'.ok.len]; exact hif.2.1
        exact ⟨.ref a, by rw [List.getElem?_set_self hl], k _ _ _ s5⟩
      · cases hm
    · cases hm
/-- an error is handed on, or what stands for none -/
def mVarX (i : Nat) : MD O := fun e => match e[i]? with
  | some (.own (.ex x)) => some (.ex x, e)
  | some (.own (.v d)) => some (.v d, e)
  | _ => none
theorem d_varX (i : Nat) {x : Str} {pos : Pos} (h : PE X (.Name x pos) (tVar i)) : PE X (.Name x pos) (den X.K true (mVarX i)) := pe_imp h fun σ H Q ⟨B, F, e, G, y, e', s, hm, k⟩ => by
  unfold mVarX at hm
  split at hm
  · rename_i z hi
    obtain ⟨rfl, rfl⟩ := so hm
    obtain ⟨a, dd, C, hv, h1, h2, h3⟩ := s.exAt hi
    exact ⟨_, hv, k F H _ (s.pushX h1 h2 h3) fun _ => .refl _⟩
  · rename_i d hi
    obtain ⟨rfl, rfl⟩ := so hm
    obtain ⟨v, hv, F', s'⟩ := var_see (i := i) (x := .v d) s (show mVar i e = some (.v d, e) by unfold mVar; rw [hi])
    exact ⟨v, hv, k F' H v s' fun _ => .refl _⟩
  · cases hm
/-- x is None, x perhaps an error -/
def mIsNX (i : Nat) (b : Bool) : MD O := fun e => match e[i]? with
  | some (.own (.ex _)) => some (.v (.bool (!b)), e)
  | some (.own (.v .none)) => some (.v (.bool b), e)
  | _ => none
theorem isn_run {B : Bs} {F H : Hp} {σ : L2.St} {e e' : En} {G : Ws} {i : Nat} {b : Bool} {y : O} (s : Sta X.K B F H σ e G) (hm : mIsNX i b e = some (y, e')) : e' = e ∧ ∃ v, σ[i]? = some (some v) ∧ y = .v (.bool (if decide (v = .non) then b else !b)) := by
  unfold mIsNX at hm
  split at hm
  · rename_i z hi
    obtain ⟨rfl, rfl⟩ := so hm
    obtain ⟨a, dd, C, hv, _⟩ := s.exAt hi
    exact ⟨rfl, _, hv, by simp⟩
  · rename_i hi
    obtain ⟨rfl, rfl⟩ := so hm
    obtain ⟨v, hv, s'⟩ := s.out hi (show (Sl.own (.v .none)).o? = some (.v .none) from rfl)
    obtain ⟨T, r⟩ := s'.at
    have : v = .non := by
      generalize ho : O.v PyData.none = o at r
      cases r with
      | v h => cases ho; cases h; rfl
      | _ => cases ho
    subst this
    exact ⟨rfl, _, hv, by simp⟩
  · cases hm
theorem d_isNX {i : Nat} {a : Expr} {j : Nat} {pn pos : Pos} (ha : PE X a (tVar i)) : PE X (.Compare a [.Is] [.Constant .none j pn] pos) (den X.K true (mIsNX i true)) := pe_imp (pe_cmpR op_isN ha pe_non (nomark _)) fun σ H Q ⟨B, F, e, G, y, e', s, hm, k⟩ => by
  obtain ⟨rfl, v, hv, rfl⟩ := isn_run s hm
  refine ⟨v, hv, rfl, k F H _ (s.push ?_) fun _ => .refl _⟩
  cases decide (v = V.non) <;> exact .bl _
theorem d_notNX {i : Nat} {a : Expr} {j : Nat} {pn pos : Pos} (ha : PE X a (tVar i)) : PE X (.Compare a [.IsNot] [.Constant .none j pn] pos) (den X.K true (mIsNX i false)) := pe_imp (pe_cmpR op_notN ha pe_non (nomark _)) fun σ H Q ⟨B, F, e, G, y, e', s, hm, k⟩ => by
  obtain ⟨rfl, v, hv, rfl⟩ := isn_run s hm
  refine ⟨v, hv, rfl, k F H _ (s.push ?_) fun _ => .refl _⟩
  cases decide (v = V.non) <;> exact .bl _
/-- isinstance(x, C), x an error: by a table of the classes' names -/
def mIsiX (i : Nat) (tab : List (Str × Bool)) : MD O := fun e => match e[i]? with
  | some (.own (.ex x)) => (match tab.lookup x.c with
    | some b => some (.v (.bool b), e)
    | none => none)
  | _ => none
theorem d_isiX {i : Nat} {tab : List (Str × Bool)} {a : Expr} {y : Str} {cV : V} {cv : Value} {p1 pn pos : Pos} (hg : Gl X "isinstance") (hm : X.mg "isinstance" = none) (ha : PE X a (tVar i)) (hy : PE X (.Name y pn) (tC cV)) (hcv : ∀ u, RelV cV u → u = cv)
    (ht : ∀ c b, tab.lookup c = some b → ∀ C, ClsAt X.K c C → ExcC X.K C ∧ PySem.W.kitOne X.K (.ref C) cv = some b)
    (hs : starEach [a, .Name y pn] X.env = (false, eval a X.env) :: starEach [.Name y pn] X.env := by rfl) (hs2 : starEach [.Name y pn] X.env = (false, eval (.Name y pn) X.env) :: starEach [] X.env := by rfl) (hpl : (backTo pos (starEach [.Name y pn] X.env)).any (·.1) = false := by rfl) :
    PE X (.Call (.Name "isinstance" p1) [a, .Name y pn] [] pos) (den X.K true (mIsiX i tab)) :=
  pe_imp (pe_callB call_isV hg hm (by decide +kernel) (pa_cons ha (pa_cons hy pa_nil hs2) hs) (by decide) (by decide) hs hpl) fun σ H Q ⟨B, F, e, G, y, e', s, hm, k⟩ => by
  unfold mIsiX at hm
  split at hm
  · rename_i z hi
    split at hm
    · rename_i b hb
      obtain ⟨rfl, rfl⟩ := so hm
      obtain ⟨a, dd, C, hv, h1, h2, h3⟩ := s.exAt hi
      obtain ⟨t1, t2⟩ := ht _ _ hb C h1
      exact ⟨_, hv, a, dd, C, _, cV, cv, b, rfl, s.fh _ _ h2, s.fh _ _ h3, t1, hcv, t2, k F H _ (s.push (.bl b)) fun _ => .refl _⟩
    · cases hm
  · cases hm
/-- x.f, x an error -/
def mFldX (i : Nat) (f : Str) : MD O := fun e => match e[i]? with
  | some (.own (.ex x)) => if x.f = f then some (.v (.int x.v), e) else none
  | _ => none
theorem d_fldX {i : Nat} {a : Expr} {f : Str} {pos : Pos} (cs : List Str) (ha : PE X a (tVar i)) (ht : ∀ c, ∀ C, ClsAt X.K c C → cs.contains c = true → XfC X.K C ∧ PySem.W.findIn X.K (.ref C) f = some none) (hb : attributeBase a f X.env (eval a X.env) = eval a X.env := by rfl) :
    PE X (.Attribute a f pos) (den X.K true (fun e => match e[i]? with
      | some (.own (.ex x)) => if cs.contains x.c = true then mFldX i f e else none
      | _ => none)) := pe_imp (pe_fldV ha hb) fun σ H Q ⟨B, F, e, G, y, e', s, hm, k⟩ => by
  simp only at hm
  split at hm
  · rename_i z hi
    split at hm
    · rename_i hc
      unfold mFldX at hm
      rw [hi] at hm
      simp only at hm
      split at hm
      · rename_i hf
        obtain ⟨rfl, rfl⟩ := so hm
        obtain ⟨a, dd, C, hv, h1, h2, h3⟩ := s.exAt hi
        obtain ⟨t1, t2⟩ := ht _ C h1 hc
        subst hf
        exact ⟨_, hv, a, dd, C, _, .int z.v, rfl, s.fh _ _ h2, s.fh _ _ h3, t1, t2, by simp [List.lookup], k F H _ (s.push (.int z.v)) fun _ => .refl _⟩
      · cases hm
    · cases hm
  · cases hm
end
end Dn
namespace Dn
open PySem PySem.Spec PyProof.Rows L2
section
variable {P : Program} {w : World} {K : PySem.W.Frag} {mg : Str → Option Value} {base : Heap}
/-- an __init__ that keeps a place -/
theorem ok_init {x qual pn fn : Str} {st : Stmt} {f : Addr} {fd : FuncData} (F : L2.Fun K x qual st f fd) (S : FnScope ["self", pn] ["self", pn] (defScope st))
    (hbody : ∀ (cdv : Value) (A : Around) (outer : List Env) (s : Shared) (H : Hp) (E : XK), PSs (cxOf CX0 P w K mg base ["self", pn] qual (defScope st) f cdv A outer s H E).nox (defBody st) (tInit K fn)) : FnOk P w K mg base CX0 1 f fd ["self", pn] (spInit K fn) :=
  L2.Fun.ok F S (fun vs H Q E ⟨a, C, v, h, _⟩ => by rw [h]; rfl) fun cdv A outer s H vs Q E hr ⟨a, C, v, h, h1, h2, h3, h4, h5⟩ => ⟨_, hbody cdv A outer s H E, by
    subst h
    exact ⟨a, C, v, rfl, h1, h2, h3, h4, h5⟩⟩
/-- the class that an except clause names, and the errors it is met by -/
structure TryC (K : PySem.W.Frag) (mg : Str → Option Value) (x : Str) (cs : List Str) : Prop where
  ex : ∃ D, mg x = some (.ref D) ∧ ∀ y ∈ cs, ∀ C, ClsAt K y C → PySem.W.exmOne K (.ref C) (.ref D) = some true
/-- a class that isinstance asks for -/
structure IsO (K : PySem.W.Frag) (mg : Str → Option Value) (y : Str) (tab : List (Str × Bool)) : Prop where
  ex : ∃ D, mg y = some (.ref D) ∧ ∀ c b, tab.lookup c = some b → ∀ C, ClsAt K c C → ExcC K C ∧ PySem.W.kitOne K (.ref C) (.ref D) = some b
structure IsB (K : PySem.W.Frag) (T : String) (tab : List (Str × Bool)) : Prop where
  ex : ∀ c b, tab.lookup c = some b → ∀ C, ClsAt K c C → ExcC K C ∧ PySem.W.kitOne K (.ref C) (.type T) = some b
/-- errors that have a field -/
structure FldC (K : PySem.W.Frag) (f : Str) (cs : List Str) : Prop where
  ex : ∀ c, ∀ C, ClsAt K c C → cs.contains c = true → XfC K C ∧ PySem.W.findIn K (.ref C) f = some none
end
section
variable {X : Cx}
theorem ds_tryC {x n kn : Str} {i j : Nat} {cs : List Str} {body : List Stmt} {np np2 kp ap pos pos' : Pos} {mb : MS} {xb : MX} (N : TryC X.K X.mg x cs) (hg : Gl X x) (hs : X.stack = X.env :: X.outer) (hf : X.env.frame = some X.env.locals) (hx : X.ex = []) (hN : X.N.Nodup) (hi : X.N[i]? = some n) (hln : X.env.kindOf n = some .local)
    (hb : ∀ (pn : List (Addr × Obj)) (xe : Value → Shared → Prop), PSs (X.tr pn xe).nox body (denS X.K mb))
    (hxb : ∀ (W : WX) (pn : List (Addr × Obj)) (xe : Value → Shared → Prop), Takes (X.tr pn xe) W → PassesOwn (model X.prog X.w) X.A X.env xe → PSs (X.tr pn xe) body (denSX X.K W xb))
    (hsu : ∀ (a : Addr) (oe : Obj) (pn : List (Addr × Obj)), PS (X.suite a ((a, oe) :: pn)) (.Assign [.Name kn kp] (.Name n np2) ap) (tAsg (tVar i) (gName j))) (hdb : (x == ("__debug__" : Str)) = false := by decide) :
    PS X (.Try body [.ExceptHandler (some (.Name x np)) (some n) [.Assign [.Name kn kp] (.Name n np2) ap] pos'] [] [] pos) (denS X.K (mTry mb xb cs i j)) := by
  obtain ⟨D, h1, h2⟩ := N.ex
  exact ds_try hs hf hx hN hi hln ⟨hg, hdb, .inl h1⟩ h2 hb hxb hsu
theorem d_isO {i : Nat} {tab : List (Str × Bool)} {a : Expr} {y : Str} {p1 pn pos : Pos} (N : IsO X.K X.mg y tab) (hgy : Gl X y) (hg : Gl X "isinstance") (hm : X.mg "isinstance" = none) (ha : PE X a (tVar i)) (hdb : (y == ("__debug__" : Str)) = false := by decide)
    (hs : starEach [a, .Name y pn] X.env = (false, eval a X.env) :: starEach [.Name y pn] X.env := by rfl) (hs2 : starEach [.Name y pn] X.env = (false, eval (.Name y pn) X.env) :: starEach [] X.env := by rfl) (hpl : (backTo pos (starEach [.Name y pn] X.env)).any (·.1) = false := by rfl) :
    PE X (.Call (.Name "isinstance" p1) [a, .Name y pn] [] pos) (den X.K true (mIsiX i tab)) := by
  obtain ⟨D, h1, h2⟩ := N.ex
  exact d_isiX hg hm ha (pe_glob (v := .ref D) hgy h1 rfl hdb) (fun u r => r) h2 hs hs2 hpl
theorem d_isB {i : Nat} {tab : List (Str × Bool)} {a : Expr} {T : String} {y : Str} {p1 pn pos : Pos} (N : IsB X.K T tab) (hy : PE X (.Name y pn) (tC (.ty T))) (hg : Gl X "isinstance") (hm : X.mg "isinstance" = none) (ha : PE X a (tVar i))
    (hs : starEach [a, .Name y pn] X.env = (false, eval a X.env) :: starEach [.Name y pn] X.env := by rfl) (hs2 : starEach [.Name y pn] X.env = (false, eval (.Name y pn) X.env) :: starEach [] X.env := by rfl) (hpl : (backTo pos (starEach [.Name y pn] X.env)).any (·.1) = false := by rfl) :
    PE X (.Call (.Name "isinstance" p1) [a, .Name y pn] [] pos) (den X.K true (mIsiX i tab)) := d_isiX hg hm ha hy (fun u r => r) N.ex hs hs2 hpl
/-- x.f -/
def mFldC (i : Nat) (f : Str) (cs : List Str) : MD O := fun e => match e[i]? with
  | some (.own (.ex x)) => if cs.contains x.c = true then mFldX i f e else none
  | _ => none
theorem d_fldC {i : Nat} {a : Expr} {f : Str} {cs : List Str} {pos : Pos} (N : FldC X.K f cs) (ha : PE X a (tVar i)) (hb : attributeBase a f X.env (eval a X.env) = eval a X.env := by rfl) : PE X (.Attribute a f pos) (den X.K true (mFldC i f cs)) := d_fldX cs ha N.ex hb
theorem dss_never {st : List Stmt} : PSs X st (denS X.K mNo) := pss_imp pss_never fun D σ H ⟨B, F, e, G, oc, s, hm, k⟩ => by cases hm
end
end Dn
namespace Dn
open PySem PySem.Spec PyProof.Rows L2
/-- a def of the module, by name -/
structure NmF (K : PySem.W.Frag) (mg : Str → Option Value) (x : Str) : Prop where
  ex : ∃ f, mg x = some (.ref f) ∧ PySem.W.keepIn K (.ref f) = true
/-- the first argument raises, whatever is called -/
theorem x_argN {X : Cx} {W : WX} {m : MX} {x : Str} {p1 pos : Pos} {e : Expr} {es : List Expr} (N : NmF X.K X.mg x) (hg : Gl X x) (he1 : PE X e (denX X.K W m)) (hdb : (x == ("__debug__" : Str)) = false := by decide) (he : starEach (e :: es) X.env = (false, eval e X.env) :: starEach es X.env := by rfl) (hpl : (backTo pos (starEach es X.env)).any (·.1) = false := by rfl) :
    PE X (.Call (.Name x p1) (e :: es) [] pos) (denX X.K W m) := by
  obtain ⟨f, hm, hk⟩ := N.ex
  exact ⟨fun pins s σ H Q I h => wpAny_Call_Name_kw (ld_glob I hg hm (PySem.W.callWith_K (h₀ := X.base) I.ok.mod.kin hk (thn ((pa_cons he1 pa_never he).run pos pins s σ H (fun _ _ => False) I h) fun us s1 ⟨_, _, _, _, q⟩ => q.elim) he hpl) hdb)⟩
theorem mem_lookup {tab : List (Str × Bool)} {c : Str} {b : Bool} (h : tab.lookup c = some b) : (c, b) ∈ tab := by
  induction tab with
  | nil => cases h
  | cons p t ih =>
    obtain ⟨k, v⟩ := p
    rw [List.lookup_cons] at h
    split at h
    · rename_i hk
      cases h
      rw [beq_iff_eq] at hk
      subst hk
      exact List.mem_cons_self ..
    · exact List.mem_cons_of_mem _ (ih h)
end Dn
namespace Dn
open PySem PySem.Spec PyProof.Rows L2
theorem kitX_own {K : PySem.W.Frag} {C D : Addr} {b : Bool} (O : OexC K C) (hd : PySem.W.hasDictIn K D = true) (ht : PySem.W.typeIn K (.ref D) = some (.type "type")) (hs : PySem.W.subIn K (.ref C) (.ref D) = some b) : PySem.W.kitOne K (.ref C) (.ref D) = some b := by
  unfold PySem.W.kitOne
  split
  · rename_i e
    have e' : C = D := Value.ref.inj (beq_iff_eq.mp e)
    subst e'
    obtain ⟨nm, q, N, bs, bm, sn, sub, ab, col, dd, k0, k1, k2, k3, k5, hC, _⟩ := O.cls
    have hcl : PySem.W.clsIn K C = some { name := nm, bases := bs, mro := .ref C :: bm, ns := N, qualname := q, hasDict := true, slotNames := sn, subclasses := sub, abstract := ab, collection := col, hasDel := false } := by
      unfold PySem.W.clsIn
      rw [hC]
    unfold PySem.W.subIn PySem.W.mroIn at hs
    simp only [hcl, Option.bind_some, List.isEmpty_cons, Bool.false_eq_true, if_false, List.contains_cons, beq_self_eq_true, Bool.true_or] at hs
    exact hs
  · unfold PySem.W.kitCls
    simp only
    have h1 : (PySem.W.clsIn K D).isSome = true := by
      unfold PySem.W.hasDictIn at hd
      cases e : PySem.W.clsIn K D with
      | none => rw [e] at hd; cases hd
      | some _ => rfl
    rw [if_pos (by rw [h1, ht]; rfl)]
    exact hs
theorem kitX_ty {K : PySem.W.Frag} {C : Addr} {T : String} {b : Bool} (hm : PySem.W.kitMeta T = true) (hs : PySem.W.subIn K (.ref C) (.type T) = some b) : PySem.W.kitOne K (.ref C) (.type T) = some b := by
  unfold PySem.W.kitOne
  rw [if_neg (by simp)]
  unfold PySem.W.kitCls
  simp only
  rw [if_pos hm]
  exact hs
end Dn

set_option Elab.async false
set_option linter.all false
set_option maxRecDepth 100000
set_option maxHeartbeats 4000000
/-! plain Lean: what the denotations come to -/
namespace Dn
open PySem L2
@[simp] theorem shut_simp {α : Type} (a : α) : shut a = a := shut_eq a
section
variable {m a b : MD O} {ms : MD (List O)} {c c' : MD Bool} {t u : MS} {e : En} {i : Nat} {f : List PyData → Option PyData}
@[simp] theorem mC_ap (d : PyData) : mC d e = some (.v d, e) := id rfl
@[simp] theorem mVar_ap : mVar i e = (match e[i]? with
  | some (.own (.v d)) => some (.v d, e)
  | some (.own (.s ns)) => some (.s ns, e)
  | some (.own o) => (match o.toD with | some d => some (.v d, e.set i (.own (.v d))) | none => none)
  | some (.pin (.v d)) => some (.v d, e)
  | some (.pin (.s ns)) => some (.s ns, e)
  | _ => none) := id rfl
@[simp] theorem mMv_ap : mMv i e = (match e[i]? with
  | some (.own o) => some (o, e.set i .no)
  | _ => none) := id rfl
@[simp] theorem bVar_ap : bVar i e = (e[i]?).bind Sl.o? := id rfl
@[simp] theorem o_no : Sl.o? .no = none := id rfl
@[simp] theorem o_own (o : O) : Sl.o? (.own o) = some o := id rfl
@[simp] theorem o_pin (o : O) : Sl.o? (.pin o) = some o := id rfl
@[simp] theorem lNil_ap : lNil e = some ([], e) := id rfl
@[simp] theorem aNil_ap : aNil e = some ([], e) := id rfl
@[simp] theorem lCons_ap : lCons m ms e = (match m e with
  | some (x, e1) => (match ms e1 with
    | some (xs, e2) => some (x :: xs, e2)
    | none => none)
  | none => none) := id rfl
@[simp] theorem aCons_ap : aCons m ms e = (match m e with
  | some (x, e1) => (match ms e1 with
    | some (xs, e2) => some (x :: xs, e2)
    | none => none)
  | none => none) := id rfl
@[simp] theorem lSee_ap : lSee i ms e = (match (e[i]?).bind Sl.o? with
  | some _ => (match ms e with
    | some (xs, e1) => (match (e1[i]?).bind Sl.o? with
      | some x => some (x :: xs, e1)
      | none => none)
    | none => none)
  | none => none) := id rfl
@[simp] theorem aMv_ap : aMv i ms e = (match (e[i]?).bind Sl.o? with
  | some _ => (match ms e with
    | some (xs, e1) => (match mMv i e1 with
      | some (x, e2) => some (x :: xs, e2)
      | none => none)
    | none => none)
  | none => none) := id rfl
@[simp] theorem aRf_ap : aRf i ms e = (match (e[i]?).bind Sl.o? with
  | some _ => (match ms e with
    | some (xs, e1) => (match (e1[i]?).bind Sl.o? with
      | some x => some (x :: xs, e1.set i .no)
      | none => none)
    | none => none)
  | none => none) := id rfl
@[simp] theorem mL_ap : mL f ms e = (match ms e with
  | some (xs, e1) => (match O.toDs xs with
    | some ds => (match f ds with
      | some z => some (.v z, e1)
      | none => none)
    | none => none)
  | none => none) := id rfl
@[simp] theorem mLk_ap {f : List O → Option PyData} : mLk f ms e = (match ms e with
  | some (xs, e1) => (match f xs with
    | some z => some (.v z, e1)
    | none => none)
  | none => none) := id rfl
@[simp] theorem mA_ap {f : List O → Option O} : mA f ms e = (match ms e with
  | some (xs, e1) => (match f xs with
    | some x => some (x, e1)
    | none => none)
  | none => none) := id rfl
@[simp] theorem mT_ap : mT m e = (match m e with
  | some (.v (.bool b), e1) => some (b, e1)
  | _ => none) := id rfl
@[simp] theorem mFz_ap : mFz m e = (match m e with
  | some (x, e1) => (match x.toD with
    | some d => some (.v d, e1)
    | none => none)
  | none => none) := id rfl
@[simp] theorem mSet_ap : mSet i m e = (match m e with
  | some (x, e1) => (match setE e1 i x with
    | some e2 => some (.nx e2)
    | none => none)
  | none => none) := id rfl
@[simp] theorem setE_ap {x : O} : setE e i x = (match e[i]? with
  | some .no => some (e.set i (.own x))
  | some (.own _) => some (e.set i (.own x))
  | _ => none) := id rfl
@[simp] theorem mDrop_ap : mDrop m e = (match m e with
  | some (_, e1) => some (.nx e1)
  | none => none) := id rfl
@[simp] theorem mRet_ap : mRet m e = (match m e with
  | some (x, e1) => some (.rt x e1)
  | none => none) := id rfl
@[simp] theorem mRetN_ap : mRetN e = some (.rt (.v .none) e) := id rfl
@[simp] theorem mNil_ap : mNil e = some (.nx e) := id rfl
@[simp] theorem mKill_ap (vs : List Nat) : mKill vs e = some (.nx (hide e vs)) := id rfl
@[simp] theorem mFrz_ap (vs : List Nat) : mFrz vs e = some (.nx (frz e vs)) := id rfl
@[simp] theorem mFrzE_ap {α : Type} (vs : List Nat) (m : MD α) : mFrzE vs m e = m (frz e vs) := id rfl
@[simp] theorem mYes_ap : mYes e = some (true, e) := id rfl
@[simp] theorem oNone_ap : oNone e = some (none, e) := id rfl
@[simp] theorem oSome_ap : oSome m e = (match m e with
  | some (.v (.int i), e1) => some (some i, e1)
  | _ => none) := id rfl
@[simp] theorem mSl_ap {lo hi : MO} : mSl m lo hi e = (match m e with
  | some (x, e1) => (match lo e1 with
    | some (a, e2) => (match hi e2 with
      | some (b, e3) => (match slO x a b with
        | some y => some (y, e3)
        | none => none)
      | none => none)
    | none => none)
  | none => none) := id rfl
@[simp] theorem mSeq_ap : mSeq t u e = (match t e with
  | some (.nx e1) => u e1
  | r => r) := id rfl
@[simp] theorem mIf_ap : mIf c t u e = (match c e with
  | some (b, e1) => if b = true then t e1 else u e1
  | none => none) := by
  unfold mIf
  split <;> rename_i h <;> simp [h]
@[simp] theorem tAndM_ap : tAndM c c' e = (match c e with
  | some (b, e1) => if b = true then c' e1 else some (false, e1)
  | none => none) := by
  unfold tAndM
  split
  · rename_i h; simp [h]
  · rename_i h
    cases hc : c e with
    | none => rfl
    | some p =>
      obtain ⟨b, e1⟩ := p
      cases b
      · rfl
      · exact absurd hc (h e1)
@[simp] theorem tOrM_ap : tOrM c c' e = (match c e with
  | some (b, e1) => if b = true then some (true, e1) else c' e1
  | none => none) := by
  unfold tOrM
  split
  · rename_i h; simp [h]
  · rename_i h
    cases hc : c e with
    | none => rfl
    | some p =>
      obtain ⟨b, e1⟩ := p
      cases b
      · exact absurd hc (h e1)
      · rfl
@[simp] theorem tNotM_ap : tNotM c e = (match c e with
  | some (b, e1) => some (!b, e1)
  | none => none) := id rfl
@[simp] theorem vAnd_ap : vAnd a b e = (match a e with
  | some (.v (.bool k), e1) => if k = true then b e1 else some (.v (.bool false), e1)
  | _ => none) := by
  unfold vAnd
  split
  · rename_i h; simp [h]
  · rename_i h; simp [h]
  · rename_i h1 h2
    split
    · rename_i k e1 h3
      cases k
      · exact absurd h3 (h2 _)
      · exact absurd h3 (h1 _)
    · rfl
@[simp] theorem vOr_ap : vOr a b e = (match a e with
  | some (.v (.bool k), e1) => if k = true then some (.v (.bool true), e1) else b e1
  | _ => none) := by
  unfold vOr
  split
  · rename_i h; simp [h]
  · rename_i h; simp [h]
  · rename_i h1 h2
    split
    · rename_i k e1 h3
      cases k
      · exact absurd h3 (h1 _)
      · exact absurd h3 (h2 _)
    · rfl
@[simp] theorem vNot_ap : vNot a e = (match a e with
  | some (.v (.bool b), e1) => some (.v (.bool (!b)), e1)
  | _ => none) := id rfl
@[simp] theorem mUp_ap {f : List O → List O → Option (List O × O)} : mUp i ms f e = (match (e[i]?).bind Sl.o? with
  | some (.l _) => (match ms e with
    | some (ys, e1) => (match e1[i]? with
      | some (.own (.l xs)) => (match f xs ys with
        | some (xs', y) => some (y, e1.set i (.own (.l xs')))
        | none => none)
      | some (.pin (.l xs)) => (match f xs ys with
        | some (xs', y) => some (y, e1.set i (.pin (.l xs')))
        | none => none)
      | _ => none)
    | none => none)
  | _ => none) := id rfl
@[simp] theorem mSetI_ap : mSetI i a b e = (match a e with
  | some (y, e1) => (match (e1[i]?).bind Sl.o? with
    | some (.l _) => (match b e1 with
      | some (.v (.int k), e2) => (match e2[i]? with
        | some (.own (.l xs)) => (match ixN xs.length k with
          | some j => some (.nx (e2.set i (.own (.l (xs.set j y)))))
          | none => none)
        | some (.pin (.l xs)) => (match ixN xs.length k with
          | some j => some (.nx (e2.set i (.pin (.l (xs.set j y)))))
          | none => none)
        | _ => none)
      | _ => none)
    | _ => none)
  | none => none) := id rfl
@[simp] theorem mLM_ap : mLM i f ms e = (match (e[i]?).bind Sl.o? with
  | some (.l _) => mL f (lSee i ms) e
  | some (.v (.list _)) => mL f (lSee i ms) e
  | _ => none) := id rfl
@[simp] theorem mAsg_ap {tg : Tg} : mAsg tg m e = (match m e with
  | some (x, e1) => (match asg tg x e1 with
    | some e2 => some (.nx e2)
    | none => none)
  | none => none) := id rfl
@[simp] theorem mAugI_ap : mAugI i m e = (match e[i]? with
  | some (.own (.v (.int a))) => (match m e with
    | some (.v (.int b), e1) => (match setE e1 i (.v (.int (a + b))) with
      | some e2 => some (.nx e2)
      | none => none)
    | _ => none)
  | _ => none) := id rfl
@[simp] theorem mCallM_ap {sem : Sem1} : mCallM sem ms e = (match ms e with
  | some (xs, e1) => (match sem xs with
    | some (x, []) => some (x, e1)
    | _ => none)
  | none => none) := id rfl
@[simp] theorem mCallL_ap {sem : Sem1} : mCallL sem ms e = (match ms e with
  | some (xs, e1) => (match O.toDs xs with
    | some ds => (match sem (ds.map .v) with
      | some (.v z, []) => if (sV z).isSome then some (.v z, e1) else none
      | _ => none)
    | none => none)
  | none => none) := id rfl
@[simp] theorem mCallR_ap {sem : Sem1} {rs : List Nat} : mCallR sem ms rs e = (match ms e with
  | some (xs, e1) => (match sem xs with
    | some (x, os) => (match putBk e e1 rs os with
      | some e2 => some (x, e2)
      | none => none)
    | none => none)
  | none => none) := id rfl
@[simp] theorem putBk_nil {e0 : En} : putBk e0 e [] [] = some e := id rfl
@[simp] theorem putBk_cons {e0 : En} {i : Nat} {rs : List Nat} {o : O} {os : List O} : putBk e0 e (i :: rs) (o :: os) = (match e0[i]?, e[i]? with
    | some (.own _), some .no => putBk e0 (e.set i (.own o)) rs os
    | some (.pin _), some .no => putBk e0 (e.set i (.pin o)) rs os
    | _, _ => none) := id rfl
@[simp] theorem hide_nil : hide e [] = e := id rfl
@[simp] theorem hide_cons {v : Nat} {vs : List Nat} : hide e (v :: vs) = (hide e vs).set v .no := id rfl
@[simp] theorem frz_nil : frz e [] = e := id rfl
@[simp] theorem frz_cons {v : Nat} {vs : List Nat} : frz e (v :: vs) = frz (match e[v]? with
    | some s => e.set v (frzS s)
    | none => e) vs := id rfl
@[simp] theorem frzS_no : frzS .no = .no := id rfl
@[simp] theorem frzS_pin (o : O) : frzS (.pin o) = .pin o := id rfl
@[simp] theorem frzS_own (o : O) : frzS (.own o) = (match o.toD with
    | some d => .own (.v d)
    | none => .own o) := id rfl
@[simp] theorem unhide_nil {e1 : En} : unhide e1 e [] = e := id rfl
@[simp] theorem unhide_cons {e1 : En} {v : Nat} {vs : List Nat} : unhide e1 e (v :: vs) = unhide e1 (e.set v (if vs.contains v then .no else keepV e1[v]?)) vs := id rfl
@[simp] theorem keepV_none : keepV none = .no := id rfl
@[simp] theorem keepV_no : keepV (some .no) = .no := id rfl
@[simp] theorem keepV_v (d : PyData) : keepV (some (.own (.v d))) = .own (.v d) := id rfl
@[simp] theorem asg_n {x : O} : asg (.n i) x e = setE e i x := id rfl
@[simp] theorem asg_tp {ts : List Tg} {x : O} : asg (.tp ts) x e = (match x.tparts with
    | some xs => asgs ts xs e
    | none => none) := id rfl
@[simp] theorem asgs_nil : asgs [] [] e = some e := id rfl
@[simp] theorem asgs_cons {g : Tg} {ts : List Tg} {x : O} {xs : List O} : asgs (g :: ts) (x :: xs) e = (match asg g x e with
    | some e1 => asgs ts xs e1
    | none => none) := id rfl
@[simp] theorem tgin_n {vs : List Nat} : (Tg.n i).in vs = vs.contains i := id rfl
@[simp] theorem tgin_tp {vs : List Nat} {ts : List Tg} : (Tg.tp ts).in vs = Tg.ins vs ts := id rfl
@[simp] theorem tgins_nil {vs : List Nat} : Tg.ins vs [] = true := id rfl
@[simp] theorem tgins_cons {vs : List Nat} {g : Tg} {ts : List Tg} : Tg.ins vs (g :: ts) = (Tg.in vs g && Tg.ins vs ts) := id rfl
@[simp] theorem mLc_ap {mi : MD (List O)} {tg : Tg} {vs : List Nat} : mLc mi tg c m vs e = (match mi e with
  | some (os, e1) => if os.length ≤ sizeLine && tg.in vs then (match lcL tg c m vs os (hide e1 vs) with
    | some (ys, e2) => some (.l ys, unhide e1 e2 vs)
    | none => none) else none
  | none => none) := id rfl
@[simp] theorem mFor_ap {mi : MD (List O)} {tg : Tg} : mFor mi tg t e = (match mi e with
  | some (os, e1) => forL tg t os e1
  | none => none) := id rfl
@[simp] theorem iL_ap : iL m e = (match m e with
  | some (x, e1) => (match x.lparts with
    | some os => some (os, e1)
    | none => (match x.tparts with
      | some os => some (os, e1)
      | none => none))
  | none => none) := id rfl
@[simp] theorem iR1_ap : iR1 ms e = (match ms e with
  | some ([.v (.int j)], e1) => if shut (decide (-(2 ^ 62) ≤ j ∧ j < 2 ^ 62)) = true then some (rngO 0 j.toNat, e1) else none
  | _ => none) := id rfl
@[simp] theorem iR2_ap : iR2 ms e = (match ms e with
  | some ([.v (.int i), .v (.int j)], e1) => if shut (decide (-(2 ^ 62) ≤ i ∧ i < 2 ^ 62 ∧ -(2 ^ 62) ≤ j ∧ j < 2 ^ 62)) = true then some (rngO i (j - i).toNat, e1) else none
  | _ => none) := id rfl
@[simp] theorem iZ_ap : iZ ms e = (match ms e with
  | some ([x, y], e1) => (match x.lparts, y.lparts with
    | some xs, some ys => some (zipO xs ys, e1)
    | _, _ => none)
  | _ => none) := id rfl
@[simp] theorem iE_ap : iE ms e = (match ms e with
  | some ([x], e1) => (match x.lparts with
    | some xs => some (enuO 0 xs, e1)
    | _ => none)
  | _ => none) := id rfl
@[simp] theorem iS_ap : iS m e = (match m e with
  | some (.v (.str x), e1) => some (sgO x, e1)
  | _ => none) := id rfl
@[simp] theorem fin_rt {br : List Bool} {x : O} : fin br (some (.rt x e)) = (match pinsOf br e with
    | some os' => some (x, os')
    | none => none) := id rfl
@[simp] theorem fin_nx {br : List Bool} : fin br (some (.nx e)) = (match pinsOf br e with
    | some os' => some (.v .none, os')
    | none => none) := id rfl
@[simp] theorem pins_nil : pinsOf [] e = some [] := id rfl
@[simp] theorem pins_f {br : List Bool} {s : Sl} : pinsOf (false :: br) (s :: e) = pinsOf br e := id rfl
@[simp] theorem pins_t {br : List Bool} {o : O} : pinsOf (true :: br) (.pin o :: e) = (match pinsOf br e with
    | some os => some (o :: os)
    | none => none) := id rfl
@[simp] theorem toD_v (d : PyData) : O.toD (.v d) = some d := id rfl
@[simp] theorem toD_l (xs : List O) : O.toD (.l xs) = (O.toDs xs).map .list := id rfl
@[simp] theorem toD_t (xs : List O) : O.toD (.t xs) = (O.toDs xs).map .tuple := id rfl
@[simp] theorem toDs_nil : O.toDs [] = some [] := id rfl
@[simp] theorem toDs_cons (x : O) (xs : List O) : O.toDs (x :: xs) = (match O.toD x, O.toDs xs with
    | some d, some ds => some (d :: ds)
    | _, _ => none) := id rfl
@[simp] theorem lparts_l (xs : List O) : O.lparts (.l xs) = some xs := id rfl
@[simp] theorem lparts_v (ds : List PyData) : O.lparts (.v (.list ds)) = some (ds.map .v) := id rfl
@[simp] theorem lparts_t (xs : List O) : O.lparts (.t xs) = none := id rfl
@[simp] theorem lparts_tv (ds : List PyData) : O.lparts (.v (.tuple ds)) = none := id rfl
@[simp] theorem tparts_t (xs : List O) : O.tparts (.t xs) = some xs := id rfl
@[simp] theorem tparts_v (ds : List PyData) : O.tparts (.v (.tuple ds)) = some (ds.map .v) := id rfl
@[simp] theorem pathK_nil : pathK e [] = some [] := id rfl
@[simp] theorem pathK_cons {b : En → Option O} {bs : List (En → Option O)} : pathK e (b :: bs) = (match b e with
    | some (.v (.int k)) => (match pathK e bs with
      | some ks => some (k :: ks)
      | none => none)
    | _ => none) := id rfl
@[simp] theorem bC_ap (d : PyData) : bC d e = some (.v d) := id rfl
@[simp] theorem lAt_ap {bs : List (En → Option O)} : lAt i bs ms e = (match pathK e bs, (e[i]?).bind Sl.o?, ms e with
  | some ks, some o, some (xs, e1) => (match atL o ks with
    | some x => some (x :: xs, e1)
    | none => none)
  | _, _, _ => none) := id rfl
@[simp] theorem mUpK_ap {bs : List (En → Option O)} {f : List O → List O → Option (List O × O)} : mUpK i bs ms f e = (match pathK e bs, e[i]?, ms e with
  | some ks, some (.own o), some (ys, _) => (match atK o ks with
    | some (.l xs) => (match f xs ys with
      | some (xs', y) => (match setK o ks xs' with
        | some o' => some (y, e.set i (.own o'))
        | none => none)
      | none => none)
    | _ => none)
  | some ks, some (.pin o), some (ys, _) => (match atK o ks with
    | some (.l xs) => (match f xs ys with
      | some (xs', y) => (match setK o ks xs' with
        | some o' => some (y, e.set i (.pin o'))
        | none => none)
      | none => none)
    | _ => none)
  | _, _, _ => none) := id rfl
@[simp] theorem mSlK_ap {bs : List (En → Option O)} {lo hi : Option Int} : mSlK i bs lo hi e = (match pathK e bs, (e[i]?).bind Sl.o? with
  | some ks, some o => (match atL o ks with
    | some x => (match x.tparts with
      | some xs => (match O.allV (cutG xs lo hi) with
        | some ds => if HT.sIx xs.length 0 lo = 0 ∧ HT.sIx xs.length xs.length hi = xs.length then none else if ds.length ≤ sizeLine then some (.v (.tuple ds), e) else none
        | none => none)
      | none => none)
    | none => none)
  | _, _ => none) := id rfl
@[simp] theorem mRev_ap : mRev m e = (match m e with
  | some (x, e1) => (match x.lparts with
    | some xs => some (.l xs.reverse, e1)
    | none => none)
  | none => none) := id rfl
@[simp] theorem vOrT_ap : vOrT a b e = (match a e with
  | some (x, e1) => (match truO x with
    | some true => some (x, e1)
    | some false => b e1
    | none => none)
  | none => none) := id rfl
@[simp] theorem mChain_ap {f g : List PyData → Option PyData} : mChain f g ms m e = (match ms e with
  | some (xs, e1) => (match O.toDs xs with
    | some [x, y] => (match f [x, y] with
      | some (.bool true) => (match sV y with
        | some _ => mL g (lCons (mC y) (lCons m lNil)) e1
        | none => none)
      | some (.bool false) => some (.v (.bool false), e1)
      | _ => none)
    | _ => none)
  | none => none) := id rfl
@[simp] theorem atL_nil (o : O) : atL o [] = some o := id rfl
@[simp] theorem atK_nil (o : O) : atK o [] = some o := id rfl
end
end Dn

set_option Elab.async false
set_option linter.all false
set_option maxRecDepth 100000
set_option maxHeartbeats 4000000
namespace Dn
open PySem L2
/-! loops -/
section
variable {α : Type} {tg : Tg} {mt : MD Bool} {me : MD O} {vs : List Nat}
/-- a comprehension that leaves the slots as they are -/
theorem lc_map {enc : α → O} {f : α → O} {e : En} : ∀ (xs : List α), (∀ x ∈ xs, ∃ e1 e2 e3, asg tg (enc x) e = some e1 ∧ mt e1 = some (true, e2) ∧ me e2 = some (f x, e3) ∧ hide e3 vs = e) →
    lcL tg mt me vs (xs.map enc) e = some (xs.map f, e)
  | [], _ => rfl
  | x :: xs, h => by
    obtain ⟨e1, e2, e3, h1, h2, h3, h4⟩ := h x (List.mem_cons_self ..)
    have ih := lc_map xs fun y hy => h y (List.mem_cons_of_mem _ hy)
    simp only [List.map_cons, lcL, h1, h2, h3, h4, ih]
theorem lc_filter {enc : α → O} {f : α → O} {p : α → Bool} {e : En} : ∀ (xs : List α), (∀ x ∈ xs, ∃ e1 e2 e3, asg tg (enc x) e = some e1 ∧ mt e1 = some (p x, e2) ∧ (p x = true → me e2 = some (f x, e3) ∧ hide e3 vs = e) ∧ (p x = false → hide e2 vs = e)) →
    lcL tg mt me vs (xs.map enc) e = some ((xs.filter p).map f, e)
  | [], _ => rfl
  | x :: xs, h => by
    obtain ⟨e1, e2, e3, h1, h2, h3, h4⟩ := h x (List.mem_cons_self ..)
    have ih := lc_filter xs fun y hy => h y (List.mem_cons_of_mem _ hy)
    cases hp : p x with
    | true =>
      obtain ⟨h5, h6⟩ := h3 hp
      rw [hp] at h2
      simp only [List.map_cons, lcL, h1, h2, h5, h6, ih, List.filter_cons, hp, if_true]
    | false =>
      rw [hp] at h2
      simp only [List.map_cons, lcL, h1, h2, h4 hp, ih, List.filter_cons, hp]
      rfl
/-- a comprehension that moves a state -/
theorem lc_st {S β : Type} {enc : α → O} {E : S → En} {I : S → Prop} {R : α → β → Prop} {g : β → O} : ∀ (xs : List α) (s : S), I s → (∀ x ∈ xs, ∀ s, I s → ∃ y s' e1 e2 e3, asg tg (enc x) (E s) = some e1 ∧ mt e1 = some (true, e2) ∧ me e2 = some (g y, e3) ∧ hide e3 vs = E s' ∧ R x y ∧ I s') →
    ∃ ys s', lcL tg mt me vs (xs.map enc) (E s) = some (ys.map g, E s') ∧ I s' ∧ ys.length = xs.length ∧ ∀ p ∈ xs.zip ys, R p.1 p.2
  | [], s, hs, _ => ⟨[], s, rfl, hs, rfl, fun p hp => by simp at hp⟩
  | x :: xs, s, hs, h => by
    obtain ⟨y, s1, e1, e2, e3, h1, h2, h3, h4, h5, h6⟩ := h x (List.mem_cons_self ..) s hs
    obtain ⟨ys, s2, g1, g2, g3, g4⟩ := lc_st xs s1 h6 fun z hz => h z (List.mem_cons_of_mem _ hz)
    refine ⟨y :: ys, s2, by simp only [List.map_cons, lcL, h1, h2, h3, h4, g1], g2, by simp [g3], fun p hp => ?_⟩
    simp only [List.zip_cons_cons, List.mem_cons] at hp
    rcases hp with rfl | hp
    · exact h5
    · exact g4 p hp
variable {body : MS}
/-- a for that goes through -/
theorem for_fold {S : Type} {enc : α → O} {E : S → En} {step : S → α → S} {I : S → Prop} : ∀ (xs : List α) (s : S), I s → (∀ x ∈ xs, ∀ s, I s → I (step s x) ∧ ∃ e1, asg tg (enc x) (E s) = some e1 ∧ body e1 = some (.nx (E (step s x)))) →
    forL tg body (xs.map enc) (E s) = some (.nx (E (xs.foldl step s))) ∧ I (xs.foldl step s)
  | [], s, hs, _ => ⟨rfl, hs⟩
  | x :: xs, s, hs, h => by
    obtain ⟨h0, e1, h1, h2⟩ := h x (List.mem_cons_self ..) s hs
    obtain ⟨g1, g2⟩ := for_fold xs (step s x) h0 fun z hz => h z (List.mem_cons_of_mem _ hz)
    refine ⟨?_, g2⟩
    simp only [List.map_cons, forL, h1, h2, g1, List.foldl_cons]
/-- a for by an invariant of what is walked so far -/
theorem for_inv {S : Type} {enc : α → O} {E : S → En} (I : List α → S → Prop) {all : List α} : ∀ (xs pre : List α) (s : S), all = pre ++ xs → I pre s → (∀ pre x post s, all = pre ++ x :: post → I pre s → ∃ s' e1, asg tg (enc x) (E s) = some e1 ∧ body e1 = some (.nx (E s')) ∧ I (pre ++ [x]) s') →
    ∃ s', forL tg body (xs.map enc) (E s) = some (.nx (E s')) ∧ I all s'
  | [], pre, s, ha, hs, _ => ⟨s, rfl, by rw [ha, List.append_nil]; exact hs⟩
  | x :: xs, pre, s, ha, hs, h => by
    obtain ⟨s1, e1, h1, h2, h3⟩ := h pre x xs s ha hs
    obtain ⟨s2, g1, g2⟩ := for_inv I xs (pre ++ [x]) s1 (by rw [ha, List.append_assoc]; rfl) h3 h
    exact ⟨s2, by simp only [List.map_cons, forL, h1, h2, g1], g2⟩
/-- a for that may hand back from within -/
theorem for_ret {S : Type} {enc : α → O} {E : S → En} {step : S → α → S ⊕ O} {I : S → Prop} {er : S → α → En} : ∀ (xs : List α) (s : S), I s → (∀ x ∈ xs, ∀ s, I s → ∃ e1, asg tg (enc x) (E s) = some e1 ∧ (match step s x with | .inl s' => I s' ∧ body e1 = some (.nx (E s')) | .inr y => body e1 = some (.rt y (er s x)))) →
    (∃ s', I s' ∧ forL tg body (xs.map enc) (E s) = some (.nx (E s')) ∧ xs.foldl (fun (a : S ⊕ O) x => match a with | .inl s => step s x | .inr y => .inr y) (.inl s) = .inl s') ∨
    (∃ y e', forL tg body (xs.map enc) (E s) = some (.rt y e') ∧ xs.foldl (fun (a : S ⊕ O) x => match a with | .inl s => step s x | .inr y => .inr y) (.inl s) = .inr y ∧ ∃ s' x, e' = er s' x)
  | [], s, hs, _ => .inl ⟨s, hs, rfl, rfl⟩
  | x :: xs, s, hs, h => by
    obtain ⟨e1, h1, h2⟩ := h x (List.mem_cons_self ..) s hs
    cases hst : step s x with
    | inl s' =>
      rw [hst] at h2
      have ih := for_ret xs s' h2.1 fun z hz => h z (List.mem_cons_of_mem _ hz)
      simp only [List.map_cons, forL, h1, h2.2, List.foldl_cons, hst]
      exact ih
    | inr y =>
      rw [hst] at h2
      refine .inr ⟨y, er s x, ?_, ?_, s, x, rfl⟩
      · simp only [List.map_cons, forL, h1, h2]
      · simp only [List.foldl_cons, hst]
        clear h h1 h2
        induction xs with
        | nil => rfl
        | cons z zs ih => exact ih
end
/-- a while by a measure -/
theorem while_inv {S : Type} {E : S → En} {mc : MD Bool} {mb : MS} (I : S → Prop) (P : S → Prop) (μ : S → Nat) (h : ∀ s, I s → (P s ∧ mc (E s) = some (false, E s)) ∨ ∃ s', mc (E s) = some (true, E s) ∧ mb (E s) = some (.nx (E s')) ∧ I s' ∧ μ s' < μ s) :
    ∀ (n : Nat) (s : S), μ s ≤ n → I s → ∃ s', mWhile mc mb (E s) = some (.nx (E s')) ∧ I s' ∧ P s' := by
  have go : ∀ (n : Nat) (s : S), μ s ≤ n → I s → ∃ s', whileF mc mb (n + 1) (E s) = some (.nx (E s')) ∧ I s' ∧ P s' := by
    intro n
    induction n with
    | zero =>
      intro s hm hs
      rcases h s hs with ⟨h1, h2⟩ | ⟨s', h1, h2, h3, h4⟩
      · exact ⟨s, by simp only [whileF, h2], hs, h1⟩
      · omega
    | succ n ih =>
      intro s hm hs
      rcases h s hs with ⟨h1, h2⟩ | ⟨s', h1, h2, h3, h4⟩
      · exact ⟨s, by rw [whileF, h2], hs, h1⟩
      · obtain ⟨s2, g1, g2, g3⟩ := ih s' (by omega) h3
        refine ⟨s2, ?_, g2, g3⟩
        rw [whileF, h1]
        simp only [h2, g1]
  intro n s hm hs
  obtain ⟨s', h1, h2, h3⟩ := go n s hm hs
  exact ⟨s', mWhile_of h1, h2, h3⟩
/-! data -/
abbrev oi (n : Int) : O := .v (.int n)
@[simp] theorem toDs_map {α : Type} {f : α → O} {g : α → PyData} (h : ∀ x, (f x).toD = some (g x)) : ∀ xs : List α, O.toDs (xs.map f) = some (xs.map g)
  | [] => rfl
  | x :: xs => by simp only [List.map_cons, toDs_cons, h, toDs_map h xs]
@[simp] theorem toDs_vs (ds : List PyData) : O.toDs (ds.map .v) = some ds := by
  rw [toDs_map (g := id) fun _ => rfl, List.map_id]
@[simp] theorem toDs_oi (ns : List Int) : O.toDs (ns.map fun n => O.v (.int n)) = some (ns.map .int) := toDs_map (fun _ => rfl) ns
@[simp] theorem asInts_map : ∀ ns : List Int, asInts (ns.map .int) = some ns
  | [] => rfl
  | n :: ns => by simp only [List.map_cons, asInts, asInts_map ns]
@[simp] theorem asBools_map : ∀ ns : List Bool, asBools (ns.map .bool) = some ns
  | [] => rfl
  | n :: ns => by simp only [List.map_cons, asBools, asBools_map ns]
@[simp] theorem asStrs_map : ∀ ns : List Str, asStrs (ns.map .str) = some ns
  | [] => rfl
  | n :: ns => by simp only [List.map_cons, asStrs, asStrs_map ns]
@[simp] theorem asInts_nil : asInts [] = some [] := id rfl
@[simp] theorem asInts_cons (i : Int) (ds : List PyData) : asInts (.int i :: ds) = (match asInts ds with
    | some ns => some (i :: ns)
    | none => none) := id rfl
@[simp] theorem asBools_nil : asBools [] = some [] := id rfl
@[simp] theorem asBools_cons (i : Bool) (ds : List PyData) : asBools (.bool i :: ds) = (match asBools ds with
    | some ns => some (i :: ns)
    | none => none) := id rfl
@[simp] theorem asStrs_nil : asStrs [] = some [] := id rfl
@[simp] theorem asStrs_cons (i : Str) (ds : List PyData) : asStrs (.str i :: ds) = (match asStrs ds with
    | some ns => some (i :: ns)
    | none => none) := id rfl
@[simp] theorem toDs_mapv {α : Type} (g : α → PyData) (xs : List α) : O.toDs (xs.map fun x => O.v (g x)) = some (xs.map g) := toDs_map (fun _ => rfl) xs
@[simp] theorem asInts_mapf {α : Type} (g : α → Int) (xs : List α) : asInts (xs.map fun x => .int (g x)) = some (xs.map g) := by
  have := asInts_map (xs.map g)
  rw [List.map_map] at this
  exact this
@[simp] theorem asBools_mapf {α : Type} (g : α → Bool) (xs : List α) : asBools (xs.map fun x => .bool (g x)) = some (xs.map g) := by
  have := asBools_map (xs.map g)
  rw [List.map_map] at this
  exact this
@[simp] theorem asStrs_mapf {α : Type} (g : α → Str) (xs : List α) : asStrs (xs.map fun x => .str (g x)) = some (xs.map g) := by
  have := asStrs_map (xs.map g)
  rw [List.map_map] at this
  exact this
@[simp] theorem map_ov {α : Type} (g : α → PyData) (xs : List α) : List.map O.v (xs.map g) = xs.map fun x => O.v (g x) := by rw [List.map_map]; rfl
@[simp] theorem comp_ov {α : Type} (g : α → PyData) : (O.v ∘ g) = fun x => O.v (g x) := id rfl
@[simp] theorem toDs_int (ns : List Int) : O.toDs (ns.map fun n => O.v (.int n)) = some (ns.map .int) := toDs_mapv _ _
theorem zipO_map {α β : Type} (f : α → O) (g : β → O) : ∀ (xs : List α) (ys : List β), zipO (xs.map f) (ys.map g) = (xs.zip ys).map fun p => .t [f p.1, g p.2]
  | [], _ => rfl
  | _ :: _, [] => rfl
  | x :: xs, y :: ys => by simp only [List.map_cons, zipO, List.zip_cons_cons, zipO_map f g xs ys]
theorem enuO_map {α : Type} (f : α → O) : ∀ (n : Nat) (xs : List α), enuO n (xs.map f) = (xs.zipIdx n).map fun p => .t [oi (p.2 : Nat), f p.1]
  | _, [] => rfl
  | n, x :: xs => by simp only [List.map_cons, enuO, List.zipIdx_cons, enuO_map f (n + 1) xs]
@[simp] theorem fI2_ap (g : Int → Int → Option PyData) (i j : Int) : fI2 g [.int i, .int j] = g i j := id rfl
@[simp] theorem fI1_ap (g : Int → Option PyData) (i : Int) : fI1 g [.int i] = g i := id rfl
@[simp] theorem fSub_ap (i j : Int) : fSub [.int i, .int j] = some (.int (i - j)) := id rfl
theorem fMod_ap (i j : Int) : fMod [.int i, .int j] = if shut (decide (0 < j)) = true then some (.int (i % j)) else none := id rfl
@[simp] theorem fLt_ap (i j : Int) : fLt [.int i, .int j] = some (.bool (decide (i < j))) := id rfl
@[simp] theorem fLe_ap (i j : Int) : fLe [.int i, .int j] = some (.bool (decide (i ≤ j))) := id rfl
@[simp] theorem fGt_ap (i j : Int) : fGt [.int i, .int j] = some (.bool (decide (j < i))) := id rfl
@[simp] theorem fGe_ap (i j : Int) : fGe [.int i, .int j] = some (.bool (decide (j ≤ i))) := id rfl
@[simp] theorem fNeg_ap (i : Int) : fNeg [.int i] = some (.int (-i)) := id rfl
@[simp] theorem fAbs_ap (i : Int) : fAbs [.int i] = some (.int (if i < 0 then -i else i)) := id rfl
theorem fDiv_ap (i j : Int) : fDiv [.int i, .int j] = if shut (decide (CDivW i j)) = true then some (.int (i / j)) else none := id rfl
theorem fMul_ap (i j : Int) : fMul [.int i, .int j] = if shut (decide (CMul i j ∨ CMulW i j)) = true then some (.int (i * j)) else none := id rfl
@[simp] theorem fShl_s {i j : Int} (h0 : 0 ≤ j) (h1 : j ≤ 1000000) (h2 : i.natAbs < 18446744073709551616) : fShl [.int i, .int j] = some (.int (i * 2 ^ j.toNat)) := by
  show (if shut (decide (CPow i j)) = true then some (PyData.int (i * 2 ^ j.toNat)) else none) = _
  rw [shut_eq, if_pos (decide_eq_true ⟨h0, h1, h2⟩)]
@[simp] theorem fPow_s {i j : Int} (h0 : 0 ≤ j) (h1 : j ≤ 1000000) (h2 : i.natAbs < 18446744073709551616) : fPow [.int i, .int j] = some (.int (i ^ j.toNat)) := by
  show (if shut (decide (CPow i j)) = true then some (PyData.int (i ^ j.toNat)) else none) = _
  rw [shut_eq, if_pos (decide_eq_true ⟨h0, h1, h2⟩)]
@[simp] theorem fShr_s {i j : Int} (h0 : 0 ≤ j) : fShr [.int i, .int j] = some (.int (i / 2 ^ j.toNat)) := by
  show (if shut (decide (0 ≤ j)) = true then some (PyData.int (i / 2 ^ j.toNat)) else none) = _
  rw [shut_eq, if_pos (decide_eq_true h0)]
@[simp] theorem fMod_s {i j : Int} (h : 0 < j) : fMod [.int i, .int j] = some (.int (i % j)) := by rw [fMod_ap, shut_eq, if_pos (decide_eq_true h)]
@[simp] theorem fDiv_s {i j : Int} (h : 0 < j) (h2 : j < 18446744073709551616) : fDiv [.int i, .int j] = some (.int (i / j)) := by
  rw [fDiv_ap, shut_eq, if_pos]
  refine decide_eq_true ⟨h, Nat.lt_of_lt_of_le ((Nat.log2_lt (by omega)).mpr (show j.natAbs < 2 ^ 64 by omega)) (by decide)⟩
@[simp] theorem fMul_l {i j : Int} (h : -18446744073709551616 < i) (h2 : i < 18446744073709551616) : fMul [.int i, .int j] = some (.int (i * j)) := by
  rw [fMul_ap, shut_eq, if_pos (decide_eq_true (.inl (.inl ⟨h, h2⟩)))]
@[simp] theorem fMul_r {i j : Int} (h : -18446744073709551616 < j) (h2 : j < 18446744073709551616) : fMul [.int i, .int j] = some (.int (i * j)) := by
  rw [fMul_ap, shut_eq, if_pos (decide_eq_true (.inl (.inr ⟨h, h2⟩)))]
@[simp] theorem fMul_ml {a m j : Int} (h : 0 < m) (h2 : m < 18446744073709551616) : fMul [.int (a % m), .int j] = some (.int (a % m * j)) := by
  have h3 := Int.emod_nonneg a (show m ≠ 0 by omega)
  have h4 := Int.emod_lt_of_pos a h
  exact fMul_l (by omega) (by omega)
@[simp] theorem fAll_ap (ds : List PyData) : fAll [.list ds] = (match asBools ds with
    | some ns => some (.bool (ns.all id))
    | _ => none) := id rfl
@[simp] theorem fAny_ap (ds : List PyData) : fAny [.list ds] = (match asBools ds with
    | some ns => some (.bool (ns.any id))
    | _ => none) := id rfl
@[simp] theorem fSum_ap (ds : List PyData) : fSum [.list ds] = (match asInts ds with
    | some ns => some (.int ns.sum)
    | _ => none) := id rfl
@[simp] theorem fLen_l (ds : List PyData) : fLen [.list ds] = some (.int ds.length) := id rfl
@[simp] theorem fLen_t (ds : List PyData) : fLen [.tuple ds] = some (.int ds.length) := id rfl
@[simp] theorem fMax_2 (i j : Int) : fMax [.int i, .int j] = some (.int (if j > i then j else i)) := id rfl
@[simp] theorem fMin_2 (i j : Int) : fMin [.int i, .int j] = some (.int (if j < i then j else i)) := id rfl
@[simp] theorem fMax_l (ds : List PyData) : fMax [.list ds] = (match asInts ds with
    | some (n :: ns) => some (.int (maxL n ns))
    | _ => none) := id rfl
@[simp] theorem fMin_l (ds : List PyData) : fMin [.list ds] = (match asInts ds with
    | some (n :: ns) => some (.int (minL n ns))
    | _ => none) := id rfl
theorem fEq_ap (d e : PyData) : fEq [d, e] = if SeqAt.shaped d && SeqAt.shaped e then some (.bool (PyData.eqv d e)) else none := id rfl
theorem fNe_ap (d e : PyData) : fNe [d, e] = if SeqAt.shaped d && SeqAt.shaped e then some (.bool (!PyData.eqv d e)) else none := id rfl
@[simp] theorem fIsN_ap (d : PyData) : fIsN [d, .none] = some (.bool (isN d)) := id rfl
@[simp] theorem fNotN_ap (d : PyData) : fNotN [d, .none] = some (.bool (!isN d)) := id rfl
@[simp] theorem isN_none : isN .none = true := id rfl
@[simp] theorem isN_int (i : Int) : isN (.int i) = false := id rfl
@[simp] theorem isN_list (ds : List PyData) : isN (.list ds) = false := id rfl
@[simp] theorem isN_tuple (ds : List PyData) : isN (.tuple ds) = false := id rfl
@[simp] theorem isN_str (x : Str) : isN (.str x) = false := id rfl
@[simp] theorem addO_i (i j : Int) : addO [.v (.int i), .v (.int j)] = some (.v (.int (i + j))) := id rfl
@[simp] theorem addO_ll (xs ys : List O) : addO [.l xs, .l ys] = if xs.length + ys.length ≤ sizeLine then some (.l (xs ++ ys)) else none := id rfl
@[simp] theorem addO_vl (xs : List PyData) (ys : List O) : addO [.v (.list xs), .l ys] = if (xs.map O.v).length + ys.length ≤ sizeLine then some (.l (xs.map .v ++ ys)) else none := id rfl
@[simp] theorem addO_lv (xs : List O) (ys : List PyData) : addO [.l xs, .v (.list ys)] = if xs.length + (ys.map O.v).length ≤ sizeLine then some (.l (xs ++ ys.map .v)) else none := id rfl
@[simp] theorem addO_vv (xs ys : List PyData) : addO [.v (.list xs), .v (.list ys)] = if (xs.map O.v).length + (ys.map O.v).length ≤ sizeLine then some (.l (xs.map .v ++ ys.map .v)) else none := id rfl
@[simp] theorem addO_s (a b : Str) : addO [.v (.str a), .v (.str b)] = if a.length + b.length ≤ sizeLine then some (.v (.str (a ++ b))) else none := id rfl
@[simp] theorem lstO_ap (xs : List O) : lstO xs = if xs.length ≤ sizeLine then some (.l xs) else none := id rfl
@[simp] theorem tupO_ap (xs : List O) : tupO xs = if xs.length ≤ sizeLine then (match O.allV xs with
  | some ds => some (.v (.tuple ds))
  | none => some (.t xs)) else none := id rfl
@[simp] theorem allV_nil : O.allV [] = some [] := id rfl
@[simp] theorem allV_v (d : PyData) (xs : List O) : O.allV (.v d :: xs) = (match O.allV xs with
    | some ds => some (d :: ds)
    | none => none) := id rfl
@[simp] theorem allV_l (l xs : List O) : O.allV (.l l :: xs) = none := id rfl
@[simp] theorem allV_t (l xs : List O) : O.allV (.t l :: xs) = none := id rfl
@[simp] theorem allV_map {α : Type} (g : α → PyData) : ∀ xs : List α, O.allV (xs.map fun x => .v (g x)) = some (xs.map g)
  | [] => rfl
  | x :: xs => by rw [List.map_cons, allV_v, allV_map g xs]; rfl
@[simp] theorem listO_l (xs : List O) : listO [.l xs] = if xs.length ≤ sizeLine then some (.l xs) else none := id rfl
@[simp] theorem listO_v (ds : List PyData) : listO [.v (.list ds)] = if (ds.map O.v).length ≤ sizeLine then some (.l (ds.map .v)) else none := id rfl
@[simp] theorem listO_tv (ds : List PyData) : listO [.v (.tuple ds)] = if (ds.map O.v).length ≤ sizeLine then some (.l (ds.map .v)) else none := id rfl
@[simp] theorem tupleO_l (xs : List O) : tupleO [.l xs] = tupO xs := id rfl
@[simp] theorem tupleO_v (ds : List PyData) : tupleO [.v (.list ds)] = tupO (ds.map .v) := id rfl
@[simp] theorem uApp_ap (xs : List O) (y : O) : uApp xs [y] = if xs.length < sizeLine then some (xs ++ [y], .v .none) else none := id rfl
@[simp] theorem uExt_l (xs ys : List O) : uExt xs [.l ys] = if xs.length + ys.length ≤ sizeLine then some (xs ++ ys, .v .none) else none := id rfl
@[simp] theorem uExt_v (xs : List O) (ys : List PyData) : uExt xs [.v (.list ys)] = if xs.length + (ys.map O.v).length ≤ sizeLine then some (xs ++ ys.map .v, .v .none) else none := id rfl
@[simp] theorem uPop0_ap (x : O) (xs : List O) : uPop0 (x :: xs) [.v (.int 0)] = some (xs, x) := id rfl
@[simp] theorem ixO_vl (ds : List PyData) (i : Int) : ixO [.v (.list ds), .v (.int i)] = atI ds i := id rfl
@[simp] theorem ixO_vt (ds : List PyData) (i : Int) : ixO [.v (.tuple ds), .v (.int i)] = atI ds i := id rfl
@[simp] theorem ixO_l (os : List O) (i : Int) : ixO [.l os, .v (.int i)] = (match atI os i with
    | some (.v d) => some d
    | _ => none) := id rfl
@[simp] theorem ixO_t (os : List O) (i : Int) : ixO [.t os, .v (.int i)] = (match atI os i with
    | some (.v d) => some d
    | _ => none) := id rfl
theorem line_big : (1000000 : Nat) ≤ sizeLine := by decide
@[simp] theorem sizeLine_eq : sizeLine = 16777216 := by decide
end Dn

set_option Elab.async false
set_option linter.all false
set_option maxRecDepth 100000
set_option maxHeartbeats 4000000
namespace Dn
open PySem L2
/-! shapes and equality of data -/
@[simp] theorem shaped_eq (d : PyData) : SeqAt.shaped d = (d.canLay0 && decide (d.depth ≤ 64)) := id rfl
@[simp] theorem canLay_none : PyData.canLay0 .none = true := id rfl
@[simp] theorem canLay_bool (b : Bool) : PyData.canLay0 (.bool b) = true := id rfl
@[simp] theorem canLay_int (i : Int) : PyData.canLay0 (.int i) = true := id rfl
@[simp] theorem canLay_str (x : Str) : PyData.canLay0 (.str x) = PyData.strOk x := id rfl
@[simp] theorem canLay_list (ds : List PyData) : PyData.canLay0 (.list ds) = ds.all PyData.canLay0 := by
  show PyData.canLayAll0 ds = _
  induction ds with
  | nil => rfl
  | cons d ds ih => show (d.canLay0 && PyData.canLayAll0 ds) = _; rw [ih]; rfl
@[simp] theorem canLay_tuple (ds : List PyData) : PyData.canLay0 (.tuple ds) = ds.all PyData.canLay0 := canLay_list ds
@[simp] theorem depth_none : PyData.depth .none = 0 := id rfl
@[simp] theorem depth_bool (b : Bool) : PyData.depth (.bool b) = 0 := id rfl
@[simp] theorem depth_int (i : Int) : PyData.depth (.int i) = 0 := id rfl
@[simp] theorem depth_str (x : Str) : PyData.depth (.str x) = 0 := id rfl
@[simp] theorem depthAll_le (n : Nat) : ∀ ds : List PyData, PyData.depthAll ds ≤ n ↔ ∀ d ∈ ds, d.depth ≤ n
  | [] => by simp [PyData.depthAll]
  | d :: ds => by
    have ih := depthAll_le n ds
    show max (PyData.depth d) (PyData.depthAll ds) ≤ n ↔ _
    simp only [List.mem_cons, forall_eq_or_imp, ← ih]
    omega
@[simp] theorem depth_list (n : Nat) (ds : List PyData) : PyData.depth (.list ds) ≤ n + 1 ↔ ∀ d ∈ ds, d.depth ≤ n := by
  show PyData.depthAll ds + 1 ≤ n + 1 ↔ _
  rw [← depthAll_le]; omega
@[simp] theorem depth_tuple (n : Nat) (ds : List PyData) : PyData.depth (.tuple ds) ≤ n + 1 ↔ ∀ d ∈ ds, d.depth ≤ n := depth_list n ds
/-- no truths, no dicts, texts of the kind: here == is = -/
def nb : PyData → Nat → Bool
  | .none, _ => true
  | .int _, _ => true
  | .str x, _ => PyData.strOk x
  | .list ds, n + 1 => ds.attach.all fun d => nb d.1 n
  | .tuple ds, n + 1 => ds.attach.all fun d => nb d.1 n
  | _, _ => false
@[simp] theorem nb_none (n : Nat) : nb .none n = true := by unfold nb; rfl
@[simp] theorem nb_int (i : Int) (n : Nat) : nb (.int i) n = true := by unfold nb; rfl
@[simp] theorem nb_str (x : Str) (n : Nat) : nb (.str x) n = PyData.strOk x := by unfold nb; rfl
@[simp] theorem nb_list (ds : List PyData) (n : Nat) : nb (.list ds) (n + 1) = ds.all fun d => nb d n := by
  rw [nb]
  simp [List.all_eq, List.attach]
@[simp] theorem nb_tuple (ds : List PyData) (n : Nat) : nb (.tuple ds) (n + 1) = ds.all fun d => nb d n := by
  rw [nb]
  simp [List.all_eq, List.attach]
theorem nb_shape : ∀ (n : Nat) (d : PyData), nb d n = true → d.canLay0 = true ∧ d.depth ≤ n
  | n, .none, _ => ⟨rfl, Nat.zero_le _⟩
  | n, .int i, _ => ⟨rfl, Nat.zero_le _⟩
  | n, .str x, h => ⟨by simpa using h, Nat.zero_le _⟩
  | 0, .list ds, h => by simp [nb] at h
  | 0, .tuple ds, h => by simp [nb] at h
  | n + 1, .list ds, h => by
    rw [nb_list, List.all_eq_true] at h
    refine ⟨?_, (depth_list n ds).mpr fun d hd => (nb_shape n d (h d hd)).2⟩
    rw [canLay_list, List.all_eq_true]
    exact fun d hd => (nb_shape n d (h d hd)).1
  | n + 1, .tuple ds, h => by
    rw [nb_tuple, List.all_eq_true] at h
    refine ⟨?_, (depth_tuple n ds).mpr fun d hd => (nb_shape n d (h d hd)).2⟩
    rw [canLay_tuple, List.all_eq_true]
    exact fun d hd => (nb_shape n d (h d hd)).1
  | n, .bool b, h => by cases n <;> simp [nb] at h
  | n, .dict _, h => by cases n <;> simp [nb] at h
theorem eqvAll_iff {n : Nat} (ih : ∀ d e : PyData, nb d n = true → nb e n = true → (PyData.eqv d e = true ↔ d = e)) : ∀ ds es : List PyData, (∀ d ∈ ds, nb d n = true) → (∀ d ∈ es, nb d n = true) → (PyData.eqvAll ds es = true ↔ ds = es)
  | [], [], _, _ => by simp [PyData.eqvAll]
  | [], _ :: _, _, _ => by simp [PyData.eqvAll]
  | _ :: _, [], _, _ => by simp [PyData.eqvAll]
  | d :: ds, e :: es, h1, h2 => by
    have i1 := ih d e (h1 d (List.mem_cons_self ..)) (h2 e (List.mem_cons_self ..))
    have i2 := eqvAll_iff ih ds es (fun x hx => h1 x (List.mem_cons_of_mem _ hx)) (fun x hx => h2 x (List.mem_cons_of_mem _ hx))
    simp only [PyData.eqvAll, Bool.and_eq_true, i1, i2, List.cons.injEq]
theorem eqv_iff : ∀ (n : Nat) (d e : PyData), nb d n = true → nb e n = true → (PyData.eqv d e = true ↔ d = e)
  | n, .none, e, _, h2 => by cases e <;> simp [PyData.eqv]
  | n, .int i, e, _, h2 => by cases e <;> simp [PyData.eqv]; simp [nb] at h2
  | n, .str x, e, _, h2 => by cases e <;> simp [PyData.eqv]
  | 0, .list ds, e, h, _ => by simp [nb] at h
  | 0, .tuple ds, e, h, _ => by simp [nb] at h
  | n + 1, .list ds, e, h1, h2 => by
    cases e with
    | list es =>
      rw [nb_list, List.all_eq_true] at h1 h2
      have := eqvAll_iff (eqv_iff n) ds es h1 h2
      simp only [PyData.eqv, this, PyData.list.injEq]
    | _ => simp [PyData.eqv]
  | n + 1, .tuple ds, e, h1, h2 => by
    cases e with
    | tuple es =>
      rw [nb_tuple, List.all_eq_true] at h1 h2
      have := eqvAll_iff (eqv_iff n) ds es h1 h2
      simp only [PyData.eqv, this, PyData.tuple.injEq]
    | _ => simp [PyData.eqv]
  | n, .bool b, _, h, _ => by cases n <;> simp [nb] at h
  | n, .dict _, _, h, _ => by cases n <;> simp [nb] at h
/-- == and != of plain data -/
theorem fEq_nb {d e : PyData} (n : Nat) (hn : n ≤ 64) (h1 : nb d n = true) (h2 : nb e n = true) [Decidable (d = e)] : fEq [d, e] = some (.bool (decide (d = e))) := by
  obtain ⟨a1, a2⟩ := nb_shape n d h1
  obtain ⟨b1, b2⟩ := nb_shape n e h2
  have : PyData.eqv d e = decide (d = e) := by
    rw [Bool.eq_iff_iff, eqv_iff n d e h1 h2, decide_eq_true_eq]
  simp [fEq_ap, fNe_ap, a1, b1, this, Nat.le_trans a2 hn, Nat.le_trans b2 hn]
theorem fNe_nb {d e : PyData} (n : Nat) (hn : n ≤ 64) (h1 : nb d n = true) (h2 : nb e n = true) [Decidable (d = e)] : fNe [d, e] = some (.bool (!decide (d = e))) := by
  obtain ⟨a1, a2⟩ := nb_shape n d h1
  obtain ⟨b1, b2⟩ := nb_shape n e h2
  have : PyData.eqv d e = decide (d = e) := by
    rw [Bool.eq_iff_iff, eqv_iff n d e h1 h2, decide_eq_true_eq]
  simp [fEq_ap, fNe_ap, a1, b1, this, Nat.le_trans a2 hn, Nat.le_trans b2 hn]
theorem fNe_same {d : PyData} (n : Nat) (hn : n ≤ 64) (h1 : nb d n = true) : fNe [d, d] = some (.bool false) := by
  obtain ⟨a1, a2⟩ := nb_shape n d h1
  have : PyData.eqv d d = true := (eqv_iff n d d h1 h1).mpr rfl
  simp [fEq_ap, fNe_ap, a1, this, Nat.le_trans a2 hn]
theorem fEq_same {d : PyData} (n : Nat) (hn : n ≤ 64) (h1 : nb d n = true) : fEq [d, d] = some (.bool true) := by
  obtain ⟨a1, a2⟩ := nb_shape n d h1
  have : PyData.eqv d d = true := (eqv_iff n d d h1 h1).mpr rfl
  simp [fEq_ap, fNe_ap, a1, this, Nat.le_trans a2 hn]
theorem map_int_inj (a b : List Int) : a.map PyData.int = b.map PyData.int ↔ a = b :=
  ⟨fun h => by
    have := congrArg asInts h
    simpa using this, fun h => by rw [h]⟩
@[simp] theorem fEq_ints (a b : List Int) : fEq [.list (a.map .int), .list (b.map .int)] = some (.bool (decide (a = b))) := by
  have : Decidable (PyData.list (a.map .int) = .list (b.map .int)) := decidable_of_iff (a = b) (by simp [map_int_inj])
  rw [fEq_nb 1 (by decide) (by simp) (by simp)]
  simp [map_int_inj]
@[simp] theorem fNe_ints (a b : List Int) : fNe [.list (a.map .int), .list (b.map .int)] = some (.bool (!decide (a = b))) := by
  have : Decidable (PyData.list (a.map .int) = .list (b.map .int)) := decidable_of_iff (a = b) (by simp [map_int_inj])
  rw [fNe_nb 1 (by decide) (by simp) (by simp)]
  simp [map_int_inj]
@[simp] theorem fEq_nil (a : List Int) : fEq [.list (a.map .int), .list []] = some (.bool (decide (a = []))) := fEq_ints a []
@[simp] theorem fNe_nil (a : List Int) : fNe [.list (a.map .int), .list []] = some (.bool (!decide (a = []))) := fNe_ints a []
@[simp] theorem fEq_i (i j : Int) : fEq [.int i, .int j] = some (.bool (decide (i = j))) := by simp [fEq_ap, PyData.eqv]; rfl
@[simp] theorem fNe_i (i j : Int) : fNe [.int i, .int j] = some (.bool (!decide (i = j))) := by simp [fNe_ap, PyData.eqv]; rfl
@[simp] theorem fEq_b (i j : Bool) : fEq [.bool i, .bool j] = some (.bool (i == j)) := by simp [fEq_ap, PyData.eqv]
@[simp] theorem fNe_b (i j : Bool) : fNe [.bool i, .bool j] = some (.bool (!(i == j))) := by simp [fNe_ap, PyData.eqv]
/-! items -/
@[simp] theorem atI_map {α β : Type} (f : α → β) (xs : List α) (i : Int) : atI (xs.map f) i = (atI xs i).map f := by
  unfold atI
  rw [List.length_map]
  cases ixN xs.length i with
  | none => rfl
  | some j => simp
theorem atI_nat {α : Type} {xs : List α} {i : Int} {j : Nat} {x : α} (h0 : i = (j : Int)) (h : xs[j]? = some x) : atI xs i = some x := by
  subst h0
  have hj := (List.getElem?_eq_some_iff.mp h).1
  unfold atI ixN
  rw [if_pos (Int.natCast_nonneg j), if_pos (by omega)]
  simpa using h
theorem atI_in {α : Type} (xs : List α) {i : Int} (h0 : 0 ≤ i) (h1 : i < xs.length) : ∃ x, atI xs i = some x ∧ xs[i.toNat]? = some x := by
  have hj : i.toNat < xs.length := by omega
  refine ⟨xs[i.toNat], ?_, List.getElem?_eq_getElem hj⟩
  exact atI_nat (j := i.toNat) (by omega) (List.getElem?_eq_getElem hj)
theorem ixN_in {n : Nat} {i : Int} (h0 : 0 ≤ i) (h1 : i < n) : ixN n i = some i.toNat := by
  unfold ixN
  rw [if_pos h0, if_pos h1]
@[simp] theorem atI_0 {α : Type} (x : α) (xs : List α) : atI (x :: xs) 0 = some x := atI_nat (j := 0) rfl rfl
@[simp] theorem atI_1 {α : Type} (x y : α) (xs : List α) : atI (x :: y :: xs) 1 = some y := atI_nat (j := 1) rfl rfl
@[simp] theorem atI_2 {α : Type} (x y z : α) (xs : List α) : atI (x :: y :: z :: xs) 2 = some z := atI_nat (j := 2) rfl rfl
@[simp] theorem atI_3 {α : Type} (x y z u : α) (xs : List α) : atI (x :: y :: z :: u :: xs) 3 = some u := atI_nat (j := 3) rfl rfl
theorem rng_map (lo : Int) (n : Nat) : rngO lo n = (List.range n).map fun (k : Nat) => O.v (.int (lo + (k : Int))) := id rfl
@[simp] theorem rng0 (n : Nat) : rngO 0 n = (List.range n).map fun (k : Nat) => O.v (.int (k : Int)) := by
  rw [rng_map]
  simp
@[simp] theorem rngO_len (lo : Int) (n : Nat) : (rngO lo n).length = n := by simp [rng_map]
theorem forL_cong {tg : Tg} {b : MS} {os os' : List O} {e e' : En} (h1 : os = os') (h2 : e = e') : forL tg b os e = forL tg b os' e' := by rw [h1, h2]
theorem set_oi (xs : List Int) (j : Nat) (y : Int) : (xs.map oi).set j (oi y) = (xs.set j y).map oi := by simp [List.map_set]
theorem mul_s {i j : Int} (h : -(2 ^ 64) < j ∧ j < 2 ^ 64) : CMul i j ∨ CMulW i j := .inl (.inr h)
theorem mul_s' {i j : Int} (h : -(2 ^ 64) < i ∧ i < 2 ^ 64) : CMul i j ∨ CMulW i j := .inl (.inl h)
@[simp] theorem toDs_append : ∀ xs ys : List O, O.toDs (xs ++ ys) = (match O.toDs xs, O.toDs ys with
    | some a, some b => some (a ++ b)
    | _, _ => none)
  | [], ys => by
    rw [List.nil_append, toDs_nil]
    cases O.toDs ys <;> rfl
  | x :: xs, ys => by
    rw [List.cons_append, toDs_cons, toDs_cons, toDs_append xs ys]
    cases O.toD x <;> cases O.toDs xs <;> cases O.toDs ys <;> rfl
@[simp] theorem allV_append : ∀ xs ys : List O, O.allV (xs ++ ys) = (match O.allV xs, O.allV ys with
    | some a, some b => some (a ++ b)
    | _, _ => none)
  | [], ys => by
    rw [List.nil_append, allV_nil]
    cases O.allV ys <;> rfl
  | x :: xs, ys => by
    rw [List.cons_append]
    cases x with
    | v d =>
      rw [allV_v, allV_v, allV_append xs ys]
      cases O.allV xs <;> cases O.allV ys <;> rfl
    | _ => rfl
theorem atI_getD {α : Type} (xs : List α) (d : α) {k : Nat} (h : k < xs.length) : atI xs (k : Int) = some (xs.getD k d) :=
  atI_nat rfl (by rw [List.getD_eq_getElem?_getD, List.getElem?_eq_getElem h]; rfl)
theorem range_zip {α β γ : Type} (f : α → β → γ) (w : List α) (c : List β) (x : α) (y : β) {n : Nat} (hw : w.length = n) (hc : c.length = n) : (List.range n).map (fun k => f (w.getD k x) (c.getD k y)) = (w.zip c).map fun p => f p.1 p.2 := by
  apply List.ext_getElem
  · simp [hw, hc]
  · intro i h1 h2
    simp at h1
    simp [List.getD_eq_getElem?_getD, hw, hc, h1]
theorem range_get {α γ : Type} (f : α → γ) (w : List α) (x : α) {n : Nat} (hw : w.length = n) : (List.range n).map (fun k => f (w.getD k x)) = w.map f := by
  apply List.ext_getElem
  · simp [hw]
  · intro i h1 h2
    simp at h1
    simp [List.getD_eq_getElem?_getD, hw, h1]
/-- comprehensions over one name, whatever the slots -/
theorem set_no {e : En} {i : Nat} {x : Sl} (hi : e[i]? = some .no) : (e.set i x).set i .no = e := by
  rw [List.set_set, set_self hi]
theorem set_get {e : En} {i : Nat} {x s : Sl} (hi : e[i]? = some s) : (e.set i x)[i]? = some x := List.getElem?_set_self (List.getElem?_eq_some_iff.mp hi).1
theorem lc_map1 {α : Type} {i : Nat} {me : MD O} {enc f : α → O} {e : En} (hi : e[i]? = some .no) (xs : List α) (h : ∀ x ∈ xs, ∀ e' : En, e'[i]? = some (.own (enc x)) → (∀ j, ¬ j = i → e'[j]? = e[j]?) → me e' = some (f x, e')) : lcL (.n i) mYes me [i] (xs.map enc) e = some (xs.map f, e) := by
  refine lc_map xs fun x hx => ⟨e.set i (.own (enc x)), _, _, ?_, rfl, h x hx _ (set_get hi) (fun j hj => List.getElem?_set_ne fun z => hj z.symm), ?_⟩
  · simp [hi]
  · exact set_no hi
theorem lc_filter1 {α : Type} {i : Nat} {mt : MD Bool} {me : MD O} {enc f : α → O} {p : α → Bool} {e : En} (hi : e[i]? = some .no) (xs : List α) (h : ∀ x ∈ xs, ∀ e' : En, e'[i]? = some (.own (enc x)) → (∀ j, ¬ j = i → e'[j]? = e[j]?) → mt e' = some (p x, e') ∧ (p x = true → me e' = some (f x, e'))) : lcL (.n i) mt me [i] (xs.map enc) e = some ((xs.filter p).map f, e) := by
  refine lc_filter xs fun x hx => ?_
  obtain ⟨h1, h2⟩ := h x hx (e.set i (.own (enc x))) (set_get hi) (fun j hj => List.getElem?_set_ne fun z => hj z.symm)
  refine ⟨e.set i (.own (enc x)), e.set i (.own (enc x)), e.set i (.own (enc x)), ?_, h1, fun hp => ⟨h2 hp, set_no hi⟩, fun _ => set_no hi⟩
  simp [hi]
def reps (n : Nat) (x : Int) : List Int := List.replicate n x
theorem reps_eq {α : Type} (w : List α) (x : Int) : (w.map fun _ => x) = reps w.length x := by
  unfold reps
  induction w with
  | nil => rfl
  | cons a w ih => rw [List.map_cons, ih]; rfl
@[simp] theorem reps_len (n : Nat) (x : Int) : (reps n x).length = n := by simp [reps]
@[simp] theorem rep_oi {x n : Int} (h0 : 0 ≤ n) (h : n < 1000) : repO [.l [.v (.int x)], .v (.int n)] = some (.l ((reps n.toNat x).map oi)) := by
  have e : (List.replicate n.toNat [PyData.int x]).flatten.map O.v = (reps n.toNat x).map oi := by
    unfold reps
    induction n.toNat with
    | zero => rfl
    | succ k ih => rw [List.replicate_succ, List.flatten_cons, List.map_append, ih]; rfl
  rw [repO_eq]
  show (if -(2 ^ 63) ≤ n ∧ n < 2 ^ 63 ∧ 1 * n.toNat ≤ sizeLine then some (O.l ((List.replicate n.toNat [PyData.int x]).flatten.map .v)) else none) = _
  rw [e, if_pos ⟨by omega, by omega, by rw [sizeLine_eq]; omega⟩]
theorem ixN_nat {n k : Nat} (h : k < n) : ixN n (k : Int) = some k := by
  rw [ixN_in (by omega) (by omega)]; simp
theorem atL_l {xs : List O} {k : Nat} {x : O} {ks : List Int} (h : xs[k]? = some x) : atL (.l xs) ((k : Int) :: ks) = atL x ks := by
  have hk := (List.getElem?_eq_some_iff.mp h).1
  show (match ixN xs.length (k : Int) with | some j => (match xs[j]? with | some x => atL x ks | none => none) | none => none) = _
  rw [ixN_nat hk]
  simp only [h]
theorem atK_l {xs : List O} {k : Nat} {x : O} {ks : List Int} (h : xs[k]? = some x) : atK (.l xs) ((k : Int) :: ks) = atK x ks := by
  have hk := (List.getElem?_eq_some_iff.mp h).1
  show (match ixN xs.length (k : Int) with | some j => (match xs[j]? with | some x => atK x ks | none => none) | none => none) = _
  rw [ixN_nat hk]
  simp only [h]
theorem atL_t {xs : List O} {k : Nat} {x : O} {ks : List Int} (h : xs[k]? = some x) : atL (.t xs) ((k : Int) :: ks) = atL x ks := atL_l h
theorem atK_t {xs : List O} {k : Nat} {x : O} {ks : List Int} (h : xs[k]? = some x) : atK (.t xs) ((k : Int) :: ks) = atK x ks := atK_l h
theorem setK_l {xs ys : List O} {k : Nat} {x x' : O} {ks : List Int} (h : xs[k]? = some x) (h2 : setK x ks ys = some x') : setK (.l xs) ((k : Int) :: ks) ys = some (.l (xs.set k x')) := by
  have hk := (List.getElem?_eq_some_iff.mp h).1
  rw [setK]
  simp only [O.kids, ixN_nat hk, h, h2, O.withKids]
theorem setK_t {xs ys : List O} {k : Nat} {x x' : O} {ks : List Int} (h : xs[k]? = some x) (h2 : setK x ks ys = some x') : setK (.t xs) ((k : Int) :: ks) ys = some (.t (xs.set k x')) := by
  have hk := (List.getElem?_eq_some_iff.mp h).1
  rw [setK]
  simp only [O.kids, ixN_nat hk, h, h2, O.withKids]
@[simp] theorem setK_nil (xs ys : List O) : setK (.l xs) [] ys = some (.l ys) := id rfl
/-- a list of which the first k are changed -/
def mid2 {α β : Type} (f g : α → β) (xs : List α) (k : Nat) : List β := (xs.take k).map f ++ (xs.drop k).map g
theorem mid2_get {α β : Type} (f g : α → β) {xs : List α} {k : Nat} {x : α} (h : xs[k]? = some x) : (mid2 f g xs k)[k]? = some (g x) := by
  have hk := (List.getElem?_eq_some_iff.mp h).1
  unfold mid2
  rw [List.getElem?_append_right (by simp; omega)]
  simp only [List.length_map, List.length_take, Nat.min_eq_left (Nat.le_of_lt hk), Nat.sub_self, List.getElem?_map, List.getElem?_drop, Nat.add_zero, h]
  rfl
theorem mid2_set {α β : Type} (f g : α → β) {xs : List α} {k : Nat} {x : α} (h : xs[k]? = some x) : (mid2 f g xs k).set k (f x) = mid2 f g xs (k + 1) := by
  have hk := (List.getElem?_eq_some_iff.mp h).1
  have hx := (List.getElem?_eq_some_iff.mp h).2
  unfold mid2
  rw [List.set_append_right _ _ (by simp; omega), List.take_succ_eq_append_getElem hk, List.drop_eq_getElem_cons hk]
  simp only [List.length_map, List.length_take, Nat.min_eq_left (Nat.le_of_lt hk), Nat.sub_self, List.map_cons, List.set_cons_zero, List.map_append, List.map_nil, List.append_assoc, hx]
  rfl
@[simp] theorem mid2_0 {α β : Type} (f g : α → β) (xs : List α) : mid2 f g xs 0 = xs.map g := by simp [mid2]
@[simp] theorem mid2_all {α β : Type} (f g : α → β) (xs : List α) : mid2 f g xs xs.length = xs.map f := by simp [mid2]
@[simp] theorem mid2_len {α β : Type} (f g : α → β) (xs : List α) (k : Nat) : (mid2 f g xs k).length = xs.length := by simp [mid2]; omega
end Dn

set_option Elab.async false
set_option linter.all false
set_option maxRecDepth 100000
set_option maxHeartbeats 4000000
namespace Dn
open PySem L2
section
variable {m a b : MD O} {ms : MD (List O)} {c c' : MD Bool} {t u : MS} {e : En} {i : Nat} {f : List PyData → Option PyData}
@[simp] theorem mDnT_ap : mDnT e = some (.dt [], e) := id rfl
@[simp] theorem mDnK_ap : mDnK e = some (.dk [], e) := id rfl
@[simp] theorem mDget_ap {mk : MD O} : mDget i mk e = (match (e[i]?).bind Sl.o? with
  | some _ => (match mk e with
    | some (.v d, e1) => (match (e1[i]?).bind Sl.o? with
      | some x => (match dgetO x d with
        | some (some z) => some (.v z, e1)
        | _ => none)
      | none => none)
    | _ => none)
  | none => none) := id rfl
@[simp] theorem mDput_ap {mv mk : MD O} : mDput i mv mk e = (match mv e with
  | some (.v d, e1) => (match (e1[i]?).bind Sl.o? with
    | some _ => (match mk e1 with
      | some (.v yd, e2) => (match e2[i]? with
        | some (.own x) => (match dputO x yd d with
          | some x' => some (.nx (e2.set i (.own x')))
          | none => none)
        | some (.pin x) => (match dputO x yd d with
          | some x' => some (.nx (e2.set i (.pin x')))
          | none => none)
        | _ => none)
      | _ => none)
    | none => none)
  | _ => none) := id rfl
@[simp] theorem mDgetE_ap {mk : MD O} : mDgetE m mk e = (match m e with
  | some (x, e1) => (match mk e1 with
    | some (.v d, e2) => (match dgetO x d with
      | some (some z) => some (.v z, e2)
      | _ => none)
    | _ => none)
  | none => none) := id rfl
@[simp] theorem mPeek_ap {vs : List Nat} : mPeek vs m e = (match m (pkIn e vs) with
  | some (x, _) => if x.free then some (x, e) else none
  | none => none) := id rfl
@[simp] theorem mPeekT_ap {vs : List Nat} : mPeekT vs c e = (match c (pkIn e vs) with
  | some (x, _) => some (x, e)
  | none => none) := id rfl
@[simp] theorem mTupS_ap : mTupS i e = (match (e[i]?).bind Sl.o? with
  | some x => (match x.toD with
    | some (.list ds) => if ds.all scal then some (.v (.tuple ds), e) else none
    | _ => none)
  | none => none) := id rfl
@[simp] theorem mForS_ap {tg : Tg} : mForS i tg t e = (match e[i]? with
  | some s => (match s.o? with
    | some (.l xs) => (match forS i tg t xs.length 0 (e.set i (pinS s)) with
      | some (.nx e2) => (match unpin e e2 i with
        | some e3 => some (.nx e3)
        | none => none)
      | some (.rt y e2) => (match unpin e e2 i with
        | some e3 => some (.rt y e3)
        | none => none)
      | _ => none)
    | _ => none)
  | none => none) := id rfl
end
@[simp] theorem pinS_own (o : O) : pinS (.own o) = .pin o := id rfl
@[simp] theorem pinS_pin (o : O) : pinS (.pin o) = .pin o := id rfl
@[simp] theorem pinsLike_nil (e0 : En) : pinsLike e0 [] = true := by cases e0 <;> rfl
@[simp] theorem pinsLike_no (s0 : Sl) (e0 e : En) : pinsLike (s0 :: e0) (.no :: e) = pinsLike e0 e := by cases s0 <;> simp [pinsLike]
@[simp] theorem pinsLike_own (s0 : Sl) (o : O) (e0 e : En) : pinsLike (s0 :: e0) (.own o :: e) = pinsLike e0 e := by cases s0 <;> simp [pinsLike]
@[simp] theorem pinsLike_pin (o o' : O) (e0 e : En) : pinsLike (.pin o' :: e0) (.pin o :: e) = pinsLike e0 e := by simp [pinsLike]
theorem unpin_ap (e0 e : En) (i : Nat) : unpin e0 e i = (match e0[i]?, e[i]? with
  | some (.own _), some (.pin o) => if pinsLike e0 (e.set i (.own o)) then some (e.set i (.own o)) else none
  | some (.pin _), some (.pin _) => if pinsLike e0 e then some e else none
  | _, _ => none) := id rfl
theorem pkIn_eq (e : En) (vs : List Nat) : pkIn e vs = onlyFz (frz (e.map fun s => match s with | .pin o => .own o | s => s) vs) := id rfl
@[simp] theorem onlyFz_nil : onlyFz [] = [] := id rfl
@[simp] theorem onlyFz_v (d : PyData) (e : En) : onlyFz (.own (.v d) :: e) = .own (.v d) :: onlyFz e := id rfl
@[simp] theorem onlyFz_s (d : List Int) (e : En) : onlyFz (.own (.s d) :: e) = .own (.s d) :: onlyFz e := id rfl
@[simp] theorem onlyFz_no (e : En) : onlyFz (.no :: e) = .no :: onlyFz e := id rfl
@[simp] theorem onlyFz_l (xs : List O) (e : En) : onlyFz (.own (.l xs) :: e) = .no :: onlyFz e := id rfl
@[simp] theorem onlyFz_t (xs : List O) (e : En) : onlyFz (.own (.t xs) :: e) = .no :: onlyFz e := id rfl
@[simp] theorem onlyFz_dt (xs : List (List Key × PyData)) (e : En) : onlyFz (.own (.dt xs) :: e) = .no :: onlyFz e := id rfl
@[simp] theorem onlyFz_dk (xs : List (Key × PyData)) (e : En) : onlyFz (.own (.dk xs) :: e) = .no :: onlyFz e := id rfl
@[simp] theorem free_v (d : PyData) : O.free (.v d) = scal d := by unfold O.free; rfl
@[simp] theorem free_l (xs : List O) : O.free (.l xs) = xs.all O.free := by
  unfold O.free
  induction xs with
  | nil => unfold O.freeAll; rfl
  | cons x xs ih => unfold O.freeAll; rw [ih, List.all_cons]
@[simp] theorem free_t (xs : List O) : O.free (.t xs) = xs.all O.free := by
  have := free_l xs
  unfold O.free at this ⊢
  exact this
@[simp] theorem free_dt (kvs : List (List Key × PyData)) : O.free (.dt kvs) = kvs.all fun kv => scal kv.2 := by unfold O.free; rfl
@[simp] theorem free_dk (kvs : List (Key × PyData)) : O.free (.dk kvs) = kvs.all fun kv => scal kv.2 := by unfold O.free; rfl
@[simp] theorem scal_int (i : Int) : scal (.int i) = true := id rfl
@[simp] theorem scal_none : scal .none = true := id rfl
@[simp] theorem scal_bool (b : Bool) : scal (.bool b) = true := id rfl
@[simp] theorem scal_str (x : Str) : scal (.str x) = true := id rfl
/-! keys -/
theorem keysD_ints : ∀ ns : List Int, keysD (ns.map .int) = some (ns.map Sum.inl)
  | [] => rfl
  | n :: ns => by
    show (match keyD (.int n), keysD (ns.map .int) with | some k, some ks => some (k :: ks) | _, _ => none) = _
    rw [keysD_ints ns]; rfl
def keyI (ns : List Int) : List Key := ns.map Sum.inl
theorem keyI_inj {a b : List Int} (h : keyI a = keyI b) : a = b := by
  unfold keyI at h
  exact (List.map_inj_right (f := (Sum.inl : Int → Key)) fun x y h => by cases h; rfl).mp h
@[simp] theorem dgetO_t (kvs : List (List Key × PyData)) (ns : List Int) : dgetO (.dt kvs) (.tuple (ns.map .int)) = some (dval kvs (keyI ns)) := by
  show (match keysD (ns.map .int) with | some k => some (dval kvs k) | none => none) = _
  rw [keysD_ints]; rfl
@[simp] theorem dputO_t (kvs : List (List Key × PyData)) (ns : List Int) (d : PyData) : dputO (.dt kvs) (.tuple (ns.map .int)) d = if kvs.length < sizeLine then some (.dt (dput kvs (keyI ns) d)) else none := by
  show (match keysD (ns.map .int) with | some k => if kvs.length < sizeLine then some (O.dt (dput kvs k d)) else none | none => none) = _
  rw [keysD_ints]; rfl
/-- a table of rows -/
def tabD {α : Type} (enc : α → PyData) (t : List (List Int × α)) : List (List Key × PyData) := t.map fun p => (keyI p.1, enc p.2)
def tabGet {α : Type} (t : List (List Int × α)) (k : List Int) : Option α := (t.find? fun p => decide (p.1 = k)).map (·.2)
theorem dval_tab {α : Type} (enc : α → PyData) (k : List Int) : ∀ t : List (List Int × α), dval (tabD enc t) (keyI k) = (tabGet t k).map enc
  | [] => rfl
  | (a, v) :: t => by
    unfold dval tabGet
    rw [tabD, List.map_cons, List.find?_cons, List.find?_cons]
    by_cases h : a = k
    · simp [h]
    · have : ¬ keyI a = keyI k := fun z => h (keyI_inj z)
      simp only [h, this, decide_false]
      have := dval_tab enc k t
      unfold dval tabGet tabD at this
      exact this
theorem dput_tab {α : Type} (enc : α → PyData) (k : List Int) (v : α) (t : List (List Int × α)) (h : ∀ p ∈ t, p.1 ≠ k) : dput (tabD enc t) (keyI k) (enc v) = tabD enc (t ++ [(k, v)]) := by
  have : ((tabD enc t).any fun kv => decide (kv.1 = keyI k)) = false := by
    rw [List.any_eq_false]
    intro p hp
    obtain ⟨q, hq, rfl⟩ := List.mem_map.mp hp
    simp only [decide_eq_true_eq]
    exact fun z => h q hq (keyI_inj z)
  unfold dput
  rw [this]
  simp [tabD]
theorem tabGet_mem {α : Type} {t : List (List Int × α)} {k : List Int} (h : k ∈ t.map (·.1)) : ∃ v, tabGet t k = some v ∧ (k, v) ∈ t := by
  induction t with
  | nil => simp at h
  | cons p t ih =>
    unfold tabGet
    rw [List.find?_cons]
    by_cases e : p.1 = k
    · simp only [e, decide_true, Option.map_some]
      exact ⟨_, rfl, by rw [← e]; exact List.mem_cons_self ..⟩
    · simp only [e, decide_false]
      rcases List.mem_cons.mp h with h | h
      · exact absurd h.symm e
      · obtain ⟨v, h1, h2⟩ := ih h
        exact ⟨v, h1, List.mem_cons_of_mem _ h2⟩
/-! for over a list as it stands -/
theorem forS_fold {α S : Type} {i : Nat} {tg : Tg} {body : MS} {enc : α → PyData} {E : S → En} {step : S → α → S} {I : S → Prop} (all : List α) (hs : ∀ x ∈ all, scal (enc x) = true) (hE : ∀ s, (E s)[i]? = some (.pin (.l (all.map fun x => .v (enc x))))) (h : ∀ x ∈ all, ∀ s, I s → I (step s x) ∧ ∃ e1, asg tg (.v (enc x)) (E s) = some e1 ∧ body e1 = some (.nx (E (step s x)))) :
    ∀ (xs : List α) (j : Nat) (s : S), all.drop j = xs → I s → forS i tg body xs.length j (E s) = some (.nx (E (xs.foldl step s))) ∧ I (xs.foldl step s)
  | [], j, s, hd, hI => by
    refine ⟨?_, hI⟩
    have hl : all.length ≤ j := by
      have := congrArg List.length hd
      simp at this; omega
    show (match (E s)[i]? with | some (.pin (.l xs)) => if xs.length ≤ j then some (Oc.nx (E s)) else none | _ => none) = _
    rw [hE s]
    simp [hl]
  | x :: xs, j, s, hd, hI => by
    have hj : all[j]? = some x := by
      have : (all.drop j)[0]? = some x := by rw [hd]; rfl
      rw [List.getElem?_drop] at this
      simpa using this
    have hx : x ∈ all := List.mem_of_getElem? hj
    have hd2 : all.drop (j + 1) = xs := by
      rw [← List.drop_drop, hd]; rfl
    obtain ⟨h1, e1, h2, h3⟩ := h x hx s hI
    obtain ⟨ih1, ih2⟩ := forS_fold all hs hE h xs (j + 1) (step s x) hd2 h1
    refine ⟨?_, ih2⟩
    show (match (E s)[i]? with | some (.pin (.l ys)) => (match ys[j]? with | some (.v d) => if scal d then (match asg tg (.v d) (E s) with | some e1 => (match body e1 with | some (.nx e2) => forS i tg body xs.length (j + 1) e2 | some (.ct e2) => forS i tg body xs.length (j + 1) e2 | some (.bk e2) => some (.nx e2) | some (.rt y e2) => some (.rt y e2) | none => none) | none => none) else none | _ => none) | _ => none) = _
    rw [hE s]
    simp only [List.getElem?_map, hj, Option.map_some, hs x hx, if_true, h2, h3, ih1]
    rfl
end Dn

set_option Elab.async false
set_option linter.all false
set_option maxRecDepth 100000
set_option maxHeartbeats 4000000
/-! simp lemmas: what raises, and errors kept -/
namespace Dn
open PySem L2
section
variable {e : En} {x y : MX} {m : MS}
@[simp] theorem mNo_ap : mNo e = none := id rfl
@[simp] theorem fin_none (br : List Bool) : fin br none = none := id rfl
@[simp] theorem xNo_ap : xNo e = none := id rfl
@[simp] theorem xThen_ap : xThen m x e = (match m e with
  | some (.nx e1) => x e1
  | _ => none) := id rfl
@[simp] theorem xAlt_ap : xAlt x y e = (match x e with
  | some r => some r
  | none => y e) := id rfl
@[simp] theorem xIf_ap {c : MD Bool} : xIf c x y e = (match c e with
  | some (true, e1) => x e1
  | some (false, e1) => y e1
  | none => none) := id rfl
@[simp] theorem xFor_ap {mi : MD (List O)} {tg : Tg} : xFor mi tg m x e = (match mi e with
  | some (os, e1) => forX tg m x os e1
  | none => none) := id rfl
@[simp] theorem xRaise_ap {c f : Str} {md : MD O} : xRaise c f md e = (match md e with
  | some (.v (.int v), e1) => if 0 ≤ v ∧ v < 100 then some (⟨c, f, v⟩, e1) else none
  | _ => none) := id rfl
@[simp] theorem xCall_ap {xr : List O → Option Exn} {ms : MD (List O)} : xCall xr ms e = (match ms e with
  | some (xs, e1) => (match xr xs with
    | some y => some (y, e1)
    | none => none)
  | none => none) := id rfl
@[simp] theorem mTry_ap {cs : List Str} {i j : Nat} : mTry m x cs i j e = (match m e with
  | some oc => some oc
  | none => (match x e with
    | some (x, e1) => if cs.contains x.c = true ∧ i < e1.length ∧ j < e1.length then some (.nx (((e1.set i .no).set j (.own (.ex x))).set i .no)) else none
    | none => none)) := id rfl
@[simp] theorem mVarX_ap {i : Nat} : mVarX i e = (match e[i]? with
  | some (.own (.ex x)) => some (.ex x, e)
  | some (.own (.v d)) => some (.v d, e)
  | _ => none) := id rfl
@[simp] theorem mIsNX_ap {i : Nat} {b : Bool} : mIsNX i b e = (match e[i]? with
  | some (.own (.ex _)) => some (.v (.bool (!b)), e)
  | some (.own (.v .none)) => some (.v (.bool b), e)
  | _ => none) := id rfl
@[simp] theorem mIsiX_ap {i : Nat} {tab : List (Str × Bool)} : mIsiX i tab e = (match e[i]? with
  | some (.own (.ex x)) => (match tab.lookup x.c with
    | some b => some (.v (.bool b), e)
    | none => none)
  | _ => none) := id rfl
@[simp] theorem mFldC_ap {i : Nat} {f : Str} {cs : List Str} : mFldC i f cs e = (match e[i]? with
  | some (.own (.ex x)) => if cs.contains x.c = true then (if x.f = f then some (.v (.int x.v), e) else none) else none
  | _ => none) := by
  unfold mFldC mFldX
  cases h : e[i]? with
  | none => rfl
  | some s =>
    cases s with
    | own o => cases o <;> rfl
    | no => rfl
    | pin o => rfl
end
variable {α : Type} {tg : Tg} {body : MS} {bx : MX}
/-- a for that raises at a turn: the turns ahead go through -/
theorem forX_at {S : Type} {enc : α → O} {E : S → En} {r : Exn × En} : ∀ (pre : List α) (x : α) (post : List α) (s : S) (I : List α → S → Prop) (done : List α), I done s →
    (∀ done y s, I done s → y ∈ pre → ∃ e1 s', asg tg (enc y) (E s) = some e1 ∧ bx e1 = none ∧ body e1 = some (.nx (E s')) ∧ I (done ++ [y]) s') →
    (∀ s, I (done ++ pre) s → ∃ e1, asg tg (enc x) (E s) = some e1 ∧ bx e1 = some r) → forX tg body bx ((pre ++ x :: post).map enc) (E s) = some r
  | [], x, post, s, I, done, h0, _, h2 => by
    obtain ⟨e1, a1, a2⟩ := h2 s (by rw [List.append_nil]; exact h0)
    simp only [List.nil_append, List.map_cons, forX, a1, a2]
  | y :: pre, x, post, s, I, done, h0, h1, h2 => by
    obtain ⟨e1, s', a1, a2, a3, a4⟩ := h1 done y s h0 (List.mem_cons_self ..)
    have := forX_at pre x post s' I (done ++ [y]) a4 (fun d z s hs hz => h1 d z s hs (List.mem_cons_of_mem _ hz)) (fun s hs => h2 s (by rw [List.append_assoc] at hs; exact hs))
    simp only [List.cons_append, List.map_cons, forX, a1, a2, a3, this]
/-- .. and the plain for has no end there -/
theorem forL_stuck {S : Type} {enc : α → O} {E : S → En} : ∀ (pre : List α) (x : α) (post : List α) (s : S) (I : List α → S → Prop) (done : List α), I done s →
    (∀ done y s, I done s → y ∈ pre → ∃ e1 s', asg tg (enc y) (E s) = some e1 ∧ body e1 = some (.nx (E s')) ∧ I (done ++ [y]) s') →
    (∀ s, I (done ++ pre) s → ∃ e1, asg tg (enc x) (E s) = some e1 ∧ body e1 = none) → forL tg body ((pre ++ x :: post).map enc) (E s) = none
  | [], x, post, s, I, done, h0, _, h2 => by
    obtain ⟨e1, a1, a2⟩ := h2 s (by rw [List.append_nil]; exact h0)
    simp only [List.nil_append, List.map_cons, forL, a1, a2]
  | y :: pre, x, post, s, I, done, h0, h1, h2 => by
    obtain ⟨e1, s', a1, a3, a4⟩ := h1 done y s h0 (List.mem_cons_self ..)
    have := forL_stuck pre x post s' I (done ++ [y]) a4 (fun d z s hs hz => h1 d z s hs (List.mem_cons_of_mem _ hz)) (fun s hs => h2 s (by rw [List.append_assoc] at hs; exact hs))
    simp only [List.cons_append, List.map_cons, forL, a1, a3, this]
end Dn
namespace Dn
open PySem L2
/-- a for that hands back at a turn -/
theorem forL_ret {α S : Type} {tg : Tg} {body : MS} {enc : α → O} {E : S → En} {r : O} {e' : En} : ∀ (pre : List α) (x : α) (post : List α) (s : S) (I : List α → S → Prop) (done : List α), I done s →
    (∀ done y s, I done s → y ∈ pre → ∃ e1 s', asg tg (enc y) (E s) = some e1 ∧ body e1 = some (.nx (E s')) ∧ I (done ++ [y]) s') →
    (∀ s, I (done ++ pre) s → ∃ e1, asg tg (enc x) (E s) = some e1 ∧ body e1 = some (.rt r e')) → forL tg body ((pre ++ x :: post).map enc) (E s) = some (.rt r e')
  | [], x, post, s, I, done, h0, _, h2 => by
    obtain ⟨e1, a1, a2⟩ := h2 s (by rw [List.append_nil]; exact h0)
    simp only [List.nil_append, List.map_cons, forL, a1, a2]
  | y :: pre, x, post, s, I, done, h0, h1, h2 => by
    obtain ⟨e1, s', a1, a3, a4⟩ := h1 done y s h0 (List.mem_cons_self ..)
    have := forL_ret pre x post s' I (done ++ [y]) a4 (fun d z s hs hz => h1 d z s hs (List.mem_cons_of_mem _ hz)) (fun s hs => h2 s (by rw [List.append_assoc] at hs; exact hs))
    simp only [List.cons_append, List.map_cons, forL, a1, a3, this]
end Dn

set_option Elab.async false
set_option linter.all false
set_option maxRecDepth 100000
set_option maxHeartbeats 4000000
namespace Dn
open PySem L2
noncomputable section
def ce__law_draws_e473_1 : MD O := (mL fDiv (lSee 8 (lCons (mC (.int 100000)) lNil)))
def b__law_draws_e473_1 : MS := (mSeq (mSet 7 (mL fMod (lSee 6 (lCons (mL fLen (lSee 5 lNil)) lNil)))) (mSeq (mIf (mT (mL fGe (lSee 6 (lSee 1 lNil)))) (mSeq (mDrop (mUp 4 (aCons (mL fMod (lCons (mLk ixO (lSee 5 (lSee 7 lNil))) (lCons (mC (.int 2147483587)) lNil))) aNil) uApp)) mNil) mNil) (mSeq (mSetI 5 (mL fDiv (lCons (mLk ixO (lSee 5 (lSee 7 lNil))) (lCons (mC (.int 2147483587)) lNil))) (mVar 7)) (mSeq (mKill [6, 7]) mNil))))
def b__law_draws_e473_2 : MS := (mSeq (mSet 9 (mFz (mA addO (aCons (mL fMul (lCons (mL fMul (lCons (mA addO (aCons (mVar 6) (aCons (mVar 1) aNil))) (lCons (mA addO (aCons (mVar 6) (aCons (mVar 1) aNil))) lNil))) (lCons (mC (.int 7919)) lNil))) (aCons (mC (.int 104729)) aNil))))) (mSeq (mSet 10 (mL fMod (lCons (mL fMul (lCons (mA addO (aCons (mL fMod (lCons (mLk ixO (lSee 3 (lCons (mL fMod (lSee 6 (lCons (mL fLen (lSee 3 lNil)) lNil))) lNil))) (lCons (mC (.int 2147483647)) lNil))) (aCons (mVar 9) aNil))) (lCons (mC (.int 48271)) lNil))) (lCons (mC (.int 2147483647)) lNil)))) (mSeq (mSet 10 (mL fMod (lCons (mA addO (aCons (mL fMul (lSee 10 (lSee 10 lNil))) (aCons (mL fMul (lCons (mC (.int 69621)) (lSee 6 lNil))) aNil))) (lCons (mC (.int 2147483629)) lNil)))) (mSeq (mDrop (mUp 4 (aCons (mL fMod (lCons (mL fMul (lSee 10 (lSee 10 lNil))) (lCons (mC (.int 2147483587)) lNil))) aNil) uApp)) (mSeq (mKill [6, 9, 10]) mNil)))))
def m__law_draws_e473 : MS := (mSeq (mSet 3 (mFz (mA addO (aCons (mSl (mVar 0) oNone (oSome (mC (.int 63)))) (aCons (mA lstO (aCons (mVar 1) aNil)) aNil))))) (mSeq (mSet 4 (mA lstO aNil)) (mSeq (mIf (mT (mL fEq (lCons (mL fMod (lCons (mL fDiv (lCons (mLk ixO (lSee 3 (lCons (mC (.int 0)) lNil))) (lCons (mC (.int 50000)) lNil))) (lCons (mC (.int 2)) lNil))) (lCons (mC (.int 1)) lNil)))) (mSeq (mSet 5 (mLc (iL (mVar 3)) (.n 8) mYes ce__law_draws_e473_1 [8])) (mSeq (mFor (iR1 (lCons (mA addO (aCons (mVar 1) (aCons (mVar 2) aNil))) lNil)) (.n 6) b__law_draws_e473_1) (mSeq (mKill [6, 7]) (mSeq (mRet (mMv 4)) mNil)))) mNil) (mSeq (mKill [5, 6, 7]) (mSeq (mFor (mFrzE [1] (iR1 (lSee 2 lNil))) (.n 6) b__law_draws_e473_2) (mSeq (mKill [6, 9, 10]) (mSeq (mRet (mMv 4)) mNil)))))))
def sem__law_draws_e473 : Sem1 := runF 11 (List.replicate 3 false) m__law_draws_e473
theorem un__law_draws_e473 (x0 x1 x2 : O) : sem__law_draws_e473 [x0, x1, x2] = fin (List.replicate 3 false) (m__law_draws_e473 [.own x0, .own x1, .own x2, .no, .no, .no, .no, .no, .no, .no, .no]) := id rfl

def m__law_pop : MS := (mSeq (mIf (mT (mL fEq (lSee 0 (lCons (mA lstO aNil) lNil)))) (mSeq (mRet (mC (.int 0))) mNil) mNil) (mSeq (mRet (mUp 0 (aCons (mC (.int 0)) aNil) uPop0)) mNil))
def sem__law_pop : Sem1 := runF 1 [true] m__law_pop
theorem un__law_pop (x0 : O) : sem__law_pop [x0] = fin [true] (m__law_pop [.pin x0]) := id rfl

def b__law_cases_1 : MS := (mSeq (mSet 1 (mL fMul (lSee 1 (lCons (mA addO (aCons (mVar 2) (aCons (mC (.int 1)) aNil))) lNil)))) (mSeq (mKill [2]) mNil))
def m__law_cases : MS := (mSeq (mSet 1 (mC (.int 1))) (mSeq (mFor (iL (mVar 0)) (.n 2) b__law_cases_1) (mSeq (mKill [2]) (mSeq (mRet (mMv 1)) mNil))))
def sem__law_cases : Sem1 := runF 3 (List.replicate 1 false) m__law_cases
theorem un__law_cases (x0 : O) : sem__law_cases [x0] = fin (List.replicate 1 false) (m__law_cases [.own x0, .no, .no]) := id rfl

def ce__law_want_aecb_1 : MD O := (mLk ixO (lCons (mA lstO (aCons (mC (.int 0)) (aCons (mC (.int 1)) (aCons (mC (.int 2)) (aCons (mC (.int 9)) (aCons (mC (.int 4)) (aCons (mC (.int 5)) (aCons (mC (.int 3)) (aCons (mC (.int 1)) aNil))))))))) (lCons (mL fMod (lCons (mL fDiv (lSee 2 (lCons (mL fShl (lCons (mC (.int 1)) (lCons (mL fMul (lCons (mC (.int 3)) (lSee 4 lNil))) lNil))) lNil))) (lCons (mC (.int 8)) lNil))) lNil)))
def ce__law_want_aecb_2 : MD O := (mL fMod (lCons (mCallR sem__law_pop (aRf 0 aNil) [0]) (lCons (mC (.int 10)) lNil)))
def t__law_want_aecb_1 : MD Bool := (mT (mL fGt (lCons (mCallL sem__law_cases (lSee 3 lNil)) (lCons (mC (.int 400)) lNil))))
def b__law_want_aecb_1 : MS := (mSeq (mSetI 3 (mL fSub (lCons (mL fMax (lSee 3 lNil)) (lCons (mC (.int 1)) lNil))) (mLM 3 fIndex (lCons (mL fMax (lSee 3 lNil)) lNil))) mNil)
def m__law_want_aecb : MS := (mSeq (mSet 2 (mFz (mCallR sem__law_pop (aRf 0 aNil) [0]))) (mSeq (mSet 3 (mLc (iR1 (lSee 1 lNil)) (.n 4) mYes ce__law_want_aecb_1 [4])) (mSeq (mIf (mT (mL fEq (lCons (mL fMod (lCons (mL fDiv (lSee 2 (lCons (mC (.int 4096)) lNil))) (lCons (mC (.int 4)) lNil))) (lCons (mC (.int 0)) lNil)))) (mSeq (mSet 3 (mLc (iR1 (lSee 1 lNil)) (.n 4) mYes ce__law_want_aecb_2 [4])) mNil) mNil) (mSeq (mWhile t__law_want_aecb_1 b__law_want_aecb_1) (mSeq (mRet (mMv 3)) mNil)))))
def sem__law_want_aecb : Sem1 := runF 5 [true, false] m__law_want_aecb
theorem un__law_want_aecb (x0 x1 : O) : sem__law_want_aecb [x0, x1] = fin [true, false] (m__law_want_aecb [.pin x0, .own x1, .no, .no, .no]) := id rfl

def ce_covers_1 : MD O := (mL fGe (lSee 2 (lSee 3 lNil)))
def m_covers : MS := (mSeq (mRet (mL fAll (lCons (mLc (iZ (aCons (mVar 0) (aCons (mVar 1) aNil))) (.tp [(.n 2), (.n 3)]) mYes ce_covers_1 [2, 3]) lNil))) mNil)
def sem_covers : Sem1 := runF 4 (List.replicate 2 false) m_covers
theorem un_covers (x0 x1 : O) : sem_covers [x0, x1] = fin (List.replicate 2 false) (m_covers [.own x0, .own x1, .no, .no]) := id rfl

def ce_rest_1 : MD O := (mL fMax (lCons (mC (.int 0)) (lCons (mL fSub (lSee 2 (lSee 3 lNil))) lNil)))
def m_rest : MS := (mSeq (mRet (mLc (iZ (aCons (mVar 0) (aCons (mVar 1) aNil))) (.tp [(.n 2), (.n 3)]) mYes ce_rest_1 [2, 3])) mNil)
def sem_rest : Sem1 := runF 4 (List.replicate 2 false) m_rest
theorem un_rest (x0 x1 : O) : sem_rest [x0, x1] = fin (List.replicate 2 false) (m_rest [.own x0, .own x1, .no, .no]) := id rfl

def m__law_whole : MS := (mSeq (mRet (vAnd (mL (fIsi "int") (lSee 0 lNil)) (vNot (mL (fIsi "bool") (lSee 0 lNil))))) mNil)
def sem__law_whole : Sem1 := runF 1 (List.replicate 1 false) m__law_whole
theorem un__law_whole (x0 : O) : sem__law_whole [x0] = fin (List.replicate 1 false) (m__law_whole [.own x0]) := id rfl

def ct__law_numbers_1 : MD Bool := (tNotM (mT (mCallM sem__law_whole (aCons (mVar 2) aNil))))
def ce__law_numbers_1 : MD O := (mVar 2)
def m__law_numbers : MS := (mSeq (mIf (tOrM (tNotM (mT (mL (fIsi "list") (lSee 0 lNil)))) (mT (mL fGt (lCons (mL fLen (lCons (mLc (iL (mVar 0)) (.n 2) ct__law_numbers_1 ce__law_numbers_1 [2]) lNil)) (lCons (mC (.int 0)) lNil))))) (mSeq (mRet (mC (.bool false))) mNil) mNil) (mSeq (mRet (mL fEq (lSee 0 (lSee 1 lNil)))) mNil))
def sem__law_numbers : Sem1 := runF 3 (List.replicate 2 false) m__law_numbers
theorem un__law_numbers (x0 x1 : O) : sem__law_numbers [x0, x1] = fin (List.replicate 2 false) (m__law_numbers [.own x0, .own x1, .no]) := id rfl

def t__law_next_1 : MD Bool := (tAndM (mT (mL fGe (lSee 3 (lCons (mC (.int 0)) lNil)))) (mT (mL fEq (lCons (mLk ixO (lSee 2 (lSee 3 lNil))) (lCons (mLk ixO (lSee 1 (lSee 3 lNil))) lNil)))))
def b__law_next_1 : MS := (mSeq (mSetI 2 (mC (.int 0)) (mVar 3)) (mSeq (mSet 3 (mL fSub (lSee 3 (lCons (mC (.int 1)) lNil)))) mNil))
def m__law_next : MS := (mSeq (mSet 2 (mA listO (aCons (mVar 0) aNil))) (mSeq (mSet 3 (mL fSub (lCons (mL fLen (lSee 1 lNil)) (lCons (mC (.int 1)) lNil)))) (mSeq (mWhile t__law_next_1 b__law_next_1) (mSeq (mIf (mT (mL fLt (lSee 3 (lCons (mC (.int 0)) lNil)))) (mSeq (mRet (mC .none)) mNil) mNil) (mSeq (mSetI 2 (mA addO (aCons (mLk ixO (lSee 2 (lSee 3 lNil))) (aCons (mC (.int 1)) aNil))) (mVar 3)) (mSeq (mRet (mMv 2)) mNil))))))
def sem__law_next : Sem1 := runF 4 (List.replicate 2 false) m__law_next
theorem un__law_next (x0 x1 : O) : sem__law_next [x0, x1] = fin (List.replicate 2 false) (m__law_next [.own x0, .own x1, .no, .no]) := id rfl

def t__law_due_4ac3_1 : MD Bool := (mT (mL fNotN (lSee 2 (lCons (mC .none) lNil))))
def b__law_due_4ac3_1 : MS := (mSeq (mDrop (mUp 1 (aCons (mVar 2) aNil) uApp)) (mSeq (mSet 2 (mFz (mCallM sem__law_next (aCons (mVar 2) (aCons (mVar 0) aNil))))) mNil))
def m__law_due_4ac3 : MS := (mSeq (mSet 1 (mA lstO aNil)) (mSeq (mSet 2 (mFz (mA repO (aCons (mA lstO (aCons (mC (.int 0)) aNil)) (aCons (mL fLen (lSee 0 lNil)) aNil))))) (mSeq (mFrz [0]) (mSeq (mWhile t__law_due_4ac3_1 b__law_due_4ac3_1) (mSeq (mKill [2]) (mSeq (mRet (mMv 1)) mNil))))))
def sem__law_due_4ac3 : Sem1 := runF 3 (List.replicate 1 false) m__law_due_4ac3
theorem un__law_due_4ac3 (x0 : O) : sem__law_due_4ac3 [x0] = fin (List.replicate 1 false) (m__law_due_4ac3 [.own x0, .no, .no]) := id rfl

def ce_lesser_1 : MD O := (mA addO (aCons (mVar 4) (aCons (mA lstO (aCons (mVar 5) aNil)) aNil)))
def b_lesser_1 : MS := (mSeq (mDrop (mUp 3 (aCons (mLc (mFrzE [4] (iR1 (lCons (mA addO (aCons (mVar 2) (aCons (mC (.int 1)) aNil))) lNil))) (.n 5) mYes ce_lesser_1 [5]) aNil) uExt)) (mSeq (mKill [4]) mNil))
def b_lesser_2 : MS := (mSeq (mSet 3 (mA lstO aNil)) (mSeq (mFor (mFrzE [2] (iL (mVar 1))) (.n 4) b_lesser_1) (mSeq (mKill [4]) (mSeq (mSet 1 (mMv 3)) (mSeq (mKill [2, 3, 4]) mNil)))))
def m_lesser : MS := (mSeq (mSet 1 (mA lstO (aCons (mA lstO aNil) aNil))) (mSeq (mFor (iL (mVar 0)) (.n 2) b_lesser_2) (mSeq (mKill [2, 3, 4]) (mSeq (mRet (mMv 1)) mNil))))
def sem_lesser : Sem1 := runF 6 (List.replicate 1 false) m_lesser
theorem un_lesser (x0 : O) : sem_lesser [x0] = fin (List.replicate 1 false) (m_lesser [.own x0, .no, .no, .no, .no, .no]) := id rfl

def m__law_content_9bc7 : MS := (mSeq (mSet 2 (mCallR sem__law_want_aecb (aRf 0 (aCons (mVar 1) aNil)) [0])) (mSeq (mIf (mT (mL fEq (lCons (mL fSum (lSee 2 lNil)) (lCons (mC (.int 0)) lNil)))) (mSeq (mSetI 2 (mA addO (aCons (mC (.int 1)) (aCons (mL fMod (lCons (mCallR sem__law_pop (aRf 0 aNil) [0]) (lCons (mC (.int 9)) lNil))) aNil))) (mL fMod (lCons (mCallR sem__law_pop (aRf 0 aNil) [0]) (lSee 1 lNil)))) mNil) mNil) (mSeq (mRet (mMv 2)) mNil)))
def sem__law_content_9bc7 : Sem1 := runF 3 [true, false] m__law_content_9bc7
theorem un__law_content_9bc7 (x0 x1 : O) : sem__law_content_9bc7 [x0, x1] = fin [true, false] (m__law_content_9bc7 [.pin x0, .own x1, .no]) := id rfl

def m__law_price_9bd3 : MS := (mSeq (mSet 1 (mFz (mCallR sem__law_pop (aRf 0 aNil) [0]))) (mSeq (mRet (mLk ixO (lCons (mA lstO (aCons (mL fMod (lCons (mL fDiv (lSee 1 (lCons (mC (.int 4)) lNil))) (lCons (mC (.int 30)) lNil))) (aCons (mL fMod (lCons (mL fDiv (lSee 1 (lCons (mC (.int 4)) lNil))) (lCons (mC (.int 1000)) lNil))) (aCons (mC (.int 0)) (aCons (mL fMod (lCons (mL fMul (lSee 1 (lCons (mC (.int 7919)) lNil))) (lCons (mL fPow (lCons (mC (.int 10)) (lCons (mC (.int 12)) lNil))) lNil))) aNil))))) (lCons (mL fMod (lSee 1 (lCons (mC (.int 4)) lNil))) lNil)))) mNil))
def sem__law_price_9bd3 : Sem1 := runF 2 [true] m__law_price_9bd3
theorem un__law_price_9bd3 (x0 : O) : sem__law_price_9bd3 [x0] = fin [true] (m__law_price_9bd3 [.pin x0, .no]) := id rfl

def b__law_tiers_278e_1 : MS := (mSeq (mSet 4 (mFz (mCallR sem__law_pop (aRf 0 aNil) [0]))) (mSeq (mIf (mT (mL fLt (lSee 2 (lCons (mC (.int 13)) lNil)))) (mSeq (mDrop (mUp 1 (aCons (mFz (mA tupO (aCons (mVar 2) (aCons (mCallR sem__law_price_9bd3 (aRf 0 aNil) [0]) aNil)))) aNil) uApp)) mNil) mNil) (mSeq (mSet 2 (mFz (mA addO (aCons (mA addO (aCons (mVar 2) (aCons (mC (.int 1)) aNil))) (aCons (mL fMod (lSee 4 (lCons (mLk ixO (lCons (mA lstO (aCons (mC (.int 1)) (aCons (mC (.int 3)) (aCons (mC (.int 8)) aNil)))) (lCons (mL fMod (lCons (mL fDiv (lSee 4 (lCons (mC (.int 8)) lNil))) (lCons (mC (.int 3)) lNil))) lNil))) lNil))) aNil))))) (mSeq (mKill [3, 4]) mNil))))
def m__law_tiers_278e : MS := (mSeq (mSet 1 (mA lstO aNil)) (mSeq (mSet 2 (mC (.int 1))) (mSeq (mFor (iR1 (lCons (mA addO (aCons (mC (.int 1)) (aCons (mL fMod (lCons (mCallR sem__law_pop (aRf 0 aNil) [0]) (lCons (mC (.int 4)) lNil))) aNil))) lNil)) (.n 3) b__law_tiers_278e_1) (mSeq (mKill [2, 3, 4]) (mSeq (mRet (mMv 1)) mNil)))))
def sem__law_tiers_278e : Sem1 := runF 5 [true] m__law_tiers_278e
theorem un__law_tiers_278e (x0 : O) : sem__law_tiers_278e [x0] = fin [true] (m__law_tiers_278e [.pin x0, .no, .no, .no, .no]) := id rfl

def ct__law_shop_0742_1 : MD Bool := (mT (mL fEq (lCons (mLk ixO (lCons (mLk ixO (lSee 3 (lSee 8 lNil))) (lCons (mC (.int 0)) lNil))) (lCons (mC (.str "pack")) lNil))))
def ce__law_shop_0742_1 : MD O := (mVar 8)
def b__law_shop_0742_1 : MS := (mSeq (mSet 5 (mFz (mCallR sem__law_pop (aRf 0 aNil) [0]))) (mSeq (mSet 6 (mFz (mLc (iR1 (lCons (mL fLen (lSee 3 lNil)) lNil)) (.n 8) ct__law_shop_0742_1 ce__law_shop_0742_1 [8]))) (mSeq (mSet 7 (mFz (mCallR sem__law_content_9bc7 (aRf 0 (aCons (mVar 1) aNil)) [0]))) (mSeq (mIf (tAndM (mT (mL fGt (lCons (mL fMod (lSee 5 (lCons (mC (.int 8)) lNil))) (lCons (mC (.int 4)) lNil)))) (mT (mL fNe (lSee 6 (lCons (mA lstO aNil) lNil))))) (mSeq (mDrop (mUp 3 (aCons (mFz (mA tupO (aCons (mC (.str "add")) (aCons (mVar 7) (aCons (mCallR sem__law_price_9bd3 (aRf 0 aNil) [0]) (aCons (mLk ixO (lSee 6 (lCons (mL fMod (lCons (mL fDiv (lSee 5 (lCons (mC (.int 8)) lNil))) (lCons (mL fLen (lSee 6 lNil)) lNil))) lNil))) aNil)))))) aNil) uApp)) mNil) (mSeq (mIf (mT (mL fGt (lCons (mL fMod (lSee 5 (lCons (mC (.int 8)) lNil))) (lCons (mC (.int 2)) lNil)))) (mSeq (mDrop (mUp 3 (aCons (mFz (mA tupO (aCons (mC (.str "many")) (aCons (mVar 7) (aCons (mCallR sem__law_tiers_278e (aRf 0 aNil) [0]) aNil))))) aNil) uApp)) mNil) (mSeq (mDrop (mUp 3 (aCons (mFz (mA tupO (aCons (mC (.str "pack")) (aCons (mVar 7) (aCons (mCallR sem__law_price_9bd3 (aRf 0 aNil) [0]) aNil))))) aNil) uApp)) mNil)) mNil)) (mSeq (mKill [4, 5, 6, 7]) mNil)))))
def m__law_shop_0742 : MS := (mSeq (mSet 3 (mA lstO aNil)) (mSeq (mFor (mFrzE [1] (iR1 (lCons (mL fMod (lCons (mCallR sem__law_pop (aRf 0 aNil) [0]) (lCons (mA addO (aCons (mVar 2) (aCons (mC (.int 1)) aNil))) lNil))) lNil))) (.n 4) b__law_shop_0742_1) (mSeq (mKill [4, 5, 6, 7]) (mSeq (mRet (mMv 3)) mNil))))
def sem__law_shop_0742 : Sem1 := runF 9 [true, false, false] m__law_shop_0742
theorem un__law_shop_0742 (x0 x1 x2 : O) : sem__law_shop_0742 [x0, x1, x2] = fin [true, false, false] (m__law_shop_0742 [.pin x0, .own x1, .own x2, .no, .no, .no, .no, .no, .no]) := id rfl

def ce__law_tiers_good_f101_1 : MD O := (mVar 2)
def ct__law_tiers_good_f101_1 : MD Bool := (mT (mL fGe (lCons (mLk ixO (lSee 1 (lCons (mL fSub (lSee 4 (lCons (mC (.int 1)) lNil))) lNil))) (lCons (mLk ixO (lSee 1 (lSee 4 lNil))) lNil))))
def ce__law_tiers_good_f101_2 : MD O := (mVar 4)
def m__law_tiers_good_f101 : MS := (mSeq (mSet 1 (mFz (mLc (iL (mVar 0)) (.tp [(.n 2), (.n 3)]) mYes ce__law_tiers_good_f101_1 [2, 3]))) (mSeq (mIf (tOrM (mT (mL fLt (lCons (mL fLen (lSee 1 lNil)) (lCons (mC (.int 1)) lNil)))) (tOrM (mT (mL fGt (lCons (mL fLen (lSee 1 lNil)) (lCons (mC (.int 4)) lNil)))) (tOrM (mT (mL fNe (lCons (mLk ixO (lSee 1 (lCons (mC (.int 0)) lNil))) (lCons (mC (.int 1)) lNil)))) (mT (mL fGt (lCons (mLk ixO (lSee 1 (lCons (mL fNeg (lCons (mC (.int 1)) lNil)) lNil))) (lCons (mC (.int 12)) lNil))))))) (mSeq (mRet (mC (.bool false))) mNil) mNil) (mSeq (mRet (mL fEq (lCons (mL fLen (lCons (mLc (iR2 (lCons (mC (.int 1)) (lCons (mL fLen (lSee 1 lNil)) lNil))) (.n 4) ct__law_tiers_good_f101_1 ce__law_tiers_good_f101_2 [4]) lNil)) (lCons (mC (.int 0)) lNil)))) mNil)))
def sem__law_tiers_good_f101 : Sem1 := runF 5 (List.replicate 1 false) m__law_tiers_good_f101
theorem un__law_tiers_good_f101 (x0 : O) : sem__law_tiers_good_f101 [x0] = fin (List.replicate 1 false) (m__law_tiers_good_f101 [.own x0, .no, .no, .no, .no]) := id rfl

def b__law_due_a257_1 : MS := (mSeq (mSet 2 (mLk ixO (lSee 0 (lSee 1 lNil)))) (mSeq (mIf (tAndM (mT (mL fEq (lCons (mLk ixO (lSee 2 (lCons (mC (.int 0)) lNil))) (lCons (mC (.str "many")) lNil)))) (tNotM (mT (mCallM sem__law_tiers_good_f101 (aCons (mLk ixO (lSee 2 (lCons (mC (.int 2)) lNil))) aNil))))) (mSeq (mRet (mMv 1)) mNil) mNil) (mSeq (mIf (mT (mL fEq (lCons (mLk ixO (lSee 2 (lCons (mC (.int 0)) lNil))) (lCons (mC (.str "add")) lNil)))) (mSeq (mIf (tOrM (mT (mL fLt (lCons (mLk ixO (lSee 2 (lCons (mC (.int 3)) lNil))) (lCons (mC (.int 0)) lNil)))) (tOrM (mT (mL fGe (lCons (mLk ixO (lSee 2 (lCons (mC (.int 3)) lNil))) (lSee 1 lNil)))) (mT (mL fNe (lCons (mLk ixO (lCons (mLk ixO (lSee 0 (lCons (mLk ixO (lSee 2 (lCons (mC (.int 3)) lNil))) lNil))) (lCons (mC (.int 0)) lNil))) (lCons (mC (.str "pack")) lNil)))))) (mSeq (mRet (mMv 1)) mNil) mNil) mNil) mNil) (mSeq (mKill [1, 2]) mNil))))
def m__law_due_a257 : MS := (mSeq (mFor (iR1 (lCons (mL fLen (lSee 0 lNil)) lNil)) (.n 1) b__law_due_a257_1) (mSeq (mKill [1, 2]) (mSeq (mRet (mC .none)) mNil)))
def sem__law_due_a257 : Sem1 := runF 3 (List.replicate 1 false) m__law_due_a257
theorem un__law_due_a257 (x0 : O) : sem__law_due_a257 [x0] = fin (List.replicate 1 false) (m__law_due_a257 [.own x0, .no, .no]) := id rfl

def b__law_copied_1 : MS := (mSeq (mIf (mT (mL fEq (lCons (mLk ixO (lSee 2 (lCons (mC (.int 0)) lNil))) (lCons (mC (.str "many")) lNil)))) (mSeq (mDrop (mUp 1 (aCons (mFz (mA tupO (aCons (mC (.str "many")) (aCons (mA listO (aCons (mLk ixO (lSee 2 (lCons (mC (.int 1)) lNil))) aNil)) (aCons (mA listO (aCons (mLk ixO (lSee 2 (lCons (mC (.int 2)) lNil))) aNil)) aNil))))) aNil) uApp)) mNil) (mSeq (mDrop (mUp 1 (aCons (mFz (mA addO (aCons (mA tupO (aCons (mLk ixO (lSee 2 (lCons (mC (.int 0)) lNil))) (aCons (mA listO (aCons (mLk ixO (lSee 2 (lCons (mC (.int 1)) lNil))) aNil)) aNil))) (aCons (mSl (mVar 2) (oSome (mC (.int 2))) oNone) aNil)))) aNil) uApp)) mNil)) (mSeq (mKill [2]) mNil))
def m__law_copied : MS := (mSeq (mSet 1 (mA lstO aNil)) (mSeq (mFor (iL (mVar 0)) (.n 2) b__law_copied_1) (mSeq (mKill [2]) (mSeq (mRet (mMv 1)) mNil))))
def sem__law_copied : Sem1 := runF 3 (List.replicate 1 false) m__law_copied
theorem un__law_copied (x0 : O) : sem__law_copied [x0] = fin (List.replicate 1 false) (m__law_copied [.own x0, .no, .no]) := id rfl

def ce_tiers_right_1 : MD O := (mVar 2)
def ce_tiers_right_2 : MD O := (mL fLt (lCons (mLk ixO (lSee 1 (lSee 4 lNil))) (lCons (mLk ixO (lSee 1 (lCons (mA addO (aCons (mVar 4) (aCons (mC (.int 1)) aNil))) lNil))) lNil)))
def m_tiers_right : MS := (mSeq (mSet 1 (mFz (mLc (iL (mVar 0)) (.tp [(.n 2), (.n 3)]) mYes ce_tiers_right_1 [2, 3]))) (mSeq (mIf (tOrM (mT (mL fNe (lCons (mSl (mVar 1) oNone (oSome (mC (.int 1)))) (lCons (mA lstO (aCons (mC (.int 1)) aNil)) lNil)))) (tOrM (mT (mL fGt (lCons (mL fLen (lSee 1 lNil)) (lCons (mC (.int 4)) lNil)))) (mT (mL fGt (lCons (mLk ixO (lSee 1 (lCons (mL fNeg (lCons (mC (.int 1)) lNil)) lNil))) (lCons (mC (.int 12)) lNil)))))) (mSeq (mRet (mC (.bool false))) mNil) mNil) (mSeq (mRet (mL fAll (lCons (mLc (iR1 (lCons (mL fSub (lCons (mL fLen (lSee 1 lNil)) (lCons (mC (.int 1)) lNil))) lNil)) (.n 4) mYes ce_tiers_right_2 [4]) lNil))) mNil)))
def sem_tiers_right : Sem1 := runF 5 (List.replicate 1 false) m_tiers_right
theorem un_tiers_right (x0 : O) : sem_tiers_right [x0] = fin (List.replicate 1 false) (m_tiers_right [.own x0, .no, .no, .no, .no]) := id rfl

def b_look_1 : MS := (mSeq (mSet 3 (mC (.bool true))) (mSeq (mIf (mT (mL fEq (lCons (mLk ixO (lSee 2 (lCons (mC (.int 0)) lNil))) (lCons (mC (.str "add")) lNil)))) (mSeq (mSet 3 (vAnd (mChain fLe fLt (lCons (mC (.int 0)) (lCons (mLk ixO (lSee 2 (lCons (mC (.int 3)) lNil))) lNil)) (mVar 1)) (mL fEq (lCons (mLk ixO (lCons (mLk ixO (lSee 0 (lCons (mLk ixO (lSee 2 (lCons (mC (.int 3)) lNil))) lNil))) (lCons (mC (.int 0)) lNil))) (lCons (mC (.str "pack")) lNil))))) mNil) mNil) (mSeq (mIf (mT (mL fEq (lCons (mLk ixO (lSee 2 (lCons (mC (.int 0)) lNil))) (lCons (mC (.str "many")) lNil)))) (mSeq (mSet 3 (mFz (mCallM sem_tiers_right (aCons (mLk ixO (lSee 2 (lCons (mC (.int 2)) lNil))) aNil)))) mNil) mNil) (mSeq (mIf (tNotM (mT (mVar 3))) (mSeq mNo mNil) mNil) (mSeq (mKill [1, 2, 3]) mNil)))))
def m_look : MS := (mSeq (mFor (iE (aCons (mVar 0) aNil)) (.tp [(.n 1), (.n 2)]) b_look_1) (mSeq (mKill [1, 2, 3]) mNil))
def sem_look : Sem1 := runF 4 (List.replicate 1 false) m_look
theorem un_look (x0 : O) : sem_look [x0] = fin (List.replicate 1 false) (m_look [.own x0, .no, .no, .no]) := id rfl

def m__law_only_a92a : MS := (mSeq (mSet 2 (mFz (mA lstO (aCons (mIsiX 0 [("NoOffer", false)]) (aCons (mIsiX 0 [("NoOffer", false)]) (aCons (mIsiX 0 [("NoOffer", false)]) (aCons (mIsiX 0 [("NoOffer", false)]) aNil))))))) (mSeq (mIf (tOrM (mT (mL fIn (lCons (mC (.bool true)) (lSee 2 lNil)))) (tOrM (tNotM (mT (mIsiX 0 [("NoOffer", true)]))) (tOrM (tNotM (mT (mIsiX 0 [("NoOffer", true)]))) (tNotM (mT (mIsiX 0 [("NoOffer", true)])))))) (mSeq (mRet (mC (.bool false))) mNil) mNil) (mSeq (mRet (vAnd (mCallM sem__law_whole (aCons (mFz (mFldC 0 "place" ["NoOffer"])) aNil)) (mL fEq (lCons (mFldC 0 "place" ["NoOffer"]) (lSee 1 lNil))))) mNil)))
def sem__law_only_a92a : Sem1 := runF 3 (List.replicate 2 false) m__law_only_a92a
theorem un__law_only_a92a (x0 x1 : O) : sem__law_only_a92a [x0, x1] = fin (List.replicate 2 false) (m__law_only_a92a [.own x0, .own x1, .no]) := id rfl

def bx_look_1 : MX := (xThen (mSet 3 (mC (.bool true))) (xThen (mIf (mT (mL fEq (lCons (mLk ixO (lSee 2 (lCons (mC (.int 0)) lNil))) (lCons (mC (.str "add")) lNil)))) (mSeq (mSet 3 (vAnd (mChain fLe fLt (lCons (mC (.int 0)) (lCons (mLk ixO (lSee 2 (lCons (mC (.int 3)) lNil))) lNil)) (mVar 1)) (mL fEq (lCons (mLk ixO (lCons (mLk ixO (lSee 0 (lCons (mLk ixO (lSee 2 (lCons (mC (.int 3)) lNil))) lNil))) (lCons (mC (.int 0)) lNil))) (lCons (mC (.str "pack")) lNil))))) mNil) mNil) (xThen (mIf (mT (mL fEq (lCons (mLk ixO (lSee 2 (lCons (mC (.int 0)) lNil))) (lCons (mC (.str "many")) lNil)))) (mSeq (mSet 3 (mFz (mCallM sem_tiers_right (aCons (mLk ixO (lSee 2 (lCons (mC (.int 2)) lNil))) aNil)))) mNil) mNil) (xIf (tNotM (mT (mVar 3))) (xRaise "NoOffer" "place" (mVar 1)) xNo))))
def bn_look_1 : MS := (mSeq (mSet 3 (mC (.bool true))) (mSeq (mIf (mT (mL fEq (lCons (mLk ixO (lSee 2 (lCons (mC (.int 0)) lNil))) (lCons (mC (.str "add")) lNil)))) (mSeq (mSet 3 (vAnd (mChain fLe fLt (lCons (mC (.int 0)) (lCons (mLk ixO (lSee 2 (lCons (mC (.int 3)) lNil))) lNil)) (mVar 1)) (mL fEq (lCons (mLk ixO (lCons (mLk ixO (lSee 0 (lCons (mLk ixO (lSee 2 (lCons (mC (.int 3)) lNil))) lNil))) (lCons (mC (.int 0)) lNil))) (lCons (mC (.str "pack")) lNil))))) mNil) mNil) (mSeq (mIf (mT (mL fEq (lCons (mLk ixO (lSee 2 (lCons (mC (.int 0)) lNil))) (lCons (mC (.str "many")) lNil)))) (mSeq (mSet 3 (mFz (mCallM sem_tiers_right (aCons (mLk ixO (lSee 2 (lCons (mC (.int 2)) lNil))) aNil)))) mNil) mNil) (mSeq (mIf (tNotM (mT (mVar 3))) (mSeq mNo mNil) mNil) (mSeq (mKill [1, 2, 3]) mNil)))))
def x_look : MX := (xFor (iE (aCons (mVar 0) aNil)) (.tp [(.n 1), (.n 2)]) bn_look_1 bx_look_1)
def xr_look : List O → Option Exn := runX 4 1 x_look
theorem ux_look (x0 : O) : xr_look [x0] = (x_look [.own x0, .no, .no, .no]).map (·.1) := id rfl

def m__law_right_b9ca : MS := (mSeq (mSet 1 (mFz (mCallM sem__law_due_a257 (aCons (mVar 0) aNil)))) (mSeq (mSet 2 (mFz (mCallM sem__law_copied (aCons (mVar 0) aNil)))) (mSeq (mSet 3 (mC .none)) (mSeq (mSet 4 (mC (.int 0))) (mSeq (mTry (mSeq (mSet 4 (mFz (mCallM sem_look (aCons (mVar 2) aNil)))) mNil) (xCall xr_look (aCons (mVar 2) aNil)) ["NoOffer"] 5 3) (mSeq (mIf (mT (mL fNe (lSee 2 (lSee 0 lNil)))) (mSeq (mRet (mC (.bool false))) mNil) mNil) (mSeq (mIf (mT (mL fIsN (lSee 1 (lCons (mC .none) lNil)))) (mSeq (mRet (vAnd (mIsNX 3 true) (mL fIsN (lSee 4 (lCons (mC .none) lNil))))) mNil) mNil) (mSeq (mRet (mCallM sem__law_only_a92a (aCons (mVarX 3) (aCons (mVar 1) aNil)))) mNil))))))))
def sem__law_right_b9ca : Sem1 := runF 6 (List.replicate 1 false) m__law_right_b9ca
theorem un__law_right_b9ca (x0 : O) : sem__law_right_b9ca [x0] = fin (List.replicate 1 false) (m__law_right_b9ca [.own x0, .no, .no, .no, .no, .no]) := id rfl

def m__law_bad_tiers : MS := (mSeq (mSet 2 (mFz (mCallR sem__law_pop (aRf 1 aNil) [1]))) (mSeq (mAsg (.tp [(.n 3), (.n 4)]) (mLk ixO (lCons (mFz (mA addO (aCons (mA lstO (aCons (mA tupO (aCons (mC (.int 1)) (aCons (mC (.int 1)) aNil))) aNil)) (aCons (mVar 0) aNil)))) (lCons (mL fNeg (lCons (mC (.int 1)) lNil)) lNil)))) (mSeq (mSet 5 (mA lstO (aCons (mA lstO (aCons (mA tupO (aCons (mC (.int 0)) (aCons (mVar 4) aNil))) aNil)) (aCons (mA lstO (aCons (mA tupO (aCons (mC (.int 2)) (aCons (mVar 4) aNil))) aNil)) (aCons (mA addO (aCons (mVar 0) (aCons (mFz (mA lstO (aCons (mA tupO (aCons (mVar 3) (aCons (mVar 4) aNil))) aNil))) aNil))) (aCons (mA addO (aCons (mVar 0) (aCons (mFz (mA lstO (aCons (mA tupO (aCons (mL fSub (lSee 3 (lCons (mC (.int 1)) lNil))) (aCons (mVar 4) aNil))) aNil))) aNil))) (aCons (mA lstO aNil) aNil))))))) (mSeq (mSet 5 (mA addO (aCons (mVar 5) (aCons (mFz (mA lstO (aCons (mA addO (aCons (mVar 0) (aCons (mFz (mA lstO (aCons (mA tupO (aCons (mC (.int 13)) (aCons (mVar 4) aNil))) aNil))) aNil))) (aCons (mA lstO (aCons (mA tupO (aCons (mC (.int 1)) (aCons (mC (.int 1)) aNil))) (aCons (mA tupO (aCons (mC (.int 2)) (aCons (mC (.int 2)) aNil))) (aCons (mA tupO (aCons (mC (.int 3)) (aCons (mC (.int 3)) aNil))) (aCons (mA tupO (aCons (mC (.int 4)) (aCons (mC (.int 4)) aNil))) (aCons (mA tupO (aCons (mC (.int 5)) (aCons (mC (.int 5)) aNil))) aNil)))))) (aCons (mA lstO (aCons (mA tupO (aCons (mL fNeg (lCons (mC (.int 1)) lNil)) (aCons (mC (.int 1)) aNil))) (aCons (mA tupO (aCons (mC (.int 1)) (aCons (mC (.int 1)) aNil))) aNil))) aNil))))) aNil)))) (mSeq (mDrop (mUp 5 (aCons (mFz (mA lstO (aCons (mA tupO (aCons (mC (.int 1)) (aCons (mC (.int 0)) aNil))) (aCons (mA tupO (aCons (mL fPow (lCons (mC (.int 10)) (lCons (mC (.int 20)) lNil))) (aCons (mC (.int 0)) aNil))) aNil)))) aNil) uApp)) (mSeq (mRet (mLk ixO (lSee 5 (lCons (mL fMod (lSee 2 (lCons (mC (.int 9)) lNil))) lNil)))) mNil))))))
def sem__law_bad_tiers : Sem1 := runF 6 [false, true] m__law_bad_tiers
theorem un__law_bad_tiers (x0 x1 : O) : sem__law_bad_tiers [x0, x1] = fin [false, true] (m__law_bad_tiers [.own x0, .pin x1, .no, .no, .no, .no]) := id rfl

def ct__law_bent_4d22_1 : MD Bool := (mT (mL fNe (lCons (mLk ixO (lCons (mLk ixO (lSee 2 (lSee 7 lNil))) (lCons (mC (.int 0)) lNil))) (lCons (mC (.str "pack")) lNil))))
def ce__law_bent_4d22_1 : MD O := (mVar 7)
def m__law_bent_4d22 : MS := (mSeq (mSet 2 (mCallM sem__law_copied (aCons (mVar 0) aNil))) (mSeq (mIf (mT (mL fEq (lSee 2 (lCons (mA lstO aNil) lNil)))) (mSeq (mRet (mA lstO (aCons (mA tupO (aCons (mC (.str "add")) (aCons (mA lstO (aCons (mC (.int 1)) aNil)) (aCons (mC (.int 1)) (aCons (mLk ixO (lCons (mA lstO (aCons (mC (.int 0)) (aCons (mL fNeg (lCons (mC (.int 1)) lNil)) (aCons (mC (.int 5)) aNil)))) (lCons (mL fMod (lCons (mCallR sem__law_pop (aRf 1 aNil) [1]) (lCons (mC (.int 3)) lNil))) lNil))) aNil))))) aNil))) mNil) mNil) (mSeq (mSet 3 (mL fMod (lCons (mCallR sem__law_pop (aRf 1 aNil) [1]) (lCons (mL fLen (lSee 2 lNil)) lNil)))) (mSeq (mSet 4 (mLk ixO (lSee 2 (lSee 3 lNil)))) (mSeq (mIf (mT (mL fEq (lCons (mLk ixO (lSee 4 (lCons (mC (.int 0)) lNil))) (lCons (mC (.str "many")) lNil)))) (mSeq (mSetI 2 (mA tupO (aCons (mC (.str "many")) (aCons (mLk ixO (lSee 4 (lCons (mC (.int 1)) lNil))) (aCons (mCallR sem__law_bad_tiers (aCons (mLk ixO (lSee 4 (lCons (mC (.int 2)) lNil))) (aRf 1 aNil)) [1]) aNil)))) (mVar 3)) mNil) (mSeq (mSet 5 (mFz (mLc (iR1 (lSee 3 lNil)) (.n 7) ct__law_bent_4d22_1 ce__law_bent_4d22_1 [7]))) (mSeq (mSet 6 (mFz (mA addO (aCons (mA lstO (aCons (mL fNeg (lCons (mC (.int 1)) lNil)) (aCons (mVar 3) (aCons (mA addO (aCons (mVar 3) (aCons (mC (.int 1)) aNil))) (aCons (mL fLen (lSee 2 lNil)) (aCons (mL fNeg (lCons (mL fLen (lSee 2 lNil)) lNil)) (aCons (mL fPow (lCons (mC (.int 10)) (lCons (mC (.int 20)) lNil))) aNil))))))) (aCons (mVar 5) aNil))))) (mSeq (mSetI 2 (mA tupO (aCons (mC (.str "add")) (aCons (mLk ixO (lSee 4 (lCons (mC (.int 1)) lNil))) (aCons (mLk ixO (lSee 4 (lCons (mC (.int 2)) lNil))) (aCons (mLk ixO (lSee 6 (lCons (mL fMod (lCons (mCallR sem__law_pop (aRf 1 aNil) [1]) (lCons (mL fLen (lSee 6 lNil)) lNil))) lNil))) aNil))))) (mVar 3)) mNil)))) (mSeq (mKill [5, 6]) (mSeq (mRet (mMv 2)) mNil)))))))
def sem__law_bent_4d22 : Sem1 := runF 8 [false, true] m__law_bent_4d22
theorem un__law_bent_4d22 (x0 x1 : O) : sem__law_bent_4d22 [x0, x1] = fin [false, true] (m__law_bent_4d22 [.own x0, .pin x1, .no, .no, .no, .no, .no, .no]) := id rfl

def ct__law_subsets_1 : MD Bool := (mT (mL fEq (lCons (mL fAnd (lCons (mL fShr (lSee 2 (lSee 3 lNil))) (lCons (mC (.int 1)) lNil))) (lCons (mC (.int 1)) lNil))))
def ce__law_subsets_1 : MD O := (mLk ixO (lSee 0 (lSee 3 lNil)))
def b__law_subsets_1 : MS := (mSeq (mDrop (mUp 1 (aCons (mFz (mLc (iR1 (lCons (mL fLen (lSee 0 lNil)) lNil)) (.n 3) ct__law_subsets_1 ce__law_subsets_1 [3])) aNil) uApp)) (mSeq (mKill [2]) mNil))
def m__law_subsets : MS := (mSeq (mSet 1 (mA lstO (aCons (mA lstO aNil) aNil))) (mSeq (mFor (iR2 (lCons (mC (.int 1)) (lCons (mL fShl (lCons (mC (.int 1)) (lCons (mL fLen (lSee 0 lNil)) lNil))) lNil))) (.n 2) b__law_subsets_1) (mSeq (mKill [2]) (mSeq (mRet (mA srtO (aCons (mVar 1) aNil))) mNil))))
def sem__law_subsets : Sem1 := runF 4 (List.replicate 1 false) m__law_subsets
theorem un__law_subsets (x0 : O) : sem__law_subsets [x0] = fin (List.replicate 1 false) (m__law_subsets [.own x0, .no, .no, .no]) := id rfl

def ce__law_lines_81be_1 : MD O := (mA tupO (aCons (mVar 2) (aCons (mVar 5) (aCons (mA lstO aNil) aNil))))
def ct__law_lines_81be_1 : MD Bool := (tAndM (mT (mL fEq (lCons (mLk ixO (lCons (mLk ixO (lSee 0 (lSee 4 lNil))) (lCons (mC (.int 0)) lNil))) (lCons (mC (.str "add")) lNil)))) (mT (mL fEq (lCons (mLk ixO (lCons (mLk ixO (lSee 0 (lSee 4 lNil))) (lCons (mC (.int 3)) lNil))) (lSee 2 lNil)))))
def ce__law_lines_81be_2 : MD O := (mVar 4)
def ce__law_lines_81be_3 : MD O := (mA tupO (aCons (mVar 2) (aCons (mC (.int 1)) (aCons (mVar 6) aNil))))
def b__law_lines_81be_1 : MS := (mSeq (mIf (mT (mL fEq (lCons (mLk ixO (lCons (mLk ixO (lSee 0 (lSee 2 lNil))) (lCons (mC (.int 0)) lNil))) (lCons (mC (.str "many")) lNil)))) (mSeq (mSet 1 (mA addO (aCons (mVar 1) (aCons (mLc (mFrzE [2] (iR2 (lCons (mC (.int 1)) (lCons (mC (.int 13)) lNil)))) (.n 5) mYes ce__law_lines_81be_1 [5]) aNil)))) mNil) mNil) (mSeq (mIf (mT (mL fEq (lCons (mLk ixO (lCons (mLk ixO (lSee 0 (lSee 2 lNil))) (lCons (mC (.int 0)) lNil))) (lCons (mC (.str "pack")) lNil)))) (mSeq (mSet 3 (mFz (mLc (iR1 (lCons (mL fLen (lSee 0 lNil)) lNil)) (.n 4) ct__law_lines_81be_1 ce__law_lines_81be_2 [4]))) (mSeq (mSet 1 (mA addO (aCons (mVar 1) (aCons (mLc (mFrzE [2] (iL (mFz (mCallM sem__law_subsets (aCons (mVar 3) aNil))))) (.n 6) mYes ce__law_lines_81be_3 [6]) aNil)))) mNil)) mNil) (mSeq (mKill [2, 3]) mNil)))
def m__law_lines_81be : MS := (mSeq (mSet 1 (mA lstO aNil)) (mSeq (mFor (iR1 (lCons (mL fLen (lSee 0 lNil)) lNil)) (.n 2) b__law_lines_81be_1) (mSeq (mKill [2, 3]) (mSeq (mRet (mMv 1)) mNil))))
def sem__law_lines_81be : Sem1 := runF 7 (List.replicate 1 false) m__law_lines_81be
theorem un__law_lines_81be (x0 : O) : sem__law_lines_81be [x0] = fin (List.replicate 1 false) (m__law_lines_81be [.own x0, .no, .no, .no, .no, .no, .no]) := id rfl

def b_choices_1 : MS := (mSeq (mDbl 1 3 2) (mSeq (mKill [2]) mNil))
def m_choices : MS := (mSeq (mSet 1 (mA lstO (aCons (mA lstO aNil) aNil))) (mSeq (mFor (iL (mVar 0)) (.n 2) b_choices_1) (mSeq (mKill [2]) (mSeq (mRet (mA srtO (aMv 1 aNil))) mNil))))
def sem_choices : Sem1 := runF 4 (List.replicate 1 false) m_choices
theorem un_choices (x0 : O) : sem_choices [x0] = fin (List.replicate 1 false) (m_choices [.own x0, .no, .no, .no]) := id rfl

def ct_adds_of_1 : MD Bool := (tAndM (mT (mL fEq (lCons (mLk ixO (lSee 3 (lCons (mC (.int 0)) lNil))) (lCons (mC (.str "add")) lNil)))) (mT (mL fEq (lCons (mLk ixO (lSee 3 (lCons (mC (.int 3)) lNil))) (lSee 1 lNil)))))
def ce_adds_of_1 : MD O := (mVar 2)
def m_adds_of : MS := (mSeq (mRet (mLc (iE (aCons (mVar 0) aNil)) (.tp [(.n 2), (.n 3)]) ct_adds_of_1 ce_adds_of_1 [2, 3])) mNil)
def sem_adds_of : Sem1 := runF 4 (List.replicate 2 false) m_adds_of
theorem un_adds_of (x0 x1 : O) : sem_adds_of [x0, x1] = fin (List.replicate 2 false) (m_adds_of [.own x0, .own x1, .no, .no]) := id rfl

def ce_lines_1 : MD O := (mA tupO (aCons (mVar 2) (aCons (mC (.int 1)) (aMv 4 aNil))))
def ce_lines_2 : MD O := (mA tupO (aCons (mVar 2) (aCons (mVar 5) (aCons (mA lstO aNil) aNil))))
def b_lines_1 : MS := (mSeq (mIf (mT (mL fEq (lCons (mLk ixO (lSee 3 (lCons (mC (.int 0)) lNil))) (lCons (mC (.str "pack")) lNil)))) (mSeq (mDrop (mUp 1 (aCons (mLc (mFrzE [2] (iL (mCallM sem_choices (aCons (mFz (mCallM sem_adds_of (aCons (mVar 0) (aCons (mVar 2) aNil)))) aNil)))) (.n 4) mYes ce_lines_1 [4]) aNil) uExt)) mNil) mNil) (mSeq (mIf (mT (mL fEq (lCons (mLk ixO (lSee 3 (lCons (mC (.int 0)) lNil))) (lCons (mC (.str "many")) lNil)))) (mSeq (mDrop (mUp 1 (aCons (mLc (mFrzE [2] (iR2 (lCons (mC (.int 1)) (lCons (mA addO (aCons (mC (.int 12)) (aCons (mC (.int 1)) aNil))) lNil)))) (.n 5) mYes ce_lines_2 [5]) aNil) uExt)) mNil) mNil) (mSeq (mKill [2, 3]) mNil)))
def m_lines : MS := (mSeq (mDrop (mCallM sem_look (aCons (mVar 0) aNil))) (mSeq (mSet 1 (mA lstO aNil)) (mSeq (mFor (mFrzE [0] (iE (aCons (mVar 0) aNil))) (.tp [(.n 2), (.n 3)]) b_lines_1) (mSeq (mKill [2, 3]) (mSeq (mRet (mMv 1)) mNil)))))
def sem_lines : Sem1 := runF 6 (List.replicate 1 false) m_lines
theorem un_lines (x0 : O) : sem_lines [x0] = fin (List.replicate 1 false) (m_lines [.own x0, .no, .no, .no, .no, .no]) := id rfl

def ct_tier_price_1 : MD Bool := (mT (mL fLe (lSee 2 (lSee 1 lNil))))
def ce_tier_price_1 : MD O := (mVar 3)
def m_tier_price : MS := (mSeq (mRet (mLk ixO (lCons (mLc (iL (mVar 0)) (.tp [(.n 2), (.n 3)]) ct_tier_price_1 ce_tier_price_1 [2, 3]) (lCons (mL fNeg (lCons (mC (.int 1)) lNil)) lNil)))) mNil)
def sem_tier_price : Sem1 := runF 4 (List.replicate 2 false) m_tier_price
theorem un_tier_price (x0 x1 : O) : sem_tier_price [x0, x1] = fin (List.replicate 2 false) (m_tier_price [.own x0, .own x1, .no, .no]) := id rfl

def ce_line_price_1 : MD O := (mLk ixO (lCons (mLk ixO (lSee 0 (lSee 5 lNil))) (lCons (mC (.int 2)) lNil)))
def m_line_price : MS := (mSeq (mDrop (mCallM sem_look (aCons (mVar 0) aNil))) (mSeq (mAsg (.tp [(.n 2), (.n 3), (.n 4)]) (mVar 1)) (mSeq (mIf (mT (mL fEq (lCons (mLk ixO (lCons (mLk ixO (lSee 0 (lSee 2 lNil))) (lCons (mC (.int 0)) lNil))) (lCons (mC (.str "many")) lNil)))) (mSeq (mRet (mL fMul (lSee 3 (lCons (mCallM sem_tier_price (aCons (mLk ixO (lCons (mLk ixO (lSee 0 (lSee 2 lNil))) (lCons (mC (.int 2)) lNil))) (aCons (mVar 3) aNil))) lNil)))) mNil) mNil) (mSeq (mRet (mA addO (aCons (mLk ixO (lCons (mLk ixO (lSee 0 (lSee 2 lNil))) (lCons (mC (.int 2)) lNil))) (aCons (mL fSum (lCons (mLc (iL (mVar 4)) (.n 5) mYes ce_line_price_1 [5]) lNil)) aNil)))) mNil))))
def sem_line_price : Sem1 := runF 6 (List.replicate 2 false) m_line_price
theorem un_line_price (x0 x1 : O) : sem_line_price [x0, x1] = fin (List.replicate 2 false) (m_line_price [.own x0, .own x1, .no, .no, .no, .no]) := id rfl

def ce__law_line_price_1 : MD O := (mLk ixO (lCons (mLk ixO (lSee 0 (lSee 3 lNil))) (lCons (mC (.int 2)) lNil)))
def b__law_line_price_1 : MS := (mSeq (mIf (mT (mL fLe (lSee 5 (lCons (mLk ixO (lSee 1 (lCons (mC (.int 1)) lNil))) lNil)))) (mSeq (mSet 4 (mVar 6)) mNil) mNil) (mSeq (mKill [5, 6]) mNil))
def m__law_line_price : MS := (mSeq (mSet 2 (mLk ixO (lSee 0 (lCons (mLk ixO (lSee 1 (lCons (mC (.int 0)) lNil))) lNil)))) (mSeq (mIf (mT (mL fEq (lCons (mLk ixO (lSee 2 (lCons (mC (.int 0)) lNil))) (lCons (mC (.str "pack")) lNil)))) (mSeq (mRet (mA addO (aCons (mLk ixO (lSee 2 (lCons (mC (.int 2)) lNil))) (aCons (mL fSum (lCons (mLc (iL (mLk ixO (lSee 1 (lCons (mC (.int 2)) lNil)))) (.n 3) mYes ce__law_line_price_1 [3]) lNil)) aNil)))) mNil) mNil) (mSeq (mSet 4 (mC (.int 0))) (mSeq (mFor (iL (mLk ixO (lSee 2 (lCons (mC (.int 2)) lNil)))) (.tp [(.n 5), (.n 6)]) b__law_line_price_1) (mSeq (mKill [5, 6]) (mSeq (mRet (mL fMul (lCons (mLk ixO (lSee 1 (lCons (mC (.int 1)) lNil))) (lSee 4 lNil)))) mNil))))))
def sem__law_line_price : Sem1 := runF 7 (List.replicate 2 false) m__law_line_price
theorem un__law_line_price (x0 x1 : O) : sem__law_line_price [x0, x1] = fin (List.replicate 2 false) (m__law_line_price [.own x0, .own x1, .no, .no, .no, .no, .no]) := id rfl

def ce__law_sum_1 : MD O := (mA addO (aCons (mLk ixO (lSee 0 (lSee 2 lNil))) (aCons (mLk ixO (lSee 1 (lSee 2 lNil))) aNil)))
def m__law_sum : MS := (mSeq (mRet (mLc (iR1 (lCons (mL fLen (lSee 0 lNil)) lNil)) (.n 2) mYes ce__law_sum_1 [2])) mNil)
def sem__law_sum : Sem1 := runF 3 (List.replicate 2 false) m__law_sum
theorem un__law_sum (x0 x1 : O) : sem__law_sum [x0, x1] = fin (List.replicate 2 false) (m__law_sum [.own x0, .own x1, .no]) := id rfl

def ce__law_line_content_1 : MD O := (mL fMul (lCons (mLk ixO (lSee 1 (lCons (mC (.int 1)) lNil))) (lSee 3 lNil)))
def b__law_line_content_1 : MS := (mSeq (mSet 2 (mCallM sem__law_sum (aCons (mVar 2) (aCons (mLk ixO (lCons (mLk ixO (lSee 0 (lSee 4 lNil))) (lCons (mC (.int 1)) lNil))) aNil)))) (mSeq (mKill [4]) mNil))
def m__law_line_content : MS := (mSeq (mSet 2 (mLc (iL (mLk ixO (lCons (mLk ixO (lSee 0 (lCons (mLk ixO (lSee 1 (lCons (mC (.int 0)) lNil))) lNil))) (lCons (mC (.int 1)) lNil)))) (.n 3) mYes ce__law_line_content_1 [3])) (mSeq (mFor (iL (mLk ixO (lSee 1 (lCons (mC (.int 2)) lNil)))) (.n 4) b__law_line_content_1) (mSeq (mKill [4]) (mSeq (mRet (mMv 2)) mNil))))
def sem__law_line_content : Sem1 := runF 5 (List.replicate 2 false) m__law_line_content
theorem un__law_line_content (x0 x1 : O) : sem__law_line_content [x0, x1] = fin (List.replicate 2 false) (m__law_line_content [.own x0, .own x1, .no, .no, .no]) := id rfl

def ce_put_together_1 : MD O := (mA addO (aCons (mVar 2) (aCons (mVar 3) aNil)))
def m_put_together : MS := (mSeq (mRet (mLc (iZ (aCons (mVar 0) (aCons (mVar 1) aNil))) (.tp [(.n 2), (.n 3)]) mYes ce_put_together_1 [2, 3])) mNil)
def sem_put_together : Sem1 := runF 4 (List.replicate 2 false) m_put_together
theorem un_put_together (x0 x1 : O) : sem_put_together [x0, x1] = fin (List.replicate 2 false) (m_put_together [.own x0, .own x1, .no, .no]) := id rfl

def ce_line_content_1 : MD O := (mL fMul (lSee 3 (lSee 6 lNil)))
def b_line_content_1 : MS := (mSeq (mSet 5 (mCallM sem_put_together (aCons (mVar 5) (aCons (mLk ixO (lCons (mLk ixO (lSee 0 (lSee 7 lNil))) (lCons (mC (.int 1)) lNil))) aNil)))) (mSeq (mKill [7]) mNil))
def m_line_content : MS := (mSeq (mDrop (mCallM sem_look (aCons (mVar 0) aNil))) (mSeq (mAsg (.tp [(.n 2), (.n 3), (.n 4)]) (mVar 1)) (mSeq (mSet 5 (mLc (iL (mLk ixO (lCons (mLk ixO (lSee 0 (lSee 2 lNil))) (lCons (mC (.int 1)) lNil)))) (.n 6) mYes ce_line_content_1 [6])) (mSeq (mFor (iL (mVar 4)) (.n 7) b_line_content_1) (mSeq (mKill [7]) (mSeq (mRet (mMv 5)) mNil))))))
def sem_line_content : Sem1 := runF 8 (List.replicate 2 false) m_line_content
theorem un_line_content (x0 x1 : O) : sem_line_content [x0, x1] = fin (List.replicate 2 false) (m_line_content [.own x0, .own x1, .no, .no, .no, .no, .no, .no]) := id rfl

def ce_bought_1 : MD O := (mC (.int 0))
def b_bought_1 : MS := (mSeq (mSet 2 (mCallM sem_put_together (aCons (mVar 2) (aCons (mFz (mCallM sem_line_content (aCons (mVar 0) (aCons (mVar 5) aNil)))) aNil)))) (mSeq (mAugI 4 (mCallM sem_line_price (aCons (mVar 0) (aCons (mVar 5) aNil)))) (mSeq (mKill [5]) mNil)))
def m_bought : MS := (mSeq (mDrop (mCallM sem_look (aCons (mVar 0) aNil))) (mSeq (mSet 2 (mA lstO aNil)) (mSeq (mIf (mT (mL fNe (lSee 0 (lCons (mA lstO aNil) lNil)))) (mSeq (mSet 2 (mLc (iL (mLk ixO (lCons (mLk ixO (lSee 0 (lCons (mC (.int 0)) lNil))) (lCons (mC (.int 1)) lNil)))) (.n 3) mYes ce_bought_1 [3])) mNil) mNil) (mSeq (mSet 4 (mC (.int 0))) (mSeq (mFor (mFrzE [0] (iL (mVar 1))) (.n 5) b_bought_1) (mSeq (mKill [5]) (mSeq (mRet (mA tupO (aMv 2 (aCons (mVar 4) aNil)))) mNil)))))))
def sem_bought : Sem1 := runF 6 (List.replicate 2 false) m_bought
theorem un_bought (x0 x1 : O) : sem_bought [x0, x1] = fin (List.replicate 2 false) (m_bought [.own x0, .own x1, .no, .no, .no, .no]) := id rfl

def m__law_which : MS := (mSeq (mSet 1 (mA lstO (aCons (mIsiX 0 [("NoOffer", false), ("NoText", false)]) (aCons (mIsiX 0 [("NoOffer", true), ("NoText", false)]) (aCons (mIsiX 0 [("NoOffer", false), ("NoText", false)]) (aCons (mIsiX 0 [("NoOffer", false), ("NoText", true)]) aNil)))))) (mSeq (mDrop (mUp 1 (aCons (mFz (mIsiX 0 [("NoOffer", false), ("NoText", false)])) aNil) uApp)) (mSeq (mIf (tOrM (tNotM (mT (mIsiX 0 [("NoOffer", true), ("NoText", true)]))) (tOrM (tNotM (mT (mIsiX 0 [("NoOffer", true), ("NoText", true)]))) (mT (mL fNe (lCons (mLM 1 fCount (lCons (mC (.bool true)) lNil)) (lCons (mC (.int 1)) lNil)))))) (mSeq (mRet (mC (.str "odd"))) mNil) mNil) (mSeq (mRet (mLk ixO (lCons (mA lstO (aCons (mC (.str "line")) (aCons (mC (.str "offer")) (aCons (mC (.str "place")) (aCons (mC (.str "text")) (aCons (mC (.str "things")) aNil)))))) (lCons (mLM 1 fIndex (lCons (mC (.bool true)) lNil)) lNil)))) mNil))))
def sem__law_which : Sem1 := runF 2 (List.replicate 1 false) m__law_which
theorem un__law_which (x0 : O) : sem__law_which [x0] = fin (List.replicate 1 false) (m__law_which [.own x0, .no]) := id rfl

def x_lines : MX := (xCall xr_look (aCons (mVar 0) aNil))
def xr_lines : List O → Option Exn := runX 6 1 x_lines
theorem ux_lines (x0 : O) : xr_lines [x0] = (x_lines [.own x0, .no, .no, .no, .no, .no]).map (·.1) := id rfl

def x_line_content : MX := (xCall xr_look (aCons (mVar 0) aNil))
def xr_line_content : List O → Option Exn := runX 8 2 x_line_content
theorem ux_line_content (x0 x1 : O) : xr_line_content [x0, x1] = (x_line_content [.own x0, .own x1, .no, .no, .no, .no, .no, .no]).map (·.1) := id rfl

def x_line_price : MX := (xCall xr_look (aCons (mVar 0) aNil))
def xr_line_price : List O → Option Exn := runX 6 2 x_line_price
theorem ux_line_price (x0 x1 : O) : xr_line_price [x0, x1] = (x_line_price [.own x0, .own x1, .no, .no, .no, .no]).map (·.1) := id rfl

def x_bought : MX := (xCall xr_look (aCons (mVar 0) aNil))
def xr_bought : List O → Option Exn := runX 6 2 x_bought
theorem ux_bought (x0 x1 : O) : xr_bought [x0, x1] = (x_bought [.own x0, .own x1, .no, .no, .no, .no]).map (·.1) := id rfl

def x_spared : MX := (xCall xr_look (aCons (mVar 0) aNil))
def xr_spared : List O → Option Exn := runX 4 1 x_spared
theorem ux_spared (x0 : O) : xr_spared [x0] = (x_spared [.own x0, .no, .no, .no]).map (·.1) := id rfl

def x_thinned : MX := (xCall xr_look (aCons (mVar 0) aNil))
def xr_thinned : List O → Option Exn := runX 4 1 x_thinned
theorem ux_thinned (x0 : O) : xr_thinned [x0] = (x_thinned [.own x0, .no, .no, .no]).map (·.1) := id rfl

def x__law_asked_first : MX := (xAlt (xIf (mT (mL fEq (lSee 0 (lCons (mC (.int 0)) lNil)))) (xCall xr_lines (aCons (mVar 1) aNil)) xNo) (xThen (mIf (mT (mL fEq (lSee 0 (lCons (mC (.int 0)) lNil)))) mNo mNil) (xAlt (xIf (mT (mL fEq (lSee 0 (lCons (mC (.int 1)) lNil)))) (xCall xr_line_content (aCons (mVar 1) (aCons (mFz (mA tupO (aCons (mC (.int 0)) (aCons (mC (.int 1)) (aCons (mA lstO aNil) aNil))))) aNil))) xNo) (xThen (mIf (mT (mL fEq (lSee 0 (lCons (mC (.int 1)) lNil)))) mNo mNil) (xAlt (xIf (mT (mL fEq (lSee 0 (lCons (mC (.int 2)) lNil)))) (xCall xr_line_price (aCons (mVar 1) (aCons (mFz (mA tupO (aCons (mC (.int 0)) (aCons (mC (.int 1)) (aCons (mA lstO aNil) aNil))))) aNil))) xNo) (xThen (mIf (mT (mL fEq (lSee 0 (lCons (mC (.int 2)) lNil)))) mNo mNil) (xAlt (xIf (mT (mL fEq (lSee 0 (lCons (mC (.int 3)) lNil)))) (xCall xr_bought (aCons (mVar 1) (aCons (mFz (mA lstO aNil)) aNil))) xNo) (xThen (mIf (mT (mL fEq (lSee 0 (lCons (mC (.int 3)) lNil)))) mNo mNil) (xAlt (xIf (mT (mL fEq (lSee 0 (lCons (mC (.int 4)) lNil)))) (xCall xr_spared (aCons (mVar 1) aNil)) xNo) (xThen (mIf (mT (mL fEq (lSee 0 (lCons (mC (.int 4)) lNil)))) mNo mNil) (xCall xr_thinned (aCons (mVar 1) aNil))))))))))))
def xr__law_asked_first : List O → Option Exn := runX 2 2 x__law_asked_first
theorem ux__law_asked_first (x0 x1 : O) : xr__law_asked_first [x0, x1] = (x__law_asked_first [.own x0, .own x1]).map (·.1) := id rfl

def x_goods : MX := (xCall xr_lines (aCons (mVar 0) aNil))
def xr_goods : List O → Option Exn := runX 2 1 x_goods
theorem ux_goods (x0 : O) : xr_goods [x0] = (x_goods [.own x0, .no]).map (·.1) := id rfl

def x_reckoned : MX := (xCall xr_goods (aCons (mVar 0) aNil))
def xr_reckoned : List O → Option Exn := runX 5 2 x_reckoned
theorem ux_reckoned (x0 x1 : O) : xr_reckoned [x0, x1] = (x_reckoned [.own x0, .own x1, .no, .no, .no]).map (·.1) := id rfl

def x_least : MX := (xCall xr_reckoned (aCons (mVar 0) (aCons (mVar 1) aNil)))
def xr_least : List O → Option Exn := runX 7 2 x_least
theorem ux_least (x0 x1 : O) : xr_least [x0, x1] = (x_least [.own x0, .own x1, .no, .no, .no, .no, .no]).map (·.1) := id rfl

def x_cases : MX := (xCall xr_reckoned (aCons (mVar 0) (aCons (mVar 1) aNil)))
def xr_cases : List O → Option Exn := runX 4 2 x_cases
theorem ux_cases (x0 x1 : O) : xr_cases [x0, x1] = (x_cases [.own x0, .own x1, .no, .no]).map (·.1) := id rfl

def x_shows : MX := (xCall xr_goods (aCons (mVar 0) aNil))
def xr_shows : List O → Option Exn := runX 12 3 x_shows
theorem ux_shows (x0 x1 x2 : O) : xr_shows [x0, x1, x2] = (x_shows [.own x0, .own x1, .own x2, .no, .no, .no, .no, .no, .no, .no, .no, .no]).map (·.1) := id rfl

def x_fair : MX := (xCall xr_goods (aCons (mVar 0) aNil))
def xr_fair : List O → Option Exn := runX 2 2 x_fair
theorem ux_fair (x0 x1 : O) : xr_fair [x0, x1] = (x_fair [.own x0, .own x1]).map (·.1) := id rfl

def x_single_prices : MX := (xCall xr_goods (aCons (mVar 0) aNil))
def xr_single_prices : List O → Option Exn := runX 15 2 x_single_prices
theorem ux_single_prices (x0 x1 : O) : xr_single_prices [x0, x1] = (x_single_prices [.own x0, .own x1, .no, .no, .no, .no, .no, .no, .no, .no, .no, .no, .no, .no, .no]).map (·.1) := id rfl

def x_hold_together : MX := (xCall xr_goods (aCons (mVar 0) aNil))
def xr_hold_together : List O → Option Exn := runX 9 3 x_hold_together
theorem ux_hold_together (x0 x1 x2 : O) : xr_hold_together [x0, x1, x2] = (x_hold_together [.own x0, .own x1, .own x2, .no, .no, .no, .no, .no, .no]).map (·.1) := id rfl

def x_moves : MX := (xCall xr_look (aCons (mVar 0) aNil))
def xr_moves : List O → Option Exn := runX 10 3 x_moves
theorem ux_moves (x0 x1 x2 : O) : xr_moves [x0, x1, x2] = (x_moves [.own x0, .own x1, .own x2, .no, .no, .no, .no, .no, .no, .no]).map (·.1) := id rfl

def x_show_shop : MX := (xCall xr_look (aCons (mVar 1) aNil))
def xr_show_shop : List O → Option Exn := runX 3 2 x_show_shop
theorem ux_show_shop (x0 x1 : O) : xr_show_shop [x0, x1] = (x_show_shop [.own x0, .own x1, .no]).map (·.1) := id rfl

def ce__law_asked_0a4b_1 : MD O := (mA tupO (aCons (mC (.int 0)) (aCons (mC (.int 1)) aNil)))
def x__law_asked_0a4b : MX := (xThen (mSet 3 (mFz (mLc (iL (mVar 2)) (.n 4) mYes ce__law_asked_0a4b_1 [4]))) (xAlt (xIf (mT (mL fLt (lSee 0 (lCons (mC (.int 6)) lNil)))) (xCall xr__law_asked_first (aCons (mVar 0) (aCons (mVar 1) aNil))) xNo) (xThen (mIf (mT (mL fLt (lSee 0 (lCons (mC (.int 6)) lNil)))) mNo mNil) (xAlt (xIf (mT (mL fEq (lSee 0 (lCons (mC (.int 6)) lNil)))) (xCall xr_least (aCons (mVar 1) (aCons (mVar 2) aNil))) xNo) (xThen (mIf (mT (mL fEq (lSee 0 (lCons (mC (.int 6)) lNil)))) mNo mNil) (xAlt (xIf (mT (mL fEq (lSee 0 (lCons (mC (.int 7)) lNil)))) (xCall xr_cases (aCons (mVar 1) (aCons (mVar 2) aNil))) xNo) (xThen (mIf (mT (mL fEq (lSee 0 (lCons (mC (.int 7)) lNil)))) mNo mNil) (xAlt (xIf (mT (mL fEq (lSee 0 (lCons (mC (.int 8)) lNil)))) (xCall xr_shows (aCons (mVar 1) (aCons (mVar 2) (aCons (mFz (mA lstO aNil)) aNil)))) xNo) (xThen (mIf (mT (mL fEq (lSee 0 (lCons (mC (.int 8)) lNil)))) mNo mNil) (xAlt (xIf (mT (mL fEq (lSee 0 (lCons (mC (.int 9)) lNil)))) (xCall xr_fair (aCons (mVar 1) (aCons (mVar 3) aNil))) xNo) (xThen (mIf (mT (mL fEq (lSee 0 (lCons (mC (.int 9)) lNil)))) mNo mNil) (xAlt (xIf (mT (mL fEq (lSee 0 (lCons (mC (.int 10)) lNil)))) (xCall xr_single_prices (aCons (mVar 1) (aCons (mVar 2) aNil))) xNo) (xThen (mIf (mT (mL fEq (lSee 0 (lCons (mC (.int 10)) lNil)))) mNo mNil) (xAlt (xIf (mT (mL fEq (lSee 0 (lCons (mC (.int 11)) lNil)))) (xCall xr_hold_together (aCons (mVar 1) (aCons (mVar 2) (aCons (mFz (mA tupO (aCons (mA tupO (aCons (mC (.int 0)) (aCons (mC (.int 1)) aNil))) (aCons (mVar 3) (aCons (mA lstO aNil) aNil))))) aNil)))) xNo) (xThen (mIf (mT (mL fEq (lSee 0 (lCons (mC (.int 11)) lNil)))) mNo mNil) (xAlt (xIf (mT (mL fEq (lSee 0 (lCons (mC (.int 12)) lNil)))) (xCall xr_moves (aCons (mVar 1) (aCons (mVar 2) (aCons (mC (.int 0)) aNil)))) xNo) (xThen (mIf (mT (mL fEq (lSee 0 (lCons (mC (.int 12)) lNil)))) mNo mNil) (xCall xr_show_shop (aCons (mFz (mSl (mA lstO (aCons (mC (.str "a")) (aCons (mC (.str "b")) (aCons (mC (.str "c")) (aCons (mC (.str "d")) aNil))))) oNone (oSome (mL fLen (lSee 2 lNil))))) (aCons (mVar 1) aNil))))))))))))))))))))
def xr__law_asked_0a4b : List O → Option Exn := runX 5 3 x__law_asked_0a4b
theorem ux__law_asked_0a4b (x0 x1 x2 : O) : xr__law_asked_0a4b [x0, x1, x2] = (x__law_asked_0a4b [.own x0, .own x1, .own x2, .no, .no]).map (·.1) := id rfl

def m__law_refused_a221 : MS := (mSeq (mSet 4 (mC .none)) (mSeq (mTry mNo (xCall xr__law_asked_0a4b (aCons (mVar 0) (aCons (mVar 1) (aCons (mVar 2) aNil)))) ["NoOffer"] 5 4) (mSeq (mRet (vAnd (mIsNX 4 false) (vAnd (mL fEq (lCons (mCallM sem__law_which (aCons (mVarX 4) aNil)) (lCons (mC (.str "offer")) lNil))) (mL fEq (lCons (mFldC 4 "place" ["NoOffer"]) (lSee 3 lNil)))))) mNil)))
def sem__law_refused_a221 : Sem1 := runF 6 (List.replicate 4 false) m__law_refused_a221
theorem un__law_refused_a221 (x0 x1 x2 x3 : O) : sem__law_refused_a221 [x0, x1, x2, x3] = fin (List.replicate 4 false) (m__law_refused_a221 [.own x0, .own x1, .own x2, .own x3, .no, .no]) := id rfl

def ct_law_k09_1 : MD Bool := (mT (mL fNe (lCons (mLk ixO (lCons (mLk ixO (lSee 3 (lSee 10 lNil))) (lCons (mC (.int 0)) lNil))) (lCons (mC (.str "pack")) lNil))))
def ce_law_k09_1 : MD O := (mVar 10)
def b_law_k09_1 : MS := (mSeq (mIf (tNotM (mT (mCallM sem__law_refused_a221 (aCons (mVar 12) (aCons (mVar 11) (aCons (mVar 4) (aCons (mVar 5) aNil))))))) (mSeq (mRet (mC (.bool false))) mNil) mNil) (mSeq (mKill [12]) mNil))
def m_law_k09 : MS := (mSeq (mSet 1 (mCallM sem__law_draws_e473 (aCons (mVar 0) (aCons (mC (.int 2)) (aCons (mC (.int 80)) aNil))))) (mSeq (mSet 2 (mFz (mA addO (aCons (mC (.int 1)) (aCons (mL fMod (lCons (mCallR sem__law_pop (aRf 1 aNil) [1]) (lCons (mC (.int 4)) lNil))) aNil))))) (mSeq (mSet 3 (mFz (mCallR sem__law_shop_0742 (aRf 1 (aCons (mVar 2) (aCons (mC (.int 5)) aNil))) [1]))) (mSeq (mDrop (mCallM sem_look (aCons (mVar 3) aNil))) (mSeq (mSet 4 (mFz (mCallR sem__law_want_aecb (aRf 1 (aCons (mVar 2) aNil)) [1]))) (mSeq (mSet 5 (mL fMod (lCons (mCallR sem__law_pop (aRf 1 aNil) [1]) (lCons (mA addO (aCons (mL fLen (lSee 3 lNil)) (aCons (mC (.int 1)) aNil))) lNil)))) (mSeq (mSet 6 (mFz (mCallR sem__law_content_9bc7 (aRf 1 (aCons (mVar 2) aNil)) [1]))) (mSeq (mSet 7 (mFz (mCallR sem__law_pop (aRf 1 aNil) [1]))) (mSeq (mSet 8 (mA lstO (aCons (mFz (mA tupO (aCons (mC (.str "add")) (aCons (mVar 6) (aCons (mC (.int 1)) (aCons (mVar 5) aNil)))))) (aCons (mFz (mA tupO (aCons (mC (.str "add")) (aCons (mVar 6) (aCons (mC (.int 1)) (aCons (mA addO (aCons (mVar 5) (aCons (mC (.int 1)) aNil))) aNil)))))) (aCons (mFz (mA tupO (aCons (mC (.str "add")) (aCons (mVar 6) (aCons (mC (.int 1)) (aCons (mL fNeg (lCons (mC (.int 1)) lNil)) aNil)))))) (aCons (mFz (mA tupO (aCons (mC (.str "many")) (aCons (mVar 6) (aCons (mA lstO (aCons (mA tupO (aCons (mC (.int 2)) (aCons (mC (.int 5)) aNil))) aNil)) aNil))))) aNil)))))) (mSeq (mSet 9 (mFz (mLc (iR1 (lSee 5 lNil)) (.n 10) ct_law_k09_1 ce_law_k09_1 [10]))) (mSeq (mIf (mT (mL fNe (lSee 9 (lCons (mA lstO aNil) lNil)))) (mSeq (mDrop (mUp 8 (aCons (mFz (mA tupO (aCons (mC (.str "add")) (aCons (mVar 6) (aCons (mC (.int 1)) (aCons (mLk ixO (lSee 9 (lCons (mL fNeg (lCons (mC (.int 1)) lNil)) lNil))) aNil)))))) aNil) uApp)) mNil) mNil) (mSeq (mSet 11 (mFz (mA addO (aCons (mSl (mVar 3) oNone (oSome (mVar 5))) (aCons (mA lstO (aCons (mLk ixO (lSee 8 (lCons (mL fMod (lSee 7 (lCons (mL fLen (lSee 8 lNil)) lNil))) lNil))) aNil)) aNil))))) (mSeq (mFor (mFrzE [4, 5, 11] (iR1 (lCons (mC (.int 14)) lNil))) (.n 12) b_law_k09_1) (mSeq (mKill [12]) (mSeq (mRet (mC (.bool true))) mNil)))))))))))))))
def sem_law_k09 : Sem1 := runF 13 (List.replicate 1 false) m_law_k09
theorem un_law_k09 (x0 : O) : sem_law_k09 [x0] = fin (List.replicate 1 false) (m_law_k09 [.own x0, .no, .no, .no, .no, .no, .no, .no, .no, .no, .no, .no, .no]) := id rfl

def b__law_left_1 : MS := (mSeq (mSet 5 (mFz (mCallM sem_rest (aCons (mVar 3) (aCons (mFz (mCallM sem_line_content (aCons (mVar 0) (aCons (mVar 4) aNil)))) aNil))))) (mSeq (mIf (tNotM (mT (mCallM sem_covers (aCons (mVar 3) (aCons (mVar 5) aNil))))) (mSeq (mRet (mC .none)) mNil) mNil) (mSeq (mSet 3 (mVar 5)) (mSeq (mKill [4, 5]) mNil))))
def m__law_left : MS := (mSeq (mSet 3 (mA listO (aCons (mVar 2) aNil))) (mSeq (mFor (mFrzE [0] (iL (mVar 1))) (.n 4) b__law_left_1) (mSeq (mKill [4, 5]) (mSeq (mRet (mMv 3)) mNil))))
def sem__law_left : Sem1 := runF 6 (List.replicate 3 false) m__law_left
theorem un__law_left (x0 x1 x2 : O) : sem__law_left [x0, x1, x2] = fin (List.replicate 3 false) (m__law_left [.own x0, .own x1, .own x2, .no, .no, .no]) := id rfl

end
end Dn
set_option Elab.async false
set_option linter.all false
set_option maxRecDepth 100000
set_option maxHeartbeats 4000000
namespace Dn
open PySem L2
/-! the draws -/
theorem draws_ok (ns : List Int) (hl : ns.length ≤ 63) (t m : Int) (ht : 0 ≤ t ∧ t ≤ 100) (hm : 0 ≤ m ∧ m ≤ 1000) : ∃ ds : List Int, sem__law_draws_e473 [.s ns, oi t, oi m] = some (.l (ds.map oi), []) := by
  obtain ⟨c, hc⟩ : ∃ c : List Int, c = cutG ns none (some 63) ++ [t] := ⟨_, rfl⟩
  have hcl : c.length ≤ 64 := by
    rw [hc, List.length_append, cutG, List.length_take, List.length_drop]
    simp; omega
  have hc0 : 0 < c.length := by rw [hc]; simp
  have hcut : (cutG ns none (some 63)).length ≤ 16777215 := by
    rw [cutG, List.length_take, List.length_drop]; omega
  have hcm : (cutG ns none (some 63)).map PyData.int ++ [PyData.int t] = c.map .int := by rw [hc]; simp
  obtain ⟨c0, hc00, -⟩ := atI_in c (i := 0) (by omega) (by omega)
  -- the one way
  have hlc : lcL (.n 8) mYes ce__law_draws_e473_1 [8] (c.map fun n => .v (.int n)) [.own (.s ns), .own (oi t), .own (oi m), .own (.v (.list (c.map .int))), .own (.l []), .no, .no, .no, .no, .no, .no] = some (c.map (fun n => oi (n / 100000)), [.own (.s ns), .own (oi t), .own (oi m), .own (.v (.list (c.map .int))), .own (.l []), .no, .no, .no, .no, .no, .no]) := by
    refine lc_map _ fun p _ => ?_
    simp [ce__law_draws_e473_1]
  let E1 : List Int × List Int → En := fun s => [.own (.s ns), .own (oi t), .own (oi m), .own (.v (.list (c.map .int))), .own (.l (s.1.map oi)), .own (.l (s.2.map oi)), .no, .no, .no, .no, .no]
  obtain ⟨s1, h1, -⟩ := for_inv (tg := .n 6) (body := b__law_draws_e473_1) (enc := fun (k : Nat) => O.v (.int (k : Int))) (E := E1) (fun pre s => s.1.length ≤ pre.length ∧ s.2.length = c.length) (all := List.range (t + m).toNat) (List.range (t + m).toNat) [] ([], c.map (· / 100000)) rfl (by simp) (by
    intro pre k post s hall hI
    have hkl : pre.length < 2000 := by
      have := congrArg List.length hall
      simp at this; omega
    obtain ⟨x, hx, hx2⟩ := atI_in s.2 (i := (k : Int) % (s.2.length : Int)) (Int.emod_nonneg _ (by omega)) (Int.emod_lt_of_pos _ (by omega))
    have hpos : fMod [.int (k : Int), .int (s.2.length : Int)] = some (.int ((k : Int) % (s.2.length : Int))) := fMod_s (by omega)
    have hix : ixN s.2.length ((k : Int) % (s.2.length : Int)) = some (((k : Int) % (s.2.length : Int)).toNat) := ixN_in (Int.emod_nonneg _ (by omega)) (Int.emod_lt_of_pos _ (by omega))
    by_cases hkt : t ≤ (k : Int)
    · refine ⟨(s.1 ++ [x % 2147483587], s.2.set ((k : Int) % (s.2.length : Int)).toNat (x / 2147483587)), _, rfl, ?_, by simp; omega⟩
      have hlf : s.1.length < 16777216 := by omega
      simp [b__law_draws_e473_1, E1, hx, hkt, hix, hlf, hpos, List.map_set]
    · refine ⟨(s.1, s.2.set ((k : Int) % (s.2.length : Int)).toNat (x / 2147483587)), _, rfl, ?_, by simp; omega⟩
      simp [b__law_draws_e473_1, E1, hx, hkt, hix, hpos, List.map_set])
  -- the other way
  let E2 : List Int → En := fun s => [.own (.s ns), .own (oi t), .own (oi m), .own (.v (.list (c.map .int))), .own (.l (s.map oi)), .no, .no, .no, .no, .no, .no]
  obtain ⟨s2, h2, -⟩ := for_inv (tg := .n 6) (body := b__law_draws_e473_2) (enc := fun (k : Nat) => O.v (.int (k : Int))) (E := E2) (fun pre s => s.length ≤ pre.length) (all := List.range m.toNat) (List.range m.toNat) [] [] rfl (by simp) (by
    intro pre k post s hall hI
    have hkl : pre.length < 2000 ∧ k < 2000 := by
      have := congrArg List.length hall
      have hk : k ∈ List.range m.toNat := by rw [hall]; simp
      simp at this hk; omega
    obtain ⟨x, hx, hx2⟩ := atI_in c (i := (k : Int) % (c.length : Int)) (Int.emod_nonneg _ (by omega)) (Int.emod_lt_of_pos _ (by omega))
    have hpos : fMod [.int (k : Int), .int (c.length : Int)] = some (.int ((k : Int) % (c.length : Int))) := fMod_s (by omega)
    have hlf : s.length < 16777216 := by omega
    have hk1 : -18446744073709551616 < (k : Int) + t := by omega
    have hk2 : (k : Int) + t < 18446744073709551616 := by omega
    refine ⟨s ++ [?_], _, rfl, ?_, by simp; omega⟩
    rotate_left
    simp [b__law_draws_e473_2, E2, hx, hpos, hlf, hk1, hk2]
    rfl)
  have hb1 : -4611686018427387904 ≤ t + m := by omega
  have hb2 : t + m < 4611686018427387904 := by omega
  have hb3 : -4611686018427387904 ≤ m := by omega
  have hb4 : m < 4611686018427387904 := by omega
  have hc64 : c.length ≤ 16777216 := by omega
  simp only [E1, E2, List.map_nil, List.map_map, Function.comp_def] at h1 h2
  rw [un__law_draws_e473]
  by_cases hif : c0 / 50000 % 2 = 1
  · refine ⟨s1.1, ?_⟩
    simp [m__law_draws_e473, slO, hcut, hcm, hc00, hif, hlc, hc64, hb1, hb2, h1]
  · refine ⟨s2, ?_⟩
    simp [m__law_draws_e473, slO, hcut, hcm, hc00, hif, hb3, hb4, h2]
/-! popping -/
theorem pop_ok (ds : List Int) : ∃ (n : Int) (ds' : List Int), sem__law_pop [.l (ds.map oi)] = some (oi n, [.l (ds'.map oi)]) := by
  cases ds with
  | nil => exact ⟨0, [], by
      have h := fEq_nil []
      simp at h
      simp [un__law_pop, m__law_pop, h]⟩
  | cons n ds => exact ⟨n, ds, by
      have h := fEq_nil (n :: ds)
      simp at h
      simp [un__law_pop, m__law_pop, h]⟩
/-! wants -/
def casesI (w : List Int) : Int := w.foldl (fun a n => a * (n + 1)) 1
theorem cases_ok (w : List Int) (hw : ∀ n ∈ w, 0 ≤ n ∧ n ≤ 10000) : sem__law_cases [.v (.list (w.map .int))] = some (oi (casesI w), []) := by
  have h := (for_fold (tg := .n 2) (body := b__law_cases_1) (enc := fun (n : Int) => O.v (.int n)) (E := fun (a : Int) => [.own (.v (.list (w.map .int))), .own (oi a), .no]) (step := fun a n => a * (n + 1)) (I := fun _ => True) w 1 trivial (by
    intro n hn s _
    obtain ⟨h1, h2⟩ := hw n hn
    have h3 : -18446744073709551616 < n + 1 := by omega
    have h4 : n + 1 < 18446744073709551616 := by omega
    refine ⟨trivial, _, rfl, ?_⟩
    simp [b__law_cases_1, h3, h4])).1
  simp [un__law_cases, m__law_cases, h, casesI]
theorem covers_ok (c w : List Int) (hl : c.length ≤ 1000) : sem_covers [.v (.list (c.map .int)), .v (.list (w.map .int))] = some (.v (.bool ((c.zip w).all fun p => decide (p.2 ≤ p.1))), []) := by
  have hm : min c.length w.length ≤ 16777216 := by omega
  have h : lcL (.tp [(.n 2), (.n 3)]) mYes ce_covers_1 [2, 3] (((c.zip w)).map fun p => .t [oi p.1, oi p.2]) [.own (.v (.list (c.map .int))), .own (.v (.list (w.map .int))), .no, .no] = some ((c.zip w).map (fun p => .v (.bool (decide (p.2 ≤ p.1)))), [.own (.v (.list (c.map .int))), .own (.v (.list (w.map .int))), .no, .no]) := by
    refine lc_map _ fun p _ => ?_
    simp [ce_covers_1]
  simp [un_covers, m_covers, zipO_map, h, hm]
def restL (w c : List Int) : List Int := (w.zip c).map fun p => max 0 (p.1 - p.2)
theorem rest_ok (w c : List Int) (hl : w.length ≤ 1000) : sem_rest [.v (.list (w.map .int)), .v (.list (c.map .int))] = some (.l ((restL w c).map oi), []) := by
  have hm : min w.length c.length ≤ 16777216 := by omega
  have h : lcL (.tp [(.n 2), (.n 3)]) mYes ce_rest_1 [2, 3] (((w.zip c)).map fun p => .t [oi p.1, oi p.2]) [.own (.v (.list (w.map .int))), .own (.v (.list (c.map .int))), .no, .no] = some ((w.zip c).map (fun p => oi (max 0 (p.1 - p.2))), [.own (.v (.list (w.map .int))), .own (.v (.list (c.map .int))), .no, .no]) := by
    refine lc_map _ fun p _ => ?_
    have : (if p.1 - p.2 > 0 then p.1 - p.2 else 0) = max 0 (p.1 - p.2) := by omega
    simp [ce_rest_1]
    exact ⟨_, ⟨by omega, rfl⟩, rfl⟩
  simp [un_rest, m_rest, zipO_map, h, hm, restL]
theorem whole_ok (n : Int) : sem__law_whole [oi n] = some (.v (.bool true), []) := by
  simp [un__law_whole, m__law_whole, fIsi, tyN, isiB]
theorem numbers_ok (a b : List Int) (hl : a.length ≤ 1000) : sem__law_numbers [.v (.list (a.map .int)), .v (.list (b.map .int))] = some (.v (.bool (decide (a = b))), []) := by
  have hm : a.length ≤ 16777216 := by omega
  have h : lcL (.n 2) ct__law_numbers_1 ce__law_numbers_1 [2] (a.map fun n => .v (.int n)) [.own (.v (.list (a.map .int))), .own (.v (.list (b.map .int))), .no] = some ((a.filter fun _ => false).map (fun n => .v (.int n)), [.own (.v (.list (a.map .int))), .own (.v (.list (b.map .int))), .no]) := by
    refine lc_filter (p := fun _ => false) _ fun n _ => ?_
    simp [ct__law_numbers_1, whole_ok]
  simp [un__law_numbers, m__law_numbers, h, hm, fIsi, tyN, isiB]
end Dn

set_option Elab.async false
set_option linter.all false
set_option maxRecDepth 100000
set_option maxHeartbeats 4000000
namespace Dn
open PySem L2
theorem cases_zero (w : List Int) (h : ∀ n ∈ w, n = 0) : casesI w = 1 := by
  have : ∀ (w : List Int) (a : Int), (∀ n ∈ w, n = 0) → w.foldl (fun a n => a * (n + 1)) a = a := by
    intro w
    induction w with
    | nil => intro a _; rfl
    | cons n w ih =>
      intro a h
      rw [List.foldl_cons, ih _ fun m hm => h m (List.mem_cons_of_mem _ hm), h n (List.mem_cons_self ..)]
      simp
  exact this w 1 h
theorem sum_set : ∀ (w : List Int) (j : Nat) (m : Int), w[j]? = some m → 1 ≤ m → ((w.set j (m - 1)).map Int.toNat).sum < (w.map Int.toNat).sum
  | [], j, m, h, _ => by simp at h
  | n :: w, 0, m, h, h1 => by
    simp at h
    subst h
    simp; omega
  | n :: w, j + 1, m, h, h1 => by
    have ih := sum_set w j m (by simpa using h) h1
    simp only [List.set_cons_succ, List.map_cons, List.sum_cons]; omega
theorem idx_ok (m : Int) : ∀ (w : List Int) (n : Nat), m ∈ w → ∃ j, idxD (.int m) (w.map .int) n = some (n + j) ∧ w[j]? = some m
  | [], n, h => by simp at h
  | x :: w, n, h => by
    by_cases hx : x = m
    · exact ⟨0, by simp [idxD, PyData.eqv, hx], by simp [hx]⟩
    · have hm : m ∈ w := by
        rcases List.mem_cons.mp h with e | h
        · exact absurd e.symm hx
        · exact h
      obtain ⟨j, h1, h2⟩ := idx_ok m w (n + 1) hm
      exact ⟨j + 1, by simp [idxD, PyData.eqv, hx, h1]; omega, by simpa using h2⟩
theorem maxL_in (n : Int) (ns : List Int) : maxL n ns ∈ n :: ns := by
  rcases maxL_mem n ns with h | h
  · rw [h]; exact List.mem_cons_self ..
  · exact List.mem_cons_of_mem _ h
theorem pow8 (number k : Int) (hk : 0 ≤ k ∧ k < 4) : ∃ x : Int, 0 ≤ x ∧ x ≤ 9 ∧ (∀ e : En, e[2]? = some (.own (oi number)) → e[4]? = some (.own (oi k)) → ce__law_want_aecb_1 e = some (oi x, e)) := by
  have h3 : 0 ≤ number / (2 ^ (3 * k).toNat : Int) % 8 ∧ number / (2 ^ (3 * k).toNat : Int) % 8 < 8 := ⟨Int.emod_nonneg _ (by decide), Int.emod_lt_of_pos _ (by decide)⟩
  obtain ⟨x, hx, hx2⟩ := atI_in ([0, 1, 2, 9, 4, 5, 3, 1] : List Int) (i := number / (2 ^ (3 * k).toNat : Int) % 8) h3.1 (by simp; exact h3.2)
  have hm := List.mem_of_getElem? hx2
  have hp : (0 : Int) < 2 ^ (3 * k).toNat := Int.pow_pos (by decide)
  have hp2 : (2 : Int) ^ (3 * k).toNat < 18446744073709551616 := by
    have : (3 * k).toNat ≤ 9 := by omega
    have h4 : (2 : Nat) ^ (3 * k).toNat ≤ 2 ^ 9 := Nat.pow_le_pow_right (by decide) this
    have h5 : ((2 ^ (3 * k).toNat : Nat) : Int) = (2 : Int) ^ (3 * k).toNat := by simp
    have : ((2 ^ (3 * k).toNat : Nat) : Int) ≤ 512 := by exact_mod_cast h4
    rw [h5] at this
    omega
  have hk0 : 0 ≤ 3 * k := by omega
  have hk1 : 3 * k ≤ 1000000 := by omega
  refine ⟨x, ?_, ?_, fun e h1 h2 => ?_⟩
  · simp at hm; omega
  · simp at hm; omega
  · have hx' := congrArg (Option.map oi) hx
    rw [← atI_map] at hx'
    simp at hx'
    have hdiv : fDiv [.int number, .int (2 ^ (3 * k).toNat)] = some (.int (number / 2 ^ (3 * k).toNat)) := fDiv_s hp hp2
    simp [ce__law_want_aecb_1, h1, h2, hk0, hk1, hdiv, hx']
/-- a want: so many numbers to nine, at most four hundred lesser ones -/
structure Want (n : Nat) (w : List Int) : Prop where
  len : w.length = n
  nine : ∀ x ∈ w, 0 ≤ x ∧ x ≤ 9
theorem want_while (ds : List Int) (many number : Int) (w : List Int) (n : Nat) (hn : 1 ≤ n ∧ n ≤ 4) (hw : Want n w) :
    ∃ w', mWhile t__law_want_aecb_1 b__law_want_aecb_1 [.pin (.l (ds.map oi)), .own (oi many), .own (oi number), .own (.l (w.map oi)), .no] = some (.nx [.pin (.l (ds.map oi)), .own (oi many), .own (oi number), .own (.l (w'.map oi)), .no]) ∧ Want n w' ∧ casesI w' ≤ 400 := by
  refine while_inv (E := fun w : List Int => [.pin (.l (ds.map oi)), .own (oi many), .own (oi number), .own (.l (w.map oi)), .no]) (Want n) (fun w => casesI w ≤ 400) (fun w => (w.map Int.toNat).sum) ?_ _ w (Nat.le_refl _) hw
  intro w hw
  have hc := cases_ok w fun x hx => ⟨(hw.nine x hx).1, by have := (hw.nine x hx).2; omega⟩
  by_cases h : casesI w ≤ 400
  · refine .inl ⟨h, ?_⟩
    have : ¬ 400 < casesI w := by omega
    simp [t__law_want_aecb_1, hc, sV, this]
  · right
    have h4 : 400 < casesI w := by omega
    obtain ⟨x, xs, rfl⟩ : ∃ x xs, w = x :: xs := by
      cases w with
      | nil => have := hw.len; simp at this; omega
      | cons x xs => exact ⟨x, xs, rfl⟩
    obtain ⟨j, hj, hj2⟩ := idx_ok (maxL x xs) (x :: xs) 0 (maxL_in x xs)
    have hm9 := hw.nine _ (maxL_in x xs)
    have hm1 : 1 ≤ maxL x xs := by
      rcases Int.lt_or_le (maxL x xs) 1 with hlt | hge
      · exfalso
        have : casesI (x :: xs) = 1 := cases_zero _ fun y hy => by
          have h1 := (hw.nine y hy).1
          have h2 := maxL_ge x xs
          rcases List.mem_cons.mp hy with rfl | hy
          · have := h2.1; omega
          · have := h2.2 y hy; omega
        omega
      · exact hge
    have hjl := (List.getElem?_eq_some_iff.mp hj2).1
    have hix : ixN (x :: xs).length (j : Int) = some j := by
      rw [ixN_in (by omega) (by omega)]; simp
    have hsh : fIndex [.list ((x :: xs).map .int), .int (maxL x xs)] = some (.int (j : Nat)) := by
      show (if SeqAt.shaped (.list ((x :: xs).map .int)) && SeqAt.shaped (.int (maxL x xs)) then (match idxD (.int (maxL x xs)) ((x :: xs).map .int) 0 with | some j => some (PyData.int (j : Nat)) | none => none) else none) = _
      rw [hj]
      simp
    refine ⟨(x :: xs).set j (maxL x xs - 1), ?_, ?_, ⟨?_, ?_⟩, sum_set _ _ _ hj2 hm1⟩
    · simp at hc
      simp [t__law_want_aecb_1, hc, sV, h4]
    · simp at hsh hix
      simp [b__law_want_aecb_1, hsh, hix, List.map_set]
    · simp; have := hw.len; simp at this; omega
    · intro y hy
      rcases List.mem_or_eq_of_mem_set hy with hy | rfl
      · exact hw.nine y hy
      · omega
theorem want_ok (ds : List Int) (many : Int) (hm : 1 ≤ many ∧ many ≤ 4) : ∃ (w ds' : List Int), sem__law_want_aecb [.l (ds.map oi), oi many] = some (.l (w.map oi), [.l (ds'.map oi)]) ∧ Want many.toNat w ∧ casesI w ≤ 400 := by
  obtain ⟨number, ds1, hpop⟩ := pop_ok ds
  have hb1 : -4611686018427387904 ≤ many := by omega
  have hb2 : many < 4611686018427387904 := by omega
  have hb3 : many.toNat ≤ 16777216 := by omega
  -- by the table
  obtain ⟨w1, u1, h1, -, hl1, hr1⟩ := lc_st (tg := .n 4) (mt := mYes) (me := ce__law_want_aecb_1) (vs := [4]) (enc := fun (k : Nat) => O.v (.int (k : Int))) (g := oi) (R := fun _ x => 0 ≤ x ∧ x ≤ 9) (I := fun _ => True)
    (E := fun (_ : Unit) => [.pin (.l (ds1.map oi)), .own (oi many), .own (oi number), .no, .no]) (List.range many.toNat) () trivial (by
    intro k hk s _
    have hk' : (k : Int) < 4 := by simp at hk; omega
    obtain ⟨x, h1, h2, h3⟩ := pow8 number k ⟨by omega, hk'⟩
    exact ⟨x, (), _, _, _, rfl, rfl, h3 _ rfl rfl, rfl, ⟨h1, h2⟩, trivial⟩)
  have hw1 : Want many.toNat w1 := ⟨by simpa using hl1, fun x hx => by
    obtain ⟨j, hj, rfl⟩ := List.getElem_of_mem hx
    have hj2 : j < (List.range many.toNat).length := by rw [← hl1]; exact hj
    refine hr1 ((List.range many.toNat)[j], w1[j]) ?_
    rw [← List.getElem_zip (h := by rw [List.length_zip]; omega)]
    exact List.getElem_mem _⟩
  by_cases hif : number / 4096 % 4 = 0
  · -- by draws
    obtain ⟨w2, ds2, h2, -, hl2, hr2⟩ := lc_st (tg := .n 4) (mt := mYes) (me := ce__law_want_aecb_2) (vs := [4]) (enc := fun (k : Nat) => O.v (.int (k : Int))) (g := oi) (R := fun _ x => 0 ≤ x ∧ x ≤ 9) (I := fun _ => True)
      (E := fun (ds : List Int) => [.pin (.l (ds.map oi)), .own (oi many), .own (oi number), .own (.l (w1.map oi)), .no]) (List.range many.toNat) ds1 trivial (by
      intro k hk s _
      obtain ⟨x, ds', hp⟩ := pop_ok s
      refine ⟨x % 10, ds', _, _, [.pin (.l (ds'.map oi)), .own (oi many), .own (oi number), .own (.l (w1.map oi)), .own (.v (.int k))], rfl, rfl, ?_, ?_, ⟨by omega, by omega⟩, trivial⟩
      · simp [ce__law_want_aecb_2, hp]
      · simp)
    have hw2 : Want many.toNat w2 := ⟨by simpa using hl2, fun x hx => by
      obtain ⟨j, hj, rfl⟩ := List.getElem_of_mem hx
      have hj2 : j < (List.range many.toNat).length := by rw [← hl2]; exact hj
      refine hr2 ((List.range many.toNat)[j], w2[j]) ?_
      rw [← List.getElem_zip (h := by rw [List.length_zip]; omega)]
      exact List.getElem_mem _⟩
    obtain ⟨w3, h3, hw3, hc3⟩ := want_while ds2 many number w2 many.toNat (by omega) hw2
    refine ⟨w3, ds2, ?_, hw3, hc3⟩
    simp [un__law_want_aecb, m__law_want_aecb, hpop, hb1, hb2, hb3, h1, h2, h3, hif]
  · obtain ⟨w3, h3, hw3, hc3⟩ := want_while ds1 many number w1 many.toNat (by omega) hw1
    refine ⟨w3, ds1, ?_, hw3, hc3⟩
    simp [un__law_want_aecb, m__law_want_aecb, hpop, hb1, hb2, hb3, h1, h3, hif]
end Dn

set_option Elab.async false
set_option linter.all false
set_option maxRecDepth 100000
set_option maxHeartbeats 4000000
namespace Dn
open PySem L2
/-! lesser wants -/
def upTo (n : Int) : List Int := (List.range (n + 1).toNat).map fun (k : Nat) => (k : Int)
def les : List Int → List (List Int)
  | [] => [[]]
  | n :: w => (upTo n).flatMap fun k => (les w).map (k :: ·)
theorem upTo_mem {n k : Int} : k ∈ upTo n ↔ 0 ≤ k ∧ k ≤ n := by
  unfold upTo
  simp only [List.mem_map, List.mem_range]
  constructor
  · rintro ⟨a, h, rfl⟩; omega
  · intro ⟨h1, h2⟩; exact ⟨k.toNat, by omega, by omega⟩
theorem les_mem : ∀ {w r : List Int}, r ∈ les w ↔ r.length = w.length ∧ ∀ p ∈ r.zip w, 0 ≤ p.1 ∧ p.1 ≤ p.2
  | [], r => by
    simp only [les, List.mem_singleton, List.length_nil]
    constructor
    · rintro rfl; simp
    · intro h; exact List.length_eq_zero_iff.mp h.1
  | n :: w, r => by
    simp only [les, List.mem_flatMap, List.mem_map, upTo_mem]
    constructor
    · rintro ⟨k, hk, s, hs, rfl⟩
      obtain ⟨h1, h2⟩ := les_mem.mp hs
      refine ⟨by simp [h1], fun p hp => ?_⟩
      simp only [List.zip_cons_cons, List.mem_cons] at hp
      rcases hp with rfl | hp
      · exact hk
      · exact h2 p hp
    · intro ⟨h1, h2⟩
      cases r with
      | nil => simp at h1
      | cons k s =>
        exact ⟨k, h2 (k, n) (by simp), s, les_mem.mpr ⟨by simpa using h1, fun p hp => h2 p (by simp [hp])⟩, rfl⟩
theorem les_len_el {w r : List Int} (h : r ∈ les w) : r.length = w.length := (les_mem.mp h).1
theorem les_count : ∀ (w : List Int), (∀ n ∈ w, 0 ≤ n) → ∀ a : Int, w.foldl (fun a n => a * (n + 1)) a = a * ((les w).length : Int)
  | [], _, a => by simp [les]
  | n :: w, h, a => by
    have hn := h n (List.mem_cons_self ..)
    rw [List.foldl_cons, les_count w (fun m hm => h m (List.mem_cons_of_mem _ hm))]
    have : (les (n :: w)).length = (n + 1).toNat * (les w).length := by
      simp only [les]
      have hc : ∀ (l : List Int), (l.flatMap fun k => (les w).map (k :: ·)).length = l.length * (les w).length := by
        intro l
        induction l with
        | nil => simp
        | cons k l ih => simp [ih, Nat.add_mul]; omega
      rw [hc, upTo, List.length_map, List.length_range]
    rw [this, Int.natCast_mul, Int.toNat_of_nonneg (by omega), Int.mul_assoc]
theorem les_cases {w : List Int} (h : ∀ n ∈ w, 0 ≤ n) : casesI w = (les w).length := by
  unfold casesI
  rw [les_count w h 1]; omega
/-- as the program makes them -/
def lesStep (rows : List (List Int)) (n : Int) : List (List Int) := rows.flatMap fun r => (upTo n).map fun k => r ++ [k]
theorem les_fold : ∀ (w : List Int) (rows : List (List Int)), w.foldl lesStep rows = rows.flatMap fun r => (les w).map (r ++ ·)
  | [], rows => by
    simp only [List.foldl_nil, les, List.map_cons, List.append_nil, List.map_nil]
    induction rows with
    | nil => rfl
    | cons r rows ih => rw [List.flatMap_cons, ← ih]; rfl
  | n :: w, rows => by
    rw [List.foldl_cons, les_fold w]
    simp only [lesStep, les, List.flatMap_assoc, List.flatMap_map, List.map_flatMap, List.map_map]
    congr 1
    funext r
    congr 1
    funext k
    congr 1
    funext s
    simp
theorem les_eq (w : List Int) : w.foldl lesStep [[]] = les w := by
  rw [les_fold]; simp
abbrev rowO (r : List Int) : O := .l (r.map oi)
abbrev rowD (r : List Int) : PyData := .list (r.map .int)
@[simp] theorem toDs_rows (rows : List (List Int)) : O.toDs (rows.map rowO) = some (rows.map rowD) := toDs_map (fun r => by simp) rows
@[simp] theorem toDs_rows' (rows : List (List Int)) : O.toDs (rows.map fun r => O.l (r.map oi)) = some (rows.map rowD) := toDs_rows rows
theorem upTo_len {n : Int} (h : 0 ≤ n ∧ n ≤ 9) : (upTo n).length ≤ 10 := by simp [upTo]; omega
theorem lesStep_len (rows : List (List Int)) {n : Int} (h : 0 ≤ n ∧ n ≤ 9) : (lesStep rows n).length ≤ 10 * rows.length := by
  unfold lesStep
  have := upTo_len h
  induction rows with
  | nil => simp
  | cons r rows ih => simp only [List.flatMap_cons, List.length_append, List.length_map, List.length_cons]; omega
theorem lesser_row (w : List Int) (fr : O) (n : Int) (hn : 0 ≤ n ∧ n ≤ 9) (acc : List (List Int)) (r : List Int) (ha : acc.length ≤ 1000000) (hr : r.length ≤ 1000) :
    b_lesser_1 [.own (.v (.list (w.map .int))), .own fr, .own (.v (.int n)), .own (.l (acc.map rowO)), .own (.v (rowD r)), .no] = some (.nx [.own (.v (.list (w.map .int))), .own fr, .own (.v (.int n)), .own (.l ((acc ++ (upTo n).map fun k => r ++ [k]).map rowO)), .no, .no]) := by
  have hb1 : -4611686018427387904 ≤ n + 1 := by omega
  have hb2 : n + 1 < 4611686018427387904 := by omega
  have h10 : (n + 1).toNat ≤ 16777216 := by omega
  have h11 : acc.length + (n + 1).toNat ≤ 16777216 := by omega
  have hlc : ∀ e : En, e[5]? = some .no → e[4]? = some (.own (.v (rowD r))) → lcL (.n 5) mYes ce_lesser_1 [5] ((List.range (n + 1).toNat).map fun (k : Nat) => O.v (.int (k : Int))) e = some ((List.range (n + 1).toNat).map (fun (k : Nat) => rowO (r ++ [(k : Int)])), e) := fun e h5 h4 => by
    refine lc_map1 h5 _ fun k hk e' h1 h2 => ?_
    have hl : r.length ≤ 16777215 := by omega
    simp [ce_lesser_1, h1, h2, h4, hl]
  simp [b_lesser_1, hb1, hb2, h10, h11, hlc, upTo, Function.comp_def]
theorem lesser_ok (w : List Int) (hw : ∀ n ∈ w, 0 ≤ n ∧ n ≤ 9) (hlen : w.length ≤ 4) : sem_lesser [.v (.list (w.map .int))] = some (.l ((les w).map rowO), []) := by
  obtain ⟨rows, h, hr⟩ := for_inv (tg := .n 2) (body := b_lesser_2) (enc := fun (n : Int) => O.v (.int n)) (E := fun (rows : List (List Int)) => [.own (.v (.list (w.map .int))), .own (.l (rows.map rowO)), .no, .no, .no, .no])
    (fun pre rows => rows = pre.foldl lesStep [[]] ∧ rows.length ≤ 10 ^ pre.length ∧ ∀ r ∈ rows, r.length = pre.length) (all := w) w [] [[]] rfl (by simp) (by
    intro pre n post rows hall ⟨hI, hI2, hI3⟩
    have hn := hw n (by rw [hall]; simp)
    have hpl : pre.length < 4 := by have := congrArg List.length hall; simp at this; omega
    have hrl : rows.length ≤ 10000 := Nat.le_trans hI2 (Nat.le_trans (Nat.pow_le_pow_right (by decide) (by omega)) (show 10 ^ 4 ≤ 10000 by decide))
    refine ⟨lesStep rows n, _, rfl, ?_, ?_, ?_, ?_⟩
    · obtain ⟨acc, h1, h2⟩ := for_inv (tg := .n 4) (body := b_lesser_1) (enc := fun (r : List Int) => O.v (rowD r)) (E := fun (acc : List (List Int)) => [.own (.v (.list (w.map .int))), .own (.v (.list (rows.map rowD))), .own (.v (.int n)), .own (.l (acc.map rowO)), .no, .no])
        (fun pre acc => acc = lesStep pre n) (all := rows) rows [] [] rfl rfl (by
        intro pre' r post' acc hall' hacc
        have hr := hI3 r (by rw [hall']; simp)
        have hpl' : pre'.length ≤ rows.length := by rw [hall']; simp
        refine ⟨acc ++ (upTo n).map fun k => r ++ [k], _, rfl, ?_, ?_⟩
        · refine lesser_row w _ n hn acc r ?_ (by omega)
          rw [hacc]
          have := lesStep_len pre' hn
          omega
        · rw [hacc]; simp [lesStep])
      simp at h1
      simp [b_lesser_2, h1, h2]
    · rw [hI, List.foldl_append]; rfl
    · rw [List.length_append, List.length_singleton, Nat.pow_succ]
      have := lesStep_len rows hn
      omega
    · intro r hr
      simp only [lesStep, List.mem_flatMap, List.mem_map] at hr
      obtain ⟨r0, h0, k, hk, rfl⟩ := hr
      simp [hI3 r0 h0])
  have hr2 := hr.1
  rw [les_eq] at hr2
  subst hr2
  simp only [rowO, List.map_cons, List.map_nil] at h
  simp [un_lesser, m_lesser, h]
end Dn

set_option Elab.async false
set_option linter.all false
set_option maxRecDepth 100000
set_option maxHeartbeats 4000000
namespace Dn
open PySem L2
/-! the next one of the lesser wants -/
def nxt : List Int → List Int → Option (List Int)
  | r :: rs, w :: ws => (match nxt rs ws with
    | some rs' => some (r :: rs')
    | none => if r = w then none else some ((r + 1) :: ws.map fun _ => 0))
  | _, _ => none
theorem les_cons (n : Int) (w : List Int) : les (n :: w) = (upTo n).flatMap fun k => (les w).map (k :: ·) := rfl
theorem les_head : ∀ (w : List Int), (∀ n ∈ w, 0 ≤ n) → ∃ t, les w = (w.map fun _ => 0) :: t
  | [], _ => ⟨[], rfl⟩
  | n :: w, h => by
    obtain ⟨t, ht⟩ := les_head w fun m hm => h m (List.mem_cons_of_mem _ hm)
    have hn := h n (List.mem_cons_self ..)
    have : upTo n = 0 :: (List.range n.toNat).map fun (k : Nat) => ((k + 1 : Nat) : Int) := by
      unfold upTo
      rw [show (n + 1).toNat = n.toNat + 1 by omega, List.range_succ_eq_map, List.map_cons, List.map_map]
      rfl
    rw [les_cons, this, List.flatMap_cons, ht]
    exact ⟨_, rfl⟩
/-- each one's next one is the one behind it -/
theorem les_chain : ∀ (w : List Int), (∀ n ∈ w, 0 ≤ n) → ∀ pre x post, les w = pre ++ x :: post → nxt x w = post.head?
  | [], _, pre, x, post, h => by
    simp only [les] at h
    cases pre with
    | nil =>
      simp at h
      obtain ⟨rfl, rfl⟩ := h
      rfl
    | cons a pre => simp at h
  | n :: w, hw, pre, x, post, h => by
    have hw' := fun m hm => hw m (List.mem_cons_of_mem _ hm)
    have ih := les_chain w hw'
    obtain ⟨t, ht⟩ := les_head w hw'
    -- over the first numbers k, k + 1, .. n
    have go : ∀ (d : Nat) (k : Int), k + d = n + 1 → ∀ pre x post, ((List.range d).map fun (j : Nat) => k + (j : Int)).flatMap (fun k => (les w).map (k :: ·)) = pre ++ x :: post → nxt x (n :: w) = post.head? := by
      intro d
      induction d with
      | zero => intro k _ pre x post h; simp at h
      | succ d ihd =>
        intro k hk pre x post h
        rw [List.range_succ_eq_map, List.map_cons, List.flatMap_cons, List.map_map] at h
        have e1 : ((fun (j : Nat) => k + (j : Int)) ∘ Nat.succ) = fun (j : Nat) => (k + 1) + (j : Int) := by
          funext j; simp; omega
        rw [e1] at h
        simp only [Int.natCast_zero, Int.add_zero] at h
        rcases List.append_eq_append_iff.mp h with ⟨a, h1, h2⟩ | ⟨a, h1, h2⟩
        · -- x stands behind this block
          exact ihd (k + 1) (by omega) a x post h2
        · cases a with
          | nil =>
            simp only [List.nil_append] at h2
            exact ihd (k + 1) (by omega) [] x post (by rw [← h2]; rfl)
          | cons y a =>
            simp only [List.cons_append, List.cons.injEq] at h2
            obtain ⟨rfl, h2⟩ := h2
            obtain ⟨pre', rest', e2, e3, e4⟩ := List.map_eq_append_iff.mp h1
            obtain ⟨x', post', rfl, e5, e6⟩ := List.map_eq_cons_iff.mp e4
            subst e5
            have i1 := ih pre' x' post' e2
            show (match nxt x' w with | some rs' => some (k :: rs') | none => if k = n then none else some ((k + 1) :: w.map fun _ => 0)) = _
            rw [i1, h2]
            cases post' with
            | cons z post' =>
              simp at e6
              subst e6
              rfl
            | nil =>
              simp at e6
              subst e6
              simp only [List.head?_nil, List.nil_append]
              cases d with
              | zero =>
                have : k = n := by omega
                simp [this]
              | succ d =>
                have : ¬ k = n := by omega
                rw [List.range_succ_eq_map, List.map_cons, List.flatMap_cons, ht]
                simp [this]
    refine go (n + 1).toNat 0 (by have := hw n (List.mem_cons_self ..); omega) pre x post ?_
    rw [← h, les_cons, upTo]
    simp
theorem nxt_at : ∀ (r w : List Int) (p : Nat), r.length = w.length → p < r.length → (∀ j, p < j → j < r.length → r.getD j 0 = w.getD j 0) → r.getD p 0 ≠ w.getD p 0 → nxt r w = some (r.take p ++ (r.getD p 0 + 1) :: (w.drop (p + 1)).map fun _ => 0)
  | [], _, p, _, hp, _, _ => by simp at hp
  | _ :: _, [], p, hl, _, _, _ => by simp at hl
  | x :: r, y :: w, 0, hl, hp, hj, hne => by
    have hall : ∀ (r w : List Int), r.length = w.length → (∀ j, j < r.length → r.getD j 0 = w.getD j 0) → nxt r w = none := by
      intro r
      induction r with
      | nil => intro w _ _; cases w <;> rfl
      | cons a r ih =>
        intro w hl h
        cases w with
        | nil => simp at hl
        | cons b w =>
          have h0 := h 0 (by simp)
          simp at h0
          have := ih w (by simpa using hl) fun j hj => by have := h (j + 1) (by simp; omega); simpa using this
          simp [nxt, this, h0]
    have h1 := hall r w (by simpa using hl) fun j hj' => by have := hj (j + 1) (by omega) (by simp; omega); simpa using this
    simp at hne
    simp [nxt, h1, hne]
  | x :: r, y :: w, p + 1, hl, hp, hj, hne => by
    have := nxt_at r w p (by simpa using hl) (by simpa using hp) (fun j h1 h2 => by have := hj (j + 1) (by omega) (by simp; omega); simpa using this) (by simpa using hne)
    simp [nxt, this]
theorem nxt_none (r w : List Int) (hl : r.length = w.length) (h : ∀ j, j < r.length → r.getD j 0 = w.getD j 0) : nxt r w = none := by
  induction r generalizing w with
  | nil => cases w <;> rfl
  | cons a r ih =>
    cases w with
    | nil => simp at hl
    | cons b w =>
      have h0 := h 0 (by simp)
      simp at h0
      have := ih w (by simpa using hl) fun j hj => by have := h (j + 1) (by simp; omega); simpa using this
      simp [nxt, this, h0]
def rowList (r : List Int) : List O := r.map oi
/-- the row as the loop leaves it: the last k numbers are noughts -/
theorem next_ok (r w : List Int) (hl : r.length = w.length) (h4 : w.length ≤ 1000) (hw : 0 < w.length) : sem__law_next [.v (.list (r.map .int)), .v (.list (w.map .int))] = some ((match nxt r w with | some r' => rowO r' | none => .v .none), []) := by
  have hb : r.length ≤ 16777216 := by omega
  let F : Nat → List Int := fun p => r.take p ++ (w.drop p).map fun _ => 0
  have hF : ∀ p, p ≤ r.length → (F p).length = r.length := fun p hp => by simp [F]; omega
  have hFg : ∀ (p : Nat) (hp : p < r.length), (F (p + 1)).getD p 0 = r.getD p 0 := fun p hp => by
    simp [F, List.getD_eq_getElem?_getD, List.getElem?_append, hp]
    rw [if_pos (by omega)]; rfl
  have hFs : ∀ (p : Nat) (hp : p < r.length), (F (p + 1)).set p 0 = F p := fun p hp => by
    simp only [F]
    apply List.ext_getElem?
    intro j
    rw [List.getElem?_set]
    simp only [List.getElem?_append, List.length_take, List.getElem?_take, List.getElem?_map, List.getElem?_drop, List.length_append, List.length_map, List.length_drop]
    by_cases h1 : p = j
    · subst h1
      rw [if_pos rfl, if_pos (by omega), if_neg (by omega)]
      have : p < w.length := by omega
      rw [show p + (p - min p r.length) = p by omega, List.getElem?_eq_getElem this]
      rfl
    · rw [if_neg h1]
      by_cases h2 : j < p
      · rw [if_pos (by omega), if_pos (by omega), if_pos (by omega), if_pos (by omega)]
      · rw [if_neg (by omega), if_neg (by omega)]
        congr 2
        omega
  have hFx : ∀ (p : Nat) (x : Int), p < r.length → (F (p + 1)).set p x = r.take p ++ x :: (w.drop (p + 1)).map fun _ => 0 := fun p x hp => by
    have e1 : F (p + 1) = r.take p ++ r[p] :: (w.drop (p + 1)).map fun _ => 0 := by
      simp only [F]
      rw [List.take_succ_eq_append_getElem hp, List.append_assoc]
      rfl
    rw [e1, List.set_append_right _ _ (by simp; omega)]
    have : p - (r.take p).length = 0 := by simp; omega
    rw [this]
    rfl
  obtain ⟨q, hq, hI, hP⟩ := while_inv (mc := t__law_next_1) (mb := b__law_next_1) (E := fun (q : Nat) => [.own (.v (.list (r.map .int))), .own (.v (.list (w.map .int))), .own (.l ((F q).map oi)), .own (.v (.int ((q : Int) - 1)))])
    (fun q => q ≤ r.length ∧ ∀ j, q ≤ j → j < r.length → r.getD j 0 = w.getD j 0) (fun q => q = 0 ∨ (0 < q ∧ r.getD (q - 1) 0 ≠ w.getD (q - 1) 0)) (fun q => q) (by
    intro q ⟨hq, hI⟩
    cases q with
    | zero =>
      left
      refine ⟨.inl rfl, ?_⟩
      simp [t__law_next_1]
    | succ q =>
      have e1 := atI_getD (F (q + 1)) 0 (k := q) (by rw [hF _ hq]; omega)
      have e2 := atI_getD w 0 (k := q) (by omega)
      rw [hFg q (by omega)] at e1
      have e3 : ((q + 1 : Nat) : Int) - 1 = (q : Int) := by omega
      by_cases hne : r.getD q 0 = w.getD q 0
      · right
        refine ⟨q, ?_, ?_, ⟨by omega, ?_⟩, by omega⟩
        · rw [e3]
          simp only [List.getD_eq_getElem?_getD] at e1 e2 hne
          simp [t__law_next_1, e1, e2, hne]
        · rw [e3]
          have hix : ixN r.length (q : Int) = some q := by rw [ixN_in (by omega) (by omega)]; simp
          have hs : ((F (q + 1)).map oi).set q (oi 0) = (F q).map oi := by rw [← hFs q (by omega), List.map_set]
          have hfl := hF (q + 1) (by omega)
          simp [b__law_next_1, hix, hfl, hs]
        · intro j h1 h2
          by_cases hj : j = q
          · subst hj; exact hne
          · exact hI j (by omega) h2
      · left
        refine ⟨.inr ⟨by omega, by simpa using hne⟩, ?_⟩
        rw [e3]
        simp only [List.getD_eq_getElem?_getD] at e1 e2 hne
        simp [t__law_next_1, e1, e2, hne]) r.length r.length (Nat.le_refl _) ⟨Nat.le_refl _, fun j h1 h2 => by omega⟩
  have e0 : F r.length = r := by simp [F]; omega
  rw [e0] at hq
  rw [hl] at hq
  rcases hP with rfl | hP
  · have := nxt_none r w hl fun j hj => hI.2 j (Nat.zero_le _) hj
    rw [this]
    simp [un__law_next, m__law_next, hb, hq]
  · cases q with
    | zero => have := hP.1; omega
    | succ q =>
      have hP := hP.2
      simp only [Nat.add_sub_cancel] at hP
      rw [nxt_at r w q hl (by omega) (fun j h1 h2 => hI.2 j (by omega) h2) hP]
      have e1 := atI_getD (F (q + 1)) 0 (k := q) (by rw [hF _ hI.1]; omega)
      rw [hFg q (by omega)] at e1
      have e3 : ((q + 1 : Nat) : Int) - 1 = (q : Int) := by omega
      rw [e3] at hq
      have hix : ixN r.length (q : Int) = some q := by rw [ixN_in (by omega) (by omega)]; simp
      have hfl := hF (q + 1) (by omega)
      have hs : ((F (q + 1)).map oi).set q (oi (r.getD q 0 + 1)) = rowList (r.take q ++ (r.getD q 0 + 1) :: (w.drop (q + 1)).map fun _ => 0) := by
        rw [← hFx q _ (by omega), rowList, List.map_set]
      have hq0 : ¬ ((q : Int) < 0) := by omega
      generalize F (q + 1) = fq at *
      generalize r.getD q 0 = x at *
      have hrow : rowO (r.take q ++ (x + 1) :: (w.drop (q + 1)).map fun _ => 0) = .l (rowList (r.take q ++ (x + 1) :: (w.drop (q + 1)).map fun _ => 0)) := rfl
      simp only [hrow]
      simp [un__law_next, m__law_next, hb, hq, hq0, e1, hix, hfl, hs]
def optD : Option (List Int) → PyData
  | some r => rowD r
  | none => .none
theorem due_ok (w : List Int) (hw : ∀ n ∈ w, 0 ≤ n ∧ n ≤ 9) (hl : 1 ≤ w.length ∧ w.length ≤ 4) (hc : (les w).length ≤ 1000) : sem__law_due_4ac3 [.v (.list (w.map .int))] = some (.l ((les w).map fun r => .v (rowD r)), []) := by
  have hw0 : ∀ n ∈ w, 0 ≤ n := fun n hn => (hw n hn).1
  obtain ⟨t, ht⟩ := les_head w hw0
  obtain ⟨s, h, hI, hP⟩ := while_inv (mc := t__law_due_4ac3_1) (mb := b__law_due_4ac3_1) (E := fun (s : List (List Int) × Option (List Int)) => [.own (.v (.list (w.map .int))), .own (.l (s.1.map fun r => .v (rowD r))), .own (.v (optD s.2))])
    (fun s => ∃ rest, les w = s.1 ++ rest ∧ s.2 = rest.head?) (fun s => s.2 = none) (fun s => (les w).length - s.1.length) (by
    intro ⟨pre, row⟩ ⟨rest, h1, h2⟩
    cases rest with
    | nil =>
      simp at h2
      subst h2
      left
      exact ⟨rfl, by simp [t__law_due_4ac3_1, optD]⟩
    | cons r rest =>
      simp at h2
      subst h2
      right
      have hr : r ∈ les w := by rw [h1]; simp
      have hrl := les_len_el hr
      have hn := les_chain w hw0 pre r rest h1
      have hnx := next_ok r w hrl (by omega) (by omega)
      have hpl : pre.length < 16777216 := by
        have := congrArg List.length h1
        simp at this; omega
      refine ⟨(pre ++ [r], rest.head?), ?_, ?_, ⟨rest, by rw [h1]; simp, rfl⟩, ?_⟩
      · simp [t__law_due_4ac3_1, optD]
      · rw [hn] at hnx
        cases hrh : rest.head? with
        | none =>
          rw [hrh] at hnx
          simp [b__law_due_4ac3_1, optD, hnx, hpl]
        | some r' =>
          rw [hrh] at hnx
          simp [b__law_due_4ac3_1, optD, hnx, hpl]
      · have := congrArg List.length h1
        simp at this ⊢; omega) _ ([], some (w.map fun _ => 0)) (Nat.le_refl _) ⟨les w, rfl, by rw [ht]; rfl⟩
  obtain ⟨pre, row⟩ := s
  obtain ⟨rest, h1, h2⟩ := hI
  simp only at hP h2 h1
  rw [hP] at h2
  have : rest = [] := List.head?_eq_none_iff.mp h2.symm
  rw [this, List.append_nil] at h1
  subst hP h1
  have hl2 : 0 ≤ (w.length : Int) := by omega
  have hl3 : (w.length : Int) < 1000 := by omega
  simp only [optD, rowD, reps_eq] at h
  simp at h
  simp [un__law_due_4ac3, m__law_due_4ac3, hl2, hl3, h]
end Dn

set_option Elab.async false
set_option linter.all false
set_option maxRecDepth 100000
set_option maxHeartbeats 4000000
namespace Dn
open PySem L2
/-! lists of ints in order -/
def lexI : List Int → List Int → Bool
  | [], [] => false
  | [], _ :: _ => true
  | _ :: _, [] => false
  | x :: xs, y :: ys => if x = y then lexI xs ys else decide (x < y)
open PySem.W PyProof.Rows in
theorem toks_lex : ∀ a b : List Int, PyProof.Rows.lexLt itemOrd (PySem.W.keyToksAll (a.map .int)) (PySem.W.keyToksAll (b.map .int)) = lexI a b
  | [], [] => by simp [lex_irrefl, lexI]
  | [], y :: b => by
    rw [List.map_cons, PySem.W.toks_all_cons]
    simp only [List.map_nil, PySem.W.keyToksAll]
    rw [lex_diff (O := itemOrd) (by simp)]
    simp [itemLt, lexI]
  | x :: a, [] => by
    rw [List.map_cons, PySem.W.toks_all_cons]
    simp only [List.map_nil, PySem.W.keyToksAll]
    rw [lex_diff (O := itemOrd) (by simp)]
    simp [itemLt, lexI]
  | x :: a, y :: b => by
    rw [List.map_cons, List.map_cons]
    have hal : PySem.W.alike (.int x) (.int y) = true := by simp [PySem.W.alike]
    by_cases h : x = y
    · rw [PySem.W.dataLt_all_yes hal (by simp [PyData.eqv, h]), toks_lex a b]
      simp [lexI, h]
    · rw [PySem.W.dataLt_all_no hal (by simp [PyData.eqv, h]), PySem.W.dataLt_int]
      simp [lexI, h]
theorem dataLt_row (a b : List Int) : PySem.W.dataLt (rowD a) (rowD b) = lexI a b := by
  rw [PySem.W.dataLt_list, toks_lex]
theorem upTo_split {m n : Int} (h0 : 0 ≤ m) (h : m ≤ n) : ∃ t, upTo n = upTo m ++ t ∧ ∀ k ∈ t, m < k := by
  unfold upTo
  have : (n + 1).toNat = (m + 1).toNat + (n - m).toNat := by omega
  rw [this, List.range_add, List.map_append]
  refine ⟨_, rfl, fun k hk => ?_⟩
  simp only [List.map_map, List.mem_map, List.mem_range, Function.comp_apply] at hk
  obtain ⟨a, ha, rfl⟩ := hk
  omega
theorem upTo_snoc {n : Int} (h : 0 ≤ n) : ∃ t, upTo n = t ++ [n] := by
  unfold upTo
  rw [show (n + 1).toNat = n.toNat + 1 by omega, List.range_succ, List.map_append]
  refine ⟨(List.range n.toNat).map fun (k : Nat) => (k : Int), ?_⟩
  simp; omega
theorem les_last : ∀ (w : List Int), (∀ n ∈ w, 0 ≤ n) → ∃ t, les w = t ++ [w]
  | [], _ => ⟨[], rfl⟩
  | n :: w, h => by
    obtain ⟨t, ht⟩ := les_last w fun m hm => h m (List.mem_cons_of_mem _ hm)
    obtain ⟨u, hu⟩ := upTo_snoc (h n (List.mem_cons_self ..))
    rw [les_cons, hu, List.flatMap_append, ht]
    refine ⟨(u.flatMap fun k => (t ++ [w]).map (k :: ·)) ++ t.map (n :: ·), ?_⟩
    simp only [List.flatMap_cons, List.flatMap_nil, List.append_nil, List.map_append, List.map_cons, List.map_nil, ← List.append_assoc]
theorem upTo_pair (n : Int) : (upTo n).Pairwise (· < ·) := by
  unfold upTo
  rw [List.pairwise_map]
  exact List.Pairwise.imp (fun h => by omega) List.pairwise_lt_range
theorem les_pair : ∀ (w : List Int), (les w).Pairwise fun a b => lexI a b = true
  | [] => by simp [les]
  | n :: w => by
    rw [les_cons]
    have ih := les_pair w
    have := upTo_pair n
    generalize upTo n = l at this
    induction l with
    | nil => simp
    | cons k l ihl =>
      obtain ⟨h1, h2⟩ := List.pairwise_cons.mp this
      rw [List.flatMap_cons, List.pairwise_append]
      refine ⟨?_, ihl h2, fun a ha b hb => ?_⟩
      · rw [List.pairwise_map]
        exact ih.imp fun h => by simpa [lexI] using h
      · obtain ⟨a', _, rfl⟩ := List.mem_map.mp ha
        obtain ⟨j, hj, hb⟩ := List.mem_flatMap.mp hb
        obtain ⟨b', _, rfl⟩ := List.mem_map.mp hb
        have := h1 j hj
        have hne : ¬ k = j := by omega
        simp [lexI, hne, this]
/-- contents c have no less than the row r -/
def covB (c r : List Int) : Bool := (c.zip r).all fun p => decide (p.2 ≤ p.1)
theorem les_filter : ∀ (l w : List Int), l.length = w.length → (∀ p ∈ l.zip w, 0 ≤ p.1 ∧ p.1 ≤ p.2) → (les w).filter (covB l) = les l
  | [], [], _, _ => by simp [les, covB]
  | [], _ :: _, h, _ => by simp at h
  | _ :: _, [], h, _ => by simp at h
  | m :: l, n :: w, hl, h => by
    have ih := les_filter l w (by simpa using hl) fun p hp => h p (by simp [hp])
    obtain ⟨h0, h1⟩ := h (m, n) (by simp)
    obtain ⟨t, ht, hk⟩ := upTo_split h0 h1
    rw [les_cons, les_cons, ht, List.flatMap_append, List.filter_append]
    have e1 : ∀ (u : List Int), (∀ k ∈ u, k ≤ m) → (u.flatMap fun k => (les w).map (k :: ·)).filter (covB (m :: l)) = u.flatMap fun k => (les l).map (k :: ·) := by
      intro u
      induction u with
      | nil => intro _; rfl
      | cons k u ihu =>
        intro hu
        rw [List.flatMap_cons, List.flatMap_cons, List.filter_append, ihu fun k hk => hu k (List.mem_cons_of_mem _ hk), List.filter_map, ← ih]
        congr 2
        apply List.filter_congr
        intro r _
        simp [covB, hu k (List.mem_cons_self ..)]
    have e2 : (t.flatMap fun k => (les w).map (k :: ·)).filter (covB (m :: l)) = [] := by
      rw [List.filter_eq_nil_iff]
      intro r hr
      obtain ⟨k, hk', hr⟩ := List.mem_flatMap.mp hr
      obtain ⟨r', _, rfl⟩ := List.mem_map.mp hr
      have := hk k hk'
      simp only [covB, List.zip_cons_cons, List.all_cons, Bool.and_eq_true, decide_eq_true_eq, not_and]
      intro h
      omega
    rw [e1 _ fun k hk => (upTo_mem.mp hk).2, e2, List.append_nil]
theorem covB_iff (c r : List Int) : covB c r = true ↔ ∀ p ∈ r.zip c, p.1 ≤ p.2 := by
  unfold covB
  simp only [List.all_eq_true, decide_eq_true_eq]
  constructor
  · intro h p hp
    have : (p.2, p.1) ∈ c.zip r := by
      induction r generalizing c with
      | nil => simp at hp
      | cons x r ih =>
        cases c with
        | nil => simp at hp
        | cons y c =>
          simp only [List.zip_cons_cons, List.mem_cons] at hp ⊢
          rcases hp with rfl | hp
          · exact .inl rfl
          · exact .inr (ih c (fun q hq => h q (by simp [hq])) hp)
    exact h _ this
  · intro h p hp
    have : (p.2, p.1) ∈ r.zip c := by
      induction c generalizing r with
      | nil => simp at hp
      | cons x c ih =>
        cases r with
        | nil => simp at hp
        | cons y r =>
          simp only [List.zip_cons_cons, List.mem_cons] at hp ⊢
          rcases hp with rfl | hp
          · exact .inl rfl
          · exact .inr (ih r (fun q hq => h q (by simp [hq])) hp)
    exact h _ this
theorem mem_les {w r : List Int} (hr : ∀ x ∈ r, 0 ≤ x) (hl : r.length = w.length) : (r ∈ les w) ↔ covB w r = true := by
  rw [les_mem, covB_iff]
  constructor
  · intro ⟨_, h⟩ p hp
    exact (h p hp).2
  · intro h
    exact ⟨hl, fun p hp => ⟨hr p.1 (List.of_mem_zip hp).1, h p hp⟩⟩
theorem restL_len (w c : List Int) : (restL w c).length = min w.length c.length := by simp [restL]
theorem restL_rest : ∀ (w a b : List Int), (∀ x ∈ b, 0 ≤ x) → restL (restL w a) b = restL w ((a.zip b).map fun p => p.1 + p.2)
  | [], _, _, _ => by simp [restL]
  | _ :: _, [], _, _ => by simp [restL]
  | _ :: _, _ :: _, [], _ => by simp [restL]
  | x :: w, y :: a, z :: b, h => by
    have ih := restL_rest w a b fun u hu => h u (List.mem_cons_of_mem _ hu)
    have := h z (List.mem_cons_self ..)
    simp only [restL, List.zip_cons_cons, List.map_cons, List.cons.injEq] at ih ⊢
    exact ⟨by omega, ih⟩
theorem restL_les {w c : List Int} (hw : ∀ x ∈ w, 0 ≤ x) (hc : ∀ x ∈ c, 0 ≤ x) (hl : c.length = w.length) : restL w c ∈ les w := by
  rw [les_mem]
  refine ⟨by rw [restL_len]; omega, ?_⟩
  induction w generalizing c with
  | nil => simp
  | cons x w ih =>
    cases c with
    | nil => simp at hl
    | cons y c =>
      intro p hp
      simp only [restL, List.zip_cons_cons, List.map_cons, List.mem_cons] at hp
      rcases hp with rfl | hp
      · have h1 := hw x (List.mem_cons_self ..)
        have h2 := hc y (List.mem_cons_self ..)
        simp only; omega
      · exact ih (fun u hu => hw u (List.mem_cons_of_mem _ hu)) (fun u hu => hc u (List.mem_cons_of_mem _ hu)) (by simpa using hl) p hp
theorem restL_zero (w c : List Int) (hl : c.length = w.length) : restL w c = reps w.length 0 ↔ covB c w = true := by
  induction w generalizing c with
  | nil => cases c <;> simp [restL, reps, covB]
  | cons x w ih =>
    cases c with
    | nil => simp at hl
    | cons y c =>
      have := ih c (by simpa using hl)
      simp only [restL, covB, reps, List.zip_cons_cons, List.map_cons, List.length_cons, List.replicate_succ, List.cons.injEq, List.all_cons, Bool.and_eq_true, decide_eq_true_eq] at this ⊢
      rw [this]
      constructor
      · intro ⟨h1, h2⟩; exact ⟨by omega, h2⟩
      · intro ⟨h1, h2⟩; exact ⟨by omega, h2⟩
theorem in_rows (r : List Int) (rows : List (List Int)) : fIn [rowD r, .list (rows.map rowD)] = some (.bool (rows.any fun z => decide (z = r))) := by
  have e : (rows.map rowD).any (fun z => PyData.eqv z (rowD r)) = rows.any fun z => decide (z = r) := by
    rw [List.any_map]
    congr 1
    funext z
    have h := eqv_iff 1 (rowD z) (rowD r) (by simp) (by simp)
    rw [Function.comp_apply, Bool.eq_iff_iff, h, decide_eq_true_eq]
    simp [map_int_inj]
  show (if SeqAt.shaped (rowD r) && SeqAt.shaped (.list (rows.map rowD)) then some (PyData.bool ((rows.map rowD).any fun z => PyData.eqv z (rowD r))) else none) = _
  rw [e]
  simp
theorem notIn_rows (r : List Int) (rows : List (List Int)) : fNotIn [rowD r, .list (rows.map rowD)] = some (.bool (!rows.any fun z => decide (z = r))) := by
  have e : (rows.map rowD).any (fun z => PyData.eqv z (rowD r)) = rows.any fun z => decide (z = r) := by
    rw [List.any_map]
    congr 1
    funext z
    have h := eqv_iff 1 (rowD z) (rowD r) (by simp) (by simp)
    rw [Function.comp_apply, Bool.eq_iff_iff, h, decide_eq_true_eq]
    simp [map_int_inj]
  show (if SeqAt.shaped (rowD r) && SeqAt.shaped (.list (rows.map rowD)) then some (PyData.bool (!(rows.map rowD).any fun z => PyData.eqv z (rowD r))) else none) = _
  rw [e]
  simp
end Dn

set_option Elab.async false
set_option linter.all false
set_option maxRecDepth 100000
set_option maxHeartbeats 4000000
namespace Dn
open PySem L2
/-! shops -/
inductive Off where
  | pack (c : List Int) (p : Int)
  | many (c : List Int) (ts : List (Int × Int))
  | add (c : List Int) (p : Int) (k : Int)
def tierD (t : Int × Int) : PyData := .tuple [.int t.1, .int t.2]
namespace Off
def kd : Off → Str
  | pack _ _ => "pack"
  | many _ _ => "many"
  | add _ _ _ => "add"
def c : Off → List Int
  | pack c _ => c
  | many c _ => c
  | add c _ _ => c
def d : Off → PyData
  | pack c p => .tuple [.str "pack", .list (c.map .int), .int p]
  | many c ts => .tuple [.str "many", .list (c.map .int), .list (ts.map tierD)]
  | add c p k => .tuple [.str "add", .list (c.map .int), .int p, .int k]
def isPack : Off → Bool
  | pack _ _ => true
  | _ => false
def isMany : Off → Bool
  | many _ _ => true
  | _ => false
def isAdd : Off → Bool
  | add _ _ _ => true
  | _ => false
end Off
theorem fEq_str (x y : Str) (hx : PyData.strOk x = true) (hy : PyData.strOk y = true) : fEq [.str x, .str y] = some (.bool (decide (x = y))) := by
  simp [fEq_ap, hx, hy, PyData.eqv]; rfl
theorem ok_pack : PyData.strOk "pack" = true := by decide +kernel
theorem ok_many : PyData.strOk "many" = true := by decide +kernel
theorem ok_add : PyData.strOk "add" = true := by decide +kernel
theorem kd_ok (o : Off) : PyData.strOk o.kd = true := by cases o <;> first | exact ok_pack | exact ok_many | exact ok_add
@[simp] theorem fEq_kp (o : Off) : fEq [.str o.kd, .str "pack"] = some (.bool o.isPack) := by
  rw [fEq_str _ _ (kd_ok o) ok_pack]
  cases o <;> (simp only [Off.kd, Off.isPack]; congr 2)
@[simp] theorem fEq_km (o : Off) : fEq [.str o.kd, .str "many"] = some (.bool o.isMany) := by
  rw [fEq_str _ _ (kd_ok o) ok_many]
  cases o <;> (simp only [Off.kd, Off.isMany]; congr 2)
@[simp] theorem fEq_ka (o : Off) : fEq [.str o.kd, .str "add"] = some (.bool o.isAdd) := by
  rw [fEq_str _ _ (kd_ok o) ok_add]
  cases o <;> (simp only [Off.kd, Off.isAdd]; congr 2)
@[simp] theorem ixO_d0 (o : Off) : ixO [.v o.d, .v (.int 0)] = some (.str o.kd) := by cases o <;> simp [Off.d, Off.kd]
@[simp] theorem ixO_d1 (o : Off) : ixO [.v o.d, .v (.int 1)] = some (.list (o.c.map .int)) := by cases o <;> simp [Off.d, Off.c]
@[simp] theorem nb_d (o : Off) : nb o.d 3 = true := by
  cases o <;> simp [Off.d, ok_pack, ok_many, ok_add, tierD]
/-- tiers as told -/
structure Tiers (ts : List (Int × Int)) : Prop where
  len : 1 ≤ ts.length ∧ ts.length ≤ 4
  one : (ts.map (·.1)).head? = some 1
  up : (ts.map (·.1)).Pairwise (· < ·)
  most : ∀ t ∈ ts, 1 ≤ t.1 ∧ t.1 ≤ 12
  price : ∀ t ∈ ts, 0 ≤ t.2 ∧ t.2 < 2000000000000
/-- an offer that may stand at place i of a shop of n things -/
structure GoodO (n : Nat) (sh : List Off) (i : Nat) (o : Off) : Prop where
  w : Want n o.c
  sum : 0 < o.c.sum
  kind : match o with
    | .pack _ p => 0 ≤ p ∧ p < 1000000000000
    | .many _ ts => Tiers ts
    | .add _ p k => (0 ≤ p ∧ p < 1000000000000) ∧ 0 ≤ k ∧ k < i ∧ ∃ c p', sh[k.toNat]? = some (.pack c p')
def Good (n : Nat) (sh : List Off) : Prop := ∀ i o, sh[i]? = some o → GoodO n sh i o
theorem content_ok (ds : List Int) (many : Int) (hm : 1 ≤ many ∧ many ≤ 4) : ∃ (w ds' : List Int), sem__law_content_9bc7 [.l (ds.map oi), oi many] = some (.l (w.map oi), [.l (ds'.map oi)]) ∧ Want many.toNat w ∧ 0 < w.sum := by
  obtain ⟨w, d1, h1, hw, -⟩ := want_ok ds many hm
  have hnn : ∀ l : List Int, (∀ x ∈ l, 0 ≤ x) → 0 ≤ l.sum ∧ (l.sum = 0 → ∀ x ∈ l, x = 0) := by
    intro l
    induction l with
    | nil => simp
    | cons a l ih =>
      intro h
      obtain ⟨i1, i2⟩ := ih fun x hx => h x (List.mem_cons_of_mem _ hx)
      have ha := h a (List.mem_cons_self ..)
      rw [List.sum_cons]
      refine ⟨by omega, fun hz x hx => ?_⟩
      rcases List.mem_cons.mp hx with rfl | hx
      · omega
      · exact i2 (by omega) x hx
  have hs := hnn w fun x hx => (hw.nine x hx).1
  by_cases h0 : w.sum = 0
  · obtain ⟨a, d2, h2⟩ := pop_ok d1
    obtain ⟨b, d3, h3⟩ := pop_ok d2
    have hj : 0 ≤ b % many ∧ b % many < many := ⟨Int.emod_nonneg _ (by omega), Int.emod_lt_of_pos _ (by omega)⟩
    have hix : ixN w.length (b % many) = some (b % many).toNat := ixN_in hj.1 (by rw [hw.len]; omega)
    have hmod : fMod [.int b, .int many] = some (.int (b % many)) := fMod_s (by omega)
    refine ⟨w.set (b % many).toNat (1 + a % 9), d3, ?_, ⟨by simp [hw.len], fun x hx => ?_⟩, ?_⟩
    · simp [un__law_content_9bc7, m__law_content_9bc7, h1, h0, h2, h3, hmod, hix, List.map_set]
    · rcases List.mem_or_eq_of_mem_set hx with hx | rfl
      · exact hw.nine x hx
      · omega
    · have hjl : (b % many).toNat < w.length := by rw [hw.len]; omega
      have hmem : (1 + a % 9) ∈ w.set (b % many).toNat (1 + a % 9) := List.mem_set hjl _
      have hn2 := hnn (w.set (b % many).toNat (1 + a % 9)) fun x hx => by
        rcases List.mem_or_eq_of_mem_set hx with hx | rfl
        · exact (hw.nine x hx).1
        · omega
      rcases Int.lt_or_eq_of_le hn2.1 with h | h
      · exact h
      · have := hn2.2 h.symm _ hmem
        omega
  · refine ⟨w, d1, ?_, hw, by omega⟩
    simp [un__law_content_9bc7, m__law_content_9bc7, h1, h0]
theorem price_ok (ds : List Int) : ∃ (p : Int) (ds' : List Int), sem__law_price_9bd3 [.l (ds.map oi)] = some (oi p, [.l (ds'.map oi)]) ∧ 0 ≤ p ∧ p < 1000000000000 := by
  obtain ⟨n, d1, h1⟩ := pop_ok ds
  have h3 : 0 ≤ n % 4 ∧ n % 4 < 4 := by omega
  obtain ⟨x, hx, hx2⟩ := atI_in [n / 4 % 30, n / 4 % 1000, 0, n * 7919 % 1000000000000] (i := n % 4) h3.1 (by simp; omega)
  have hm := List.mem_of_getElem? hx2
  have hx' := congrArg (Option.map oi) hx
  rw [← atI_map] at hx'
  simp at hx'
  have hmod : fMod [.int (n * 7919), .int 1000000000000] = some (.int (n * 7919 % 1000000000000)) := fMod_s (by decide)
  refine ⟨x, d1, ?_, ?_, ?_⟩
  · simp [un__law_price_9bd3, m__law_price_9bd3, h1, hx']
  · simp at hm; omega
  · simp at hm; omega
theorem pick3 (x : Int) : ∃ y : Int, atI [oi 1, oi 3, oi 8] (x % 3) = some (oi y) ∧ 0 < y := by
  rcases (show x % 3 = 0 ∨ x % 3 = 1 ∨ x % 3 = 2 by omega) with h | h | h <;> rw [h]
  · exact ⟨1, by simp, by decide⟩
  · exact ⟨3, by simp, by decide⟩
  · exact ⟨8, by simp, by decide⟩
theorem tiers_turn (ds : List Int) (k : Nat) (ts : List (Int × Int)) (at' : Int) (hl : ts.length ≤ 4) : ∃ (p z : Int) (ds' : List Int),
    b__law_tiers_278e_1 [.pin (.l (ds.map oi)), .own (.l (ts.map fun t => .v (tierD t))), .own (.v (.int at')), .own (.v (.int (k : Int))), .no] = some (.nx [.pin (.l (ds'.map oi)), .own (.l ((if at' < 13 then ts ++ [(at', p)] else ts).map fun t => .v (tierD t))), .own (.v (.int (at' + 1 + z))), .no, .no]) ∧ 0 ≤ z ∧ 0 ≤ p ∧ p < 1000000000000 := by
  obtain ⟨n, d1, h1⟩ := pop_ok ds
  obtain ⟨p, d2, h2, hp⟩ := price_ok d1
  obtain ⟨y, hy, hy0⟩ := pick3 (n / 8)
  have hmod : fMod [.int n, .int y] = some (.int (n % y)) := fMod_s hy0
  have hz : 0 ≤ n % y := Int.emod_nonneg _ (by omega)
  have hl2 : ts.length < 16777216 := by omega
  by_cases h : at' < 13
  · refine ⟨p, n % y, d2, ?_, hz, hp⟩
    simp [b__law_tiers_278e_1, h1, h2, h, hy, hmod, hl2, tierD]
  · refine ⟨p, n % y, d1, ?_, hz, hp⟩
    simp [b__law_tiers_278e_1, h1, h, hy, hmod]
/-- tiers so far: where the next one would begin -/
structure TierI (pre : Nat) (ts : List (Int × Int)) (at' : Int) : Prop where
  len : ts.length ≤ pre
  pos : 1 ≤ at' ∧ (ts = [] → at' = 1) ∧ (pre ≠ 0 → ts ≠ [])
  one : ts ≠ [] → (ts.map (·.1)).head? = some 1
  up : (ts.map (·.1)).Pairwise (· < ·)
  most : ∀ t ∈ ts, 1 ≤ t.1 ∧ t.1 ≤ 12 ∧ t.1 < at'
  price : ∀ t ∈ ts, 0 ≤ t.2 ∧ t.2 < 1000000000000
theorem tiers_ok (ds : List Int) : ∃ (ts : List (Int × Int)) (ds' : List Int), sem__law_tiers_278e [.l (ds.map oi)] = some (.l (ts.map fun t => .v (tierD t)), [.l (ds'.map oi)]) ∧ Tiers ts := by
  obtain ⟨n, d1, h1⟩ := pop_ok ds
  obtain ⟨⟨ts, at', d2⟩, h2, hI⟩ := for_inv (tg := .n 3) (body := b__law_tiers_278e_1) (enc := fun (k : Nat) => O.v (.int (k : Int))) (E := fun (s : List (Int × Int) × Int × List Int) => [.pin (.l (s.2.2.map oi)), .own (.l (s.1.map fun t => .v (tierD t))), .own (.v (.int s.2.1)), .no, .no])
    (fun pre s => TierI pre.length s.1 s.2.1) (all := List.range (1 + n % 4).toNat) (List.range (1 + n % 4).toNat) [] ([], 1, d1) rfl { len := Nat.le_refl _, pos := ⟨Int.le_refl 1, fun _ => rfl, fun h => absurd rfl h⟩, one := fun h => absurd rfl h, up := .nil, most := (fun t ht => nomatch ht), price := (fun t ht => nomatch ht) } (by
    intro pre k post ⟨ts, at', ds⟩ hall hI
    have hpl : pre.length < 4 := by have := congrArg List.length hall; simp at this; omega
    have hts := hI.len
    obtain ⟨p, z, ds', hb, hz, hp⟩ := tiers_turn ds k ts at' (by simp only at hts; omega)
    refine ⟨(if at' < 13 then ts ++ [(at', p)] else ts, at' + 1 + z, ds'), _, rfl, hb, ?_⟩
    have hpos := hI.pos
    simp only at hpos
    by_cases h : at' < 13
    · simp only [if_pos h]
      refine ⟨by simp; exact hI.len, ⟨by omega, fun h => by simp at h, fun _ => by simp⟩, fun _ => ?_, ?_, ?_, ?_⟩
      · cases ts with
        | nil => simp [hpos.2.1 rfl]
        | cons t ts => simpa using hI.one (by simp)
      · rw [List.map_append, List.pairwise_append]
        refine ⟨hI.up, by simp, fun a ha b hb => ?_⟩
        obtain ⟨t, ht, rfl⟩ := List.mem_map.mp ha
        simp at hb
        subst hb
        exact (hI.most t ht).2.2
      · intro t ht
        rcases List.mem_append.mp ht with ht | ht
        · obtain ⟨a, b, c⟩ := hI.most t ht
          simp only at c
          exact ⟨a, b, by omega⟩
        · simp at ht; subst ht; simp only; omega
      · intro t ht
        rcases List.mem_append.mp ht with ht | ht
        · exact hI.price t ht
        · simp at ht; subst ht; exact hp
    · simp only [if_neg h]
      have hne : ts ≠ [] := fun z => by have := hpos.2.1 z; omega
      exact ⟨by simp; exact Nat.le_succ_of_le hI.len, ⟨by omega, fun h => absurd h hne, fun _ => hne⟩, hI.one, hI.up, fun t ht => by
        obtain ⟨a, b, c⟩ := hI.most t ht
        simp only at c
        exact ⟨a, b, by omega⟩, hI.price⟩)
  simp only [List.length_range] at hI
  have hne : ts ≠ [] := hI.pos.2.2 (by omega)
  have hb1 : -4611686018427387904 ≤ 1 + n % 4 := by omega
  have hb2 : 1 + n % 4 < 4611686018427387904 := by omega
  refine ⟨ts, d2, ?_, ⟨⟨List.length_pos_iff.mpr hne, by have := hI.len; omega⟩, hI.one hne, hI.up, fun t ht => ⟨(hI.most t ht).1, (hI.most t ht).2.1⟩, fun t ht => ⟨(hI.price t ht).1, by have := (hI.price t ht).2; omega⟩⟩⟩
  simp only [List.map_nil] at h2
  simp [un__law_tiers_278e, m__law_tiers_278e, h1, hb1, hb2, h2]
end Dn

set_option Elab.async false
set_option linter.all false
set_option maxRecDepth 100000
set_option maxHeartbeats 4000000
namespace Dn
open PySem L2
abbrev offO (o : Off) : O := .v o.d
/-- the places of packs -/
def packsL (sh : List Off) : List Int := ((List.range sh.length).filter fun k => match sh[k]? with | some o => o.isPack | none => false).map fun (k : Nat) => (k : Int)
theorem packs_lc (sh : List Off) (e : En) (h3 : e[3]? = some (.own (.l (sh.map offO)))) (h8 : e[8]? = some .no) :
    lcL (.n 8) ct__law_shop_0742_1 ce__law_shop_0742_1 [8] ((List.range sh.length).map fun (k : Nat) => O.v (.int (k : Int))) e = some ((packsL sh).map oi, e) := by
  rw [packsL, List.map_map]
  refine lc_filter1 h8 _ fun k hk e' h1 h2 => ?_
  simp at hk
  obtain ⟨o, ho⟩ : ∃ o, sh[k]? = some o := ⟨_, List.getElem?_eq_getElem hk⟩
  have ha : atI sh (k : Int) = some o := atI_nat rfl ho
  refine ⟨?_, fun _ => ?_⟩
  · simp [ct__law_shop_0742_1, h1, h2, h3, ha, ho]
  · simp [ce__law_shop_0742_1, h1]
theorem packsL_mem {sh : List Off} {x : Int} (h : x ∈ packsL sh) : 0 ≤ x ∧ x < sh.length ∧ ∃ c p, sh[x.toNat]? = some (.pack c p) := by
  unfold packsL at h
  obtain ⟨k, hk, rfl⟩ := List.mem_map.mp h
  obtain ⟨h1, h2⟩ := List.mem_filter.mp hk
  simp at h1
  refine ⟨by omega, by omega, ?_⟩
  cases ho : sh[k]? with
  | none => rw [ho] at h2; simp at h2
  | some o =>
    rw [ho] at h2
    cases o with
    | pack c p => exact ⟨c, p, by simpa using ho⟩
    | many c ts => simp [Off.isPack] at h2
    | add c p k => simp [Off.isPack] at h2
theorem Good.snoc {n : Nat} {sh : List Off} {o : Off} (h : Good n sh) (ho : GoodO n sh sh.length o) : Good n (sh ++ [o]) := by
  have lift : ∀ (i : Nat) (x : Off), GoodO n sh i x → i ≤ sh.length → GoodO n (sh ++ [o]) i x := fun i x hx hi => by
    refine ⟨hx.w, hx.sum, ?_⟩
    have := hx.kind
    cases x with
    | pack c p => exact this
    | many c ts => exact this
    | add c p k =>
      obtain ⟨a, b, c', ⟨c2, p2, h2⟩⟩ := this
      refine ⟨a, b, c', c2, p2, ?_⟩
      rw [List.getElem?_append_left (by omega)]
      exact h2
  intro i x hx
  by_cases hi : i < sh.length
  · rw [List.getElem?_append_left hi] at hx
    exact lift i x (h i x hx) (by omega)
  · have hl := (List.getElem?_eq_some_iff.mp hx).1
    simp at hl
    have : i = sh.length := by omega
    subst this
    simp at hx
    subst hx
    exact lift _ _ ho (Nat.le_refl _)
theorem shop_turn (ds : List Int) (many most : Int) (hm : 1 ≤ many ∧ many ≤ 4) (k : Nat) (sh : List Off) (hg : Good many.toNat sh) (hl : sh.length ≤ 100) : ∃ (o : Off) (ds' : List Int),
    b__law_shop_0742_1 [.pin (.l (ds.map oi)), .own (.v (.int many)), .own (.v (.int most)), .own (.l (sh.map offO)), .own (.v (.int (k : Int))), .no, .no, .no, .no] = some (.nx [.pin (.l (ds'.map oi)), .own (.v (.int many)), .own (.v (.int most)), .own (.l ((sh ++ [o]).map offO)), .no, .no, .no, .no, .no]) ∧ GoodO many.toNat sh sh.length o := by
  obtain ⟨n, d1, h1⟩ := pop_ok ds
  obtain ⟨c, d2, h2, hc, hs⟩ := content_ok d1 many hm
  obtain ⟨p, d3, h3, hp⟩ := price_ok d2
  obtain ⟨ts, d4, h4, ht⟩ := tiers_ok d2
  have hpk := packs_lc sh
  have hb1 : -4611686018427387904 ≤ (sh.length : Int) := by omega
  have hb2 : (sh.length : Int) < 4611686018427387904 := by omega
  have hb3 : sh.length ≤ 16777216 := by omega
  have hb4 : sh.length < 16777216 := by omega
  have hd : O.toDs (ts.map fun t => O.v (tierD t)) = some (ts.map tierD) := toDs_mapv _ _
  by_cases hadd : 4 < n % 8
  · by_cases hne : packsL sh = []
    · -- no pack: n % 8 > 2 then
      have h22 : 2 < n % 8 := by omega
      refine ⟨.many c ts, d4, ?_, ⟨hc, hs, ht⟩⟩
      have hfn := fNe_nil (packsL sh)
      simp [hne] at hfn
      simp [b__law_shop_0742_1, h1, h2, h4, hpk, hb1, hb2, hb3, hb4, hadd, hne, hfn, h22, Off.d]
    · have hpl : 0 < (packsL sh).length := List.length_pos_iff.mpr hne
      obtain ⟨x, hx, hx2⟩ := atI_in (packsL sh) (i := n / 8 % ((packsL sh).length : Int)) (Int.emod_nonneg _ (by omega)) (Int.emod_lt_of_pos _ (by omega))
      obtain ⟨q1, q2, q3⟩ := packsL_mem (List.mem_of_getElem? hx2)
      have hmod : fMod [.int (n / 8), .int ((packsL sh).length : Int)] = some (.int (n / 8 % ((packsL sh).length : Int))) := fMod_s (by omega)
      refine ⟨.add c p x, d3, ?_, ⟨hc, hs, hp, q1, q2, q3⟩⟩
      simp [b__law_shop_0742_1, h1, h2, h3, hpk, hb1, hb2, hb3, hb4, hadd, hne, hx, hmod, Off.d]
  · by_cases hmany : 2 < n % 8
    · refine ⟨.many c ts, d4, ?_, ⟨hc, hs, ht⟩⟩
      simp [b__law_shop_0742_1, h1, h2, h4, hpk, hb1, hb2, hb3, hb4, hadd, hmany, Off.d]
    · refine ⟨.pack c p, d3, ?_, ⟨hc, hs, hp⟩⟩
      simp [b__law_shop_0742_1, h1, h2, h3, hpk, hb1, hb2, hb3, hb4, hadd, hmany, Off.d]
theorem shop_ok (ds : List Int) (many most : Int) (hm : 1 ≤ many ∧ many ≤ 4) (hmo : 0 ≤ most ∧ most ≤ 50) : ∃ (sh : List Off) (ds' : List Int), sem__law_shop_0742 [.l (ds.map oi), oi many, oi most] = some (.l (sh.map offO), [.l (ds'.map oi)]) ∧ Good many.toNat sh ∧ sh.length ≤ most.toNat := by
  obtain ⟨n, d1, h1⟩ := pop_ok ds
  have hmod : fMod [.int n, .int (most + 1)] = some (.int (n % (most + 1))) := fMod_s (by omega)
  have hr : 0 ≤ n % (most + 1) ∧ n % (most + 1) < most + 1 := ⟨Int.emod_nonneg _ (by omega), Int.emod_lt_of_pos _ (by omega)⟩
  obtain ⟨⟨sh, d2⟩, h2, hI⟩ := for_inv (tg := .n 4) (body := b__law_shop_0742_1) (enc := fun (k : Nat) => O.v (.int (k : Int))) (E := fun (s : List Off × List Int) => [.pin (.l (s.2.map oi)), .own (.v (.int many)), .own (.v (.int most)), .own (.l (s.1.map offO)), .no, .no, .no, .no, .no])
    (fun pre s => Good many.toNat s.1 ∧ s.1.length = pre.length) (all := List.range (n % (most + 1)).toNat) (List.range (n % (most + 1)).toNat) [] ([], d1) rfl ⟨fun i o h => by simp at h, rfl⟩ (by
    intro pre k post ⟨sh, ds⟩ hall ⟨hg, hl⟩
    have hpl : pre.length < 51 := by have := congrArg List.length hall; simp at this; omega
    simp only at hg hl
    obtain ⟨o, ds', hb, ho⟩ := shop_turn ds many most hm k sh hg (by omega)
    exact ⟨(sh ++ [o], ds'), _, rfl, hb, hg.snoc ho, by simp [hl]⟩)
  have hb1 : -4611686018427387904 ≤ n % (most + 1) := by omega
  have hb2 : n % (most + 1) < 4611686018427387904 := by omega
  refine ⟨sh, d2, ?_, hI.1, by have := hI.2; simp at this; omega⟩
  simp only [List.map_nil] at h2
  simp [un__law_shop_0742, m__law_shop_0742, h1, hmod, hb1, hb2, h2]
end Dn

set_option Elab.async false
set_option linter.all false
set_option maxRecDepth 100000
set_option maxHeartbeats 4000000
namespace Dn
open PySem L2
theorem cutG_take {α : Type} (xs : List α) (n : Nat) : cutG xs none (some (n : Int)) = xs.take n := by
  unfold cutG
  rw [HT.sIx_none, HT.sIx_nat, List.drop_zero, Nat.sub_zero]
  by_cases h : n ≤ xs.length
  · rw [Nat.min_eq_left h]
  · rw [Nat.min_eq_right (by omega), List.take_length, List.take_of_length_le (by omega)]
theorem cutG_drop {α : Type} (xs : List α) (n : Nat) : cutG xs (some (n : Int)) none = xs.drop n := by
  unfold cutG
  rw [HT.sIx_none, HT.sIx_nat]
  by_cases h : n ≤ xs.length
  · rw [Nat.min_eq_left h, List.take_of_length_le (by simp)]
  · rw [Nat.min_eq_right (by omega), List.drop_of_length_le (by omega), List.drop_of_length_le (by omega)]
    simp
@[simp] theorem slO_l (xs : List O) (lo hi : Option Int) : slO (.l xs) lo hi = some (.l (cutG xs lo hi)) := id rfl
@[simp] theorem slO_v (ds : List PyData) (lo hi : Option Int) : slO (.v (.list ds)) lo hi = some (.l (cutG (ds.map .v) lo hi)) := id rfl
theorem cutG_map1 {α β : Type} (f : α → β) (xs : List α) (lo hi : Option Int) : cutG (xs.map f) lo hi = (cutG xs lo hi).map f := cutG_map f xs lo hi
def startsL (ts : List (Int × Int)) : List Int := ts.map (·.1)
theorem atI_last {α : Type} (xs : List α) (x : α) : atI (xs ++ [x]) (-1) = some x := by
  unfold atI ixN
  rw [if_neg (by decide), if_pos (by simp; omega)]
  have : (-1 + ((xs ++ [x]).length : Int)).toNat = xs.length := by simp; omega
  rw [this]
  simp
theorem tiersR_ok (ts : List (Int × Int)) (h : Tiers ts) : sem_tiers_right [.v (.list (ts.map tierD))] = some (.v (.bool true), []) := by
  have hl : ts.length ≤ 4 := h.len.2
  have hlc : lcL (.tp [(.n 2), (.n 3)]) mYes ce_tiers_right_1 [2, 3] (ts.map fun t => .v (tierD t)) [.own (.v (.list (ts.map tierD))), .no, .no, .no, .no] = some ((startsL ts).map oi, [.own (.v (.list (ts.map tierD))), .no, .no, .no, .no]) := by
    rw [startsL, List.map_map]
    refine lc_map _ fun t _ => ?_
    simp [ce_tiers_right_1, tierD]
  have hsl : (startsL ts).length = ts.length := by simp [startsL]
  obtain ⟨r, hr⟩ : ∃ r, startsL ts = 1 :: r := by
    have := h.one
    cases hs : startsL ts with
    | nil => rw [startsL] at hs; rw [hs] at this; simp at this
    | cons x r => rw [startsL] at hs; rw [hs] at this; simp at this; exact ⟨r, by rw [this]⟩
  obtain ⟨u, z, hz⟩ : ∃ u z, startsL ts = u ++ [z] := by
    have hne : startsL ts ≠ [] := by rw [hr]; simp
    exact ⟨_, _, (List.dropLast_concat_getLast hne).symm⟩
  have hz12 : z ≤ 12 := by
    have : z ∈ startsL ts := by rw [hz]; simp
    obtain ⟨t, ht, rfl⟩ := List.mem_map.mp this
    exact (h.most t ht).2
  have hcut : cutG ((startsL ts).map fun n => O.v (.int n)) none (some 1) = [oi 1] := by
    rw [show (1 : Int) = ((1 : Nat) : Int) from rfl, cutG_take, hr]; rfl
  have hlast : atI (startsL ts) (-1) = some z := by rw [hz]; exact atI_last u z
  have hall : ∀ e : En, e[1]? = some (.own (.v (.list ((startsL ts).map .int)))) → e[4]? = some .no → lcL (.n 4) mYes ce_tiers_right_2 [4] ((List.range (ts.length - 1)).map fun (k : Nat) => O.v (.int (k : Int))) e = some ((List.range (ts.length - 1)).map (fun _ => O.v (.bool true)), e) := fun e h1 h4 => by
    refine lc_map1 h4 _ fun k hk e' g1 g2 => ?_
    simp at hk
    have hp := List.pairwise_iff_getElem.mp h.up k (k + 1) (by simp; omega) (by simp; omega) (by omega)
    obtain ⟨a, ha⟩ : ∃ a, (startsL ts)[k]? = some a := ⟨_, List.getElem?_eq_getElem (by omega)⟩
    obtain ⟨b, hb⟩ : ∃ b, (startsL ts)[k + 1]? = some b := ⟨_, List.getElem?_eq_getElem (by omega)⟩
    have hab : a < b := by
      have e1 := (List.getElem?_eq_some_iff.mp ha).2
      have e2 := (List.getElem?_eq_some_iff.mp hb).2
      simp only [startsL] at e1 e2
      rw [e1, e2] at hp
      exact hp
    have e1 : atI (startsL ts) (k : Int) = some a := atI_nat rfl ha
    have e2 : atI (startsL ts) ((k : Int) + 1) = some b := atI_nat (j := k + 1) (by omega) hb
    simp [ce_tiers_right_2, g1, g2, h1, e1, e2, hab]
  have b1 : -4611686018427387904 ≤ (ts.length : Int) - 1 := by omega
  have b2 : (ts.length : Int) - 1 < 4611686018427387904 := by omega
  have b3 : ((ts.length : Int) - 1).toNat = ts.length - 1 := by omega
  have b4 : ts.length ≤ 16777216 := by omega
  have b5 : ts.length ≤ 16777217 := by omega
  have b6 : ¬ 4 < (ts.length : Int) := by omega
  have b7 : ¬ 12 < z := by omega
  have fne : fNe [.list [.int 1], .list [.int 1]] = some (.bool false) := fNe_same 1 (by decide) (by simp)
  have hne1 : ¬ 4 < ts.length := by omega
  have hbb : (List.range (ts.length - 1)).map (fun _ => PyData.bool true) = ((List.range (ts.length - 1)).map fun _ => true).map .bool := by simp
  simp [un_tiers_right, m_tiers_right, hlc, hcut, fne, hsl, hlast, b1, b2, b3, b4, b5, b6, b7, hne1, hall]
@[simp] theorem ixO_a2 (c : List Int) (p k : Int) : ixO [.v (Off.add c p k).d, .v (.int 2)] = some (.int p) := by simp [Off.d]
@[simp] theorem ixO_a3 (c : List Int) (p k : Int) : ixO [.v (Off.add c p k).d, .v (.int 3)] = some (.int k) := by simp [Off.d]
@[simp] theorem ixO_p2 (c : List Int) (p : Int) : ixO [.v (Off.pack c p).d, .v (.int 2)] = some (.int p) := by simp [Off.d]
@[simp] theorem ixO_m2 (c : List Int) (ts : List (Int × Int)) : ixO [.v (Off.many c ts).d, .v (.int 2)] = some (.list (ts.map tierD)) := by simp [Off.d]
@[simp] theorem isPack_p (c : List Int) (p : Int) : (Off.pack c p).isPack = true := id rfl
@[simp] theorem isPack_m (c : List Int) (ts : List (Int × Int)) : (Off.many c ts).isPack = false := id rfl
@[simp] theorem isPack_a (c : List Int) (p k : Int) : (Off.add c p k).isPack = false := id rfl
@[simp] theorem isMany_p (c : List Int) (p : Int) : (Off.pack c p).isMany = false := id rfl
@[simp] theorem isMany_m (c : List Int) (ts : List (Int × Int)) : (Off.many c ts).isMany = true := id rfl
@[simp] theorem isMany_a (c : List Int) (p k : Int) : (Off.add c p k).isMany = false := id rfl
@[simp] theorem isAdd_p (c : List Int) (p : Int) : (Off.pack c p).isAdd = false := id rfl
@[simp] theorem isAdd_m (c : List Int) (ts : List (Int × Int)) : (Off.many c ts).isAdd = false := id rfl
@[simp] theorem isAdd_a (c : List Int) (p k : Int) : (Off.add c p k).isAdd = true := id rfl
abbrev shopD (sh : List Off) : PyData := .list (sh.map Off.d)
theorem enu_shop (sh : List Off) : enuO 0 (sh.map fun o => O.v o.d) = (sh.zipIdx 0).map fun p => .t [oi (p.2 : Nat), .v p.1.d] := enuO_map _ 0 sh
theorem zipIdx_get {α : Type} {xs : List α} {p : α × Nat} (h : p ∈ xs.zipIdx 0) : xs[p.2]? = some p.1 := by
  have := List.mem_zipIdx_iff_getElem?.mp h
  simpa using this
theorem look_ok (n : Nat) (sh : List Off) (hg : Good n sh) : sem_look [.v (shopD sh)] = some (.v .none, []) := by
  have h := (for_fold (tg := .tp [(.n 1), (.n 2)]) (body := b_look_1) (enc := fun (p : Off × Nat) => O.t [oi (p.2 : Nat), .v p.1.d]) (E := fun (_ : Unit) => [.own (.v (shopD sh)), .no, .no, .no]) (step := fun _ _ => ()) (I := fun _ => True) (sh.zipIdx 0) () trivial (by
    intro ⟨o, i⟩ hp _ _
    have ho := zipIdx_get hp
    simp only at ho
    have hk := (hg i o ho).kind
    cases o with
    | pack c p =>
      refine ⟨trivial, _, rfl, ?_⟩
      simp [b_look_1]
    | many c ts =>
      have := tiersR_ok ts hk
      refine ⟨trivial, _, rfl, ?_⟩
      simp [b_look_1, this]
    | add c p k =>
      obtain ⟨-, k0, ki, c', p', hk'⟩ := hk
      have ha : atI sh k = some (.pack c' p') := atI_nat (j := k.toNat) (by omega) hk'
      refine ⟨trivial, _, rfl, ?_⟩
      simp [b_look_1, k0, ki, ha, sV])).1
  simp [un_look, m_look, enu_shop, h]
end Dn

set_option Elab.async false
set_option linter.all false
set_option maxRecDepth 100000
set_option maxHeartbeats 4000000
namespace Dn
open PySem L2
def isAddOf (place : Int) : Off → Bool
  | .add _ _ k => decide (k = place)
  | _ => false
def addsL (sh : List Off) (place : Int) : List Int := ((sh.zipIdx 0).filter fun p => isAddOf place p.1).map fun p => ((p.2 : Nat) : Int)
theorem adds_of_ok (sh : List Off) (place : Int) (hl : sh.length ≤ 1000) : sem_adds_of [.v (shopD sh), oi place] = some (.l ((addsL sh place).map oi), []) := by
  have h : lcL (.tp [(.n 2), (.n 3)]) ct_adds_of_1 ce_adds_of_1 [2, 3] ((sh.zipIdx 0).map fun p => .t [oi (p.2 : Nat), .v p.1.d]) [.own (.v (shopD sh)), .own (oi place), .no, .no] = some ((addsL sh place).map oi, [.own (.v (shopD sh)), .own (oi place), .no, .no]) := by
    rw [addsL, List.map_map]
    refine lc_filter (p := fun (p : Off × Nat) => isAddOf place p.1) _ fun p _ => ?_
    obtain ⟨o, i⟩ := p
    refine ⟨[.own (.v (shopD sh)), .own (oi place), .own (oi (i : Nat)), .own (.v o.d)], [.own (.v (shopD sh)), .own (oi place), .own (oi (i : Nat)), .own (.v o.d)], [.own (.v (shopD sh)), .own (oi place), .own (oi (i : Nat)), .own (.v o.d)], ?_, ?_, fun _ => ⟨?_, ?_⟩, fun _ => ?_⟩
    · simp
    · cases o with
      | pack c p => simp [ct_adds_of_1, isAddOf]
      | many c ts => simp [ct_adds_of_1, isAddOf]
      | add c p k => simp [ct_adds_of_1, isAddOf]
    · simp [ce_adds_of_1]
    · simp
    · simp
  have hl2 : sh.length ≤ 16777216 := by omega
  simp [un_adds_of, m_adds_of, enu_shop, h, hl2]
/-! choices -/
def dblL (rows : List (List Int)) (x : Int) : List (List Int) := rows ++ rows.map (· ++ [x])
theorem dblRows_rows (x : Int) (rows : List (List Int)) (h : ∀ r ∈ rows, r.length ≤ 1000) : dblRows (.int x) (rows.map rowO) = some ((rows.map (· ++ [x])).map rowO) := by
  induction rows with
  | nil => rfl
  | cons r rows ih =>
    have ih := ih fun r' hr => h r' (List.mem_cons_of_mem _ hr)
    have hr := h r (List.mem_cons_self ..)
    have h1 : dblRow (.int x) (rowO r) = some (rowO (r ++ [x])) := by
      show (match O.allV (r.map oi) with | some ds => if ds.length + 1 ≤ sizeLine then some (O.l ((ds ++ [PyData.int x]).map .v)) else none | none => none) = _
      have : r.length + 1 ≤ 16777216 := by omega
      simp [this]
    rw [List.map_cons, List.map_cons, List.map_cons]
    show (match dblRow (.int x) (rowO r), dblRows (.int x) (rows.map rowO) with | some y, some ys => some (y :: ys) | _, _ => none) = _
    rw [h1, ih]
def sortRows (rows : List (List Int)) : List (List Int) := rows.mergeSort fun a b => !lexI b a
theorem srt_rows (rows : List (List Int)) : srtO [.l (rows.map rowO)] = some (.l ((sortRows rows).map rowO)) := by
  have e1 : (rows.map rowO).zip (rows.map rowD) = rows.map fun r => (rowO r, rowD r) := by
    induction rows with
    | nil => rfl
    | cons r rows ih => simp [ih]
  have e2 : ((rows.map fun r => (rowO r, rowD r)).mergeSort (PySem.W.dataLe false (·.2))).map (·.1) = (sortRows rows).map rowO := by
    rw [merge_map, List.map_map, sortRows]
    congr 1
    congr 1
    funext a b
    rw [PySem.W.dataLe_eq]
    simp [dataLt_row]
  have hal : allAlikeB (rows.map rowD) = true := by
    unfold allAlikeB
    rw [List.all_eq_true]
    intro d hd
    rw [List.all_eq_true]
    intro d' hd'
    obtain ⟨a, _, rfl⟩ := List.mem_map.mp hd
    obtain ⟨b, _, rfl⟩ := List.mem_map.mp hd'
    show PySem.W.alike (.list _) (.list _) = true
    simp [PySem.W.alike, PySem.W.alike_ints]
  have hso : sortableB (rows.map rowD) = true := by
    unfold sortableB
    rw [Bool.or_eq_true]
    right
    rw [List.all_eq_true]
    intro d hd
    obtain ⟨a, _, rfl⟩ := List.mem_map.mp hd
    rfl
  have hdp : (rows.map rowD).all (fun d => decide (d.depth ≤ 60)) = true := by
    rw [List.all_eq_true]
    intro d hd
    obtain ⟨a, _, rfl⟩ := List.mem_map.mp hd
    simp
  show (match O.toDs (rows.map rowO) with | some ds => if allAlikeB ds && sortableB ds && ds.all (fun d => decide (d.depth ≤ 60)) then some (O.l ((((rows.map rowO).zip ds).mergeSort (PySem.W.dataLe false (fun x : O × PyData => x.2))).map (fun x : O × PyData => x.1))) else none | none => none) = _
  rw [toDs_rows]
  simp only [hal, hso, hdp, Bool.and_self, if_true]
  rw [e1, e2]
def choicesL (places : List Int) : List (List Int) := sortRows (places.foldl dblL [[]])
theorem choices_ok (places : List Int) (hl : places.length ≤ 10) : sem_choices [.v (.list (places.map .int))] = some (.l ((choicesL places).map rowO), []) := by
  obtain ⟨rows, h, hr⟩ := for_inv (tg := .n 2) (body := b_choices_1) (enc := fun (n : Int) => O.v (.int n)) (E := fun (rows : List (List Int)) => [.own (.v (.list (places.map .int))), .own (.l (rows.map rowO)), .no, .no])
    (fun pre rows => rows = pre.foldl dblL [[]] ∧ rows.length = 2 ^ pre.length ∧ ∀ r ∈ rows, r.length ≤ pre.length) (all := places) places [] [[]] rfl (by simp) (by
    intro pre x post rows hall ⟨hI, hI2, hI3⟩
    have hpl : pre.length < 10 := by have := congrArg List.length hall; simp at this; omega
    have h1024 : rows.length ≤ 1024 := by
      rw [hI2]
      exact Nat.le_trans (Nat.pow_le_pow_right (by decide) (Nat.le_of_lt hpl)) (by decide)
    have hd := dblRows_rows x rows fun r hr => by have := hI3 r hr; omega
    refine ⟨dblL rows x, _, rfl, ?_, ?_, ?_, ?_⟩
    · have hsz : rows.length + rows.length ≤ 16777216 := by omega
      have : mDbl 1 3 2 [.own (.v (.list (places.map .int))), .own (.l (rows.map rowO)), .own (.v (.int x)), .no] = some (.nx [.own (.v (.list (places.map .int))), .own (.l ((dblL rows x).map rowO)), .own (.v (.int x)), .no]) := by
        show (if (1 : Nat) ≠ 3 ∧ (2 : Nat) ≠ 3 ∧ (rows.map rowO).length + (rows.map rowO).length ≤ sizeLine then (match dblRows (.int x) (rows.map rowO) with | some ys => some (Oc.nx [.own (.v (.list (places.map .int))), .own (.l (rows.map rowO ++ ys)), .own (.v (.int x)), .no]) | none => none) else none) = _
        rw [if_pos ⟨by decide, by decide, by simp; omega⟩, hd]
        simp [dblL]
      simp [b_choices_1, this]
    · rw [hI, List.foldl_append]; rfl
    · simp [dblL, hI2, Nat.pow_succ]; omega
    · intro r hr
      simp only [dblL, List.mem_append, List.mem_map] at hr
      rcases hr with hr | ⟨r', hr, rfl⟩
      · have := hI3 r hr; simp; omega
      · have := hI3 r' hr; simp; omega)
  have hr1 := hr.1
  subst hr1
  have hs := srt_rows (places.foldl dblL [[]])
  simp only [rowO, List.map_cons, List.map_nil] at h
  rw [show choicesL places = sortRows (places.foldl dblL [[]]) from rfl]
  generalize places.foldl dblL [[]] = rows at *
  simp [un_choices, m_choices, h, hs]
/-! lines -/
abbrev Ln := Int × Int × List Int
def lineO (l : Ln) : O := .t [oi l.1, oi l.2.1, rowO l.2.2]
def lineD (l : Ln) : PyData := .tuple [.int l.1, .int l.2.1, rowD l.2.2]
@[simp] theorem toD_line (l : Ln) : (lineO l).toD = some (lineD l) := by simp [lineO, lineD]
@[simp] theorem toDs_lines (ls : List Ln) : O.toDs (ls.map lineO) = some (ls.map lineD) := toDs_map toD_line ls
def counts12 : List Int := [1, 2, 3, 4, 5, 6, 7, 8, 9, 10, 11, 12]
def linesAt (sh : List Off) (i : Nat) : Off → List Ln
  | .pack _ _ => (choicesL (addsL sh (i : Int))).map fun a => ((i : Int), 1, a)
  | .many _ _ => counts12.map fun c => ((i : Int), c, [])
  | .add _ _ _ => []
def linesL (sh : List Off) : List Ln := (sh.zipIdx 0).flatMap fun p => linesAt sh p.2 p.1
theorem dblL_len (places : List Int) : ∀ rows : List (List Int), (places.foldl dblL rows).length = rows.length * 2 ^ places.length := by
  induction places with
  | nil => intro rows; simp
  | cons x places ih =>
    intro rows
    rw [List.foldl_cons, ih]
    simp [dblL, Nat.pow_succ]
    rw [← Nat.two_mul, Nat.mul_comm (2 ^ places.length) 2, ← Nat.mul_assoc, Nat.mul_comm 2]
theorem choicesL_len (places : List Int) : (choicesL places).length = 2 ^ places.length := by
  unfold choicesL sortRows
  rw [List.length_mergeSort, dblL_len]
  simp
theorem addsL_len (sh : List Off) (i : Int) : (addsL sh i).length ≤ sh.length := by
  unfold addsL
  rw [List.length_map]
  exact Nat.le_trans (List.length_filter_le _ _) (by simp)
theorem linesAt_len (sh : List Off) (hs : sh.length ≤ 10) (i : Nat) (o : Off) : (linesAt sh i o).length ≤ 1024 := by
  cases o with
  | pack c p =>
    simp only [linesAt, List.length_map, choicesL_len]
    exact Nat.le_trans (Nat.pow_le_pow_right (by decide) (Nat.le_trans (addsL_len sh i) hs)) (by decide)
  | many c ts => simp [linesAt, counts12]
  | add c p k => simp [linesAt]
theorem rng12 : rngO 1 12 = counts12.map fun c => O.v (.int c) := by
  rw [rng_map]
  rfl
theorem lines_turn (sh : List Off) (hs : sh.length ≤ 10) (acc : List Ln) (ha : acc.length ≤ 100000) (i : Nat) (o : Off) :
    b_lines_1 [.own (.v (shopD sh)), .own (.l (acc.map lineO)), .own (oi (i : Nat)), .own (.v o.d), .no, .no] = some (.nx [.own (.v (shopD sh)), .own (.l ((acc ++ linesAt sh i o).map lineO)), .no, .no, .no, .no]) := by
  cases o with
  | add c p k => simp [b_lines_1, linesAt]
  | pack c p =>
    have hal := addsL_len sh (i : Int)
    have h1 := adds_of_ok sh (i : Int) (by omega)
    have h2 := choices_ok (addsL sh (i : Int)) (by omega)
    have hcl : (choicesL (addsL sh (i : Int))).length ≤ 1024 := by
      rw [choicesL_len]
      exact Nat.le_trans (Nat.pow_le_pow_right (by decide) (Nat.le_trans hal hs)) (by decide)
    have hlc : ∀ e : En, e[2]? = some (.own (oi (i : Nat))) → e[4]? = some .no → lcL (.n 4) mYes ce_lines_1 [4] ((choicesL (addsL sh (i : Int))).map rowO) e = some ((linesAt sh i (.pack c p)).map lineO, e) := fun e g2 g4 => by
      have hlt := (List.getElem?_eq_some_iff.mp g4).1
      rw [linesAt, List.map_map]
      refine lc_map _ fun r hr => ⟨e.set 4 (.own (rowO r)), e.set 4 (.own (rowO r)), e, ?_, rfl, ?_, ?_⟩
      · simp [g4]
      · have g5 : (e.set 4 (.own (rowO r)))[4]? = some (.own (rowO r)) := List.getElem?_set_self hlt
        have g6 : (e.set 4 (.own (rowO r)))[2]? = some (.own (oi (i : Nat))) := by rw [List.getElem?_set_ne (by decide)]; exact g2
        have g7 : (e.set 4 (.own (rowO r))).set 4 .no = e := set_no g4
        simp [ce_lines_1, g5, g6, g7, lineO]
      · show (hide e []).set 4 .no = e
        exact set_self g4
    have hb : (choicesL (addsL sh (i : Int))).length ≤ 16777216 := by omega
    have hb2 : acc.length + (linesAt sh i (.pack c p)).length ≤ 16777216 := by
      have := linesAt_len sh hs i (.pack c p); omega
    simp [b_lines_1, h1, h2, hlc, hb, hb2]
  | many c ts =>
    have hlc : ∀ e : En, e[2]? = some (.own (oi (i : Nat))) → e[5]? = some .no → lcL (.n 5) mYes ce_lines_2 [5] (counts12.map fun c => O.v (.int c)) e = some ((linesAt sh i (.many c ts)).map lineO, e) := fun e g2 g5 => by
      rw [linesAt, List.map_map]
      refine lc_map1 g5 _ fun k hk e' h1 h2 => ?_
      simp [ce_lines_2, h1, h2, g2, lineO]
    have hb2 : acc.length + (linesAt sh i (.many c ts)).length ≤ 16777216 := by
      have := linesAt_len sh hs i (.many c ts); omega
    have h12 : counts12.length ≤ 16777216 := by decide
    simp [b_lines_1, rng12, hlc, hb2, h12]
theorem lines_ok (n : Nat) (sh : List Off) (hg : Good n sh) (hs : sh.length ≤ 10) : sem_lines [.v (shopD sh)] = some (.l ((linesL sh).map lineO), []) := by
  have hlk := look_ok n sh hg
  obtain ⟨acc, h, hI⟩ := for_inv (tg := .tp [(.n 2), (.n 3)]) (body := b_lines_1) (enc := fun (p : Off × Nat) => O.t [oi (p.2 : Nat), .v p.1.d]) (E := fun (acc : List Ln) => [.own (.v (shopD sh)), .own (.l (acc.map lineO)), .no, .no, .no, .no])
    (fun pre acc => acc = pre.flatMap (fun p => linesAt sh p.2 p.1) ∧ acc.length ≤ 1024 * pre.length) (all := sh.zipIdx 0) (sh.zipIdx 0) [] [] rfl ⟨rfl, Nat.le_refl _⟩ (by
    intro pre ⟨o, i⟩ post acc hall ⟨h1, h2⟩
    have hpl : pre.length ≤ 10 := by have := congrArg List.length hall; simp at this; omega
    refine ⟨acc ++ linesAt sh i o, _, rfl, lines_turn sh hs acc (by omega) i o, ?_, ?_⟩
    · rw [h1, List.flatMap_append]; simp
    · have := linesAt_len sh hs i o
      simp; omega)
  have hacc := hI.1
  rw [show acc = linesL sh from hacc] at h
  simp only [List.map_nil] at h
  simp [un_lines, m_lines, hlk, enu_shop, h]
end Dn

set_option Elab.async false
set_option linter.all false
set_option maxRecDepth 100000
set_option maxHeartbeats 4000000
namespace Dn
open PySem L2
/-! all subsets, by masks -/
def bit (m k : Nat) : Bool := m / 2 ^ k % 2 == 1
def subs (places : List Int) (m : Nat) : List Int := ((List.range places.length).filter (bit m)).map fun k => places.getD k 0
theorem bit_hi {m n : Nat} (h : m < 2 ^ n) : bit m n = false := by
  unfold bit
  rw [Nat.div_eq_of_lt h]
  rfl
theorem bit_add_hi {m n : Nat} (h : m < 2 ^ n) : bit (2 ^ n + m) n = true := by
  unfold bit
  rw [Nat.add_div_left m (Nat.two_pow_pos n), Nat.div_eq_of_lt h]
  rfl
theorem bit_add_lo {m n k : Nat} (h : k < n) : bit (2 ^ n + m) k = bit m k := by
  unfold bit
  have : 2 ^ n = 2 ^ k * (2 * 2 ^ (n - k - 1)) := by
    rw [← Nat.pow_succ', ← Nat.pow_add]
    congr 1
    omega
  rw [this, Nat.mul_add_div (Nat.two_pow_pos k), Nat.add_comm, Nat.add_mul_mod_self_left]
theorem subs_snoc (places : List Int) (p : Int) (m : Nat) : subs (places ++ [p]) m = subs places m ++ (if bit m places.length then [p] else []) := by
  unfold subs
  rw [List.length_append, List.length_singleton, List.range_succ, List.filter_append, List.map_append]
  congr 1
  · apply List.map_congr_left
    intro k hk
    have := (List.mem_filter.mp hk).1
    simp at this
    simp [List.getD_eq_getElem?_getD, List.getElem?_append_left this]
  · by_cases h : bit m places.length = true
    · simp [h, List.getD_eq_getElem?_getD]
    · simp [h]
theorem subs_all (places : List Int) : (List.range (2 ^ places.length)).map (subs places) = places.foldl dblL [[]] := by
  have : ∀ (n : Nat) (places : List Int), places.length = n → (List.range (2 ^ places.length)).map (subs places) = places.foldl dblL [[]] := by
    intro n
    induction n with
    | zero => intro places h; rw [List.length_eq_zero_iff.mp h]; rfl
    | succ n ih =>
      intro places h
      have hne : places ≠ [] := fun z => by rw [z] at h; simp at h
      obtain ⟨q, p, rfl⟩ : ∃ q p, places = q ++ [p] := ⟨_, _, (List.dropLast_concat_getLast hne).symm⟩
      have hq : q.length = n := by simpa using h
      rw [List.foldl_append, ← ih q hq]
      simp only [List.length_append, List.length_singleton, List.foldl_cons, List.foldl_nil, dblL]
      rw [Nat.pow_succ, Nat.mul_two, List.range_add, List.map_append, List.map_map, List.map_map]
      congr 1
      · apply List.map_congr_left
        intro m hm
        simp at hm
        rw [subs_snoc, bit_hi hm]; simp
      · apply List.map_congr_left
        intro m hm
        simp at hm
        simp only [Function.comp_apply]
        rw [subs_snoc, bit_add_hi hm]
        simp only [if_true]
        congr 1
        unfold subs
        congr 1
        apply List.filter_congr
        intro k hk
        simp at hk
        exact bit_add_lo hk
  exact this _ places rfl
@[simp] theorem fAnd_ap (i j : Int) : fAnd [.int i, .int j] = some (.int (Builtin.bitAnd i j)) := id rfl
theorem and1 (m k : Nat) : Builtin.bitAnd ((m : Int) / 2 ^ k) 1 = ((m / 2 ^ k % 2 : Nat) : Int) := by
  have h0 : (0 : Int) ≤ (m : Int) / 2 ^ k := Int.ediv_nonneg (by omega) (Int.le_of_lt (Int.pow_pos (by decide)))
  have := Bits.bitAnd_mask (x := (m : Int) / 2 ^ k) 1 h0
  rw [show (2 : Int) ^ 1 - 1 = 1 from rfl] at this
  rw [this]
  simp
theorem subs_lc (places : List Int) (m : Nat) (e : En) (h0 : e[0]? = some (.own (.v (.list (places.map .int))))) (h2 : e[2]? = some (.own (.v (.int (m : Int))))) (h3 : e[3]? = some .no) :
    lcL (.n 3) ct__law_subsets_1 ce__law_subsets_1 [3] ((List.range places.length).map fun (k : Nat) => O.v (.int (k : Int))) e = some ((subs places m).map oi, e) := by
  rw [subs, List.map_map]
  refine lc_filter1 h3 _ fun k hk e' g1 g2 => ?_
  simp at hk
  have ha := atI_getD places 0 hk
  have hb : decide ((((m / 2 ^ k % 2 : Nat) : Int)) = 1) = bit m k := by
    unfold bit
    rcases (show m / 2 ^ k % 2 = 0 ∨ m / 2 ^ k % 2 = 1 by omega) with h | h <;> rw [h] <;> rfl
  refine ⟨?_, fun _ => ?_⟩
  · have := and1 m k
    simp only [Int.natCast_emod, Int.natCast_ediv] at this hb
    simp [ct__law_subsets_1, g1, g2, h2]
    rw [this]
    simpa using hb
  · simp [ce__law_subsets_1, g1, g2, h0, ha]
theorem srt_rowsv (rows : List (List Int)) : srtO [.v (.list (rows.map rowD))] = some (.l ((sortRows rows).map fun r => .v (rowD r))) := by
  have e0 : (rows.map rowD).map O.v = rows.map fun r => O.v (rowD r) := by rw [List.map_map]; rfl
  have e1 : (rows.map fun r => O.v (rowD r)).zip (rows.map rowD) = rows.map fun r => (O.v (rowD r), rowD r) := by
    clear e0
    induction rows with
    | nil => rfl
    | cons r rows ih => rw [List.map_cons, List.map_cons, List.map_cons, List.zip_cons_cons, ih]
  have e2 : ((rows.map fun r => (O.v (rowD r), rowD r)).mergeSort (PySem.W.dataLe false (·.2))).map (·.1) = (sortRows rows).map fun r => .v (rowD r) := by
    rw [merge_map, List.map_map, sortRows]
    congr 1
    congr 1
    funext a b
    rw [PySem.W.dataLe_eq]
    simp [dataLt_row]
  have hal : allAlikeB (rows.map rowD) = true := by
    unfold allAlikeB
    rw [List.all_eq_true]
    intro d hd
    rw [List.all_eq_true]
    intro d' hd'
    obtain ⟨a, _, rfl⟩ := List.mem_map.mp hd
    obtain ⟨b, _, rfl⟩ := List.mem_map.mp hd'
    show PySem.W.alike (.list _) (.list _) = true
    simp [PySem.W.alike, PySem.W.alike_ints]
  have hso : sortableB (rows.map rowD) = true := by
    unfold sortableB
    rw [Bool.or_eq_true]
    right
    rw [List.all_eq_true]
    intro d hd
    obtain ⟨a, _, rfl⟩ := List.mem_map.mp hd
    rfl
  have hdp : (rows.map rowD).all (fun d => decide (d.depth ≤ 60)) = true := by
    rw [List.all_eq_true]
    intro d hd
    obtain ⟨a, _, rfl⟩ := List.mem_map.mp hd
    simp
  show (match O.toDs ((rows.map rowD).map O.v) with | some ds => if allAlikeB ds && sortableB ds && ds.all (fun d => decide (d.depth ≤ 60)) then some (O.l (((((rows.map rowD).map O.v).zip ds).mergeSort (PySem.W.dataLe false (fun x : O × PyData => x.2))).map (fun x : O × PyData => x.1))) else none | none => none) = _
  rw [toDs_vs, e0]
  simp only [hal, hso, hdp, Bool.and_self, if_true]
  rw [e1, e2]
theorem subsets_turn (places : List Int) (hl : places.length ≤ 10) (acc : List (List Int)) (k : Nat) (ha : acc.length ≤ 2000) :
    b__law_subsets_1 [.own (.v (.list (places.map .int))), .own (.l (.l [] :: acc.map fun r => .v (rowD r))), .own (.v (.int (1 + (k : Int)))), .no] = some (.nx [.own (.v (.list (places.map .int))), .own (.l (.l [] :: (acc ++ [subs places (1 + k)]).map fun r => .v (rowD r))), .no, .no]) := by
  have hs := subs_lc places (1 + k)
  rw [show (((1 + k : Nat)) : Int) = 1 + (k : Int) by omega] at hs
  have hb1 : -4611686018427387904 ≤ (places.length : Int) := by omega
  have hb2 : (places.length : Int) < 4611686018427387904 := by omega
  have hb3 : places.length ≤ 16777216 := by omega
  have hb4 : acc.length + 1 < 16777216 := by omega
  simp [b__law_subsets_1, hs, hb1, hb2, hb3, hb4]
theorem subsets_ok (places : List Int) (hl : places.length ≤ 10) : sem__law_subsets [.v (.list (places.map .int))] = some (.l ((choicesL places).map fun r => .v (rowD r)), []) := by
  obtain ⟨N, hN⟩ : ∃ N, N = 2 ^ places.length := ⟨_, rfl⟩
  have h1024 : N ≤ 1024 := by rw [hN]; exact Nat.le_trans (Nat.pow_le_pow_right (by decide) hl) (by decide)
  have hN1 : 1 ≤ N := by rw [hN]; exact Nat.two_pow_pos _
  obtain ⟨acc, h, hI⟩ := for_inv (tg := .n 2) (body := b__law_subsets_1) (enc := fun (k : Nat) => O.v (.int (1 + (k : Int)))) (E := fun (acc : List (List Int)) => [.own (.v (.list (places.map .int))), .own (.l (.l [] :: acc.map fun r => .v (rowD r))), .no, .no])
    (fun pre acc => acc = (List.range pre.length).map fun k => subs places (1 + k)) (all := List.range (N - 1)) (List.range (N - 1)) [] [] rfl rfl (by
    intro pre k post acc hall hacc
    have hk : k = pre.length := by
      have : (List.range (N - 1))[pre.length]? = some k := by rw [hall]; simp
      rw [List.getElem?_range (by have := congrArg List.length hall; simp at this; omega)] at this
      exact (Option.some.inj this).symm
    have hpl : pre.length < 1024 := by
      have := congrArg List.length hall
      simp at this; omega
    have hal : acc.length = pre.length := by rw [hacc]; simp
    refine ⟨acc ++ [subs places (1 + k)], _, rfl, subsets_turn places hl acc k (by omega), ?_⟩
    rw [hacc, List.length_append, List.length_singleton, List.range_succ, List.map_append, hk]; rfl)
  simp only [List.length_range] at hI
  have hrows : [] :: acc = places.foldl dblL [[]] := by
    rw [← subs_all, hI, ← hN]
    have : N = (N - 1) + 1 := by omega
    rw [this, List.range_succ_eq_map, List.map_cons, List.map_map]
    congr 1
    · have : ∀ k, bit 0 k = false := fun k => by simp [bit]
      simp [subs, this]
    · rw [show N - 1 + 1 - 1 = N - 1 by omega]
      apply List.map_congr_left
      intro k _
      rw [Function.comp_apply, Nat.add_comm]
  have hs := srt_rowsv ([] :: acc)
  rw [hrows] at hs
  have e0 : (2 : Int) ^ places.length = (N : Int) := by rw [hN]; simp
  have hb0 : places.length ≤ 1000000 := by omega
  have hb00 : (places.length : Int) ≤ 1000000 := by omega
  have hb1 : -4611686018427387904 ≤ (N : Int) := by omega
  have hb2 : (N : Int) < 4611686018427387904 := by omega
  have hb3 : ((N : Int) - 1).toNat = N - 1 := by omega
  simp only [List.map_nil] at h
  have hfz : (PyData.list [] :: acc.map fun r => PyData.list (r.map .int)) = (places.foldl dblL [[]]).map rowD := by rw [← hrows]; rfl
  have hr1 : rngO 1 (N - 1) = (List.range (N - 1)).map fun (k : Nat) => O.v (.int (1 + (k : Int))) := rng_map 1 _
  rw [show choicesL places = sortRows (places.foldl dblL [[]]) from rfl]
  generalize places.foldl dblL [[]] = rows at *
  simp [un__law_subsets, m__law_subsets, e0, hb0, hb00, hb1, hb2, hb3, hr1, h, hfz, hs]
/-! the law's own lines -/
theorem llines_adds (sh : List Off) (i : Int) (e : En) (h0 : e[0]? = some (.own (.v (shopD sh)))) (h2 : e[2]? = some (.own (.v (.int i)))) (h4 : e[4]? = some .no) :
    lcL (.n 4) ct__law_lines_81be_1 ce__law_lines_81be_2 [4] ((List.range sh.length).map fun (k : Nat) => O.v (.int (k : Int))) e = some ((addsL sh i).map oi, e) := by
  have heq : addsL sh i = ((List.range sh.length).filter fun k => match sh[k]? with | some o => isAddOf i o | none => false).map fun (k : Nat) => (k : Int) := by
    have : ∀ (sh' : List Off) (m : Nat), ((sh'.zipIdx m).filter fun p => isAddOf i p.1).map (fun p => ((p.2 : Nat) : Int)) = (((List.range sh'.length).map (· + m)).filter fun k => match sh'[k - m]? with | some o => isAddOf i o | none => false).map fun (k : Nat) => (k : Int) := by
      intro sh'
      induction sh' with
      | nil => intro m; rfl
      | cons o sh' ih =>
        intro m
        rw [List.zipIdx_cons, List.filter_cons, List.length_cons, List.range_succ_eq_map, List.map_cons, List.filter_cons, List.map_map]
        have ih' := ih (m + 1)
        have e1 : (List.range sh'.length).map ((· + m) ∘ Nat.succ) = (List.range sh'.length).map (· + (m + 1)) := by
          apply List.map_congr_left; intro k _; simp; omega
        rw [e1]
        have e2 : ((List.range sh'.length).map (· + (m + 1))).filter (fun k => match (o :: sh')[k - m]? with | some o => isAddOf i o | none => false) = ((List.range sh'.length).map (· + (m + 1))).filter (fun k => match sh'[k - (m + 1)]? with | some o => isAddOf i o | none => false) := by
          apply List.filter_congr
          intro k hk
          obtain ⟨j, _, rfl⟩ := List.mem_map.mp hk
          rw [show j + (m + 1) - m = j + 1 by omega, show j + (m + 1) - (m + 1) = j by omega, List.getElem?_cons_succ]
        rw [e2]
        simp only [Nat.zero_add, Nat.sub_self, List.getElem?_cons_zero]
        cases isAddOf i o
        · simpa using ih'
        · simpa using ih'
    have := this sh 0
    simpa [addsL] using this
  rw [heq, List.map_map]
  refine lc_filter1 h4 _ fun k hk e' g1 g2 => ?_
  simp at hk
  obtain ⟨o, ho⟩ : ∃ o, sh[k]? = some o := ⟨_, List.getElem?_eq_getElem hk⟩
  have ha : atI sh (k : Int) = some o := atI_nat rfl ho
  refine ⟨?_, fun _ => ?_⟩
  · rw [ho]
    cases o with
    | pack c p => simp [ct__law_lines_81be_1, g1, g2, h0, ha, isAddOf]
    | many c ts => simp [ct__law_lines_81be_1, g1, g2, h0, ha, isAddOf]
    | add c p k => simp [ct__law_lines_81be_1, g1, g2, h0, h2, ha, isAddOf]
  · simp [ce__law_lines_81be_2, g1]
theorem llines_turn (sh : List Off) (hs : sh.length ≤ 10) (os : List O) (ls : List Ln) (hos : O.toDs os = some (ls.map lineD)) (ha : ls.length ≤ 100000) (i : Nat) (o : Off) (ho : sh[i]? = some o) :
    ∃ os', b__law_lines_81be_1 [.own (.v (shopD sh)), .own (.l os), .own (.v (.int (i : Int))), .no, .no, .no, .no] = some (.nx [.own (.v (shopD sh)), .own (.l os'), .no, .no, .no, .no, .no]) ∧ O.toDs os' = some ((ls ++ linesAt sh i o).map lineD) := by
  have hat : atI sh (i : Int) = some o := atI_nat rfl ho
  have hadds := llines_adds sh (i : Int)
  have hal := addsL_len sh (i : Int)
  have hsub := subsets_ok (addsL sh (i : Int)) (by omega)
  have hb1 : -4611686018427387904 ≤ (sh.length : Int) := by omega
  have hb2 : (sh.length : Int) < 4611686018427387904 := by omega
  have hb3 : sh.length ≤ 16777216 := by omega
  cases o with
  | add c p k =>
    refine ⟨os, ?_, by simpa [linesAt] using hos⟩
    simp [b__law_lines_81be_1, hat]
  | many c ts =>
    have hlc : ∀ e : En, e[2]? = some (.own (.v (.int (i : Int)))) → e[5]? = some .no → lcL (.n 5) mYes ce__law_lines_81be_1 [5] (counts12.map fun c => O.v (.int c)) e = some ((linesAt sh i (.many c ts)).map lineO, e) := fun e g2 g5 => by
      rw [linesAt, List.map_map]
      refine lc_map1 g5 _ fun k hk e' h1 h2 => ?_
      simp [ce__law_lines_81be_1, h1, h2, g2, lineO]
    have hb4 := linesAt_len sh hs i (.many c ts)
    have hb5 : ls.length + (linesAt sh i (.many c ts)).length ≤ 16777216 := by omega
    have h12 : counts12.length ≤ 16777216 := by decide
    refine ⟨(ls.map lineD).map .v ++ (linesAt sh i (.many c ts)).map lineO, ?_, ?_⟩
    · simp [b__law_lines_81be_1, hat, hos, rng12, hlc, hb5, h12]
    · simp
  | pack c p =>
    have hlc : ∀ e : En, e[2]? = some (.own (.v (.int (i : Int)))) → e[6]? = some .no → lcL (.n 6) mYes ce__law_lines_81be_3 [6] ((choicesL (addsL sh (i : Int))).map fun r => O.v (rowD r)) e = some ((linesAt sh i (.pack c p)).map (fun l => O.v (lineD l)), e) := fun e g2 g6 => by
      rw [linesAt, List.map_map]
      refine lc_map1 g6 _ fun k hk e' h1 h2 => ?_
      simp [ce__law_lines_81be_3, h1, h2, g2, lineD]
    have hb4 := linesAt_len sh hs i (.pack c p)
    have hb5 : ls.length + (linesAt sh i (.pack c p)).length ≤ 16777216 := by omega
    have hb6 : (choicesL (addsL sh (i : Int))).length ≤ 16777216 := by
      simp [linesAt] at hb4; omega
    refine ⟨(ls.map lineD).map .v ++ (linesAt sh i (.pack c p)).map (fun l => O.v (lineD l)), ?_, ?_⟩
    · simp [b__law_lines_81be_1, hat, hos, hadds, hsub, hlc, hb1, hb2, hb3, hb5, hb6]
    · simp
theorem llines_ok (sh : List Off) (hs : sh.length ≤ 10) : ∃ os, sem__law_lines_81be [.v (shopD sh)] = some (.l os, []) ∧ O.toDs os = some ((linesL sh).map lineD) := by
  obtain ⟨⟨os, ls⟩, h, hI⟩ := for_inv (tg := .n 2) (body := b__law_lines_81be_1) (enc := fun (p : Off × Nat) => O.v (.int (p.2 : Int))) (E := fun (s : List O × List Ln) => [.own (.v (shopD sh)), .own (.l s.1), .no, .no, .no, .no, .no])
    (fun pre s => s.2 = pre.flatMap (fun p => linesAt sh p.2 p.1) ∧ O.toDs s.1 = some (s.2.map lineD) ∧ s.2.length ≤ 1024 * pre.length) (all := sh.zipIdx 0) (sh.zipIdx 0) [] ([], []) rfl ⟨rfl, rfl, Nat.le_refl _⟩ (by
    intro pre ⟨o, i⟩ post ⟨os, ls⟩ hall ⟨h1, h2, h3⟩
    have hpl : pre.length ≤ 10 := by have := congrArg List.length hall; simp at this; omega
    have ho := zipIdx_get (xs := sh) (p := (o, i)) (by rw [hall]; simp)
    obtain ⟨os', hb, hos'⟩ := llines_turn sh hs os ls h2 (by simp only at h3; omega) i o ho
    refine ⟨(os', ls ++ linesAt sh i o), _, rfl, hb, ?_, hos', ?_⟩
    · simp only at h1 ⊢
      rw [h1, List.flatMap_append]; simp
    · have := linesAt_len sh hs i o
      simp only at h3 ⊢
      simp; omega)
  obtain ⟨h1, h2, h3⟩ := hI
  simp only at h1 h2
  rw [show ls = linesL sh from h1] at h2
  have hr : (sh.zipIdx 0).map (fun p => O.v (.int (p.2 : Int))) = (List.range sh.length).map fun (k : Nat) => O.v (.int (k : Int)) := by
    rw [show (fun p : Off × Nat => O.v (.int (p.2 : Int))) = (fun (k : Nat) => O.v (.int (k : Int))) ∘ (·.2) from rfl, ← List.map_map, List.zipIdx_map_snd, List.range_eq_range']
  rw [hr] at h
  have hb1 : -4611686018427387904 ≤ (sh.length : Int) := by omega
  have hb2 : (sh.length : Int) < 4611686018427387904 := by omega
  refine ⟨os, ?_, h2⟩
  simp [un__law_lines_81be, m__law_lines_81be, hb1, hb2, h]
end Dn

set_option Elab.async false
set_option linter.all false
set_option maxRecDepth 100000
set_option maxHeartbeats 4000000
namespace Dn
open PySem L2
theorem slO_tv (ds : List PyData) (lo hi : Option Int) : slO (.v (.tuple ds)) lo hi = (if HT.sIx (ds.map O.v).length 0 lo = 0 ∧ HT.sIx (ds.map O.v).length (ds.map O.v).length hi = (ds.map O.v).length then none else tupO (cutG (ds.map .v) lo hi)) := id rfl
theorem addO_tt (a b : O) (xs : List O) (d : PyData) (ds : List PyData) : addO [.t (a :: xs), .v (.tuple (d :: ds))] = (if (a :: xs).length + (O.v d :: ds.map O.v).length ≤ sizeLine then tupO ((a :: xs) ++ (O.v d :: ds.map O.v)) else none) := id rfl
theorem copied_turn (acc : List Off) (x : O) (o : Off) (ha : acc.length < 100000) (hc : o.c.length ≤ 1000) (ht : ∀ c ts, o = .many c ts → ts.length ≤ 1000) :
    b__law_copied_1 [.own x, .own (.l (acc.map offO)), .own (.v o.d)] = some (.nx [.own x, .own (.l ((acc ++ [o]).map offO)), .no]) := by
  have hpl : acc.length < 16777216 := by omega
  cases o with
  | many c ts =>
    have hb : c.length ≤ 16777216 := by simp [Off.c] at hc; omega
    have hb2 : ts.length ≤ 16777216 := by have := ht c ts rfl; omega
    simp [b__law_copied_1, hpl, Off.c, hb, hb2]
    simp [Off.d]
  | pack c p =>
    have hb : c.length ≤ 16777216 := by simp [Off.c] at hc; omega
    have hsl : slO (.v (Off.pack c p).d) (some 2) none = some (.v (.tuple [.int p])) := by
      rw [Off.d, slO_tv, show (2 : Int) = ((2 : Nat) : Int) from rfl, cutG_drop, HT.sIx_nat]
      simp
    have had : ∀ b : O, addO [.t [.v (.str (Off.pack c p).kd), .l (c.map oi)], .v (.tuple [.int p])] = some (.t [.v (.str "pack"), .l (c.map oi), .v (.int p)]) := fun b => by
      rw [addO_tt _ b]; simp [Off.kd]
    have had' := had (.v .none)
    simp [b__law_copied_1, hpl, Off.c, hb, hsl, had']
    simp [Off.d]
  | add c p k =>
    have hb : c.length ≤ 16777216 := by simp [Off.c] at hc; omega
    have hsl : slO (.v (Off.add c p k).d) (some 2) none = some (.v (.tuple [.int p, .int k])) := by
      rw [Off.d, slO_tv, show (2 : Int) = ((2 : Nat) : Int) from rfl, cutG_drop, HT.sIx_nat]
      simp
    have had' : addO [.t [.v (.str (Off.add c p k).kd), .l (c.map oi)], .v (.tuple [.int p, .int k])] = some (.t [.v (.str "add"), .l (c.map oi), .v (.int p), .v (.int k)]) := by
      rw [addO_tt _ (.v .none)]; simp [Off.kd]
    simp [b__law_copied_1, hpl, Off.c, hb, hsl, had']
    simp [Off.d]
theorem copied_ok (n : Nat) (sh : List Off) (hg : Good n sh) (hn : n ≤ 4) (hs : sh.length ≤ 1000) : sem__law_copied [.v (shopD sh)] = some (.l (sh.map offO), []) := by
  obtain ⟨acc, h, hI⟩ := for_inv (tg := .n 2) (body := b__law_copied_1) (enc := fun (o : Off) => O.v o.d) (E := fun (acc : List Off) => [.own (.v (shopD sh)), .own (.l (acc.map offO)), .no])
    (fun pre acc => acc = pre) (all := sh) sh [] [] rfl rfl (by
    intro pre o post acc hall hacc
    subst hacc
    have ho : sh[acc.length]? = some o := by rw [hall]; simp
    have hgo := hg _ _ ho
    refine ⟨acc ++ [o], _, rfl, copied_turn acc _ o (by have := congrArg List.length hall; simp at this; omega) (by rw [hgo.w.len]; omega) (fun c ts h => ?_), rfl⟩
    subst h
    have := hgo.kind
    have := this.len.2
    omega)
  subst hI
  simp only [List.map_nil] at h
  simp [un__law_copied, m__law_copied, h]
def sumL (a b : List Int) : List Int := (a.zip b).map fun p => p.1 + p.2
theorem put_ok (a b : List Int) (hl : a.length ≤ 1000) : sem_put_together [.v (.list (a.map .int)), .v (.list (b.map .int))] = some (.l ((sumL a b).map oi), []) := by
  have hm : min a.length b.length ≤ 16777216 := by omega
  have h : lcL (.tp [(.n 2), (.n 3)]) mYes ce_put_together_1 [2, 3] (((a.zip b)).map fun p => .t [oi p.1, oi p.2]) [.own (.v (.list (a.map .int))), .own (.v (.list (b.map .int))), .no, .no] = some ((sumL a b).map oi, [.own (.v (.list (a.map .int))), .own (.v (.list (b.map .int))), .no, .no]) := by
    rw [sumL, List.map_map]
    refine lc_map _ fun p _ => ?_
    simp [ce_put_together_1]
  simp [un_put_together, m_put_together, zipO_map, h, hm]
theorem lsum_ok (a b : List Int) (hl : a.length ≤ 1000) (hb : b.length = a.length) : sem__law_sum [.v (.list (a.map .int)), .v (.list (b.map .int))] = some (.l ((sumL a b).map oi), []) := by
  have h : ∀ e : En, e[0]? = some (.own (.v (.list (a.map .int)))) → e[1]? = some (.own (.v (.list (b.map .int)))) → e[2]? = some .no → lcL (.n 2) mYes ce__law_sum_1 [2] ((List.range a.length).map fun (k : Nat) => .v (.int (k : Int))) e = some ((sumL a b).map oi, e) := fun e h0 h1 h2 => by
    rw [sumL, ← range_zip (fun a b : Int => a + b) a b 0 0 rfl hb, List.map_map]
    refine lc_map1 h2 _ fun k hk e' g1 g2 => ?_
    simp at hk
    have e1 := atI_getD a 0 hk
    have e2 := atI_getD b 0 (show k < b.length by omega)
    simp [ce__law_sum_1, g1, g2, h0, h1, e1, e2]
  have hb1 : -4611686018427387904 ≤ (a.length : Int) := by omega
  have hb2 : (a.length : Int) < 4611686018427387904 := by omega
  have hb3 : a.length ≤ 16777216 := by omega
  simp [un__law_sum, m__law_sum, hb1, hb2, hb3, h]
/-! lines' contents -/
def cAt (sh : List Off) (k : Int) : List Int := match atI sh k with
  | some o => o.c
  | none => []
def pAt (sh : List Off) (k : Int) : Int := match atI sh k with
  | some (.add _ p _) => p
  | some (.pack _ p) => p
  | _ => 0
def scaleL (c : Int) (l : List Int) : List Int := l.map fun x => c * x
def lcont (sh : List Off) (l : Ln) : List Int := l.2.2.foldl (fun f a => sumL f (cAt sh a)) (scaleL l.2.1 (cAt sh l.1))
def tierP (ts : List (Int × Int)) (c : Int) : Int := ((ts.filter fun t => decide (t.1 ≤ c)).map (·.2)).getLastD 0
def lprice (sh : List Off) (l : Ln) : Int := match atI sh l.1 with
  | some (.many _ ts) => l.2.1 * tierP ts l.2.1
  | some (.pack _ p) => p + (l.2.2.map (pAt sh)).sum
  | _ => 0
/-- a line that may be asked of the shop -/
structure LnOk (sh : List Off) (l : Ln) : Prop where
  count : 1 ≤ l.2.1 ∧ l.2.1 ≤ 12
  place : ∃ o, atI sh l.1 = some o ∧ o.isAdd = false
  adds : ∀ a ∈ l.2.2, ∃ c p k, atI sh a = some (.add c p k)
  few : l.2.2.length ≤ 1000
theorem Good.at {n : Nat} {sh : List Off} (h : Good n sh) {k : Int} {o : Off} (ho : atI sh k = some o) : ∃ i, GoodO n sh i o := by
  unfold atI at ho
  obtain ⟨j, _, hj⟩ := Option.bind_eq_some_iff.mp ho
  exact ⟨j, h j o hj⟩
theorem cAt_len {n : Nat} {sh : List Off} (h : Good n sh) {k : Int} {o : Off} (ho : atI sh k = some o) : (cAt sh k).length = n := by
  obtain ⟨i, hi⟩ := h.at ho
  unfold cAt
  rw [ho]
  exact hi.w.len
theorem sumL_len (a b : List Int) : (sumL a b).length = min a.length b.length := by simp [sumL]
theorem scaleL_len (c : Int) (l : List Int) : (scaleL c l).length = l.length := by simp [scaleL]
theorem lcontent_ok (n : Nat) (sh : List Off) (hg : Good n sh) (hn : n ≤ 4) (l : Ln) (hl : LnOk sh l) : sem_line_content [.v (shopD sh), .v (lineD l)] = some (.l ((lcont sh l).map oi), []) := by
  obtain ⟨p, c, adds⟩ := l
  obtain ⟨o, ho, -⟩ := hl.place
  have hlk := look_ok n sh hg
  simp only at ho
  have hc0 : cAt sh p = o.c := by unfold cAt; rw [ho]
  have hcl := cAt_len hg ho
  have hcount := hl.count
  simp only at hcount
  have hlc : ∀ e : En, e[3]? = some (.own (.v (.int c))) → e[6]? = some .no → lcL (.n 6) mYes ce_line_content_1 [6] (o.c.map fun n => O.v (.int n)) e = some ((scaleL c (cAt sh p)).map oi, e) := fun e h3 h6 => by
    rw [hc0, scaleL, List.map_map]
    refine lc_map1 h6 _ fun k hk e' g1 g2 => ?_
    have b1 : -18446744073709551616 < c := by omega
    have b2 : c < 18446744073709551616 := by omega
    simp [ce_line_content_1, g1, g2, h3, b1, b2]
  obtain ⟨f, h, hf⟩ := for_inv (tg := .n 7) (body := b_line_content_1) (enc := fun (n : Int) => O.v (.int n)) (E := fun (f : List Int) => [.own (.v (shopD sh)), .own (.v (lineD (p, c, adds))), .own (.v (.int p)), .own (.v (.int c)), .own (.v (rowD adds)), .own (.l (f.map oi)), .no, .no])
    (fun pre f => f = pre.foldl (fun f a => sumL f (cAt sh a)) (scaleL c (cAt sh p)) ∧ f.length = n) (all := adds) adds [] (scaleL c (cAt sh p)) rfl ⟨rfl, by rw [scaleL_len, hcl]⟩ (by
    intro pre a post f hall ⟨h1, h2⟩
    obtain ⟨ca, pa, ka, haa⟩ := hl.adds a (by simp only; rw [hall]; simp)
    have hca : cAt sh a = ca := by unfold cAt; rw [haa]; rfl
    have hcal := cAt_len hg haa
    have hp := put_ok f ca (by omega)
    rw [hca] at hcal
    refine ⟨sumL f (cAt sh a), _, rfl, ?_, ?_, ?_⟩
    · rw [hca]
      simp [b_line_content_1, haa, hp, Off.c]
    · rw [h1, List.foldl_append]; rfl
    · rw [sumL_len, hca]; omega)
  have hfe : f = lcont sh (p, c, adds) := hf.1
  have hb : o.c.length ≤ 16777216 := by rw [← hc0]; omega
  rw [hfe] at h
  simp [un_line_content, m_line_content, hlk, lineD, ho, hlc, hb]
  simp [lineD] at h
  simp [h]
theorem llcontent_ok (n : Nat) (sh : List Off) (hg : Good n sh) (hn : n ≤ 4) (l : Ln) (hl : LnOk sh l) : sem__law_line_content [.v (shopD sh), .v (lineD l)] = some (.l ((lcont sh l).map oi), []) := by
  obtain ⟨p, c, adds⟩ := l
  obtain ⟨o, ho, -⟩ := hl.place
  simp only at ho
  have hc0 : cAt sh p = o.c := by unfold cAt; rw [ho]
  have hcl := cAt_len hg ho
  have hcount := hl.count
  simp only at hcount
  have hlc : ∀ e : En, e[1]? = some (.own (.v (lineD (p, c, adds)))) → e[3]? = some .no → lcL (.n 3) mYes ce__law_line_content_1 [3] (o.c.map fun n => O.v (.int n)) e = some ((scaleL c (cAt sh p)).map oi, e) := fun e h1 h3 => by
    rw [hc0, scaleL, List.map_map]
    refine lc_map1 h3 _ fun k hk e' g1 g2 => ?_
    have b1 : -18446744073709551616 < c := by omega
    have b2 : c < 18446744073709551616 := by omega
    simp [ce__law_line_content_1, g1, g2, h1, lineD, b1, b2]
  obtain ⟨f, h, hf⟩ := for_inv (tg := .n 4) (body := b__law_line_content_1) (enc := fun (n : Int) => O.v (.int n)) (E := fun (f : List Int) => [.own (.v (shopD sh)), .own (.v (lineD (p, c, adds))), .own (.l (f.map oi)), .no, .no])
    (fun pre f => f = pre.foldl (fun f a => sumL f (cAt sh a)) (scaleL c (cAt sh p)) ∧ f.length = n) (all := adds) adds [] (scaleL c (cAt sh p)) rfl ⟨rfl, by rw [scaleL_len, hcl]⟩ (by
    intro pre a post f hall ⟨h1, h2⟩
    obtain ⟨ca, pa, ka, haa⟩ := hl.adds a (by simp only; rw [hall]; simp)
    have hca : cAt sh a = ca := by unfold cAt; rw [haa]; rfl
    have hcal := cAt_len hg haa
    rw [hca] at hcal
    have hp := lsum_ok f ca (by omega) (by omega)
    refine ⟨sumL f (cAt sh a), _, rfl, ?_, ?_, ?_⟩
    · rw [hca]
      simp [b__law_line_content_1, haa, hp, Off.c]
    · rw [h1, List.foldl_append]; rfl
    · rw [sumL_len, hca]; omega)
  have hfe : f = lcont sh (p, c, adds) := hf.1
  have hb : o.c.length ≤ 16777216 := by rw [← hc0]; omega
  rw [hfe] at h
  have i0 : ixO [.v (lineD (p, c, adds)), .v (.int 0)] = some (.int p) := by simp [lineD]
  have i2 : ixO [.v (lineD (p, c, adds)), .v (.int 2)] = some (rowD adds) := by simp [lineD]
  simp [un__law_line_content, m__law_line_content, i0, i2, ho, hlc, hb, h]
/-! prices -/
theorem getLastD_foldl (ts : List (Int × Int)) (c : Int) : ∀ d : Int, ((ts.filter fun t => decide (t.1 ≤ c)).map (·.2)).getLastD d = ts.foldl (fun e t => if t.1 ≤ c then t.2 else e) d := by
  induction ts with
  | nil => intro d; rfl
  | cons t ts ih =>
    intro d
    rw [List.foldl_cons, List.filter_cons]
    by_cases h : t.1 ≤ c
    · simp only [h, decide_true, if_true, List.map_cons, List.getLastD_cons]
      exact ih t.2
    · simp only [h, decide_false, if_false, Bool.false_eq_true]
      exact ih d
theorem tierP_fold (ts : List (Int × Int)) (c : Int) : tierP ts c = ts.foldl (fun e t => if t.1 ≤ c then t.2 else e) 0 := getLastD_foldl ts c 0
theorem tierp_ok (ts : List (Int × Int)) (c : Int) (h : Tiers ts) (hc : 1 ≤ c) : sem_tier_price [.v (.list (ts.map tierD)), oi c] = some (oi (tierP ts c), []) := by
  have hlc : lcL (.tp [(.n 2), (.n 3)]) ct_tier_price_1 ce_tier_price_1 [2, 3] (ts.map fun t => .v (tierD t)) [.own (.v (.list (ts.map tierD))), .own (oi c), .no, .no] = some ((((ts.filter fun t => decide (t.1 ≤ c)).map (·.2))).map oi, [.own (.v (.list (ts.map tierD))), .own (oi c), .no, .no]) := by
    rw [List.map_map]
    refine lc_filter _ fun t _ => ⟨[.own (.v (.list (ts.map tierD))), .own (oi c), .own (oi t.1), .own (oi t.2)], [.own (.v (.list (ts.map tierD))), .own (oi c), .own (oi t.1), .own (oi t.2)], [.own (.v (.list (ts.map tierD))), .own (oi c), .own (oi t.1), .own (oi t.2)], ?_, ?_, fun _ => ⟨?_, ?_⟩, fun _ => ?_⟩
    · simp [tierD]
    · simp [ct_tier_price_1]
    · simp [ce_tier_price_1]
    · simp
    · simp
  have hne : ((ts.filter fun t => decide (t.1 ≤ c)).map (·.2)) ≠ [] := by
    obtain ⟨t, r, rfl⟩ : ∃ t r, ts = t :: r := by
      cases ts with
      | nil => have := h.len.1; simp at this
      | cons t r => exact ⟨t, r, rfl⟩
    have h1 : t.1 = 1 := by have := h.one; simpa using this
    have : t.1 ≤ c := by omega
    simp [this]
  obtain ⟨u, z, hz⟩ : ∃ u z, ((ts.filter fun t => decide (t.1 ≤ c)).map (·.2)) = u ++ [z] := ⟨_, _, (List.dropLast_concat_getLast hne).symm⟩
  have htp : tierP ts c = z := by
    unfold tierP
    rw [hz]
    simp
  rw [hz] at hlc
  have hat : atI ((u ++ [z]).map oi) (-1) = some (oi z) := by rw [List.map_append]; exact atI_last _ _
  have hb : ts.length ≤ 16777216 := by have := h.len.2; omega
  rw [htp]
  simp only [List.map_append, List.map_cons, List.map_nil] at hat hlc
  simp [un_tier_price, m_tier_price, hlc, hb, hat]
theorem price_sum (sh : List Off) (adds : List Int) (ha : ∀ a ∈ adds, ∃ c p k, atI sh a = some (.add c p k)) (e : En) (h0 : e[0]? = some (.own (.v (shopD sh)))) (h5 : e[5]? = some .no) :
    lcL (.n 5) mYes ce_line_price_1 [5] (adds.map fun n => O.v (.int n)) e = some ((adds.map (pAt sh)).map oi, e) := by
  rw [List.map_map]
  refine lc_map1 h5 _ fun a hmem e' g1 g2 => ?_
  obtain ⟨c, p, k, hk⟩ := ha a hmem
  have hp : pAt sh a = p := by unfold pAt; rw [hk]
  simp [ce_line_price_1, g1, g2, h0, hk, hp]
theorem lprice_ok (n : Nat) (sh : List Off) (hg : Good n sh) (l : Ln) (hl : LnOk sh l) : sem_line_price [.v (shopD sh), .v (lineD l)] = some (oi (lprice sh l), []) := by
  obtain ⟨p, c, adds⟩ := l
  obtain ⟨o, ho, hna⟩ := hl.place
  have hlk := look_ok n sh hg
  have hcount := hl.count
  have hfew := hl.few
  simp only at ho hcount hfew
  obtain ⟨i, hgo⟩ := hg.at ho
  have hb : adds.length ≤ 16777216 := by omega
  cases o with
  | add c' p' k' => simp at hna
  | many c' ts =>
    have ht := tierp_ok ts c hgo.kind hcount.1
    have b1 : -18446744073709551616 < c := by omega
    have b2 : c < 18446744073709551616 := by omega
    have hpr : lprice sh (p, c, adds) = c * tierP ts c := by unfold lprice; rw [ho]
    simp [un_line_price, m_line_price, hlk, lineD, ho, ht, hpr, b1, b2]
  | pack c' p' =>
    have hs := price_sum sh adds hl.adds
    have hpr : lprice sh (p, c, adds) = p' + (adds.map (pAt sh)).sum := by unfold lprice; rw [ho]
    generalize adds.map (pAt sh) = ps at hs hpr
    simp [un_line_price, m_line_price, hlk, lineD, ho, hs, hpr, hb]
theorem lprice_sum (sh : List Off) (adds : List Int) (ha : ∀ a ∈ adds, ∃ c p k, atI sh a = some (.add c p k)) (e : En) (h0 : e[0]? = some (.own (.v (shopD sh)))) (h3 : e[3]? = some .no) :
    lcL (.n 3) mYes ce__law_line_price_1 [3] (adds.map fun n => O.v (.int n)) e = some ((adds.map (pAt sh)).map oi, e) := by
  rw [List.map_map]
  refine lc_map1 h3 _ fun a hmem e' g1 g2 => ?_
  obtain ⟨c, p, k, hk⟩ := ha a hmem
  have hp : pAt sh a = p := by unfold pAt; rw [hk]
  simp [ce__law_line_price_1, g1, g2, h0, hk, hp]
theorem llprice_ok (sh : List Off) (l : Ln) (hl : LnOk sh l) : sem__law_line_price [.v (shopD sh), .v (lineD l)] = some (oi (lprice sh l), []) := by
  obtain ⟨p, c, adds⟩ := l
  obtain ⟨o, ho, hna⟩ := hl.place
  have hcount := hl.count
  have hfew := hl.few
  simp only at ho hcount hfew
  have hb : adds.length ≤ 16777216 := by omega
  have i0 : ixO [.v (lineD (p, c, adds)), .v (.int 0)] = some (.int p) := by simp [lineD]
  have i1 : ixO [.v (lineD (p, c, adds)), .v (.int 1)] = some (.int c) := by simp [lineD]
  have i2 : ixO [.v (lineD (p, c, adds)), .v (.int 2)] = some (rowD adds) := by simp [lineD]
  cases o with
  | add c' p' k' => simp at hna
  | many c' ts =>
    have b1 : -18446744073709551616 < c := by omega
    have b2 : c < 18446744073709551616 := by omega
    have hpr : lprice sh (p, c, adds) = c * tierP ts c := by unfold lprice; rw [ho]
    have h := (for_fold (tg := .tp [(.n 5), (.n 6)]) (body := b__law_line_price_1) (enc := fun (t : Int × Int) => O.v (tierD t)) (E := fun (x : Int) => [.own (.v (shopD sh)), .own (.v (lineD (p, c, adds))), .own (.v (Off.many c' ts).d), .no, .own (.v (.int x)), .no, .no]) (step := fun e t => if t.1 ≤ c then t.2 else e) (I := fun _ => True) ts 0 trivial (by
      intro t _ x _
      refine ⟨trivial, _, rfl, ?_⟩
      by_cases ht : t.1 ≤ c
      · simp [b__law_line_price_1, i1, ht]
      · simp [b__law_line_price_1, i1, ht])).1
    rw [← tierP_fold] at h
    simp [un__law_line_price, m__law_line_price, i0, i1, ho, h, hpr, b1, b2]
  | pack c' p' =>
    have hs := lprice_sum sh adds hl.adds
    have hpr : lprice sh (p, c, adds) = p' + (adds.map (pAt sh)).sum := by unfold lprice; rw [ho]
    generalize adds.map (pAt sh) = ps at hs hpr
    simp [un__law_line_price, m__law_line_price, i0, i2, ho, hs, hpr, hb]
/-- the shop's own lines may be asked -/
theorem sortRows_perm (rows : List (List Int)) : (sortRows rows).Perm rows := List.mergeSort_perm _ _
theorem dblL_mem (places : List Int) : ∀ (rows : List (List Int)) (r : List Int), r ∈ places.foldl dblL rows → ∃ r0 ∈ rows, ∃ s, r = r0 ++ s ∧ s.Sublist places := by
  induction places with
  | nil => intro rows r h; exact ⟨r, h, [], by simp, .refl _⟩
  | cons x places ih =>
    intro rows r h
    rw [List.foldl_cons] at h
    obtain ⟨r0, h0, s, hs, sub⟩ := ih _ _ h
    simp only [dblL, List.mem_append, List.mem_map] at h0
    rcases h0 with h0 | ⟨r1, h1, rfl⟩
    · exact ⟨r0, h0, s, hs, sub.cons _⟩
    · exact ⟨r1, h1, x :: s, by rw [hs]; simp, sub.cons_cons _⟩
theorem choicesL_mem {places r : List Int} (h : r ∈ choicesL places) : r.Sublist places := by
  unfold choicesL at h
  have := (sortRows_perm _).mem_iff.mp h
  obtain ⟨r0, h0, s, hs, sub⟩ := dblL_mem places [[]] r this
  simp at h0
  subst h0
  rw [hs]
  simpa using sub
theorem addsL_mem {sh : List Off} {i x : Int} (h : x ∈ addsL sh i) : ∃ c p, atI sh x = some (.add c p i) := by
  unfold addsL at h
  obtain ⟨⟨o, j⟩, hp, rfl⟩ := List.mem_map.mp h
  obtain ⟨h1, h2⟩ := List.mem_filter.mp hp
  have := zipIdx_get h1
  simp only at this h2
  cases o with
  | pack c p => simp [isAddOf] at h2
  | many c ts => simp [isAddOf] at h2
  | add c p k =>
    simp [isAddOf] at h2
    subst h2
    exact ⟨c, p, atI_nat rfl this⟩
theorem linesL_ok {sh : List Off} (hs : sh.length ≤ 10) {l : Ln} (h : l ∈ linesL sh) : LnOk sh l := by
  unfold linesL at h
  obtain ⟨⟨o, i⟩, hp, hl⟩ := List.mem_flatMap.mp h
  have ho := zipIdx_get hp
  simp only at ho hl
  cases o with
  | add c p k => simp [linesAt] at hl
  | many c ts =>
    simp only [linesAt] at hl
    obtain ⟨x, hx, rfl⟩ := List.mem_map.mp hl
    refine ⟨?_, ⟨_, atI_nat rfl ho, rfl⟩, (fun a ha => by cases ha), by simp⟩
    simp [counts12] at hx
    simp only; omega
  | pack c p =>
    simp only [linesAt] at hl
    obtain ⟨r, hr, rfl⟩ := List.mem_map.mp hl
    have hsub := choicesL_mem hr
    refine ⟨⟨by simp, by simp⟩, ⟨_, atI_nat rfl ho, rfl⟩, fun a ha => ?_, ?_⟩
    · obtain ⟨c', p', h'⟩ := addsL_mem (hsub.subset ha)
      exact ⟨c', p', _, h'⟩
    · have := hsub.length_le
      have := addsL_len sh (i : Int)
      simp only; omega
end Dn

set_option Elab.async false
set_option linter.all false
set_option maxRecDepth 100000
set_option maxHeartbeats 4000000
namespace Dn
open PySem L2
def zero0 (n : Nat) (sh : List Off) : List Int := match sh with
  | [] => []
  | _ => reps n 0
def bcont (n : Nat) (sh : List Off) (ls : List Ln) : List Int := ls.foldl (fun f l => sumL f (lcont sh l)) (zero0 n sh)
def bprice (sh : List Off) (ls : List Ln) : Int := (ls.map (lprice sh)).sum
theorem lcont_len {n : Nat} {sh : List Off} (hg : Good n sh) {l : Ln} (hl : LnOk sh l) : (lcont sh l).length = n := by
  obtain ⟨p, c, adds⟩ := l
  obtain ⟨o, ho, -⟩ := hl.place
  have : ∀ (as f : List Int), (∀ a ∈ as, ∃ c p k, atI sh a = some (.add c p k)) → f.length = n → (as.foldl (fun f a => sumL f (cAt sh a)) f).length = n := by
    intro as
    induction as with
    | nil => intro f _ h; exact h
    | cons a as ih =>
      intro f ha hf
      rw [List.foldl_cons]
      refine ih _ (fun b hb => ha b (List.mem_cons_of_mem _ hb)) ?_
      obtain ⟨c', p', k', h'⟩ := ha a (List.mem_cons_self ..)
      rw [sumL_len, cAt_len hg h', hf]; omega
  exact this adds _ hl.adds (by rw [scaleL_len, cAt_len hg ho])
theorem ln_ne {sh : List Off} {l : Ln} (hl : LnOk sh l) : sh ≠ [] := fun h => by
  obtain ⟨o, ho, -⟩ := hl.place
  subst h
  unfold atI ixN at ho
  simp at ho
theorem bcont_len {n : Nat} {sh : List Off} (hg : Good n sh) {ls : List Ln} (hl : ∀ l ∈ ls, LnOk sh l) (hs : sh ≠ []) : (bcont n sh ls).length = n := by
  have : ∀ (ls : List Ln) (f : List Int), (∀ l ∈ ls, LnOk sh l) → f.length = n → (ls.foldl (fun f l => sumL f (lcont sh l)) f).length = n := by
    intro ls
    induction ls with
    | nil => intro f _ h; exact h
    | cons l ls ih =>
      intro f hl hf
      rw [List.foldl_cons]
      refine ih _ (fun b hb => hl b (List.mem_cons_of_mem _ hb)) ?_
      rw [sumL_len, lcont_len hg (hl l (List.mem_cons_self ..)), hf]; omega
  refine this ls _ hl ?_
  cases sh with
  | nil => exact absurd rfl hs
  | cons o sh => simp [zero0]
theorem bought_loop (n : Nat) (hn : n ≤ 4) (sh : List Off) (hg : Good n sh) (ls : List Ln) (hl : ∀ l ∈ ls, LnOk sh l) (hz : (zero0 n sh).length ≤ 4) (hne : ls ≠ [] → sh ≠ []) (pd : PyData) (x : O) (hx : x = .v (.list ((zero0 n sh).map .int)) ∨ x = .l ((zero0 n sh).map oi)) : ∃ x' : O,
    forL (.n 5) b_bought_1 (ls.map fun l => O.v (lineD l)) [.own (.v (shopD sh)), .own (.v pd), .own x, .no, .own (.v (.int 0)), .no] = some (.nx [.own (.v (shopD sh)), .own (.v pd), .own x', .no, .own (.v (.int (bprice sh ls))), .no]) ∧ (ls = [] → x' = x) ∧ (ls ≠ [] → x' = .l ((bcont n sh ls).map oi)) := by
  obtain ⟨⟨f, pr, y⟩, h, hI1, hI2, hI3⟩ := for_inv (tg := .n 5) (body := b_bought_1) (enc := fun (l : Ln) => O.v (lineD l)) (E := fun (s : List Int × Int × O) => [.own (.v (shopD sh)), .own (.v pd), .own s.2.2, .no, .own (.v (.int s.2.1)), .no])
    (fun pre s => s.1 = bcont n sh pre ∧ s.2.1 = bprice sh pre ∧ (s.2.2 = .v (.list (s.1.map .int)) ∨ s.2.2 = .l (s.1.map oi)) ∧ (pre = [] → s.2.2 = x) ∧ (pre ≠ [] → s.2.2 = .l (s.1.map oi)) ∧ s.1.length ≤ 4) (all := ls) ls [] (zero0 n sh, 0, x) rfl ⟨rfl, rfl, hx, fun _ => rfl, fun h => absurd rfl h, hz⟩ (by
    intro pre l post ⟨f, pr, y⟩ hall ⟨h1, h2, h3, h4, h5, h6⟩
    have hlk := hl l (by rw [hall]; simp)
    have c1 := lcontent_ok n sh hg hn l hlk
    have c2 := lprice_ok n sh hg l hlk
    simp only at h1 h2 h3 h6
    have c3 := put_ok f (lcont sh l) (by omega)
    have hbc : bcont n sh (pre ++ [l]) = sumL f (lcont sh l) := by
      rw [h1, bcont, bcont, List.foldl_append]; rfl
    have hbp : bprice sh (pre ++ [l]) = pr + lprice sh l := by
      rw [h2, bprice, bprice]; simp
    refine ⟨(sumL f (lcont sh l), pr + lprice sh l, .l ((sumL f (lcont sh l)).map oi)), _, rfl, ?_, hbc.symm, hbp.symm, .inr rfl, fun h => by simp at h, fun _ => rfl, ?_⟩
    · rcases h3 with rfl | rfl
      · simp [b_bought_1, c1, c2, c3]
      · simp [b_bought_1, c1, c2, c3]
    · simp only; rw [sumL_len]; omega)
  simp only at hI1 hI2
  refine ⟨y, by rw [hI2] at h; exact h, fun he => hI3.2.1 he, fun he => by
    have := hI3.2.2.1 he
    simp only at this
    rw [this, hI1]⟩
theorem bought_ok (n : Nat) (hn : n ≤ 4) (sh : List Off) (hg : Good n sh) (ls : List Ln) (hl : ∀ l ∈ ls, LnOk sh l) : sem_bought [.v (shopD sh), .v (.list (ls.map lineD))] = some (.t [.l ((bcont n sh ls).map oi), oi (bprice sh ls)], []) := by
  have hlk := look_ok n sh hg
  have hne : ls ≠ [] → sh ≠ [] := fun h => by
    cases ls with
    | nil => exact absurd rfl h
    | cons l ls => exact ln_ne (hl l (List.mem_cons_self ..))
  cases sh with
  | nil =>
    have hls : ls = [] := by
      cases ls with
      | nil => rfl
      | cons l ls => exact absurd rfl (hne (by simp))
    subst hls
    have fne : fNe [.list [], .list []] = some (.bool false) := fNe_same 1 (by decide) (by simp)
    have fne : fNe [shopD [], .list []] = some (.bool false) := fne
    simp [un_bought, m_bought, hlk, fne, bcont, bprice, zero0, forL]
  | cons o sh =>
    have hgo := hg 0 o rfl
    have hfne : fNe [shopD (o :: sh), .list []] = some (.bool true) := by
      have h1 := fNe_ap (shopD (o :: sh)) (.list [])
      rw [h1]
      have hs : nb (shopD (o :: sh)) 4 = true := by simp
      obtain ⟨a1, a2⟩ := nb_shape 4 _ hs
      have : PyData.eqv (shopD (o :: sh)) (.list []) = false := by simp [PyData.eqv, PyData.eqvAll]
      rw [this, shaped_eq, shaped_eq, a1]
      simp only [decide_eq_true (Nat.le_trans a2 (show 4 ≤ 64 by decide))]
      simp
    have hzl : (zero0 n (o :: sh)).length ≤ 4 := by simp [zero0]; omega
    have hlc : ∀ e : En, e[3]? = some .no → lcL (.n 3) mYes ce_bought_1 [3] (o.c.map fun n => O.v (.int n)) e = some ((zero0 n (o :: sh)).map oi, e) := fun e h3 => by
      have : zero0 n (o :: sh) = o.c.map fun _ => 0 := by rw [reps_eq, hgo.w.len]; rfl
      rw [this, List.map_map]
      refine lc_map1 h3 _ fun k hk e' g1 g2 => ?_
      simp [ce_bought_1]
    obtain ⟨x', h, h1, h2⟩ := bought_loop n hn (o :: sh) hg ls hl hzl hne (.list (ls.map lineD)) _ (.inr rfl)
    have hcb : o.c.length ≤ 16777216 := by rw [hgo.w.len]; omega
    have hx' : x' = .l ((bcont n (o :: sh) ls).map oi) := by
      cases ls with
      | nil => rw [h1 rfl]; rfl
      | cons l ls => exact h2 (by simp)
    rw [hx'] at h
    simp [un_bought, m_bought, hlk, hfne, hlc, hcb, h]
end Dn

set_option Elab.async false
set_option linter.all false
set_option maxRecDepth 100000
set_option maxHeartbeats 4000000
namespace Dn
open PySem L2
theorem covers_B (c w : List Int) (hl : c.length ≤ 1000) : sem_covers [.v (.list (c.map .int)), .v (.list (w.map .int))] = some (.v (.bool (covB c w)), []) := covers_ok c w hl
theorem sumL_comm : ∀ (a b : List Int), sumL b a = sumL a b
  | [], b => by simp [sumL]
  | _ :: _, [] => by simp [sumL]
  | x :: a, y :: b => by
    have := sumL_comm a b
    simp only [sumL, List.zip_cons_cons, List.map_cons, List.cons.injEq] at this ⊢
    exact ⟨by omega, this⟩
def NN (a : List Int) : Prop := ∀ x ∈ a, 0 ≤ x
theorem sumL_nn : ∀ (a b : List Int), NN a → NN b → NN (sumL a b)
  | [], b, _, _ => by simp [sumL, NN]
  | _ :: _, [], _, _ => by simp [sumL, NN]
  | x :: a, y :: b, ha, hb => by
    have ih := sumL_nn a b (fun z h => ha z (List.mem_cons_of_mem _ h)) (fun z h => hb z (List.mem_cons_of_mem _ h))
    have h1 := ha x (List.mem_cons_self ..)
    have h2 := hb y (List.mem_cons_self ..)
    intro z hz
    simp only [sumL, List.zip_cons_cons, List.map_cons, List.mem_cons] at hz
    rcases hz with rfl | hz
    · omega
    · exact ih z hz
theorem cAt_nn {n : Nat} {sh : List Off} (h : Good n sh) {k : Int} {o : Off} (ho : atI sh k = some o) : NN (cAt sh k) := by
  obtain ⟨i, hi⟩ := h.at ho
  unfold cAt
  rw [ho]
  exact fun x hx => (hi.w.nine x hx).1
theorem lcont_nn {n : Nat} {sh : List Off} (hg : Good n sh) {l : Ln} (hl : LnOk sh l) : NN (lcont sh l) := by
  obtain ⟨p, c, adds⟩ := l
  obtain ⟨o, ho, -⟩ := hl.place
  have : ∀ (as f : List Int), (∀ a ∈ as, ∃ c p k, atI sh a = some (.add c p k)) → NN f → NN (as.foldl (fun f a => sumL f (cAt sh a)) f) := by
    intro as
    induction as with
    | nil => intro f _ h; exact h
    | cons a as ih =>
      intro f ha hf
      rw [List.foldl_cons]
      refine ih _ (fun b hb => ha b (List.mem_cons_of_mem _ hb)) ?_
      obtain ⟨c', p', k', h'⟩ := ha a (List.mem_cons_self ..)
      exact sumL_nn _ _ hf (cAt_nn hg h')
  refine this adds _ hl.adds fun x hx => ?_
  simp only [scaleL, List.mem_map] at hx
  obtain ⟨y, hy, rfl⟩ := hx
  exact Int.mul_nonneg (by have := hl.count.1; simp only at this; omega) (cAt_nn hg ho y hy)
/-- what is left of a want when lines are bought one after another -/
def lefts (sh : List Off) (ls : List Ln) (w : List Int) : List Int := ls.foldl (fun w l => restL w (lcont sh l)) w
theorem restL_nn (w c : List Int) : NN (restL w c) := fun x hx => by
  simp only [restL, List.mem_map] at hx
  obtain ⟨p, -, rfl⟩ := hx
  omega
theorem restL_cov : ∀ (w c : List Int), NN w → NN c → covB w (restL w c) = true
  | [], c, _, _ => by simp [restL, covB]
  | _ :: _, [], _, _ => by simp [restL, covB]
  | x :: w, y :: c, hw, hc => by
    have ih := restL_cov w c (fun z h => hw z (List.mem_cons_of_mem _ h)) (fun z h => hc z (List.mem_cons_of_mem _ h))
    have h1 := hw x (List.mem_cons_self ..)
    have h2 := hc y (List.mem_cons_self ..)
    simp only [restL, covB, List.zip_cons_cons, List.map_cons, List.all_cons, Bool.and_eq_true, decide_eq_true_eq] at ih ⊢
    exact ⟨by omega, ih⟩
theorem lefts_len {n : Nat} {sh : List Off} (hg : Good n sh) : ∀ (ls : List Ln) (w : List Int), (∀ l ∈ ls, LnOk sh l) → w.length = n → (lefts sh ls w).length = n
  | [], w, _, h => h
  | l :: ls, w, hl, h => by
    rw [lefts, List.foldl_cons]
    refine lefts_len hg ls _ (fun b hb => hl b (List.mem_cons_of_mem _ hb)) ?_
    rw [restL_len, lcont_len hg (hl l (List.mem_cons_self ..)), h]; omega
theorem lefts_nn (sh : List Off) : ∀ (ls : List Ln) (w : List Int), NN w → NN (lefts sh ls w)
  | [], w, h => h
  | l :: ls, w, h => lefts_nn sh ls _ (restL_nn _ _)
theorem left_ok (n : Nat) (hn : n ≤ 4) (sh : List Off) (hg : Good n sh) (ls : List Ln) (hl : ∀ l ∈ ls, LnOk sh l) (w : List Int) (hw : w.length = n) (hw0 : NN w) : ∃ x, sem__law_left [.v (shopD sh), .v (.list (ls.map lineD)), .v (.list (w.map .int))] = some (x, []) ∧ x.toD = some (.list ((lefts sh ls w).map .int)) := by
  obtain ⟨⟨f, y⟩, h, hI1, hI2, hI3, hI4⟩ := for_inv (tg := .n 4) (body := b__law_left_1) (enc := fun (l : Ln) => O.v (lineD l)) (E := fun (s : List Int × O) => [.own (.v (shopD sh)), .own (.v (.list (ls.map lineD))), .own (.v (.list (w.map .int))), .own s.2, .no, .no])
    (fun pre s => s.1 = lefts sh pre w ∧ (s.2 = .v (.list (s.1.map .int)) ∨ s.2 = .l (s.1.map oi)) ∧ s.1.length = n ∧ NN s.1) (all := ls) ls [] (w, .l (w.map oi)) rfl ⟨rfl, .inr rfl, hw, hw0⟩ (by
    intro pre l post ⟨f, y⟩ hall ⟨h1, h2, h3, h4⟩
    have hlk := hl l (by rw [hall]; simp)
    simp only at h1 h2 h3 h4
    have hll := lcont_len hg hlk
    have c1 := lcontent_ok n sh hg hn l hlk
    have c2 := rest_ok f (lcont sh l) (by omega)
    have c3 := covers_B f (restL f (lcont sh l)) (by omega)
    rw [restL_cov f _ h4 (lcont_nn hg hlk)] at c3
    refine ⟨(restL f (lcont sh l), .v (.list ((restL f (lcont sh l)).map .int))), _, rfl, ?_, ?_, .inl rfl, ?_, restL_nn _ _⟩
    · rcases h2 with rfl | rfl
      · simp [b__law_left_1, c1, c2, c3]
      · simp [b__law_left_1, c1, c2, c3]
    · simp only; rw [h1, lefts, lefts, List.foldl_append]; rfl
    · simp only; rw [restL_len]; omega)
  simp only at hI1 hI2
  refine ⟨y, ?_, ?_⟩
  · have hb : w.length ≤ 16777216 := by omega
    simp [un__law_left, m__law_left, hb, h]
  · rw [← hI1]
    rcases hI2 with rfl | rfl <;> simp
theorem restL_comm (w a b : List Int) (ha : NN a) (hb : NN b) : restL (restL w a) b = restL (restL w b) a := by
  rw [restL_rest w a b hb, restL_rest w b a ha]
  exact congrArg (restL w) (sumL_comm b a)
theorem lefts_rest {n : Nat} {sh : List Off} (hg : Good n sh) : ∀ (ls : List Ln) (w c : List Int), (∀ l ∈ ls, LnOk sh l) → NN c → lefts sh ls (restL w c) = restL (lefts sh ls w) c
  | [], w, c, _, _ => rfl
  | l :: ls, w, c, hl, hc => by
    have hlk := hl l (List.mem_cons_self ..)
    show lefts sh ls (restL (restL w c) (lcont sh l)) = restL (lefts sh ls (restL w (lcont sh l))) c
    rw [restL_comm w c _ hc (lcont_nn hg hlk)]
    exact lefts_rest hg ls _ _ (fun b hb => hl b (List.mem_cons_of_mem _ hb)) hc
theorem lefts_rev {n : Nat} {sh : List Off} (hg : Good n sh) : ∀ (ls : List Ln) (w : List Int), (∀ l ∈ ls, LnOk sh l) → lefts sh ls.reverse w = lefts sh ls w
  | [], w, _ => rfl
  | l :: ls, w, hl => by
    have hlk := hl l (List.mem_cons_self ..)
    rw [List.reverse_cons]
    show (ls.reverse ++ [l]).foldl _ w = lefts sh ls (restL w (lcont sh l))
    rw [List.foldl_append, lefts_rest hg ls w _ (fun b hb => hl b (List.mem_cons_of_mem _ hb)) (lcont_nn hg hlk)]
    show restL (lefts sh ls.reverse w) (lcont sh l) = _
    rw [lefts_rev hg ls w fun b hb => hl b (List.mem_cons_of_mem _ hb)]
theorem lefts_sum {n : Nat} {sh : List Off} (hg : Good n sh) : ∀ (ls : List Ln) (w c : List Int), (∀ l ∈ ls, LnOk sh l) → lefts sh ls (restL w c) = restL w (ls.foldl (fun f l => sumL f (lcont sh l)) c)
  | [], w, c, _ => rfl
  | l :: ls, w, c, hl => by
    have hlk := hl l (List.mem_cons_self ..)
    show lefts sh ls (restL (restL w c) (lcont sh l)) = _
    rw [restL_rest w c _ (lcont_nn hg hlk)]
    exact lefts_sum hg ls w _ fun b hb => hl b (List.mem_cons_of_mem _ hb)
theorem restL_reps0 : ∀ (w : List Int), NN w → restL w (reps w.length 0) = w
  | [], _ => by simp [restL]
  | x :: w, hw => by
    have ih := restL_reps0 w fun z h => hw z (List.mem_cons_of_mem _ h)
    have h1 := hw x (List.mem_cons_self ..)
    simp only [restL, reps, List.length_cons, List.replicate_succ, List.zip_cons_cons, List.map_cons, List.cons.injEq] at ih ⊢
    exact ⟨by omega, ih⟩
theorem nn_sum0 : ∀ (w : List Int), NN w → (w.sum = 0 ↔ w = reps w.length 0)
  | [], _ => by simp [reps]
  | x :: w, hw => by
    have ih := nn_sum0 w fun z h => hw z (List.mem_cons_of_mem _ h)
    have h1 := hw x (List.mem_cons_self ..)
    have h2 : 0 ≤ w.sum := by
      have : ∀ w : List Int, NN w → 0 ≤ w.sum := fun w => by
        induction w with
        | nil => intro _; simp
        | cons x w ih =>
          intro h
          have := ih fun z hz => h z (List.mem_cons_of_mem _ hz)
          have := h x (List.mem_cons_self ..)
          rw [List.sum_cons]; omega
      exact this w fun z h => hw z (List.mem_cons_of_mem _ h)
    simp only [List.sum_cons, reps, List.length_cons, List.replicate_succ, List.cons.injEq] at ih ⊢
    rw [← ih]
    omega
end Dn

set_option Elab.async false
set_option linter.all false
set_option maxRecDepth 100000
set_option maxHeartbeats 4000000
namespace Dn
open PySem L2
/-! the order of lines -/
theorem lexI_irrefl : ∀ a : List Int, lexI a a = false
  | [] => rfl
  | x :: a => by simp [lexI, lexI_irrefl a]
theorem lexI_tri : ∀ a b : List Int, a ≠ b → lexI a b = false → lexI b a = true
  | [], [], h, _ => absurd rfl h
  | [], _ :: _, _, h => by simp [lexI] at h
  | _ :: _, [], _, _ => by simp [lexI]
  | x :: a, y :: b, h, h2 => by
    by_cases e : x = y
    · subst e
      simp only [lexI, if_true] at h2 ⊢
      exact lexI_tri a b (fun e => h (by rw [e])) h2
    · simp only [lexI, if_neg e, decide_eq_false_iff_not] at h2
      simp only [lexI, if_neg (Ne.symm e), decide_eq_true_eq]
      omega
theorem lexI_trans : ∀ a b c : List Int, lexI a b = true → lexI b c = true → lexI a c = true
  | [], [], c, h, _ => by simp [lexI] at h
  | [], _ :: _, [], _, h => by simp [lexI] at h
  | [], _ :: _, _ :: _, _, _ => by simp [lexI]
  | _ :: _, [], _, h, _ => by simp [lexI] at h
  | _ :: _, _ :: _, [], _, h => by simp [lexI] at h
  | x :: a, y :: b, z :: c, h1, h2 => by
    by_cases e : x = y
    · subst e
      by_cases e2 : x = z
      · subst e2
        simp only [lexI, if_true] at h1 h2 ⊢
        exact lexI_trans a b c h1 h2
      · simp only [lexI, if_neg e2] at h2 ⊢
        exact h2
    · by_cases e2 : y = z
      · subst e2
        simp only [lexI, if_neg e] at h1 ⊢
        exact h1
      · simp only [lexI, if_neg e, if_neg e2, decide_eq_true_eq] at h1 h2
        have : ¬ x = z := by omega
        simp only [lexI, if_neg this, decide_eq_true_eq]
        omega
theorem lexI_asymm (a b : List Int) (h : lexI a b = true) : lexI b a = false := by
  cases e : lexI b a with
  | false => rfl
  | true => have := lexI_trans a b a h e; rw [lexI_irrefl] at this; cases this
theorem lexLe_trans (a b c : List Int) (h1 : (!lexI b a) = true) (h2 : (!lexI c b) = true) : (!lexI c a) = true := by
  simp only [Bool.not_eq_true'] at *
  by_cases e1 : a = b
  · subst e1; exact h2
  · by_cases e2 : b = c
    · subst e2; exact h1
    · exact lexI_asymm _ _ (lexI_trans a b c (lexI_tri b a (Ne.symm e1) h1) (lexI_tri c b (Ne.symm e2) h2))
theorem lexLe_total (a b : List Int) : ((!lexI b a) || (!lexI a b)) = true := by
  cases e : lexI b a with
  | false => rfl
  | true => rw [lexI_asymm _ _ e]; rfl
theorem sortRows_strict {rows : List (List Int)} (h : rows.Nodup) : (sortRows rows).Pairwise fun a b => lexI a b = true := by
  have h1 : (sortRows rows).Pairwise fun a b => (!lexI b a) = true := List.pairwise_mergeSort (le := fun a b => !lexI b a) lexLe_trans lexLe_total rows
  have h2 : (sortRows rows).Nodup := (List.mergeSort_perm rows _).nodup_iff.mpr h
  refine (h1.and h2).imp fun {a b} ⟨p, q⟩ => ?_
  exact lexI_tri b a (Ne.symm q) (by simpa using p)
theorem dblL_nodup : ∀ (places : List Int) (rows : List (List Int)), rows.Nodup → places.Nodup → (∀ r ∈ rows, ∀ x ∈ r, x ∉ places) → (places.foldl dblL rows).Nodup
  | [], rows, h, _, _ => h
  | p :: places, rows, h, hp, hr => by
    rw [List.foldl_cons]
    rw [List.nodup_cons] at hp
    refine dblL_nodup places _ ?_ hp.2 ?_
    · show (rows ++ rows.map (· ++ [p])).Nodup
      rw [List.nodup_append]
      refine ⟨h, ?_, ?_⟩
      · unfold List.Nodup
        rw [List.pairwise_map]
        exact List.Pairwise.imp (fun {a b} hab e => hab (List.append_cancel_right e)) h
      · intro a ha b hb e
        obtain ⟨c, hc, rfl⟩ := List.mem_map.mp hb
        subst e
        exact hr _ ha p (by simp) (List.mem_cons_self ..)
    · intro r hm x hx hxp
      rcases List.mem_append.mp (show r ∈ rows ++ rows.map (· ++ [p]) from hm) with hm | hm
      · exact hr r hm x hx (List.mem_cons_of_mem _ hxp)
      · obtain ⟨c, hc, rfl⟩ := List.mem_map.mp hm
        rcases List.mem_append.mp hx with hx | hx
        · exact hr c hc x hx (List.mem_cons_of_mem _ hxp)
        · simp only [List.mem_singleton] at hx
          subst hx
          exact hp.1 hxp
theorem choicesL_strict {places : List Int} (h : places.Nodup) : (choicesL places).Pairwise fun a b => lexI a b = true :=
  sortRows_strict (dblL_nodup places [[]] (by simp) h (by simp))
theorem zipIdx_pair {α : Type} : ∀ (xs : List α) (k : Nat), (xs.zipIdx k).Pairwise fun p q => p.2 < q.2
  | [], _ => by simp
  | x :: xs, k => by
    rw [List.zipIdx_cons, List.pairwise_cons]
    refine ⟨fun p hp => ?_, zipIdx_pair xs (k + 1)⟩
    have := List.le_snd_of_mem_zipIdx hp
    simp only; omega
theorem addsL_nodup (sh : List Off) (i : Int) : (addsL sh i).Nodup := by
  unfold addsL
  unfold List.Nodup
  rw [List.pairwise_map]
  exact List.Pairwise.imp (fun {a b} h => by omega) ((zipIdx_pair sh 0).sublist List.filter_sublist)
def lnLt (a b : Ln) : Bool := if a.1 = b.1 then (if a.2.1 = b.2.1 then lexI a.2.2 b.2.2 else decide (a.2.1 < b.2.1)) else decide (a.1 < b.1)
theorem dataLt_line (a b : Ln) : PySem.W.dataLt (lineD a) (lineD b) = lnLt a b := by
  have al : ∀ x y : Int, PySem.W.alike (.int x) (.int y) = true := fun x y => by simp [PySem.W.alike]
  have alr : PySem.W.alike (rowD a.2.2) (rowD b.2.2) = true := by
    show PySem.W.alike (.list _) (.list _) = true
    simp [PySem.W.alike, PySem.W.alike_ints]
  unfold lineD lnLt
  rw [PySem.W.dataLt_tuple]
  by_cases h1 : a.1 = b.1
  · rw [PySem.W.dataLt_all_yes (al _ _) (by simp [PyData.eqv, h1]), if_pos h1]
    by_cases h2 : a.2.1 = b.2.1
    · rw [PySem.W.dataLt_all_yes (al _ _) (by simp [PyData.eqv, h2]), if_pos h2]
      by_cases h3 : a.2.2 = b.2.2
      · rw [h3, lexI_irrefl]
        exact PyProof.Rows.lex_irrefl _
      · rw [PySem.W.dataLt_all_no alr ?_, dataLt_row]
        have := eqv_iff 2 (rowD a.2.2) (rowD b.2.2) (by simp [rowD]) (by simp [rowD])
        cases e : PyData.eqv (rowD a.2.2) (rowD b.2.2) with
        | false => rfl
        | true =>
          have := this.mp e
          simp only [rowD, PyData.list.injEq] at this
          exact absurd ((map_int_inj _ _).mp this) h3
    · rw [PySem.W.dataLt_all_no (al _ _) (by simp [PyData.eqv, h2]), if_neg h2, PySem.W.dataLt_int]
  · rw [PySem.W.dataLt_all_no (al _ _) (by simp [PyData.eqv, h1]), if_neg h1, PySem.W.dataLt_int]
theorem linesAt_fst {sh : List Off} {i : Nat} {o : Off} {l : Ln} (h : l ∈ linesAt sh i o) : l.1 = (i : Int) := by
  cases o with
  | pack c p => obtain ⟨a, -, rfl⟩ := List.mem_map.mp h; rfl
  | many c ts => obtain ⟨a, -, rfl⟩ := List.mem_map.mp h; rfl
  | add c p k => cases h
theorem linesAt_strict (sh : List Off) (i : Nat) (o : Off) : (linesAt sh i o).Pairwise fun a b => lnLt a b = true := by
  cases o with
  | pack c p =>
    unfold linesAt
    rw [List.pairwise_map]
    exact (choicesL_strict (addsL_nodup sh i)).imp fun {a b} h => by simp [lnLt, h]
  | many c ts =>
    unfold linesAt
    rw [List.pairwise_map]
    have : counts12.Pairwise (· < ·) := by decide
    exact this.imp fun {a b} h => by
      have : ¬ a = b := by omega
      simp [lnLt, h, this]
  | add c p k => exact .nil
theorem linesL_strict (sh : List Off) : (linesL sh).Pairwise fun a b => lnLt a b = true := by
  unfold linesL
  rw [List.pairwise_flatMap]
  refine ⟨fun p _ => linesAt_strict sh p.2 p.1, (zipIdx_pair sh 0).imp fun {p q} h x hx y hy => ?_⟩
  have h1 := linesAt_fst hx
  have h2 := linesAt_fst hy
  have : ¬ x.1 = y.1 := by omega
  simp only [lnLt, if_neg this, decide_eq_true_eq]
  omega
theorem lnLt_irrefl (a : Ln) : lnLt a a = false := by simp [lnLt, lexI_irrefl]
theorem lnLt_asymm (a b : Ln) (h : lnLt a b = true) : lnLt b a = false := by
  unfold lnLt at h ⊢
  by_cases h1 : a.1 = b.1
  · rw [if_pos h1] at h
    rw [if_pos h1.symm]
    by_cases h2 : a.2.1 = b.2.1
    · rw [if_pos h2] at h
      rw [if_pos h2.symm]
      exact lexI_asymm _ _ h
    · rw [if_neg h2] at h
      rw [if_neg (Ne.symm h2)]
      simp at h ⊢; omega
  · rw [if_neg h1] at h
    rw [if_neg (Ne.symm h1)]
    simp at h ⊢; omega
theorem linesL_nodup (sh : List Off) : (linesL sh).Nodup := (linesL_strict sh).imp fun {a b} h e => by rw [e, lnLt_irrefl] at h; cases h
/-- lines stand in order: sorted leaves them -/
theorem srt_lines (ls : List Ln) (h : ls.Pairwise fun a b => lnLt a b = true) : srtO [.v (.list (ls.map lineD))] = some (.l (ls.map fun l => .v (lineD l))) := by
  have e1 : (ls.map fun l => O.v (lineD l)).zip (ls.map lineD) = ls.map fun r => (O.v (lineD r), lineD r) := by
    clear h
    induction ls with
    | nil => rfl
    | cons r rows ih => simp [ih]
  have e2 : ((ls.map fun r => (O.v (lineD r), lineD r)).mergeSort (PySem.W.dataLe false (·.2))).map (·.1) = ls.map fun l => O.v (lineD l) := by
    rw [List.mergeSort_of_pairwise, List.map_map]
    · rfl
    · rw [List.pairwise_map]
      refine h.imp fun {a b} hab => ?_
      rw [PySem.W.dataLe_eq]
      simp [dataLt_line, lnLt_asymm _ _ hab]
  have hal : allAlikeB (ls.map lineD) = true := by
    unfold allAlikeB
    rw [List.all_eq_true]
    intro d hd
    rw [List.all_eq_true]
    intro d' hd'
    obtain ⟨a, _, rfl⟩ := List.mem_map.mp hd
    obtain ⟨b, _, rfl⟩ := List.mem_map.mp hd'
    simp [lineD, rowD, PySem.W.alike, PySem.W.alikeAll, PySem.W.alike_ints]
  have hso : sortableB (ls.map lineD) = true := by
    unfold sortableB
    rw [Bool.or_eq_true]
    left
    rw [List.all_eq_true]
    intro d hd
    obtain ⟨a, _, rfl⟩ := List.mem_map.mp hd
    rfl
  have hdp : (ls.map lineD).all (fun d => decide (d.depth ≤ 60)) = true := by
    rw [List.all_eq_true]
    intro d hd
    obtain ⟨a, _, rfl⟩ := List.mem_map.mp hd
    simp [lineD, rowD]
  show (match O.toDs ((ls.map lineD).map O.v) with | some ds => if allAlikeB ds && sortableB ds && ds.all (fun d => decide (d.depth ≤ 60)) then some (O.l (((((ls.map lineD).map O.v).zip ds).mergeSort (PySem.W.dataLe false (fun x : O × PyData => x.2))).map (fun x : O × PyData => x.1))) else none | none => none) = _
  rw [List.map_map]
  show (match O.toDs (ls.map fun l => O.v (lineD l)) with | some ds => if allAlikeB ds && sortableB ds && ds.all (fun d => decide (d.depth ≤ 60)) then some (O.l ((((ls.map fun l => O.v (lineD l)).zip ds).mergeSort (PySem.W.dataLe false (fun x : O × PyData => x.2))).map (fun x : O × PyData => x.1))) else none | none => none) = _
  rw [toDs_mapv]
  simp only [hal, hso, hdp, Bool.and_self, if_true]
  rw [e1, e2]
theorem lineD_inj {a b : Ln} (h : lineD a = lineD b) : a = b := by
  obtain ⟨x, y, z⟩ := a
  obtain ⟨x', y', z'⟩ := b
  simp only [lineD, rowD, PyData.tuple.injEq, List.cons.injEq, PyData.int.injEq, PyData.list.injEq, and_true] at h
  obtain ⟨rfl, rfl, h⟩ := h
  rw [(map_int_inj _ _).mp h]
theorem eqv_line (a b : Ln) : PyData.eqv (lineD a) (lineD b) = decide (a = b) := by
  have := eqv_iff 4 (lineD a) (lineD b) (by simp [lineD]) (by simp [lineD])
  rw [Bool.eq_iff_iff, this, decide_eq_true_eq]
  exact ⟨lineD_inj, fun h => by rw [h]⟩
theorem count_line (ls : List Ln) (h : ls.Nodup) (l : Ln) (hl : l ∈ ls) : fCount [.list (ls.map lineD), lineD l] = some (.int 1) := by
  have hnb : nb (.list (ls.map lineD)) 5 = true := by simp [lineD]
  have hnb2 : nb (lineD l) 5 = true := by simp [lineD]
  obtain ⟨a1, a2⟩ := nb_shape 5 _ hnb
  obtain ⟨b1, b2⟩ := nb_shape 5 _ hnb2
  have hc : (ls.map lineD).countP (fun z => PyData.eqv z (lineD l)) = 1 := by
    rw [List.countP_map]
    have : (((fun z => PyData.eqv z (lineD l)) ∘ lineD) : Ln → Bool) = fun x => decide (x = l) := by
      funext x
      simp only [Function.comp, eqv_line]
    rw [this]
    clear this hnb a1 a2 b1 b2 hnb2
    induction ls with
    | nil => cases hl
    | cons x ls ih =>
      rw [List.nodup_cons] at h
      rw [List.countP_cons]
      by_cases e : x = l
      · subst e
        have : ls.countP (fun y => decide (y = x)) = 0 := by
          rw [List.countP_eq_zero]
          intro y hy
          simp only [decide_eq_true_eq]
          intro e
          subst e
          exact h.1 hy
        rw [this]; simp
      · rcases List.mem_cons.mp hl with e2 | hl
        · exact absurd e2.symm e
        · rw [ih h.2 hl]; simp [e]
  show (if SeqAt.shaped (.list (ls.map lineD)) && SeqAt.shaped (lineD l) then some (PyData.int (((ls.map lineD).countP fun z => PyData.eqv z (lineD l)) : Nat)) else none) = _
  rw [hc, shaped_eq, shaped_eq, a1, b1, decide_eq_true (Nat.le_trans a2 (by decide)), decide_eq_true (Nat.le_trans b2 (by decide))]
  rfl
end Dn

set_option Elab.async false
set_option linter.all false
set_option maxRecDepth 100000
set_option maxHeartbeats 4000000
namespace Dn
open PySem L2
/-! tiers of any kind -/
def upL : Int → List Int → Bool
  | _, [] => true
  | x, y :: r => decide (x < y) && upL y r
def tgood (ts : List (Int × Int)) : Bool := match startsL ts with
  | [] => false
  | x :: r => decide (x = 1) && (decide (r.length ≤ 3) && (decide ((x :: r).getLastD 0 ≤ 12) && upL x r))
def ltAt (l : List Int) (k : Nat) : Bool := decide (l.getD k 0 < l.getD (k + 1) 0)
theorem up_all : ∀ (r : List Int) (x : Int), (List.range r.length).all (ltAt (x :: r)) = upL x r
  | [], x => rfl
  | y :: r, x => by
    rw [List.length_cons, List.range_succ_eq_map, List.all_cons, List.all_map]
    have e : (ltAt (x :: y :: r) ∘ Nat.succ) = ltAt (y :: r) := by funext k; rfl
    rw [e, up_all r y]
    rfl
theorem getD_at {l : List Int} {k : Nat} (h : k < l.length) : atI l (k : Int) = some (l.getD k 0) := by
  refine atI_nat rfl ?_
  rw [List.getD_eq_getElem?_getD, List.getElem?_eq_getElem h]
  rfl
theorem last_at (x : Int) (r : List Int) : atI (x :: r) (-1) = some ((x :: r).getLastD 0) := by
  have h : x :: r ≠ [] := by simp
  have e := List.dropLast_concat_getLast h
  have e2 : (x :: r).getLastD 0 = (x :: r).getLast h := by
    rw [List.getLastD_eq_getLast?, List.getLast?_eq_some_getLast h]
    rfl
  rw [e2]
  conv => lhs; rw [← e]
  exact atI_last _ _
theorem tiersR_any (ts : List (Int × Int)) (hl : ts.length ≤ 1000) : sem_tiers_right [.v (.list (ts.map tierD))] = some (.v (.bool (tgood ts)), []) := by
  have hlc : lcL (.tp [(.n 2), (.n 3)]) mYes ce_tiers_right_1 [2, 3] (ts.map fun t => .v (tierD t)) [.own (.v (.list (ts.map tierD))), .no, .no, .no, .no] = some ((startsL ts).map oi, [.own (.v (.list (ts.map tierD))), .no, .no, .no, .no]) := by
    rw [startsL, List.map_map]
    refine lc_map _ fun t _ => ?_
    simp [ce_tiers_right_1, tierD]
  have hsl : (startsL ts).length = ts.length := by simp [startsL]
  have b4 : ts.length ≤ 16777216 := by omega
  have b5 : ts.length ≤ 16777217 := by omega
  cases hs : startsL ts with
  | nil =>
    have htg : tgood ts = false := by unfold tgood; rw [hs]
    rw [htg]
    have h0 : ts.length = 0 := by rw [← hsl, hs]; rfl
    rw [hs] at hlc
    have fne : fNe [.list [], .list [.int 1]] = some (.bool true) := by
      have h1 : nb (.list []) 2 = true := by rw [nb_list]; rfl
      have h2 : nb (.list [.int 1]) 2 = true := by simp
      rw [fNe_ap]
      obtain ⟨a1, a2⟩ := nb_shape 2 _ h1
      obtain ⟨c1, c2⟩ := nb_shape 2 _ h2
      have s1 : SeqAt.shaped (.list []) = true := by rw [shaped_eq, a1, decide_eq_true (Nat.le_trans a2 (by decide))]; rfl
      have s2 : SeqAt.shaped (.list [.int 1]) = true := by rw [shaped_eq, c1, decide_eq_true (Nat.le_trans c2 (by decide))]; rfl
      rw [s1, s2]
      rfl
    have hcut : cutG ([] : List O) none (some 1) = [] := rfl
    simp only [List.map_nil] at hlc
    simp [un_tiers_right, m_tiers_right, hlc, b4, hcut, fne]
  | cons x r =>
    have htg : tgood ts = (decide (x = 1) && (decide (r.length ≤ 3) && (decide ((x :: r).getLastD 0 ≤ 12) && upL x r))) := by unfold tgood; rw [hs]
    rw [htg]
    rw [hs] at hlc hsl
    have hcut : cutG ((x :: r).map fun n => O.v (.int n)) none (some 1) = [oi x] := by
      rw [show (1 : Int) = ((1 : Nat) : Int) from rfl, cutG_take]; rfl
    have fne : fNe [.list [.int x], .list [.int 1]] = some (.bool (!decide (x = 1))) := by
      have := fNe_ints [x] [1]
      simpa using this
    by_cases hx : x = 1
    · by_cases h3 : r.length ≤ 3
      · by_cases h12 : (x :: r).getLastD 0 ≤ 12
        · have hall : ∀ e : En, e[1]? = some (.own (.v (.list ((x :: r).map .int)))) → e[4]? = some .no → lcL (.n 4) mYes ce_tiers_right_2 [4] ((List.range r.length).map fun (k : Nat) => O.v (.int (k : Int))) e = some ((List.range r.length).map (fun k => O.v (.bool (ltAt (x :: r) k))), e) := fun e h1 h4 => by
            refine lc_map1 h4 _ fun k hk e' g1 g2 => ?_
            simp at hk
            have e1 := getD_at (l := x :: r) (k := k) (by simp; omega)
            have e2 := getD_at (l := x :: r) (k := k + 1) (by simp; omega)
            have e2' : atI (x :: r) ((k : Int) + 1) = some ((x :: r).getD (k + 1) 0) := e2
            have g3 := g2 1 (by decide)
            rw [h1] at g3
            unfold ltAt
            generalize (x :: r).getD k 0 = A at *
            generalize (x :: r).getD (k + 1) 0 = B at *
            generalize hL : x :: r = L at *
            simp [ce_tiers_right_2, g1, g3, e1, e2']
          have hlast := last_at x r
          have hup := up_all r x
          have hbb : (List.range r.length).map (fun k => O.v (.bool (ltAt (x :: r) k))) = ((List.range r.length).map (ltAt (x :: r))).map fun b => O.v (.bool b) := by rw [List.map_map]; rfl
          rw [hbb] at hall
          have hall2 : ((List.range r.length).map (ltAt (x :: r))).all id = upL x r := by rw [List.all_map]; exact hup
          generalize (List.range r.length).map (ltAt (x :: r)) = BB at *
          have q1 : -4611686018427387904 ≤ ((x :: r).length : Int) - 1 := by rw [List.length_cons]; omega
          have q2 : ((x :: r).length : Int) - 1 < 4611686018427387904 := by rw [List.length_cons]; omega
          have q3 : (((x :: r).length : Int) - 1).toNat = r.length := by simp
          have q4 : ¬ (4 : Int) < ((x :: r).length : Int) := by rw [List.length_cons]; omega
          have q5 : ¬ (12 : Int) < (x :: r).getLastD 0 := by omega
          have q6 : (x :: r).length ≤ 16777217 := by rw [List.length_cons]; omega
          rw [decide_eq_true hx, decide_eq_true h3, decide_eq_true h12]
          rw [decide_eq_true hx] at fne
          generalize hL : (x :: r).getLastD 0 = Z at *
          generalize hLL : x :: r = L at *
          have hbs : asBools (BB.map .bool) = some BB := asBools_map BB
          rw [hsl] at q1 q2 q3 q4 q6
          have q7 : ¬ 4 < ts.length := by omega
          have q8 : r.length ≤ 16777216 := by omega
          simp [q8, un_tiers_right, m_tiers_right, hlc, hcut, fne, b4, b5, hlast, hall, q1, q2, q3, q4, q5, q6, q7, hbs, hall2, hsl]
        · have hlast := last_at x r
          rw [decide_eq_true hx, decide_eq_true h3, decide_eq_false h12]
          rw [decide_eq_true hx] at fne
          have q4 : ¬ (4 : Int) < ((x :: r).length : Int) := by rw [List.length_cons]; omega
          have q5 : (12 : Int) < (x :: r).getLastD 0 := by omega
          generalize hL : (x :: r).getLastD 0 = Z at *
          generalize hLL : x :: r = L at *
          rw [hsl] at q4
          have q7 : ¬ 4 < ts.length := by omega
          simp [un_tiers_right, m_tiers_right, hlc, hcut, fne, b4, b5, hlast, q4, q5, q7, hsl]
      · rw [decide_eq_true hx, decide_eq_false h3]
        rw [decide_eq_true hx] at fne
        have q4 : (4 : Int) < ((x :: r).length : Int) := by rw [List.length_cons]; omega
        generalize hLL : x :: r = L at *
        rw [hsl] at q4
        have q7 : 4 < ts.length := by omega
        simp [un_tiers_right, m_tiers_right, hlc, hcut, fne, b4, b5, q4, q7, hsl]
    · rw [decide_eq_false hx]
      rw [decide_eq_false hx] at fne
      generalize hLL : x :: r = L at *
      simp [un_tiers_right, m_tiers_right, hlc, hcut, fne, b4, b5, hsl]
theorem tiersG_any (ts : List (Int × Int)) (hl : ts.length ≤ 1000) : sem__law_tiers_good_f101 [.v (.list (ts.map tierD))] = some (.v (.bool (tgood ts)), []) := by
  have hlc : lcL (.tp [(.n 2), (.n 3)]) mYes ce__law_tiers_good_f101_1 [2, 3] (ts.map fun t => .v (tierD t)) [.own (.v (.list (ts.map tierD))), .no, .no, .no, .no] = some ((startsL ts).map oi, [.own (.v (.list (ts.map tierD))), .no, .no, .no, .no]) := by
    rw [startsL, List.map_map]
    refine lc_map _ fun t _ => ?_
    simp [ce__law_tiers_good_f101_1, tierD]
  have hsl : (startsL ts).length = ts.length := by simp [startsL]
  have b4 : ts.length ≤ 16777216 := by omega
  have b5 : ts.length ≤ 16777217 := by omega
  cases hs : startsL ts with
  | nil =>
    have htg : tgood ts = false := by unfold tgood; rw [hs]
    rw [htg]
    rw [hs] at hlc
    simp only [List.map_nil] at hlc
    simp [un__law_tiers_good_f101, m__law_tiers_good_f101, hlc, b4]
  | cons x r =>
    have htg : tgood ts = (decide (x = 1) && (decide (r.length ≤ 3) && (decide ((x :: r).getLastD 0 ≤ 12) && upL x r))) := by unfold tgood; rw [hs]
    rw [htg]
    rw [hs] at hlc hsl
    have h0 : atI (x :: r) 0 = some x := atI_0 x r
    have hlast := last_at x r
    have q0 : ¬ (ts.length : Int) < 1 := by rw [← hsl, List.length_cons]; omega
    by_cases h3 : r.length ≤ 3
    · have q4 : ¬ (4 : Int) < (ts.length : Int) := by rw [← hsl, List.length_cons]; omega
      by_cases hx : x = 1
      · by_cases h12 : (x :: r).getLastD 0 ≤ 12
        · have hall : ∀ e : En, e[1]? = some (.own (.v (.list ((x :: r).map .int)))) → e[4]? = some .no → lcL (.n 4) ct__law_tiers_good_f101_1 ce__law_tiers_good_f101_2 [4] ((List.range r.length).map fun (k : Nat) => O.v (.int (1 + (k : Int)))) e = some (((List.range r.length).filter fun k => !ltAt (x :: r) k).map (fun (k : Nat) => O.v (.int (1 + (k : Int)))), e) := fun e h1 h4 => by
            refine lc_filter1 h4 _ fun k hk e' g1 g2 => ?_
            simp at hk
            have e1 := getD_at (l := x :: r) (k := k) (by simp; omega)
            have e2 := getD_at (l := x :: r) (k := k + 1) (by simp; omega)
            have e2' : atI (x :: r) (1 + (k : Int)) = some ((x :: r).getD (k + 1) 0) := by rw [← e2]; congr 1; omega
            have e1' : atI (x :: r) (1 + (k : Int) - 1) = some ((x :: r).getD k 0) := by rw [← e1]; congr 1; omega
            have g3 := g2 1 (by decide)
            rw [h1] at g3
            unfold ltAt
            generalize (x :: r).getD k 0 = A at *
            generalize (x :: r).getD (k + 1) 0 = B at *
            generalize hL : x :: r = L at *
            refine ⟨?_, fun _ => by simp [ce__law_tiers_good_f101_2, g1]⟩
            simp [ct__law_tiers_good_f101_1, g1, g3, e1', e2']
            by_cases hab : A < B <;> simp [hab] <;> omega
          have hup := up_all r x
          have hlen : (decide ((((List.range r.length).filter fun k => !ltAt (x :: r) k).length : Int) = 0)) = upL x r := by
            rw [← hup]
            rw [Bool.eq_iff_iff, decide_eq_true_eq, List.all_eq_true]
            rw [show ((((List.range r.length).filter fun k => !ltAt (x :: r) k).length : Int) = 0 ↔ ((List.range r.length).filter fun k => !ltAt (x :: r) k) = []) from by rw [← List.length_eq_zero_iff]; omega]
            rw [List.filter_eq_nil_iff]
            simp
          have hfl : ((List.range r.length).filter fun k => !ltAt (x :: r) k).length ≤ 16777216 := by
            have := List.length_filter_le (fun k => !ltAt (x :: r) k) (List.range r.length)
            rw [List.length_range] at this
            omega
          generalize ((List.range r.length).filter fun k => !ltAt (x :: r) k) = FF at *
          have q1 : -4611686018427387904 ≤ (ts.length : Int) := by omega
          have q2 : (ts.length : Int) < 4611686018427387904 := by omega
          have q3 : ((ts.length : Int) - 1).toNat = r.length := by rw [← hsl, List.length_cons]; omega
          have q5 : ¬ (12 : Int) < (x :: r).getLastD 0 := by omega
          have q8 : r.length ≤ 16777216 := by omega
          rw [decide_eq_true hx, decide_eq_true h3, decide_eq_true h12, ← hlen]
          generalize hL : (x :: r).getLastD 0 = Z at *
          generalize hLL : x :: r = L at *
          simp [q8, un__law_tiers_good_f101, m__law_tiers_good_f101, rng_map, hlc, h0, hx, b4, b5, hlast, hall, q0, q1, q2, q3, q4, q5, hsl, hfl]
        · rw [decide_eq_true hx, decide_eq_true h3, decide_eq_false h12]
          have q5 : (12 : Int) < (x :: r).getLastD 0 := by omega
          generalize hL : (x :: r).getLastD 0 = Z at *
          generalize hLL : x :: r = L at *
          simp [un__law_tiers_good_f101, m__law_tiers_good_f101, hlc, h0, hx, b4, b5, hlast, q0, q4, q5, hsl]
      · rw [decide_eq_false hx]
        generalize hLL : x :: r = L at *
        simp [un__law_tiers_good_f101, m__law_tiers_good_f101, hlc, h0, hx, b4, b5, q0, q4, hsl]
    · have q4 : (4 : Int) < (ts.length : Int) := by rw [← hsl, List.length_cons]; omega
      rw [decide_eq_false h3, Bool.false_and, Bool.and_false]
      generalize hLL : x :: r = L at *
      simp [un__law_tiers_good_f101, m__law_tiers_good_f101, hlc, b4, b5, q0, q4, hsl]
end Dn

set_option Elab.async false
set_option linter.all false
set_option maxRecDepth 100000
set_option maxHeartbeats 4000000
namespace Dn
open PySem L2
/-! shops of any offers, looked at -/
def packAt (sh : List Off) (k : Int) : Bool := match sh[k.toNat]? with
  | some o => o.isPack
  | none => false
def goodAt (sh : List Off) (i : Nat) : Off → Bool
  | .pack _ _ => true
  | .many _ ts => tgood ts
  | .add _ _ k => decide (0 ≤ k) && (decide (k < (i : Int)) && packAt sh k)
structure Bnd (sh : List Off) : Prop where
  len : sh.length ≤ 50
  c : ∀ o ∈ sh, o.c.length ≤ 1000
  ts : ∀ o ∈ sh, ∀ c ts, o = .many c ts → ts.length ≤ 1000
theorem look_good (sh : List Off) (hb : Bnd sh) (i : Nat) (o : Off) (hi : sh[i]? = some o) (hg : goodAt sh i o = true) : b_look_1 [.own (.v (shopD sh)), .own (oi (i : Int)), .own (.v o.d), .no] = some (.nx [.own (.v (shopD sh)), .no, .no, .no]) ∧ bx_look_1 [.own (.v (shopD sh)), .own (oi (i : Int)), .own (.v o.d), .no] = none := by
  cases o with
  | pack c p => simp [b_look_1, bx_look_1]
  | many c ts =>
    have h1 := tiersR_any ts (hb.ts _ (List.mem_of_getElem? hi) c ts rfl)
    rw [show tgood ts = true from hg] at h1
    simp [b_look_1, bx_look_1, h1]
  | add c p k =>
    simp only [goodAt, Bool.and_eq_true, decide_eq_true_eq] at hg
    obtain ⟨h0, h1, h2⟩ := hg
    unfold packAt at h2
    cases hk : sh[k.toNat]? with
    | none => rw [hk] at h2; cases h2
    | some o' =>
      rw [hk] at h2
      have ha : atI sh k = some o' := atI_nat (j := k.toNat) (by omega) hk
      have h2' : o'.isPack = true := h2
      constructor <;> simp [b_look_1, bx_look_1, h0, h1, ha, h2', sV]
theorem look_bad (sh : List Off) (hb : Bnd sh) (i : Nat) (o : Off) (hi : sh[i]? = some o) (hg : goodAt sh i o = false) : b_look_1 [.own (.v (shopD sh)), .own (oi (i : Int)), .own (.v o.d), .no] = none ∧ ∃ e', bx_look_1 [.own (.v (shopD sh)), .own (oi (i : Int)), .own (.v o.d), .no] = some (⟨"NoOffer", "place", (i : Int)⟩, e') := by
  have hil : (i : Int) < 100 := by
    have := (List.getElem?_eq_some_iff.mp hi).1
    have := hb.len
    omega
  have hi0 : (0 : Int) ≤ (i : Int) := by omega
  cases o with
  | pack c p => cases hg
  | many c ts =>
    have h1 := tiersR_any ts (hb.ts _ (List.mem_of_getElem? hi) c ts rfl)
    rw [show tgood ts = false from hg] at h1
    simp [b_look_1, bx_look_1, h1, hil]
  | add c p k =>
    by_cases h0 : 0 ≤ k
    · by_cases h1 : k < (i : Int)
      · have hkl : k.toNat < sh.length := by
          have := (List.getElem?_eq_some_iff.mp hi).1
          omega
        obtain ⟨o', hk⟩ : ∃ o', sh[k.toNat]? = some o' := ⟨_, List.getElem?_eq_getElem hkl⟩
        have ha : atI sh k = some o' := atI_nat (j := k.toNat) (by omega) hk
        have h2' : o'.isPack = false := by
          simp only [goodAt, decide_eq_true h0, decide_eq_true h1, Bool.true_and, packAt, hk] at hg
          exact hg
        simp [b_look_1, bx_look_1, h0, h1, ha, h2', sV, hil]
      · simp [b_look_1, bx_look_1, h0, h1, sV, hil]
    · simp [b_look_1, bx_look_1, h0, sV, hil]
/-- the place of the first offer with a fault -/
def firstBad (sh : List Off) : Option Nat := ((sh.zipIdx 0).find? fun p => !goodAt sh p.2 p.1).map (·.2)
theorem bn_eq : bn_look_1 = b_look_1 := rfl
theorem look_fine (sh : List Off) (hb : Bnd sh) (h : firstBad sh = none) : sem_look [.v (shopD sh)] = some (.v .none, []) := by
  have hn : ∀ p ∈ sh.zipIdx 0, goodAt sh p.2 p.1 = true := by
    unfold firstBad at h
    rw [Option.map_eq_none_iff, List.find?_eq_none] at h
    intro p hp
    simpa using h p hp
  have h := (for_fold (tg := .tp [(.n 1), (.n 2)]) (body := b_look_1) (enc := fun (p : Off × Nat) => O.t [oi (p.2 : Nat), .v p.1.d]) (E := fun (_ : Unit) => [.own (.v (shopD sh)), .no, .no, .no]) (step := fun _ _ => ()) (I := fun _ => True) (sh.zipIdx 0) () trivial (by
    intro ⟨o, i⟩ hp _ _
    exact ⟨trivial, _, rfl, (look_good sh hb i o (zipIdx_get hp) (hn _ hp)).1⟩)).1
  simp [un_look, m_look, enu_shop, h]
theorem find_split {α : Type} {p : α → Bool} : ∀ {l : List α} {x : α}, l.find? p = some x → ∃ pre post, l = pre ++ x :: post ∧ p x = true ∧ ∀ y ∈ pre, p y = false
  | [], _, h => by cases h
  | a :: l, x, h => by
    rw [List.find?_cons] at h
    split at h
    · rename_i ha
      cases h
      exact ⟨[], l, rfl, ha, fun y hy => by cases hy⟩
    · rename_i ha
      obtain ⟨pre, post, e, hx, hp⟩ := find_split h
      exact ⟨a :: pre, post, by rw [e]; rfl, hx, fun y hy => by
        rcases List.mem_cons.mp hy with rfl | hy
        · exact ha
        · exact hp y hy⟩
theorem look_raises (sh : List Off) (hb : Bnd sh) (i : Nat) (h : firstBad sh = some i) : sem_look [.v (shopD sh)] = none ∧ xr_look [.v (shopD sh)] = some ⟨"NoOffer", "place", (i : Int)⟩ := by
  unfold firstBad at h
  obtain ⟨⟨o, j⟩, hf, hj⟩ := Option.map_eq_some_iff.mp h
  have hj : j = i := hj
  subst hj
  obtain ⟨pre, post, e, hx, hp⟩ := find_split hf
  have hmem : ∀ y ∈ pre, y ∈ sh.zipIdx 0 := fun y hy => by rw [e]; exact List.mem_append_left _ hy
  have hget := zipIdx_get (show (o, j) ∈ sh.zipIdx 0 by rw [e]; simp)
  have hx' : goodAt sh j o = false := by simpa using hx
  obtain ⟨k1, e', k2⟩ := look_bad sh hb j o hget hx'
  have f1 := forL_stuck (tg := .tp [(.n 1), (.n 2)]) (body := b_look_1) (enc := fun (p : Off × Nat) => O.t [oi (p.2 : Nat), .v p.1.d]) (E := fun (_ : Unit) => [.own (.v (shopD sh)), .no, .no, .no]) pre (o, j) post () (fun _ _ => True) [] trivial
    (fun _ y _ _ hy => ⟨_, (), rfl, (look_good sh hb y.2 y.1 (zipIdx_get (hmem y hy)) (by simpa using hp y hy)).1, trivial⟩) (fun _ _ => ⟨_, rfl, k1⟩)
  have f2 := forX_at (tg := .tp [(.n 1), (.n 2)]) (body := b_look_1) (bx := bx_look_1) (enc := fun (p : Off × Nat) => O.t [oi (p.2 : Nat), .v p.1.d]) (E := fun (_ : Unit) => [.own (.v (shopD sh)), .no, .no, .no]) pre (o, j) post () (fun _ _ => True) [] trivial
    (fun _ y _ _ hy => by
      have := look_good sh hb y.2 y.1 (zipIdx_get (hmem y hy)) (by simpa using hp y hy)
      exact ⟨_, (), rfl, this.2, this.1, trivial⟩) (fun _ _ => ⟨_, rfl, k2⟩)
  rw [← e] at f1 f2
  constructor
  · simp [un_look, m_look, enu_shop, f1]
  · simp [ux_look, x_look, bn_eq, enu_shop, f2]
end Dn

set_option Elab.async false
set_option linter.all false
set_option maxRecDepth 100000
set_option maxHeartbeats 4000000
namespace Dn
open PySem L2
theorem copied_any (sh : List Off) (hb : Bnd sh) : sem__law_copied [.v (shopD sh)] = some (.l (sh.map offO), []) := by
  obtain ⟨acc, h, hI⟩ := for_inv (tg := .n 2) (body := b__law_copied_1) (enc := fun (o : Off) => O.v o.d) (E := fun (acc : List Off) => [.own (.v (shopD sh)), .own (.l (acc.map offO)), .no])
    (fun pre acc => acc = pre) (all := sh) sh [] [] rfl rfl (by
    intro pre o post acc hall hacc
    subst hacc
    have hm : o ∈ sh := by rw [hall]; simp
    exact ⟨acc ++ [o], _, rfl, copied_turn acc _ o (by have h1 := congrArg List.length hall; have h2 := hb.len; simp at h1; omega) (hb.c o hm) (hb.ts o hm), rfl⟩)
  subst hI
  simp only [List.map_nil] at h
  simp [un__law_copied, m__law_copied, h]
theorem fNe_kp (o : Off) : fNe [.str o.kd, .str "pack"] = some (.bool (!o.isPack)) := by
  have h := (fEq_str _ _ (kd_ok o) ok_pack)
  have h2 : fNe [.str o.kd, .str "pack"] = some (.bool (!decide (o.kd = "pack"))) := by
    simp [fNe_ap, kd_ok o, ok_pack, PyData.eqv]; rfl
  rw [h2]
  have h3 := fEq_kp o
  rw [h] at h3
  simp only [Option.some.injEq, PyData.bool.injEq] at h3
  rw [h3]
theorem due_good (sh : List Off) (hb : Bnd sh) (i : Nat) (o : Off) (hi : sh[i]? = some o) (hg : goodAt sh i o = true) : b__law_due_a257_1 [.own (.v (shopD sh)), .own (oi (i : Int)), .no] = some (.nx [.own (.v (shopD sh)), .no, .no]) := by
  have hat : atI sh (i : Int) = some o := atI_nat rfl hi
  cases o with
  | pack c p => simp [b__law_due_a257_1, hat]
  | many c ts =>
    have h1 := tiersG_any ts (hb.ts _ (List.mem_of_getElem? hi) c ts rfl)
    rw [show tgood ts = true from hg] at h1
    simp [b__law_due_a257_1, hat, h1]
  | add c p k =>
    simp only [goodAt, Bool.and_eq_true, decide_eq_true_eq] at hg
    obtain ⟨h0, h1, h2⟩ := hg
    unfold packAt at h2
    cases hk : sh[k.toNat]? with
    | none => rw [hk] at h2; cases h2
    | some o' =>
      rw [hk] at h2
      have ha : atI sh k = some o' := atI_nat (j := k.toNat) (by omega) hk
      have h2' : o'.isPack = true := h2
      have h3 := fNe_kp o'
      rw [h2'] at h3
      have q0 : ¬ k < 0 := by omega
      have q1 : ¬ (i : Int) ≤ k := by omega
      simp [b__law_due_a257_1, hat, q0, q1, ha, h3]
theorem due_bad (sh : List Off) (hb : Bnd sh) (i : Nat) (o : Off) (hi : sh[i]? = some o) (hg : goodAt sh i o = false) : ∃ a b c, b__law_due_a257_1 [.own (.v (shopD sh)), .own (oi (i : Int)), .no] = some (.rt (oi (i : Int)) [a, b, c]) := by
  have hat : atI sh (i : Int) = some o := atI_nat rfl hi
  cases o with
  | pack c p => cases hg
  | many c ts =>
    have h1 := tiersG_any ts (hb.ts _ (List.mem_of_getElem? hi) c ts rfl)
    rw [show tgood ts = false from hg] at h1
    simp [b__law_due_a257_1, hat, h1]
  | add c p k =>
    by_cases h0 : 0 ≤ k
    · have q0 : ¬ k < 0 := by omega
      by_cases h1 : k < (i : Int)
      · have hkl : k.toNat < sh.length := by
          have := (List.getElem?_eq_some_iff.mp hi).1
          omega
        obtain ⟨o', hk⟩ : ∃ o', sh[k.toNat]? = some o' := ⟨_, List.getElem?_eq_getElem hkl⟩
        have ha : atI sh k = some o' := atI_nat (j := k.toNat) (by omega) hk
        have h2' : o'.isPack = false := by
          simp only [goodAt, decide_eq_true h0, decide_eq_true h1, Bool.true_and, packAt, hk] at hg
          exact hg
        have h3 := fNe_kp o'
        rw [h2'] at h3
        have q1 : ¬ (i : Int) ≤ k := by omega
        simp [b__law_due_a257_1, hat, q0, q1, ha, h3]
      · have q1 : (i : Int) ≤ k := by omega
        simp [b__law_due_a257_1, hat, q0, q1]
    · have q0 : k < 0 := by omega
      simp [b__law_due_a257_1, hat, q0]
def dueD : Option Nat → PyData
  | none => .none
  | some i => .int (i : Int)
theorem dueA_ok (sh : List Off) (hb : Bnd sh) : sem__law_due_a257 [.v (shopD sh)] = some (.v (dueD (firstBad sh)), []) := by
  have hbl := hb.len
  have b1 : -4611686018427387904 ≤ (sh.length : Int) := by omega
  have b2 : (sh.length : Int) < 4611686018427387904 := by omega
  have b3 : sh.length ≤ 16777216 := by omega
  have hz : (sh.zipIdx 0).map (fun (p : Off × Nat) => O.v (.int (p.2 : Int))) = (List.range sh.length).map fun (k : Nat) => O.v (.int (k : Int)) := by
    have e : (sh.zipIdx 0).map (·.2) = List.range sh.length := by rw [List.zipIdx_map_snd, List.range_eq_range']
    rw [← e, List.map_map]
    rfl
  cases h : firstBad sh with
  | none =>
    have hn : ∀ p ∈ sh.zipIdx 0, goodAt sh p.2 p.1 = true := by
      unfold firstBad at h
      rw [Option.map_eq_none_iff, List.find?_eq_none] at h
      intro p hp
      simpa using h p hp
    have h := (for_fold (tg := .n 1) (body := b__law_due_a257_1) (enc := fun (p : Off × Nat) => oi (p.2 : Int)) (E := fun (_ : Unit) => [.own (.v (shopD sh)), .no, .no]) (step := fun _ _ => ()) (I := fun _ => True) (sh.zipIdx 0) () trivial (by
      intro ⟨o, i⟩ hp _ _
      exact ⟨trivial, _, rfl, due_good sh hb i o (zipIdx_get hp) (hn _ hp)⟩)).1
    rw [hz] at h
    simp [un__law_due_a257, m__law_due_a257, b1, b2, b3, h, dueD]
  | some i =>
    unfold firstBad at h
    obtain ⟨⟨o, j⟩, hf, hj⟩ := Option.map_eq_some_iff.mp h
    have hj : j = i := hj
    subst hj
    obtain ⟨pre, post, e, hx, hp⟩ := find_split hf
    have hmem : ∀ y ∈ pre, y ∈ sh.zipIdx 0 := fun y hy => by rw [e]; exact List.mem_append_left _ hy
    have hget := zipIdx_get (show (o, j) ∈ sh.zipIdx 0 by rw [e]; simp)
    obtain ⟨a', b', c', k1⟩ := due_bad sh hb j o hget (by simpa using hx)
    have f1 := forL_ret (tg := .n 1) (body := b__law_due_a257_1) (enc := fun (p : Off × Nat) => oi (p.2 : Int)) (E := fun (_ : Unit) => [.own (.v (shopD sh)), .no, .no]) pre (o, j) post () (fun _ _ => True) [] trivial
      (fun _ y _ _ hy => ⟨_, (), rfl, due_good sh hb y.2 y.1 (zipIdx_get (hmem y hy)) (by simpa using hp y hy), trivial⟩) (fun _ _ => ⟨_, rfl, k1⟩)
    rw [← e, hz] at f1
    simp [un__law_due_a257, m__law_due_a257, b1, b2, b3, f1, dueD]
theorem only_ok (i : Nat) : sem__law_only_a92a [.ex ⟨"NoOffer", "place", (i : Int)⟩, oi (i : Int)] = some (.v (.bool true), []) := by
  have h1 : fIn [.bool true, .list [.bool false, .bool false, .bool false, .bool false]] = some (.bool false) := by
    have s2 : SeqAt.shaped (.list [.bool false, .bool false, .bool false, .bool false]) = true := by decide +kernel
    show (if SeqAt.shaped (.bool true) && SeqAt.shaped (.list [.bool false, .bool false, .bool false, .bool false]) then some (PyData.bool ([PyData.bool false, .bool false, .bool false, .bool false].any fun z => PyData.eqv z (.bool true))) else none) = _
    rw [s2]
    rfl
  have h2 := whole_ok (i : Int)
  have l0 : List.lookup ("NoOffer" : Str) [(("NoOffer" : Str), false)] = some false := by simp
  have l1 : List.lookup ("NoOffer" : Str) [(("NoOffer" : Str), true)] = some true := by simp
  simp [un__law_only_a92a, m__law_only_a92a, h1, h2, l0, l1]
theorem right_any (sh : List Off) (hb : Bnd sh) : sem__law_right_b9ca [.v (shopD sh)] = some (.v (.bool true), []) := by
  have h1 := dueA_ok sh hb
  have h2 := copied_any sh hb
  have ne2 : fNe [shopD sh, shopD sh] = some (.bool false) := fNe_same 4 (by decide) (by simp)
  cases hf : firstBad sh with
  | none =>
    have h3 := look_fine sh hb hf
    rw [hf] at h1
    simp [un__law_right_b9ca, m__law_right_b9ca, h1, h2, h3, ne2, dueD]
  | some i =>
    obtain ⟨h3, h4⟩ := look_raises sh hb i hf
    rw [hf] at h1
    have h5 := only_ok i
    simp [un__law_right_b9ca, m__law_right_b9ca, h1, h2, h3, h4, ne2, dueD, h5]
end Dn

set_option Elab.async false
set_option linter.all false
set_option maxRecDepth 100000
set_option maxHeartbeats 4000000
namespace Dn
open PySem L2
theorem badT_ok (ts : List (Int × Int)) (ds : List Int) (hl : ts.length ≤ 900) : ∃ (ts' : List (Int × Int)) (ds' : List Int), sem__law_bad_tiers [.v (.list (ts.map tierD)), .l (ds.map oi)] = some (.v (.list (ts'.map tierD)), [.l (ds'.map oi)]) ∧ ts'.length ≤ ts.length + 5 := by
  obtain ⟨n, d1, h1⟩ := pop_ok ds
  obtain ⟨u, s, p, hlast⟩ : ∃ (u : List (Int × Int)) (s p : Int), ((1, 1) : Int × Int) :: ts = u ++ [(s, p)] := by
    have hne : ((1, 1) : Int × Int) :: ts ≠ [] := by simp
    exact ⟨_, _, _, (List.dropLast_concat_getLast hne).symm⟩
  have hat : atI (PyData.tuple [.int 1, .int 1] :: ts.map tierD) (-1) = some (.tuple [.int s, .int p]) := by
    have e : PyData.tuple [.int 1, .int 1] :: ts.map tierD = (((1, 1) : Int × Int) :: ts).map tierD := rfl
    rw [e, hlast, List.map_append]
    exact atI_last _ _
  have hb1 : ts.length ≤ 16777215 := by omega
  have hb2 : ts.length + 1 ≤ 16777216 := by omega
  have hb3 : 1 + ts.length ≤ 16777216 := by omega
  obtain ⟨LL, hLL⟩ : ∃ LL : List (List (Int × Int)), LL = [[(0, p)], [(2, p)], ts ++ [(s, p)], ts ++ [(s - 1, p)], [], ts ++ [(13, p)], [(1, 1), (2, 2), (3, 3), (4, 4), (5, 5)], [(-1, 1), (1, 1)], [(1, 0), (100000000000000000000, 0)]] := ⟨_, rfl⟩
  obtain ⟨x, hx, hx2⟩ := atI_in LL (i := n % 9) (by omega) (by rw [hLL]; simp; omega)
  have hm := List.mem_of_getElem? hx2
  have hxD : atI (LL.map fun l => PyData.list (l.map tierD)) (n % 9) = some (.list (x.map tierD)) := by rw [atI_map, hx]; rfl
  have hLD : (LL.map fun l => PyData.list (l.map tierD)) = [.list [.tuple [.int 0, .int p]], .list [.tuple [.int 2, .int p]], .list (ts.map tierD ++ [.tuple [.int s, .int p]]), .list (ts.map tierD ++ [.tuple [.int (s - 1), .int p]]), .list [], .list (ts.map tierD ++ [.tuple [.int 13, .int p]]), .list [.tuple [.int 1, .int 1], .tuple [.int 2, .int 2], .tuple [.int 3, .int 3], .tuple [.int 4, .int 4], .tuple [.int 5, .int 5]], .list [.tuple [.int (-1), .int 1], .tuple [.int 1, .int 1]], .list [.tuple [.int 1, .int 0], .tuple [.int 100000000000000000000, .int 0]]] := by
    rw [hLL]
    simp [tierD]
  rw [hLD] at hxD
  have hxO := congrArg (Option.map O.v) hxD
  rw [← atI_map] at hxO
  simp only [List.map_cons, List.map_nil, Option.map_some] at hxO
  refine ⟨x, d1, ?_, ?_⟩
  · have htl : (ts.map tierD).length = ts.length := List.length_map ..
    rw [← htl] at hb1 hb2 hb3
    generalize ts.map tierD = TD at *
    simp [un__law_bad_tiers, m__law_bad_tiers, h1, hat, hb1, hb2, hb3, hxO]
  · rw [hLL] at hm
    simp only [List.mem_cons, List.not_mem_nil, or_false] at hm
    rcases hm with rfl | rfl | rfl | rfl | rfl | rfl | rfl | rfl | rfl <;> simp
structure BndN (n : Nat) (sh : List Off) : Prop where
  len : sh.length ≤ 50
  c : ∀ o ∈ sh, o.c.length ≤ 1000
  ts : ∀ o ∈ sh, ∀ c ts, o = .many c ts → ts.length ≤ n
theorem BndN.bnd {n : Nat} {sh : List Off} (h : BndN n sh) (hn : n ≤ 1000) : Bnd sh := ⟨h.len, h.c, fun o ho c ts e => Nat.le_trans (h.ts o ho c ts e) hn⟩
theorem BndN.set {n k : Nat} {sh : List Off} (h : BndN n sh) {o : Off} (hc : o.c.length ≤ 1000) (ht : ∀ c ts, o = .many c ts → ts.length ≤ n + 5) : BndN (n + 5) (sh.set k o) := by
  refine ⟨by rw [List.length_set]; exact h.len, fun x hx => ?_, fun x hx c ts e => ?_⟩
  · rcases List.mem_or_eq_of_mem_set hx with hx | rfl
    · exact h.c x hx
    · exact hc
  · rcases List.mem_or_eq_of_mem_set hx with hx | rfl
    · exact Nat.le_trans (h.ts x hx c ts e) (by omega)
    · exact ht c ts e
theorem bent_ok (n : Nat) (hn : n ≤ 900) (sh : List Off) (hb : BndN n sh) (ds : List Int) : ∃ (x : O) (sh' : List Off) (ds' : List Int), sem__law_bent_4d22 [.v (shopD sh), .l (ds.map oi)] = some (x, [.l (ds'.map oi)]) ∧ x.toD = some (shopD sh') ∧ BndN (n + 5) sh' := by
  have hcp := copied_any sh (hb.bnd (by omega))
  obtain ⟨a, d1, h1⟩ := pop_ok ds
  have hlen := hb.len
  by_cases h0 : sh = []
  · subst h0
    have feq : fEq [.list [], .list []] = some (.bool true) := by
      have := fEq_nil []
      simpa using this
    have : ∃ y : Int, atI [oi 0, oi (-1), oi 5] (a % 3) = some (oi y) := by
      rcases (show a % 3 = 0 ∨ a % 3 = 1 ∨ a % 3 = 2 by omega) with h | h | h <;> rw [h]
      · exact ⟨0, by simp⟩
      · exact ⟨-1, by simp⟩
      · exact ⟨5, by simp⟩
    obtain ⟨y, hy⟩ := this
    refine ⟨.l [.t [.v (.str "add"), .l [oi 1], oi 1, oi y]], [.add [1] 1 y], d1, ?_, by simp [Off.d], ⟨by simp, fun o ho => ?_, fun o ho c ts e => ?_⟩⟩
    · simp only [List.map_nil] at hcp
      simp [un__law_bent_4d22, m__law_bent_4d22, hcp, feq, h1, hy, Off.d]
    · simp at ho; subst ho; simp [Off.c]
    · simp at ho; subst ho; cases e
  · have hpos : 0 < sh.length := List.length_pos_iff.mpr h0
    have hr : 0 ≤ a % (sh.length : Int) ∧ a % (sh.length : Int) < sh.length := ⟨Int.emod_nonneg _ (by omega), Int.emod_lt_of_pos _ (by omega)⟩
    obtain ⟨at', hat⟩ : ∃ k : Nat, a % (sh.length : Int) = (k : Int) := ⟨(a % (sh.length : Int)).toNat, by omega⟩
    have hatl : at' < sh.length := by omega
    obtain ⟨o, ho⟩ : ∃ o, sh[at']? = some o := ⟨_, List.getElem?_eq_getElem hatl⟩
    have hat1 : atI sh (at' : Int) = some o := atI_nat rfl ho
    have hom := List.mem_of_getElem? ho
    have hmod : fMod [.int a, .int (sh.length : Int)] = some (.int (at' : Int)) := by rw [fMod_s (by omega), hat]
    have feq : fEq [.list (sh.map Off.d), .list []] = some (.bool false) := by
      have n1 : nb (.list (sh.map Off.d)) 4 = true := by simp
      obtain ⟨b1, b2⟩ := nb_shape 4 _ n1
      have s1 : SeqAt.shaped (.list (sh.map Off.d)) = true := by rw [shaped_eq, b1, decide_eq_true (Nat.le_trans b2 (by decide))]; rfl
      rw [fEq_ap, s1]
      cases sh with
      | nil => exact absurd rfl h0
      | cons x r => rfl
    have hix : ixN sh.length (at' : Int) = some at' := by
      have := ixN_in (n := sh.length) (i := (at' : Int)) (by omega) (by omega)
      simpa using this
    have hb1 : sh.length ≤ 16777216 := by omega
    have htd : ∀ sh' : List Off, O.toD (.l (sh'.map offO)) = some (shopD sh') := fun sh' => by
      have : O.toDs (sh'.map offO) = some (sh'.map Off.d) := toDs_mapv _ _
      simp
    have hset : ∀ o' : Off, (sh.map offO).set at' (.v o'.d) = (sh.set at' o').map offO := fun o' => by rw [List.map_set]
    have others : ∀ o : Off, atI sh (at' : Int) = some o → o.isMany = false → ∃ (y : Int) (d2 : List Int), ∀ (c : List Int) (p : Int), ixO [.v o.d, .v (.int 1)] = some (.list (c.map .int)) → ixO [.v o.d, .v (.int 2)] = some (.int p) →
        sem__law_bent_4d22 [.v (shopD sh), .l (ds.map oi)] = some (.l ((sh.map offO).set at' (.v (.tuple [.str "add", .list (c.map .int), .int p, .int y]))), [.l (d2.map oi)]) := fun o hat1 hmany => by
      obtain ⟨b, d2, h2⟩ := pop_ok d1
      obtain ⟨FF, hFF⟩ : ∃ FF : List Nat, FF = (List.range at').filter fun k => match sh[k]? with | some o => !o.isPack | none => false := ⟨_, rfl⟩
      have hlc : ∀ e : En, e[2]? = some (.own (.l (sh.map offO))) → e[7]? = some .no → lcL (.n 7) ct__law_bent_4d22_1 ce__law_bent_4d22_1 [7] ((List.range at').map fun (k : Nat) => O.v (.int (k : Int))) e = some (FF.map (fun (k : Nat) => O.v (.int (k : Int))), e) := fun e h2 h7 => by
        rw [hFF]
        refine lc_filter1 h7 _ fun k hk e' g1 g2 => ?_
        simp at hk
        obtain ⟨o2, ho2⟩ : ∃ o2, sh[k]? = some o2 := ⟨_, List.getElem?_eq_getElem (by omega)⟩
        have ha2 : atI sh (k : Int) = some o2 := atI_nat rfl ho2
        have g3 := g2 2 (by decide)
        rw [h2] at g3
        have hf := fNe_kp o2
        refine ⟨?_, fun _ => by simp [ce__law_bent_4d22_1, g1]⟩
        simp [ct__law_bent_4d22_1, g1, g3, ha2, ho2, hf]
      have hFl : FF.length ≤ 50 := by
        rw [hFF]
        have := List.length_filter_le (fun k => match sh[k]? with | some o => !o.isPack | none => false) (List.range at')
        rw [List.length_range] at this
        omega
      obtain ⟨PL, hPL⟩ : ∃ PL : List Int, PL = [-1, (at' : Int), (at' : Int) + 1, (sh.length : Int), -(sh.length : Int), 100000000000000000000] ++ FF.map fun (k : Nat) => (k : Int) := ⟨_, rfl⟩
      have hPl : PL.length = 6 + FF.length := by rw [hPL]; simp; omega
      obtain ⟨y, hy, -⟩ := atI_in PL (i := b % (PL.length : Int)) (Int.emod_nonneg _ (by omega)) (Int.emod_lt_of_pos _ (by omega))
      have hPO : PyData.int (-1) :: .int (at' : Int) :: .int ((at' : Int) + 1) :: .int (sh.length : Int) :: .int (-(sh.length : Int)) :: .int 100000000000000000000 :: FF.map (fun (k : Nat) => PyData.int (k : Int)) = PL.map .int := by rw [hPL]; simp
      have hmod2 : fMod [.int b, .int (PL.length : Int)] = some (.int (b % (PL.length : Int))) := fMod_s (by omega)
      have q1 : -18446744073709551616 < (at' : Int) := by omega
      have q2 : (at' : Int) < 18446744073709551616 := by omega
      have q3 : -4611686018427387904 ≤ (at' : Int) := by omega
      have q4 : (at' : Int) < 4611686018427387904 := by omega
      have q5 : at' ≤ 16777216 := by omega
      have q6 : 6 + FF.length ≤ 16777216 := by omega
      have q7 : PL.length ≤ 16777216 := by omega
      have hFo : O.toDs (FF.map fun (k : Nat) => O.v (.int (k : Int))) = some (FF.map fun (k : Nat) => PyData.int (k : Int)) := toDs_mapv _ _
      refine ⟨y, d2, fun c p e1 e2 => ?_⟩
      have hFL : (FF.map fun (k : Nat) => PyData.int (k : Int)).length = FF.length := List.length_map ..
      generalize (FF.map fun (k : Nat) => PyData.int (k : Int)) = FD at *
      generalize (FF.map fun (k : Nat) => O.v (.int (k : Int))) = FO at *
      simp [un__law_bent_4d22, m__law_bent_4d22, hcp, feq, h1, hmod, hat1, hmany, e1, e2, hix, hb1, hlc, hFo, h2, hPO, hy, hmod2, q1, q2, q3, q4, q5, q6, q7, hFL]
    cases o with
    | many c ts =>
      obtain ⟨ts', d2, h2, hl2⟩ := badT_ok ts d1 (Nat.le_trans (hb.ts _ hom c ts rfl) hn)
      refine ⟨_, sh.set at' (.many c ts'), d2, ?_, htd _, hb.set (show c.length ≤ 1000 from hb.c _ hom) fun c' ts2 e => ?_⟩
      · have hs := hset (.many c ts')
        have e1 : O.v (Off.many c ts').d = O.v (.tuple [.str "many", .list (c.map .int), .list (ts'.map tierD)]) := rfl
        have q1 : ixO [.v (Off.many c ts).d, .v (.int 1)] = some (.list (c.map .int)) := ixO_d1 _
        rw [← hs, e1]
        simp [un__law_bent_4d22, m__law_bent_4d22, hcp, feq, h1, hmod, hat1, h2, hix, hb1, q1]
      · cases e
        have := hb.ts _ hom c ts rfl
        omega
    | pack c p =>
      obtain ⟨y, d2, h2⟩ := others (.pack c p) hat1 rfl
      refine ⟨_, sh.set at' (.add c p y), d2, ?_, htd _, hb.set (show c.length ≤ 1000 from hb.c _ hom) fun c' ts2 e => by cases e⟩
      have hs := hset (.add c p y)
      have e1 : O.v (Off.add c p y).d = O.v (.tuple [.str "add", .list (c.map .int), .int p, .int y]) := rfl
      rw [← hs, e1]
      exact h2 c p (ixO_d1 _) (ixO_p2 c p)
    | add c p k =>
      obtain ⟨y, d2, h2⟩ := others (.add c p k) hat1 rfl
      refine ⟨_, sh.set at' (.add c p y), d2, ?_, htd _, hb.set (show c.length ≤ 1000 from hb.c _ hom) fun c' ts2 e => by cases e⟩
      have hs := hset (.add c p y)
      have e1 : O.v (Off.add c p y).d = O.v (.tuple [.str "add", .list (c.map .int), .int p, .int y]) := rfl
      rw [← hs, e1]
      exact h2 c p (ixO_d1 _) (ixO_a2 c p k)
end Dn

set_option Elab.async false
set_option linter.all false
set_option maxRecDepth 100000
set_option maxHeartbeats 4000000
namespace Dn
open PySem L2
/-! every door refuses -/
section
variable {S W T : PyData} {X : Exn} (h : xr_look [.v S] = some X)
include h
theorem xl_lines : xr_lines [.v S] = some X := by simp [ux_lines, x_lines, h]
theorem xl_content (d : PyData) : xr_line_content [.v S, .v d] = some X := by simp [ux_line_content, x_line_content, h]
theorem xl_price (d : PyData) : xr_line_price [.v S, .v d] = some X := by simp [ux_line_price, x_line_price, h]
theorem xl_bought (d : PyData) : xr_bought [.v S, .v d] = some X := by simp [ux_bought, x_bought, h]
theorem xl_spared : xr_spared [.v S] = some X := by simp [ux_spared, x_spared, h]
theorem xl_thinned : xr_thinned [.v S] = some X := by simp [ux_thinned, x_thinned, h]
theorem xl_goods : xr_goods [.v S] = some X := by simp [ux_goods, x_goods, xl_lines h]
theorem xl_reckoned (d : PyData) : xr_reckoned [.v S, .v d] = some X := by simp [ux_reckoned, x_reckoned, xl_goods h]
theorem xl_least (d : PyData) : xr_least [.v S, .v d] = some X := by simp [ux_least, x_least, xl_reckoned h]
theorem xl_cases (d : PyData) : xr_cases [.v S, .v d] = some X := by simp [ux_cases, x_cases, xl_reckoned h]
theorem xl_shows (d e : PyData) : xr_shows [.v S, .v d, .v e] = some X := by simp [ux_shows, x_shows, xl_goods h]
theorem xl_fair (d : PyData) : xr_fair [.v S, .v d] = some X := by simp [ux_fair, x_fair, xl_goods h]
theorem xl_single (d : PyData) : xr_single_prices [.v S, .v d] = some X := by simp [ux_single_prices, x_single_prices, xl_goods h]
theorem xl_hold (d e : PyData) : xr_hold_together [.v S, .v d, .v e] = some X := by simp [ux_hold_together, x_hold_together, xl_goods h]
theorem xl_moves (d e : PyData) : xr_moves [.v S, .v d, .v e] = some X := by simp [ux_moves, x_moves, h]
theorem xl_show (d : PyData) : xr_show_shop [.v d, .v S] = some X := by simp [ux_show_shop, x_show_shop, h]
theorem xl_first (k : Nat) (hk : k < 6) : xr__law_asked_first [oi (k : Int), .v S] = some X := by
  match k, hk with
  | 0, _ => simp [ux__law_asked_first, x__law_asked_first, xl_lines h]
  | 1, _ => simp [ux__law_asked_first, x__law_asked_first, xl_content h]
  | 2, _ => simp [ux__law_asked_first, x__law_asked_first, xl_price h]
  | 3, _ => simp [ux__law_asked_first, x__law_asked_first, xl_bought h]
  | 4, _ => simp [ux__law_asked_first, x__law_asked_first, xl_spared h]
  | 5, _ => simp [ux__law_asked_first, x__law_asked_first, xl_thinned h]
theorem xl_asked (w : List Int) (hw : w.length ≤ 4) (k : Nat) (hk : k < 14) : xr__law_asked_0a4b [oi (k : Int), .v S, .v (rowD w)] = some X := by
  have hlc : ∀ e : En, e[4]? = some .no → lcL (.n 4) mYes ce__law_asked_0a4b_1 [4] (w.map fun n => O.v (.int n)) e = some (w.map (fun _ => O.v (.tuple [.int 0, .int 1])), e) := fun e h4 => by
    refine lc_map1 h4 _ fun k hk e' g1 g2 => ?_
    simp [ce__law_asked_0a4b_1]
  have htd : O.toDs (w.map fun _ => O.v (.tuple [.int 0, .int 1])) = some (w.map fun _ => PyData.tuple [.int 0, .int 1]) := toDs_mapv _ _
  have hb : w.length ≤ 16777216 := by omega
  have hf := xl_first h
  have hcut : O.toDs (cutG [O.v (.str "a"), O.v (.str "b"), O.v (.str "c"), O.v (.str "d")] none (some (w.length : Int))) = some (((["a", "b", "c", "d"] : List Str).take w.length).map .str) := by
    rw [cutG_take]
    show O.toDs (((["a", "b", "c", "d"] : List Str).map fun x => O.v (.str x)).take w.length) = _
    rw [← List.map_take]
    exact toDs_mapv _ _
  generalize (w.map fun _ => PyData.tuple [.int 0, .int 1]) = ND at *
  match k, hk with
  | 0, _ => have := hf 0 (by decide); simp [ux__law_asked_0a4b, x__law_asked_0a4b, hlc, htd, hb] at this ⊢; simp [this]
  | 1, _ => have := hf 1 (by decide); simp [ux__law_asked_0a4b, x__law_asked_0a4b, hlc, htd, hb] at this ⊢; simp [this]
  | 2, _ => have := hf 2 (by decide); simp [ux__law_asked_0a4b, x__law_asked_0a4b, hlc, htd, hb] at this ⊢; simp [this]
  | 3, _ => have := hf 3 (by decide); simp [ux__law_asked_0a4b, x__law_asked_0a4b, hlc, htd, hb] at this ⊢; simp [this]
  | 4, _ => have := hf 4 (by decide); simp [ux__law_asked_0a4b, x__law_asked_0a4b, hlc, htd, hb] at this ⊢; simp [this]
  | 5, _ => have := hf 5 (by decide); simp [ux__law_asked_0a4b, x__law_asked_0a4b, hlc, htd, hb] at this ⊢; simp [this]
  | 6, _ => simp [ux__law_asked_0a4b, x__law_asked_0a4b, hlc, htd, hb, xl_least h]
  | 7, _ => simp [ux__law_asked_0a4b, x__law_asked_0a4b, hlc, htd, hb, xl_cases h]
  | 8, _ => simp [ux__law_asked_0a4b, x__law_asked_0a4b, hlc, htd, hb, xl_shows h]
  | 9, _ => simp [ux__law_asked_0a4b, x__law_asked_0a4b, hlc, htd, hb, xl_fair h]
  | 10, _ => simp [ux__law_asked_0a4b, x__law_asked_0a4b, hlc, htd, hb, xl_single h]
  | 11, _ => simp [ux__law_asked_0a4b, x__law_asked_0a4b, hlc, htd, hb, xl_hold h]
  | 12, _ => simp [ux__law_asked_0a4b, x__law_asked_0a4b, hlc, htd, hb, xl_moves h]
  | 13, _ => simp [ux__law_asked_0a4b, x__law_asked_0a4b, hlc, htd, hb, xl_show h, hcut]
end
theorem which_ok (i : Int) : sem__law_which [.ex ⟨"NoOffer", "place", i⟩] = some (.v (.str "offer"), []) := by
  have s2 : SeqAt.shaped (.list [.bool false, .bool true, .bool false, .bool false, .bool false]) = true := by decide +kernel
  have h1 : fCount [.list [.bool false, .bool true, .bool false, .bool false, .bool false], .bool true] = some (.int 1) := by
    show (if SeqAt.shaped (.list [.bool false, .bool true, .bool false, .bool false, .bool false]) && SeqAt.shaped (.bool true) then some (PyData.int (([PyData.bool false, .bool true, .bool false, .bool false, .bool false].countP fun z => PyData.eqv z (.bool true)) : Nat)) else none) = _
    rw [s2]
    rfl
  have h2 : fIndex [.list [.bool false, .bool true, .bool false, .bool false, .bool false], .bool true] = some (.int 1) := by
    show (if SeqAt.shaped (.list [.bool false, .bool true, .bool false, .bool false, .bool false]) && SeqAt.shaped (.bool true) then (match idxD (.bool true) [PyData.bool false, .bool true, .bool false, .bool false, .bool false] 0 with
      | some j => some (PyData.int (j : Nat))
      | none => none) else none) = _
    rw [s2]
    rfl
  have l1 : ∀ a b : Bool, List.lookup ("NoOffer" : Str) [(("NoOffer" : Str), a), (("NoText" : Str), b)] = some a := fun a b => by simp
  simp [un__law_which, m__law_which, h1, h2, l1]
theorem refused_ok {S : PyData} {i : Nat} (h : xr_look [.v S] = some ⟨"NoOffer", "place", (i : Int)⟩) (w : List Int) (hw : w.length ≤ 4) (k : Nat) (hk : k < 14) : sem__law_refused_a221 [oi (k : Int), .v S, .v (rowD w), oi (i : Int)] = some (.v (.bool true), []) := by
  have h1 := xl_asked h w hw k hk
  have h2 := which_ok (i : Int)
  have he : fEq [.str "offer", .str "offer"] = some (.bool true) := by
    have ok : PyData.strOk "offer" = true := by decide +kernel
    rw [fEq_str _ _ ok ok]
    simp
  generalize rowD w = WD at *
  simp [un__law_refused_a221, m__law_refused_a221, h1, h2, he]
theorem good_bndN {n : Nat} (hn : n ≤ 4) {sh : List Off} (hg : Good n sh) (hs : sh.length ≤ 8) : BndN 4 sh := by
  have key : ∀ o ∈ sh, ∃ i, GoodO n sh i o := fun o ho => by
    obtain ⟨i, hi, e⟩ := List.mem_iff_getElem.mp ho
    exact ⟨i, hg i o (by rw [List.getElem?_eq_getElem hi, e])⟩
  refine ⟨by omega, fun o ho => ?_, fun o ho c ts e => ?_⟩
  · obtain ⟨i, h⟩ := key o ho
    rw [h.w.len]; omega
  · obtain ⟨i, h⟩ := key o ho
    subst e
    exact h.kind.len.2
end Dn

set_option Elab.async false
set_option linter.all false
set_option maxRecDepth 100000
set_option maxHeartbeats 4000000
namespace K09
open PySem L2 Dn

def topS (i : Nat) : Stmt := PySem.Challenge.pw_packwants_k09_no_offer_at_every_door.main.body.getD i (.Pass ⟨0, 0, 0, 0⟩)
structure Bl (mg : Str → Option Value) : Prop where
  z_ValueError : mg "ValueError" = none
  z_all : mg "all" = none
  z_enumerate : mg "enumerate" = none
  z_isinstance : mg "isinstance" = none
  z_len : mg "len" = none
  z_max : mg "max" = none
  z_range : mg "range" = none
  z_str : mg "str" = none
  z_sum : mg "sum" = none
  g_MOST : ∃ t, mg "MOST" = some (.int 12 t)
  g_MOST_TIERS : ∃ t, mg "MOST_TIERS" = some (.int 4 t)
abbrev N__law_draws_e473 : List Str := ["_law_script", "_law_turn", "_law_many", "_law_cells", "_law_found", "_law_left", "_law_k", "_law_at", "_law_cell", "_law_place", "_law_number"]
theorem sc__law_draws_e473 : FnScope N__law_draws_e473 ["_law_script", "_law_turn", "_law_many"] (defScope (topS 66)) := ⟨rfl, rfl, rfl, by decide +kernel, rfl, by decide +kernel, by decide +kernel⟩
abbrev N__law_pop : List Str := ["_law_draws_here"]
theorem sc__law_pop : FnScope N__law_pop ["_law_draws_here"] (defScope (topS 67)) := ⟨rfl, rfl, rfl, by decide +kernel, rfl, by decide +kernel, by decide +kernel⟩
abbrev N__law_cases : List Str := ["_law_want_here", "_law_found", "_law_number"]
theorem sc__law_cases : FnScope N__law_cases ["_law_want_here"] (defScope (topS 69)) := ⟨rfl, rfl, rfl, by decide +kernel, rfl, by decide +kernel, by decide +kernel⟩
abbrev N__law_want_aecb : List Str := ["_law_draws_here", "_law_many", "_law_number", "_law_found", "_law_k"]
theorem sc__law_want_aecb : FnScope N__law_want_aecb ["_law_draws_here", "_law_many"] (defScope (topS 68)) := ⟨rfl, rfl, rfl, by decide +kernel, rfl, by decide +kernel, by decide +kernel⟩
abbrev N__law_content_9bc7 : List Str := ["_law_draws_here", "_law_many", "_law_found"]
theorem sc__law_content_9bc7 : FnScope N__law_content_9bc7 ["_law_draws_here", "_law_many"] (defScope (topS 70)) := ⟨rfl, rfl, rfl, by decide +kernel, rfl, by decide +kernel, by decide +kernel⟩
abbrev N__law_price_9bd3 : List Str := ["_law_draws_here", "_law_number"]
theorem sc__law_price_9bd3 : FnScope N__law_price_9bd3 ["_law_draws_here"] (defScope (topS 71)) := ⟨rfl, rfl, rfl, by decide +kernel, rfl, by decide +kernel, by decide +kernel⟩
abbrev N__law_tiers_278e : List Str := ["_law_draws_here", "_law_found", "_law_at", "_law_k", "_law_number"]
theorem sc__law_tiers_278e : FnScope N__law_tiers_278e ["_law_draws_here"] (defScope (topS 72)) := ⟨rfl, rfl, rfl, by decide +kernel, rfl, by decide +kernel, by decide +kernel⟩
abbrev N__law_shop_0742 : List Str := ["_law_draws_here", "_law_many", "_law_most", "_law_shop_here", "_law_k", "_law_number", "_law_packs", "_law_content_here", "_law_place"]
theorem sc__law_shop_0742 : FnScope N__law_shop_0742 ["_law_draws_here", "_law_many", "_law_most"] (defScope (topS 73)) := ⟨rfl, rfl, rfl, by decide +kernel, rfl, by decide +kernel, by decide +kernel⟩
abbrev N_tiers_right : List Str := ["tiers", "starts", "start", "price", "k"]
theorem sc_tiers_right : FnScope N_tiers_right ["tiers"] (defScope (topS 10)) := ⟨rfl, rfl, rfl, by decide +kernel, rfl, by decide +kernel, by decide +kernel⟩
abbrev N_look : List Str := ["shop", "place", "offer", "good"]
theorem sc_look : FnScope N_look ["shop"] (defScope (topS 11)) := ⟨rfl, rfl, rfl, by decide +kernel, rfl, by decide +kernel, by decide +kernel⟩
abbrev N__law_which : List Str := ["_law_e", "_law_some"]
theorem sc__law_which : FnScope N__law_which ["_law_e"] (defScope (topS 74)) := ⟨rfl, rfl, rfl, by decide +kernel, rfl, by decide +kernel, by decide +kernel⟩
abbrev N__law_refused_a221 : List Str := ["_law_way", "_law_shop_here", "_law_want_here", "_law_place", "_law_kept", "_law_e"]
theorem sc__law_refused_a221 : FnScope N__law_refused_a221 ["_law_way", "_law_shop_here", "_law_want_here", "_law_place"] (defScope (topS 77)) := ⟨rfl, rfl, rfl, by decide +kernel, rfl, by decide +kernel, by decide +kernel⟩
abbrev N_law_k09 : List Str := ["_law_script", "_law_draws_here", "_law_many", "_law_shop_here", "_law_want_here", "_law_at", "_law_content_here", "_law_number", "_law_odd", "_law_bad", "_law_k", "_law_spoilt", "_law_way"]
theorem sc_law_k09 : FnScope N_law_k09 ["_law_script"] (defScope (topS 78)) := ⟨rfl, rfl, rfl, by decide +kernel, rfl, by decide +kernel, by decide +kernel⟩
abbrev N_lines : List Str := ["shop", "found", "place", "offer", "adds", "count"]
theorem sc_lines : FnScope N_lines ["shop"] (defScope (topS 14)) := ⟨rfl, rfl, rfl, by decide +kernel, rfl, by decide +kernel, by decide +kernel⟩
abbrev N_line_content : List Str := ["shop", "line", "place", "count", "adds", "found", "number", "add"]
theorem sc_line_content : FnScope N_line_content ["shop", "line"] (defScope (topS 16)) := ⟨rfl, rfl, rfl, by decide +kernel, rfl, by decide +kernel, by decide +kernel⟩
abbrev N_line_price : List Str := ["shop", "line", "place", "count", "adds", "add"]
theorem sc_line_price : FnScope N_line_price ["shop", "line"] (defScope (topS 18)) := ⟨rfl, rfl, rfl, by decide +kernel, rfl, by decide +kernel, by decide +kernel⟩
abbrev N_bought : List Str := ["shop", "purchase", "content", "number", "price", "line"]
theorem sc_bought : FnScope N_bought ["shop", "purchase"] (defScope (topS 19)) := ⟨rfl, rfl, rfl, by decide +kernel, rfl, by decide +kernel, by decide +kernel⟩
abbrev N_spared : List Str := ["shop", "found", "place", "purchase"]
theorem sc_spared : FnScope N_spared ["shop"] (defScope (topS 54)) := ⟨rfl, rfl, rfl, by decide +kernel, rfl, by decide +kernel, by decide +kernel⟩
abbrev N_thinned : List Str := ["shop", "left", "places", "place"]
theorem sc_thinned : FnScope N_thinned ["shop"] (defScope (topS 55)) := ⟨rfl, rfl, rfl, by decide +kernel, rfl, by decide +kernel, by decide +kernel⟩
abbrev N__law_asked_first : List Str := ["_law_way", "_law_shop_here"]
theorem sc__law_asked_first : FnScope N__law_asked_first ["_law_way", "_law_shop_here"] (defScope (topS 75)) := ⟨rfl, rfl, rfl, by decide +kernel, rfl, by decide +kernel, by decide +kernel⟩
abbrev N_goods : List Str := ["shop", "line"]
theorem sc_goods : FnScope N_goods ["shop"] (defScope (topS 24)) := ⟨rfl, rfl, rfl, by decide +kernel, rfl, by decide +kernel, by decide +kernel⟩
abbrev N_reckoned : List Str := ["shop", "want", "all_goods", "found", "less"]
theorem sc_reckoned : FnScope N_reckoned ["shop", "want"] (defScope (topS 26)) := ⟨rfl, rfl, rfl, by decide +kernel, rfl, by decide +kernel, by decide +kernel⟩
abbrev N_least : List Str := ["shop", "want", "found", "told", "price", "purchase", "left"]
theorem sc_least : FnScope N_least ["shop", "want"] (defScope (topS 28)) := ⟨rfl, rfl, rfl, by decide +kernel, rfl, by decide +kernel, by decide +kernel⟩
abbrev N_cases : List Str := ["shop", "want", "found", "less"]
theorem sc_cases : FnScope N_cases ["shop", "want"] (defScope (topS 30)) := ⟨rfl, rfl, rfl, by decide +kernel, rfl, by decide +kernel, by decide +kernel⟩
abbrev N_shows : List Str := ["shop", "want", "table", "all_goods", "wants", "row", "numbers", "less", "number", "line", "content", "price"]
theorem sc_shows : FnScope N_shows ["shop", "want", "table"] (defScope (topS 32)) := ⟨rfl, rfl, rfl, by decide +kernel, rfl, by decide +kernel, by decide +kernel⟩
abbrev N_fair : List Str := ["shop", "prices"]
theorem sc_fair : FnScope N_fair ["shop", "prices"] (defScope (topS 40)) := ⟨rfl, rfl, rfl, by decide +kernel, rfl, by decide +kernel, by decide +kernel⟩
abbrev N_single_prices : List Str := ["shop", "want", "all_goods", "thing", "number", "climb", "prices", "at", "place", "shares", "k", "top", "line", "content", "price"]
theorem sc_single_prices : FnScope N_single_prices ["shop", "want"] (defScope (topS 43)) := ⟨rfl, rfl, rfl, by decide +kernel, rfl, by decide +kernel, by decide +kernel⟩
abbrev N_hold_together : List Str := ["shop", "want", "told", "all_goods", "value", "prices", "shares", "price", "here"]
theorem sc_hold_together : FnScope N_hold_together ["shop", "want", "told"] (defScope (topS 46)) := ⟨rfl, rfl, rfl, by decide +kernel, rfl, by decide +kernel, by decide +kernel⟩
abbrev N_moves : List Str := ["shop", "want", "place", "numbers", "start", "count", "one", "counts", "points", "bend"]
theorem sc_moves : FnScope N_moves ["shop", "want", "place"] (defScope (topS 59)) := ⟨rfl, rfl, rfl, by decide +kernel, rfl, by decide +kernel, by decide +kernel⟩
abbrev N_show_shop : List Str := ["names", "shop", "offer"]
theorem sc_show_shop : FnScope N_show_shop ["names", "shop"] (defScope (topS 64)) := ⟨rfl, rfl, rfl, by decide +kernel, rfl, by decide +kernel, by decide +kernel⟩
abbrev N__law_asked_0a4b : List Str := ["_law_way", "_law_shop_here", "_law_want_here", "_law_noughts", "_law_number"]
theorem sc__law_asked_0a4b : FnScope N__law_asked_0a4b ["_law_way", "_law_shop_here", "_law_want_here"] (defScope (topS 76)) := ⟨rfl, rfl, rfl, by decide +kernel, rfl, by decide +kernel, by decide +kernel⟩
theorem sci_NoOffer : FnScope ["self", "place"] ["self", "place"] (defScope (inCls (topS 2) 0)) := ⟨rfl, rfl, rfl, by decide +kernel, rfl, by decide +kernel, by decide +kernel⟩
section
variable {P : Program} {w : World} {K : PySem.W.Frag} {mg : Str → Option Value} {base : Heap}
theorem oki_NoOffer {f D : Addr} {fd : FuncData} (F : L2.Fun K "__init__" "NoOffer.__init__" (inCls (topS 2) 0) f fd) (hP : mg "PackError" = some (.ref D)) (r : ClX.CRead K D (.type "type")) (v : PySem.W.findCls K (.ref D) (.type "type") "__init__" = some (.val (.builtin "ValueError.__init__"))) (z : mg "str" = none) : FnOk P w K mg base CX0 1 f fd ["self", "place"] (spInit K "place") :=
  ok_init F sci_NoOffer fun cdv A outer s H E => pss_imp (pss_cons (ps_expr (pe_ownInit (by rfl) hP r v (pa_cons (pv 0) (pa_cons (pe_op op_add_str pe_str (pe_callTy call_str_int (by rfl) z bb_str (pa_cons (pv 1) pa_nil))) pa_nil)))) (pss_cons (ps_ost (pv 0) (pv 1)) pss_nil)) (init_imp (by decide +kernel))
structure TX_look (P : Program) (w : World) (K : PySem.W.Frag) (mg : Str → Option Value) (base : Heap) : Prop extends Bl mg where
  c_tiers_right : Cal P w K mg base 1 "tiers_right" ["tiers"] (spOf K (List.replicate 1 false) sem_tiers_right)
  e_NoOffer : ErrC P w K mg base 1 "NoOffer" "place"
structure TX_lines (P : Program) (w : World) (K : PySem.W.Frag) (mg : Str → Option Value) (base : Heap) : Prop extends Bl mg where
  x_look : CalX P w K mg base 3 "look" ["shop"] (spX K 1 xr_look)
structure TX_line_content (P : Program) (w : World) (K : PySem.W.Frag) (mg : Str → Option Value) (base : Heap) : Prop extends Bl mg where
  x_look : CalX P w K mg base 3 "look" ["shop"] (spX K 1 xr_look)
structure TX_line_price (P : Program) (w : World) (K : PySem.W.Frag) (mg : Str → Option Value) (base : Heap) : Prop extends Bl mg where
  x_look : CalX P w K mg base 3 "look" ["shop"] (spX K 1 xr_look)
structure TX_bought (P : Program) (w : World) (K : PySem.W.Frag) (mg : Str → Option Value) (base : Heap) : Prop extends Bl mg where
  x_look : CalX P w K mg base 3 "look" ["shop"] (spX K 1 xr_look)
structure TX_spared (P : Program) (w : World) (K : PySem.W.Frag) (mg : Str → Option Value) (base : Heap) : Prop extends Bl mg where
  x_look : CalX P w K mg base 3 "look" ["shop"] (spX K 1 xr_look)
structure TX_thinned (P : Program) (w : World) (K : PySem.W.Frag) (mg : Str → Option Value) (base : Heap) : Prop extends Bl mg where
  x_look : CalX P w K mg base 3 "look" ["shop"] (spX K 1 xr_look)
structure TX__law_asked_first (P : Program) (w : World) (K : PySem.W.Frag) (mg : Str → Option Value) (base : Heap) : Prop extends Bl mg where
  x_lines : CalX P w K mg base 4 "lines" ["shop"] (spX K 1 xr_lines)
  x_line_content : CalX P w K mg base 4 "line_content" ["shop", "line"] (spX K 2 xr_line_content)
  x_line_price : CalX P w K mg base 4 "line_price" ["shop", "line"] (spX K 2 xr_line_price)
  x_bought : CalX P w K mg base 4 "bought" ["shop", "purchase"] (spX K 2 xr_bought)
  x_spared : CalX P w K mg base 4 "spared" ["shop"] (spX K 1 xr_spared)
  x_thinned : CalX P w K mg base 4 "thinned" ["shop"] (spX K 1 xr_thinned)
structure TX_goods (P : Program) (w : World) (K : PySem.W.Frag) (mg : Str → Option Value) (base : Heap) : Prop extends Bl mg where
  x_lines : CalX P w K mg base 4 "lines" ["shop"] (spX K 1 xr_lines)
structure TX_reckoned (P : Program) (w : World) (K : PySem.W.Frag) (mg : Str → Option Value) (base : Heap) : Prop extends Bl mg where
  x_goods : CalX P w K mg base 5 "goods" ["shop"] (spX K 1 xr_goods)
structure TX_least (P : Program) (w : World) (K : PySem.W.Frag) (mg : Str → Option Value) (base : Heap) : Prop extends Bl mg where
  x_reckoned : CalX P w K mg base 6 "reckoned" ["shop", "want"] (spX K 2 xr_reckoned)
structure TX_cases (P : Program) (w : World) (K : PySem.W.Frag) (mg : Str → Option Value) (base : Heap) : Prop extends Bl mg where
  x_reckoned : CalX P w K mg base 6 "reckoned" ["shop", "want"] (spX K 2 xr_reckoned)
structure TX_shows (P : Program) (w : World) (K : PySem.W.Frag) (mg : Str → Option Value) (base : Heap) : Prop extends Bl mg where
  x_goods : CalX P w K mg base 5 "goods" ["shop"] (spX K 1 xr_goods)
structure TX_fair (P : Program) (w : World) (K : PySem.W.Frag) (mg : Str → Option Value) (base : Heap) : Prop extends Bl mg where
  x_goods : CalX P w K mg base 5 "goods" ["shop"] (spX K 1 xr_goods)
  n_are_fair : NmF K mg "are_fair"
structure TX_single_prices (P : Program) (w : World) (K : PySem.W.Frag) (mg : Str → Option Value) (base : Heap) : Prop extends Bl mg where
  x_goods : CalX P w K mg base 5 "goods" ["shop"] (spX K 1 xr_goods)
structure TX_hold_together (P : Program) (w : World) (K : PySem.W.Frag) (mg : Str → Option Value) (base : Heap) : Prop extends Bl mg where
  x_goods : CalX P w K mg base 5 "goods" ["shop"] (spX K 1 xr_goods)
structure TX_moves (P : Program) (w : World) (K : PySem.W.Frag) (mg : Str → Option Value) (base : Heap) : Prop extends Bl mg where
  x_look : CalX P w K mg base 3 "look" ["shop"] (spX K 1 xr_look)
structure TX_show_shop (P : Program) (w : World) (K : PySem.W.Frag) (mg : Str → Option Value) (base : Heap) : Prop extends Bl mg where
  x_look : CalX P w K mg base 3 "look" ["shop"] (spX K 1 xr_look)
structure TX__law_asked_0a4b (P : Program) (w : World) (K : PySem.W.Frag) (mg : Str → Option Value) (base : Heap) : Prop extends Bl mg where
  x__law_asked_first : CalX P w K mg base 5 "_law_asked_first" ["_law_way", "_law_shop_here"] (spX K 2 xr__law_asked_first)
  x_least : CalX P w K mg base 7 "least" ["shop", "want"] (spX K 2 xr_least)
  x_cases : CalX P w K mg base 7 "cases" ["shop", "want"] (spX K 2 xr_cases)
  x_shows : CalX P w K mg base 6 "shows" ["shop", "want", "table"] (spX K 3 xr_shows)
  x_fair : CalX P w K mg base 6 "fair" ["shop", "prices"] (spX K 2 xr_fair)
  x_single_prices : CalX P w K mg base 6 "single_prices" ["shop", "want"] (spX K 2 xr_single_prices)
  x_hold_together : CalX P w K mg base 6 "hold_together" ["shop", "want", "told"] (spX K 3 xr_hold_together)
  x_moves : CalX P w K mg base 4 "moves" ["shop", "want", "place"] (spX K 3 xr_moves)
  x_show_shop : CalX P w K mg base 4 "show_shop" ["names", "shop"] (spX K 2 xr_show_shop)
structure T__law_draws_e473 (P : Program) (w : World) (K : PySem.W.Frag) (mg : Str → Option Value) (base : Heap) : Prop extends Bl mg where
  tr_ : True
structure T__law_pop (P : Program) (w : World) (K : PySem.W.Frag) (mg : Str → Option Value) (base : Heap) : Prop extends Bl mg where
  tr_ : True
structure T__law_cases (P : Program) (w : World) (K : PySem.W.Frag) (mg : Str → Option Value) (base : Heap) : Prop extends Bl mg where
  tr_ : True
structure T__law_want_aecb (P : Program) (w : World) (K : PySem.W.Frag) (mg : Str → Option Value) (base : Heap) : Prop extends Bl mg where
  c__law_pop : Cal P w K mg base 1 "_law_pop" ["_law_draws_here"] (spOf K [true] sem__law_pop)
  c__law_cases : Cal P w K mg base 1 "_law_cases" ["_law_want_here"] (spOf K (List.replicate 1 false) sem__law_cases)
structure T__law_content_9bc7 (P : Program) (w : World) (K : PySem.W.Frag) (mg : Str → Option Value) (base : Heap) : Prop extends Bl mg where
  c__law_want : Cal P w K mg base 2 "_law_want" ["_law_draws_here", "_law_many"] (spOf K [true, false] sem__law_want_aecb)
  c__law_pop : Cal P w K mg base 1 "_law_pop" ["_law_draws_here"] (spOf K [true] sem__law_pop)
structure T__law_price_9bd3 (P : Program) (w : World) (K : PySem.W.Frag) (mg : Str → Option Value) (base : Heap) : Prop extends Bl mg where
  c__law_pop : Cal P w K mg base 1 "_law_pop" ["_law_draws_here"] (spOf K [true] sem__law_pop)
structure T__law_tiers_278e (P : Program) (w : World) (K : PySem.W.Frag) (mg : Str → Option Value) (base : Heap) : Prop extends Bl mg where
  c__law_pop : Cal P w K mg base 1 "_law_pop" ["_law_draws_here"] (spOf K [true] sem__law_pop)
  c__law_price : Cal P w K mg base 2 "_law_price" ["_law_draws_here"] (spOf K [true] sem__law_price_9bd3)
structure T__law_shop_0742 (P : Program) (w : World) (K : PySem.W.Frag) (mg : Str → Option Value) (base : Heap) : Prop extends Bl mg where
  c__law_pop : Cal P w K mg base 1 "_law_pop" ["_law_draws_here"] (spOf K [true] sem__law_pop)
  c__law_content : Cal P w K mg base 3 "_law_content" ["_law_draws_here", "_law_many"] (spOf K [true, false] sem__law_content_9bc7)
  c__law_price : Cal P w K mg base 2 "_law_price" ["_law_draws_here"] (spOf K [true] sem__law_price_9bd3)
  c__law_tiers : Cal P w K mg base 3 "_law_tiers" ["_law_draws_here"] (spOf K [true] sem__law_tiers_278e)
structure T_tiers_right (P : Program) (w : World) (K : PySem.W.Frag) (mg : Str → Option Value) (base : Heap) : Prop extends Bl mg where
  tr_ : True
structure T_look (P : Program) (w : World) (K : PySem.W.Frag) (mg : Str → Option Value) (base : Heap) : Prop extends Bl mg where
  c_tiers_right : Cal P w K mg base 1 "tiers_right" ["tiers"] (spOf K (List.replicate 1 false) sem_tiers_right)
structure T__law_which (P : Program) (w : World) (K : PySem.W.Frag) (mg : Str → Option Value) (base : Heap) : Prop extends Bl mg where
  i_NoText : IsO K mg "NoText" [("NoOffer", false), ("NoText", true)]
  i_NoPlace : IsO K mg "NoPlace" [("NoOffer", false), ("NoText", false)]
  i_NoOffer : IsO K mg "NoOffer" [("NoOffer", true), ("NoText", false)]
  i_NoLine : IsO K mg "NoLine" [("NoOffer", false), ("NoText", false)]
  i_NoThings : IsO K mg "NoThings" [("NoOffer", false), ("NoText", false)]
  i_PackError : IsO K mg "PackError" [("NoOffer", true), ("NoText", true)]
  i_ValueError : IsB K "ValueError" [("NoOffer", true), ("NoText", true)]
structure T__law_refused_a221 (P : Program) (w : World) (K : PySem.W.Frag) (mg : Str → Option Value) (base : Heap) : Prop extends Bl mg where
  c__law_which : Cal P w K mg base 1 "_law_which" ["_law_e"] (spOf K (List.replicate 1 false) sem__law_which)
  x__law_asked : CalX P w K mg base 8 "_law_asked" ["_law_way", "_law_shop_here", "_law_want_here"] (spX K 3 xr__law_asked_0a4b)
  t_PackError : TryC K mg "PackError" ["NoOffer"]
  f_place : FldC K "place" ["NoOffer"]
structure T_law_k09 (P : Program) (w : World) (K : PySem.W.Frag) (mg : Str → Option Value) (base : Heap) : Prop extends Bl mg where
  c__law_draws : Cal P w K mg base 1 "_law_draws" ["_law_script", "_law_turn", "_law_many"] (spOf K (List.replicate 3 false) sem__law_draws_e473)
  c__law_pop : Cal P w K mg base 1 "_law_pop" ["_law_draws_here"] (spOf K [true] sem__law_pop)
  c__law_shop : Cal P w K mg base 4 "_law_shop" ["_law_draws_here", "_law_many", "_law_most"] (spOf K [true, false, false] sem__law_shop_0742)
  c_look : Cal P w K mg base 2 "look" ["shop"] (spOf K (List.replicate 1 false) sem_look)
  c__law_want : Cal P w K mg base 2 "_law_want" ["_law_draws_here", "_law_many"] (spOf K [true, false] sem__law_want_aecb)
  c__law_content : Cal P w K mg base 3 "_law_content" ["_law_draws_here", "_law_many"] (spOf K [true, false] sem__law_content_9bc7)
  c__law_refused : Cal P w K mg base 9 "_law_refused" ["_law_way", "_law_shop_here", "_law_want_here", "_law_place"] (spOf K (List.replicate 4 false) sem__law_refused_a221)
theorem okx_look {f : Addr} {fd : FuncData} (F : L2.Fun K "look" "look" (topS 11) f fd) (T : TX_look P w K mg base) : FnG P w K mg base (L2.CX P w) 3 f fd ["shop"] (spX K 1 xr_look) :=
  okX F sc_look rfl fun cdv A outer s H E hr =>
    have tk : Takes (cxOf (L2.CX P w) P w K mg base N_look "look" (defScope (topS 11)) f cdv A outer s H E) (fun cls d _ H => E cls d H) := takes_of rfl rfl rfl rfl
    have po : PassesOwn (model P w) (cxOf (L2.CX P w) P w K mg base N_look "look" (defScope (topS 11)) f cdv A outer s H E).A (cxOf (L2.CX P w) P w K mg base N_look "look" (defScope (topS 11)) f cdv A outer s H E).env (cxOf (L2.CX P w) P w K mg base N_look "look" (defScope (topS 11)) f cdv A outer s H E).xe := passes_of rfl
    (xss_here (xs_for po rfl (di_enum (by rfl) T.z_enumerate (da_cons (d_var 0 (pv 0)) da_nil)) (dg_tup rfl (dgs_cons (dg_name (i := 1) sc_look.nd rfl (.inl rfl)) (dgs_cons (dg_name (i := 2) sc_look.nd rfl (.inl rfl)) dgs_nil))) (PSs.nox (dss_cons (ds_set (i := 3) sc_look.nd rfl (.inl rfl) d_bl) (dss_cons (ds_if (dt_cmp (op_eqD hr.units) sc_eq (d_ix (pv 2) d_int (fun _ _ => rfl) (ls_see (ls_cons ls_nil))) d_str (nomark _) (ls_cons (ls_cons ls_nil))) (dss_cons (ds_set (i := 3) sc_look.nd rfl (.inl rfl) (d_and (d_chain op_le op_lt sc_le sc_lt d_int (d_ix (pv 2) d_int (fun _ _ => rfl) (ls_see (ls_cons ls_nil))) (d_var 1 (pv 1)) (ls_cons (ls_cons ls_nil))) (d_one (d_cmp (op_eqD hr.units) sc_eq (d_ix (d_ix (pv 0) (d_ix (pv 2) d_int (fun _ _ => rfl) (ls_see (ls_cons ls_nil))) (fun _ _ => rfl) (ls_see (ls_cons ls_nil))) d_int (fun _ _ => rfl) (ls_cons (ls_cons ls_nil))) d_str (nomark _) (ls_cons (ls_cons ls_nil)))))) dss_nil) dss_nil) (dss_cons (ds_if (dt_cmp (op_eqD hr.units) sc_eq (d_ix (pv 2) d_int (fun _ _ => rfl) (ls_see (ls_cons ls_nil))) d_str (nomark _) (ls_cons (ls_cons ls_nil))) (dss_cons (ds_set (i := 3) sc_look.nd rfl (.inl rfl) (d_fz (c_callM T.c_tiers_right (hr.mono (by decide)) (by rfl) (n_cons n_nil) (da_cons (d_ix (pv 2) d_int (fun _ _ => rfl) (ls_see (ls_cons ls_nil))) da_nil)))) dss_nil) dss_nil) (dss_cons (ds_if (dt_not (dt_val (d_var 3 (pv 3)))) (dss_cons ds_never dss_nil) dss_nil) (dss_kill dss_nil)))))) (xss_then (ps_nox (ds_set (i := 3) sc_look.nd rfl (.inl rfl) d_bl)) (xss_then (ps_nox (ds_if (dt_cmp (op_eqD hr.units) sc_eq (d_ix (pv 2) d_int (fun _ _ => rfl) (ls_see (ls_cons ls_nil))) d_str (nomark _) (ls_cons (ls_cons ls_nil))) (dss_cons (ds_set (i := 3) sc_look.nd rfl (.inl rfl) (d_and (d_chain op_le op_lt sc_le sc_lt d_int (d_ix (pv 2) d_int (fun _ _ => rfl) (ls_see (ls_cons ls_nil))) (d_var 1 (pv 1)) (ls_cons (ls_cons ls_nil))) (d_one (d_cmp (op_eqD hr.units) sc_eq (d_ix (d_ix (pv 0) (d_ix (pv 2) d_int (fun _ _ => rfl) (ls_see (ls_cons ls_nil))) (fun _ _ => rfl) (ls_see (ls_cons ls_nil))) d_int (fun _ _ => rfl) (ls_cons (ls_cons ls_nil))) d_str (nomark _) (ls_cons (ls_cons ls_nil)))))) dss_nil) dss_nil)) (xss_then (ps_nox (ds_if (dt_cmp (op_eqD hr.units) sc_eq (d_ix (pv 2) d_int (fun _ _ => rfl) (ls_see (ls_cons ls_nil))) d_str (nomark _) (ls_cons (ls_cons ls_nil))) (dss_cons (ds_set (i := 3) sc_look.nd rfl (.inl rfl) (d_fz (c_callM T.c_tiers_right (hr.mono (by decide)) (by rfl) (n_cons n_nil) (da_cons (d_ix (pv 2) d_int (fun _ _ => rfl) (ls_see (ls_cons ls_nil))) da_nil)))) dss_nil) dss_nil)) (xss_here (xs_if (dt_not (dt_val (d_var 3 (pv 3)))) (xss_here (xs_raise rfl tk T.e_NoOffer (hr.mono (by decide)) (by rfl) (d_var 1 (pv 1)))) xss_no)))))))
theorem okx_lines {f : Addr} {fd : FuncData} (F : L2.Fun K "lines" "lines" (topS 14) f fd) (T : TX_lines P w K mg base) : FnG P w K mg base (L2.CX P w) 4 f fd ["shop"] (spX K 1 xr_lines) :=
  okX F sc_lines rfl fun cdv A outer s H E hr =>
    have tk : Takes (cxOf (L2.CX P w) P w K mg base N_lines "lines" (defScope (topS 14)) f cdv A outer s H E) (fun cls d _ H => E cls d H) := takes_of rfl rfl rfl rfl
    have po : PassesOwn (model P w) (cxOf (L2.CX P w) P w K mg base N_lines "lines" (defScope (topS 14)) f cdv A outer s H E).A (cxOf (L2.CX P w) P w K mg base N_lines "lines" (defScope (topS 14)) f cdv A outer s H E).env (cxOf (L2.CX P w) P w K mg base N_lines "lines" (defScope (topS 14)) f cdv A outer s H E).xe := passes_of rfl
    (xss_here (xs_expr (x_call T.x_look (hr.mono (by decide)) (by rfl) tk (n_cons n_nil) (da_cons (d_var 0 (pv 0)) da_nil))))
theorem okx_line_content {f : Addr} {fd : FuncData} (F : L2.Fun K "line_content" "line_content" (topS 16) f fd) (T : TX_line_content P w K mg base) : FnG P w K mg base (L2.CX P w) 4 f fd ["shop", "line"] (spX K 2 xr_line_content) :=
  okX F sc_line_content rfl fun cdv A outer s H E hr =>
    have tk : Takes (cxOf (L2.CX P w) P w K mg base N_line_content "line_content" (defScope (topS 16)) f cdv A outer s H E) (fun cls d _ H => E cls d H) := takes_of rfl rfl rfl rfl
    have po : PassesOwn (model P w) (cxOf (L2.CX P w) P w K mg base N_line_content "line_content" (defScope (topS 16)) f cdv A outer s H E).A (cxOf (L2.CX P w) P w K mg base N_line_content "line_content" (defScope (topS 16)) f cdv A outer s H E).env (cxOf (L2.CX P w) P w K mg base N_line_content "line_content" (defScope (topS 16)) f cdv A outer s H E).xe := passes_of rfl
    (xss_here (xs_expr (x_call T.x_look (hr.mono (by decide)) (by rfl) tk (n_cons n_nil) (da_cons (d_var 0 (pv 0)) da_nil))))
theorem okx_line_price {f : Addr} {fd : FuncData} (F : L2.Fun K "line_price" "line_price" (topS 18) f fd) (T : TX_line_price P w K mg base) : FnG P w K mg base (L2.CX P w) 4 f fd ["shop", "line"] (spX K 2 xr_line_price) :=
  okX F sc_line_price rfl fun cdv A outer s H E hr =>
    have tk : Takes (cxOf (L2.CX P w) P w K mg base N_line_price "line_price" (defScope (topS 18)) f cdv A outer s H E) (fun cls d _ H => E cls d H) := takes_of rfl rfl rfl rfl
    have po : PassesOwn (model P w) (cxOf (L2.CX P w) P w K mg base N_line_price "line_price" (defScope (topS 18)) f cdv A outer s H E).A (cxOf (L2.CX P w) P w K mg base N_line_price "line_price" (defScope (topS 18)) f cdv A outer s H E).env (cxOf (L2.CX P w) P w K mg base N_line_price "line_price" (defScope (topS 18)) f cdv A outer s H E).xe := passes_of rfl
    (xss_here (xs_expr (x_call T.x_look (hr.mono (by decide)) (by rfl) tk (n_cons n_nil) (da_cons (d_var 0 (pv 0)) da_nil))))
theorem okx_bought {f : Addr} {fd : FuncData} (F : L2.Fun K "bought" "bought" (topS 19) f fd) (T : TX_bought P w K mg base) : FnG P w K mg base (L2.CX P w) 4 f fd ["shop", "purchase"] (spX K 2 xr_bought) :=
  okX F sc_bought rfl fun cdv A outer s H E hr =>
    have tk : Takes (cxOf (L2.CX P w) P w K mg base N_bought "bought" (defScope (topS 19)) f cdv A outer s H E) (fun cls d _ H => E cls d H) := takes_of rfl rfl rfl rfl
    have po : PassesOwn (model P w) (cxOf (L2.CX P w) P w K mg base N_bought "bought" (defScope (topS 19)) f cdv A outer s H E).A (cxOf (L2.CX P w) P w K mg base N_bought "bought" (defScope (topS 19)) f cdv A outer s H E).env (cxOf (L2.CX P w) P w K mg base N_bought "bought" (defScope (topS 19)) f cdv A outer s H E).xe := passes_of rfl
    (xss_here (xs_expr (x_call T.x_look (hr.mono (by decide)) (by rfl) tk (n_cons n_nil) (da_cons (d_var 0 (pv 0)) da_nil))))
theorem okx_spared {f : Addr} {fd : FuncData} (F : L2.Fun K "spared" "spared" (topS 54) f fd) (T : TX_spared P w K mg base) : FnG P w K mg base (L2.CX P w) 4 f fd ["shop"] (spX K 1 xr_spared) :=
  okX F sc_spared rfl fun cdv A outer s H E hr =>
    have tk : Takes (cxOf (L2.CX P w) P w K mg base N_spared "spared" (defScope (topS 54)) f cdv A outer s H E) (fun cls d _ H => E cls d H) := takes_of rfl rfl rfl rfl
    have po : PassesOwn (model P w) (cxOf (L2.CX P w) P w K mg base N_spared "spared" (defScope (topS 54)) f cdv A outer s H E).A (cxOf (L2.CX P w) P w K mg base N_spared "spared" (defScope (topS 54)) f cdv A outer s H E).env (cxOf (L2.CX P w) P w K mg base N_spared "spared" (defScope (topS 54)) f cdv A outer s H E).xe := passes_of rfl
    (xss_here (xs_expr (x_call T.x_look (hr.mono (by decide)) (by rfl) tk (n_cons n_nil) (da_cons (d_var 0 (pv 0)) da_nil))))
theorem okx_thinned {f : Addr} {fd : FuncData} (F : L2.Fun K "thinned" "thinned" (topS 55) f fd) (T : TX_thinned P w K mg base) : FnG P w K mg base (L2.CX P w) 4 f fd ["shop"] (spX K 1 xr_thinned) :=
  okX F sc_thinned rfl fun cdv A outer s H E hr =>
    have tk : Takes (cxOf (L2.CX P w) P w K mg base N_thinned "thinned" (defScope (topS 55)) f cdv A outer s H E) (fun cls d _ H => E cls d H) := takes_of rfl rfl rfl rfl
    have po : PassesOwn (model P w) (cxOf (L2.CX P w) P w K mg base N_thinned "thinned" (defScope (topS 55)) f cdv A outer s H E).A (cxOf (L2.CX P w) P w K mg base N_thinned "thinned" (defScope (topS 55)) f cdv A outer s H E).env (cxOf (L2.CX P w) P w K mg base N_thinned "thinned" (defScope (topS 55)) f cdv A outer s H E).xe := passes_of rfl
    (xss_here (xs_expr (x_call T.x_look (hr.mono (by decide)) (by rfl) tk (n_cons n_nil) (da_cons (d_var 0 (pv 0)) da_nil))))
theorem okx__law_asked_first {f : Addr} {fd : FuncData} (F : L2.Fun K "_law_asked_first" "_law_asked_first" (topS 75) f fd) (T : TX__law_asked_first P w K mg base) : FnG P w K mg base (L2.CX P w) 5 f fd ["_law_way", "_law_shop_here"] (spX K 2 xr__law_asked_first) :=
  okX F sc__law_asked_first rfl fun cdv A outer s H E hr =>
    have tk : Takes (cxOf (L2.CX P w) P w K mg base N__law_asked_first "_law_asked_first" (defScope (topS 75)) f cdv A outer s H E) (fun cls d _ H => E cls d H) := takes_of rfl rfl rfl rfl
    have po : PassesOwn (model P w) (cxOf (L2.CX P w) P w K mg base N__law_asked_first "_law_asked_first" (defScope (topS 75)) f cdv A outer s H E).A (cxOf (L2.CX P w) P w K mg base N__law_asked_first "_law_asked_first" (defScope (topS 75)) f cdv A outer s H E).env (cxOf (L2.CX P w) P w K mg base N__law_asked_first "_law_asked_first" (defScope (topS 75)) f cdv A outer s H E).xe := passes_of rfl
    (xss_alt (xss_here (xs_if (dt_cmp (op_eqD hr.units) sc_eq (pv 0) d_int (nomark _) (ls_see (ls_cons ls_nil))) (xss_here (xs_ret (x_call T.x_lines (hr.mono (by decide)) (by rfl) tk (n_cons n_nil) (da_cons (d_var 1 (pv 1)) da_nil)))) xss_no)) (xss_then (ps_nox (ds_if (dt_cmp (op_eqD hr.units) sc_eq (pv 0) d_int (nomark _) (ls_see (ls_cons ls_nil))) dss_never dss_nil)) (xss_alt (xss_here (xs_if (dt_cmp (op_eqD hr.units) sc_eq (pv 0) d_int (nomark _) (ls_see (ls_cons ls_nil))) (xss_here (xs_ret (x_call T.x_line_content (hr.mono (by decide)) (by rfl) tk (n_cons (n_cons n_nil)) (da_cons (d_var 1 (pv 1)) (da_cons (d_fz (d_tup (da_cons d_int (da_cons d_int (da_cons (d_lst da_nil) da_nil))))) da_nil))))) xss_no)) (xss_then (ps_nox (ds_if (dt_cmp (op_eqD hr.units) sc_eq (pv 0) d_int (nomark _) (ls_see (ls_cons ls_nil))) dss_never dss_nil)) (xss_alt (xss_here (xs_if (dt_cmp (op_eqD hr.units) sc_eq (pv 0) d_int (nomark _) (ls_see (ls_cons ls_nil))) (xss_here (xs_ret (x_call T.x_line_price (hr.mono (by decide)) (by rfl) tk (n_cons (n_cons n_nil)) (da_cons (d_var 1 (pv 1)) (da_cons (d_fz (d_tup (da_cons d_int (da_cons d_int (da_cons (d_lst da_nil) da_nil))))) da_nil))))) xss_no)) (xss_then (ps_nox (ds_if (dt_cmp (op_eqD hr.units) sc_eq (pv 0) d_int (nomark _) (ls_see (ls_cons ls_nil))) dss_never dss_nil)) (xss_alt (xss_here (xs_if (dt_cmp (op_eqD hr.units) sc_eq (pv 0) d_int (nomark _) (ls_see (ls_cons ls_nil))) (xss_here (xs_ret (x_call T.x_bought (hr.mono (by decide)) (by rfl) tk (n_cons (n_cons n_nil)) (da_cons (d_var 1 (pv 1)) (da_cons (d_fz (d_lst da_nil)) da_nil))))) xss_no)) (xss_then (ps_nox (ds_if (dt_cmp (op_eqD hr.units) sc_eq (pv 0) d_int (nomark _) (ls_see (ls_cons ls_nil))) dss_never dss_nil)) (xss_alt (xss_here (xs_if (dt_cmp (op_eqD hr.units) sc_eq (pv 0) d_int (nomark _) (ls_see (ls_cons ls_nil))) (xss_here (xs_ret (x_call T.x_spared (hr.mono (by decide)) (by rfl) tk (n_cons n_nil) (da_cons (d_var 1 (pv 1)) da_nil)))) xss_no)) (xss_then (ps_nox (ds_if (dt_cmp (op_eqD hr.units) sc_eq (pv 0) d_int (nomark _) (ls_see (ls_cons ls_nil))) dss_never dss_nil)) (xss_here (xs_ret (x_call T.x_thinned (hr.mono (by decide)) (by rfl) tk (n_cons n_nil) (da_cons (d_var 1 (pv 1)) da_nil))))))))))))))
theorem okx_goods {f : Addr} {fd : FuncData} (F : L2.Fun K "goods" "goods" (topS 24) f fd) (T : TX_goods P w K mg base) : FnG P w K mg base (L2.CX P w) 5 f fd ["shop"] (spX K 1 xr_goods) :=
  okX F sc_goods rfl fun cdv A outer s H E hr =>
    have tk : Takes (cxOf (L2.CX P w) P w K mg base N_goods "goods" (defScope (topS 24)) f cdv A outer s H E) (fun cls d _ H => E cls d H) := takes_of rfl rfl rfl rfl
    have po : PassesOwn (model P w) (cxOf (L2.CX P w) P w K mg base N_goods "goods" (defScope (topS 24)) f cdv A outer s H E).A (cxOf (L2.CX P w) P w K mg base N_goods "goods" (defScope (topS 24)) f cdv A outer s H E).env (cxOf (L2.CX P w) P w K mg base N_goods "goods" (defScope (topS 24)) f cdv A outer s H E).xe := passes_of rfl
    (xss_here (xs_ret (x_lc (own := [("line", 1)]) rfl sc_goods.nd (xi_list (x_call T.x_lines (hr.mono (by decide)) (by rfl) tk (n_cons n_nil) (da_cons (d_var 0 (pv 0)) da_nil))) (blkOk_by (own := [("line", 1)]) (N := N_goods) (sc := defScope (topS 24)) (by decide +kernel)))))
theorem okx_reckoned {f : Addr} {fd : FuncData} (F : L2.Fun K "reckoned" "reckoned" (topS 26) f fd) (T : TX_reckoned P w K mg base) : FnG P w K mg base (L2.CX P w) 6 f fd ["shop", "want"] (spX K 2 xr_reckoned) :=
  okX F sc_reckoned rfl fun cdv A outer s H E hr =>
    have tk : Takes (cxOf (L2.CX P w) P w K mg base N_reckoned "reckoned" (defScope (topS 26)) f cdv A outer s H E) (fun cls d _ H => E cls d H) := takes_of rfl rfl rfl rfl
    have po : PassesOwn (model P w) (cxOf (L2.CX P w) P w K mg base N_reckoned "reckoned" (defScope (topS 26)) f cdv A outer s H E).A (cxOf (L2.CX P w) P w K mg base N_reckoned "reckoned" (defScope (topS 26)) f cdv A outer s H E).env (cxOf (L2.CX P w) P w K mg base N_reckoned "reckoned" (defScope (topS 26)) f cdv A outer s H E).xe := passes_of rfl
    (xss_here (xs_set (i := 2) sc_reckoned.nd rfl (.inl rfl) (x_call T.x_goods (hr.mono (by decide)) (by rfl) tk (n_cons n_nil) (da_cons (d_var 0 (pv 0)) da_nil))))
theorem okx_least {f : Addr} {fd : FuncData} (F : L2.Fun K "least" "least" (topS 28) f fd) (T : TX_least P w K mg base) : FnG P w K mg base (L2.CX P w) 7 f fd ["shop", "want"] (spX K 2 xr_least) :=
  okX F sc_least rfl fun cdv A outer s H E hr =>
    have tk : Takes (cxOf (L2.CX P w) P w K mg base N_least "least" (defScope (topS 28)) f cdv A outer s H E) (fun cls d _ H => E cls d H) := takes_of rfl rfl rfl rfl
    have po : PassesOwn (model P w) (cxOf (L2.CX P w) P w K mg base N_least "least" (defScope (topS 28)) f cdv A outer s H E).A (cxOf (L2.CX P w) P w K mg base N_least "least" (defScope (topS 28)) f cdv A outer s H E).env (cxOf (L2.CX P w) P w K mg base N_least "least" (defScope (topS 28)) f cdv A outer s H E).xe := passes_of rfl
    (xss_here (xs_set (i := 2) sc_least.nd rfl (.inl rfl) (x_call T.x_reckoned (hr.mono (by decide)) (by rfl) tk (n_cons (n_cons n_nil)) (da_cons (d_var 0 (pv 0)) (da_cons (d_var 1 (pv 1)) da_nil)))))
theorem okx_cases {f : Addr} {fd : FuncData} (F : L2.Fun K "cases" "cases" (topS 30) f fd) (T : TX_cases P w K mg base) : FnG P w K mg base (L2.CX P w) 7 f fd ["shop", "want"] (spX K 2 xr_cases) :=
  okX F sc_cases rfl fun cdv A outer s H E hr =>
    have tk : Takes (cxOf (L2.CX P w) P w K mg base N_cases "cases" (defScope (topS 30)) f cdv A outer s H E) (fun cls d _ H => E cls d H) := takes_of rfl rfl rfl rfl
    have po : PassesOwn (model P w) (cxOf (L2.CX P w) P w K mg base N_cases "cases" (defScope (topS 30)) f cdv A outer s H E).A (cxOf (L2.CX P w) P w K mg base N_cases "cases" (defScope (topS 30)) f cdv A outer s H E).env (cxOf (L2.CX P w) P w K mg base N_cases "cases" (defScope (topS 30)) f cdv A outer s H E).xe := passes_of rfl
    (xss_here (xs_set (i := 2) sc_cases.nd rfl (.inr rfl) (x_call T.x_reckoned (hr.mono (by decide)) (by rfl) tk (n_cons (n_cons n_nil)) (da_cons (d_var 0 (pv 0)) (da_cons (d_var 1 (pv 1)) da_nil)))))
theorem okx_shows {f : Addr} {fd : FuncData} (F : L2.Fun K "shows" "shows" (topS 32) f fd) (T : TX_shows P w K mg base) : FnG P w K mg base (L2.CX P w) 6 f fd ["shop", "want", "table"] (spX K 3 xr_shows) :=
  okX F sc_shows rfl fun cdv A outer s H E hr =>
    have tk : Takes (cxOf (L2.CX P w) P w K mg base N_shows "shows" (defScope (topS 32)) f cdv A outer s H E) (fun cls d _ H => E cls d H) := takes_of rfl rfl rfl rfl
    have po : PassesOwn (model P w) (cxOf (L2.CX P w) P w K mg base N_shows "shows" (defScope (topS 32)) f cdv A outer s H E).A (cxOf (L2.CX P w) P w K mg base N_shows "shows" (defScope (topS 32)) f cdv A outer s H E).env (cxOf (L2.CX P w) P w K mg base N_shows "shows" (defScope (topS 32)) f cdv A outer s H E).xe := passes_of rfl
    (xss_here (xs_set (i := 3) sc_shows.nd rfl (.inl rfl) (x_call T.x_goods (hr.mono (by decide)) (by rfl) tk (n_cons n_nil) (da_cons (d_var 0 (pv 0)) da_nil))))
theorem okx_fair {f : Addr} {fd : FuncData} (F : L2.Fun K "fair" "fair" (topS 40) f fd) (T : TX_fair P w K mg base) : FnG P w K mg base (L2.CX P w) 6 f fd ["shop", "prices"] (spX K 2 xr_fair) :=
  okX F sc_fair rfl fun cdv A outer s H E hr =>
    have tk : Takes (cxOf (L2.CX P w) P w K mg base N_fair "fair" (defScope (topS 40)) f cdv A outer s H E) (fun cls d _ H => E cls d H) := takes_of rfl rfl rfl rfl
    have po : PassesOwn (model P w) (cxOf (L2.CX P w) P w K mg base N_fair "fair" (defScope (topS 40)) f cdv A outer s H E).A (cxOf (L2.CX P w) P w K mg base N_fair "fair" (defScope (topS 40)) f cdv A outer s H E).env (cxOf (L2.CX P w) P w K mg base N_fair "fair" (defScope (topS 40)) f cdv A outer s H E).xe := passes_of rfl
    (xss_here (xs_ret (x_argN T.n_are_fair (by rfl) (x_call T.x_goods (hr.mono (by decide)) (by rfl) tk (n_cons n_nil) (da_cons (d_var 0 (pv 0)) da_nil)))))
theorem okx_single_prices {f : Addr} {fd : FuncData} (F : L2.Fun K "single_prices" "single_prices" (topS 43) f fd) (T : TX_single_prices P w K mg base) : FnG P w K mg base (L2.CX P w) 6 f fd ["shop", "want"] (spX K 2 xr_single_prices) :=
  okX F sc_single_prices rfl fun cdv A outer s H E hr =>
    have tk : Takes (cxOf (L2.CX P w) P w K mg base N_single_prices "single_prices" (defScope (topS 43)) f cdv A outer s H E) (fun cls d _ H => E cls d H) := takes_of rfl rfl rfl rfl
    have po : PassesOwn (model P w) (cxOf (L2.CX P w) P w K mg base N_single_prices "single_prices" (defScope (topS 43)) f cdv A outer s H E).A (cxOf (L2.CX P w) P w K mg base N_single_prices "single_prices" (defScope (topS 43)) f cdv A outer s H E).env (cxOf (L2.CX P w) P w K mg base N_single_prices "single_prices" (defScope (topS 43)) f cdv A outer s H E).xe := passes_of rfl
    (xss_here (xs_set (i := 2) sc_single_prices.nd rfl (.inr rfl) (x_call T.x_goods (hr.mono (by decide)) (by rfl) tk (n_cons n_nil) (da_cons (d_var 0 (pv 0)) da_nil))))
theorem okx_hold_together {f : Addr} {fd : FuncData} (F : L2.Fun K "hold_together" "hold_together" (topS 46) f fd) (T : TX_hold_together P w K mg base) : FnG P w K mg base (L2.CX P w) 6 f fd ["shop", "want", "told"] (spX K 3 xr_hold_together) :=
  okX F sc_hold_together rfl fun cdv A outer s H E hr =>
    have tk : Takes (cxOf (L2.CX P w) P w K mg base N_hold_together "hold_together" (defScope (topS 46)) f cdv A outer s H E) (fun cls d _ H => E cls d H) := takes_of rfl rfl rfl rfl
    have po : PassesOwn (model P w) (cxOf (L2.CX P w) P w K mg base N_hold_together "hold_together" (defScope (topS 46)) f cdv A outer s H E).A (cxOf (L2.CX P w) P w K mg base N_hold_together "hold_together" (defScope (topS 46)) f cdv A outer s H E).env (cxOf (L2.CX P w) P w K mg base N_hold_together "hold_together" (defScope (topS 46)) f cdv A outer s H E).xe := passes_of rfl
    (xss_here (xs_set (i := 3) sc_hold_together.nd rfl (.inl rfl) (x_call T.x_goods (hr.mono (by decide)) (by rfl) tk (n_cons n_nil) (da_cons (d_var 0 (pv 0)) da_nil))))
theorem okx_moves {f : Addr} {fd : FuncData} (F : L2.Fun K "moves" "moves" (topS 59) f fd) (T : TX_moves P w K mg base) : FnG P w K mg base (L2.CX P w) 4 f fd ["shop", "want", "place"] (spX K 3 xr_moves) :=
  okX F sc_moves rfl fun cdv A outer s H E hr =>
    have tk : Takes (cxOf (L2.CX P w) P w K mg base N_moves "moves" (defScope (topS 59)) f cdv A outer s H E) (fun cls d _ H => E cls d H) := takes_of rfl rfl rfl rfl
    have po : PassesOwn (model P w) (cxOf (L2.CX P w) P w K mg base N_moves "moves" (defScope (topS 59)) f cdv A outer s H E).A (cxOf (L2.CX P w) P w K mg base N_moves "moves" (defScope (topS 59)) f cdv A outer s H E).env (cxOf (L2.CX P w) P w K mg base N_moves "moves" (defScope (topS 59)) f cdv A outer s H E).xe := passes_of rfl
    (xss_here (xs_expr (x_call T.x_look (hr.mono (by decide)) (by rfl) tk (n_cons n_nil) (da_cons (d_var 0 (pv 0)) da_nil))))
theorem okx_show_shop {f : Addr} {fd : FuncData} (F : L2.Fun K "show_shop" "show_shop" (topS 64) f fd) (T : TX_show_shop P w K mg base) : FnG P w K mg base (L2.CX P w) 4 f fd ["names", "shop"] (spX K 2 xr_show_shop) :=
  okX F sc_show_shop rfl fun cdv A outer s H E hr =>
    have tk : Takes (cxOf (L2.CX P w) P w K mg base N_show_shop "show_shop" (defScope (topS 64)) f cdv A outer s H E) (fun cls d _ H => E cls d H) := takes_of rfl rfl rfl rfl
    have po : PassesOwn (model P w) (cxOf (L2.CX P w) P w K mg base N_show_shop "show_shop" (defScope (topS 64)) f cdv A outer s H E).A (cxOf (L2.CX P w) P w K mg base N_show_shop "show_shop" (defScope (topS 64)) f cdv A outer s H E).env (cxOf (L2.CX P w) P w K mg base N_show_shop "show_shop" (defScope (topS 64)) f cdv A outer s H E).xe := passes_of rfl
    (xss_here (xs_expr (x_call T.x_look (hr.mono (by decide)) (by rfl) tk (n_cons n_nil) (da_cons (d_var 1 (pv 1)) da_nil))))
theorem okx__law_asked_0a4b {f : Addr} {fd : FuncData} (F : L2.Fun K "_law_asked" "_law_asked" (topS 76) f fd) (T : TX__law_asked_0a4b P w K mg base) : FnG P w K mg base (L2.CX P w) 8 f fd ["_law_way", "_law_shop_here", "_law_want_here"] (spX K 3 xr__law_asked_0a4b) :=
  okX F sc__law_asked_0a4b rfl fun cdv A outer s H E hr =>
    have tk : Takes (cxOf (L2.CX P w) P w K mg base N__law_asked_0a4b "_law_asked" (defScope (topS 76)) f cdv A outer s H E) (fun cls d _ H => E cls d H) := takes_of rfl rfl rfl rfl
    have po : PassesOwn (model P w) (cxOf (L2.CX P w) P w K mg base N__law_asked_0a4b "_law_asked" (defScope (topS 76)) f cdv A outer s H E).A (cxOf (L2.CX P w) P w K mg base N__law_asked_0a4b "_law_asked" (defScope (topS 76)) f cdv A outer s H E).env (cxOf (L2.CX P w) P w K mg base N__law_asked_0a4b "_law_asked" (defScope (topS 76)) f cdv A outer s H E).xe := passes_of rfl
    (xss_then (ps_nox (ds_setLcF (i := 3) (own := [("_law_number", 4)]) rfl sc__law_asked_0a4b.nd rfl rfl (sw_true rfl rfl rfl (by decide +kernel)) (di_list (d_var 2 (pv 2))) (blkOk_by (own := [("_law_number", 4)]) (N := N__law_asked_0a4b) (sc := defScope (topS 76)) (by decide +kernel)) (fun _ _ _ _ _ => (dg_name (i := 4) sc__law_asked_0a4b.nd rfl (.inl rfl))) (fun _ _ _ _ _ => dts_nil) (fun _ _ _ _ _ => (d_tup (da_cons d_int (da_cons d_int da_nil)))))) (xss_alt (xss_here (xs_if (dt_cmp op_lt sc_lt (pv 0) d_int (nomark _) (ls_see (ls_cons ls_nil))) (xss_here (xs_ret (x_call T.x__law_asked_first (hr.mono (by decide)) (by rfl) tk (n_cons (n_cons n_nil)) (da_cons (d_var 0 (pv 0)) (da_cons (d_var 1 (pv 1)) da_nil))))) xss_no)) (xss_then (ps_nox (ds_if (dt_cmp op_lt sc_lt (pv 0) d_int (nomark _) (ls_see (ls_cons ls_nil))) dss_never dss_nil)) (xss_alt (xss_here (xs_if (dt_cmp (op_eqD hr.units) sc_eq (pv 0) d_int (nomark _) (ls_see (ls_cons ls_nil))) (xss_here (xs_ret (x_call T.x_least (hr.mono (by decide)) (by rfl) tk (n_cons (n_cons n_nil)) (da_cons (d_var 1 (pv 1)) (da_cons (d_var 2 (pv 2)) da_nil))))) xss_no)) (xss_then (ps_nox (ds_if (dt_cmp (op_eqD hr.units) sc_eq (pv 0) d_int (nomark _) (ls_see (ls_cons ls_nil))) dss_never dss_nil)) (xss_alt (xss_here (xs_if (dt_cmp (op_eqD hr.units) sc_eq (pv 0) d_int (nomark _) (ls_see (ls_cons ls_nil))) (xss_here (xs_ret (x_call T.x_cases (hr.mono (by decide)) (by rfl) tk (n_cons (n_cons n_nil)) (da_cons (d_var 1 (pv 1)) (da_cons (d_var 2 (pv 2)) da_nil))))) xss_no)) (xss_then (ps_nox (ds_if (dt_cmp (op_eqD hr.units) sc_eq (pv 0) d_int (nomark _) (ls_see (ls_cons ls_nil))) dss_never dss_nil)) (xss_alt (xss_here (xs_if (dt_cmp (op_eqD hr.units) sc_eq (pv 0) d_int (nomark _) (ls_see (ls_cons ls_nil))) (xss_here (xs_ret (x_call T.x_shows (hr.mono (by decide)) (by rfl) tk (n_cons (n_cons (n_cons n_nil))) (da_cons (d_var 1 (pv 1)) (da_cons (d_var 2 (pv 2)) (da_cons (d_fz (d_lst da_nil)) da_nil)))))) xss_no)) (xss_then (ps_nox (ds_if (dt_cmp (op_eqD hr.units) sc_eq (pv 0) d_int (nomark _) (ls_see (ls_cons ls_nil))) dss_never dss_nil)) (xss_alt (xss_here (xs_if (dt_cmp (op_eqD hr.units) sc_eq (pv 0) d_int (nomark _) (ls_see (ls_cons ls_nil))) (xss_here (xs_ret (x_call T.x_fair (hr.mono (by decide)) (by rfl) tk (n_cons (n_cons n_nil)) (da_cons (d_var 1 (pv 1)) (da_cons (d_var 3 (pv 3)) da_nil))))) xss_no)) (xss_then (ps_nox (ds_if (dt_cmp (op_eqD hr.units) sc_eq (pv 0) d_int (nomark _) (ls_see (ls_cons ls_nil))) dss_never dss_nil)) (xss_alt (xss_here (xs_if (dt_cmp (op_eqD hr.units) sc_eq (pv 0) d_int (nomark _) (ls_see (ls_cons ls_nil))) (xss_here (xs_ret (x_call T.x_single_prices (hr.mono (by decide)) (by rfl) tk (n_cons (n_cons n_nil)) (da_cons (d_var 1 (pv 1)) (da_cons (d_var 2 (pv 2)) da_nil))))) xss_no)) (xss_then (ps_nox (ds_if (dt_cmp (op_eqD hr.units) sc_eq (pv 0) d_int (nomark _) (ls_see (ls_cons ls_nil))) dss_never dss_nil)) (xss_alt (xss_here (xs_if (dt_cmp (op_eqD hr.units) sc_eq (pv 0) d_int (nomark _) (ls_see (ls_cons ls_nil))) (xss_here (xs_ret (x_call T.x_hold_together (hr.mono (by decide)) (by rfl) tk (n_cons (n_cons (n_cons n_nil))) (da_cons (d_var 1 (pv 1)) (da_cons (d_var 2 (pv 2)) (da_cons (d_fz (d_tup (da_cons (d_tup (da_cons d_int (da_cons d_int da_nil))) (da_cons (d_var 3 (pv 3)) (da_cons (d_lst da_nil) da_nil))))) da_nil)))))) xss_no)) (xss_then (ps_nox (ds_if (dt_cmp (op_eqD hr.units) sc_eq (pv 0) d_int (nomark _) (ls_see (ls_cons ls_nil))) dss_never dss_nil)) (xss_alt (xss_here (xs_if (dt_cmp (op_eqD hr.units) sc_eq (pv 0) d_int (nomark _) (ls_see (ls_cons ls_nil))) (xss_here (xs_ret (x_call T.x_moves (hr.mono (by decide)) (by rfl) tk (n_cons (n_cons (n_cons n_nil))) (da_cons (d_var 1 (pv 1)) (da_cons (d_var 2 (pv 2)) (da_cons d_int da_nil)))))) xss_no)) (xss_then (ps_nox (ds_if (dt_cmp (op_eqD hr.units) sc_eq (pv 0) d_int (nomark _) (ls_see (ls_cons ls_nil))) dss_never dss_nil)) (xss_here (xs_ret (x_call T.x_show_shop (hr.mono (by decide)) (by rfl) tk (n_cons (n_cons n_nil)) (da_cons (d_fz (d_sl (d_lst (da_cons d_str (da_cons d_str (da_cons d_str (da_cons d_str da_nil))))) do_none (do_some (d_callB call_len sc_len (by rfl) T.z_len bb_len (dl_see (pv 2) dl_nil))))) (da_cons (d_var 1 (pv 1)) da_nil))))))))))))))))))))))
theorem ok__law_draws_e473 {f : Addr} {fd : FuncData} (F : Fun K "_law_draws" "_law_draws" (topS 66) f fd) (T : T__law_draws_e473 P w K mg base) : FnG P w K mg base CX0 1 f fd ["_law_script", "_law_turn", "_law_many"] (spOf K (List.replicate 3 false) sem__law_draws_e473) :=
  okD F sc__law_draws_e473 rfl fun cdv A outer s H E hr =>
    (dss_cons (ds_set (i := 3) sc__law_draws_e473.nd rfl (.inl rfl) (d_fz (d_add (d_sl (d_var 0 (pv 0)) do_none (do_some d_int)) (d_lst (da_cons (d_var 1 (pv 1)) da_nil)) (as_cons (as_cons as_nil))))) (dss_cons (ds_set (i := 4) sc__law_draws_e473.nd rfl (.inl rfl) (d_lst da_nil)) (dss_cons (ds_if (dt_cmp (op_eqD hr.units) sc_eq (d_op op_mod sc_mod (d_op op_fdivW sc_div (d_ix (pv 3) d_int (fun _ _ => rfl) (ls_see (ls_cons ls_nil))) d_int (ls_cons (ls_cons ls_nil))) d_int (ls_cons (ls_cons ls_nil))) d_int (nomark _) (ls_cons (ls_cons ls_nil))) (dss_cons (ds_setLc (i := 5) (own := [("_law_cell", 8)]) rfl sc__law_draws_e473.nd rfl rfl (sw_true rfl rfl rfl (by decide +kernel)) (di_list (d_var 3 (pv 3))) (blkOk_by (own := [("_law_cell", 8)]) (N := N__law_draws_e473) (sc := defScope (topS 66)) (by decide +kernel)) (fun _ _ _ _ _ => (dg_name (i := 8) sc__law_draws_e473.nd rfl (.inl rfl))) (fun _ _ _ _ _ => dts_nil) (fun _ _ _ _ _ => (d_op op_fdivW sc_div (pv 8) d_int (ls_see (ls_cons ls_nil))))) (dss_cons (ds_for PassesOwn.never rfl (di_r1 (by rfl) T.z_range (dl_cons (d_add (d_var 1 (pv 1)) (d_var 2 (pv 2)) (as_cons (as_cons as_nil))) dl_nil)) (dg_name (i := 6) sc__law_draws_e473.nd rfl (.inl rfl)) (dss_cons (ds_set (i := 7) sc__law_draws_e473.nd rfl (.inl rfl) (d_op op_mod sc_mod (pv 6) (d_callB call_len sc_len (by rfl) T.z_len bb_len (dl_see (pv 5) dl_nil)) (ls_see (ls_cons ls_nil)))) (dss_cons (ds_if (dt_cmp op_ge sc_ge (pv 6) (pv 1) (nomark _) (ls_see (ls_see ls_nil))) (dss_cons (ds_expr (d_up PySem.F.slot_list_append PySem.F.type_list_append mt_append up_app (pv 4) (da_cons (d_op op_mod sc_mod (d_ix (pv 5) (pv 7) (fun _ _ => rfl) (ls_see (ls_see ls_nil))) d_int (ls_cons (ls_cons ls_nil))) da_nil))) dss_nil) dss_nil) (dss_cons (ds_setI (d_op op_fdivW sc_div (d_ix (pv 5) (pv 7) (fun _ _ => rfl) (ls_see (ls_see ls_nil))) d_int (ls_cons (ls_cons ls_nil))) (pv 5) (d_var 7 (pv 7))) (dss_kill dss_nil))))) (dss_kill (dss_cons (ds_ret (d_mv 4 (pv 4))) dss_nil)))) dss_nil) (dss_kill (dss_cons (ds_for PassesOwn.never rfl (di_frz (di_r1 (by rfl) T.z_range (dl_see (pv 2) dl_nil))) (dg_name (i := 6) sc__law_draws_e473.nd rfl (.inl rfl)) (dss_cons (ds_set (i := 9) sc__law_draws_e473.nd rfl (.inl rfl) (d_fz (d_add (d_op op_mulA sc_mul (d_op op_mulA sc_mul (d_add (d_var 6 (pv 6)) (d_var 1 (pv 1)) (as_cons (as_cons as_nil))) (d_add (d_var 6 (pv 6)) (d_var 1 (pv 1)) (as_cons (as_cons as_nil))) (ls_cons (ls_cons ls_nil))) d_int (ls_cons (ls_cons ls_nil))) d_int (as_cons (as_cons as_nil))))) (dss_cons (ds_set (i := 10) sc__law_draws_e473.nd rfl (.inl rfl) (d_op op_mod sc_mod (d_op op_mulA sc_mul (d_add (d_op op_mod sc_mod (d_ix (pv 3) (d_op op_mod sc_mod (pv 6) (d_callB call_len sc_len (by rfl) T.z_len bb_len (dl_see (pv 3) dl_nil)) (ls_see (ls_cons ls_nil))) (fun _ _ => rfl) (ls_see (ls_cons ls_nil))) d_int (ls_cons (ls_cons ls_nil))) (d_var 9 (pv 9)) (as_cons (as_cons as_nil))) d_int (ls_cons (ls_cons ls_nil))) d_int (ls_cons (ls_cons ls_nil)))) (dss_cons (ds_set (i := 10) sc__law_draws_e473.nd rfl (.inl rfl) (d_op op_mod sc_mod (d_add (d_op op_mulA sc_mul (pv 10) (pv 10) (ls_see (ls_see ls_nil))) (d_op op_mulA sc_mul d_int (pv 6) (ls_cons (ls_see ls_nil))) (as_cons (as_cons as_nil))) d_int (ls_cons (ls_cons ls_nil)))) (dss_cons (ds_expr (d_up PySem.F.slot_list_append PySem.F.type_list_append mt_append up_app (pv 4) (da_cons (d_op op_mod sc_mod (d_op op_mulA sc_mul (pv 10) (pv 10) (ls_see (ls_see ls_nil))) d_int (ls_cons (ls_cons ls_nil))) da_nil))) (dss_kill dss_nil)))))) (dss_kill (dss_cons (ds_ret (d_mv 4 (pv 4))) dss_nil)))))))
theorem ok__law_pop {f : Addr} {fd : FuncData} (F : Fun K "_law_pop" "_law_pop" (topS 67) f fd) (T : T__law_pop P w K mg base) : FnG P w K mg base CX0 1 f fd ["_law_draws_here"] (spOf K [true] sem__law_pop) :=
  okD F sc__law_pop rfl fun cdv A outer s H E hr =>
    (dss_cons (ds_if (dt_cmp (op_eqD hr.units) sc_eq (pv 0) (d_lst da_nil) (nomark _) (ls_see (ls_cons ls_nil))) (dss_cons (ds_ret d_int) dss_nil) dss_nil) (dss_cons (ds_ret (d_up PySem.F.slot_list_pop PySem.F.type_list_pop mt_popAt up_pop0 (pv 0) (da_cons d_int da_nil))) dss_nil))
theorem ok__law_cases {f : Addr} {fd : FuncData} (F : Fun K "_law_cases" "_law_cases" (topS 69) f fd) (T : T__law_cases P w K mg base) : FnG P w K mg base CX0 1 f fd ["_law_want_here"] (spOf K (List.replicate 1 false) sem__law_cases) :=
  okD F sc__law_cases rfl fun cdv A outer s H E hr =>
    (dss_cons (ds_set (i := 1) sc__law_cases.nd rfl (.inl rfl) d_int) (dss_cons (ds_for PassesOwn.never rfl (di_list (d_var 0 (pv 0))) (dg_name (i := 2) sc__law_cases.nd rfl (.inl rfl)) (dss_cons (ds_set (i := 1) sc__law_cases.nd rfl (.inl rfl) (d_op op_mulA sc_mul (pv 1) (d_add (d_var 2 (pv 2)) d_int (as_cons (as_cons as_nil))) (ls_see (ls_cons ls_nil)))) (dss_kill dss_nil))) (dss_kill (dss_cons (ds_ret (d_mv 1 (pv 1))) dss_nil))))
theorem ok__law_want_aecb {f : Addr} {fd : FuncData} (F : Fun K "_law_want" "_law_want" (topS 68) f fd) (T : T__law_want_aecb P w K mg base) : FnG P w K mg base CX0 2 f fd ["_law_draws_here", "_law_many"] (spOf K [true, false] sem__law_want_aecb) :=
  okD F sc__law_want_aecb rfl fun cdv A outer s H E hr =>
    (dss_cons (ds_set (i := 2) sc__law_want_aecb.nd rfl (.inr rfl) (d_fz (c_callR T.c__law_pop (hr.mono (by decide)) (by rfl) (dr_ref (pv 0) dr_nil)))) (dss_cons (ds_setLc (i := 3) (own := [("_law_k", 4)]) rfl sc__law_want_aecb.nd rfl rfl (sw_true rfl rfl rfl (by decide +kernel)) (di_r1 (by rfl) T.z_range (dl_see (pv 1) dl_nil)) (blkOk_by (own := [("_law_k", 4)]) (N := N__law_want_aecb) (sc := defScope (topS 68)) (by decide +kernel)) (fun _ _ _ _ _ => (dg_name (i := 4) sc__law_want_aecb.nd rfl (.inl rfl))) (fun _ _ _ _ _ => dts_nil) (fun _ _ _ _ _ => (d_ix (d_lst (da_cons d_int (da_cons d_int (da_cons d_int (da_cons d_int (da_cons d_int (da_cons d_int (da_cons d_int (da_cons d_int da_nil))))))))) (d_op op_mod sc_mod (d_op op_fdivW sc_div (pv 2) (d_op op_shl sc_shl d_int (d_op op_mulA sc_mul d_int (pv 4) (ls_cons (ls_see ls_nil))) (ls_cons (ls_cons ls_nil))) (ls_see (ls_cons ls_nil))) d_int (ls_cons (ls_cons ls_nil))) (fun _ _ => rfl) (ls_cons (ls_cons ls_nil))))) (dss_cons (ds_if (dt_cmp (op_eqD hr.units) sc_eq (d_op op_mod sc_mod (d_op op_fdivW sc_div (pv 2) d_int (ls_see (ls_cons ls_nil))) d_int (ls_cons (ls_cons ls_nil))) d_int (nomark _) (ls_cons (ls_cons ls_nil))) (dss_cons (ds_setLc (i := 3) (own := [("_law_k", 4)]) rfl sc__law_want_aecb.nd rfl rfl (sw_true rfl rfl rfl (by decide +kernel)) (di_r1 (by rfl) T.z_range (dl_see (pv 1) dl_nil)) (blkOk_by (own := [("_law_k", 4)]) (N := N__law_want_aecb) (sc := defScope (topS 68)) (by decide +kernel)) (fun _ _ _ _ _ => (dg_name (i := 4) sc__law_want_aecb.nd rfl (.inl rfl))) (fun _ _ _ _ _ => dts_nil) (fun _ _ _ _ _ => (d_op op_mod sc_mod (c_callR T.c__law_pop (hr.mono (by decide)) (by rfl) (dr_ref (pv 0) dr_nil)) d_int (ls_cons (ls_cons ls_nil))))) dss_nil) dss_nil) (dss_cons (ds_while PassesOwn.never (dt_cmp op_gt sc_gt (c_callL T.c__law_cases (hr.mono (by decide)) (by rfl) (n_see n_nil) (dl_see (pv 3) dl_nil)) d_int (nomark _) (ls_cons (ls_cons ls_nil))) (dss_cons (ds_setI (d_op op_sub sc_sub (d_callB (call_maxA rfl) sc_max (by rfl) T.z_max bb_max (dl_see (pv 3) dl_nil)) d_int (ls_cons (ls_cons ls_nil))) (pv 3) (d_lm PySem.F.slot_list_index PySem.F.type_list_index (mt_indexD (hu65 hr)) sc_index (pv 3) (dl_cons (d_callB (call_maxA rfl) sc_max (by rfl) T.z_max bb_max (dl_see (pv 3) dl_nil)) dl_nil))) dss_nil)) (dss_cons (ds_ret (d_mv 3 (pv 3))) dss_nil)))))
theorem ok__law_content_9bc7 {f : Addr} {fd : FuncData} (F : Fun K "_law_content" "_law_content" (topS 70) f fd) (T : T__law_content_9bc7 P w K mg base) : FnG P w K mg base CX0 3 f fd ["_law_draws_here", "_law_many"] (spOf K [true, false] sem__law_content_9bc7) :=
  okD F sc__law_content_9bc7 rfl fun cdv A outer s H E hr =>
    (dss_cons (ds_set (i := 2) sc__law_content_9bc7.nd rfl (.inl rfl) (c_callR T.c__law_want (hr.mono (by decide)) (by rfl) (dr_ref (pv 0) (dr_cons (d_var 1 (pv 1)) dr_nil)))) (dss_cons (ds_if (dt_cmp (op_eqD hr.units) sc_eq (d_callB (cr_sum rfl) sc_sum (by rfl) T.z_sum bb_sum (dl_see (pv 2) dl_nil)) d_int (nomark _) (ls_cons (ls_cons ls_nil))) (dss_cons (ds_setI (d_add d_int (d_op op_mod sc_mod (c_callR T.c__law_pop (hr.mono (by decide)) (by rfl) (dr_ref (pv 0) dr_nil)) d_int (ls_cons (ls_cons ls_nil))) (as_cons (as_cons as_nil))) (pv 2) (d_op op_mod sc_mod (c_callR T.c__law_pop (hr.mono (by decide)) (by rfl) (dr_ref (pv 0) dr_nil)) (pv 1) (ls_cons (ls_see ls_nil)))) dss_nil) dss_nil) (dss_cons (ds_ret (d_mv 2 (pv 2))) dss_nil)))
theorem ok__law_price_9bd3 {f : Addr} {fd : FuncData} (F : Fun K "_law_price" "_law_price" (topS 71) f fd) (T : T__law_price_9bd3 P w K mg base) : FnG P w K mg base CX0 2 f fd ["_law_draws_here"] (spOf K [true] sem__law_price_9bd3) :=
  okD F sc__law_price_9bd3 rfl fun cdv A outer s H E hr =>
    (dss_cons (ds_set (i := 1) sc__law_price_9bd3.nd rfl (.inl rfl) (d_fz (c_callR T.c__law_pop (hr.mono (by decide)) (by rfl) (dr_ref (pv 0) dr_nil)))) (dss_cons (ds_ret (d_ix (d_lst (da_cons (d_op op_mod sc_mod (d_op op_fdivW sc_div (pv 1) d_int (ls_see (ls_cons ls_nil))) d_int (ls_cons (ls_cons ls_nil))) (da_cons (d_op op_mod sc_mod (d_op op_fdivW sc_div (pv 1) d_int (ls_see (ls_cons ls_nil))) d_int (ls_cons (ls_cons ls_nil))) (da_cons d_int (da_cons (d_op op_mod sc_mod (d_op op_mulA sc_mul (pv 1) d_int (ls_see (ls_cons ls_nil))) (d_op op_pow sc_pow d_int d_int (ls_cons (ls_cons ls_nil))) (ls_cons (ls_cons ls_nil))) da_nil))))) (d_op op_mod sc_mod (pv 1) d_int (ls_see (ls_cons ls_nil))) (fun _ _ => rfl) (ls_cons (ls_cons ls_nil)))) dss_nil))
theorem ok__law_tiers_278e {f : Addr} {fd : FuncData} (F : Fun K "_law_tiers" "_law_tiers" (topS 72) f fd) (T : T__law_tiers_278e P w K mg base) : FnG P w K mg base CX0 3 f fd ["_law_draws_here"] (spOf K [true] sem__law_tiers_278e) :=
  okD F sc__law_tiers_278e rfl fun cdv A outer s H E hr =>
    (dss_cons (ds_set (i := 1) sc__law_tiers_278e.nd rfl (.inl rfl) (d_lst da_nil)) (dss_cons (ds_set (i := 2) sc__law_tiers_278e.nd rfl (.inl rfl) d_int) (dss_cons (ds_for PassesOwn.never rfl (di_r1 (by rfl) T.z_range (dl_cons (d_add d_int (d_op op_mod sc_mod (c_callR T.c__law_pop (hr.mono (by decide)) (by rfl) (dr_ref (pv 0) dr_nil)) d_int (ls_cons (ls_cons ls_nil))) (as_cons (as_cons as_nil))) dl_nil)) (dg_name (i := 3) sc__law_tiers_278e.nd rfl (.inl rfl)) (dss_cons (ds_set (i := 4) sc__law_tiers_278e.nd rfl (.inl rfl) (d_fz (c_callR T.c__law_pop (hr.mono (by decide)) (by rfl) (dr_ref (pv 0) dr_nil)))) (dss_cons (ds_if (dt_cmp op_lt sc_lt (pv 2) d_int (nomark _) (ls_see (ls_cons ls_nil))) (dss_cons (ds_expr (d_up PySem.F.slot_list_append PySem.F.type_list_append mt_append up_app (pv 1) (da_cons (d_fz (d_tup (da_cons (d_var 2 (pv 2)) (da_cons (c_callR T.c__law_price (hr.mono (by decide)) (by rfl) (dr_ref (pv 0) dr_nil)) da_nil)))) da_nil))) dss_nil) dss_nil) (dss_cons (ds_set (i := 2) sc__law_tiers_278e.nd rfl (.inl rfl) (d_fz (d_add (d_add (d_var 2 (pv 2)) d_int (as_cons (as_cons as_nil))) (d_op op_mod sc_mod (pv 4) (d_ix (d_lst (da_cons d_int (da_cons d_int (da_cons d_int da_nil)))) (d_op op_mod sc_mod (d_op op_fdivW sc_div (pv 4) d_int (ls_see (ls_cons ls_nil))) d_int (ls_cons (ls_cons ls_nil))) (fun _ _ => rfl) (ls_cons (ls_cons ls_nil))) (ls_see (ls_cons ls_nil))) (as_cons (as_cons as_nil))))) (dss_kill dss_nil))))) (dss_kill (dss_cons (ds_ret (d_mv 1 (pv 1))) dss_nil)))))
theorem ok__law_shop_0742 {f : Addr} {fd : FuncData} (F : Fun K "_law_shop" "_law_shop" (topS 73) f fd) (T : T__law_shop_0742 P w K mg base) : FnG P w K mg base CX0 4 f fd ["_law_draws_here", "_law_many", "_law_most"] (spOf K [true, false, false] sem__law_shop_0742) :=
  okD F sc__law_shop_0742 rfl fun cdv A outer s H E hr =>
    (dss_cons (ds_set (i := 3) sc__law_shop_0742.nd rfl (.inr rfl) (d_lst da_nil)) (dss_cons (ds_for PassesOwn.never rfl (di_frz (di_r1 (by rfl) T.z_range (dl_cons (d_op op_mod sc_mod (c_callR T.c__law_pop (hr.mono (by decide)) (by rfl) (dr_ref (pv 0) dr_nil)) (d_add (d_var 2 (pv 2)) d_int (as_cons (as_cons as_nil))) (ls_cons (ls_cons ls_nil))) dl_nil))) (dg_name (i := 4) sc__law_shop_0742.nd rfl (.inl rfl)) (dss_cons (ds_set (i := 5) sc__law_shop_0742.nd rfl (.inl rfl) (d_fz (c_callR T.c__law_pop (hr.mono (by decide)) (by rfl) (dr_ref (pv 0) dr_nil)))) (dss_cons (ds_setLcF (i := 6) (own := [("_law_place", 8)]) rfl sc__law_shop_0742.nd rfl rfl (sw_true rfl rfl rfl (by decide +kernel)) (di_r1 (by rfl) T.z_range (dl_cons (d_callB call_len sc_len (by rfl) T.z_len bb_len (dl_see (pv 3) dl_nil)) dl_nil)) (blkOk_by (own := [("_law_place", 8)]) (N := N__law_shop_0742) (sc := defScope (topS 73)) (by decide +kernel)) (fun _ _ _ _ _ => (dg_name (i := 8) sc__law_shop_0742.nd rfl (.inl rfl))) (fun _ _ _ _ _ => (dts_one (dt_cmp (op_eqD hr.units) sc_eq (d_ix (d_ix (pv 3) (pv 8) (fun _ _ => rfl) (ls_see (ls_see ls_nil))) d_int (fun _ _ => rfl) (ls_cons (ls_cons ls_nil))) d_str (nomark _) (ls_cons (ls_cons ls_nil))))) (fun _ _ _ _ _ => (d_var 8 (pv 8)))) (dss_cons (ds_set (i := 7) sc__law_shop_0742.nd rfl (.inl rfl) (d_fz (c_callR T.c__law_content (hr.mono (by decide)) (by rfl) (dr_ref (pv 0) (dr_cons (d_var 1 (pv 1)) dr_nil))))) (dss_cons (ds_if (PW.pt (dw_and (dt_cmp op_gt sc_gt (d_op op_mod sc_mod (pv 5) d_int (ls_see (ls_cons ls_nil))) d_int (nomark _) (ls_cons (ls_cons ls_nil))) (dw_and1 (dt_cmp (op_neD hr.units) sc_ne (pv 6) (d_lst da_nil) (nomark _) (ls_see (ls_cons ls_nil)))))) (dss_cons (ds_expr (d_up PySem.F.slot_list_append PySem.F.type_list_append mt_append up_app (pv 3) (da_cons (d_fz (d_tup (da_cons d_str (da_cons (d_var 7 (pv 7)) (da_cons (c_callR T.c__law_price (hr.mono (by decide)) (by rfl) (dr_ref (pv 0) dr_nil)) (da_cons (d_ix (pv 6) (d_op op_mod sc_mod (d_op op_fdivW sc_div (pv 5) d_int (ls_see (ls_cons ls_nil))) (d_callB call_len sc_len (by rfl) T.z_len bb_len (dl_see (pv 6) dl_nil)) (ls_cons (ls_cons ls_nil))) (fun _ _ => rfl) (ls_see (ls_cons ls_nil))) da_nil)))))) da_nil))) dss_nil) (dss_cons (ds_if (dt_cmp op_gt sc_gt (d_op op_mod sc_mod (pv 5) d_int (ls_see (ls_cons ls_nil))) d_int (nomark _) (ls_cons (ls_cons ls_nil))) (dss_cons (ds_expr (d_up PySem.F.slot_list_append PySem.F.type_list_append mt_append up_app (pv 3) (da_cons (d_fz (d_tup (da_cons d_str (da_cons (d_var 7 (pv 7)) (da_cons (c_callR T.c__law_tiers (hr.mono (by decide)) (by rfl) (dr_ref (pv 0) dr_nil)) da_nil))))) da_nil))) dss_nil) (dss_cons (ds_expr (d_up PySem.F.slot_list_append PySem.F.type_list_append mt_append up_app (pv 3) (da_cons (d_fz (d_tup (da_cons d_str (da_cons (d_var 7 (pv 7)) (da_cons (c_callR T.c__law_price (hr.mono (by decide)) (by rfl) (dr_ref (pv 0) dr_nil)) da_nil))))) da_nil))) dss_nil)) dss_nil)) (dss_kill dss_nil)))))) (dss_kill (dss_cons (ds_ret (d_mv 3 (pv 3))) dss_nil))))
theorem ok_tiers_right {f : Addr} {fd : FuncData} (F : Fun K "tiers_right" "tiers_right" (topS 10) f fd) (T : T_tiers_right P w K mg base) : FnG P w K mg base CX0 1 f fd ["tiers"] (spOf K (List.replicate 1 false) sem_tiers_right) :=
  okD F sc_tiers_right rfl fun cdv A outer s H E hr =>
    (dss_cons (ds_set (i := 1) sc_tiers_right.nd rfl (.inr rfl) (d_fz (d_lc (own := [("start", 2), ("price", 3)]) rfl sc_tiers_right.nd (di_list (d_var 0 (pv 0))) (blkOk_by (own := [("start", 2), ("price", 3)]) (N := N_tiers_right) (sc := defScope (topS 10)) (by decide +kernel)) (fun _ _ _ _ _ => (dg_tup rfl (dgs_cons (dg_name (i := 2) sc_tiers_right.nd rfl (.inl rfl)) (dgs_cons (dg_name (i := 3) sc_tiers_right.nd rfl (.inl rfl)) dgs_nil)))) (fun _ _ _ _ _ => dts_nil) (fun _ _ _ _ _ => (d_var 2 (pv 2)))))) (dss_cons (ds_if (PW.pt (dw_or (dt_cmp (op_neD hr.units) sc_ne (d_sl (d_var 1 (pv 1)) do_none (do_some d_int)) (d_lst (da_cons d_int da_nil)) (nomark _) (ls_cons (ls_cons ls_nil))) (dw_or (dt_cmp op_gt sc_gt (d_callB call_len sc_len (by rfl) T.z_len bb_len (dl_see (pv 1) dl_nil)) (d_globI (by rfl) T.g_MOST_TIERS) (nomark _) (ls_cons (ls_cons ls_nil))) (dw_or1 (dt_cmp op_gt sc_gt (d_ix (pv 1) (d_un un_neg sc_neg d_int (ls_cons ls_nil)) (fun _ _ => rfl) (ls_see (ls_cons ls_nil))) (d_globI (by rfl) T.g_MOST) (nomark _) (ls_cons (ls_cons ls_nil))))))) (dss_cons (ds_ret d_bl) dss_nil) dss_nil) (dss_cons (ds_ret (d_callB (cr_all rfl) sc_all (by rfl) T.z_all bb_all (dl_cons (d_lc (own := [("k", 4)]) rfl sc_tiers_right.nd (di_r1 (by rfl) T.z_range (dl_cons (d_op op_sub sc_sub (d_callB call_len sc_len (by rfl) T.z_len bb_len (dl_see (pv 1) dl_nil)) d_int (ls_cons (ls_cons ls_nil))) dl_nil)) (blkOk_by (own := [("k", 4)]) (N := N_tiers_right) (sc := defScope (topS 10)) (by decide +kernel)) (fun _ _ _ _ _ => (dg_name (i := 4) sc_tiers_right.nd rfl (.inl rfl))) (fun _ _ _ _ _ => dts_nil) (fun _ _ _ _ _ => (d_cmp op_lt sc_lt (d_ix (pv 1) (pv 4) (fun _ _ => rfl) (ls_see (ls_see ls_nil))) (d_ix (pv 1) (d_add (d_var 4 (pv 4)) d_int (as_cons (as_cons as_nil))) (fun _ _ => rfl) (ls_see (ls_cons ls_nil))) (nomark _) (ls_cons (ls_cons ls_nil))))) dl_nil))) dss_nil)))
theorem ok_look {f : Addr} {fd : FuncData} (F : Fun K "look" "look" (topS 11) f fd) (T : T_look P w K mg base) : FnG P w K mg base CX0 2 f fd ["shop"] (spOf K (List.replicate 1 false) sem_look) :=
  okD F sc_look rfl fun cdv A outer s H E hr =>
    (dss_cons (ds_for PassesOwn.never rfl (di_enum (by rfl) T.z_enumerate (da_cons (d_var 0 (pv 0)) da_nil)) (dg_tup rfl (dgs_cons (dg_name (i := 1) sc_look.nd rfl (.inl rfl)) (dgs_cons (dg_name (i := 2) sc_look.nd rfl (.inl rfl)) dgs_nil))) (dss_cons (ds_set (i := 3) sc_look.nd rfl (.inl rfl) d_bl) (dss_cons (ds_if (dt_cmp (op_eqD hr.units) sc_eq (d_ix (pv 2) d_int (fun _ _ => rfl) (ls_see (ls_cons ls_nil))) d_str (nomark _) (ls_cons (ls_cons ls_nil))) (dss_cons (ds_set (i := 3) sc_look.nd rfl (.inl rfl) (d_and (d_chain op_le op_lt sc_le sc_lt d_int (d_ix (pv 2) d_int (fun _ _ => rfl) (ls_see (ls_cons ls_nil))) (d_var 1 (pv 1)) (ls_cons (ls_cons ls_nil))) (d_one (d_cmp (op_eqD hr.units) sc_eq (d_ix (d_ix (pv 0) (d_ix (pv 2) d_int (fun _ _ => rfl) (ls_see (ls_cons ls_nil))) (fun _ _ => rfl) (ls_see (ls_cons ls_nil))) d_int (fun _ _ => rfl) (ls_cons (ls_cons ls_nil))) d_str (nomark _) (ls_cons (ls_cons ls_nil)))))) dss_nil) dss_nil) (dss_cons (ds_if (dt_cmp (op_eqD hr.units) sc_eq (d_ix (pv 2) d_int (fun _ _ => rfl) (ls_see (ls_cons ls_nil))) d_str (nomark _) (ls_cons (ls_cons ls_nil))) (dss_cons (ds_set (i := 3) sc_look.nd rfl (.inl rfl) (d_fz (c_callM T.c_tiers_right (hr.mono (by decide)) (by rfl) (n_cons n_nil) (da_cons (d_ix (pv 2) d_int (fun _ _ => rfl) (ls_see (ls_cons ls_nil))) da_nil)))) dss_nil) dss_nil) (dss_cons (ds_if (dt_not (dt_val (d_var 3 (pv 3)))) (dss_cons ds_never dss_nil) dss_nil) (dss_kill dss_nil)))))) (dss_kill dss_nil))
theorem ok__law_which {f : Addr} {fd : FuncData} (F : Fun K "_law_which" "_law_which" (topS 74) f fd) (T : T__law_which P w K mg base) : FnG P w K mg base CX0 1 f fd ["_law_e"] (spOf K (List.replicate 1 false) sem__law_which) :=
  okD F sc__law_which rfl fun cdv A outer s H E hr =>
    (dss_cons (ds_set (i := 1) sc__law_which.nd rfl (.inl rfl) (d_lst (da_cons (d_isO T.i_NoLine (by rfl) (by rfl) T.z_isinstance (pv 0)) (da_cons (d_isO T.i_NoOffer (by rfl) (by rfl) T.z_isinstance (pv 0)) (da_cons (d_isO T.i_NoPlace (by rfl) (by rfl) T.z_isinstance (pv 0)) (da_cons (d_isO T.i_NoText (by rfl) (by rfl) T.z_isinstance (pv 0)) da_nil)))))) (dss_cons (ds_expr (d_up PySem.F.slot_list_append PySem.F.type_list_append mt_append up_app (pv 1) (da_cons (d_fz (d_isO T.i_NoThings (by rfl) (by rfl) T.z_isinstance (pv 0))) da_nil))) (dss_cons (ds_if (PW.pt (dw_or (dt_not (dt_val (d_isO T.i_PackError (by rfl) (by rfl) T.z_isinstance (pv 0)))) (dw_or (dt_not (dt_val (d_isB T.i_ValueError (d_ty (by rfl) T.z_ValueError (by decide +kernel)) (by rfl) T.z_isinstance (pv 0)))) (dw_or1 (dt_cmp (op_neD hr.units) sc_ne (d_lm PySem.F.slot_list_count PySem.F.type_list_count (mt_countD (hu65 hr)) sc_count (pv 1) (dl_cons d_bl dl_nil)) d_int (nomark _) (ls_cons (ls_cons ls_nil))))))) (dss_cons (ds_ret d_str) dss_nil) dss_nil) (dss_cons (ds_ret (d_ix (d_lst (da_cons d_str (da_cons d_str (da_cons d_str (da_cons d_str (da_cons d_str da_nil)))))) (d_lm PySem.F.slot_list_index PySem.F.type_list_index (mt_indexD (hu65 hr)) sc_index (pv 1) (dl_cons d_bl dl_nil)) (fun _ _ => rfl) (ls_cons (ls_cons ls_nil)))) dss_nil))))
theorem ok__law_refused_a221 {f : Addr} {fd : FuncData} (F : Fun K "_law_refused" "_law_refused" (topS 77) f fd) (T : T__law_refused_a221 P w K mg base) : FnG P w K mg base CX0 9 f fd ["_law_way", "_law_shop_here", "_law_want_here", "_law_place"] (spOf K (List.replicate 4 false) sem__law_refused_a221) :=
  okD F sc__law_refused_a221 rfl fun cdv A outer s H E hr =>
    (dss_cons (ds_set (i := 4) sc__law_refused_a221.nd rfl (.inl rfl) d_non) (dss_cons (ds_tryC T.t_PackError (by rfl) rfl rfl rfl sc__law_refused_a221.nd rfl rfl (fun pn xe => dss_never) (fun W pn xe tk po => (xss_here (xs_expr (x_call T.x__law_asked (hr.mono (by decide)) (by rfl) tk (n_cons (n_cons (n_cons n_nil))) (da_cons (d_var 0 (pv 0)) (da_cons (d_var 1 (pv 1)) (da_cons (d_var 2 (pv 2)) da_nil))))))) (fun a oe pn => ps_set (i := 4) sc__law_refused_a221.nd rfl (.inl rfl) (pv 5))) (dss_cons (ds_ret (d_and (d_notNX (pv 4)) (d_and (d_cmp (op_eqD hr.units) sc_eq (c_callM T.c__law_which (hr.mono (by decide)) (by rfl) (n_cons n_nil) (da_cons (d_varX 4 (pv 4)) da_nil)) d_str (nomark _) (ls_cons (ls_cons ls_nil))) (d_one (d_cmp (op_eqD hr.units) sc_eq (d_fldC T.f_place (pv 4)) (pv 3) (nomark _) (ls_cons (ls_see ls_nil))))))) dss_nil)))
theorem ok_law_k09 {f : Addr} {fd : FuncData} (F : Fun K "law" "law" (topS 78) f fd) (T : T_law_k09 P w K mg base) : FnG P w K mg base CX0 10 f fd ["_law_script"] (spOf K (List.replicate 1 false) sem_law_k09) :=
  okD F sc_law_k09 rfl fun cdv A outer s H E hr =>
    (dss_cons (ds_set (i := 1) sc_law_k09.nd rfl (.inl rfl) (c_callM T.c__law_draws (hr.mono (by decide)) (by rfl) (n_cons (n_cons (n_cons n_nil))) (da_cons (d_var 0 (pv 0)) (da_cons d_int (da_cons d_int da_nil))))) (dss_cons (ds_set (i := 2) sc_law_k09.nd rfl (.inl rfl) (d_fz (d_add d_int (d_op op_mod sc_mod (c_callR T.c__law_pop (hr.mono (by decide)) (by rfl) (dr_ref (pv 1) dr_nil)) d_int (ls_cons (ls_cons ls_nil))) (as_cons (as_cons as_nil))))) (dss_cons (ds_set (i := 3) sc_law_k09.nd rfl (.inr rfl) (d_fz (c_callR T.c__law_shop (hr.mono (by decide)) (by rfl) (dr_ref (pv 1) (dr_cons (d_var 2 (pv 2)) (dr_cons d_int dr_nil)))))) (dss_cons (ds_expr (c_callM T.c_look (hr.mono (by decide)) (by rfl) (n_cons n_nil) (da_cons (d_var 3 (pv 3)) da_nil))) (dss_cons (ds_set (i := 4) sc_law_k09.nd rfl (.inl rfl) (d_fz (c_callR T.c__law_want (hr.mono (by decide)) (by rfl) (dr_ref (pv 1) (dr_cons (d_var 2 (pv 2)) dr_nil))))) (dss_cons (ds_set (i := 5) sc_law_k09.nd rfl (.inl rfl) (d_op op_mod sc_mod (c_callR T.c__law_pop (hr.mono (by decide)) (by rfl) (dr_ref (pv 1) dr_nil)) (d_add (d_callB call_len sc_len (by rfl) T.z_len bb_len (dl_see (pv 3) dl_nil)) d_int (as_cons (as_cons as_nil))) (ls_cons (ls_cons ls_nil)))) (dss_cons (ds_set (i := 6) sc_law_k09.nd rfl (.inl rfl) (d_fz (c_callR T.c__law_content (hr.mono (by decide)) (by rfl) (dr_ref (pv 1) (dr_cons (d_var 2 (pv 2)) dr_nil))))) (dss_cons (ds_set (i := 7) sc_law_k09.nd rfl (.inl rfl) (d_fz (c_callR T.c__law_pop (hr.mono (by decide)) (by rfl) (dr_ref (pv 1) dr_nil)))) (dss_cons (ds_set (i := 8) sc_law_k09.nd rfl (.inl rfl) (d_lst (da_cons (d_fz (d_tup (da_cons d_str (da_cons (d_var 6 (pv 6)) (da_cons d_int (da_cons (d_var 5 (pv 5)) da_nil)))))) (da_cons (d_fz (d_tup (da_cons d_str (da_cons (d_var 6 (pv 6)) (da_cons d_int (da_cons (d_add (d_var 5 (pv 5)) d_int (as_cons (as_cons as_nil))) da_nil)))))) (da_cons (d_fz (d_tup (da_cons d_str (da_cons (d_var 6 (pv 6)) (da_cons d_int (da_cons (d_un un_neg sc_neg d_int (ls_cons ls_nil)) da_nil)))))) (da_cons (d_fz (d_tup (da_cons d_str (da_cons (d_var 6 (pv 6)) (da_cons (d_lst (da_cons (d_tup (da_cons d_int (da_cons d_int da_nil))) da_nil)) da_nil))))) da_nil)))))) (dss_cons (ds_setLcF (i := 9) (own := [("_law_k", 10)]) rfl sc_law_k09.nd rfl rfl (sw_true rfl rfl rfl (by decide +kernel)) (di_r1 (by rfl) T.z_range (dl_see (pv 5) dl_nil)) (blkOk_by (own := [("_law_k", 10)]) (N := N_law_k09) (sc := defScope (topS 78)) (by decide +kernel)) (fun _ _ _ _ _ => (dg_name (i := 10) sc_law_k09.nd rfl (.inl rfl))) (fun _ _ _ _ _ => (dts_one (dt_cmp (op_neD hr.units) sc_ne (d_ix (d_ix (pv 3) (pv 10) (fun _ _ => rfl) (ls_see (ls_see ls_nil))) d_int (fun _ _ => rfl) (ls_cons (ls_cons ls_nil))) d_str (nomark _) (ls_cons (ls_cons ls_nil))))) (fun _ _ _ _ _ => (d_var 10 (pv 10)))) (dss_cons (ds_if (dt_cmp (op_neD hr.units) sc_ne (pv 9) (d_lst da_nil) (nomark _) (ls_see (ls_cons ls_nil))) (dss_cons (ds_expr (d_up PySem.F.slot_list_append PySem.F.type_list_append mt_append up_app (pv 8) (da_cons (d_fz (d_tup (da_cons d_str (da_cons (d_var 6 (pv 6)) (da_cons d_int (da_cons (d_ix (pv 9) (d_un un_neg sc_neg d_int (ls_cons ls_nil)) (fun _ _ => rfl) (ls_see (ls_cons ls_nil))) da_nil)))))) da_nil))) dss_nil) dss_nil) (dss_cons (ds_set (i := 11) sc_law_k09.nd rfl (.inl rfl) (d_fz (d_add (d_sl (d_var 3 (pv 3)) do_none (do_some (d_var 5 (pv 5)))) (d_lst (da_cons (d_ix (pv 8) (d_op op_mod sc_mod (pv 7) (d_callB call_len sc_len (by rfl) T.z_len bb_len (dl_see (pv 8) dl_nil)) (ls_see (ls_cons ls_nil))) (fun _ _ => rfl) (ls_see (ls_cons ls_nil))) da_nil)) (as_cons (as_cons as_nil))))) (dss_cons (ds_for PassesOwn.never rfl (di_frz (di_r1 (by rfl) T.z_range (dl_cons d_int dl_nil))) (dg_name (i := 12) sc_law_k09.nd rfl (.inl rfl)) (dss_cons (ds_if (dt_not (dt_val (c_callM T.c__law_refused (hr.mono (by decide)) (by rfl) (n_cons (n_cons (n_cons (n_cons n_nil)))) (da_cons (d_var 12 (pv 12)) (da_cons (d_var 11 (pv 11)) (da_cons (d_var 4 (pv 4)) (da_cons (d_var 5 (pv 5)) da_nil))))))) (dss_cons (ds_ret d_bl) dss_nil) dss_nil) (dss_kill dss_nil))) (dss_kill (dss_cons (ds_ret d_bl) dss_nil)))))))))))))))
end
/-- what is asked of the law: True, whatever the script -/
def LawTrue : Prop := ∀ ns : List Int, ns.length ≤ 63 → sem_law_k09 [.s ns] = some (.v (.bool true), [])
theorem all_mk {l : PySem.W.OpenLaw} {w : World} {K : PySem.W.Frag} {h : Heap} {mg : Str → Option Value} {fa f0 f1 f2 f3 f4 f5 f6 f7 f8 f9 f10 f11 f12 f13 f14 f15 f16 f17 f18 f19 f20 f21 f22 f23 f24 f25 f26 f27 f28 f29 f30 f31 : Addr} (X : K.In h) (G : h.Ns mainGlobals mg) (hfa : mg "law" = some (.ref fa))
    {od0 an0 od1 an1 od2 an2 od3 an3 od4 an4 od5 an5 od6 an6 od7 an7 od8 an8 od9 an9 od10 an10 od11 an11 od12 an12 od13 an13 od14 an14 od15 an15 od16 an16 od17 an17 od18 an18 od19 an19 od20 an20 od21 an21 od22 an22 od23 an23 od24 an24 od25 an25 od26 an26 od27 an27 od28 an28 od29 an29 od30 an30 od31 an31 : Option Addr} {sl0 sl1 sl2 sl3 sl4 sl5 sl6 sl7 sl8 sl9 sl10 sl11 sl12 sl13 sl14 sl15 sl16 sl17 sl18 sl19 sl20 sl21 sl22 sl23 sl24 sl25 sl26 sl27 sl28 sl29 sl30 sl31 : Array (Option Value)} {oc0 kV0 dc0 pm0 cd0 ct0 oc1 kV1 dc1 pm1 cd1 ct1 oc2 kV2 dc2 pm2 cd2 ct2 oc3 kV3 dc3 pm3 cd3 ct3 oc4 kV4 dc4 pm4 cd4 ct4 oc5 kV5 dc5 pm5 cd5 ct5 oc6 kV6 dc6 pm6 cd6 ct6 oc7 kV7 dc7 pm7 cd7 ct7 oc8 kV8 dc8 pm8 cd8 ct8 oc9 kV9 dc9 pm9 cd9 ct9 oc10 kV10 dc10 pm10 cd10 ct10 oc11 kV11 dc11 pm11 cd11 ct11 oc12 kV12 dc12 pm12 cd12 ct12 oc13 kV13 dc13 pm13 cd13 ct13 oc14 kV14 dc14 pm14 cd14 ct14 oc15 kV15 dc15 pm15 cd15 ct15 oc16 kV16 dc16 pm16 cd16 ct16 oc17 kV17 dc17 pm17 cd17 ct17 oc18 kV18 dc18 pm18 cd18 ct18 oc19 kV19 dc19 pm19 cd19 ct19 oc20 kV20 dc20 pm20 cd20 ct20 oc21 kV21 dc21 pm21 cd21 ct21 oc22 kV22 dc22 pm22 cd22 ct22 oc23 kV23 dc23 pm23 cd23 ct23 oc24 kV24 dc24 pm24 cd24 ct24 oc25 kV25 dc25 pm25 cd25 ct25 oc26 kV26 dc26 pm26 cd26 ct26 oc27 kV27 dc27 pm27 cd27 ct27 oc28 kV28 dc28 pm28 cd28 ct28 oc29 kV29 dc29 pm29 cd29 ct29 oc30 kV30 dc30 pm30 cd30 ct30 oc31 kV31 dc31 pm31 cd31 ct31 : Value}
    (a0 : PySem.W.nsIn K mainGlobals "_law_draws" = some (some (.ref f0))) (l0 : K.lookup f0 = some ⟨oc0, od0, .func (PySem.W.fnOf "_law_draws" "_law_draws" (defArgs (topS 66)) (defBody (topS 66)) (defScope (topS 66)) .none kV0 dc0 pm0 an0 cd0 ct0), sl0⟩) (c0 : PySem.W.codeIn K cd0 "_law_draws" = true) (k0 : PySem.W.keepIn K (.ref f0) = true)
    (a1 : PySem.W.nsIn K mainGlobals "_law_pop" = some (some (.ref f1))) (l1 : K.lookup f1 = some ⟨oc1, od1, .func (PySem.W.fnOf "_law_pop" "_law_pop" (defArgs (topS 67)) (defBody (topS 67)) (defScope (topS 67)) .none kV1 dc1 pm1 an1 cd1 ct1), sl1⟩) (c1 : PySem.W.codeIn K cd1 "_law_pop" = true) (k1 : PySem.W.keepIn K (.ref f1) = true)
    (a2 : PySem.W.nsIn K mainGlobals "_law_cases" = some (some (.ref f2))) (l2 : K.lookup f2 = some ⟨oc2, od2, .func (PySem.W.fnOf "_law_cases" "_law_cases" (defArgs (topS 69)) (defBody (topS 69)) (defScope (topS 69)) .none kV2 dc2 pm2 an2 cd2 ct2), sl2⟩) (c2 : PySem.W.codeIn K cd2 "_law_cases" = true) (k2 : PySem.W.keepIn K (.ref f2) = true)
    (a3 : PySem.W.nsIn K mainGlobals "_law_want" = some (some (.ref f3))) (l3 : K.lookup f3 = some ⟨oc3, od3, .func (PySem.W.fnOf "_law_want" "_law_want" (defArgs (topS 68)) (defBody (topS 68)) (defScope (topS 68)) .none kV3 dc3 pm3 an3 cd3 ct3), sl3⟩) (c3 : PySem.W.codeIn K cd3 "_law_want" = true) (k3 : PySem.W.keepIn K (.ref f3) = true)
    (a4 : PySem.W.nsIn K mainGlobals "_law_content" = some (some (.ref f4))) (l4 : K.lookup f4 = some ⟨oc4, od4, .func (PySem.W.fnOf "_law_content" "_law_content" (defArgs (topS 70)) (defBody (topS 70)) (defScope (topS 70)) .none kV4 dc4 pm4 an4 cd4 ct4), sl4⟩) (c4 : PySem.W.codeIn K cd4 "_law_content" = true) (k4 : PySem.W.keepIn K (.ref f4) = true)
    (a5 : PySem.W.nsIn K mainGlobals "_law_price" = some (some (.ref f5))) (l5 : K.lookup f5 = some ⟨oc5, od5, .func (PySem.W.fnOf "_law_price" "_law_price" (defArgs (topS 71)) (defBody (topS 71)) (defScope (topS 71)) .none kV5 dc5 pm5 an5 cd5 ct5), sl5⟩) (c5 : PySem.W.codeIn K cd5 "_law_price" = true) (k5 : PySem.W.keepIn K (.ref f5) = true)
    (a6 : PySem.W.nsIn K mainGlobals "_law_tiers" = some (some (.ref f6))) (l6 : K.lookup f6 = some ⟨oc6, od6, .func (PySem.W.fnOf "_law_tiers" "_law_tiers" (defArgs (topS 72)) (defBody (topS 72)) (defScope (topS 72)) .none kV6 dc6 pm6 an6 cd6 ct6), sl6⟩) (c6 : PySem.W.codeIn K cd6 "_law_tiers" = true) (k6 : PySem.W.keepIn K (.ref f6) = true)
    (a7 : PySem.W.nsIn K mainGlobals "_law_shop" = some (some (.ref f7))) (l7 : K.lookup f7 = some ⟨oc7, od7, .func (PySem.W.fnOf "_law_shop" "_law_shop" (defArgs (topS 73)) (defBody (topS 73)) (defScope (topS 73)) .none kV7 dc7 pm7 an7 cd7 ct7), sl7⟩) (c7 : PySem.W.codeIn K cd7 "_law_shop" = true) (k7 : PySem.W.keepIn K (.ref f7) = true)
    (a8 : PySem.W.nsIn K mainGlobals "tiers_right" = some (some (.ref f8))) (l8 : K.lookup f8 = some ⟨oc8, od8, .func (PySem.W.fnOf "tiers_right" "tiers_right" (defArgs (topS 10)) (defBody (topS 10)) (defScope (topS 10)) .none kV8 dc8 pm8 an8 cd8 ct8), sl8⟩) (c8 : PySem.W.codeIn K cd8 "tiers_right" = true) (k8 : PySem.W.keepIn K (.ref f8) = true)
    (a9 : PySem.W.nsIn K mainGlobals "look" = some (some (.ref f9))) (l9 : K.lookup f9 = some ⟨oc9, od9, .func (PySem.W.fnOf "look" "look" (defArgs (topS 11)) (defBody (topS 11)) (defScope (topS 11)) .none kV9 dc9 pm9 an9 cd9 ct9), sl9⟩) (c9 : PySem.W.codeIn K cd9 "look" = true) (k9 : PySem.W.keepIn K (.ref f9) = true)
    (a10 : PySem.W.nsIn K mainGlobals "_law_which" = some (some (.ref f10))) (l10 : K.lookup f10 = some ⟨oc10, od10, .func (PySem.W.fnOf "_law_which" "_law_which" (defArgs (topS 74)) (defBody (topS 74)) (defScope (topS 74)) .none kV10 dc10 pm10 an10 cd10 ct10), sl10⟩) (c10 : PySem.W.codeIn K cd10 "_law_which" = true) (k10 : PySem.W.keepIn K (.ref f10) = true)
    (a11 : PySem.W.nsIn K mainGlobals "_law_refused" = some (some (.ref f11))) (l11 : K.lookup f11 = some ⟨oc11, od11, .func (PySem.W.fnOf "_law_refused" "_law_refused" (defArgs (topS 77)) (defBody (topS 77)) (defScope (topS 77)) .none kV11 dc11 pm11 an11 cd11 ct11), sl11⟩) (c11 : PySem.W.codeIn K cd11 "_law_refused" = true) (k11 : PySem.W.keepIn K (.ref f11) = true)
    (a12 : PySem.W.nsIn K mainGlobals "law" = some (some (.ref f12))) (l12 : K.lookup f12 = some ⟨oc12, od12, .func (PySem.W.fnOf "law" "law" (defArgs (topS 78)) (defBody (topS 78)) (defScope (topS 78)) .none kV12 dc12 pm12 an12 cd12 ct12), sl12⟩) (c12 : PySem.W.codeIn K cd12 "law" = true) (k12 : PySem.W.keepIn K (.ref f12) = true)
    (a13 : PySem.W.nsIn K mainGlobals "lines" = some (some (.ref f13))) (l13 : K.lookup f13 = some ⟨oc13, od13, .func (PySem.W.fnOf "lines" "lines" (defArgs (topS 14)) (defBody (topS 14)) (defScope (topS 14)) .none kV13 dc13 pm13 an13 cd13 ct13), sl13⟩) (c13 : PySem.W.codeIn K cd13 "lines" = true) (k13 : PySem.W.keepIn K (.ref f13) = true)
    (a14 : PySem.W.nsIn K mainGlobals "line_content" = some (some (.ref f14))) (l14 : K.lookup f14 = some ⟨oc14, od14, .func (PySem.W.fnOf "line_content" "line_content" (defArgs (topS 16)) (defBody (topS 16)) (defScope (topS 16)) .none kV14 dc14 pm14 an14 cd14 ct14), sl14⟩) (c14 : PySem.W.codeIn K cd14 "line_content" = true) (k14 : PySem.W.keepIn K (.ref f14) = true)
    (a15 : PySem.W.nsIn K mainGlobals "line_price" = some (some (.ref f15))) (l15 : K.lookup f15 = some ⟨oc15, od15, .func (PySem.W.fnOf "line_price" "line_price" (defArgs (topS 18)) (defBody (topS 18)) (defScope (topS 18)) .none kV15 dc15 pm15 an15 cd15 ct15), sl15⟩) (c15 : PySem.W.codeIn K cd15 "line_price" = true) (k15 : PySem.W.keepIn K (.ref f15) = true)
    (a16 : PySem.W.nsIn K mainGlobals "bought" = some (some (.ref f16))) (l16 : K.lookup f16 = some ⟨oc16, od16, .func (PySem.W.fnOf "bought" "bought" (defArgs (topS 19)) (defBody (topS 19)) (defScope (topS 19)) .none kV16 dc16 pm16 an16 cd16 ct16), sl16⟩) (c16 : PySem.W.codeIn K cd16 "bought" = true) (k16 : PySem.W.keepIn K (.ref f16) = true)
    (a17 : PySem.W.nsIn K mainGlobals "spared" = some (some (.ref f17))) (l17 : K.lookup f17 = some ⟨oc17, od17, .func (PySem.W.fnOf "spared" "spared" (defArgs (topS 54)) (defBody (topS 54)) (defScope (topS 54)) .none kV17 dc17 pm17 an17 cd17 ct17), sl17⟩) (c17 : PySem.W.codeIn K cd17 "spared" = true) (k17 : PySem.W.keepIn K (.ref f17) = true)
    (a18 : PySem.W.nsIn K mainGlobals "thinned" = some (some (.ref f18))) (l18 : K.lookup f18 = some ⟨oc18, od18, .func (PySem.W.fnOf "thinned" "thinned" (defArgs (topS 55)) (defBody (topS 55)) (defScope (topS 55)) .none kV18 dc18 pm18 an18 cd18 ct18), sl18⟩) (c18 : PySem.W.codeIn K cd18 "thinned" = true) (k18 : PySem.W.keepIn K (.ref f18) = true)
    (a19 : PySem.W.nsIn K mainGlobals "_law_asked_first" = some (some (.ref f19))) (l19 : K.lookup f19 = some ⟨oc19, od19, .func (PySem.W.fnOf "_law_asked_first" "_law_asked_first" (defArgs (topS 75)) (defBody (topS 75)) (defScope (topS 75)) .none kV19 dc19 pm19 an19 cd19 ct19), sl19⟩) (c19 : PySem.W.codeIn K cd19 "_law_asked_first" = true) (k19 : PySem.W.keepIn K (.ref f19) = true)
    (a20 : PySem.W.nsIn K mainGlobals "goods" = some (some (.ref f20))) (l20 : K.lookup f20 = some ⟨oc20, od20, .func (PySem.W.fnOf "goods" "goods" (defArgs (topS 24)) (defBody (topS 24)) (defScope (topS 24)) .none kV20 dc20 pm20 an20 cd20 ct20), sl20⟩) (c20 : PySem.W.codeIn K cd20 "goods" = true) (k20 : PySem.W.keepIn K (.ref f20) = true)
    (a21 : PySem.W.nsIn K mainGlobals "reckoned" = some (some (.ref f21))) (l21 : K.lookup f21 = some ⟨oc21, od21, .func (PySem.W.fnOf "reckoned" "reckoned" (defArgs (topS 26)) (defBody (topS 26)) (defScope (topS 26)) .none kV21 dc21 pm21 an21 cd21 ct21), sl21⟩) (c21 : PySem.W.codeIn K cd21 "reckoned" = true) (k21 : PySem.W.keepIn K (.ref f21) = true)
    (a22 : PySem.W.nsIn K mainGlobals "least" = some (some (.ref f22))) (l22 : K.lookup f22 = some ⟨oc22, od22, .func (PySem.W.fnOf "least" "least" (defArgs (topS 28)) (defBody (topS 28)) (defScope (topS 28)) .none kV22 dc22 pm22 an22 cd22 ct22), sl22⟩) (c22 : PySem.W.codeIn K cd22 "least" = true) (k22 : PySem.W.keepIn K (.ref f22) = true)
    (a23 : PySem.W.nsIn K mainGlobals "cases" = some (some (.ref f23))) (l23 : K.lookup f23 = some ⟨oc23, od23, .func (PySem.W.fnOf "cases" "cases" (defArgs (topS 30)) (defBody (topS 30)) (defScope (topS 30)) .none kV23 dc23 pm23 an23 cd23 ct23), sl23⟩) (c23 : PySem.W.codeIn K cd23 "cases" = true) (k23 : PySem.W.keepIn K (.ref f23) = true)
    (a24 : PySem.W.nsIn K mainGlobals "shows" = some (some (.ref f24))) (l24 : K.lookup f24 = some ⟨oc24, od24, .func (PySem.W.fnOf "shows" "shows" (defArgs (topS 32)) (defBody (topS 32)) (defScope (topS 32)) .none kV24 dc24 pm24 an24 cd24 ct24), sl24⟩) (c24 : PySem.W.codeIn K cd24 "shows" = true) (k24 : PySem.W.keepIn K (.ref f24) = true)
    (a25 : PySem.W.nsIn K mainGlobals "fair" = some (some (.ref f25))) (l25 : K.lookup f25 = some ⟨oc25, od25, .func (PySem.W.fnOf "fair" "fair" (defArgs (topS 40)) (defBody (topS 40)) (defScope (topS 40)) .none kV25 dc25 pm25 an25 cd25 ct25), sl25⟩) (c25 : PySem.W.codeIn K cd25 "fair" = true) (k25 : PySem.W.keepIn K (.ref f25) = true)
    (a26 : PySem.W.nsIn K mainGlobals "single_prices" = some (some (.ref f26))) (l26 : K.lookup f26 = some ⟨oc26, od26, .func (PySem.W.fnOf "single_prices" "single_prices" (defArgs (topS 43)) (defBody (topS 43)) (defScope (topS 43)) .none kV26 dc26 pm26 an26 cd26 ct26), sl26⟩) (c26 : PySem.W.codeIn K cd26 "single_prices" = true) (k26 : PySem.W.keepIn K (.ref f26) = true)
    (a27 : PySem.W.nsIn K mainGlobals "hold_together" = some (some (.ref f27))) (l27 : K.lookup f27 = some ⟨oc27, od27, .func (PySem.W.fnOf "hold_together" "hold_together" (defArgs (topS 46)) (defBody (topS 46)) (defScope (topS 46)) .none kV27 dc27 pm27 an27 cd27 ct27), sl27⟩) (c27 : PySem.W.codeIn K cd27 "hold_together" = true) (k27 : PySem.W.keepIn K (.ref f27) = true)
    (a28 : PySem.W.nsIn K mainGlobals "moves" = some (some (.ref f28))) (l28 : K.lookup f28 = some ⟨oc28, od28, .func (PySem.W.fnOf "moves" "moves" (defArgs (topS 59)) (defBody (topS 59)) (defScope (topS 59)) .none kV28 dc28 pm28 an28 cd28 ct28), sl28⟩) (c28 : PySem.W.codeIn K cd28 "moves" = true) (k28 : PySem.W.keepIn K (.ref f28) = true)
    (a29 : PySem.W.nsIn K mainGlobals "show_shop" = some (some (.ref f29))) (l29 : K.lookup f29 = some ⟨oc29, od29, .func (PySem.W.fnOf "show_shop" "show_shop" (defArgs (topS 64)) (defBody (topS 64)) (defScope (topS 64)) .none kV29 dc29 pm29 an29 cd29 ct29), sl29⟩) (c29 : PySem.W.codeIn K cd29 "show_shop" = true) (k29 : PySem.W.keepIn K (.ref f29) = true)
    (a30 : PySem.W.nsIn K mainGlobals "_law_asked" = some (some (.ref f30))) (l30 : K.lookup f30 = some ⟨oc30, od30, .func (PySem.W.fnOf "_law_asked" "_law_asked" (defArgs (topS 76)) (defBody (topS 76)) (defScope (topS 76)) .none kV30 dc30 pm30 an30 cd30 ct30), sl30⟩) (c30 : PySem.W.codeIn K cd30 "_law_asked" = true) (k30 : PySem.W.keepIn K (.ref f30) = true)
    (a31 : PySem.W.nsIn K mainGlobals "are_fair" = some (some (.ref f31))) (l31 : K.lookup f31 = some ⟨oc31, od31, .func (PySem.W.fnOf "are_fair" "are_fair" (defArgs (topS 39)) (defBody (topS 39)) (defScope (topS 39)) .none kV31 dc31 pm31 an31 cd31 ct31), sl31⟩) (c31 : PySem.W.codeIn K cd31 "are_fair" = true) (k31 : PySem.W.keepIn K (.ref f31) = true)
    (z_ValueError : PySem.W.nsIn K mainGlobals "ValueError" = some none)
    (z_all : PySem.W.nsIn K mainGlobals "all" = some none)
    (z_enumerate : PySem.W.nsIn K mainGlobals "enumerate" = some none)
    (z_isinstance : PySem.W.nsIn K mainGlobals "isinstance" = some none)
    (z_len : PySem.W.nsIn K mainGlobals "len" = some none)
    (z_max : PySem.W.nsIn K mainGlobals "max" = some none)
    (z_range : PySem.W.nsIn K mainGlobals "range" = some none)
    (z_str : PySem.W.nsIn K mainGlobals "str" = some none)
    (z_sum : PySem.W.nsIn K mainGlobals "sum" = some none)
    {t_MOST : Tok} (g_MOST : PySem.W.nsIn K mainGlobals "MOST" = some (some (.int 12 t_MOST)))
    {t_MOST_TIERS : Tok} (g_MOST_TIERS : PySem.W.nsIn K mainGlobals "MOST_TIERS" = some (some (.int 4 t_MOST_TIERS)))
    {C_NoLine : Addr} (nC_NoLine : PySem.W.nsIn K mainGlobals "NoLine" = some (some (.ref C_NoLine)))
    {C_NoOffer : Addr} (nC_NoOffer : PySem.W.nsIn K mainGlobals "NoOffer" = some (some (.ref C_NoOffer)))
    {C_NoPlace : Addr} (nC_NoPlace : PySem.W.nsIn K mainGlobals "NoPlace" = some (some (.ref C_NoPlace)))
    {C_NoText : Addr} (nC_NoText : PySem.W.nsIn K mainGlobals "NoText" = some (some (.ref C_NoText)))
    {C_NoThings : Addr} (nC_NoThings : PySem.W.nsIn K mainGlobals "NoThings" = some (some (.ref C_NoThings)))
    {C_PackError : Addr} (nC_PackError : PySem.W.nsIn K mainGlobals "PackError" = some (some (.ref C_PackError)))
    (hn0 : PySem.W.specialIn K (.builtin "object.__class__") "__get__" = some (some (.builtin "getset_descriptor.__get__"))) (ht0 : PySem.W.takesIn K (.builtin "object.__class__") = some true)
    (rd_PackError : PySem.W.readsIn K C_PackError (.type "type") = true) (sg_PackError : PySem.W.specialIn K (.ref C_PackError) "__getattribute__" = some (some (.builtin "type.__getattribute__"))) (fi_PackError : PySem.W.findCls K (.ref C_PackError) (.type "type") "__init__" = some (.val (.builtin "ValueError.__init__")))
    {I_NoOffer : Addr} {nm_NoOffer qn_NoOffer : Str} {NN_NoOffer : Addr} {bs_NoOffer : List Value} {sn_NoOffer : List Str} {su_NoOffer : List Value} {ab_NoOffer : Bool} {co_NoOffer : Option Bool} {dd_NoOffer : Option Addr} {m0_NoOffer m1_NoOffer m2_NoOffer m3_NoOffer m5_NoOffer : Option Value}
    {od_NoOffer an_NoOffer : Option Addr} {sl_NoOffer : Array (Option Value)} {oc_NoOffer kV_NoOffer dc_NoOffer pm_NoOffer cd_NoOffer ct_NoOffer : Value}
    (xL_NoOffer : K.lookup C_NoOffer = some (excClassObj nm_NoOffer qn_NoOffer C_NoOffer NN_NoOffer bs_NoOffer [.ref C_PackError, .type "ValueError", .type "Exception", .type "BaseException", .type "object"] true sn_NoOffer su_NoOffer ab_NoOffer co_NoOffer dd_NoOffer m0_NoOffer m1_NoOffer m2_NoOffer m3_NoOffer m5_NoOffer "ValueError.__new__"))
    (sa_NoOffer : PySem.W.findIn K (.ref C_NoOffer) "__setattr__" = some (some (.builtin "object.__setattr__"))) (ga_NoOffer : PySem.W.findIn K (.ref C_NoOffer) "__getattribute__" = some (some (.builtin "BaseException.__getattribute__"))) (gg_NoOffer : PySem.W.findIn K (.ref C_NoOffer) "__getattr__" = some none) (nf_NoOffer : PySem.W.findIn K (.ref C_NoOffer) "place" = some none) (in_NoOffer : PySem.W.findIn K (.ref C_NoOffer) "__init__" = some (some (.ref I_NoOffer))) (ca_NoOffer : PySem.W.findIn K (.ref C_NoOffer) "__class__" = some (some (.builtin "object.__class__")))
    (ti_NoOffer : PySem.W.typeIn K (.ref I_NoOffer) = some (.type "function")) (kC_NoOffer : PySem.W.keepIn K (.ref C_NoOffer) = true) (eC_NoOffer : PySem.W.subIn K (.ref C_NoOffer) (.type "BaseException") = some true) (tC_NoOffer : PySem.W.typeIn K (.ref C_NoOffer) = some (.type "type")) (hC_NoOffer : PySem.W.hasDictIn K C_NoOffer = true) (hm_NoOffer : PySem.W.mroIn K C_NoOffer (.type "object") = some true)
    (li_NoOffer : K.lookup I_NoOffer = some ⟨oc_NoOffer, od_NoOffer, .func (PySem.W.fnOf "__init__" "NoOffer.__init__" (defArgs (inCls (topS 2) 0)) (defBody (inCls (topS 2) 0)) (defScope (inCls (topS 2) 0)) .none kV_NoOffer dc_NoOffer pm_NoOffer an_NoOffer cd_NoOffer ct_NoOffer), sl_NoOffer⟩) (ci_NoOffer : PySem.W.codeIn K cd_NoOffer "NoOffer.__init__" = true) (ki_NoOffer : PySem.W.keepIn K (.ref I_NoOffer) = true)
    {I_NoText : Addr} {nm_NoText qn_NoText : Str} {NN_NoText : Addr} {bs_NoText : List Value} {sn_NoText : List Str} {su_NoText : List Value} {ab_NoText : Bool} {co_NoText : Option Bool} {dd_NoText : Option Addr} {m0_NoText m1_NoText m2_NoText m3_NoText m5_NoText : Option Value}
    {od_NoText an_NoText : Option Addr} {sl_NoText : Array (Option Value)} {oc_NoText kV_NoText dc_NoText pm_NoText cd_NoText ct_NoText : Value}
    (xL_NoText : K.lookup C_NoText = some (excClassObj nm_NoText qn_NoText C_NoText NN_NoText bs_NoText [.ref C_PackError, .type "ValueError", .type "Exception", .type "BaseException", .type "object"] true sn_NoText su_NoText ab_NoText co_NoText dd_NoText m0_NoText m1_NoText m2_NoText m3_NoText m5_NoText "ValueError.__new__"))
    (sa_NoText : PySem.W.findIn K (.ref C_NoText) "__setattr__" = some (some (.builtin "object.__setattr__"))) (ga_NoText : PySem.W.findIn K (.ref C_NoText) "__getattribute__" = some (some (.builtin "BaseException.__getattribute__"))) (gg_NoText : PySem.W.findIn K (.ref C_NoText) "__getattr__" = some none) (nf_NoText : PySem.W.findIn K (.ref C_NoText) "row" = some none) (in_NoText : PySem.W.findIn K (.ref C_NoText) "__init__" = some (some (.ref I_NoText))) (ca_NoText : PySem.W.findIn K (.ref C_NoText) "__class__" = some (some (.builtin "object.__class__")))
    (ti_NoText : PySem.W.typeIn K (.ref I_NoText) = some (.type "function")) (kC_NoText : PySem.W.keepIn K (.ref C_NoText) = true) (eC_NoText : PySem.W.subIn K (.ref C_NoText) (.type "BaseException") = some true) (tC_NoText : PySem.W.typeIn K (.ref C_NoText) = some (.type "type")) (hC_NoText : PySem.W.hasDictIn K C_NoText = true) (hm_NoText : PySem.W.mroIn K C_NoText (.type "object") = some true)
    (li_NoText : K.lookup I_NoText = some ⟨oc_NoText, od_NoText, .func (PySem.W.fnOf "__init__" "NoText.__init__" (defArgs (inCls (topS 3) 0)) (defBody (inCls (topS 3) 0)) (defScope (inCls (topS 3) 0)) .none kV_NoText dc_NoText pm_NoText an_NoText cd_NoText ct_NoText), sl_NoText⟩) (ci_NoText : PySem.W.codeIn K cd_NoText "NoText.__init__" = true) (ki_NoText : PySem.W.keepIn K (.ref I_NoText) = true)
    (tC_NoLine : PySem.W.typeIn K (.ref C_NoLine) = some (.type "type")) (hC_NoLine : PySem.W.hasDictIn K C_NoLine = true) (eC_NoLine : PySem.W.subIn K (.ref C_NoLine) (.type "BaseException") = some true)
    (tC_NoPlace : PySem.W.typeIn K (.ref C_NoPlace) = some (.type "type")) (hC_NoPlace : PySem.W.hasDictIn K C_NoPlace = true) (eC_NoPlace : PySem.W.subIn K (.ref C_NoPlace) (.type "BaseException") = some true)
    (tC_NoThings : PySem.W.typeIn K (.ref C_NoThings) = some (.type "type")) (hC_NoThings : PySem.W.hasDictIn K C_NoThings = true) (eC_NoThings : PySem.W.subIn K (.ref C_NoThings) (.type "BaseException") = some true)
    (tC_PackError : PySem.W.typeIn K (.ref C_PackError) = some (.type "type")) (hC_PackError : PySem.W.hasDictIn K C_PackError = true) (eC_PackError : PySem.W.subIn K (.ref C_PackError) (.type "BaseException") = some true)
    (sb_NoLine_NoOffer : PySem.W.subIn K (.ref C_NoOffer) (.ref C_NoLine) = some false)
    (sb_NoLine_NoText : PySem.W.subIn K (.ref C_NoText) (.ref C_NoLine) = some false)
    (sb_NoOffer_NoOffer : PySem.W.subIn K (.ref C_NoOffer) (.ref C_NoOffer) = some true)
    (sb_NoOffer_NoText : PySem.W.subIn K (.ref C_NoText) (.ref C_NoOffer) = some false)
    (sb_NoPlace_NoOffer : PySem.W.subIn K (.ref C_NoOffer) (.ref C_NoPlace) = some false)
    (sb_NoPlace_NoText : PySem.W.subIn K (.ref C_NoText) (.ref C_NoPlace) = some false)
    (sb_NoText_NoOffer : PySem.W.subIn K (.ref C_NoOffer) (.ref C_NoText) = some false)
    (sb_NoText_NoText : PySem.W.subIn K (.ref C_NoText) (.ref C_NoText) = some true)
    (sb_NoThings_NoOffer : PySem.W.subIn K (.ref C_NoOffer) (.ref C_NoThings) = some false)
    (sb_NoThings_NoText : PySem.W.subIn K (.ref C_NoText) (.ref C_NoThings) = some false)
    (sb_PackError_NoOffer : PySem.W.subIn K (.ref C_NoOffer) (.ref C_PackError) = some true)
    (sb_PackError_NoText : PySem.W.subIn K (.ref C_NoText) (.ref C_PackError) = some true)
    (sb_ValueError_NoOffer : PySem.W.subIn K (.ref C_NoOffer) (.type "ValueError") = some true)
    (sb_ValueError_NoText : PySem.W.subIn K (.ref C_NoText) (.type "ValueError") = some true) :
    ∃ fd : FuncData, (∀ (s : Shared) (v : Value), BindsTo s fd ⟨[v], []⟩ [("_law_script", v)]) ∧ ∀ base : Heap, K.In base → base.Ns mainGlobals mg → FnG l.prog w K mg base CX0 10 fa fd ["_law_script"] (spOf K (List.replicate 1 false) sem_law_k09) := by
  have e := hfa.symm.trans (PySem.W.mg_of X G a12)
  cases e
  have B : Bl mg := ⟨PySem.W.mg_none_of X G z_ValueError, PySem.W.mg_none_of X G z_all, PySem.W.mg_none_of X G z_enumerate, PySem.W.mg_none_of X G z_isinstance, PySem.W.mg_none_of X G z_len, PySem.W.mg_none_of X G z_max, PySem.W.mg_none_of X G z_range, PySem.W.mg_none_of X G z_str, PySem.W.mg_none_of X G z_sum, ⟨_, PySem.W.mg_of X G g_MOST⟩, ⟨_, PySem.W.mg_of X G g_MOST_TIERS⟩⟩
  have hE_NoOffer : ExcC K C_NoOffer := ⟨ga_NoOffer, gg_NoOffer, eC_NoOffer, hC_NoOffer, ca_NoOffer, hn0, ht0, hm_NoOffer⟩
  have hX_NoOffer : XfC K C_NoOffer := ⟨ga_NoOffer, gg_NoOffer, eC_NoOffer, hC_NoOffer⟩
  have hO_NoOffer : OexC K C_NoOffer := ⟨⟨_, _, _, _, _, _, _, _, _, _, _, _, _, _, _, xL_NoOffer, show PySem.HandSPX.refsVE [.type "ValueError", .type "Exception", .type "BaseException", .type "object"] = true from by decide +kernel⟩, sa_NoOffer, eC_NoOffer, tC_NoOffer, kC_NoOffer⟩
  have hE_NoText : ExcC K C_NoText := ⟨ga_NoText, gg_NoText, eC_NoText, hC_NoText, ca_NoText, hn0, ht0, hm_NoText⟩
  have hX_NoText : XfC K C_NoText := ⟨ga_NoText, gg_NoText, eC_NoText, hC_NoText⟩
  have hO_NoText : OexC K C_NoText := ⟨⟨_, _, _, _, _, _, _, _, _, _, _, _, _, _, _, xL_NoText, show PySem.HandSPX.refsVE [.type "ValueError", .type "Exception", .type "BaseException", .type "object"] = true from by decide +kernel⟩, sa_NoText, eC_NoText, tC_NoText, kC_NoText⟩
  have t_PackError : TryC K mg "PackError" ["NoOffer"] := ⟨⟨C_PackError, PySem.W.mg_of X G nC_PackError, fun y hy C hC => by rcases List.mem_cons.mp hy with z | hy; (cases z; (cases nsIn_inj hC nC_NoOffer; exact PySem.W.exm_ref eC_PackError hC_PackError tC_PackError sb_PackError_NoOffer)); cases hy⟩⟩
  have i_NoText : IsO K mg "NoText" [("NoOffer", false), ("NoText", true)] := ⟨⟨C_NoText, PySem.W.mg_of X G nC_NoText, fun c b hl C hC => by have hm := mem_lookup hl; rcases List.mem_cons.mp hm with z | hm; (cases z; (cases nsIn_inj hC nC_NoOffer; exact ⟨hE_NoOffer, kitX_own hO_NoOffer hC_NoText tC_NoText sb_NoText_NoOffer⟩)); rcases List.mem_cons.mp hm with z | hm; (cases z; (cases nsIn_inj hC nC_NoText; exact ⟨hE_NoText, kitX_own hO_NoText hC_NoText tC_NoText sb_NoText_NoText⟩)); cases hm⟩⟩
  have i_NoPlace : IsO K mg "NoPlace" [("NoOffer", false), ("NoText", false)] := ⟨⟨C_NoPlace, PySem.W.mg_of X G nC_NoPlace, fun c b hl C hC => by have hm := mem_lookup hl; rcases List.mem_cons.mp hm with z | hm; (cases z; (cases nsIn_inj hC nC_NoOffer; exact ⟨hE_NoOffer, kitX_own hO_NoOffer hC_NoPlace tC_NoPlace sb_NoPlace_NoOffer⟩)); rcases List.mem_cons.mp hm with z | hm; (cases z; (cases nsIn_inj hC nC_NoText; exact ⟨hE_NoText, kitX_own hO_NoText hC_NoPlace tC_NoPlace sb_NoPlace_NoText⟩)); cases hm⟩⟩
  have i_NoOffer : IsO K mg "NoOffer" [("NoOffer", true), ("NoText", false)] := ⟨⟨C_NoOffer, PySem.W.mg_of X G nC_NoOffer, fun c b hl C hC => by have hm := mem_lookup hl; rcases List.mem_cons.mp hm with z | hm; (cases z; (cases nsIn_inj hC nC_NoOffer; exact ⟨hE_NoOffer, kitX_own hO_NoOffer hC_NoOffer tC_NoOffer sb_NoOffer_NoOffer⟩)); rcases List.mem_cons.mp hm with z | hm; (cases z; (cases nsIn_inj hC nC_NoText; exact ⟨hE_NoText, kitX_own hO_NoText hC_NoOffer tC_NoOffer sb_NoOffer_NoText⟩)); cases hm⟩⟩
  have i_NoLine : IsO K mg "NoLine" [("NoOffer", false), ("NoText", false)] := ⟨⟨C_NoLine, PySem.W.mg_of X G nC_NoLine, fun c b hl C hC => by have hm := mem_lookup hl; rcases List.mem_cons.mp hm with z | hm; (cases z; (cases nsIn_inj hC nC_NoOffer; exact ⟨hE_NoOffer, kitX_own hO_NoOffer hC_NoLine tC_NoLine sb_NoLine_NoOffer⟩)); rcases List.mem_cons.mp hm with z | hm; (cases z; (cases nsIn_inj hC nC_NoText; exact ⟨hE_NoText, kitX_own hO_NoText hC_NoLine tC_NoLine sb_NoLine_NoText⟩)); cases hm⟩⟩
  have i_NoThings : IsO K mg "NoThings" [("NoOffer", false), ("NoText", false)] := ⟨⟨C_NoThings, PySem.W.mg_of X G nC_NoThings, fun c b hl C hC => by have hm := mem_lookup hl; rcases List.mem_cons.mp hm with z | hm; (cases z; (cases nsIn_inj hC nC_NoOffer; exact ⟨hE_NoOffer, kitX_own hO_NoOffer hC_NoThings tC_NoThings sb_NoThings_NoOffer⟩)); rcases List.mem_cons.mp hm with z | hm; (cases z; (cases nsIn_inj hC nC_NoText; exact ⟨hE_NoText, kitX_own hO_NoText hC_NoThings tC_NoThings sb_NoThings_NoText⟩)); cases hm⟩⟩
  have i_PackError : IsO K mg "PackError" [("NoOffer", true), ("NoText", true)] := ⟨⟨C_PackError, PySem.W.mg_of X G nC_PackError, fun c b hl C hC => by have hm := mem_lookup hl; rcases List.mem_cons.mp hm with z | hm; (cases z; (cases nsIn_inj hC nC_NoOffer; exact ⟨hE_NoOffer, kitX_own hO_NoOffer hC_PackError tC_PackError sb_PackError_NoOffer⟩)); rcases List.mem_cons.mp hm with z | hm; (cases z; (cases nsIn_inj hC nC_NoText; exact ⟨hE_NoText, kitX_own hO_NoText hC_PackError tC_PackError sb_PackError_NoText⟩)); cases hm⟩⟩
  have i_ValueError : IsB K "ValueError" [("NoOffer", true), ("NoText", true)] := ⟨fun c b hl C hC => by have hm := mem_lookup hl; rcases List.mem_cons.mp hm with z | hm; (cases z; (cases nsIn_inj hC nC_NoOffer; exact ⟨hE_NoOffer, kitX_ty (by decide +kernel) sb_ValueError_NoOffer⟩)); rcases List.mem_cons.mp hm with z | hm; (cases z; (cases nsIn_inj hC nC_NoText; exact ⟨hE_NoText, kitX_ty (by decide +kernel) sb_ValueError_NoText⟩)); cases hm⟩
  have f_place : FldC K "place" ["NoOffer"] := ⟨fun c C hC hc => by have hm := List.contains_iff_mem.mp hc; rcases List.mem_cons.mp hm with z | hm; (cases z; (cases nsIn_inj hC nC_NoOffer; exact ⟨hX_NoOffer, nf_NoOffer⟩)); cases hm⟩
  have F0 := fun_mk (st := topS 66) l0 c0 k0
  have b0 := F0.binds (ps := ["_law_script", "_law_turn", "_law_many"]) fun _ _ _ _ _ _ us hl => match us, hl with | [_, _, _], _ => rfl
  have F1 := fun_mk (st := topS 67) l1 c1 k1
  have b1 := F1.binds (ps := ["_law_draws_here"]) fun _ _ _ _ _ _ us hl => match us, hl with | [_], _ => rfl
  have F2 := fun_mk (st := topS 69) l2 c2 k2
  have b2 := F2.binds (ps := ["_law_want_here"]) fun _ _ _ _ _ _ us hl => match us, hl with | [_], _ => rfl
  have F3 := fun_mk (st := topS 68) l3 c3 k3
  have b3 := F3.binds (ps := ["_law_draws_here", "_law_many"]) fun _ _ _ _ _ _ us hl => match us, hl with | [_, _], _ => rfl
  have F4 := fun_mk (st := topS 70) l4 c4 k4
  have b4 := F4.binds (ps := ["_law_draws_here", "_law_many"]) fun _ _ _ _ _ _ us hl => match us, hl with | [_, _], _ => rfl
  have F5 := fun_mk (st := topS 71) l5 c5 k5
  have b5 := F5.binds (ps := ["_law_draws_here"]) fun _ _ _ _ _ _ us hl => match us, hl with | [_], _ => rfl
  have F6 := fun_mk (st := topS 72) l6 c6 k6
  have b6 := F6.binds (ps := ["_law_draws_here"]) fun _ _ _ _ _ _ us hl => match us, hl with | [_], _ => rfl
  have F7 := fun_mk (st := topS 73) l7 c7 k7
  have b7 := F7.binds (ps := ["_law_draws_here", "_law_many", "_law_most"]) fun _ _ _ _ _ _ us hl => match us, hl with | [_, _, _], _ => rfl
  have F8 := fun_mk (st := topS 10) l8 c8 k8
  have b8 := F8.binds (ps := ["tiers"]) fun _ _ _ _ _ _ us hl => match us, hl with | [_], _ => rfl
  have F9 := fun_mk (st := topS 11) l9 c9 k9
  have b9 := F9.binds (ps := ["shop"]) fun _ _ _ _ _ _ us hl => match us, hl with | [_], _ => rfl
  have F10 := fun_mk (st := topS 74) l10 c10 k10
  have b10 := F10.binds (ps := ["_law_e"]) fun _ _ _ _ _ _ us hl => match us, hl with | [_], _ => rfl
  have F11 := fun_mk (st := topS 77) l11 c11 k11
  have b11 := F11.binds (ps := ["_law_way", "_law_shop_here", "_law_want_here", "_law_place"]) fun _ _ _ _ _ _ us hl => match us, hl with | [_, _, _, _], _ => rfl
  have F13 := fun_mk (st := topS 14) l13 c13 k13
  have b13 := F13.binds (ps := ["shop"]) fun _ _ _ _ _ _ us hl => match us, hl with | [_], _ => rfl
  have F14 := fun_mk (st := topS 16) l14 c14 k14
  have b14 := F14.binds (ps := ["shop", "line"]) fun _ _ _ _ _ _ us hl => match us, hl with | [_, _], _ => rfl
  have F15 := fun_mk (st := topS 18) l15 c15 k15
  have b15 := F15.binds (ps := ["shop", "line"]) fun _ _ _ _ _ _ us hl => match us, hl with | [_, _], _ => rfl
  have F16 := fun_mk (st := topS 19) l16 c16 k16
  have b16 := F16.binds (ps := ["shop", "purchase"]) fun _ _ _ _ _ _ us hl => match us, hl with | [_, _], _ => rfl
  have F17 := fun_mk (st := topS 54) l17 c17 k17
  have b17 := F17.binds (ps := ["shop"]) fun _ _ _ _ _ _ us hl => match us, hl with | [_], _ => rfl
  have F18 := fun_mk (st := topS 55) l18 c18 k18
  have b18 := F18.binds (ps := ["shop"]) fun _ _ _ _ _ _ us hl => match us, hl with | [_], _ => rfl
  have F19 := fun_mk (st := topS 75) l19 c19 k19
  have b19 := F19.binds (ps := ["_law_way", "_law_shop_here"]) fun _ _ _ _ _ _ us hl => match us, hl with | [_, _], _ => rfl
  have F20 := fun_mk (st := topS 24) l20 c20 k20
  have b20 := F20.binds (ps := ["shop"]) fun _ _ _ _ _ _ us hl => match us, hl with | [_], _ => rfl
  have F21 := fun_mk (st := topS 26) l21 c21 k21
  have b21 := F21.binds (ps := ["shop", "want"]) fun _ _ _ _ _ _ us hl => match us, hl with | [_, _], _ => rfl
  have F22 := fun_mk (st := topS 28) l22 c22 k22
  have b22 := F22.binds (ps := ["shop", "want"]) fun _ _ _ _ _ _ us hl => match us, hl with | [_, _], _ => rfl
  have F23 := fun_mk (st := topS 30) l23 c23 k23
  have b23 := F23.binds (ps := ["shop", "want"]) fun _ _ _ _ _ _ us hl => match us, hl with | [_, _], _ => rfl
  have F24 := fun_mk (st := topS 32) l24 c24 k24
  have b24 := F24.binds (ps := ["shop", "want", "table"]) fun _ _ _ _ _ _ us hl => match us, hl with | [_, _, _], _ => rfl
  have F25 := fun_mk (st := topS 40) l25 c25 k25
  have b25 := F25.binds (ps := ["shop", "prices"]) fun _ _ _ _ _ _ us hl => match us, hl with | [_, _], _ => rfl
  have F26 := fun_mk (st := topS 43) l26 c26 k26
  have b26 := F26.binds (ps := ["shop", "want"]) fun _ _ _ _ _ _ us hl => match us, hl with | [_, _], _ => rfl
  have F27 := fun_mk (st := topS 46) l27 c27 k27
  have b27 := F27.binds (ps := ["shop", "want", "told"]) fun _ _ _ _ _ _ us hl => match us, hl with | [_, _, _], _ => rfl
  have F28 := fun_mk (st := topS 59) l28 c28 k28
  have b28 := F28.binds (ps := ["shop", "want", "place"]) fun _ _ _ _ _ _ us hl => match us, hl with | [_, _, _], _ => rfl
  have F29 := fun_mk (st := topS 64) l29 c29 k29
  have b29 := F29.binds (ps := ["names", "shop"]) fun _ _ _ _ _ _ us hl => match us, hl with | [_, _], _ => rfl
  have F30 := fun_mk (st := topS 76) l30 c30 k30
  have b30 := F30.binds (ps := ["_law_way", "_law_shop_here", "_law_want_here"]) fun _ _ _ _ _ _ us hl => match us, hl with | [_, _, _], _ => rfl
  have n_are_fair : NmF K mg "are_fair" := ⟨⟨f31, PySem.W.mg_of X G a31, k31⟩⟩
  have FI_NoOffer := fun_mk (st := inCls (topS 2) 0) li_NoOffer ci_NoOffer ki_NoOffer
  have bI_NoOffer := FI_NoOffer.binds (ps := ["self", "place"]) fun _ _ _ _ _ _ us hl => match us, hl with | [_, _], _ => rfl
  refine ⟨PySem.W.fnOf "law" "law" (defArgs (topS 78)) (defBody (topS 78)) (defScope (topS 78)) .none kV12 dc12 pm12 an12 cd12 ct12, fun s v => .of_eq rfl, fun base _ _ => ?_⟩
  have e_NoOffer : ErrC l.prog w K mg base 1 "NoOffer" "place" := ⟨⟨C_NoOffer, I_NoOffer, _, "place", nC_NoOffer, PySem.W.mg_of X G nC_NoOffer, hO_NoOffer, in_NoOffer, ti_NoOffer, oki_NoOffer FI_NoOffer (PySem.W.mg_of X G nC_PackError) ⟨rd_PackError, sg_PackError⟩ fi_PackError B.z_str, bI_NoOffer, nf_NoOffer⟩⟩
  have c__law_draws : Cal l.prog w K mg base 1 "_law_draws" ["_law_script", "_law_turn", "_law_many"] (spOf K (List.replicate 3 false) sem__law_draws_e473) := .mk' (ok__law_draws_e473 F0 ⟨B, trivial⟩) (PySem.W.mg_of X G a0) k0 b0
  have c__law_pop : Cal l.prog w K mg base 1 "_law_pop" ["_law_draws_here"] (spOf K [true] sem__law_pop) := .mk' (ok__law_pop F1 ⟨B, trivial⟩) (PySem.W.mg_of X G a1) k1 b1
  have c__law_cases : Cal l.prog w K mg base 1 "_law_cases" ["_law_want_here"] (spOf K (List.replicate 1 false) sem__law_cases) := .mk' (ok__law_cases F2 ⟨B, trivial⟩) (PySem.W.mg_of X G a2) k2 b2
  have c__law_want : Cal l.prog w K mg base 2 "_law_want" ["_law_draws_here", "_law_many"] (spOf K [true, false] sem__law_want_aecb) := .mk' (ok__law_want_aecb F3 ⟨B, c__law_pop, c__law_cases⟩) (PySem.W.mg_of X G a3) k3 b3
  have c__law_content : Cal l.prog w K mg base 3 "_law_content" ["_law_draws_here", "_law_many"] (spOf K [true, false] sem__law_content_9bc7) := .mk' (ok__law_content_9bc7 F4 ⟨B, c__law_want, c__law_pop⟩) (PySem.W.mg_of X G a4) k4 b4
  have c__law_price : Cal l.prog w K mg base 2 "_law_price" ["_law_draws_here"] (spOf K [true] sem__law_price_9bd3) := .mk' (ok__law_price_9bd3 F5 ⟨B, c__law_pop⟩) (PySem.W.mg_of X G a5) k5 b5
  have c__law_tiers : Cal l.prog w K mg base 3 "_law_tiers" ["_law_draws_here"] (spOf K [true] sem__law_tiers_278e) := .mk' (ok__law_tiers_278e F6 ⟨B, c__law_pop, c__law_price⟩) (PySem.W.mg_of X G a6) k6 b6
  have c__law_shop : Cal l.prog w K mg base 4 "_law_shop" ["_law_draws_here", "_law_many", "_law_most"] (spOf K [true, false, false] sem__law_shop_0742) := .mk' (ok__law_shop_0742 F7 ⟨B, c__law_pop, c__law_content, c__law_price, c__law_tiers⟩) (PySem.W.mg_of X G a7) k7 b7
  have c_tiers_right : Cal l.prog w K mg base 1 "tiers_right" ["tiers"] (spOf K (List.replicate 1 false) sem_tiers_right) := .mk' (ok_tiers_right F8 ⟨B, trivial⟩) (PySem.W.mg_of X G a8) k8 b8
  have c_look : Cal l.prog w K mg base 2 "look" ["shop"] (spOf K (List.replicate 1 false) sem_look) := .mk' (ok_look F9 ⟨B, c_tiers_right⟩) (PySem.W.mg_of X G a9) k9 b9
  have c__law_which : Cal l.prog w K mg base 1 "_law_which" ["_law_e"] (spOf K (List.replicate 1 false) sem__law_which) := .mk' (ok__law_which F10 ⟨B, i_NoText, i_NoPlace, i_NoOffer, i_NoLine, i_NoThings, i_PackError, i_ValueError⟩) (PySem.W.mg_of X G a10) k10 b10
  have x_look : CalX l.prog w K mg base 3 "look" ["shop"] (spX K 1 xr_look) := .mk' (okx_look F9 ⟨B, c_tiers_right, e_NoOffer⟩) (PySem.W.mg_of X G a9) k9 b9
  have x_lines : CalX l.prog w K mg base 4 "lines" ["shop"] (spX K 1 xr_lines) := .mk' (okx_lines F13 ⟨B, x_look⟩) (PySem.W.mg_of X G a13) k13 b13
  have x_line_content : CalX l.prog w K mg base 4 "line_content" ["shop", "line"] (spX K 2 xr_line_content) := .mk' (okx_line_content F14 ⟨B, x_look⟩) (PySem.W.mg_of X G a14) k14 b14
  have x_line_price : CalX l.prog w K mg base 4 "line_price" ["shop", "line"] (spX K 2 xr_line_price) := .mk' (okx_line_price F15 ⟨B, x_look⟩) (PySem.W.mg_of X G a15) k15 b15
  have x_bought : CalX l.prog w K mg base 4 "bought" ["shop", "purchase"] (spX K 2 xr_bought) := .mk' (okx_bought F16 ⟨B, x_look⟩) (PySem.W.mg_of X G a16) k16 b16
  have x_spared : CalX l.prog w K mg base 4 "spared" ["shop"] (spX K 1 xr_spared) := .mk' (okx_spared F17 ⟨B, x_look⟩) (PySem.W.mg_of X G a17) k17 b17
  have x_thinned : CalX l.prog w K mg base 4 "thinned" ["shop"] (spX K 1 xr_thinned) := .mk' (okx_thinned F18 ⟨B, x_look⟩) (PySem.W.mg_of X G a18) k18 b18
  have x__law_asked_first : CalX l.prog w K mg base 5 "_law_asked_first" ["_law_way", "_law_shop_here"] (spX K 2 xr__law_asked_first) := .mk' (okx__law_asked_first F19 ⟨B, x_lines, x_line_content, x_line_price, x_bought, x_spared, x_thinned⟩) (PySem.W.mg_of X G a19) k19 b19
  have x_goods : CalX l.prog w K mg base 5 "goods" ["shop"] (spX K 1 xr_goods) := .mk' (okx_goods F20 ⟨B, x_lines⟩) (PySem.W.mg_of X G a20) k20 b20
  have x_reckoned : CalX l.prog w K mg base 6 "reckoned" ["shop", "want"] (spX K 2 xr_reckoned) := .mk' (okx_reckoned F21 ⟨B, x_goods⟩) (PySem.W.mg_of X G a21) k21 b21
  have x_least : CalX l.prog w K mg base 7 "least" ["shop", "want"] (spX K 2 xr_least) := .mk' (okx_least F22 ⟨B, x_reckoned⟩) (PySem.W.mg_of X G a22) k22 b22
  have x_cases : CalX l.prog w K mg base 7 "cases" ["shop", "want"] (spX K 2 xr_cases) := .mk' (okx_cases F23 ⟨B, x_reckoned⟩) (PySem.W.mg_of X G a23) k23 b23
  have x_shows : CalX l.prog w K mg base 6 "shows" ["shop", "want", "table"] (spX K 3 xr_shows) := .mk' (okx_shows F24 ⟨B, x_goods⟩) (PySem.W.mg_of X G a24) k24 b24
  have x_fair : CalX l.prog w K mg base 6 "fair" ["shop", "prices"] (spX K 2 xr_fair) := .mk' (okx_fair F25 ⟨B, x_goods, n_are_fair⟩) (PySem.W.mg_of X G a25) k25 b25
  have x_single_prices : CalX l.prog w K mg base 6 "single_prices" ["shop", "want"] (spX K 2 xr_single_prices) := .mk' (okx_single_prices F26 ⟨B, x_goods⟩) (PySem.W.mg_of X G a26) k26 b26
  have x_hold_together : CalX l.prog w K mg base 6 "hold_together" ["shop", "want", "told"] (spX K 3 xr_hold_together) := .mk' (okx_hold_together F27 ⟨B, x_goods⟩) (PySem.W.mg_of X G a27) k27 b27
  have x_moves : CalX l.prog w K mg base 4 "moves" ["shop", "want", "place"] (spX K 3 xr_moves) := .mk' (okx_moves F28 ⟨B, x_look⟩) (PySem.W.mg_of X G a28) k28 b28
  have x_show_shop : CalX l.prog w K mg base 4 "show_shop" ["names", "shop"] (spX K 2 xr_show_shop) := .mk' (okx_show_shop F29 ⟨B, x_look⟩) (PySem.W.mg_of X G a29) k29 b29
  have x__law_asked : CalX l.prog w K mg base 8 "_law_asked" ["_law_way", "_law_shop_here", "_law_want_here"] (spX K 3 xr__law_asked_0a4b) := .mk' (okx__law_asked_0a4b F30 ⟨B, x__law_asked_first, x_least, x_cases, x_shows, x_fair, x_single_prices, x_hold_together, x_moves, x_show_shop⟩) (PySem.W.mg_of X G a30) k30 b30
  have c__law_refused : Cal l.prog w K mg base 9 "_law_refused" ["_law_way", "_law_shop_here", "_law_want_here", "_law_place"] (spOf K (List.replicate 4 false) sem__law_refused_a221) := .mk' (ok__law_refused_a221 F11 ⟨B, c__law_which, x__law_asked, t_PackError, f_place⟩) (PySem.W.mg_of X G a11) k11 b11
  exact ok_law_k09 (fun_mk (st := topS 78) l12 c12 k12) ⟨B, c__law_draws, c__law_pop, c__law_shop, c_look, c__law_want, c__law_content, c__law_refused⟩
theorem law_sp {K : PySem.W.Frag} (hL : LawTrue) (a : Addr) (ns : List Int) (hl : ns.length ≤ 63) (H : Hp) (hS : SqL K H a (ns.map V.int)) (Q : VK) (E : XK) (hQ : ∀ H', Q (.bl true) H') : spOf K (List.replicate 1 false) sem_law_k09 [.ref a] H Q E := by
  refine ⟨H, H, [.s ns], _, [], rfl, rfl, ⟨.refl _, .refl _, fun p o e => .inl e, .refl _, [], .cons (T1 := []) (.s hS) .nil, .nil, fun p hp => nomatch hp⟩, hL ns hl, fun F' H' v r => ?_⟩
  obtain rfl := df_bool (Rel.dp r)
  exact hQ H'
end K09

set_option Elab.async false
set_option linter.all false
set_option maxRecDepth 100000
set_option maxHeartbeats 4000000
namespace K09
open PySem L2 Dn
theorem spoilt_first {n : Nat} {sh : List Off} (hg : Good n sh) {a : Nat} (ha : a ≤ sh.length) {o : Off} (hbad : goodAt (sh.take a ++ [o]) a o = false) : firstBad (sh.take a ++ [o]) = some a := by
  have hl : (sh.take a).length = a := by rw [List.length_take]; omega
  unfold firstBad
  rw [List.zipIdx_append, List.find?_append]
  have h1 : ((sh.take a).zipIdx 0).find? (fun p => !goodAt (sh.take a ++ [o]) p.2 p.1) = none := by
    rw [List.find?_eq_none]
    rintro ⟨x, i⟩ hp
    have hx := zipIdx_get hp
    simp only at hx
    have hi : i < a := by
      have := (List.getElem?_eq_some_iff.mp hx).1
      omega
    rw [List.getElem?_take_of_lt hi] at hx
    have hk := (hg i x hx).kind
    have : goodAt (sh.take a ++ [o]) i x = true := by
      cases x with
      | pack c p => rfl
      | many c ts =>
        simp only at hk
        have h1 := tiersR_ok ts hk
        have h2 := tiersR_any ts (by have := hk.len.2; omega)
        rw [h1] at h2
        simp only [Option.some.injEq, Prod.mk.injEq, O.v.injEq, PyData.bool.injEq, and_true] at h2
        exact h2.symm
      | add c p k =>
        simp only at hk
        obtain ⟨-, k0, ki, c', p', hk'⟩ := hk
        have hka : k.toNat < a := by omega
        have : (sh.take a ++ [o])[k.toNat]? = some (.pack c' p') := by
          rw [List.getElem?_append_left (by omega), List.getElem?_take_of_lt hka]
          exact hk'
        simp [goodAt, k0, ki, packAt, this]
    simp [this]
  rw [h1, hl]
  simp [hbad]
theorem law_true : ∀ ns : List Int, ns.length ≤ 63 → sem_law_k09 [.s ns] = some (.v (.bool true), []) := by
  intro ns hl
  obtain ⟨d0, h0⟩ := draws_ok ns hl 2 80 (by decide) (by decide)
  obtain ⟨n, d1, h1⟩ := pop_ok d0
  obtain ⟨m, hm, hm1⟩ : ∃ m : Int, 1 + n % 4 = m ∧ 1 ≤ m ∧ m ≤ 4 := ⟨_, rfl, by omega, by omega⟩
  obtain ⟨sh, d2, h2, hg, hs⟩ := shop_ok d1 m 5 hm1 (by omega)
  have hs5 : sh.length ≤ 5 := by simpa using hs
  have hlk := look_ok _ sh hg
  obtain ⟨w, d3, h3, hw, -⟩ := want_ok d2 m hm1
  have hwl : w.length ≤ 4 := by rw [hw.len]; omega
  obtain ⟨a0, d4, h4⟩ := pop_ok d3
  obtain ⟨c, d5, h5, hc, -⟩ := content_ok d4 m hm1
  have hcl : c.length ≤ 4 := by rw [hc.len]; omega
  obtain ⟨nn, d6, h6⟩ := pop_ok d5
  have hr : 0 ≤ a0 % ((sh.length : Int) + 1) ∧ a0 % ((sh.length : Int) + 1) < (sh.length : Int) + 1 := ⟨Int.emod_nonneg _ (by omega), Int.emod_lt_of_pos _ (by omega)⟩
  obtain ⟨a, hat⟩ : ∃ k : Nat, a0 % ((sh.length : Int) + 1) = (k : Int) := ⟨(a0 % ((sh.length : Int) + 1)).toNat, by omega⟩
  have hal : a ≤ sh.length := by omega
  have hmod : fMod [.int a0, .int ((sh.length : Int) + 1)] = some (.int (a : Int)) := by rw [fMod_s (by omega), hat]
  obtain ⟨FF, hFF⟩ : ∃ FF : List Nat, FF = (List.range a).filter fun k => match sh[k]? with | some o => !o.isPack | none => false := ⟨_, rfl⟩
  have hlc : ∀ e : En, e[3]? = some (.own (.v (shopD sh))) → e[10]? = some .no → lcL (.n 10) ct_law_k09_1 ce_law_k09_1 [10] ((List.range a).map fun (k : Nat) => O.v (.int (k : Int))) e = some (FF.map (fun (k : Nat) => O.v (.int (k : Int))), e) := fun e h2 h7 => by
    rw [hFF]
    refine lc_filter1 h7 _ fun k hk e' g1 g2 => ?_
    simp at hk
    obtain ⟨o2, ho2⟩ : ∃ o2, sh[k]? = some o2 := ⟨_, List.getElem?_eq_getElem (by omega)⟩
    have ha2 : atI sh (k : Int) = some o2 := atI_nat rfl ho2
    have g3 := g2 3 (by decide)
    rw [h2] at g3
    have hf := fNe_kp o2
    refine ⟨?_, fun _ => by simp [ce_law_k09_1, g1]⟩
    simp [ct_law_k09_1, g1, g3, ha2, ho2, hf]
  have hFo : O.toDs (FF.map fun (k : Nat) => O.v (.int (k : Int))) = some (FF.map fun (k : Nat) => PyData.int (k : Int)) := toDs_mapv _ _
  -- the odd offers
  obtain ⟨odd, hodd⟩ : ∃ odd : List Off, odd = [Off.add c 1 (a : Int), .add c 1 ((a : Int) + 1), .add c 1 (-1), .many c [(2, 5)]] ++ (match FF.getLast? with | some k => [.add c 1 (k : Int)] | none => []) := ⟨_, rfl⟩
  have hbad : ∀ o ∈ odd, goodAt (sh.take a ++ [o]) a o = false := fun o ho => by
    rw [hodd] at ho
    rcases List.mem_append.mp ho with ho | ho
    · simp only [List.mem_cons, List.not_mem_nil, or_false] at ho
      rcases ho with rfl | rfl | rfl | rfl
      · simp [goodAt]
      · have : ¬ ((a : Int) + 1 < (a : Int)) := by omega
        simp [goodAt, this]
      · simp [goodAt]
      · rfl
    · cases hk : FF.getLast? with
      | none => rw [hk] at ho; cases ho
      | some k =>
        rw [hk] at ho
        simp only [List.mem_singleton] at ho
        subst ho
        have hmem := List.mem_of_getLast? hk
        rw [hFF] at hmem
        obtain ⟨h1, h2⟩ := List.mem_filter.mp hmem
        have hka : k < a := List.mem_range.mp h1
        have : (sh.take a ++ [Off.add c 1 (k : Int)])[((k : Int)).toNat]? = sh[k]? := by
          have : ((k : Int)).toNat = k := by omega
          rw [this, List.getElem?_append_left (by rw [List.length_take]; omega), List.getElem?_take_of_lt hka]
        cases hsk : sh[k]? with
        | none => rw [hsk] at h2; cases h2
        | some o' =>
          rw [hsk] at h2 this
          have h2' : o'.isPack = false := by simpa using h2
          simp only [goodAt, packAt, this, h2', Bool.and_false]
  have hol : 0 < odd.length := by rw [hodd]; simp
  have hol2 : odd.length ≤ 5 := by
    rw [hodd, List.length_append]
    cases FF.getLast? <;> simp
  obtain ⟨o, ho, ho2⟩ := atI_in odd (i := nn % (odd.length : Int)) (Int.emod_nonneg _ (by omega)) (Int.emod_lt_of_pos _ (by omega))
  have hom := List.mem_of_getElem? ho2
  have hmod2 : fMod [.int nn, .int (odd.length : Int)] = some (.int (nn % (odd.length : Int))) := fMod_s (by omega)
  have hoO : atI (odd.map offO) (nn % (odd.length : Int)) = some (.v o.d) := by rw [atI_map, ho]; rfl
  have hf := spoilt_first hg hal (hbad o hom)
  have hbn := good_bndN (n := m.toNat) (by omega) hg (by omega)
  have hb : Bnd (sh.take a ++ [o]) := by
    have hoc : o.c.length ≤ 1000 ∧ ∀ c' ts, o = .many c' ts → ts.length ≤ 1000 := by
      rw [hodd] at hom
      rcases List.mem_append.mp hom with ho | ho
      · simp only [List.mem_cons, List.not_mem_nil, or_false] at ho
        rcases ho with rfl | rfl | rfl | rfl
        · exact ⟨by simp [Off.c]; omega, fun _ _ e => by cases e⟩
        · exact ⟨by simp [Off.c]; omega, fun _ _ e => by cases e⟩
        · exact ⟨by simp [Off.c]; omega, fun _ _ e => by cases e⟩
        · exact ⟨by simp [Off.c]; omega, fun _ _ e => by cases e; decide⟩
      · cases hk : FF.getLast? with
        | none => rw [hk] at ho; cases ho
        | some k =>
          rw [hk] at ho
          simp only [List.mem_singleton] at ho
          subst ho
          exact ⟨by simp [Off.c]; omega, fun _ _ e => by cases e⟩
    refine ⟨by rw [List.length_append, List.length_take]; simp; omega, fun x hx => ?_, fun x hx c' ts e => ?_⟩
    · rcases List.mem_append.mp hx with hx | hx
      · exact hbn.c x (List.mem_of_mem_take hx)
      · rw [List.mem_singleton.mp hx]; exact hoc.1
    · rcases List.mem_append.mp hx with hx | hx
      · exact Nat.le_trans (hbn.ts x (List.mem_of_mem_take hx) c' ts e) (by decide)
      · rw [List.mem_singleton.mp hx] at e; exact hoc.2 c' ts e
  obtain ⟨-, hx⟩ := look_raises _ hb a hf
  obtain ⟨SP, hSP⟩ : ∃ SP, SP = shopD (sh.take a ++ [o]) := ⟨_, rfl⟩
  obtain ⟨TK, hTK⟩ : ∃ TK, TK = (sh.take a).map offO := ⟨_, rfl⟩
  have hcut : cutG (sh.map fun x => O.v x.d) none (some (a : Int)) = TK := by rw [cutG_take, hTK, List.map_take]
  have hTl : TK.length ≤ 100 := by rw [hTK, List.length_map, List.length_take]; omega
  obtain ⟨DD, hspD, hDD⟩ : ∃ DD, O.toDs (TK ++ [.v o.d]) = some DD ∧ PyData.list DD = SP := by
    refine ⟨(sh.take a ++ [o]).map Off.d, ?_, hSP.symm⟩
    have : TK ++ [O.v o.d] = (sh.take a ++ [o]).map fun x => O.v x.d := by rw [hTK, List.map_append]; rfl
    rw [this]
    exact toDs_mapv _ _
  rw [← hSP] at hx
  have key : ∀ s1 : Sl, ∀ s8 s9 : Sl, forL (.n 12) b_law_k09_1 ((List.range 14).map fun (k : Nat) => O.v (.int (k : Int))) [.own (.s ns), s1, .own (oi m), .own (.v (shopD sh)), .own (.v (rowD w)), .own (oi (a : Int)), .own (.v (rowD c)), .own (oi nn), s8, s9, .no, .own (.v SP), .no] = some (.nx [.own (.s ns), s1, .own (oi m), .own (.v (shopD sh)), .own (.v (rowD w)), .own (oi (a : Int)), .own (.v (rowD c)), .own (oi nn), s8, s9, .no, .own (.v SP), .no]) := fun s1 s8 s9 =>
    (for_fold (tg := .n 12) (body := b_law_k09_1) (enc := fun (k : Nat) => O.v (.int (k : Int))) (E := fun (_ : Unit) => [.own (.s ns), s1, .own (oi m), .own (.v (shopD sh)), .own (.v (rowD w)), .own (oi (a : Int)), .own (.v (rowD c)), .own (oi nn), s8, s9, .no, .own (.v SP), .no]) (step := fun _ _ => ()) (I := fun _ => True) (List.range 14) () trivial (by
      intro k hk _ _
      have := refused_ok hx w hwl k (List.mem_range.mp hk)
      refine ⟨trivial, _, rfl, ?_⟩
      generalize rowD w = WD at *
      simp [b_law_k09_1, this])).1
  have q1 : -18446744073709551616 < (a : Int) := by omega
  have q2 : (a : Int) < 18446744073709551616 := by omega
  have q3 : -4611686018427387904 ≤ (a : Int) := by omega
  have q4 : (a : Int) < 4611686018427387904 := by omega
  have q5 : a ≤ 16777216 := by omega
  have q6 : -18446744073709551616 < (sh.length : Int) := by omega
  have q7 : (sh.length : Int) < 18446744073709551616 := by omega
  have q8 : sh.length ≤ 16777216 := by omega
  have hfn := fNe_nil (FF.map fun (k : Nat) => (k : Int))
  have hFi : (FF.map fun (k : Nat) => PyData.int (k : Int)) = (FF.map fun (k : Nat) => (k : Int)).map .int := by rw [List.map_map]; rfl
  rw [hFi] at hFo
  have ff : ∀ e : En, True := fun _ => trivial
  cases hk : FF.getLast? with
  | none =>
    have hnil : FF = [] := List.getLast?_eq_none_iff.mp hk
    rw [hk] at hodd
    subst hnil
    have hO : [O.v (.tuple [.str "add", .list (c.map .int), .int 1, .int (a : Int)]), .v (.tuple [.str "add", .list (c.map .int), .int 1, .int ((a : Int) + 1)]), .v (.tuple [.str "add", .list (c.map .int), .int 1, .int (-1)]), .v (.tuple [.str "many", .list (c.map .int), .list [.tuple [.int 2, .int 5]]])] = odd.map offO := by rw [hodd]; rfl
    have hD : odd.length = 4 := by rw [hodd]; rfl
    have hLD : O.toDs (odd.map offO) = some (odd.map Off.d) := toDs_mapv _ _
    simp only [List.map_nil] at hfn hFo hlc
    have qo : odd.length ≤ 16777216 := by omega
    have qt : TK.length + 1 ≤ 16777216 := by omega
    simp [un_law_k09, m_law_k09, h0, h1, hm, h2, hlk, h3, h4, hmod, h5, h6, hlc, hfn, q1, q2, q3, q4, q5, q6, q7, q8, hO, hcut, hLD, hmod2, hoO, qo, qt, hspD, hDD, key]
  | some k =>
    rw [hk] at hodd
    have hO : [O.v (.tuple [.str "add", .list (c.map .int), .int 1, .int (a : Int)]), .v (.tuple [.str "add", .list (c.map .int), .int 1, .int ((a : Int) + 1)]), .v (.tuple [.str "add", .list (c.map .int), .int 1, .int (-1)]), .v (.tuple [.str "many", .list (c.map .int), .list [.tuple [.int 2, .int 5]]]), .v (.tuple [.str "add", .list (c.map .int), .int 1, .int (k : Int)])] = odd.map offO := by rw [hodd]; rfl
    have hLD : O.toDs (odd.map offO) = some (odd.map Off.d) := toDs_mapv _ _
    have hne : FF ≠ [] := fun z => by rw [z] at hk; cases hk
    have hlast : atI (FF.map fun (k : Nat) => (k : Int)) (-1) = some (k : Int) := by
      obtain ⟨ys, e⟩ := List.getLast?_eq_some_iff.mp hk
      rw [e, List.map_append]
      exact Dn.atI_last _ _
    have hne2 : (FF.map fun (k : Nat) => (k : Int)) ≠ [] := by simpa using hne
    rw [decide_eq_false hne2] at hfn
    have qo : odd.length ≤ 16777216 := by omega
    have qt : TK.length + 1 ≤ 16777216 := by omega
    have hFm : (FF.map fun (k : Nat) => O.v (.int (k : Int))) = (FF.map fun (k : Nat) => (k : Int)).map oi := by rw [List.map_map]; rfl
    rw [hFm] at hFo hlc
    generalize (FF.map fun (k : Nat) => (k : Int)) = FI at *
    simp [un_law_k09, m_law_k09, h0, h1, hm, h2, hlk, h3, h4, hmod, h5, h6, hlc, hfn, hFo, hlast, q1, q2, q3, q4, q5, q6, q7, q8, hO, hcut, hLD, hmod2, hoO, qo, qt, hspD, hDD, key]
end K09

set_option Elab.async false
set_option linter.all false
set_option maxRecDepth 100000
open PySem PySem.W PyProof.Rows
set_option maxHeartbeats 0 in
theorem PySem.Challenge.cw_packwants_k09_no_offer_at_every_door_holds : PySem.Challenge.rw_packwants_k09_no_offer_at_every_door.Holds := by
  w_on; o_law; k_head; (case hw => w_witness2)
  k_fill
  refine Dn.walkG (l := PySem.Challenge.rw_packwants_k09_no_offer_at_every_door) (n := 63) (k := 10) (x := "_law_script") (C := fun _ => L2.CX0) (sp := fun w => Dn.spOf _ (List.replicate 1 false) Dn.sem_law_k09) rfl (by decide) rfl ⟨rfl, by decide, by decide⟩ (fun w h Y => PySem.W.kIn_of Y) ?F (fun _ _ a ns hl _ hS => K09.law_sp K09.law_true a ns hl _ hS _ _ fun _ => rfl) (fun _ _ _ _ _ h => h)
  case F =>
    intro w mg fa h KX G hmg
    refine' K09.all_mk KX G hmg ?a0 ?l0 ?c0 ?k0 ?a1 ?l1 ?c1 ?k1 ?a2 ?l2 ?c2 ?k2 ?a3 ?l3 ?c3 ?k3 ?a4 ?l4 ?c4 ?k4 ?a5 ?l5 ?c5 ?k5 ?a6 ?l6 ?c6 ?k6 ?a7 ?l7 ?c7 ?k7 ?a8 ?l8 ?c8 ?k8 ?a9 ?l9 ?c9 ?k9 ?a10 ?l10 ?c10 ?k10 ?a11 ?l11 ?c11 ?k11 ?a12 ?l12 ?c12 ?k12 ?a13 ?l13 ?c13 ?k13 ?a14 ?l14 ?c14 ?k14 ?a15 ?l15 ?c15 ?k15 ?a16 ?l16 ?c16 ?k16 ?a17 ?l17 ?c17 ?k17 ?a18 ?l18 ?c18 ?k18 ?a19 ?l19 ?c19 ?k19 ?a20 ?l20 ?c20 ?k20 ?a21 ?l21 ?c21 ?k21 ?a22 ?l22 ?c22 ?k22 ?a23 ?l23 ?c23 ?k23 ?a24 ?l24 ?c24 ?k24 ?a25 ?l25 ?c25 ?k25 ?a26 ?l26 ?c26 ?k26 ?a27 ?l27 ?c27 ?k27 ?a28 ?l28 ?c28 ?k28 ?a29 ?l29 ?c29 ?k29 ?a30 ?l30 ?c30 ?k30 ?a31 ?l31 ?c31 ?k31 ?z_ValueError ?z_all ?z_enumerate ?z_isinstance ?z_len ?z_max ?z_range ?z_str ?z_sum ?g_MOST ?g_MOST_TIERS ?nC_NoLine ?nC_NoOffer ?nC_NoPlace ?nC_NoText ?nC_NoThings ?nC_PackError ?hn0 ?ht0 ?rd_PackError ?sg_PackError ?fi_PackError ?xL_NoOffer ?sa_NoOffer ?ga_NoOffer ?gg_NoOffer ?nf_NoOffer ?in_NoOffer ?ca_NoOffer ?ti_NoOffer ?kC_NoOffer ?eC_NoOffer ?tC_NoOffer ?hC_NoOffer ?hm_NoOffer ?li_NoOffer ?ci_NoOffer ?ki_NoOffer ?xL_NoText ?sa_NoText ?ga_NoText ?gg_NoText ?nf_NoText ?in_NoText ?ca_NoText ?ti_NoText ?kC_NoText ?eC_NoText ?tC_NoText ?hC_NoText ?hm_NoText ?li_NoText ?ci_NoText ?ki_NoText ?tC_NoLine ?hC_NoLine ?eC_NoLine ?tC_NoPlace ?hC_NoPlace ?eC_NoPlace ?tC_NoThings ?hC_NoThings ?eC_NoThings ?tC_PackError ?hC_PackError ?eC_PackError ?sb_NoLine_NoOffer ?sb_NoLine_NoText ?sb_NoOffer_NoOffer ?sb_NoOffer_NoText ?sb_NoPlace_NoOffer ?sb_NoPlace_NoText ?sb_NoText_NoOffer ?sb_NoText_NoText ?sb_NoThings_NoOffer ?sb_NoThings_NoText ?sb_PackError_NoOffer ?sb_PackError_NoText ?sb_ValueError_NoOffer ?sb_ValueError_NoText
    (case a0 => k_is)
    (case l0 => k_is)
    (case c0 => k_is)
    (case k0 => k_is)
    (case a1 => k_is)
    (case l1 => k_is)
    (case c1 => k_is)
    (case k1 => k_is)
    (case a2 => k_is)
    (case l2 => k_is)
    (case c2 => k_is)
    (case k2 => k_is)
    (case a3 => k_is)
    (case l3 => k_is)
    (case c3 => k_is)
    (case k3 => k_is)
    (case a4 => k_is)
    (case l4 => k_is)
    (case c4 => k_is)
    (case k4 => k_is)
    (case a5 => k_is)
    (case l5 => k_is)
    (case c5 => k_is)
    (case k5 => k_is)
    (case a6 => k_is)
    (case l6 => k_is)
    (case c6 => k_is)
    (case k6 => k_is)
    (case a7 => k_is)
    (case l7 => k_is)
    (case c7 => k_is)
    (case k7 => k_is)
    (case a8 => k_is)
    (case l8 => k_is)
    (case c8 => k_is)
    (case k8 => k_is)
    (case a9 => k_is)
    (case l9 => k_is)
    (case c9 => k_is)
    (case k9 => k_is)
    (case a10 => k_is)
    (case l10 => k_is)
    (case c10 => k_is)
    (case k10 => k_is)
    (case a11 => k_is)
    (case l11 => k_is)
    (case c11 => k_is)
    (case k11 => k_is)
    (case a12 => k_is)
    (case l12 => k_is)
    (case c12 => k_is)
    (case k12 => k_is)
    (case a13 => k_is)
    (case l13 => k_is)
    (case c13 => k_is)
    (case k13 => k_is)
    (case a14 => k_is)
    (case l14 => k_is)
    (case c14 => k_is)
    (case k14 => k_is)
    (case a15 => k_is)
    (case l15 => k_is)
    (case c15 => k_is)
    (case k15 => k_is)
    (case a16 => k_is)
    (case l16 => k_is)
    (case c16 => k_is)
    (case k16 => k_is)
    (case a17 => k_is)
    (case l17 => k_is)
    (case c17 => k_is)
    (case k17 => k_is)
    (case a18 => k_is)
    (case l18 => k_is)
    (case c18 => k_is)
    (case k18 => k_is)
    (case a19 => k_is)
    (case l19 => k_is)
    (case c19 => k_is)
    (case k19 => k_is)
    (case a20 => k_is)
    (case l20 => k_is)
    (case c20 => k_is)
    (case k20 => k_is)
    (case a21 => k_is)
    (case l21 => k_is)
    (case c21 => k_is)
    (case k21 => k_is)
    (case a22 => k_is)
    (case l22 => k_is)
    (case c22 => k_is)
    (case k22 => k_is)
    (case a23 => k_is)
    (case l23 => k_is)
    (case c23 => k_is)
    (case k23 => k_is)
    (case a24 => k_is)
    (case l24 => k_is)
    (case c24 => k_is)
    (case k24 => k_is)
    (case a25 => k_is)
    (case l25 => k_is)
    (case c25 => k_is)
    (case k25 => k_is)
    (case a26 => k_is)
    (case l26 => k_is)
    (case c26 => k_is)
    (case k26 => k_is)
    (case a27 => k_is)
    (case l27 => k_is)
    (case c27 => k_is)
    (case k27 => k_is)
    (case a28 => k_is)
    (case l28 => k_is)
    (case c28 => k_is)
    (case k28 => k_is)
    (case a29 => k_is)
    (case l29 => k_is)
    (case c29 => k_is)
    (case k29 => k_is)
    (case a30 => k_is)
    (case l30 => k_is)
    (case c30 => k_is)
    (case k30 => k_is)
    (case a31 => k_is)
    (case l31 => k_is)
    (case c31 => k_is)
    (case k31 => k_is)
    (case z_ValueError => k_is)
    (case z_all => k_is)
    (case z_enumerate => k_is)
    (case z_isinstance => k_is)
    (case z_len => k_is)
    (case z_max => k_is)
    (case z_range => k_is)
    (case z_str => k_is)
    (case z_sum => k_is)
    (case g_MOST => k_is)
    (case g_MOST_TIERS => k_is)
    (case nC_NoLine => k_is)
    (case nC_NoOffer => k_is)
    (case nC_NoPlace => k_is)
    (case nC_NoText => k_is)
    (case nC_NoThings => k_is)
    (case nC_PackError => k_is)
    (case hn0 => k_is)
    (case ht0 => k_is)
    (case rd_PackError => k_is)
    (case sg_PackError => k_is)
    (case fi_PackError => k_is)
    (case xL_NoOffer => k_is)
    (case sa_NoOffer => k_is)
    (case ga_NoOffer => k_is)
    (case gg_NoOffer => k_is)
    (case nf_NoOffer => k_is)
    (case in_NoOffer => k_is)
    (case ca_NoOffer => k_is)
    (case ti_NoOffer => k_is)
    (case kC_NoOffer => k_is)
    (case eC_NoOffer => k_is)
    (case tC_NoOffer => k_is)
    (case hC_NoOffer => k_is)
    (case hm_NoOffer => k_is)
    (case li_NoOffer => k_is)
    (case ci_NoOffer => k_is)
    (case ki_NoOffer => k_is)
    (case xL_NoText => k_is)
    (case sa_NoText => k_is)
    (case ga_NoText => k_is)
    (case gg_NoText => k_is)
    (case nf_NoText => k_is)
    (case in_NoText => k_is)
    (case ca_NoText => k_is)
    (case ti_NoText => k_is)
    (case kC_NoText => k_is)
    (case eC_NoText => k_is)
    (case tC_NoText => k_is)
    (case hC_NoText => k_is)
    (case hm_NoText => k_is)
    (case li_NoText => k_is)
    (case ci_NoText => k_is)
    (case ki_NoText => k_is)
    (case tC_NoLine => k_is)
    (case hC_NoLine => k_is)
    (case eC_NoLine => k_is)
    (case tC_NoPlace => k_is)
    (case hC_NoPlace => k_is)
    (case eC_NoPlace => k_is)
    (case tC_NoThings => k_is)
    (case hC_NoThings => k_is)
    (case eC_NoThings => k_is)
    (case tC_PackError => k_is)
    (case hC_PackError => k_is)
    (case eC_PackError => k_is)
    (case sb_NoLine_NoOffer => first | rfl | k_is)
    (case sb_NoLine_NoText => first | rfl | k_is)
    (case sb_NoOffer_NoOffer => first | rfl | k_is)
    (case sb_NoOffer_NoText => first | rfl | k_is)
    (case sb_NoPlace_NoOffer => first | rfl | k_is)
    (case sb_NoPlace_NoText => first | rfl | k_is)
    (case sb_NoText_NoOffer => first | rfl | k_is)
    (case sb_NoText_NoText => first | rfl | k_is)
    (case sb_NoThings_NoOffer => first | rfl | k_is)
    (case sb_NoThings_NoText => first | rfl | k_is)
    (case sb_PackError_NoOffer => first | rfl | k_is)
    (case sb_PackError_NoText => first | rfl | k_is)
    (case sb_ValueError_NoOffer => first | rfl | k_is)
    (case sb_ValueError_NoText => first | rfl | k_is)
