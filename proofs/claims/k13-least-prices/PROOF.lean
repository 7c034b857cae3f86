import PyProof.Rows.All
import Wide.All
import OpenK.AllK
import Wide.FinOn
import HandS.ForMost
import HandS.Wide
import HandS.WideMore
import HandS.Exc
import HandS.WordsExc
import HandS.ExcIs
import HandS.ExcField
import HandS.Deep
import HandS.Conv
import HandS.IsInst
import HandS.Style
import HandS.SortInts
import HandS.Strs
import HandS.RevRange
import HandS.Flow
import KE.SortData
import KE.DataCmp
import HandS.RaiseMore
import PyProof.ReprLen
import HandS.Text
import PyProof.StrOps2
import PyProof.MeetsStr3
import PyProof.Rows.StrNews2
import HandS.ExcInit
import HandS.ExcOwn
import HandS.ClsMeth
import HandS.ExcValue
import HandS.StrMore
import HandS.Walk
import HandS.WordsDict
import HandS.More
import KE.KDictZip
import KE.KItemsList
import KE.KTurns
import PyProof.CollectWalk
import HandS.ListItems
import HandS.TryOnly
import PySem.Challenge.RW_packwants_k13_least_prices
set_option Elab.async false
set_option linter.all false
set_option maxRecDepth 100000
set_option maxHeartbeats 4000000
namespace Dn
open PySem PySem.Spec PyProof.Rows L2
structure RoomG (k : Nat) (A : Around) : Prop extends Room k A where
  gd : A.guards = some []
theorem RoomG.mono {j k : Nat} {A : Around} (r : RoomG k A) (h : j ≤ k) : RoomG j A := ⟨r.toRoom.mono h, r.gd⟩
theorem RoomG.deeper {k : Nat} {A : Around} (r : RoomG (k + 1) A) (env : Env) : RoomG k (A.deeper env) := ⟨r.toRoom.deeper env, r.gd⟩
structure FnG (P : Program) (w : World) (K : PySem.W.Frag) (mg : Str → Option Value) (base : Heap) (CX : CXT) (k : Nat) (f : Addr) (fd : FuncData) (ps : List Str) (sp : Sp) : Prop where
  len : ∀ vs H Q E, sp vs H Q E → vs.length = ps.length
  go : ∀ (A : Around) (out : List Env) (t : Shared) (H : Hp) (as : Args) (zs : List Value) (xs : List V) (Q : VK) (E : XK), RoomG k A → Env0 P w K mg base A out t H → BindsTo t fd as (ps.zip zs) → Vals xs zs → sp xs H Q E → codeAny (model P w) A (.call (.ref f) as) (CR CX out P w H t Q E) t
section
variable {P : Program} {w : World} {K : PySem.W.Frag} {mg : Str → Option Value} {base : Heap} {C : CXT}
theorem Fun.okG {x q : Str} {st : Stmt} {f : Addr} {fd : FuncData} {N ps : List Str} {k : Nat} {sp : Sp} (D : Fun K x q st f fd) (S : FnScope N ps (defScope st)) (len : ∀ vs H Q E, sp vs H Q E → vs.length = ps.length)
    (walk : ∀ (cv : Value) (A : Around) (out : List Env) (t : Shared) (H : Hp) (xs : List V) (Q : VK) (E : XK), RoomG k (A.deeper (envOfC q (defScope st) t.heap.objs.size f cv)) → sp xs H Q E →
      ∃ r, PSs (cxOf C P w K mg base N q (defScope st) f cv A out t H E) (defBody st) r ∧ r { nx := fun _ H' => Q .non H', rt := Q } (L2.start N xs) H) : FnG P w K mg base C (k + 1) f fd ps sp := by
  obtain ⟨oc, od, kV, dc, pm, an, cv, ct, os, rfl, look, code⟩ := D.ex
  constructor
  · exact len
  intro A out t H as zs xs Q E room e0 bind rel ask
  have inK : K.In t.heap := e0.mod.kin.keeps fun b o h => (e0.bs b o h).1
  have noLim : t.heap.NoLimit := e0.mod.nolimit.keeps fun b o h => (e0.bs b o h).1
  refine codeAny_call_function room.toRoom.depth (inK _ _ look) rfl S.co S.gen rfl (PySem.W.codeRec_of inK code) (bind _ _ _ _ ?_)
  refine wpAny_newFunctionEnv_cells S.kind (fun ⟨n, z⟩ hz => ?_) fun env henv t1 X1 => ?_
  · rcases S.par n (List.of_mem_zip hz).1 with h | h
    · exact .inl h
    · exact .inr ⟨h, PySem.W.cellsFrom_some _ _ _ (.inl h)⟩
  subst henv
  obtain ⟨r, hr, ask2⟩ := walk cv A out t H xs Q E (room.deeper _) ask
  have J0 := inv_start (CX := C) (E := E) S room.toRoom.hd e0 (len _ _ _ _ ask) rel X1
  refine ⟨noLim.keeps X1.toInCall.keep, codeAny_func (wpAny_mono (hr.run [] t1 (L2.start N xs) H _ J0 ask2) (fun fl t2 h2 => ?_) fun _ _ h => h)⟩
  match fl, h2 with
  | .ret u, ⟨v, _, H', J, rv, q⟩ => exact ⟨v, H', J.os, J.bare, J.base, J.hok, rv, q⟩
  | .next, ⟨_, H', J, q⟩ => exact ⟨V.non, H', J.os, J.bare, J.base, J.hok, rfl, q⟩
  | .brk, ⟨_, _, _, q⟩ => exact False.elim q
  | .cont, ⟨_, _, _, q⟩ => exact False.elim q
end
section
variable {X : Cx} {C : CXT} {k : Nat} {f : Addr} {fd : FuncData} {ps : List Str} {sp : Sp} {dvs : List V} {ds : List Value} {E : XK} {x : Str} {p pos : Pos} {e : Expr} {es : List Expr} {t : TA}
theorem FnG.at {pins : List (Addr × Obj)} {σ : L2.St} {H : Hp} {s : Shared} {Q : VK} {us : List Value} {vs : List V} (F : FnG X.prog X.w X.K X.mg X.base C k f fd ps sp) (room : RoomG k X.A) (hb : Binds X.K fd ps ds) (hd : Vals dvs ds) (hx : Passes C X E)
    (I : Inv X pins σ H s) (r : Vals vs us) (h : sp (vs ++ dvs) H Q E) : wpAny (model X.prog X.w) X.A (call (.ref f) us) (EP X pins σ Q) X.xe s := by
  have rr : Vals (vs ++ dvs) (us ++ ds) := r.append hd
  have ll : (us ++ ds).length = ps.length := rr.length ▸ F.len _ _ _ _ h
  refine wpAny_call (codeAny_mono (F.go X.A X.stack s H ⟨us, []⟩ _ _ Q E room I.env0 (hb s us I.kIn ll) rr h) fun res s2 hq => ?_)
  match res, hq with
  | .error er, hq => exact hx pins σ H s er s2 I hq
  | .ok (.ret u), hq => exact I.after hq
  | .ok .next, hq => exact hq.elim
  | .ok .brk, hq => exact hq.elim
  | .ok .cont, hq => exact hq.elim
theorem pe_callG (F : FnG X.prog X.w X.K X.mg X.base C k f fd ps sp) (room : RoomG k X.A) (hg : Gl X x) (hm : X.mg x = some (.ref f)) (hk : PySem.W.keepIn X.K (.ref f) = true) (hb : Binds X.K fd ps ds) (hd : Vals dvs ds) (hx : Passes C X E) (ha : PA X (e :: es) t)
    (hdb : (x == ("__debug__" : Str)) = false := by decide) (he : starEach (e :: es) X.env = (false, eval e X.env) :: starEach es X.env := by rfl) (hpl : (backTo pos (starEach es X.env)).any (·.1) = false := by rfl) :
    PE X (.Call (.Name x p) (e :: es) [] pos) (tCall sp dvs E t) :=
  ⟨fun pins s σ H Q I h => wpAny_Call_Name_kw (ld_glob I hg hm (PySem.W.callWith_K (h₀ := X.base) I.ok.mod.kin hk (thn (ha.run pos pins s σ H _ I h) fun us s1 ⟨vs, H1, I1, r, q⟩ => ⟨I1.kIn, F.at room hb hd hx I1 r q⟩) he hpl) hdb)⟩
end
theorem lawG {P : Program} {w : World} {K : PySem.W.Frag} {mg mb : Str → Option Value} {C : CXT} {k : Nat} {fa a : Addr} {fd : FuncData} {x : Str} {sp : Sp} {t : Shared} {vs : List Value} {ns : List Int}
    (inK : K.In t.heap) (hns : t.heap.Ns mainGlobals mg) (hb : t.heap.Ns builtinsNs mb) (hbb : ∀ x : Str, x ≠ "__name__" → mb x = bootBuiltins x) (lim : t.heap.NoLimit) (hg : t.gens = #[])
    (ha : t.heap.get? a = some { cls := .type "list", data := .seq vs.toArray }) (hi : IntsAre vs ns) (hl : ns.length ≤ sizeLine) (room : Room k callerA)
    (F : ∀ base : Heap, K.In base → base.Ns mainGlobals mg → FnG P w K mg base C k fa fd [x] sp) (bind : ∀ (s : Shared) (u : Value), BindsTo s fd ⟨[u], []⟩ [(x, u)])
    (hsp : ∀ H : Hp, Only H → SqL K H a (ns.map V.int) → sp [.ref a] H (fun v _ => v = .bl true) fun _ _ _ => False) (hC : ∀ H e s', C [] H t (fun _ _ _ => False) e s' → False) :
    codeAny (model P w) callerA (.call (.ref fa) ⟨[.ref a], []⟩) (fun r s' => r = .ok (.ret (.bool true)) ∧ OldK t.heap s'.heap ∧ s'.os = t.os ∧ AllBare s'.gens) t := by
  have main : ∀ H : Hp, Only H → SqL K H a (ns.map V.int) → HOk P w H t.heap → (∀ b, H b ≠ none → b = a ∧ K.lookup b = none) → codeAny (model P w) callerA (.call (.ref fa) ⟨[.ref a], []⟩) (fun r s' => r = .ok (.ret (.bool true)) ∧ OldK t.heap s'.heap ∧ s'.os = t.os ∧ AllBare s'.gens) t := by
    intro H only seq ok alone
    have free : ∀ (b : Addr) (o : Obj), t.heap.get? b = some o → (b = a → False) → (hidT t.heap H).get? b = some o := fun b o e n => hidT_get e (Classical.byContradiction fun z => n (alone b z).1)
    have ns' : ∀ {b : Addr} {m : Str → Option Value}, t.heap.Ns b m → (hidT t.heap H).Ns b m := by
      rintro b m ⟨o, es, ep, e, d, r⟩
      refine ⟨o, es, ep, free b o e fun z => ?_, d, r⟩
      subst z
      rw [ha] at e
      cases e
      exact nomatch d
    have kb : K.In (hidT t.heap H) := fun b o e => hidT_get (inK b o e) (Classical.byContradiction fun z => by rw [(alone b z).2] at e; cases e)
    have lim' : (hidT t.heap H).NoLimit := by
      obtain ⟨mc, l1, l2⟩ := lim
      exact ⟨mc, ns' l1, l2⟩
    have e0 : Env0 P w K mg (hidT t.heap H) callerA [] t H := ⟨rfl, ⟨kb, ns' hns, ⟨mb, ns' hb, hbb⟩, lim'⟩, fun b o e => of_hidT e, Nat.le_of_eq (hidT_size _ _), trivial, fun b hb => absurd (show b ∈ ([] : List Addr) from hb) (by simp), ok, .of_eq hg⟩
    refine codeAny_mono ((F _ kb (ns' hns)).go callerA [] t H ⟨[.ref a], []⟩ [.ref a] [.ref a] _ _ ⟨room, rfl⟩ e0 (bind t (.ref a)) (.cons rfl .nil) (hsp H only seq)) fun r s' h => ?_
    match r, h with
    | .error e, h => exact (hC H e s' h).elim
    | .ok .next, h => exact h.elim
    | .ok .brk, h => exact h.elim
    | .ok .cont, h => exact h.elim
    | .ok (.ret u), ⟨v, H', os, bare, un, ok', rv, q⟩ =>
      obtain rfl : v = .bl true := q
      obtain rfl : u = Value.bool true := rv
      refine ⟨rfl, OldK.of_keep fun b o e => ?_, os, bare⟩
      rcases only b with z | ⟨ob, xs, z⟩
      · exact un.keep b o e z (fun y => absurd (show b ∈ ([] : List Addr) from y) (by simp)) (by simp)
      · have h1 := (ok b _ z).1
        rw [e] at h1
        cases h1
        exact (ok' b _ (un.frzs b o _ z)).1
  have rv := vals_ints hi
  cases hk : K.lookup a with
  | some o =>
    have e := inK a o hk
    rw [ha] at e
    cases e
    exact main (fun _ => none) (fun _ => .inl rfl) (.inr ⟨_, vs.toArray, _, hk, rfl, rfl, rfl, by rw [List.size_toArray, hi.length]; exact hl, by simpa using rv⟩) (fun b u z => by cases z) fun b z => absurd rfl z
  | none =>
    have at1 : ∀ (b : Addr) (u : HO), (if b = a then some (HO.frz { cls := .type "list", data := .seq vs.toArray } (.lst (ns.map V.int))) else none) = some u → b = a ∧ u = HO.frz { cls := .type "list", data := .seq vs.toArray } (.lst (ns.map V.int)) := fun b u z => by
      split at z
      · rename_i hb
        cases z
        exact ⟨hb, rfl⟩
      · cases z
    refine main (fun b => if b = a then some (.frz { cls := .type "list", data := .seq vs.toArray } (.lst (ns.map V.int))) else none) (fun b => ?_) (.inl (.inr ⟨_, if_pos rfl⟩)) (fun b u z => ?_) fun b z => ?_
    · show (if b = a then some _ else none) = none ∨ ∃ o xs, (if b = a then some _ else none) = some (HO.frz o (.lst xs))
      split
      · exact .inr ⟨_, _, rfl⟩
      · exact .inl rfl
    · obtain ⟨rfl, rfl⟩ := at1 b u z
      exact ⟨ha, by rw [List.length_map]; exact hl, vs, _, rv, ha⟩
    · have : b = a := Classical.byContradiction fun n => z (if_neg n)
      exact ⟨this, this ▸ hk⟩
theorem walkG {l : PySem.W.OpenLaw} {n k : Nat} {q : Program} {loose : List Str} {XP : (Str → Option Value) → Heap → Prop} {YP : World → Heap → Prop} {d : DefRec} {K : Params → PySem.W.Frag} {C : World → CXT} {sp : World → Sp} {x : Str}
    (hn : l.most = some n) (hn2 : n ≤ sizeLine) (hdf : d.params.defaults = []) (room : Room k callerA) (hY : ∀ (w : World) (h : Heap), YP w h → (K w.params).In h)
    (F : ∀ (w : World) (mg : Str → Option Value) (fa : Addr) (h : Heap), (K w.params).In h → h.Ns mainGlobals mg → mg d.name = some (.ref fa) →
      ∃ fd : FuncData, (∀ (s : Shared) (u : Value), BindsTo s fd ⟨[u], []⟩ [(x, u)]) ∧ ∀ base : Heap, (K w.params).In base → base.Ns mainGlobals mg → FnG l.prog w (K w.params) mg base (C w) k fa fd [x] (sp w))
    (hsp : ∀ (w : World) (H : Hp) (a : Addr) (ns : List Int), ns.length ≤ n → Only H → SqL (K w.params) H a (ns.map V.int) → sp w [.ref a] H (fun v _ => v = .bl true) fun _ _ _ => False)
    (hC : ∀ (w : World) (H : Hp) (s : Shared) (e : Value) (s' : Shared), C w [] H s (fun _ _ _ => False) e s' → False) : PySem.W.WalkO q loose XP YP l.row.toRowW d [] (fun f vs => PySem.call f vs) :=
  Att.attach_call hn hdf fun w s0 s1 mg mb fa o pm cd doc a vs ns G Y ho hd hcd hmg hobj hints hlen hg => by
    have inK := hY w _ Y
    obtain ⟨fd, hb, hF⟩ := F w mg fa _ inK G.T.g hmg
    exact lawG inK G.T.g G.T.b G.T.builtins G.T.nolimit hg hobj hints (Nat.le_trans hlen hn2) room hF hb (fun H hO hS => hsp w H a ns hlen hO hS) fun H e s' => hC w H s1 e s'
end Dn
namespace Dn
open PySem PySem.Spec PyProof.Rows L2
def ExV (cls : Value) (d : Option Addr) (a : Addr) : HO := .ext fun h => ∃ (oe : Obj) (vs : Array Value), h.get? a = some oe ∧ Zc cls d oe ∧ oe.data = .fields vs
theorem exV_ok {P : Program} {w : World} {H : Hp} {h : Heap} {a : Addr} {cls : Value} {d : Option Addr} {oe : Obj} {vs : Array Value} (e : h.get? a = some oe) (z : Zc cls d oe) (f : oe.data = .fields vs) : ObjOk P w H h a (ExV cls d a) :=
  ⟨⟨oe, vs, e, z, f⟩, ⟨oe, e⟩, fun _ _ ⟨o, v, q, r⟩ k => ⟨o, v, k o q, r⟩⟩
section
variable {X : Cx} {pins : List (Addr × Obj)} {σ : L2.St} {H : Hp} {s : Shared}
theorem Inv.hold {a : Addr} {oe : Obj} {cls : Value} {d : Option Addr} {pn : List (Addr × Obj)} (S : Inv (X.suite a ((a, oe) :: (X.pn ++ pins))) pn σ H s) (ok : X.Ok) (z : Zc cls d oe) (f : ∃ vs, oe.data = .fields vs)
    (n0 : X.s_0.heap.get? a = none) (np : ∀ p ∈ X.pn ++ pins, p.1 ≠ a) : Inv X pins σ (upd H a (ExV cls d a)) s := by
  obtain ⟨vs, hf⟩ := f
  obtain ⟨ga, na, nL, nF, nC⟩ := S.pin (a, oe) (List.mem_append_left _ (List.mem_cons_self ..))
  have b0 : ∀ b o, X.s_0.heap.get? b = some o → b ≠ a := fun b o e q => by rw [q, n0] at e; cases e
  have bH : ∀ b (o : HO), H b = some o → b ≠ a := fun b o e q => by rw [q, na] at e; cases e
  refine ⟨ok, S.os, S.bare, ?_, S.loc, S.cell, ?_, ?_, ?_, ?_, S.len⟩
  · have U := S.base
    exact ⟨U.keep, U.slot, fun b o e n x => (upd_ne (b0 b o e)).trans (U.free b o e n x), U.there, fun b xs e => (upd_ne (bH b _ (U.tups b xs e))).trans (U.tups b xs e), fun b o u e => (upd_ne (bH b _ (U.frzs b o u e))).trans (U.frzs b o u e), fun b ps e => by
      obtain ⟨m, q⟩ := U.tbls b ps e
      exact ⟨m, (upd_ne (bH b _ q)).trans q⟩⟩
  · exact (upd_ne fun q => nL q.symm).trans S.free
  · intro x c e
    obtain ⟨v, o, g, dc⟩ := S.cell x c e
    refine (upd_ne fun q => ?_).trans (S.freeC x c e)
    rw [q, ga] at g
    cases g
    exact nC v dc
  · intro p hp
    obtain ⟨g, n, r⟩ := S.pin p (List.mem_append_left _ (List.mem_cons_of_mem _ hp))
    exact ⟨g, (upd_ne (np p hp)).trans n, r⟩
  · intro b u e
    by_cases q : b = a
    · subst q
      rw [upd_same] at e
      cases e
      exact exV_ok ga z hf
    · rw [upd_ne q] at e
      exact (S.hok b u e).stay (fun c v _ g => g) (fun c g => (upd_ne (bH c _ g)).trans g) fun c xs g => (upd_ne (bH c _ g)).trans g
end
end Dn
namespace Dn
open PySem L2
structure Exn where
  c : Str
  f : Str
  v : Int
def ClsAt (K : PySem.W.Frag) (c : Str) (C : Addr) : Prop := PySem.W.nsIn K mainGlobals c = some (some (.ref C))
def XdAt (F : Hp) (x : Exn) : Option Addr → Prop
  | some dd => x.f ≠ "" ∧ F dd = some (.xd [(x.f, V.int x.v)])
  | none => x.f = ""
theorem XdAt.mono {F F' : Hp} {x : Exn} (e : ∀ p o, F p = some o → F' p = some o) : ∀ {d : Option Addr}, XdAt F x d → XdAt F' x d
  | some _, h => ⟨h.1, e _ _ h.2⟩
  | none, h => h
inductive O where
  | v (d : PyData)
  | s (ns : List Int)
  | fx (u : HO)
  | ex (x : Exn)
  | l (xs : List O)
  | t (xs : List O)
  | dk (kvs : List (Key × PyData))
  | dt (kvs : List (List Key × PyData))
  | ob (c : Str) (ns : List Str) (xs : List O)
mutual
def O.toD : O → Option PyData
  | .v d => some d
  | .l xs => (O.toDs xs).map .list
  | .t xs => (O.toDs xs).map .tuple
  | _ => none
def O.toDs : List O → Option (List PyData)
  | [] => some []
  | x :: xs => match O.toD x, O.toDs xs with
    | some d, some ds => some (d :: ds)
    | _, _ => none
end
section
variable {K : PySem.W.Frag}
theorem sql_mono {H H' : Hp} {a : Addr} {xs : List V} (e : Same H H') (h : SqL K H a xs) : SqL K H' a xs := e.seq h
mutual
inductive Df (K : PySem.W.Frag) (F : Hp) : V → PyData → Prop
  | non : Df K F .non .none
  | bl (b : Bool) : Df K F (.bl b) (.bool b)
  | int (i : Int) : Df K F (.int i) (.int i)
  | str (x : Str) : Df K F (.str x) (.str x)
  | lst {a : Addr} {xs : List V} {ds : List PyData} : F a = some (.lst xs) → DfAll K F xs ds → Df K F (.ref a) (.list ds)
  | tup {a : Addr} {xs : List V} {ds : List PyData} : F a = some (.tup xs) → DfAll K F xs ds → Df K F (.ref a) (.tuple ds)
inductive DfAll (K : PySem.W.Frag) (F : Hp) : List V → List PyData → Prop
  | nil : DfAll K F [] []
  | cons {v : V} {vs : List V} {d : PyData} {ds : List PyData} : Df K F v d → DfAll K F vs ds → DfAll K F (v :: vs) (d :: ds)
end
mutual
theorem Df.dp {F H : Hp} (e : Same F H) : ∀ {v : V} {d : PyData}, Df K F v d → Dp K H v d
  | _, _, .non => .non
  | _, _, .bl b => .bl b
  | _, _, .int i => .int i
  | _, _, .str x => .str x
  | _, _, .lst h a => .lst (.of (e _ _ h)) (DfAll.dp e a)
  | _, _, .tup h a => .tup (.of (e _ _ h)) (DfAll.dp e a)
theorem DfAll.dp {F H : Hp} (e : Same F H) : ∀ {vs : List V} {ds : List PyData}, DfAll K F vs ds → DpAll K H vs ds
  | _, _, .nil => .nil
  | _, _, .cons h t => .cons (Df.dp e h) (DfAll.dp e t)
end
mutual
theorem dp_mono {F F' : Hp} (e : Same F F') : ∀ {v : V} {d : PyData}, Df K F v d → Df K F' v d
  | _, _, .non => .non
  | _, _, .bl b => .bl b
  | _, _, .int i => .int i
  | _, _, .str x => .str x
  | _, _, .lst h a => .lst (e _ _ h) (dpa_mono e a)
  | _, _, .tup h a => .tup (e _ _ h) (dpa_mono e a)
theorem dpa_mono {F F' : Hp} (e : Same F F') : ∀ {vs : List V} {ds : List PyData}, DfAll K F vs ds → DfAll K F' vs ds
  | _, _, .nil => .nil
  | _, _, .cons h t => .cons (dp_mono e h) (dpa_mono e t)
end
end
abbrev Ws := List (V × O)
mutual
inductive Rp (K : PySem.W.Frag) (F H : Hp) : V → O → List Addr → Prop
  | v {x : V} {d : PyData} : Df K F x d → Rp K F H x (.v d) []
  | s {a : Addr} {ns : List Int} : SqL K F a (ns.map V.int) → Rp K F H (.ref a) (.s ns) []
  | fx {a : Addr} {u : HO} : F a = some u → Rp K F H (.ref a) (.fx u) []
  | ex {a C : Addr} {d : Option Addr} {x : Exn} : ClsAt K x.c C → F a = some (ExV (.ref C) d a) → XdAt F x d → Rp K F H (.ref a) (.ex x) []
  | l {p : Addr} {vs : List V} {xs : List O} {ws : Ws} {T : List Addr} : H p = some (.lst vs) → vs = ws.map (·.1) → xs = ws.map (·.2) → RpL K F H ws T → Rp K F H (.ref p) (.l xs) (p :: T)
  | t {p : Addr} {vs : List V} {xs : List O} {ws : Ws} {T : List Addr} : H p = some (.tup vs) → vs = ws.map (·.1) → xs = ws.map (·.2) → RpL K F H ws T → Rp K F H (.ref p) (.t xs) (p :: T)
  | dk {p : Addr} {kvs : List (Key × V)} {ks : List (Key × PyData)} : H p = some (.dK kvs) → kvs.map (·.1) = ks.map (·.1) → DfAll K F (kvs.map (·.2)) (ks.map (·.2)) → Rp K F H (.ref p) (.dk ks) [p]
  | dt {p : Addr} {kvs : List (List Key × V)} {ks : List (List Key × PyData)} : H p = some (.dT kvs) → kvs.map (·.1) = ks.map (·.1) → DfAll K F (kvs.map (·.2)) (ks.map (·.2)) → Rp K F H (.ref p) (.dt ks) [p]
  | ob {p dx C : Addr} {c : Str} {fs : List (Str × V)} {ns : List Str} {xs : List O} {ws : Ws} {T : List Addr} : ClsAt K c C → H p = some (.ins C dx fs) → H dx = some (.own p) → fs.map (·.1) = ns → fs.map (·.2) = ws.map (·.1) → xs = ws.map (·.2) → RpL K F H ws T → Rp K F H (.ref p) (.ob c ns xs) (p :: dx :: T)
inductive RpL (K : PySem.W.Frag) (F H : Hp) : Ws → List Addr → Prop
  | nil : RpL K F H [] []
  | cons {x : V} {o : O} {ws : Ws} {T1 T2 : List Addr} : Rp K F H x o T1 → RpL K F H ws T2 → RpL K F H ((x, o) :: ws) (T1 ++ T2)
end
section
variable {K : PySem.W.Frag}
mutual
theorem rp_mono {F F' H H' : Hp} (e : Same F F') : ∀ {v : V} {o : O} {T : List Addr}, Rp K F H v o T → (∀ p ∈ T, H' p = H p) → Rp K F' H' v o T
  | _, _, _, .v h, _ => .v (dp_mono e h)
  | _, _, _, .s h, _ => .s (sql_mono e h)
  | _, _, _, .fx h, _ => .fx (e _ _ h)
  | _, _, _, .ex h1 h2 h3, _ => .ex h1 (e _ _ h2) (h3.mono e)
  | _, _, _, .l h e1 e2 r, k => .l ((k _ (List.mem_cons_self ..)).trans h) e1 e2 (rpl_mono e r fun p hp => k p (List.mem_cons_of_mem _ hp))
  | _, _, _, .t h e1 e2 r, k => .t ((k _ (List.mem_cons_self ..)).trans h) e1 e2 (rpl_mono e r fun p hp => k p (List.mem_cons_of_mem _ hp))
  | _, _, _, .dk h e1 a, k => .dk ((k _ (List.mem_cons_self ..)).trans h) e1 (dpa_mono e a)
  | _, _, _, .dt h e1 a, k => .dt ((k _ (List.mem_cons_self ..)).trans h) e1 (dpa_mono e a)
  | _, _, _, .ob hc h h' e0 e1 e2 r, k => .ob hc ((k _ (List.mem_cons_self ..)).trans h) ((k _ (List.mem_cons_of_mem _ (List.mem_cons_self ..))).trans h') e0 e1 e2 (rpl_mono e r fun p hp => k p (List.mem_cons_of_mem _ (List.mem_cons_of_mem _ hp)))
theorem rpl_mono {F F' H H' : Hp} (e : Same F F') : ∀ {ws : Ws} {T : List Addr}, RpL K F H ws T → (∀ p ∈ T, H' p = H p) → RpL K F' H' ws T
  | _, _, .nil, _ => .nil
  | _, _, .cons h t, k => .cons (rp_mono e h fun p hp => k p (List.mem_append_left _ hp)) (rpl_mono e t fun p hp => k p (List.mem_append_right _ hp))
end
mutual
theorem rp_dom {F H : Hp} : ∀ {v : V} {o : O} {T : List Addr}, Rp K F H v o T → ∀ p ∈ T, H p ≠ none
  | _, _, _, .v h, p, hp => by cases hp
  | _, _, _, .s h, p, hp => by cases hp
  | _, _, _, .fx h, p, hp => by cases hp
  | _, _, _, .ex _ _ _, p, hp => by cases hp
  | _, _, _, .l h _ _ r, p, hp => by
    rcases List.mem_cons.mp hp with e | hp
    · rw [e, h]; exact nofun
    · exact rpl_dom r p hp
  | _, _, _, .t h _ _ r, p, hp => by
    rcases List.mem_cons.mp hp with e | hp
    · rw [e, h]; exact nofun
    · exact rpl_dom r p hp
  | _, _, _, .dk h _ _, p, hp => by
    rcases List.mem_cons.mp hp with e | hp
    · rw [e, h]; exact nofun
    · cases hp
  | _, _, _, .dt h _ _, p, hp => by
    rcases List.mem_cons.mp hp with e | hp
    · rw [e, h]; exact nofun
    · cases hp
  | _, _, _, .ob _ h h' _ _ _ r, p, hp => by
    rcases List.mem_cons.mp hp with e | hp
    · rw [e, h]; exact nofun
    · rcases List.mem_cons.mp hp with e | hp
      · rw [e, h']; exact nofun
      · exact rpl_dom r p hp
theorem rpl_dom {F H : Hp} : ∀ {ws : Ws} {T : List Addr}, RpL K F H ws T → ∀ p ∈ T, H p ≠ none
  | _, _, .nil, p, hp => by cases hp
  | _, _, .cons h t, p, hp => by
    rcases List.mem_append.mp hp with hp | hp
    · exact rp_dom h p hp
    · exact rpl_dom t p hp
end
mutual
theorem rp_freeze {F F' H : Hp} (e : Same F F') : ∀ {v : V} {o : O} {T : List Addr} {d : PyData}, Rp K F H v o T → o.toD = some d → (∀ p ∈ T, F' p = H p) → Df K F' v d
  | _, _, _, _, .v h, z, _ => by
    unfold O.toD at z
    cases z
    exact dp_mono e h
  | _, _, _, _, .l (xs := xs) h e1 e2 r, z, k => by
    unfold O.toD at z
    obtain ⟨ds, hd, rfl⟩ := Option.map_eq_some_iff.mp z
    subst e2
    subst e1
    exact .lst ((k _ (List.mem_cons_self ..)).trans h) (rpl_freeze e r hd fun p hp => k p (List.mem_cons_of_mem _ hp))
  | _, _, _, _, .t (xs := xs) h e1 e2 r, z, k => by
    unfold O.toD at z
    obtain ⟨ds, hd, rfl⟩ := Option.map_eq_some_iff.mp z
    subst e2
    subst e1
    exact .tup ((k _ (List.mem_cons_self ..)).trans h) (rpl_freeze e r hd fun p hp => k p (List.mem_cons_of_mem _ hp))
  | _, _, _, _, .s h, z, _ => by unfold O.toD at z; cases z
  | _, _, _, _, .fx h, z, _ => by unfold O.toD at z; cases z
  | _, _, _, _, .ex _ _ _, z, _ => by unfold O.toD at z; cases z
  | _, _, _, _, .dk h e1 a, z, _ => by unfold O.toD at z; cases z
  | _, _, _, _, .dt h e1 a, z, _ => by unfold O.toD at z; cases z
  | _, _, _, _, .ob _ h h' e0 e1 e2 r, z, _ => by unfold O.toD at z; cases z
theorem rpl_freeze {F F' H : Hp} (e : Same F F') : ∀ {ws : Ws} {T : List Addr} {ds : List PyData}, RpL K F H ws T → O.toDs (ws.map (·.2)) = some ds → (∀ p ∈ T, F' p = H p) → DfAll K F' (ws.map (·.1)) ds
  | _, _, _, .nil, z, _ => by
    unfold O.toDs at z
    cases z
    exact .nil
  | _, _, _, .cons (x := x) (o := o) (ws := ws) h t, z, k => by
    simp only [List.map_cons] at z ⊢
    unfold O.toDs at z
    split at z
    · rename_i d ds h1 h2
      cases z
      exact .cons (rp_freeze e h h1 fun p hp => k p (List.mem_append_left _ hp)) (rpl_freeze e t h2 fun p hp => k p (List.mem_append_right _ hp))
    · cases z
end
theorem rpl_perm {F H : Hp} {ws ws' : Ws} (h : ws.Perm ws') : ∀ {T : List Addr}, RpL K F H ws T → ∃ T', T.Perm T' ∧ RpL K F H ws' T' := by
  induction h with
  | nil => intro T r; exact ⟨T, .refl _, r⟩
  | cons x _ ih =>
    intro T r
    cases r with
    | cons a t =>
      obtain ⟨T', p, r'⟩ := ih t
      exact ⟨_, List.Perm.append_left _ p, .cons a r'⟩
  | swap x y l =>
    intro T r
    cases r with
    | cons a t =>
      cases t with
      | cons b t =>
        refine ⟨_, ?_, .cons b (.cons a t)⟩
        rw [← List.append_assoc, ← List.append_assoc]
        exact List.Perm.append_right _ List.perm_append_comm
  | trans _ _ ih1 ih2 =>
    intro T r
    obtain ⟨T1, p1, r1⟩ := ih1 r
    obtain ⟨T2, p2, r2⟩ := ih2 r1
    exact ⟨T2, p1.trans p2, r2⟩
theorem rpl_append {F H : Hp} : ∀ {w1 w2 : Ws} {T1 T2 : List Addr}, RpL K F H w1 T1 → RpL K F H w2 T2 → RpL K F H (w1 ++ w2) (T1 ++ T2)
  | _, _, _, _, .nil, r => r
  | _, _, _, _, .cons a t, r => by
    rw [List.append_assoc]
    exact .cons a (rpl_append t r)
theorem rpl_split {F H : Hp} : ∀ {w1 w2 : Ws} {T : List Addr}, RpL K F H (w1 ++ w2) T → ∃ T1 T2, T = T1 ++ T2 ∧ RpL K F H w1 T1 ∧ RpL K F H w2 T2
  | [], _, T, r => ⟨[], T, rfl, .nil, r⟩
  | (x, o) :: w1, w2, _, .cons a t => by
    obtain ⟨T1, T2, rfl, r1, r2⟩ := rpl_split (w1 := w1) t
    exact ⟨_, T2, (List.append_assoc _ _ _).symm, .cons a r1, r2⟩
structure Rel (K : PySem.W.Frag) (H0 F0 F H : Hp) (ws : Ws) : Prop where
  h0 : Same H0 H
  f0 : Same F0 F
  fn : ∀ p o, F p = some o → F0 p = some o ∨ H0 p = none
  fh : Same F H
  res : ∃ T, RpL K F H ws T ∧ T.Nodup ∧ ∀ p ∈ T, F p = none ∧ H0 p = none
variable {H0 F0 F H : Hp} {ws ws' : Ws}
theorem Rel.perm (r : Rel K H0 F0 F H ws) (h : ws.Perm ws') : Rel K H0 F0 F H ws' := by
  obtain ⟨T, rl, nd, hp⟩ := r.res
  obtain ⟨T', p, rl'⟩ := rpl_perm h rl
  exact ⟨r.h0, r.f0, r.fn, r.fh, T', rl', p.nodup_iff.mp nd, fun q hq => hp q (p.mem_iff.mpr hq)⟩
theorem Rel.drop {w : Ws} (r : Rel K H0 F0 F H (w ++ ws)) : Rel K H0 F0 F H ws := by
  obtain ⟨T, rl, nd, hp⟩ := r.res
  obtain ⟨T1, T2, rfl, r1, r2⟩ := rpl_split rl
  exact ⟨r.h0, r.f0, r.fn, r.fh, T2, r2, (List.nodup_append.mp nd).2.1, fun q hq => hp q (List.mem_append_right _ hq)⟩
theorem Rel.tail {w : V × O} (r : Rel K H0 F0 F H (w :: ws)) : Rel K H0 F0 F H ws := Rel.drop (w := [w]) r
theorem Rel.dp {x : V} {d : PyData} (r : Rel K H0 F0 F H ((x, .v d) :: ws)) : Df K F x d := by
  obtain ⟨T, rl, nd, hp⟩ := r.res
  cases rl with
  | cons a t =>
    cases a with
    | v h => exact h
theorem Rel.add {x : V} {d : PyData} (r : Rel K H0 F0 F H ws) (h : Df K F x d) : Rel K H0 F0 F H ((x, .v d) :: ws) := by
  obtain ⟨T, rl, nd, hp⟩ := r.res
  exact ⟨r.h0, r.f0, r.fn, r.fh, T, .cons (.v h) rl, nd, hp⟩
theorem mem_perm {w : V × O} (h : w ∈ ws) : ∃ w', ws.Perm (w :: w') := by
  obtain ⟨a, b, rfl⟩ := List.append_of_mem h
  exact ⟨a ++ b, List.perm_middle⟩
theorem Rel.mem {x : V} {d : PyData} (r : Rel K H0 F0 F H ws) (h : (x, O.v d) ∈ ws) : Df K F x d :=
  let ⟨_, p⟩ := mem_perm h
  (r.perm p).dp
theorem Rel.at {x : V} {o : O} (r : Rel K H0 F0 F H ((x, o) :: ws)) : ∃ T, Rp K F H x o T := by
  obtain ⟨T, rl, nd, hp⟩ := r.res
  cases rl with
  | cons a t => exact ⟨_, a⟩
theorem Rel.memAt {x : V} {o : O} (r : Rel K H0 F0 F H ws) (h : (x, o) ∈ ws) : ∃ T, Rp K F H x o T :=
  let ⟨_, p⟩ := mem_perm h
  (r.perm p).at
theorem Rel.freeze {x : V} {o : O} {d : PyData} (r : Rel K H0 F0 F H ((x, o) :: ws)) (h : o.toD = some d) : ∃ F', Rel K H0 F0 F' H ((x, .v d) :: ws) := by
  obtain ⟨T, rl, nd, hp⟩ := r.res
  cases rl with
  | cons a t =>
    rename_i T1 T2
    obtain ⟨n1, n2, n3⟩ := List.nodup_append.mp nd
    have s1 : Same F (fun p => if p ∈ T1 then H p else F p) := fun b o e => by
      have nb : b ∉ T1 := fun hb => by
        rw [(hp b (List.mem_append_left _ hb)).1] at e
        cases e
      show (if b ∈ T1 then H b else F b) = some o
      rw [if_neg nb]
      exact e
    refine ⟨fun p => if p ∈ T1 then H p else F p, r.h0, r.f0.trans s1, fun p u e => ?_, fun p u e => ?_, T2, ?_, n2, fun p q => ⟨?_, (hp p (List.mem_append_right _ q)).2⟩⟩
    · by_cases hb : p ∈ T1
      · exact .inr (hp p (List.mem_append_left _ hb)).2
      · simp only [if_neg hb] at e
        exact r.fn p u e
    · by_cases hb : p ∈ T1
      · simp only [if_pos hb] at e
        exact e
      · simp only [if_neg hb] at e
        exact r.fh p u e
    · refine .cons (T1 := []) (.v (rp_freeze s1 a h fun p hp => if_pos hp)) (rpl_mono s1 t fun _ _ => rfl)
    · show (if p ∈ T1 then H p else F p) = none
      rw [if_neg fun z => n3 p z p q rfl]
      exact (hp p (List.mem_append_right _ q)).1
theorem Rel.f_none (r : Rel K H0 F0 F H ws) {p : Addr} (h : H p = none) : F p = none := r.fh.free h
theorem Rel.h_none (r : Rel K H0 F0 F H ws) {p : Addr} (h : H p = none) : H0 p = none := r.h0.free h
theorem same_upd {H : Hp} {p : Addr} {o : HO} (h : H p = none) : Same H (upd H p o) := fun b x e => by
  rw [upd_ne (ne_of_none e h)]
  exact e
theorem Rel.newWith {p : Addr} {w : Ws} {u : HO} {x : O} (r : Rel K H0 F0 F H (w ++ ws)) (h : H p = none)
    (hx : ∀ T, RpL K F (upd H p u) w T → Rp K F (upd H p u) (.ref p) x (p :: T)) : Rel K H0 F0 F (upd H p u) ((.ref p, x) :: ws) := by
  obtain ⟨T, rl, nd, hp⟩ := r.res
  obtain ⟨T1, T2, rfl, r1, r2⟩ := rpl_split rl
  have nT : ∀ q ∈ T1 ++ T2, q ≠ p := fun q hq e => by
    have := rpl_dom rl q hq
    rw [e, h] at this
    exact this rfl
  have m1 : RpL K F (upd H p u) w T1 := rpl_mono (Same.refl F) r1 fun q hq => upd_ne (nT q (List.mem_append_left _ hq))
  have m2 : RpL K F (upd H p u) ws T2 := rpl_mono (Same.refl F) r2 fun q hq => upd_ne (nT q (List.mem_append_right _ hq))
  have s1 := same_upd (o := u) h
  refine ⟨r.h0.trans s1, r.f0, r.fn, r.fh.trans s1, (p :: T1) ++ T2, .cons (hx T1 m1) m2, ?_, fun q hq => ?_⟩
  · rw [List.cons_append]
    exact List.nodup_cons.mpr ⟨fun z => nT p z rfl, nd⟩
  · rcases List.mem_cons.mp hq with e | hq
    · rw [e]; exact ⟨r.f_none h, r.h_none h⟩
    · exact hp q hq
theorem Rel.newL {p : Addr} {w : Ws} (r : Rel K H0 F0 F H (w ++ ws)) (h : H p = none) : Rel K H0 F0 F (upd H p (.lst (w.map (·.1)))) ((.ref p, .l (w.map (·.2))) :: ws) :=
  r.newWith h fun _ m => .l upd_same rfl rfl m
theorem Rel.newT {p : Addr} {w : Ws} (r : Rel K H0 F0 F H (w ++ ws)) (h : H p = none) : Rel K H0 F0 F (upd H p (.tup (w.map (·.1)))) ((.ref p, .t (w.map (·.2))) :: ws) :=
  r.newWith h fun _ m => .t upd_same rfl rfl m
def O.fz : O → Bool
  | .v _ => true
  | .s _ => true
  | .fx _ => true
  | .ex _ => true
  | _ => false
theorem rpl_frozen {F H : Hp} : ∀ {w : Ws} {T : List Addr}, RpL K F H w T → (∀ x ∈ w, x.2.fz = true) → T = []
  | _, _, .nil, _ => rfl
  | _, _, .cons (x := x) (o := o) a t, h => by
    have e : o.fz = true := h _ (List.mem_cons_self ..)
    rw [rpl_frozen t fun y hy => h y (List.mem_cons_of_mem _ hy)]
    cases a <;> first | rfl | cases e
theorem Rel.hand {w : Ws} (r : Rel K H0 F0 F H (w ++ ws)) : ∃ H1, Rel K H1 F F H w ∧ (∀ F' H' w', Rel K H1 F F' H' w' → Rel K H0 F0 F' H' (w' ++ ws)) ∧ ((∀ x ∈ w, x.2.fz = true) → H1 = H) := by
  obtain ⟨T, rl, nd, hp⟩ := r.res
  obtain ⟨T1, T2, rfl, r1, r2⟩ := rpl_split rl
  obtain ⟨n1, n2, n3⟩ := List.nodup_append.mp nd
  refine ⟨fun p => if p ∈ T1 then none else H p, ⟨fun p o e => ?_, Same.refl F, fun p o e => .inl e, r.fh, T1, r1, n1, fun p q => ⟨(hp p (List.mem_append_left _ q)).1, if_pos q⟩⟩, fun F' H' w' r' => ?_, fun hw => ?_⟩
  · by_cases hq : p ∈ T1
    · simp only [if_pos hq] at e
      cases e
    · simp only [if_neg hq] at e
      exact e
  · have k0 : ∀ p o, H0 p = some o → (if p ∈ T1 then none else H p) = some o := fun p o e => by
      have nq : p ∉ T1 := fun q => by
        rw [(hp p (List.mem_append_left _ q)).2] at e
        cases e
      rw [if_neg nq]
      exact r.h0 p o e
    have k1 : ∀ p, (if p ∈ T1 then none else H p) = none → H0 p = none := fun p e => by
      cases q : H0 p with
      | none => rfl
      | some o =>
        rw [k0 p o q] at e
        cases e
    have kT : ∀ p ∈ T2, ∃ o, H p = some o ∧ (if p ∈ T1 then none else H p) = some o := fun p q => by
      cases e : H p with
      | none => exact absurd e (rpl_dom r2 p q)
      | some o =>
        refine ⟨o, rfl, ?_⟩
        rw [if_neg fun z => n3 p z p q rfl]
    obtain ⟨T', rl', nd', hp'⟩ := r'.res
    refine ⟨fun p o e => r'.h0 p o (k0 p o e), r.f0.trans r'.f0, fun p o e => ?_, r'.fh, T' ++ T2, rpl_append rl' (rpl_mono r'.f0 r2 fun p q => ?_), List.nodup_append.mpr ⟨nd', n2, fun p q p2 q2 z => ?_⟩, fun p q => ?_⟩
    · rcases r'.fn p o e with e | e
      · exact r.fn p o e
      · exact .inr (k1 p e)
    · obtain ⟨o, e1, e2⟩ := kT p q
      rw [e1]
      exact r'.h0 p o e2
    · subst z
      obtain ⟨o, _, e2⟩ := kT p q2
      have := (hp' p q).2
      rw [e2] at this
      cases this
    · rcases List.mem_append.mp q with q | q
      · exact ⟨(hp' p q).1, k1 p (hp' p q).2⟩
      · refine ⟨?_, (hp p (List.mem_append_right _ q)).2⟩
        cases e : F' p with
        | none => rfl
        | some o =>
          rcases r'.fn p o e with e1 | e1
          · rw [(hp p (List.mem_append_right _ q)).1] at e1
            cases e1
          · obtain ⟨o', _, e2⟩ := kT p q
            rw [e2] at e1
            cases e1
  · have e := rpl_frozen r1 hw
    subst e
    funext p
    exact if_neg (by simp)
end
end Dn
namespace Dn
open PySem L2
inductive Sl where
  | no
  | own (o : O)
  | pin (o : O)
abbrev En := List Sl
def slots : St → En → Ws
  | some v :: σ, .own o :: e => (v, o) :: slots σ e
  | some v :: σ, .pin o :: e => (v, o) :: slots σ e
  | _ :: σ, _ :: e => slots σ e
  | _, _ => []
def Sl.ok (v0 : Option V) : Option V → Sl → Prop
  | _, .no => True
  | x, .own _ => ∃ v, x = some v
  | x, .pin _ => ∃ v, x = some v ∧ v0 = some v
structure SlOk (vs : List V) (σ : St) (e : En) : Prop where
  len : σ.length = e.length
  sl : ∀ (i : Nat) (s : Sl), e[i]? = some s → ∃ x, σ[i]? = some x ∧ s.ok vs[i]? x
def Sl.o? : Sl → Option O
  | .no => none
  | .own o => some o
  | .pin o => some o
theorem slots_take {v : V} {s : Sl} {o : O} (hs : s.o? = some o) : ∀ {σ : St} {e : En} {i : Nat}, σ[i]? = some (some v) → e[i]? = some s → (slots σ e).Perm ((v, o) :: slots σ (e.set i .no))
  | [], _, _, h, _ => by simp at h
  | _ :: _, [], _, _, h => by simp at h
  | x :: σ, y :: e, 0, h1, h2 => by
    simp only [List.getElem?_cons_zero, Option.some.injEq] at h1 h2
    subst h1; subst h2
    cases y with
    | no => cases hs
    | own o' => cases hs; exact .refl _
    | pin o' => cases hs; exact .refl _
  | x :: σ, y :: e, i + 1, h1, h2 => by
    simp only [List.getElem?_cons_succ] at h1 h2
    have ih := slots_take hs h1 h2
    simp only [List.set_cons_succ]
    cases x with
    | none => exact ih
    | some x =>
      cases y with
      | no => exact ih
      | own z => exact (List.Perm.cons _ ih).trans (.swap _ _ _)
      | pin z => exact (List.Perm.cons _ ih).trans (.swap _ _ _)
theorem slots_no {x : Option V} : ∀ {σ : St} {e : En} {i : Nat}, slots (σ.set i x) (e.set i .no) = slots σ (e.set i .no)
  | [], _, _ => rfl
  | _ :: _, [], i => by cases i <;> simp [slots]
  | y :: σ, z :: e, 0 => by
    simp only [List.set_cons_zero]
    cases x <;> cases y <;> rfl
  | y :: σ, z :: e, i + 1 => by
    simp only [List.set_cons_succ]
    have ih := slots_no (x := x) (σ := σ) (e := e) (i := i)
    cases y <;> cases z <;> simp only [slots, ih]
theorem slots_put {v : V} {s : Sl} {o : O} (hs : s.o? = some o) {σ : St} {e : En} {i : Nat} (hi : i < e.length) (hσ : σ[i]? = some (some v)) : (slots σ (e.set i s)).Perm ((v, o) :: slots σ (e.set i .no)) := by
  have h := slots_take hs hσ (e := e.set i s) (by rw [List.getElem?_set_self hi])
  rw [List.set_set] at h
  exact h
theorem slots_less {σ : St} {e : En} {i : Nat} {x : Option V} {s : Sl} (h1 : σ[i]? = some x) (h2 : e[i]? = some s) : ∃ w, (slots σ e).Perm (w ++ slots σ (e.set i .no)) := by
  cases hs : s.o? with
  | none =>
    cases s with
    | no =>
      have : e.set i .no = e := by
        apply List.ext_getElem?
        intro j
        by_cases hj : i = j
        · subst hj
          rw [List.getElem?_set_self (List.getElem?_eq_some_iff.mp h2).1, h2]
        · rw [List.getElem?_set_ne hj]
      rw [this]
      exact ⟨[], .refl _⟩
    | own o => cases hs
    | pin o => cases hs
  | some o =>
    cases x with
    | some v => exact ⟨[(v, o)], slots_take hs h1 h2⟩
    | none =>
      refine ⟨[], ?_⟩
      have : slots σ e = slots σ (e.set i .no) := by
        clear hs
        induction σ generalizing e i with
        | nil => simp at h1
        | cons y σ ih =>
          cases e with
          | nil => simp at h2
          | cons z e =>
            cases i with
            | zero =>
              simp only [List.getElem?_cons_zero, Option.some.injEq] at h1
              subst h1
              rfl
            | succ i =>
              simp only [List.getElem?_cons_succ] at h1 h2
              simp only [List.set_cons_succ]
              cases y <;> cases z <;> simp only [slots, ih h2 h1]
      rw [this]
      exact .refl _
theorem SlOk.set {vs : List V} {σ : St} {e : En} {i : Nat} {v : V} {o : O} (h : SlOk vs σ e) : SlOk vs (σ.set i (some v)) (e.set i (.own o)) := by
  refine ⟨by rw [List.length_set, List.length_set]; exact h.len, fun j s hj => ?_⟩
  by_cases hij : i = j
  · subst hij
    have hi : i < e.length := by
      have := (List.getElem?_eq_some_iff.mp hj).1
      rw [List.length_set] at this
      exact this
    rw [List.getElem?_set_self hi] at hj
    cases hj
    exact ⟨some v, by rw [List.getElem?_set_self (by rw [h.len]; exact hi)], v, rfl⟩
  · rw [List.getElem?_set_ne hij] at hj ⊢
    exact h.sl j s hj
theorem SlOk.no {vs : List V} {σ : St} {e : En} {i : Nat} (h : SlOk vs σ e) : SlOk vs σ (e.set i .no) := by
  refine ⟨by rw [List.length_set]; exact h.len, fun j s hj => ?_⟩
  by_cases hij : i = j
  · subst hij
    have hi : i < e.length := by
      have := (List.getElem?_eq_some_iff.mp hj).1
      rw [List.length_set] at this
      exact this
    rw [List.getElem?_set_self hi] at hj
    cases hj
    have : i < σ.length := by rw [h.len]; exact hi
    exact ⟨σ[i], by rw [List.getElem?_eq_getElem this], trivial⟩
  · rw [List.getElem?_set_ne hij] at hj
    exact h.sl j s hj
theorem SlOk.own {vs : List V} {σ : St} {e : En} {i : Nat} {o o' : O} (h : SlOk vs σ e) (hi : e[i]? = some (.own o)) : SlOk vs σ (e.set i (.own o')) := by
  refine ⟨by rw [List.length_set]; exact h.len, fun j s hj => ?_⟩
  by_cases hij : i = j
  · subst hij
    rw [List.getElem?_set_self (List.getElem?_eq_some_iff.mp hi).1] at hj
    cases hj
    obtain ⟨x, hx, q⟩ := h.sl i _ hi
    exact ⟨x, hx, q⟩
  · rw [List.getElem?_set_ne hij] at hj
    exact h.sl j s hj
theorem SlOk.pin {vs : List V} {σ : St} {e : En} {i : Nat} {o o' : O} (h : SlOk vs σ e) (hi : e[i]? = some (.pin o)) : SlOk vs σ (e.set i (.pin o')) := by
  refine ⟨by rw [List.length_set]; exact h.len, fun j s hj => ?_⟩
  by_cases hij : i = j
  · subst hij
    rw [List.getElem?_set_self (List.getElem?_eq_some_iff.mp hi).1] at hj
    cases hj
    obtain ⟨x, hx, q⟩ := h.sl i _ hi
    exact ⟨x, hx, q⟩
  · rw [List.getElem?_set_ne hij] at hj
    exact h.sl j s hj
structure Bs where
  H0 : Hp
  F0 : Hp
  vs : List V
structure Sta (K : PySem.W.Frag) (B : Bs) (F H : Hp) (σ : St) (e : En) (G : Ws) : Prop where
  ok : SlOk B.vs σ e
  rel : Rel K B.H0 B.F0 F H (slots σ e ++ G)
section
variable {K : PySem.W.Frag} {B : Bs} {F H : Hp} {σ : St} {e : En} {G : Ws} {x : V} {o : O}
theorem Sta.perm {G' : Ws} (s : Sta K B F H σ e G) (h : G.Perm G') : Sta K B F H σ e G' := ⟨s.ok, s.rel.perm (List.Perm.append_left _ h)⟩
theorem mid {α : Type} (a : α) (l m : List α) : (l ++ a :: m).Perm (a :: (l ++ m)) := List.perm_middle
theorem Sta.pop (s : Sta K B F H σ e ((x, o) :: G)) : Sta K B F H σ e G := ⟨s.ok, (s.rel.perm (mid _ _ _)).tail⟩
theorem Sta.at (s : Sta K B F H σ e ((x, o) :: G)) : ∃ T, Rp K F H x o T := (s.rel.perm (mid _ _ _)).at
theorem Sta.push {d : PyData} (s : Sta K B F H σ e G) (h : Df K F x d) : Sta K B F H σ e ((x, .v d) :: G) := ⟨s.ok, (s.rel.add h).perm (mid _ _ _).symm⟩
theorem Sta.freeze {d : PyData} (s : Sta K B F H σ e ((x, o) :: G)) (h : o.toD = some d) : ∃ F', Sta K B F' H σ e ((x, .v d) :: G) := by
  obtain ⟨F', r⟩ := (s.rel.perm (mid _ _ _)).freeze h
  exact ⟨F', s.ok, r.perm (mid _ _ _).symm⟩
theorem Sta.fh (s : Sta K B F H σ e G) : Same F H := s.rel.fh
theorem rp_dp {T : List Addr} {d : PyData} (fh : Same F H) (r : Rp K F H x o T) (h : o.toD = some d) : Df K H x d := rp_freeze fh r h fun _ _ => rfl
theorem Sta.df {d : PyData} (s : Sta K B F H σ e ((x, o) :: G)) (h : o.toD = some d) : Df K H x d := by
  obtain ⟨T, r⟩ := s.at
  exact rp_dp s.fh r h
theorem Sta.out {i : Nat} {sl : Sl} (s : Sta K B F H σ e G) (hi : e[i]? = some sl) (ho : sl.o? = some o) : ∃ v, σ[i]? = some (some v) ∧ Sta K B F H σ (e.set i .no) ((v, o) :: G) := by
  obtain ⟨x, hx, h⟩ := s.ok.sl i sl hi
  have : ∃ v, x = some v := by
    cases sl with
    | no => cases ho
    | own _ => exact h
    | pin _ => obtain ⟨v, e, _⟩ := h; exact ⟨v, e⟩
  obtain ⟨v, rfl⟩ := this
  refine ⟨v, hx, s.ok.no, ?_⟩
  have p := (slots_take ho hx hi).append_right G
  exact (s.rel.perm p).perm (mid _ _ _).symm
theorem Sta.store {i : Nat} {v : V} (s : Sta K B F H σ e ((v, o) :: G)) (hi : i < e.length) : Sta K B F H (σ.set i (some v)) (e.set i (.own o)) G := by
  refine ⟨s.ok.set, ?_⟩
  have hσ : i < σ.length := by rw [s.ok.len]; exact hi
  have r := s.rel.perm (mid _ _ _)
  obtain ⟨w, pw⟩ := slots_less (σ := σ) (e := e) (i := i) (List.getElem?_eq_getElem hσ) (List.getElem?_eq_getElem hi)
  have p2 : (slots (σ.set i (some v)) (e.set i (.own o))).Perm ((v, o) :: slots σ (e.set i .no)) := by
    have q := slots_put (s := Sl.own o) rfl (σ := σ.set i (some v)) (e := e) hi (by rw [List.getElem?_set_self hσ])
    rw [slots_no] at q
    exact q
  have p3 : ((v, o) :: (slots σ e ++ G)).Perm (w ++ ((v, o) :: (slots σ (e.set i .no) ++ G))) := by
    refine ((pw.append_right G).cons (v, o)).trans ?_
    rw [List.append_assoc]
    exact (mid _ _ _).symm
  exact ((r.perm p3).drop).perm (p2.append_right G).symm
theorem Sta.back {i : Nat} {v : V} {sl : Sl} (s : Sta K B F H σ (e.set i .no) ((v, o) :: G)) (hσ : σ[i]? = some (some v)) (hi : i < e.length) (ho : sl.o? = some o) (ok : SlOk B.vs σ (e.set i sl)) : Sta K B F H σ (e.set i sl) G :=
  ⟨ok, (s.rel.perm (mid _ _ _)).perm ((slots_put ho hi hσ).append_right G).symm⟩
theorem Sta.newL {p : Addr} {w : Ws} (s : Sta K B F H σ e (w ++ G)) (h : H p = none) : Sta K B F (upd H p (.lst (w.map (·.1)))) σ e ((.ref p, .l (w.map (·.2))) :: G) := by
  refine ⟨s.ok, ?_⟩
  have q : (slots σ e ++ (w ++ G)).Perm (w ++ (slots σ e ++ G)) := by
    rw [← List.append_assoc, ← List.append_assoc]
    exact List.perm_append_comm.append_right G
  exact ((s.rel.perm q).newL h).perm (mid _ _ _).symm
theorem Sta.newT {p : Addr} {w : Ws} (s : Sta K B F H σ e (w ++ G)) (h : H p = none) : Sta K B F (upd H p (.tup (w.map (·.1)))) σ e ((.ref p, .t (w.map (·.2))) :: G) := by
  refine ⟨s.ok, ?_⟩
  have q : (slots σ e ++ (w ++ G)).Perm (w ++ (slots σ e ++ G)) := by
    rw [← List.append_assoc, ← List.append_assoc]
    exact List.perm_append_comm.append_right G
  exact ((s.rel.perm q).newT h).perm (mid _ _ _).symm
end
abbrev MD (α : Type) := En → Option (α × En)
def den (K : PySem.W.Frag) (a : Bool) (m : MD O) : TE := fun σ H Q => ∃ B F e G x e', Sta K B F H σ e G ∧ m e = some (x, e') ∧ ∀ F' H' v, Sta K B F' H' σ e' ((v, x) :: G) → (a = true → Same H H') → Q v H'
def denB (K : PySem.W.Frag) (m : En → Option O) : TE := fun σ H Q => ∃ B F e G x, Sta K B F H σ e G ∧ m e = some x ∧ ∀ v T, Rp K F H v x T → Q v H
def denT (K : PySem.W.Frag) (a : Bool) (m : MD Bool) : TT := fun σ H Q => ∃ B F e G b e', Sta K B F H σ e G ∧ m e = some (b, e') ∧ ∀ F' H', Sta K B F' H' σ e' G → (a = true → Same H H') → Q b H'
def denA (K : PySem.W.Frag) (a : Bool) (m : MD (List O)) : TA := fun σ H Q => ∃ B F e G xs e', Sta K B F H σ e G ∧ m e = some (xs, e') ∧ ∀ F' H' ws, Sta K B F' H' σ e' (ws ++ G) → ws.map (·.2) = xs → (a = true → Same H H') → Q (ws.map (·.1)) H'
inductive Oc where
  | nx (e : En) | rt (x : O) (e : En) | bk (e : En) | ct (e : En)
abbrev MS := En → Option Oc
def Oc.end (K : PySem.W.Frag) (B : Bs) (G : Ws) (D : Ends) : Oc → Prop
  | .nx e => ∀ F H σ, Sta K B F H σ e G → D.nx σ H
  | .bk e => ∀ F H σ, Sta K B F H σ e G → D.bk σ H
  | .ct e => ∀ F H σ, Sta K B F H σ e G → D.ct σ H
  | .rt x e => ∀ F H σ v, Sta K B F H σ e ((v, x) :: G) → D.rt v H
def denS (K : PySem.W.Frag) (m : MS) : TS := fun D σ H => ∃ B F e G oc, Sta K B F H σ e G ∧ m e = some oc ∧ oc.end K B G D
section
variable {X : Cx}
theorem pe_imp {e : Expr} {t u : TE} (h : PE X e t) (k : ∀ σ H Q, u σ H Q → t σ H Q) : PE X e u := ⟨fun pins s σ H Q I q => h.run pins s σ H Q I (k _ _ _ q)⟩
theorem pt_imp {e : Expr} {t u : TT} (h : PT X e t) (k : ∀ σ H Q, u σ H Q → t σ H Q) : PT X e u := ⟨fun pins s σ H Q I q => h.run pins s σ H Q I (k _ _ _ q)⟩
theorem pw_imp {e : Expr} {t u : TT} (h : PW X e t) (k : ∀ σ H Q, u σ H Q → t σ H Q) : PW X e u := ⟨fun wh pins s σ H Q I q => h.run wh pins s σ H Q I (k _ _ _ q)⟩
theorem pa_imp {es : List Expr} {t u : TA} (h : PA X es t) (k : ∀ σ H Q, u σ H Q → t σ H Q) : PA X es u := ⟨fun pos pins s σ H Q I q => h.run pos pins s σ H Q I (k _ _ _ q)⟩
theorem ps_imp {st : Stmt} {t u : TS} (h : PS X st t) (k : ∀ D σ H, u D σ H → t D σ H) : PS X st u := ⟨fun pins s σ H D I q => h.run pins s σ H D I (k _ _ _ q)⟩
theorem pss_imp {st : List Stmt} {t u : TS} (h : PSs X st t) (k : ∀ D σ H, u D σ H → t D σ H) : PSs X st u := ⟨fun pins s σ H D I q => h.run pins s σ H D I (k _ _ _ q)⟩
theorem opr_or {f : Value → Value → Sem Value} {r r' : R2} (h : OpR X f r) (h' : OpR X f r') : OpR X f (fun x y H Q => r x y H Q ∨ r' x y H Q) := by
  intro pins s σ H x y v u Q I rx ry q
  rcases q with q | q
  · exact h pins s σ H x y v u Q I rx ry q
  · exact h' pins s σ H x y v u Q I rx ry q
end
end Dn
namespace Dn
open PySem L2
theorem shut_ex {α : Type} (a : α) : ∃ x : α, x = a := ⟨a, rfl⟩
noncomputable def shut {α : Type} (a : α) : α := Classical.choose (shut_ex a)
theorem shut_eq {α : Type} (a : α) : shut a = a := Classical.choose_spec (shut_ex a)
theorem so {α β : Type} {a c : α} {b d : β} (h : some (a, b) = some (c, d)) : a = c ∧ b = d := by cases h; exact ⟨rfl, rfl⟩
def sV : PyData → Option V
  | .none => some .non
  | .bool b => some (.bl b)
  | .int i => some (.int i)
  | .str x => some (.str x)
  | _ => none
theorem sV_df {K : PySem.W.Frag} {F : Hp} {d : PyData} {v : V} (h : sV d = some v) : Df K F v d := by
  cases d <;> simp only [sV, Option.some.injEq, reduceCtorEq] at h
  all_goals subst h; constructor
theorem df_sV {K : PySem.W.Frag} {F : Hp} {d : PyData} {v u : V} (h : sV d = some v) (k : Df K F u d) : u = v := by
  cases d <;> simp only [sV, Option.some.injEq, reduceCtorEq] at h
  all_goals subst h; cases k; rfl
def mC (d : PyData) : MD O := fun e => some (.v d, e)
def mVar (i : Nat) : MD O := fun e => match e[i]? with
  | some (.own (.v d)) => some (.v d, e)
  | some (.own (.s ns)) => some (.s ns, e)
  | some (.own o) => (match o.toD with | some d => some (.v d, e.set i (.own (.v d))) | none => none)
  | some (.pin (.v d)) => some (.v d, e)
  | some (.pin (.s ns)) => some (.s ns, e)
  | _ => none
def mMv (i : Nat) : MD O := fun e => match e[i]? with
  | some (.own o) => some (o, e.set i .no)
  | _ => none
def bVar (i : Nat) : En → Option O := fun e => (e[i]?).bind Sl.o?
section
variable {K : PySem.W.Frag} {B : Bs} {F H : Hp} {σ : St} {e : En} {G : Ws}
theorem Sta.seeO {i : Nat} {sl : Sl} {o : O} (s : Sta K B F H σ e G) (hi : e[i]? = some sl) (ho : sl.o? = some o) : ∃ v, σ[i]? = some (some v) ∧ ∃ T, Rp K F H v o T := by
  obtain ⟨v, hv, s'⟩ := s.out hi ho
  exact ⟨v, hv, s'.at⟩
theorem Sta.pushS {a : Addr} {ns : List Int} (s : Sta K B F H σ e G) (h : SqL K F a (ns.map V.int)) : Sta K B F H σ e ((.ref a, .s ns) :: G) := by
  refine ⟨s.ok, ?_⟩
  obtain ⟨T, rl, nd, hp⟩ := s.rel.res
  have q : Rel K B.H0 B.F0 F H ((.ref a, .s ns) :: (slots σ e ++ G)) := ⟨s.rel.h0, s.rel.f0, s.rel.fn, s.rel.fh, T, .cons (T1 := []) (.s h) rl, nd, hp⟩
  exact q.perm (mid _ _ _).symm
theorem set_self {i : Nat} {s : Sl} {e : En} (h : e[i]? = some s) : e.set i s = e := by
  apply List.ext_getElem?
  intro j
  by_cases hj : i = j
  · subst hj
    rw [List.getElem?_set_self (List.getElem?_eq_some_iff.mp h).1, h]
  · rw [List.getElem?_set_ne hj]
theorem var_see {i : Nat} {x : O} {e' : En} (s : Sta K B F H σ e G) (hm : mVar i e = some (x, e')) : ∃ v, σ[i]? = some (some v) ∧ ∃ F', Sta K B F' H σ e' ((v, x) :: G) := by
  have fr : ∀ {sl : Sl} {d : PyData}, e[i]? = some sl → sl.o? = some (.v d) → ∃ v, σ[i]? = some (some v) ∧ ∃ F', Sta K B F' H σ e ((v, .v d) :: G) := fun hi ho => by
    obtain ⟨v, hv, T, r⟩ := s.seeO hi ho
    cases r with
    | v h => exact ⟨v, hv, F, s.push h⟩
  have fs : ∀ {sl : Sl} {ns : List Int}, e[i]? = some sl → sl.o? = some (.s ns) → ∃ v, σ[i]? = some (some v) ∧ ∃ F', Sta K B F' H σ e ((v, .s ns) :: G) := fun hi ho => by
    obtain ⟨v, hv, T, r⟩ := s.seeO hi ho
    cases r with
    | s h => exact ⟨_, hv, F, s.pushS h⟩
  have fo : ∀ {o : O} {d : PyData}, e[i]? = some (.own o) → o.toD = some d → ∃ v, σ[i]? = some (some v) ∧ ∃ F', Sta K B F' H σ (e.set i (.own (.v d))) ((v, .v d) :: G) := fun {o d} hi ho => by
    obtain ⟨v, hv, s1⟩ := s.out hi (show (Sl.own o).o? = some o from rfl)
    obtain ⟨F', s2⟩ := s1.freeze ho
    obtain ⟨T, r⟩ := s2.at
    cases r with
    | v h =>
      have hl : i < e.length := (List.getElem?_eq_some_iff.mp hi).1
      have s3 : Sta K B F' H σ (e.set i (.own (.v d))) G := Sta.back (e := e) s2 hv hl (show (Sl.own (.v d)).o? = some (.v d) from rfl) (s.ok.own hi)
      exact ⟨v, hv, F', s3.push h⟩
  unfold mVar at hm
  split at hm
  · rename_i d hi; cases hm; exact fr hi rfl
  · rename_i ns hi; cases hm; exact fs hi rfl
  · rename_i o hi
    split at hm
    · rename_i d hd; cases hm; exact fo hi hd
    · cases hm
  · rename_i d hi; cases hm; exact fr hi rfl
  · rename_i ns hi; cases hm; exact fs hi rfl
  · cases hm
end
section
variable {X : Cx}
theorem d_int {i j pos} : PE X (.Constant (.int i) j pos) (den X.K true (mC (.int i))) := pe_imp pe_int fun σ H Q ⟨B, F, e, G, x, e', s, hm, k⟩ => by
  cases hm
  exact k F H _ (s.push (.int i)) fun _ => .refl _
theorem d_bl {b j pos} : PE X (.Constant (.bool b) j pos) (den X.K true (mC (.bool b))) := pe_imp pe_bl fun σ H Q ⟨B, F, e, G, x, e', s, hm, k⟩ => by
  cases hm
  exact k F H _ (s.push (.bl b)) fun _ => .refl _
theorem d_non {j pos} : PE X (.Constant .none j pos) (den X.K true (mC .none)) := pe_imp pe_non fun σ H Q ⟨B, F, e, G, x, e', s, hm, k⟩ => by
  cases hm
  exact k F H _ (s.push .non) fun _ => .refl _
theorem d_str {x j pos} : PE X (.Constant (.str x) j pos) (den X.K true (mC (.str x))) := pe_imp pe_str fun σ H Q ⟨B, F, e, G, y, e', s, hm, k⟩ => by
  cases hm
  exact k F H _ (s.push (.str x)) fun _ => .refl _
theorem d_var (i : Nat) {x : Str} {pos : Pos} (h : PE X (.Name x pos) (tVar i)) : PE X (.Name x pos) (den X.K true (mVar i)) := pe_imp h fun σ H Q ⟨B, F, e, G, y, e', s, hm, k⟩ => by
  obtain ⟨v, hv, F', s'⟩ := var_see s hm
  exact ⟨v, hv, k F' H v s' fun _ => .refl _⟩
theorem d_mv (i : Nat) {x : Str} {pos : Pos} (h : PE X (.Name x pos) (tVar i)) : PE X (.Name x pos) (den X.K true (mMv i)) := pe_imp h fun σ H Q ⟨B, F, e, G, y, e', s, hm, k⟩ => by
  unfold mMv at hm
  split at hm
  · rename_i o hi
    obtain ⟨rfl, rfl⟩ := so hm
    obtain ⟨v, hv, s'⟩ := s.out hi (show (Sl.own o).o? = some o from rfl)
    exact ⟨v, hv, k F H v s' fun _ => .refl _⟩
  · cases hm
def bC (d : PyData) : En → Option O := fun _ => some (.v d)
theorem db_int {i j pos} : PE X (.Constant (.int i) j pos) (denB X.K (bC (.int i))) := pe_imp pe_int fun σ H Q ⟨B, F, e, G, y, s, hm, k⟩ => by
  cases hm
  exact k _ [] (.v (.int i))
end
inductive RpA (K : PySem.W.Frag) (F H : Hp) : List V → List O → Prop
  | nil : RpA K F H [] []
  | cons {v : V} {o : O} {vs : List V} {os : List O} {T : List Addr} : Rp K F H v o T → RpA K F H vs os → RpA K F H (v :: vs) (o :: os)
theorem RpA.df {K : PySem.W.Frag} {F H : Hp} (fh : Same F H) : ∀ {vs : List V} {os : List O} {ds : List PyData}, RpA K F H vs os → O.toDs os = some ds → DfAll K H vs ds
  | _, _, _, .nil, h => by
    unfold O.toDs at h
    cases h
    exact .nil
  | _, _, _, .cons r t, h => by
    unfold O.toDs at h
    split at h
    · rename_i d ds h1 h2
      cases h
      exact .cons (rp_dp fh r h1) (t.df fh h2)
    · cases h
def denL (K : PySem.W.Frag) (a : Bool) (m : MD (List O)) : TA := fun σ H Q => ∃ B F e G xs e', Sta K B F H σ e G ∧ m e = some (xs, e') ∧ ∀ F' H' vs, Sta K B F' H' σ e' G → RpA K F' H' vs xs → (a = true → Same H H') → Q vs H'
def lNil : MD (List O) := fun e => some ([], e)
def lCons (m : MD O) (ms : MD (List O)) : MD (List O) := fun e => match m e with
  | some (x, e1) => (match ms e1 with
    | some (xs, e2) => some (x :: xs, e2)
    | none => none)
  | none => none
def lSee (i : Nat) (ms : MD (List O)) : MD (List O) := fun e => match bVar i e with
  | some _ => (match ms e with
    | some (xs, e1) => (match bVar i e1 with
      | some x => some (x :: xs, e1)
      | none => none)
    | none => none)
  | none => none
def LS (K : PySem.W.Frag) (p : Bool) (m : MD (List O)) (t : TA) : Prop := ∀ σ H Q, denL K p m σ H Q → t σ H Q
section
variable {K : PySem.W.Frag}
theorem ls_nil : LS K true lNil tNil := fun σ H Q ⟨B, F, e, G, y, e', s, hm, k⟩ => by
  cases hm
  exact k F H [] s .nil fun _ => .refl _
theorem ls_cons {p q : Bool} {m : MD O} {ms : MD (List O)} {t : TA} (h : LS K q ms t) : LS K (p && q) (lCons m ms) (tCons (den K p m) t) := fun σ H Q ⟨B, F, e, G, y, e', s, hm, k⟩ => by
  unfold lCons at hm
  split at hm
  · rename_i x e1 h1
    split at hm
    · rename_i xs e2 h2
      obtain ⟨rfl, rfl⟩ := so hm
      refine ⟨B, F, e, G, x, e1, s, h1, fun F1 H1 v s1 sm1 => h σ H1 _ ⟨B, F1, e1, (v, x) :: G, xs, e2, s1, h2, fun F2 H2 vs s2 r2 sm2 => ?_⟩⟩
      obtain ⟨T, r⟩ := s2.at
      refine k F2 H2 (v :: vs) s2.pop (.cons r r2) fun z => ?_
      cases p
      · cases z
      · cases q
        · cases z
        · exact (sm1 rfl).trans (sm2 rfl)
    · cases hm
  · cases hm
theorem ls_see {q : Bool} {i : Nat} {ms : MD (List O)} {t : TA} (h : LS K q ms t) : LS K q (lSee i ms) (tCons (tVar i) t) := fun σ H Q ⟨B, F, e, G, y, e', s, hm, k⟩ => by
  unfold lSee at hm
  split at hm
  · rename_i x0 h0
    split at hm
    · rename_i xs e1 h1
      split at hm
      · rename_i x h2
        obtain ⟨rfl, rfl⟩ := so hm
        obtain ⟨sl0, hi0, ho0⟩ := Option.bind_eq_some_iff.mp h0
        obtain ⟨v, hv, _⟩ := s.seeO hi0 ho0
        refine ⟨v, hv, h σ H _ ⟨B, F, e, G, xs, e1, s, h1, fun F1 H1 vs s1 r1 sm1 => ?_⟩⟩
        obtain ⟨sl, hi, ho⟩ := Option.bind_eq_some_iff.mp h2
        obtain ⟨v', hv', T, r⟩ := s1.seeO hi ho
        obtain rfl : v' = v := by rw [hv] at hv'; cases hv'; rfl
        exact k F1 H1 (v' :: vs) s1 (.cons r r1) sm1
      · cases hm
    · cases hm
  · cases hm
def mL (f : List PyData → Option PyData) (ms : MD (List O)) : MD O := fun e => match ms e with
  | some (xs, e1) => (match O.toDs xs with
    | some ds => (match f ds with
      | some z => some (.v z, e1)
      | none => none)
    | none => none)
  | none => none
def Sc (K : PySem.W.Frag) (f : List PyData → Option PyData) (r : List V → Hp → VK → Prop) : Prop :=
  ∀ H vs ds z, DfAll K H vs ds → f ds = some z → ∃ v, sV z = some v ∧ ∀ Q : VK, Q v H → r vs H Q
theorem mL_den {p : Bool} {f : List PyData → Option PyData} {ms : MD (List O)} {r : List V → Hp → VK → Prop} {t : TA} (hr : Sc K f r) (hl : LS K p ms t) : ∀ σ H Q, den K p (mL f ms) σ H Q → tCB r t σ H Q := fun σ H Q ⟨B, F, e, G, y, e', s, hm, k⟩ => by
  unfold mL at hm
  split at hm
  · rename_i xs e1 h1
    split at hm
    · rename_i ds h2
      split at hm
      · rename_i z h3
        obtain ⟨rfl, rfl⟩ := so hm
        refine hl σ H _ ⟨B, F, e, G, xs, e1, s, h1, fun F1 H1 vs s1 r1 sm1 => ?_⟩
        obtain ⟨v, hz, q⟩ := hr H1 vs ds z (r1.df s1.fh h2) h3
        exact q Q (k F1 H1 v (s1.push (sV_df hz)) sm1)
      · cases hm
    · cases hm
  · cases hm
end
def r2 (r : R2) : List V → Hp → VK → Prop := fun vs H Q => match vs with
  | [x, y] => r x y H Q
  | _ => False
def r1 (r : V → Hp → VK → Prop) : List V → Hp → VK → Prop := fun vs H Q => match vs with
  | [x] => r x H Q
  | _ => False
section
variable {X : Cx} {a b c : Expr} {ta tb tc : TE} {p : Bool} {ms : MD (List O)} {f : List PyData → Option PyData} {pos : Pos}
theorem d_op {op : Operator} {r : R2} (ho : OpR X (binaryOp op) r) (hs : Sc X.K f (r2 r)) (ha : PE X a ta) (hb : PE X b tb) (hl : LS X.K p ms (tCons ta (tCons tb tNil))) : PE X (.BinOp a op b pos) (den X.K p (mL f ms)) :=
  pe_imp (pe_op ho ha hb) (mL_den (r := r2 r) hs hl)
theorem d_un {op : UnaryOp} {r : V → Hp → VK → Prop} (ho : UnR X (unaryOp op) r) (hs : Sc X.K f (r1 r)) (ha : PE X a ta) (hl : LS X.K p ms (tCons ta tNil)) : PE X (.UnaryOp op a pos) (den X.K p (mL f ms)) :=
  pe_imp (pe_un ho ha) (mL_den (r := r1 r) hs hl)
theorem d_cmp {op : CmpOp} {r : R2} (ho : OpR X (compareOp op) r) (hs : Sc X.K f (r2 r)) (ha : PE X a ta) (hb : PE X b tb) (hm : behindInMarks op b = false) (hl : LS X.K p ms (tCons ta (tCons tb tNil))) : PE X (.Compare a [op] [b] pos) (den X.K p (mL f ms)) :=
  pe_imp (pe_cmpR ho ha hb hm) (mL_den (r := r2 r) hs hl)
def mT (m : MD O) : MD Bool := fun e => match m e with
  | some (.v (.bool b), e1) => some (b, e1)
  | _ => none
theorem mT_den {K : PySem.W.Frag} {m : MD O} {t : TE} (h : ∀ σ H Q, den K p m σ H Q → t σ H Q) : ∀ σ H Q, denT K p (mT m) σ H Q → tTest t σ H Q := fun σ H Q ⟨B, F, e, G, y, e', s, hm, k⟩ => by
  unfold mT at hm
  split at hm
  · rename_i b e1 h1
    obtain ⟨rfl, rfl⟩ := so hm
    refine h σ H _ ⟨B, F, e, G, _, e1, s, h1, fun F1 H1 v s1 sm => ?_⟩
    obtain ⟨T, r⟩ := s1.at
    cases r with
    | v h =>
      cases h
      exact ⟨b, rfl, k F1 H1 s1.pop sm⟩
  · cases hm
theorem dt_cmp {op : CmpOp} {r : R2} (ho : OpR X (compareOp op) r) (hs : Sc X.K f (r2 r)) (ha : PE X a ta) (hb : PE X b tb) (hm : behindInMarks op b = false) (hl : LS X.K p ms (tCons ta (tCons tb tNil))) : PT X (.Compare a [op] [b] pos) (denT X.K p (mT (mL f ms))) :=
  pt_imp (pt_cmpR ho ha hb hm) (mT_den (t := tOp r ta tb) (mL_den (r := r2 r) hs hl))
theorem dt_val {m : MD O} (h : PE X a (den X.K p m)) (he : ∀ whole, isTrue a X.env whole = (do let v ← whole; standAt a.pos; holding [v] (truthy v)) := by intro _; rfl) : PT X a (denT X.K p (mT m)) :=
  pt_imp (pt_val h he) (mT_den (t := den X.K p m) fun _ _ _ h => h)
end
end Dn
namespace Dn
open PySem L2
def O.lparts : O → Option (List O)
  | .l xs => some xs
  | .v (.list ds) => some (ds.map .v)
  | _ => none
def O.tparts : O → Option (List O)
  | .t xs => some xs
  | .v (.tuple ds) => some (ds.map .v)
  | _ => none
section
variable {K : PySem.W.Frag} {H0 F0 F H : Hp} {ws : Ws} {B : Bs} {σ : St} {e : En} {G : Ws}
theorem Rel.addAll (r : Rel K H0 F0 F H ws) : ∀ {vs : List V} {ds : List PyData}, DfAll K F vs ds → Rel K H0 F0 F H (vs.zip (ds.map O.v) ++ ws)
  | _, _, .nil => r
  | _, _, .cons h t => (r.addAll t).add h
theorem dfa_len {F : Hp} : ∀ {vs : List V} {ds : List PyData}, DfAll K F vs ds → vs.length = ds.length
  | _, _, .nil => rfl
  | _, _, .cons _ t => by rw [List.length_cons, List.length_cons, dfa_len t]
theorem zip_fst {α β : Type} : ∀ {a : List α} {b : List β}, a.length = b.length → (a.zip b).map (·.1) = a
  | [], [], _ => rfl
  | x :: a, y :: b, h => by
    simp only [List.length_cons, Nat.add_right_cancel_iff] at h
    simp only [List.zip_cons_cons, List.map_cons, zip_fst h]
  | [], _ :: _, h => by simp at h
  | _ :: _, [], h => by simp at h
theorem zip_snd {α β : Type} : ∀ {a : List α} {b : List β}, a.length = b.length → (a.zip b).map (·.2) = b
  | [], [], _ => rfl
  | x :: a, y :: b, h => by
    simp only [List.length_cons, Nat.add_right_cancel_iff] at h
    simp only [List.zip_cons_cons, List.map_cons, zip_snd h]
  | [], _ :: _, h => by simp at h
  | _ :: _, [], h => by simp at h
theorem zip_self {α β : Type} : ∀ (w : List (α × β)), w = (w.map (·.1)).zip (w.map (·.2))
  | [] => rfl
  | (x, y) :: w => by
    simp only [List.map_cons, List.zip_cons_cons]
    rw [← zip_self w]
theorem Rel.openN {p : Addr} {x : O} {u : HO} {w : Ws} (r : Rel K H0 F0 F H ((.ref p, x) :: ws)) (hp : H p = some u)
    (hx : ∀ T, Rp K F H (.ref p) x T → ∃ T', T = p :: T' ∧ RpL K F H w T') : Rel K H0 F0 (upd F p u) H (w ++ ws) := by
  obtain ⟨T, rl, nd, hT⟩ := r.res
  cases rl with
  | cons a t =>
    rename_i T1 T2
    obtain ⟨T', rfl, rw⟩ := hx _ a
    have hpn := hT p (List.mem_append_left _ (List.mem_cons_self ..))
    have nd1 := nd
    rw [List.cons_append] at nd1
    obtain ⟨np, nd2⟩ := List.nodup_cons.mp nd1
    have sF : Same F (upd F p u) := same_upd hpn.1
    refine ⟨r.h0, r.f0.trans sF, fun q o e => ?_, fun q o e => ?_, T' ++ T2, rpl_append (rpl_mono sF rw fun _ _ => rfl) (rpl_mono sF t fun _ _ => rfl), nd2, fun q hq => ?_⟩
    · by_cases hqp : q = p
      · rw [hqp]; exact .inr hpn.2
      · rw [upd_ne hqp] at e
        exact r.fn q o e
    · by_cases hqp : q = p
      · rw [hqp] at e ⊢
        rw [upd_same] at e
        rw [hp]
        exact e
      · rw [upd_ne hqp] at e
        exact r.fh q o e
    · have hqp : q ≠ p := fun z => np (z ▸ hq)
      have := hT q (by rw [List.cons_append]; exact List.mem_cons_of_mem _ hq)
      rw [upd_ne hqp]
      exact this
theorem Rel.openL {v : V} {x : O} {os : List O} (r : Rel K H0 F0 F H ((v, x) :: ws)) (h : x.lparts = some os) :
    ∃ p w F', v = .ref p ∧ F' p = some (.lst (w.map (·.1))) ∧ w.map (·.2) = os ∧ Same F F' ∧ Rel K H0 F0 F' H (w ++ ws) := by
  obtain ⟨T, a⟩ := r.at
  cases x with
  | v d =>
    cases d with
    | list ds =>
      cases h
      cases a with
      | v hd =>
        cases hd with
        | lst hp ha =>
          rename_i p vs
          have hl : vs.length = (ds.map O.v).length := by rw [List.length_map]; exact dfa_len ha
          refine ⟨p, vs.zip (ds.map O.v), F, rfl, ?_, zip_snd hl, Same.refl F, r.tail.addAll ha⟩
          rw [zip_fst hl]
          exact hp
    | _ => cases h
  | l xs =>
    cases h
    cases a with
    | l hp e1 e2 rl =>
      rename_i p vs w T'
      refine ⟨p, w, upd F p (.lst vs), rfl, ?_, e2.symm, ?_, r.openN hp fun T2 r2 => ?_⟩
      · rw [upd_same, e1]
      · refine same_upd ?_
        obtain ⟨T, rl, nd, hT⟩ := r.res
        cases rl with
        | cons a t =>
          cases a with
          | l _ _ _ _ => exact (hT p (List.mem_append_left _ (List.mem_cons_self ..))).1
      · cases r2 with
        | l hp' e1' e2' rl' =>
          rename_i vs' ws' T''
          rw [hp] at hp'
          cases hp'
          have : ws' = w := by
            have h1 : ws'.map (·.1) = w.map (·.1) := by rw [← e1', e1]
            have h2 : ws'.map (·.2) = w.map (·.2) := by rw [← e2', e2]
            rw [zip_self ws', zip_self w, h1, h2]
          subst this
          exact ⟨_, rfl, rl'⟩
  | _ => cases h
theorem Rel.openT {v : V} {x : O} {os : List O} (r : Rel K H0 F0 F H ((v, x) :: ws)) (h : x.tparts = some os) :
    ∃ p w F', v = .ref p ∧ F' p = some (.tup (w.map (·.1))) ∧ w.map (·.2) = os ∧ Same F F' ∧ Rel K H0 F0 F' H (w ++ ws) := by
  obtain ⟨T, a⟩ := r.at
  cases x with
  | v d =>
    cases d with
    | tuple ds =>
      cases h
      cases a with
      | v hd =>
        cases hd with
        | tup hp ha =>
          rename_i p vs
          have hl : vs.length = (ds.map O.v).length := by rw [List.length_map]; exact dfa_len ha
          refine ⟨p, vs.zip (ds.map O.v), F, rfl, ?_, zip_snd hl, Same.refl F, r.tail.addAll ha⟩
          rw [zip_fst hl]
          exact hp
    | _ => cases h
  | t xs =>
    cases h
    cases a with
    | t hp e1 e2 rl =>
      rename_i p vs w T'
      refine ⟨p, w, upd F p (.tup vs), rfl, ?_, e2.symm, ?_, r.openN hp fun T2 r2 => ?_⟩
      · rw [upd_same, e1]
      · refine same_upd ?_
        obtain ⟨T, rl, nd, hT⟩ := r.res
        cases rl with
        | cons a t =>
          cases a with
          | t _ _ _ _ => exact (hT p (List.mem_append_left _ (List.mem_cons_self ..))).1
      · cases r2 with
        | t hp' e1' e2' rl' =>
          rename_i vs' ws' T''
          rw [hp] at hp'
          cases hp'
          have : ws' = w := by
            have h1 : ws'.map (·.1) = w.map (·.1) := by rw [← e1', e1]
            have h2 : ws'.map (·.2) = w.map (·.2) := by rw [← e2', e2]
            rw [zip_self ws', zip_self w, h1, h2]
          subst this
          exact ⟨_, rfl, rl'⟩
  | _ => cases h
theorem pmid {α : Type} (w l m : List α) : (l ++ (w ++ m)).Perm (w ++ (l ++ m)) := by
  rw [← List.append_assoc, ← List.append_assoc]
  exact List.perm_append_comm.append_right m
theorem Sta.openL {v : V} {x : O} {os : List O} (s : Sta K B F H σ e ((v, x) :: G)) (h : x.lparts = some os) :
    ∃ p w F', v = .ref p ∧ F' p = some (.lst (w.map (·.1))) ∧ w.map (·.2) = os ∧ Same F F' ∧ Sta K B F' H σ e (w ++ G) := by
  obtain ⟨p, w, F', e1, e2, e3, e4, r⟩ := (s.rel.perm (mid _ _ _)).openL h
  exact ⟨p, w, F', e1, e2, e3, e4, s.ok, r.perm (pmid _ _ _).symm⟩
theorem Sta.openT {v : V} {x : O} {os : List O} (s : Sta K B F H σ e ((v, x) :: G)) (h : x.tparts = some os) :
    ∃ p w F', v = .ref p ∧ F' p = some (.tup (w.map (·.1))) ∧ w.map (·.2) = os ∧ Same F F' ∧ Sta K B F' H σ e (w ++ G) := by
  obtain ⟨p, w, F', e1, e2, e3, e4, r⟩ := (s.rel.perm (mid _ _ _)).openT h
  exact ⟨p, w, F', e1, e2, e3, e4, s.ok, r.perm (pmid _ _ _).symm⟩
end
def aNil : MD (List O) := lNil
def aCons (m : MD O) (ms : MD (List O)) : MD (List O) := lCons m ms
def aMv (i : Nat) (ms : MD (List O)) : MD (List O) := fun e => match bVar i e with
  | some _ => (match ms e with
    | some (xs, e1) => (match mMv i e1 with
      | some (x, e2) => some (x :: xs, e2)
      | none => none)
    | none => none)
  | none => none
def AS (K : PySem.W.Frag) (p : Bool) (m : MD (List O)) (t : TA) : Prop := ∀ σ H Q, denA K p m σ H Q → t σ H Q
section
variable {K : PySem.W.Frag}
theorem as_nil : AS K true aNil tNil := fun σ H Q ⟨B, F, e, G, y, e', s, hm, k⟩ => by
  cases hm
  exact k F H [] s rfl fun _ => .refl _
theorem as_cons {p q : Bool} {m : MD O} {ms : MD (List O)} {t : TA} (h : AS K q ms t) : AS K (p && q) (aCons m ms) (tCons (den K p m) t) := fun σ H Q ⟨B, F, e, G, y, e', s, hm, k⟩ => by
  unfold aCons lCons at hm
  split at hm
  · rename_i x e1 h1
    split at hm
    · rename_i xs e2 h2
      obtain ⟨rfl, rfl⟩ := so hm
      refine ⟨B, F, e, G, x, e1, s, h1, fun F1 H1 v s1 sm1 => h σ H1 _ ⟨B, F1, e1, (v, x) :: G, xs, e2, s1, h2, fun F2 H2 ws s2 r2 sm2 => ?_⟩⟩
      refine k F2 H2 ((v, x) :: ws) (s2.perm (mid _ _ _)) (by rw [List.map_cons, r2]) fun z => ?_
      cases p
      · cases z
      · cases q
        · cases z
        · exact (sm1 rfl).trans (sm2 rfl)
    · cases hm
  · cases hm
theorem as_mv {q : Bool} {i : Nat} {ms : MD (List O)} {t : TA} (h : AS K q ms t) : AS K q (aMv i ms) (tCons (tVar i) t) := fun σ H Q ⟨B, F, e, G, y, e', s, hm, k⟩ => by
  unfold aMv at hm
  split at hm
  · rename_i x0 h0
    split at hm
    · rename_i xs e1 h1
      split at hm
      · rename_i x e2 h2
        obtain ⟨rfl, rfl⟩ := so hm
        obtain ⟨sl0, hi0, ho0⟩ := Option.bind_eq_some_iff.mp h0
        obtain ⟨v, hv, _⟩ := s.seeO hi0 ho0
        refine ⟨v, hv, h σ H _ ⟨B, F, e, G, xs, e1, s, h1, fun F1 H1 ws s1 r1 sm1 => ?_⟩⟩
        unfold mMv at h2
        split at h2
        · rename_i o hi
          obtain ⟨rfl, rfl⟩ := so h2
          obtain ⟨v', hv', s2⟩ := s1.out hi (show (Sl.own o).o? = some o from rfl)
          obtain rfl : v' = v := by rw [hv] at hv'; cases hv'; rfl
          exact k F1 H1 ((v', o) :: ws) s2 (by rw [List.map_cons, r1]) sm1
        · cases h2
      · cases hm
    · cases hm
  · cases hm
end
section
variable {X : Cx} {p q : Bool}
theorem da_nil : PA X [] (denA X.K true aNil) := pa_imp pa_nil as_nil
theorem da_cons {e : Expr} {es : List Expr} {m : MD O} {ms : MD (List O)} (ha : PE X e (den X.K p m)) (hr : PA X es (denA X.K q ms)) (hs : starEach (e :: es) X.env = (false, eval e X.env) :: starEach es X.env := by rfl) :
    PA X (e :: es) (denA X.K (p && q) (aCons m ms)) := pa_imp (pa_cons ha hr hs) (as_cons fun _ _ _ h => h)
theorem da_mv {i : Nat} {e : Expr} {es : List Expr} {ms : MD (List O)} (ha : PE X e (tVar i)) (hr : PA X es (denA X.K q ms)) (hs : starEach (e :: es) X.env = (false, eval e X.env) :: starEach es X.env := by rfl) :
    PA X (e :: es) (denA X.K q (aMv i ms)) := pa_imp (pa_cons ha hr hs) (as_mv fun _ _ _ h => h)
theorem dl_nil : PA X [] (denL X.K true lNil) := pa_imp pa_nil ls_nil
theorem dl_cons {e : Expr} {es : List Expr} {m : MD O} {ms : MD (List O)} (ha : PE X e (den X.K p m)) (hr : PA X es (denL X.K q ms)) (hs : starEach (e :: es) X.env = (false, eval e X.env) :: starEach es X.env := by rfl) :
    PA X (e :: es) (denL X.K (p && q) (lCons m ms)) := pa_imp (pa_cons ha hr hs) (ls_cons fun _ _ _ h => h)
theorem dl_see {i : Nat} {e : Expr} {es : List Expr} {ms : MD (List O)} (ha : PE X e (tVar i)) (hr : PA X es (denL X.K q ms)) (hs : starEach (e :: es) X.env = (false, eval e X.env) :: starEach es X.env := by rfl) :
    PA X (e :: es) (denL X.K q (lSee i ms)) := pa_imp (pa_cons ha hr hs) (ls_see fun _ _ _ h => h)
end
def mA (f : List O → Option O) (ms : MD (List O)) : MD O := fun e => match ms e with
  | some (xs, e1) => (match f xs with
    | some x => some (x, e1)
    | none => none)
  | none => none
def Al (K : PySem.W.Frag) (f : List O → Option O) (r : List V → Hp → VK → Prop) : Prop :=
  ∀ (B : Bs) (F H : Hp) (σ : St) (e : En) (G ws : Ws) (x : O) (Q : VK), Sta K B F H σ e (ws ++ G) → f (ws.map (·.2)) = some x →
    (∀ F' H' v, Sta K B F' H' σ e ((v, x) :: G) → Same H H' → Q v H') → r (ws.map (·.1)) H Q
theorem mA_den {K : PySem.W.Frag} {p : Bool} {f : List O → Option O} {ms : MD (List O)} {r : List V → Hp → VK → Prop} {t : TA} (hr : Al K f r) (hl : AS K p ms t) : ∀ σ H Q, den K p (mA f ms) σ H Q → tCB r t σ H Q := fun σ H Q ⟨B, F, e, G, y, e', s, hm, k⟩ => by
  unfold mA at hm
  split at hm
  · rename_i xs e1 h1
    split at hm
    · rename_i x h2
      obtain ⟨rfl, rfl⟩ := so hm
      refine hl σ H _ ⟨B, F, e, G, xs, e1, s, h1, fun F1 H1 ws s1 r1 sm1 => ?_⟩
      exact hr B F1 H1 σ e1 G ws x Q s1 (by rw [r1]; exact h2) fun F2 H2 v s2 sm2 => k F2 H2 v s2 fun z => (sm1 z).trans sm2
    · cases hm
  · cases hm
def O.allV : List O → Option (List PyData)
  | [] => some []
  | .v d :: xs => (match O.allV xs with
    | some ds => some (d :: ds)
    | none => none)
  | _ => none
def tupO (xs : List O) : Option O := if xs.length ≤ sizeLine then (match O.allV xs with
  | some ds => some (.v (.tuple ds))
  | none => some (.t xs)) else none
def lstO (xs : List O) : Option O := if xs.length ≤ sizeLine then some (.l xs) else none
theorem allV_toDs : ∀ {xs : List O} {ds : List PyData}, O.allV xs = some ds → O.toDs xs = some ds
  | [], _, h => by cases h; rfl
  | .v d :: xs, ds, h => by
    unfold O.allV at h
    split at h
    · rename_i ds' h'
      cases h
      unfold O.toDs O.toD
      rw [allV_toDs h']
    · cases h
  | .l _ :: _, _, h => by cases h
  | .t _ :: _, _, h => by cases h
  | .s _ :: _, _, h => by cases h
  | .fx _ :: _, _, h => by cases h
  | .ex _ :: _, _, h => by cases h
  | .dk _ :: _, _, h => by cases h
  | .dt _ :: _, _, h => by cases h
  | .ob _ _ _ :: _, _, h => by cases h
section
variable {K : PySem.W.Frag}
def rTup : List V → Hp → VK → Prop := fun xs H Q => xs.length ≤ sizeLine ∧ ∀ p, H p = none → Q (.ref p) (upd H p (.tup xs))
def rLst : List V → Hp → VK → Prop := fun xs H Q => xs.length ≤ sizeLine ∧ ∀ p, H p = none → Q (.ref p) (upd H p (.lst xs))
theorem al_lst : Al K lstO rLst := fun B F H σ e G ws x Q s hx k => by
  unfold lstO at hx
  split at hx
  · rename_i hl
    cases hx
    rw [List.length_map] at hl
    exact ⟨by rw [List.length_map]; exact hl, fun p hp => k F _ _ (s.newL hp) (same_upd hp)⟩
  · cases hx
theorem al_tup : Al K tupO rTup := fun B F H σ e G ws x Q s hx k => by
  unfold tupO at hx
  split at hx
  · rename_i hl
    rw [List.length_map] at hl
    refine ⟨by rw [List.length_map]; exact hl, fun p hp => ?_⟩
    have s1 := s.newT hp
    split at hx
    · rename_i ds hd
      cases hx
      obtain ⟨F', s2⟩ := s1.freeze (show (O.t (ws.map (·.2))).toD = some (.tuple ds) by unfold O.toD; rw [allV_toDs hd]; rfl)
      exact k F' _ _ s2 (same_upd hp)
    · cases hx
      exact k F _ _ s1 (same_upd hp)
  · cases hx
end
section
variable {X : Cx} {es : List Expr} {p : Bool} {ms : MD (List O)} {pos : Pos}
theorem d_lst (h : PA X es (denA X.K p ms)) : PE X (.List es pos) (den X.K p (mA lstO ms)) := pe_imp (pe_lst h) (mA_den al_lst fun _ _ _ h => h)
theorem d_tup {x1} (h : PA X es (denA X.K p ms)) : PE X (.Tuple es x1 pos) (den X.K p (mA tupO ms)) := pe_imp (pe_tup h) (mA_den al_tup fun _ _ _ h => h)
end
end Dn
namespace Dn
open PySem L2
def fI2 (g : Int → Int → Option PyData) : List PyData → Option PyData
  | [.int i, .int j] => g i j
  | _ => none
def fI1 (g : Int → Option PyData) : List PyData → Option PyData
  | [.int i] => g i
  | _ => none
section
variable {K : PySem.W.Frag} {X : Cx}
theorem fI2_some {g : Int → Int → Option PyData} {ds : List PyData} {z : PyData} (h : fI2 g ds = some z) : ∃ i j, ds = [.int i, .int j] ∧ g i j = some z := by
  unfold fI2 at h
  split at h
  · exact ⟨_, _, rfl, h⟩
  · cases h
theorem fI1_some {g : Int → Option PyData} {ds : List PyData} {z : PyData} (h : fI1 g ds = some z) : ∃ i, ds = [.int i] ∧ g i = some z := by
  unfold fI1 at h
  split at h
  · exact ⟨_, rfl, h⟩
  · cases h
theorem df_int {H : Hp} {v : V} {i : Int} (h : Df K H v (.int i)) : v = .int i := by cases h; rfl
theorem df_str {H : Hp} {v : V} {x : Str} (h : Df K H v (.str x)) : v = .str x := by cases h; rfl
theorem df_bool {H : Hp} {v : V} {b : Bool} (h : Df K H v (.bool b)) : v = .bl b := by cases h; rfl
theorem dfa1 {H : Hp} {vs : List V} {d : PyData} (h : DfAll K H vs [d]) : ∃ v, vs = [v] ∧ Df K H v d := by
  cases h with
  | cons a t => cases t; exact ⟨_, rfl, a⟩
theorem dfa2 {H : Hp} {vs : List V} {d d' : PyData} (h : DfAll K H vs [d, d']) : ∃ v u, vs = [v, u] ∧ Df K H v d ∧ Df K H u d' := by
  cases h with
  | cons a t =>
    obtain ⟨u, rfl, b⟩ := dfa1 t
    exact ⟨_, _, rfl, a, b⟩
theorem sc_I0 {g : Int → Int → PyData} {g' : Int → Int → V} (h : ∀ i j, sV (g i j) = some (g' i j)) : Sc K (fI2 fun i j => some (g i j)) (r2 (rI0 g')) := fun H vs ds z a hf => by
  obtain ⟨i, j, rfl, hz⟩ := fI2_some hf
  cases hz
  obtain ⟨v, u, rfl, b, c⟩ := dfa2 a
  obtain rfl := df_int b
  obtain rfl := df_int c
  exact ⟨g' i j, h i j, fun Q q => ⟨i, j, rfl, rfl, q⟩⟩
theorem sc_I {C : Int → Int → Prop} {D : Int → Int → Prop} [∀ i j, Decidable (D i j)] {g : Int → Int → PyData} {g' : Int → Int → V} (hC : ∀ i j, D i j → C i j) (h : ∀ i j, sV (g i j) = some (g' i j)) :
    Sc K (fI2 fun i j => if shut (decide (D i j)) = true then some (g i j) else none) (r2 (rI C g')) := fun H vs ds z a hf => by
  obtain ⟨i, j, rfl, hz⟩ := fI2_some hf
  split at hz
  · rename_i hd
    rw [shut_eq, decide_eq_true_eq] at hd
    cases hz
    obtain ⟨v, u, rfl, b, c⟩ := dfa2 a
    obtain rfl := df_int b
    obtain rfl := df_int c
    exact ⟨g' i j, h i j, fun Q q => ⟨i, j, rfl, rfl, hC i j hd, q⟩⟩
  · cases hz
def fSub := fI2 fun i j => some (.int (i - j))
noncomputable def fMod := fI2 fun i j => if shut (decide (0 < j)) = true then some (.int (i % j)) else none
instance (i j : Int) : Decidable (CDivW i j) := inferInstanceAs (Decidable (0 < j ∧ j.natAbs.log2 < 9000))
noncomputable def fDiv := fI2 fun i j => if shut (decide (CDivW i j)) = true then some (.int (i / j)) else none
instance (i j : Int) : Decidable (CPow i j) := inferInstanceAs (Decidable (0 ≤ j ∧ j ≤ 1000000 ∧ i.natAbs < 2 ^ 64))
instance (i j : Int) : Decidable (CMul i j) := inferInstanceAs (Decidable ((-(2 ^ 64) < i ∧ i < 2 ^ 64) ∨ (-(2 ^ 64) < j ∧ j < 2 ^ 64)))
instance (i j : Int) : Decidable (CMulW i j) := inferInstanceAs (Decidable (i.natAbs.log2 + j.natAbs.log2 < 1000000))
noncomputable def fPow := fI2 fun i j => if shut (decide (CPow i j)) = true then some (.int (i ^ j.toNat)) else none
noncomputable def fMul := fI2 fun i j => if shut (decide (CMul i j ∨ CMulW i j)) = true then some (.int (i * j)) else none
def fLt := fI2 fun i j => some (.bool (decide (i < j)))
def fLe := fI2 fun i j => some (.bool (decide (i ≤ j)))
def fGt := fI2 fun i j => some (.bool (decide (j < i)))
def fGe := fI2 fun i j => some (.bool (decide (j ≤ i)))
def fNeg := fI1 fun i => some (.int (-i))
theorem sc_sub : Sc K fSub (r2 (rI0 fun i j => .int (i - j))) := sc_I0 fun _ _ => rfl
theorem sc_mod : Sc K fMod (r2 (rI (fun _ j => 0 < j) fun i j => .int (i % j))) := sc_I (fun _ _ h => h) fun _ _ => rfl
theorem sc_div : Sc K fDiv (r2 (rI CDivW fun i j => .int (i / j))) := sc_I (fun _ _ h => h) fun _ _ => rfl
theorem sc_pow : Sc K fPow (r2 (rI CPow fun i j => .int (i ^ j.toNat))) := sc_I (fun _ _ h => h) fun _ _ => rfl
theorem sc_mul : Sc K fMul (r2 (rI (fun i j => CMul i j ∨ CMulW i j) fun i j => .int (i * j))) := sc_I (fun _ _ h => h) fun _ _ => rfl
theorem op_mulA : OpR X (binaryOp .Mult) (rI (fun i j => CMul i j ∨ CMulW i j) fun i j => .int (i * j)) := by
  intro pins s σ H x y v u Q I rx ry h
  obtain ⟨i, j, e1, e2, hc, q⟩ := h
  rcases hc with hc | hc
  · exact op_mul pins s σ H x y v u Q I rx ry ⟨i, j, e1, e2, hc, q⟩
  · exact op_mulW pins s σ H x y v u Q I rx ry ⟨i, j, e1, e2, hc, q⟩
theorem sc_lt : Sc K fLt (r2 (rI0 fun i j => .bl (decide (i < j)))) := sc_I0 fun _ _ => rfl
theorem sc_le : Sc K fLe (r2 (rI0 fun i j => .bl (decide (i ≤ j)))) := sc_I0 fun _ _ => rfl
theorem sc_gt : Sc K fGt (r2 (rI0 fun i j => .bl (decide (j < i)))) := sc_I0 fun _ _ => rfl
theorem sc_ge : Sc K fGe (r2 (rI0 fun i j => .bl (decide (j ≤ i)))) := sc_I0 fun _ _ => rfl
theorem sc_neg : Sc K fNeg (r1 (rU fun i => .int (-i))) := fun H vs ds z a hf => by
  obtain ⟨i, rfl, hz⟩ := fI1_some hf
  cases hz
  obtain ⟨v, rfl, b⟩ := dfa1 a
  obtain rfl := df_int b
  exact ⟨_, rfl, fun Q q => ⟨i, rfl, q⟩⟩
def fEq : List PyData → Option PyData
  | [d, e] => if SeqAt.shaped d && SeqAt.shaped e then some (.bool (PyData.eqv d e)) else none
  | _ => none
def fNe : List PyData → Option PyData
  | [d, e] => if SeqAt.shaped d && SeqAt.shaped e then some (.bool (!PyData.eqv d e)) else none
  | _ => none
theorem sc_eq : Sc K fEq (r2 (rEqD K)) := fun H vs ds z a hf => by
  unfold fEq at hf
  split at hf
  · split at hf
    · rename_i d e hs
      cases hf
      simp only [Bool.and_eq_true] at hs
      obtain ⟨v, u, rfl, b, c⟩ := dfa2 a
      exact ⟨_, rfl, fun Q q => ⟨d, e, b.dp (Same.refl H), c.dp (Same.refl H), hs.1, hs.2, q⟩⟩
    · cases hf
  · cases hf
theorem sc_ne : Sc K fNe (r2 (rNeD K)) := fun H vs ds z a hf => by
  unfold fNe at hf
  split at hf
  · split at hf
    · rename_i d e hs
      cases hf
      simp only [Bool.and_eq_true] at hs
      obtain ⟨v, u, rfl, b, c⟩ := dfa2 a
      exact ⟨_, rfl, fun Q q => ⟨d, e, b.dp (Same.refl H), c.dp (Same.refl H), hs.1, hs.2, q⟩⟩
    · cases hf
  · cases hf
def isN : PyData → Bool
  | .none => true
  | _ => false
def fIsN : List PyData → Option PyData
  | [d, .none] => some (.bool (isN d))
  | _ => none
def fNotN : List PyData → Option PyData
  | [d, .none] => some (.bool (!isN d))
  | _ => none
theorem df_isN {H : Hp} {v : V} {d : PyData} (h : Df K H v d) : decide (v = .non) = isN d := by
  cases h <;> first | rfl | exact decide_eq_false (fun z => by cases z)
theorem sc_isN : Sc K fIsN (r2 fun x y H Q => y = .non ∧ Q (.bl (decide (x = .non))) H) := fun H vs ds z a hf => by
  unfold fIsN at hf
  split at hf
  · cases hf
    obtain ⟨v, u, rfl, b, c⟩ := dfa2 a
    cases c
    exact ⟨_, rfl, fun Q q => ⟨rfl, by rw [df_isN b]; exact q⟩⟩
  · cases hf
theorem sc_notN : Sc K fNotN (r2 fun x y H Q => y = .non ∧ Q (.bl (!decide (x = .non))) H) := fun H vs ds z a hf => by
  unfold fNotN at hf
  split at hf
  · cases hf
    obtain ⟨v, u, rfl, b, c⟩ := dfa2 a
    cases c
    exact ⟨_, rfl, fun Q q => ⟨rfl, by rw [df_isN b]; exact q⟩⟩
  · cases hf
def fIn : List PyData → Option PyData
  | [.str a, .str b] => some (.bool (!(Builtin.Str.occurrences b a 0 b.length 1).isEmpty))
  | [d, .list ds] => if SeqAt.shaped d && SeqAt.shaped (.list ds) then some (.bool (ds.any fun z => PyData.eqv z d)) else none
  | _ => none
def fNotIn : List PyData → Option PyData
  | [.str a, .str b] => some (.bool (!(!(Builtin.Str.occurrences b a 0 b.length 1).isEmpty)))
  | [d, .list ds] => if SeqAt.shaped d && SeqAt.shaped (.list ds) then some (.bool (!ds.any fun z => PyData.eqv z d)) else none
  | _ => none
def rInA (K : PySem.W.Frag) : R2 := fun x y H Q => (∃ i j, x = V.str i ∧ y = V.str j ∧ Q (.bl (!(Builtin.Str.occurrences j i 0 j.length 1).isEmpty)) H) ∨ rInD K x y H Q
theorem op_inA (hu : X.A.units + 65 < cLine) : OpR X (compareOp .In) (rInA X.K) := opr_or op_in_str (op_inD hu)
theorem sc_in : Sc K fIn (r2 (rInA K)) := fun H vs ds z a hf => by
  unfold fIn at hf
  split at hf
  · cases hf
    obtain ⟨v, u, rfl, b, c⟩ := dfa2 a
    obtain rfl := df_str b
    obtain rfl := df_str c
    exact ⟨_, rfl, fun Q q => .inl ⟨_, _, rfl, rfl, q⟩⟩
  · split at hf
    · rename_i hs
      cases hf
      simp only [Bool.and_eq_true] at hs
      obtain ⟨v, u, rfl, b, c⟩ := dfa2 a
      exact ⟨_, rfl, fun Q q => .inr ⟨_, _, b.dp (Same.refl H), c.dp (Same.refl H), hs.1, hs.2, q⟩⟩
    · cases hf
  · cases hf
def asInts : List PyData → Option (List Int)
  | [] => some []
  | .int i :: ds => (match asInts ds with
    | some ns => some (i :: ns)
    | none => none)
  | _ => none
def asBools : List PyData → Option (List Bool)
  | [] => some []
  | .bool b :: ds => (match asBools ds with
    | some ns => some (b :: ns)
    | none => none)
  | _ => none
theorem asInts_v {F : Hp} : ∀ {vs : List V} {ds : List PyData} {ns : List Int}, DfAll K F vs ds → asInts ds = some ns → vs = ns.map V.int
  | _, _, _, .nil, h => by unfold asInts at h; cases h; rfl
  | _, _, _, .cons (d := d) a t, h => by
    unfold asInts at h
    split at h
    · rename_i e1; cases e1
    · rename_i i ds' e1
      cases e1
      split at h
      · rename_i ns' h'
        cases h
        rw [df_int a, asInts_v t h', List.map_cons]
      · cases h
    · cases h
theorem asBools_v {F : Hp} : ∀ {vs : List V} {ds : List PyData} {ns : List Bool}, DfAll K F vs ds → asBools ds = some ns → vs = ns.map V.bl
  | _, _, _, .nil, h => by unfold asBools at h; cases h; rfl
  | _, _, _, .cons (d := d) a t, h => by
    unfold asBools at h
    split at h
    · rename_i e1; cases e1
    · rename_i i ds' e1
      cases e1
      split at h
      · rename_i ns' h'
        cases h
        rw [df_bool a, asBools_v t h', List.map_cons]
      · cases h
    · cases h
theorem df_list {H : Hp} {v : V} {ds : List PyData} (h : Df K H v (.list ds)) : ∃ p vs, v = .ref p ∧ H p = some (.lst vs) ∧ DfAll K H vs ds := by
  cases h with
  | lst a b => exact ⟨_, _, rfl, a, b⟩
theorem df_tuple {H : Hp} {v : V} {ds : List PyData} (h : Df K H v (.tuple ds)) : ∃ p vs, v = .ref p ∧ H p = some (.tup vs) ∧ DfAll K H vs ds := by
  cases h with
  | tup a b => exact ⟨_, _, rfl, a, b⟩
def fLen : List PyData → Option PyData
  | [.list ds] => some (.int ds.length)
  | [.tuple ds] => some (.int ds.length)
  | [.str x] => if x.length ≤ sizeLine then some (.int x.length) else none
  | _ => none
theorem sc_len : Sc K fLen (fun xs H Q => ∃ x n, xs = [x] ∧ LenV K x H n ∧ Q (.int n) H) := fun H vs ds z a hf => by
  unfold fLen at hf
  split at hf
  · cases hf
    obtain ⟨v, rfl, b⟩ := dfa1 a
    obtain ⟨p, ws, rfl, hp, ha⟩ := df_list b
    exact ⟨_, rfl, fun Q q => ⟨_, _, rfl, .inl ⟨ws, .of hp, rfl⟩, by rw [dfa_len ha]; exact q⟩⟩
  · cases hf
    obtain ⟨v, rfl, b⟩ := dfa1 a
    obtain ⟨p, ws, rfl, hp, ha⟩ := df_tuple b
    exact ⟨_, rfl, fun Q q => ⟨_, _, rfl, .inr ⟨ws, .of hp, rfl⟩, by rw [dfa_len ha]; exact q⟩⟩
  · split at hf
    · rename_i hl
      cases hf
      obtain ⟨v, rfl, b⟩ := dfa1 a
      obtain rfl := df_str b
      exact ⟨_, rfl, fun Q q => ⟨_, _, rfl, ⟨hl, rfl⟩, q⟩⟩
    · cases hf
  · cases hf
def maxL : Int → List Int → Int
  | m, [] => m
  | m, x :: xs => maxL (max m x) xs
def minL : Int → List Int → Int
  | m, [] => m
  | m, x :: xs => minL (min m x) xs
theorem maxL_ge : ∀ (m : Int) (xs : List Int), m ≤ maxL m xs ∧ ∀ x ∈ xs, x ≤ maxL m xs
  | m, [] => ⟨Int.le_refl _, fun _ h => by cases h⟩
  | m, x :: xs => by
    obtain ⟨h1, h2⟩ := maxL_ge (max m x) xs
    refine ⟨Int.le_trans (Int.le_max_left m x) h1, fun y hy => ?_⟩
    rcases List.mem_cons.mp hy with rfl | hy
    · exact Int.le_trans (Int.le_max_right m y) h1
    · exact h2 y hy
theorem maxL_mem : ∀ (m : Int) (xs : List Int), maxL m xs = m ∨ maxL m xs ∈ xs
  | m, [] => .inl rfl
  | m, x :: xs => by
    rcases maxL_mem (max m x) xs with h | h
    · show maxL (max m x) xs = m ∨ _
      rw [h]
      by_cases hx : m ≤ x
      · right; show maxL (max m x) xs ∈ _; rw [h, Int.max_eq_right hx]; exact List.mem_cons_self ..
      · left; exact Int.max_eq_left (by omega)
    · exact .inr (List.mem_cons_of_mem _ h)
theorem minL_le : ∀ (m : Int) (xs : List Int), minL m xs ≤ m ∧ ∀ x ∈ xs, minL m xs ≤ x
  | m, [] => ⟨Int.le_refl _, fun _ h => by cases h⟩
  | m, x :: xs => by
    obtain ⟨h1, h2⟩ := minL_le (min m x) xs
    refine ⟨Int.le_trans h1 (Int.min_le_left m x), fun y hy => ?_⟩
    rcases List.mem_cons.mp hy with rfl | hy
    · exact Int.le_trans h1 (Int.min_le_right m y)
    · exact h2 y hy
theorem minL_mem : ∀ (m : Int) (xs : List Int), minL m xs = m ∨ minL m xs ∈ xs
  | m, [] => .inl rfl
  | m, x :: xs => by
    rcases minL_mem (min m x) xs with h | h
    · show minL (min m x) xs = m ∨ _
      rw [h]
      by_cases hx : m ≤ x
      · left; exact Int.min_eq_left hx
      · right; show minL (min m x) xs ∈ _; rw [h, Int.min_eq_right (by omega)]; exact List.mem_cons_self ..
    · exact .inr (List.mem_cons_of_mem _ h)
def fMax : List PyData → Option PyData
  | [.int i, .int j] => some (.int (if j > i then j else i))
  | [.list ds] => (match asInts ds with
    | some (n :: ns) => some (.int (maxL n ns))
    | _ => none)
  | _ => none
def fMin : List PyData → Option PyData
  | [.int i, .int j] => some (.int (if j < i then j else i))
  | [.list ds] => (match asInts ds with
    | some (n :: ns) => some (.int (minL n ns))
    | _ => none)
  | _ => none
theorem callr_or {f : Value} {r r' : List V → Hp → VK → Prop} (h : CallR X f r) (h' : CallR X f r') : CallR X f (fun x H Q => r x H Q ∨ r' x H Q) := by
  intro pins s σ H x u Q I rx q
  rcases q with q | q
  · exact h pins s σ H x u Q I rx q
  · exact h' pins s σ H x u Q I rx q
def rMaxA (K : PySem.W.Frag) : List V → Hp → VK → Prop := fun xs H Q => (∃ i j, xs = [.int i, .int j] ∧ Q (.int (if j > i then j else i)) H) ∨ rMax K xs H Q
def rMinA (K : PySem.W.Frag) : List V → Hp → VK → Prop := fun xs H Q => (∃ i j, xs = [.int i, .int j] ∧ Q (.int (if j < i then j else i)) H) ∨ rMin K xs H Q
theorem call_maxA (hc : X.calm = true) : CallR X (.builtin "max") (rMaxA X.K) := callr_or (call_max2 hc) (cr_max hc)
theorem call_minA (hc : X.calm = true) : CallR X (.builtin "min") (rMinA X.K) := callr_or (call_min2 hc) (cr_min hc)
theorem sc_max : Sc K fMax (rMaxA K) := fun H vs ds z a hf => by
  unfold fMax at hf
  split at hf
  · cases hf
    obtain ⟨v, u, rfl, b, c⟩ := dfa2 a
    obtain rfl := df_int b
    obtain rfl := df_int c
    exact ⟨_, rfl, fun Q q => .inl ⟨_, _, rfl, q⟩⟩
  · split at hf
    · rename_i n ns hn
      cases hf
      obtain ⟨v, rfl, b⟩ := dfa1 a
      obtain ⟨p, ws, rfl, hp, ha⟩ := df_list b
      have e := asInts_v ha hn
      subst e
      refine ⟨_, rfl, fun Q q => .inr ⟨p, n :: ns, rfl, .of hp, by simp, fun m hm hle => ?_⟩⟩
      have e : m = maxL n ns := by
        have h1 := maxL_ge n ns
        have h2 : m ≤ maxL n ns := by
          rcases List.mem_cons.mp hm with e | hm
          · rw [e]; exact h1.1
          · exact h1.2 m hm
        have h3 : maxL n ns ≤ m := by
          rcases maxL_mem n ns with e | e
          · rw [e]; exact hle n (List.mem_cons_self ..)
          · exact hle _ (List.mem_cons_of_mem _ e)
        omega
      rw [e]
      exact q
    · cases hf
  · cases hf
theorem sc_min : Sc K fMin (rMinA K) := fun H vs ds z a hf => by
  unfold fMin at hf
  split at hf
  · cases hf
    obtain ⟨v, u, rfl, b, c⟩ := dfa2 a
    obtain rfl := df_int b
    obtain rfl := df_int c
    exact ⟨_, rfl, fun Q q => .inl ⟨_, _, rfl, q⟩⟩
  · split at hf
    · rename_i n ns hn
      cases hf
      obtain ⟨v, rfl, b⟩ := dfa1 a
      obtain ⟨p, ws, rfl, hp, ha⟩ := df_list b
      have e := asInts_v ha hn
      subst e
      refine ⟨_, rfl, fun Q q => .inr ⟨p, n :: ns, rfl, .of hp, by simp, fun m hm hle => ?_⟩⟩
      have e : m = minL n ns := by
        have h1 := minL_le n ns
        have h2 : minL n ns ≤ m := by
          rcases List.mem_cons.mp hm with e | hm
          · rw [e]; exact h1.1
          · exact h1.2 m hm
        have h3 : m ≤ minL n ns := by
          rcases minL_mem n ns with e | e
          · rw [e]; exact hle n (List.mem_cons_self ..)
          · exact hle _ (List.mem_cons_of_mem _ e)
        omega
      rw [e]
      exact q
    · cases hf
  · cases hf
def fSum : List PyData → Option PyData
  | [.list ds] => (match asInts ds with
    | some ns => some (.int ns.sum)
    | _ => none)
  | _ => none
theorem sc_sum : Sc K fSum (rSum K) := fun H vs ds z a hf => by
  unfold fSum at hf
  split at hf
  · split at hf
    · rename_i ns hn
      cases hf
      obtain ⟨v, rfl, b⟩ := dfa1 a
      obtain ⟨p, ws, rfl, hp, ha⟩ := df_list b
      have e := asInts_v ha hn
      subst e
      exact ⟨_, rfl, fun Q q => ⟨p, ns, rfl, .of hp, q⟩⟩
    · cases hf
  · cases hf
def fAll : List PyData → Option PyData
  | [.list ds] => (match asBools ds with
    | some ns => some (.bool (ns.all id))
    | _ => none)
  | _ => none
theorem sc_all : Sc K fAll (rAll K) := fun H vs ds z a hf => by
  unfold fAll at hf
  split at hf
  · split at hf
    · rename_i ns hn
      cases hf
      obtain ⟨v, rfl, b⟩ := dfa1 a
      obtain ⟨p, ws, rfl, hp, ha⟩ := df_list b
      have e := asBools_v ha hn
      subst e
      exact ⟨_, rfl, fun Q q => ⟨p, ns, rfl, .of hp, q⟩⟩
    · cases hf
  · cases hf
def fInt : List PyData → Option PyData
  | [.int i] => some (.int i)
  | [.bool k] => some (.int (if k then 1 else 0))
  | [.str x] => (match intText? x with
    | some n => if x.length ≤ 640 then some (.int n) else none
    | none => none)
  | _ => none
def rIntA : List V → Hp → VK → Prop := fun xs H Q => ((∃ i, xs = [.int i] ∧ Q (.int i) H) ∨ ∃ k, xs = [.bl k] ∧ Q (.int (if k then 1 else 0)) H) ∨ ∃ a n, xs = [V.str a] ∧ intText? a = some n ∧ a.length ≤ 640 ∧ Q (V.int n) H
theorem call_intA : CallR X (.type "int") rIntA := callr_or call_int1 call_int_str
theorem sc_int : Sc K fInt rIntA := fun H vs ds z a hf => by
  unfold fInt at hf
  split at hf
  · cases hf
    obtain ⟨v, rfl, b⟩ := dfa1 a
    obtain rfl := df_int b
    exact ⟨_, rfl, fun Q q => .inl (.inl ⟨_, rfl, q⟩)⟩
  · cases hf
    obtain ⟨v, rfl, b⟩ := dfa1 a
    obtain rfl := df_bool b
    exact ⟨_, rfl, fun Q q => .inl (.inr ⟨_, rfl, q⟩)⟩
  · split at hf
    · rename_i n hn
      split at hf
      · rename_i hl
        cases hf
        obtain ⟨v, rfl, b⟩ := dfa1 a
        obtain rfl := df_str b
        exact ⟨_, rfl, fun Q q => .inr ⟨_, n, rfl, hn, hl, q⟩⟩
      · cases hf
    · cases hf
  · cases hf
section
variable {e : Expr} {es : List Expr} {p : Bool} {ms : MD (List O)} {f : List PyData → Option PyData} {g : List O → Option O} {r : List V → Hp → VK → Prop} {id T : String} {x : Str} {p1 pos : Pos}
theorem d_callB (hc : CallR X (.builtin id) r) (hs : Sc X.K f r) (hg : Gl X x) (hm : X.mg x = none) (hv : bootBuiltins x = some (.builtin id)) (ha : PA X (e :: es) (denL X.K p ms)) (hn : x ≠ "__name__" := by decide) (hdb : (x == ("__debug__" : Str)) = false := by decide)
    (he : starEach (e :: es) X.env = (false, eval e X.env) :: starEach es X.env := by rfl) (hpl : (backTo pos (starEach es X.env)).any (·.1) = false := by rfl) : PE X (.Call (.Name x p1) (e :: es) [] pos) (den X.K p (mL f ms)) :=
  pe_imp (pe_callB hc hg hm hv ha hn hdb he hpl) (mL_den hs fun _ _ _ h => h)
theorem d_callTy (hc : CallR X (.type T) r) (hs : Sc X.K f r) (hg : Gl X x) (hm : X.mg x = none) (hv : bootBuiltins x = some (.type T)) (ha : PA X (e :: es) (denL X.K p ms)) (hn : x ≠ "__name__" := by decide) (hdb : (x == ("__debug__" : Str)) = false := by decide)
    (he : starEach (e :: es) X.env = (false, eval e X.env) :: starEach es X.env := by rfl) (hpl : (backTo pos (starEach es X.env)).any (·.1) = false := by rfl) : PE X (.Call (.Name x p1) (e :: es) [] pos) (den X.K p (mL f ms)) :=
  pe_imp (pe_callTy hc hg hm hv ha hn hdb he hpl) (mL_den hs fun _ _ _ h => h)
theorem d_callTyA (hc : CallR X (.type T) r) (hs : Al X.K g r) (hg : Gl X x) (hm : X.mg x = none) (hv : bootBuiltins x = some (.type T)) (ha : PA X (e :: es) (denA X.K p ms)) (hn : x ≠ "__name__" := by decide) (hdb : (x == ("__debug__" : Str)) = false := by decide)
    (he : starEach (e :: es) X.env = (false, eval e X.env) :: starEach es X.env := by rfl) (hpl : (backTo pos (starEach es X.env)).any (·.1) = false := by rfl) : PE X (.Call (.Name x p1) (e :: es) [] pos) (den X.K p (mA g ms)) :=
  pe_imp (pe_callTy hc hg hm hv ha hn hdb he hpl) (mA_den hs fun _ _ _ h => h)
theorem d_callBA (hc : CallR X (.builtin id) r) (hs : Al X.K g r) (hg : Gl X x) (hm : X.mg x = none) (hv : bootBuiltins x = some (.builtin id)) (ha : PA X (e :: es) (denA X.K p ms)) (hn : x ≠ "__name__" := by decide) (hdb : (x == ("__debug__" : Str)) = false := by decide)
    (he : starEach (e :: es) X.env = (false, eval e X.env) :: starEach es X.env := by rfl) (hpl : (backTo pos (starEach es X.env)).any (·.1) = false := by rfl) : PE X (.Call (.Name x p1) (e :: es) [] pos) (den X.K p (mA g ms)) :=
  pe_imp (pe_callB hc hg hm hv ha hn hdb he hpl) (mA_den hs fun _ _ _ h => h)
end
end
end Dn
namespace Dn
open PySem L2
section
variable {K : PySem.W.Frag} {X : Cx}
theorem ws1 {ws : Ws} {x : O} (h : ws.map (·.2) = [x]) : ∃ v, ws = [(v, x)] := by
  match ws, h with
  | [(v, y)], h => simp only [List.map_cons, List.map_nil, List.cons.injEq, and_true] at h; exact ⟨v, by rw [h]⟩
theorem ws2 {ws : Ws} {x y : O} (h : ws.map (·.2) = [x, y]) : ∃ v u, ws = [(v, x), (u, y)] := by
  match ws, h with
  | [(v, a), (u, b)], h => simp only [List.map_cons, List.map_nil, List.cons.injEq, and_true] at h; exact ⟨v, u, by rw [h.1, h.2]⟩
def addO : List O → Option O
  | [.v (.int i), .v (.int j)] => some (.v (.int (i + j)))
  | [.v (.str a), .v (.str b)] => if a.length + b.length ≤ sizeLine then some (.v (.str (a ++ b))) else none
  | [x, y] => (match x.lparts, y.lparts with
    | some xs, some ys => if xs.length + ys.length ≤ sizeLine then some (.l (xs ++ ys)) else none
    | _, _ => (match x.tparts, y.tparts with
      | some (a :: xs), some (b :: ys) => if (a :: xs).length + (b :: ys).length ≤ sizeLine then tupO ((a :: xs) ++ (b :: ys)) else none
      | some (_ :: as), some [] => if as.length < sizeLine then some x else none
      | _, _ => none))
  | _ => none
theorem rp_tupAt {F H : Hp} {v : V} {x : O} {T : List Addr} {os : List O} (fh : Same F H) (r : Rp K F H v x T) (h : x.tparts = some os) : ∃ p vs, v = .ref p ∧ H p = some (.tup vs) ∧ vs.length = os.length := by
  cases x with
  | v d =>
    cases d with
    | tuple ds =>
      cases h
      cases r with
      | v hd =>
        cases hd with
        | tup hp ha => exact ⟨_, _, rfl, fh _ _ hp, by rw [List.length_map]; exact dfa_len ha⟩
    | _ => cases h
  | t xs =>
    cases h
    cases r with
    | t hp e1 e2 rl => exact ⟨_, _, rfl, hp, by rw [e1, e2, List.length_map, List.length_map]⟩
  | _ => cases h
def rAddA (K : PySem.W.Frag) : R2 := fun x y H Q => rI0 (fun i j => .int (i + j)) x y H Q ∨ (∃ i j, x = V.str i ∧ y = V.str j ∧ i.length + j.length ≤ sizeLine ∧ Q (V.str (i ++ j)) H) ∨ rCat x y H Q ∨ rCatT K x y H Q
theorem op_addA : OpR X (binaryOp .Add) (rAddA X.K) := opr_or op_add (opr_or op_add_str (opr_or op_cat op_catT))
theorem al_add : Al K addO (r2 (rAddA K)) := fun B F H σ e G ws x Q s hx k => by
  unfold addO at hx
  split at hx
  · rename_i i j hw
    cases hx
    obtain ⟨v, u, rfl⟩ := ws2 hw
    obtain ⟨_, r1⟩ := s.at
    obtain ⟨_, r2⟩ := s.pop.at
    cases r1 with
    | v h1 =>
      cases r2 with
      | v h2 =>
        obtain rfl := df_int h1
        obtain rfl := df_int h2
        exact .inl ⟨i, j, rfl, rfl, k F H _ (s.pop.pop.push (.int _)) (.refl _)⟩
  · rename_i a b hw
    split at hx
    · rename_i hl
      cases hx
      obtain ⟨v, u, rfl⟩ := ws2 hw
      obtain ⟨_, r1⟩ := s.at
      obtain ⟨_, r2⟩ := s.pop.at
      cases r1 with
      | v h1 =>
        cases r2 with
        | v h2 =>
          obtain rfl := df_str h1
          obtain rfl := df_str h2
          exact .inr (.inl ⟨a, b, rfl, rfl, hl, k F H _ (s.pop.pop.push (.str _)) (.refl _)⟩)
    · cases hx
  · rename_i y z _ _ hw
    obtain ⟨v, u, rfl⟩ := ws2 hw
    split at hx
    · rename_i xs ys h1 h2
      split at hx
      · rename_i hl
        cases hx
        obtain ⟨p, w1, F1, rfl, e1, e2, e3, s1⟩ := Sta.openL (G := (u, z) :: G) s h1
        obtain ⟨q, w2, F2, rfl, e1', e2', e3', s2⟩ := Sta.openL (s1.perm (mid _ _ _)) h2
        subst e2
        subst e2'
        rw [List.length_map, List.length_map] at hl
        refine .inr (.inr (.inl ⟨p, q, _, _, rfl, rfl, s2.fh _ _ (e3' _ _ e1), s2.fh _ _ e1', by rw [List.length_map, List.length_map]; exact hl, fun t ht => ?_⟩))
        have s3 : Sta K B F2 H σ e ((w1 ++ w2) ++ G) := s2.perm (by
          rw [List.append_assoc]
          exact pmid _ _ _)
        have s4 := s3.newL ht
        rw [List.map_append, List.map_append] at s4
        exact k F2 _ _ s4 (same_upd ht)
      · cases hx
    · split at hx
      · rename_i a xs b ys h1 h2
        split at hx
        · rename_i hl
          obtain ⟨p, w1, F1, rfl, e1, e2, e3, s1⟩ := Sta.openT (G := (u, z) :: G) s h1
          obtain ⟨q, w2, F2, rfl, e1', e2', e3', s2⟩ := Sta.openT (s1.perm (mid _ _ _)) h2
          have hl1 : w1.length = (a :: xs).length := by rw [← e2, List.length_map]
          have hl2 : w2.length = (b :: ys).length := by rw [← e2', List.length_map]
          have n1 : w1.map (·.1) ≠ [] := fun z => by
            have := congrArg List.length z
            rw [List.length_map, hl1] at this
            simp at this
          have n2 : w2.map (·.1) ≠ [] := fun z => by
            have := congrArg List.length z
            rw [List.length_map, hl2] at this
            simp at this
          have s3 : Sta K B F2 H σ e ((w1 ++ w2) ++ G) := s2.perm (by
            rw [List.append_assoc]
            exact pmid _ _ _)
          refine .inr (.inr (.inr ⟨p, q, _, _, rfl, rfl, .of (s2.fh _ _ (e3' _ _ e1)), .of (s2.fh _ _ e1'), n1, by rw [List.length_map, List.length_map, hl1, hl2]; exact hl, fun z => absurd z n2, fun _ t ht => ?_⟩))
          have := al_tup B F2 H σ e G (w1 ++ w2) x Q s3 (by rw [List.map_append, e2, e2']; exact hx) k
          rw [← List.map_append]
          exact this.2 t ht
        · cases hx
      · rename_i a as h1 h2
        split at hx
        · rename_i hl
          cases hx
          obtain ⟨_, r1⟩ := s.at
          obtain ⟨_, r2⟩ := s.pop.at
          obtain ⟨p, vs, rfl, hp, hpl⟩ := rp_tupAt s.fh r1 h1
          obtain ⟨q, us, rfl, hq, hql⟩ := rp_tupAt s.fh r2 h2
          have hu : us = [] := List.length_eq_zero_iff.mp hql
          subst hu
          refine .inr (.inr (.inr ⟨p, q, _, _, rfl, rfl, .of hp, .of hq, fun z => ?_, ?_, fun _ => k F H _ (Sta.pop (s.perm (.swap _ _ _))) (.refl _), fun z => absurd rfl z⟩))
          · rw [z] at hpl; simp at hpl
          · rw [hpl]; simp; omega
        · cases hx
      · cases hx
  · cases hx
theorem d_add {a b : Expr} {ta tb : TE} {p : Bool} {ms : MD (List O)} {pos : Pos} (ha : PE X a ta) (hb : PE X b tb) (hl : AS X.K p ms (tCons ta (tCons tb tNil))) : PE X (.BinOp a .Add b pos) (den X.K p (mA addO ms)) :=
  pe_imp (pe_op op_addA ha hb) (mA_den (r := r2 (rAddA X.K)) al_add hl)
def mLk (f : List O → Option PyData) (ms : MD (List O)) : MD O := fun e => match ms e with
  | some (xs, e1) => (match f xs with
    | some z => some (.v z, e1)
    | none => none)
  | none => none
def La (K : PySem.W.Frag) (f : List O → Option PyData) (r : List V → Hp → VK → Prop) : Prop :=
  ∀ F H vs xs z, Same F H → RpA K F H vs xs → f xs = some z → ∃ v, Df K F v z ∧ ∀ Q : VK, Q v H → r vs H Q
theorem mLk_den {p : Bool} {f : List O → Option PyData} {ms : MD (List O)} {r : List V → Hp → VK → Prop} {t : TA} (hr : La K f r) (hl : LS K p ms t) : ∀ σ H Q, den K p (mLk f ms) σ H Q → tCB r t σ H Q := fun σ H Q ⟨B, F, e, G, y, e', s, hm, k⟩ => by
  unfold mLk at hm
  split at hm
  · rename_i xs e1 h1
    split at hm
    · rename_i z h3
      obtain ⟨rfl, rfl⟩ := so hm
      refine hl σ H _ ⟨B, F, e, G, xs, e1, s, h1, fun F1 H1 vs s1 r1 sm1 => ?_⟩
      obtain ⟨v, hz, q⟩ := hr F1 H1 vs xs z s1.fh r1 h3
      exact q Q (k F1 H1 v (s1.push hz) sm1)
    · cases hm
  · cases hm
def ixO : List O → Option PyData
  | [.v (.list ds), .v (.int i)] => atI ds i
  | [.v (.tuple ds), .v (.int i)] => atI ds i
  | [.v (.str z), .v (.int i)] => if z.length ≤ sizeLine then (match atI z.cps.toList i with
    | some c => some (.str ⟨#[c]⟩)
    | none => none) else none
  | [.l os, .v (.int i)] => (match atI os i with
    | some (.v d) => some d
    | _ => none)
  | [.t os, .v (.int i)] => (match atI os i with
    | some (.v d) => some d
    | _ => none)
  | _ => none
theorem dfa_get {F : Hp} : ∀ {vs : List V} {ds : List PyData} {j : Nat} {d : PyData}, DfAll K F vs ds → ds[j]? = some d → ∃ v, vs[j]? = some v ∧ Df K F v d
  | _, _, j, _, .nil, h => by simp at h
  | _, _, 0, _, .cons a t, h => by simp at h; subst h; exact ⟨_, rfl, a⟩
  | _, _, j + 1, _, .cons a t, h => by
    obtain ⟨v, h1, h2⟩ := dfa_get (j := j) t (by simpa using h)
    exact ⟨v, by simpa using h1, h2⟩
theorem rpl_get {F H : Hp} : ∀ {ws : Ws} {T : List Addr} {j : Nat} {w : V × O}, RpL K F H ws T → ws[j]? = some w → ∃ T', Rp K F H w.1 w.2 T'
  | _, _, j, _, .nil, h => by simp at h
  | _, _, 0, _, .cons a t, h => by simp at h; subst h; exact ⟨_, a⟩
  | _, _, j + 1, _, .cons a t, h => rpl_get (j := j) t (by simpa using h)
theorem atI_some {α : Type} {xs : List α} {i : Int} {x : α} (h : atI xs i = some x) : ∃ j, ixN xs.length i = some j ∧ xs[j]? = some x := by
  unfold atI at h
  obtain ⟨j, h1, h2⟩ := Option.bind_eq_some_iff.mp h
  exact ⟨j, h1, h2⟩
theorem atI_of {α : Type} {xs : List α} {i : Int} {x : α} {j : Nat} (h1 : ixN xs.length i = some j) (h2 : xs[j]? = some x) : atI xs i = some x := by
  unfold atI
  rw [h1]
  exact h2
theorem rpa2 {F H : Hp} {vs : List V} {x y : O} (h : RpA K F H vs [x, y]) : ∃ v u T T', vs = [v, u] ∧ Rp K F H v x T ∧ Rp K F H u y T' := by
  cases h with
  | cons a t =>
    cases t with
    | cons b t => cases t; exact ⟨_, _, _, _, rfl, a, b⟩
theorem rpa1 {F H : Hp} {vs : List V} {x : O} (h : RpA K F H vs [x]) : ∃ v T, vs = [v] ∧ Rp K F H v x T := by
  cases h with
  | cons a t => cases t; exact ⟨_, _, rfl, a⟩
theorem rp_v {F H : Hp} {v : V} {d : PyData} {T : List Addr} (h : Rp K F H v (.v d) T) : Df K F v d := by
  cases h with
  | v a => exact a
theorem rp_int {F H : Hp} {v : V} {i : Int} {T : List Addr} (h : Rp K F H v (.v (.int i)) T) : v = .int i := by
  cases h with
  | v a => exact df_int a
theorem la_ix : La K ixO (r2 (rIx K)) := fun F H vs xs z fh ra hf => by
  unfold ixO at hf
  split at hf
  · obtain ⟨v, u, T, T', rfl, a, b⟩ := rpa2 ra
    obtain rfl := rp_int b
    cases a with
    | v h =>
      obtain ⟨p, ws, rfl, hp, ha⟩ := df_list h
      obtain ⟨j, h1, h2⟩ := atI_some hf
      obtain ⟨y, h3, h4⟩ := dfa_get ha h2
      exact ⟨y, h4, fun Q q => .inl ⟨p, ws, _, y, rfl, rfl, .of (fh _ _ hp), atI_of (by rw [dfa_len ha]; exact h1) h3, q⟩⟩
  · obtain ⟨v, u, T, T', rfl, a, b⟩ := rpa2 ra
    obtain rfl := rp_int b
    cases a with
    | v h =>
      obtain ⟨p, ws, rfl, hp, ha⟩ := df_tuple h
      obtain ⟨j, h1, h2⟩ := atI_some hf
      obtain ⟨y, h3, h4⟩ := dfa_get ha h2
      exact ⟨y, h4, fun Q q => .inr (.inl ⟨p, ws, _, y, rfl, rfl, .of (fh _ _ hp), atI_of (by rw [dfa_len ha]; exact h1) h3, q⟩)⟩
  · split at hf
    · rename_i hl
      split at hf
      · rename_i c hc
        cases hf
        obtain ⟨v, u, T, T', rfl, a, b⟩ := rpa2 ra
        obtain rfl := rp_int b
        cases a with
        | v h =>
          obtain rfl := df_str h
          exact ⟨_, .str _, fun Q q => .inr (.inr ⟨_, _, c, rfl, rfl, hl, hc, q⟩)⟩
      · cases hf
    · cases hf
  · split at hf
    · rename_i d hd
      cases hf
      obtain ⟨v, u, T, T', rfl, a, b⟩ := rpa2 ra
      obtain rfl := rp_int b
      cases a with
      | l hp e1 e2 rl =>
        rename_i p vs ws T0
        obtain ⟨j, h1, h2⟩ := atI_some hd
        subst e2
        rw [List.getElem?_map] at h2
        obtain ⟨w, h3, h4⟩ := Option.map_eq_some_iff.mp h2
        obtain ⟨T2, r⟩ := rpl_get rl h3
        rw [h4] at r
        refine ⟨_, rp_v r, fun Q q => .inl ⟨p, _, _, w.1, rfl, rfl, .of hp, atI_of (j := j) ?_ ?_, q⟩⟩
        · rw [List.length_map] at h1
          rw [e1, List.length_map]; exact h1
        · rw [e1, List.getElem?_map, h3]; rfl
    · cases hf
  · split at hf
    · rename_i d hd
      cases hf
      obtain ⟨v, u, T, T', rfl, a, b⟩ := rpa2 ra
      obtain rfl := rp_int b
      cases a with
      | t hp e1 e2 rl =>
        rename_i p vs ws T0
        obtain ⟨j, h1, h2⟩ := atI_some hd
        subst e2
        rw [List.getElem?_map] at h2
        obtain ⟨w, h3, h4⟩ := Option.map_eq_some_iff.mp h2
        obtain ⟨T2, r⟩ := rpl_get rl h3
        rw [h4] at r
        refine ⟨_, rp_v r, fun Q q => .inr (.inl ⟨p, _, _, w.1, rfl, rfl, .of hp, atI_of (j := j) ?_ ?_, q⟩)⟩
        · rw [List.length_map] at h1
          rw [e1, List.length_map]; exact h1
        · rw [e1, List.getElem?_map, h3]; rfl
    · cases hf
  · cases hf
theorem d_ix {a b : Expr} {ta tb : TE} {p : Bool} {ms : MD (List O)} {pos : Pos} (ha : PE X a ta) (hb : PE X b tb) (hs : PlainIx b) (hl : LS X.K p ms (tCons ta (tCons tb tNil))) : PE X (.Subscript a b pos) (den X.K p (mLk ixO ms)) :=
  pe_imp (pe_ix ix_seq ha hb hs) (mLk_den (r := r2 (rIx X.K)) la_ix hl)
def listO : List O → Option O
  | [x] => (match x.lparts with
    | some xs => if xs.length ≤ sizeLine then some (.l xs) else none
    | none => (match x.tparts with
      | some xs => if xs.length ≤ sizeLine then some (.l xs) else none
      | none => none))
  | _ => none
def tupleO : List O → Option O
  | [x] => (match x.lparts with
    | some xs => tupO xs
    | none => none)
  | _ => none
theorem al_list : Al K listO (fun xs H Q => ∃ p ys, xs = [.ref p] ∧ (SqL K H p ys ∨ SqT K H p ys) ∧ ∀ l, H l = none → Q (.ref l) (upd H l (.lst ys))) := fun B F H σ e G ws x Q s hx k => by
  unfold listO at hx
  split at hx
  · rename_i y hw
    obtain ⟨v, rfl⟩ := ws1 hw
    split at hx
    · rename_i xs h1
      split at hx
      · cases hx
        obtain ⟨p, w1, F1, rfl, e1, e2, e3, s1⟩ := Sta.openL s h1
        subst e2
        exact ⟨p, _, rfl, .inl (.of (s1.fh _ _ e1)), fun l hl => k F1 _ _ (s1.newL hl) (same_upd hl)⟩
      · cases hx
    · split at hx
      · rename_i xs h1
        split at hx
        · cases hx
          obtain ⟨p, w1, F1, rfl, e1, e2, e3, s1⟩ := Sta.openT s h1
          subst e2
          exact ⟨p, _, rfl, .inr (.of (s1.fh _ _ e1)), fun l hl => k F1 _ _ (s1.newL hl) (same_upd hl)⟩
        · cases hx
      · cases hx
  · cases hx
theorem al_tuple : Al K tupleO (fun xs H Q => ∃ p ys, xs = [.ref p] ∧ ((SqL K H p ys ∧ ∀ l, H l = none → Q (.ref l) (upd H l (.tup ys))) ∨ (SqT K H p ys ∧ Q (.ref p) H))) := fun B F H σ e G ws x Q s hx k => by
  unfold tupleO at hx
  split at hx
  · rename_i y hw
    obtain ⟨v, rfl⟩ := ws1 hw
    split at hx
    · rename_i xs h1
      obtain ⟨p, w1, F1, rfl, e1, e2, e3, s1⟩ := Sta.openL s h1
      subst e2
      exact ⟨p, _, rfl, .inl ⟨.of (s1.fh _ _ e1), (al_tup B F1 H σ e G w1 x Q s1 hx k).2⟩⟩
    · cases hx
  · cases hx
abbrev MO := MD (Option Int)
def oNone : MO := fun e => some (none, e)
def oSome (m : MD O) : MO := fun e => match m e with
  | some (.v (.int i), e1) => some (some i, e1)
  | _ => none
def denO (K : PySem.W.Frag) (a : Bool) (m : MO) : TO := fun σ H Q => ∃ B F e G x e', Sta K B F H σ e G ∧ m e = some (x, e') ∧ ∀ F' H', Sta K B F' H' σ e' G → (a = true → Same H H') → Q x H'
theorem po_imp {e : Option Expr} {t u : TO} (h : PO X e t) (k : ∀ σ H Q, u σ H Q → t σ H Q) : PO X e u := ⟨fun pins s σ H Q I q => h.run pins s σ H Q I (k _ _ _ q)⟩
theorem do_none : PO X none (denO X.K true oNone) := po_imp po_none fun σ H Q ⟨B, F, e, G, x, e', s, hm, k⟩ => by
  cases hm
  exact k F H s fun _ => .refl _
theorem do_some {e : Expr} {p : Bool} {m : MD O} (h : PE X e (den X.K p m)) : PO X (some e) (denO X.K p (oSome m)) := po_imp (po_some h) fun σ H Q ⟨B, F, e, G, x, e', s, hm, k⟩ => by
  unfold oSome at hm
  split at hm
  · rename_i i e1 h1
    obtain ⟨rfl, rfl⟩ := so hm
    refine ⟨B, F, e, G, _, e1, s, h1, fun F1 H1 v s1 sm => ?_⟩
    obtain ⟨T, r⟩ := s1.at
    obtain rfl := rp_int r
    exact ⟨i, rfl, k F1 H1 s1.pop sm⟩
  · cases hm
def cutG {α : Type} (xs : List α) (lo hi : Option Int) : List α := (xs.drop (HT.sIx xs.length 0 lo)).take (HT.sIx xs.length xs.length hi - HT.sIx xs.length 0 lo)
theorem cutV_map {α : Type} (f : α → V) (xs : List α) (lo hi : Option Int) : cutV (xs.map f) lo hi = (cutG xs lo hi).map f := by
  unfold cutV cutG
  rw [List.length_map, List.map_take, List.map_drop]
theorem cutG_map {α β : Type} (f : α → β) (xs : List α) (lo hi : Option Int) : cutG (xs.map f) lo hi = (cutG xs lo hi).map f := by
  unfold cutG
  rw [List.length_map, List.map_take, List.map_drop]
theorem cut_perm {α : Type} (xs : List α) (lo hi : Option Int) : ∃ r, xs.Perm (r ++ cutG xs lo hi) := by
  unfold cutG
  generalize HT.sIx xs.length 0 lo = a
  generalize HT.sIx xs.length xs.length hi - a = b
  refine ⟨xs.take a ++ (xs.drop a).drop b, ?_⟩
  have h1 : xs = xs.take a ++ ((xs.drop a).take b ++ (xs.drop a).drop b) := by rw [List.take_append_drop, List.take_append_drop]
  rw [List.append_assoc]
  conv => lhs; rw [h1]
  exact List.Perm.append_left _ List.perm_append_comm
def slO (x : O) (lo hi : Option Int) : Option O := match x with
  | .s ns => some (.l ((cutG ns lo hi).map fun n => .v (.int n)))
  | .v (.str z) => if z.length ≤ sizeLine then some (.v (.str (cutS z lo hi))) else none
  | x => (match x.lparts with
    | some xs => some (.l (cutG xs lo hi))
    | none => (match x.tparts with
      | some xs => if HT.sIx xs.length 0 lo = 0 ∧ HT.sIx xs.length xs.length hi = xs.length then none else tupO (cutG xs lo hi)
      | none => none))
def mSl (m : MD O) (lo hi : MO) : MD O := fun e => match m e with
  | some (x, e1) => (match lo e1 with
    | some (a, e2) => (match hi e2 with
      | some (b, e3) => (match slO x a b with
        | some y => some (y, e3)
        | none => none)
      | none => none)
    | none => none)
  | none => none
def rSlA (K : PySem.W.Frag) : V → Option Int → Option Int → Hp → VK → Prop := fun x lo hi H Q => rSlL K x lo hi H Q ∨ rSlS x lo hi H Q ∨ rSlT K x lo hi H Q
theorem slr_or {r r' : V → Option Int → Option Int → Hp → VK → Prop} (h : SlR X r) (h' : SlR X r') : SlR X (fun x lo hi H Q => r x lo hi H Q ∨ r' x lo hi H Q) := by
  intro pins s σ H x v vl vu lo hi sl Q I rx hs pl pu q
  rcases q with q | q
  · exact h pins s σ H x v vl vu lo hi sl Q I rx hs pl pu q
  · exact h' pins s σ H x v vl vu lo hi sl Q I rx hs pl pu q
theorem sl_A : SlR X (rSlA X.K) := slr_or sl_list (slr_or sl_str sl_tup)
theorem Sta.ints {B : Bs} {F H : Hp} {σ : St} {e : En} {G : Ws} (s : Sta K B F H σ e G) : ∀ ns : List Int, Sta K B F H σ e (ns.map (fun n => (V.int n, O.v (.int n))) ++ G)
  | [] => s
  | n :: ns => (s.ints ns).push (.int n)
theorem sl_run {B : Bs} {F H : Hp} {σ : St} {e : En} {G : Ws} {v : V} {x y : O} {lo hi : Option Int} {Q : VK} (s : Sta K B F H σ e ((v, x) :: G)) (hx : slO x lo hi = some y)
    (k : ∀ F' H' v, Sta K B F' H' σ e ((v, y) :: G) → Same H H' → Q v H') : rSlA K v lo hi H Q := by
  have gen : ∀ (hx : (match x.lparts with
    | some xs => some (O.l (cutG xs lo hi))
    | none => (match x.tparts with
      | some xs => if HT.sIx xs.length 0 lo = 0 ∧ HT.sIx xs.length xs.length hi = xs.length then none else tupO (cutG xs lo hi)
      | none => none)) = some y), rSlA K v lo hi H Q := fun hx => by
    split at hx
    · rename_i xs h1
      cases hx
      obtain ⟨p, w1, F1, rfl, e1, e2, e3, s1⟩ := Sta.openL s h1
      subst e2
      refine .inl ⟨p, _, rfl, .of (s1.fh _ _ e1), fun l hl => ?_⟩
      obtain ⟨r, pr⟩ := cut_perm w1 lo hi
      have s2 : Sta K B F1 H σ e (cutG w1 lo hi ++ G) := by
        refine ⟨s1.ok, ?_⟩
        have q := s1.rel.perm (pmid w1 _ _)
        have q2 := q.perm (pr.append_right _)
        rw [List.append_assoc] at q2
        exact q2.drop.perm (pmid _ _ _).symm
      rw [cutV_map, cutG_map] at *
      exact k F1 _ _ (s2.newL hl) (same_upd hl)
    · split at hx
      · rename_i xs h1
        split at hx
        · cases hx
        · rename_i hn
          obtain ⟨p, w1, F1, rfl, e1, e2, e3, s1⟩ := Sta.openT s h1
          subst e2
          rw [List.length_map] at hn
          refine .inr (.inr ⟨p, _, rfl, .of (s1.fh _ _ e1), by rw [List.length_map]; exact hn, fun l hl => ?_⟩)
          obtain ⟨r, pr⟩ := cut_perm w1 lo hi
          have s2 : Sta K B F1 H σ e (cutG w1 lo hi ++ G) := by
            refine ⟨s1.ok, ?_⟩
            have q := s1.rel.perm (pmid w1 _ _)
            have q2 := q.perm (pr.append_right _)
            rw [List.append_assoc] at q2
            exact q2.drop.perm (pmid _ _ _).symm
          rw [cutV_map]
          rw [cutG_map] at hx
          exact (al_tup B F1 H σ e G _ y Q s2 hx k).2 l hl
      · cases hx
  unfold slO at hx
  split at hx
  · rename_i ns
    cases hx
    obtain ⟨T, r⟩ := s.at
    cases r with
    | s h =>
      refine .inl ⟨_, _, rfl, sql_mono s.fh h, fun l hl => ?_⟩
      have s1 := (s.pop.ints (cutG ns lo hi)).newL (p := l) (w := (cutG ns lo hi).map (fun n => (V.int n, O.v (.int n)))) hl
      rw [List.map_map, List.map_map] at s1
      rw [cutV_map]
      exact k F _ _ s1 (same_upd hl)
  · split at hx
    · rename_i hl
      cases hx
      obtain ⟨T, r⟩ := s.at
      cases r with
      | v h =>
        obtain rfl := df_str h
        exact .inr (.inl ⟨_, rfl, hl, k F H _ (s.pop.push (.str _)) (.refl _)⟩)
    · cases hx
  · exact gen hx
theorem d_sl {e : Expr} {lo hi : Option Expr} {p q r : Bool} {m : MD O} {ml mh : MO} {pos p2 : Pos} (he : PE X e (den X.K p m)) (hl : PO X lo (denO X.K q ml)) (hu : PO X hi (denO X.K r mh)) :
    PE X (.Subscript e (.Slice lo hi none p2) pos) (den X.K (p && (q && r)) (mSl m ml mh)) := pe_imp (pe_slice sl_A he hl hu) fun σ H Q ⟨B, F, e, G, x, e', s, hm, k⟩ => by
  unfold mSl at hm
  split at hm
  · rename_i y e1 h1
    split at hm
    · rename_i a e2 h2
      split at hm
      · rename_i b e3 h3
        split at hm
        · rename_i z h4
          obtain ⟨rfl, rfl⟩ := so hm
          refine ⟨B, F, e, G, y, e1, s, h1, fun F1 H1 v s1 sm1 => ⟨B, F1, e1, _, a, e2, s1, h2, fun F2 H2 s2 sm2 => ⟨B, F2, e2, _, b, e3, s2, h3, fun F3 H3 s3 sm3 => ?_⟩⟩⟩
          refine sl_run s3 h4 fun F4 H4 v4 s4 sm4 => k F4 H4 v4 s4 fun z => ?_
          cases p
          · cases z
          · cases q
            · cases z
            · cases r
              · cases z
              · exact (((sm1 rfl).trans (sm2 rfl)).trans (sm3 rfl)).trans sm4
        · cases hm
      · cases hm
    · cases hm
  · cases hm
end
end Dn
namespace Dn
open PySem L2
section
variable {K : PySem.W.Frag} {H0 F0 F H : Hp} {ws : Ws} {B : Bs} {σ : St} {e : En} {G : Ws}
theorem Rel.put {v : V} {xs : List O} (r : Rel K H0 F0 F H ((v, .l xs) :: ws)) : ∃ p w, v = .ref p ∧ H p = some (.lst (w.map (·.1))) ∧ w.map (·.2) = xs ∧
    ∀ w' rest, (w ++ ws).Perm (w' ++ rest) → Rel K H0 F0 F (upd H p (.lst (w'.map (·.1)))) ((.ref p, .l (w'.map (·.2))) :: rest) := by
  obtain ⟨T, rl, nd, hT⟩ := r.res
  cases rl with
  | cons a t =>
    cases a with
    | l hp e1 e2 rw =>
      rename_i T2 p vs w T1
      refine ⟨p, w, rfl, by rw [hp, e1], e2.symm, fun w' rest pm => ?_⟩
      have hpn := hT p (List.mem_append_left _ (List.mem_cons_self ..))
      rw [List.cons_append] at nd
      obtain ⟨np, nd2⟩ := List.nodup_cons.mp nd
      have m1 : RpL K F (upd H p (.lst (w'.map (·.1)))) (w ++ ws) (T1 ++ T2) := rpl_mono (Same.refl F) (rpl_append rw t) fun q hq => upd_ne fun z => np (z ▸ hq)
      obtain ⟨T', pT, m2⟩ := rpl_perm pm m1
      obtain ⟨Ta, Tb, rfl, ra, rb⟩ := rpl_split m2
      refine ⟨fun q o e => ?_, r.f0, r.fn, fun q o e => ?_, (p :: Ta) ++ Tb, .cons (.l upd_same rfl rfl ra) rb, ?_, fun q hq => ?_⟩
      · have : q ≠ p := fun z => by rw [z, hpn.2] at e; cases e
        rw [upd_ne this]
        exact r.h0 q o e
      · have : q ≠ p := fun z => by rw [z, hpn.1] at e; cases e
        rw [upd_ne this]
        exact r.fh q o e
      · rw [List.cons_append]
        exact List.nodup_cons.mpr ⟨fun z => np (pT.mem_iff.mpr z), pT.nodup_iff.mp nd2⟩
      · rcases List.mem_cons.mp hq with rfl | hq
        · exact hpn
        · have := pT.mem_iff.mpr hq
          exact hT q (by rw [List.cons_append]; exact List.mem_cons_of_mem _ this)
def Sl.like : Sl → O → Sl
  | .own _, o => .own o
  | .pin _, o => .pin o
  | .no, _ => .no
theorem Sta.put {i : Nat} {sl : Sl} {xs : List O} (s : Sta K B F H σ e G) (hi : e[i]? = some sl) (ho : sl.o? = some (.l xs)) : ∃ p w, σ[i]? = some (some (.ref p)) ∧ H p = some (.lst (w.map (·.1))) ∧ w.map (·.2) = xs ∧
    ∀ w' G', (w ++ G).Perm (w' ++ G') → Sta K B F (upd H p (.lst (w'.map (·.1)))) σ (e.set i (sl.like (.l (w'.map (·.2))))) G' := by
  obtain ⟨v, hv, s1⟩ := s.out hi ho
  obtain ⟨p, w, rfl, hp, hw, k⟩ := (s1.rel.perm (mid _ _ _)).put
  refine ⟨p, w, hv, hp, hw, fun w' G' pm => ?_⟩
  have r := k w' (slots σ (e.set i .no) ++ G') (by
    refine (pmid _ _ _).symm.trans ?_
    refine (List.Perm.append_left _ pm).trans ?_
    exact pmid _ _ _)
  have hl : i < e.length := (List.getElem?_eq_some_iff.mp hi).1
  have ok : SlOk B.vs σ (e.set i (sl.like (.l (w'.map (·.2))))) := by
    cases sl with
    | no => cases ho
    | own o => exact s.ok.own hi
    | pin o => exact s.ok.pin hi
  refine ⟨ok, r.perm ?_⟩
  have hlo : (sl.like (.l (w'.map (·.2)))).o? = some (.l (w'.map (·.2))) := by
    cases sl with
    | no => cases ho
    | own o => rfl
    | pin o => rfl
  exact ((slots_put hlo hl hv).append_right G').symm
end
def mUp (i : Nat) (ms : MD (List O)) (f : List O → List O → Option (List O × O)) : MD O := fun e => match bVar i e with
  | some (.l _) => (match ms e with
    | some (ys, e1) => (match e1[i]? with
      | some (.own (.l xs)) => (match f xs ys with
        | some (xs', y) => some (y, e1.set i (.own (.l xs')))
        | none => none)
      | some (.pin (.l xs)) => (match f xs ys with
        | some (xs', y) => some (y, e1.set i (.pin (.l xs')))
        | none => none)
      | _ => none)
    | none => none)
  | _ => none
def Up (K : PySem.W.Frag) (f : List O → List O → Option (List O × O)) (r : V → List V → Hp → VK → Prop) : Prop :=
  ∀ (B : Bs) (F H : Hp) (σ : St) (e : En) (G ws : Ws) (i : Nat) (sl : Sl) (xs xs' : List O) (y : O) (Q : VK) (v0 : V), Sta K B F H σ e (ws ++ G) → e[i]? = some sl → sl.o? = some (.l xs) → f xs (ws.map (·.2)) = some (xs', y) → σ[i]? = some (some v0) →
    (∀ F' H' v, Sta K B F' H' σ (e.set i (sl.like (.l xs'))) ((v, y) :: G) → Q v H') → r v0 (ws.map (·.1)) H Q
section
variable {K : PySem.W.Frag} {X : Cx}
def uApp : List O → List O → Option (List O × O)
  | xs, [y] => if xs.length < sizeLine then some (xs ++ [y], .v .none) else none
  | _, _ => none
def uExt : List O → List O → Option (List O × O)
  | xs, [y] => (match y.lparts with
    | some ys => if xs.length + ys.length ≤ sizeLine then some (xs ++ ys, .v .none) else none
    | none => none)
  | _, _ => none
def uPop0 : List O → List O → Option (List O × O)
  | x :: xs, [.v (.int 0)] => some (xs, x)
  | _, _ => none
def uRev : List O → List O → Option (List O × O)
  | xs, [] => some (xs.reverse, .v .none)
  | _, _ => none
def uClear : List O → List O → Option (List O × O)
  | _, [] => some ([], .v .none)
  | _, _ => none
theorem up_app : Up K uApp rAppend := fun B F H σ e G ws i sl xs xs' y Q v0 s hi ho hf hv k => by
  unfold uApp at hf
  split at hf
  · rename_i z hw
    split at hf
    · rename_i hl
      cases hf
      obtain ⟨u, rfl⟩ := ws1 hw
      obtain ⟨p, w, hv', hp, rfl, q⟩ := s.put hi ho
      rw [hv] at hv'
      cases hv'
      rw [List.length_map] at hl
      have s1 := q (w ++ [(u, z)]) G (by rw [List.append_assoc])
      rw [List.map_append, List.map_append] at s1
      exact ⟨p, _, u, rfl, rfl, hp, by rw [List.length_map]; exact hl, k F _ .non (s1.push .non)⟩
    · cases hf
  · cases hf
theorem up_ext : Up K uExt rExtend := fun B F H σ e G ws i sl xs xs' y Q v0 s hi ho hf hv k => by
  unfold uExt at hf
  split at hf
  · rename_i z hw
    split at hf
    · rename_i ys hy
      split at hf
      · rename_i hl
        cases hf
        obtain ⟨u, rfl⟩ := ws1 hw
        obtain ⟨b, w2, F2, rfl, e1, e2, e3, s2⟩ := Sta.openL (G := G) s hy
        obtain ⟨p, w, hv', hp, rfl, q⟩ := s2.put hi ho
        rw [hv] at hv'
        cases hv'
        subst e2
        rw [List.length_map, List.length_map] at hl
        have s1 := q (w ++ w2) G (by rw [List.append_assoc])
        rw [List.map_append, List.map_append] at s1
        exact ⟨p, b, _, _, rfl, rfl, hp, s2.fh _ _ e1, by rw [List.length_map, List.length_map]; exact hl, k F2 _ .non (s1.push .non)⟩
      · cases hf
    · cases hf
  · cases hf
theorem up_pop0 : Up K uPop0 rPopAt := fun B F H σ e G ws i sl xs xs' y Q v0 s hi ho hf hv k => by
  unfold uPop0 at hf
  split at hf
  · rename_i x xs'' hw
    cases hf
    obtain ⟨u, rfl⟩ := ws1 hw
    obtain ⟨T, r⟩ := s.at
    obtain rfl := rp_int r
    have s0 : Sta K B F H σ e G := s.pop
    obtain ⟨p, w, hv', hp, hw2, q⟩ := s0.put hi ho
    rw [hv] at hv'
    cases hv'
    match w, hw2 with
    | (a, b) :: w, hw2 =>
      simp only [List.map_cons, List.cons.injEq] at hw2
      obtain ⟨rfl, rfl⟩ := hw2
      have s1 := q w ((a, b) :: G) (by
        rw [List.cons_append]
        exact (mid _ _ _).symm)
      exact ⟨p, _, 0, 0, a, rfl, rfl, hp, by decide, by decide, by simp [seqIndex?], rfl, k F _ a s1⟩
  · cases hf
theorem mUp_den {p : Bool} {i : Nat} {ms : MD (List O)} {f : List O → List O → Option (List O × O)} {r : V → List V → Hp → VK → Prop} {t : TA} (hr : Up K f r) (hl : AS K p ms t) : ∀ σ H Q, den K false (mUp i ms f) σ H Q → tBM K "list" r (tVar i) t σ H Q := fun σ H Q ⟨B, F, e, G, y, e', s, hm, k⟩ => by
  unfold mUp at hm
  split at hm
  · rename_i os h0
    split at hm
    · rename_i ys e1 h1
      obtain ⟨sl0, hi0, ho0⟩ := Option.bind_eq_some_iff.mp h0
      obtain ⟨v, hv, T, rv⟩ := s.seeO hi0 ho0
      have ty : tyV K "list" v H := by
        cases rv with
        | l hp _ _ _ => exact .inl ⟨rfl, _, .of hp⟩
      refine ⟨v, hv, ty, hl σ H _ ⟨B, F, e, G, ys, e1, s, h1, fun F1 H1 ws s1 r1 sm1 => ?_⟩⟩
      subst r1
      split at hm
      · rename_i xs hx
        split at hm
        · rename_i xs' z hz
          obtain ⟨rfl, rfl⟩ := so hm
          exact hr B F1 H1 σ e1 G ws i _ xs xs' z Q v s1 hx rfl hz hv fun F2 H2 v2 s2 => k F2 H2 v2 s2 fun z => nomatch z
        · cases hm
      · rename_i xs hx
        split at hm
        · rename_i xs' z hz
          obtain ⟨rfl, rfl⟩ := so hm
          exact hr B F1 H1 σ e1 G ws i _ xs xs' z Q v s1 hx rfl hz hv fun F2 H2 v2 s2 => k F2 H2 v2 s2 fun z => nomatch z
        · cases hm
      · cases hm
    · cases hm
  · cases hm
theorem d_up {i : Nat} {p : Bool} {x : Expr} {ex : Expr} {es : List Expr} {ms : MD (List O)} {f : List O → List O → Option (List O × O)} {r : V → List V → Hp → VK → Prop} {name : Str} {id : String} {apos cpos : Pos} (slot : Slot "list" name id) (hty : typeOf (.builtin id) = pure (.type "method_descriptor")) (hm : MtR X id r) (hr : Up X.K f r)
    (ho : PE X x (tVar i)) (ha : PA X (ex :: es) (denA X.K p ms)) (hbase : attributeBase x name X.env (eval x X.env) = eval x X.env := by rfl)
    (hfew : ((backTo cpos (starEach (ex :: es) X.env)).all (fun x => !x.1) && (backToKw cpos (keywordEach [] X.env)).all (fun x => x.1.isSome)
      && decide ((ex :: es).length + ([] : List Keyword).length + (if ([] : List Keyword).isEmpty then 0 else 1) < 30)) = true := by rfl)
    (hline : (apos.endLine == cpos.line) = true := by rfl) (hs : starEach (ex :: es) X.env = (false, eval ex X.env) :: starEach es X.env := by rfl) (hplain : (backTo cpos (starEach es X.env)).any (·.1) = false := by rfl) :
    PE X (.Call (.Attribute x name apos) (ex :: es) [] cpos) (den X.K false (mUp i ms f)) :=
  pe_imp (pe_bm PySem.F.plainAttrs_list slot hty hm ho ha hbase hfew hline hs hplain) (mUp_den hr fun _ _ _ h => h)
def mSetI (i : Nat) (mv mk : MD O) : MS := fun e => match mv e with
  | some (y, e1) => (match bVar i e1 with
    | some (.l _) => (match mk e1 with
      | some (.v (.int k), e2) => (match e2[i]? with
        | some (.own (.l xs)) => (match ixN xs.length k with
          | some j => some (.nx (e2.set i (.own (.l (xs.set j y)))))
          | none => none)
        | some (.pin (.l xs)) => (match ixN xs.length k with
          | some j => some (.nx (e2.set i (.pin (.l (xs.set j y)))))
          | none => none)
        | _ => none)
      | _ => none)
    | _ => none)
  | none => none
theorem set_perm {α : Type} {w : List α} {j : Nat} {a b : α} {G : List α} (h : w[j]? = some a) : (w ++ (b :: G)).Perm (w.set j b ++ (a :: G)) := by
  have hj := (List.getElem?_eq_some_iff.mp h).1
  have e1 : w = w.take j ++ a :: w.drop (j + 1) := by
    have := List.take_append_drop j w
    rw [List.drop_eq_getElem_cons hj] at this
    rw [(List.getElem?_eq_some_iff.mp h).2] at this
    exact this.symm
  have e2 : w.set j b = w.take j ++ b :: w.drop (j + 1) := by
    rw [List.set_eq_take_append_cons_drop, if_pos hj]
  rw [e2]
  conv => lhs; rw [e1]
  rw [List.append_assoc, List.append_assoc, List.cons_append, List.cons_append]
  refine List.Perm.append_left _ ?_
  refine ((mid b _ G).cons a).trans ?_
  refine (List.Perm.swap _ _ _).trans ?_
  exact ((mid a _ G).symm).cons b
theorem setI_run {B : Bs} {F H : Hp} {σ : St} {e : En} {G : Ws} {i j : Nat} {sl : Sl} {xs : List O} {v v0 : V} {y : O} {k : Int} {Q : Hp → Prop} (s : Sta K B F H σ e ((v, y) :: G)) (hi : e[i]? = some sl) (ho : sl.o? = some (.l xs)) (hk : ixN xs.length k = some j) (hv : σ[i]? = some (some v0))
    (q : ∀ H', Sta K B F H' σ (e.set i (sl.like (.l (xs.set j y)))) G → Q H') : rSetL v0 (.int k) v H Q := by
  obtain ⟨p, w, hv', hp, rfl, q'⟩ := s.put hi ho
  rw [hv] at hv'
  cases hv'
  rw [List.length_map] at hk
  have hj : j < w.length := by
    unfold ixN at hk
    split at hk
    · split at hk
      · cases hk; omega
      · cases hk
    · split at hk
      · cases hk; omega
      · cases hk
  have s1 := q' (w.set j (v, y)) (w[j] :: G) (set_perm (List.getElem?_eq_getElem hj))
  have s2 := s1.pop
  rw [List.map_set, List.map_set] at s2
  exact ⟨p, _, k, j, rfl, rfl, hp, by rw [List.length_map]; exact hk, q _ s2⟩
theorem ds_setI {i : Nat} {x ek ev : Expr} {p q : Bool} {mv mk : MD O} {pos spos : Pos} (hv : PE X ev (den X.K p mv)) (ho : PE X x (tVar i)) (hk : PE X ek (den X.K q mk))
    (ha : ∀ v, assign (.Subscript x ek spos) X.env v = (do
      let ov ← holding [v] (eval x X.env)
      let iv ← holding [v, ov] (eval ek X.env)
      standAt spos
      holding [v, ov, iv] (setItem ov iv v)
      release [v, ov, iv] []) := by intro _; rfl) (hs : swapsWithSole [.Subscript x ek spos] ev pos.line X.env = pure false := by rfl) (hw : swappedStores [.Subscript x ek spos] ev X.env = pure none := by rfl)
    (h1 : (assignEach [.Subscript x ek spos] X.env).map (·.2) = [assign (.Subscript x ek spos) X.env] := by rfl) :
    PS X (.Assign [.Subscript x ek spos] ev pos) (denS X.K (mSetI i mv mk)) := ps_imp (ps_asg hv (pg_sub ho hk set_list ha) hs hw h1) fun D σ H ⟨B, F, e, G, oc, s, hm, k⟩ => by
  unfold mSetI at hm
  split at hm
  · rename_i y e1 h1
    split at hm
    · rename_i os h0
      split at hm
      · rename_i z e2 h2
        refine ⟨B, F, e, G, y, e1, s, h1, fun F1 H1 v s1 _ => ?_⟩
        obtain ⟨sl0, hi0, ho0⟩ := Option.bind_eq_some_iff.mp h0
        obtain ⟨v0, hv0, _⟩ := s1.seeO hi0 ho0
        refine ⟨v0, hv0, ⟨B, F1, e1, _, _, e2, s1, h2, fun F2 H2 v2 s2 _ => ?_⟩⟩
        obtain ⟨T, r⟩ := s2.at
        obtain rfl := rp_int r
        split at hm
        · rename_i xs hx
          split at hm
          · rename_i j hj
            cases hm
            exact setI_run s2.pop hx rfl hj hv0 fun H' s3 => k F2 H' σ s3
          · cases hm
        · rename_i xs hx
          split at hm
          · rename_i j hj
            cases hm
            exact setI_run s2.pop hx rfl hj hv0 fun H' s3 => k F2 H' σ s3
          · cases hm
        · cases hm
      · cases hm
    · cases hm
  · cases hm
def setE (e : En) (i : Nat) (x : O) : Option En := match e[i]? with
  | some .no => some (e.set i (.own x))
  | some (.own _) => some (e.set i (.own x))
  | _ => none
theorem setE_store {B : Bs} {F H : Hp} {σ : St} {e e' : En} {G : Ws} {i : Nat} {v : V} {x : O} (s : Sta K B F H σ e ((v, x) :: G)) (h : setE e i x = some e') : Sta K B F H (σ.set i (some v)) e' G := by
  unfold setE at h
  split at h
  · rename_i hi
    cases h
    exact s.store (List.getElem?_eq_some_iff.mp hi).1
  · rename_i hi
    cases h
    exact s.store (List.getElem?_eq_some_iff.mp hi).1
  · cases h
def mSet (i : Nat) (m : MD O) : MS := fun e => match m e with
  | some (x, e1) => (match setE e1 i x with
    | some e2 => some (.nx e2)
    | none => none)
  | none => none
theorem mSet_den {i : Nat} {p : Bool} {m : MD O} {t : TE} (h : ∀ σ H Q, den K p m σ H Q → t σ H Q) : ∀ D σ H, denS K (mSet i m) D σ H → tAsg t (gName i) D σ H := fun D σ H ⟨B, F, e, G, oc, s, hm, k⟩ => by
  unfold mSet at hm
  split at hm
  · rename_i x e1 h1
    split at hm
    · rename_i e2 h2
      cases hm
      exact h σ H _ ⟨B, F, e, G, x, e1, s, h1, fun F1 H1 v s1 _ => k F1 H1 _ (setE_store s1 h2)⟩
    · cases hm
  · cases hm
theorem ds_set {i : Nat} {x : Str} {e : Expr} {p : Bool} {m : MD O} {pos pos' : Pos} (hN : X.N.Nodup) (hi : X.N[i]? = some x) (hx : Loc X.env.scope x) (he : PE X e (den X.K p m)) (hs : swapsWith e (some (.Name x pos')) pos.line X.env = pure false := by rfl) (hf : X.fn x = true ∨ X.env.scope.names.lookup x = some .local := by first | exact .inl rfl | exact .inr rfl | assumption) :
    PS X (.Assign [.Name x pos'] e pos) (denS X.K (mSet i m)) := ps_imp (ps_set hN hi hx he hs hf) (mSet_den fun _ _ _ h => h)
def mDrop (m : MD O) : MS := fun e => match m e with
  | some (_, e1) => some (.nx e1)
  | none => none
theorem ds_expr {e : Expr} {p : Bool} {m : MD O} {pos : Pos} (he : PE X e (den X.K p m)) (hs : swapsWith e none pos.line X.env = pure false := by rfl) : PS X (.Expr e pos) (denS X.K (mDrop m)) := ps_imp (ps_expr he hs) fun D σ H ⟨B, F, e, G, oc, s, hm, k⟩ => by
  unfold mDrop at hm
  split at hm
  · rename_i x e1 h1
    cases hm
    exact ⟨B, F, e, G, x, e1, s, h1, fun F1 H1 v s1 _ => k F1 H1 σ s1.pop⟩
  · cases hm
def mRet (m : MD O) : MS := fun e => match m e with
  | some (x, e1) => some (.rt x e1)
  | none => none
theorem ds_ret {e : Expr} {p : Bool} {m : MD O} {pos : Pos} (he : PE X e (den X.K p m)) : PS X (.Return (some e) pos) (denS X.K (mRet m)) := ps_imp (ps_ret he) fun D σ H ⟨B, F, e, G, oc, s, hm, k⟩ => by
  unfold mRet at hm
  split at hm
  · rename_i x e1 h1
    cases hm
    exact ⟨B, F, e, G, x, e1, s, h1, fun F1 H1 v s1 _ => k F1 H1 σ v s1⟩
  · cases hm
def mIf (c : MD Bool) (t u : MS) : MS := fun e => match c e with
  | some (true, e1) => t e1
  | some (false, e1) => u e1
  | none => none
theorem ds_if {c : Expr} {a b : List Stmt} {p : Bool} {mc : MD Bool} {t u : MS} {pos : Pos} (hc : PT X c (denT X.K p mc)) (ha : PSs X a (denS X.K t)) (hb : PSs X b (denS X.K u)) : PS X (.If c a b pos) (denS X.K (mIf mc t u)) := ps_imp (ps_if hc ha hb) fun D σ H ⟨B, F, e, G, oc, s, hm, k⟩ => by
  unfold mIf at hm
  split at hm
  · rename_i e1 h1
    exact ⟨B, F, e, G, true, e1, s, h1, fun F1 H1 s1 _ => iteT ⟨B, F1, e1, G, oc, s1, hm, k⟩⟩
  · rename_i e1 h1
    exact ⟨B, F, e, G, false, e1, s, h1, fun F1 H1 s1 _ => iteF ⟨B, F1, e1, G, oc, s1, hm, k⟩⟩
  · cases hm
def mNil : MS := fun e => some (.nx e)
theorem dss_nil : PSs X [] (denS X.K mNil) := pss_imp pss_nil fun D σ H ⟨B, F, e, G, oc, s, hm, k⟩ => by
  cases hm
  exact k F H σ s
def mSeq (a b : MS) : MS := fun e => match a e with
  | some (.nx e1) => b e1
  | r => r
theorem dss_cons {st : Stmt} {rest : List Stmt} {t u : MS} (h1 : PS X st (denS X.K t)) (h2 : PSs X rest (denS X.K u)) : PSs X (st :: rest) (denS X.K (mSeq t u)) := pss_imp (pss_cons h1 h2) fun D σ H ⟨B, F, e, G, oc, s, hm, k⟩ => by
  unfold mSeq at hm
  split at hm
  · rename_i e1 h1
    exact ⟨B, F, e, G, _, s, h1, fun F1 H1 σ1 s1 => ⟨B, F1, e1, G, oc, s1, hm, k⟩⟩
  · rename_i hn
    refine ⟨B, F, e, G, oc, s, hm, ?_⟩
    cases oc with
    | nx e1 => exact absurd hm (hn e1)
    | rt x e1 => exact k
    | bk e1 => exact k
    | ct e1 => exact k
def mNo : MS := fun _ => none
theorem ds_never {st : Stmt} : PS X st (denS X.K mNo) := ps_imp ps_never fun D σ H ⟨B, F, e, G, oc, s, hm, k⟩ => by cases hm
def tAndM (a b : MD Bool) : MD Bool := fun e => match a e with
  | some (true, e1) => b e1
  | r => r
def tOrM (a b : MD Bool) : MD Bool := fun e => match a e with
  | some (false, e1) => b e1
  | r => r
def tNotM (a : MD Bool) : MD Bool := fun e => match a e with
  | some (b, e1) => some (!b, e1)
  | none => none
theorem band1 {p q : Bool} (h : (p && q) = true) : p = true := by cases p <;> simp_all
theorem band2 {p q : Bool} (h : (p && q) = true) : q = true := by cases p <;> simp_all
variable {a b : Expr} {rest : List Expr} {p q : Bool} {ma mb : MD Bool} {pos : Pos}
theorem dw_and (ha : PT X a (denT X.K p ma)) (hb : PW X (.BoolOp .And (b :: rest) pos) (denT X.K q mb)) : PW X (.BoolOp .And (a :: b :: rest) pos) (denT X.K (p && q) (tAndM ma mb)) := pw_imp (pw_and ha hb) fun σ H Q ⟨B, F, e, G, x, e', s, hm, k⟩ => by
  unfold tAndM at hm
  split at hm
  · rename_i e1 h1
    exact ⟨B, F, e, G, true, e1, s, h1, fun F1 H1 s1 sm1 => iteT ⟨B, F1, e1, G, x, e', s1, hm, fun F2 H2 s2 sm2 => k F2 H2 s2 fun z => (sm1 (band1 z)).trans (sm2 (band2 z))⟩⟩
  · rename_i r hn
    cases x with
    | true => exact absurd hm (hn e')
    | false => exact ⟨B, F, e, G, false, e', s, hm, fun F1 H1 s1 sm1 => iteF (k F1 H1 s1 fun z => sm1 (band1 z))⟩
theorem dw_and1 (ha : PT X a (denT X.K p ma)) : PW X (.BoolOp .And [a] pos) (denT X.K p ma) := pw_and1 ha
theorem dw_or (ha : PT X a (denT X.K p ma)) (hb : PW X (.BoolOp .Or (b :: rest) pos) (denT X.K q mb)) : PW X (.BoolOp .Or (a :: b :: rest) pos) (denT X.K (p && q) (tOrM ma mb)) := pw_imp (pw_or ha hb) fun σ H Q ⟨B, F, e, G, x, e', s, hm, k⟩ => by
  unfold tOrM at hm
  split at hm
  · rename_i e1 h1
    exact ⟨B, F, e, G, false, e1, s, h1, fun F1 H1 s1 sm1 => iteF ⟨B, F1, e1, G, x, e', s1, hm, fun F2 H2 s2 sm2 => k F2 H2 s2 fun z => (sm1 (band1 z)).trans (sm2 (band2 z))⟩⟩
  · rename_i r hn
    cases x with
    | false => exact absurd hm (hn e')
    | true => exact ⟨B, F, e, G, true, e', s, hm, fun F1 H1 s1 sm1 => iteT (k F1 H1 s1 fun z => sm1 (band1 z))⟩
theorem dw_or1 (ha : PT X a (denT X.K p ma)) : PW X (.BoolOp .Or [a] pos) (denT X.K p ma) := pw_or1 ha
theorem dt_not (ha : PT X a (denT X.K p ma)) : PT X (.UnaryOp .Not a pos) (denT X.K p (tNotM ma)) := pt_imp (pt_not ha) fun σ H Q ⟨B, F, e, G, x, e', s, hm, k⟩ => by
  unfold tNotM at hm
  split at hm
  · rename_i c e1 h1
    obtain ⟨rfl, rfl⟩ := so hm
    exact ⟨B, F, e, G, c, e1, s, h1, fun F1 H1 s1 sm => k F1 H1 s1 sm⟩
  · cases hm
def vAnd (a b : MD O) : MD O := fun e => match a e with
  | some (.v (.bool true), e1) => b e1
  | some (.v (.bool false), e1) => some (.v (.bool false), e1)
  | _ => none
def vOr (a b : MD O) : MD O := fun e => match a e with
  | some (.v (.bool false), e1) => b e1
  | some (.v (.bool true), e1) => some (.v (.bool true), e1)
  | _ => none
theorem sta_bool {B : Bs} {F H : Hp} {σ : St} {e : En} {G : Ws} {v : V} {c : Bool} (s : Sta K B F H σ e ((v, .v (.bool c)) :: G)) : v = .bl c := by
  obtain ⟨T, r⟩ := s.at
  exact df_bool (rp_v r)
variable {na nb : MD O}
theorem d_and (ha : PE X a (den X.K p na)) (hb : PE X (.BoolOp .And (b :: rest) pos) (den X.K q nb)) : PE X (.BoolOp .And (a :: b :: rest) pos) (den X.K (p && q) (vAnd na nb)) := pe_imp (pe_and ha hb) fun σ H Q ⟨B, F, e, G, x, e', s, hm, k⟩ => by
  unfold vAnd at hm
  split at hm
  · rename_i e1 h1
    refine ⟨B, F, e, G, _, e1, s, h1, fun F1 H1 v s1 sm1 => ⟨true, sta_bool s1, iteT ⟨B, F1, e1, G, x, e', s1.pop, hm, fun F2 H2 v2 s2 sm2 => k F2 H2 v2 s2 fun z => (sm1 (band1 z)).trans (sm2 (band2 z))⟩⟩⟩
  · rename_i e1 h1
    obtain ⟨rfl, rfl⟩ := so hm
    refine ⟨B, F, e, G, _, e1, s, h1, fun F1 H1 v s1 sm1 => ⟨false, sta_bool s1, iteF (k F1 H1 _ (s1.pop.push (.bl false)) fun z => sm1 (band1 z))⟩⟩
  · cases hm
theorem d_or (ha : PE X a (den X.K p na)) (hb : PE X (.BoolOp .Or (b :: rest) pos) (den X.K q nb)) : PE X (.BoolOp .Or (a :: b :: rest) pos) (den X.K (p && q) (vOr na nb)) := pe_imp (pe_or ha hb) fun σ H Q ⟨B, F, e, G, x, e', s, hm, k⟩ => by
  unfold vOr at hm
  split at hm
  · rename_i e1 h1
    refine ⟨B, F, e, G, _, e1, s, h1, fun F1 H1 v s1 sm1 => ⟨false, sta_bool s1, iteF ⟨B, F1, e1, G, x, e', s1.pop, hm, fun F2 H2 v2 s2 sm2 => k F2 H2 v2 s2 fun z => (sm1 (band1 z)).trans (sm2 (band2 z))⟩⟩⟩
  · rename_i e1 h1
    obtain ⟨rfl, rfl⟩ := so hm
    refine ⟨B, F, e, G, _, e1, s, h1, fun F1 H1 v s1 sm1 => ⟨true, sta_bool s1, iteT (k F1 H1 _ (s1.pop.push (.bl true)) fun z => sm1 (band1 z))⟩⟩
  · cases hm
theorem d_one {op} (h : PE X a (den X.K p na)) : PE X (.BoolOp op [a] pos) (den X.K p na) := pe_one h
end
end Dn
namespace Dn
open PySem L2
inductive Tg where
  | n (i : Nat)
  | tp (ts : List Tg)
mutual
def Tg.rd (K : PySem.W.Frag) : Tg → TG
  | .n i => gName i
  | .tp ts => gTup K ts.length (Tg.rds K ts)
def Tg.rds (K : PySem.W.Frag) : List Tg → TGs
  | [] => gNil
  | g :: ts => gCons (Tg.rd K g) (Tg.rds K ts)
end
mutual
def asg : Tg → O → En → Option En
  | .n i, x, e => setE e i x
  | .tp ts, x, e => (match x.tparts with
    | some xs => asgs ts xs e
    | none => none)
def asgs : List Tg → List O → En → Option En
  | [], [], e => some e
  | g :: ts, x :: xs, e => (match asg g x e with
    | some e1 => asgs ts xs e1
    | none => none)
  | _, _, _ => none
end
mutual
def Tg.in (vs : List Nat) : Tg → Bool
  | .n i => vs.contains i
  | .tp ts => Tg.ins vs ts
def Tg.ins (vs : List Nat) : List Tg → Bool
  | [] => true
  | g :: ts => Tg.in vs g && Tg.ins vs ts
end
theorem wipe_get {σ : St} {j : Nat} : ∀ {vs : List Nat}, (wipe σ vs)[j]? = if j ∈ vs then (σ[j]?).map (fun _ => none) else σ[j]?
  | [] => by simp [wipe]
  | v :: vs => by
    unfold wipe
    by_cases h : v = j
    · subst h
      rw [if_pos (List.mem_cons_self ..)]
      by_cases hv : v < σ.length
      · rw [List.getElem?_set_self (by rw [wipe_length]; exact hv), List.getElem?_eq_getElem hv]
        rfl
      · rw [List.getElem?_eq_none (by rw [List.length_set, wipe_length]; omega), List.getElem?_eq_none (by omega)]
        rfl
    · rw [List.getElem?_set_ne h, wipe_get]
      by_cases h2 : j ∈ vs
      · rw [if_pos h2, if_pos (List.mem_cons_of_mem _ h2)]
      · rw [if_neg h2, if_neg (by simp only [List.mem_cons, not_or]; exact ⟨fun z => h z.symm, h2⟩)]
theorem wipe_set {σ : St} {i : Nat} {x : Option V} {vs : List Nat} (h : i ∈ vs) : wipe (σ.set i x) vs = wipe σ vs := by
  apply List.ext_getElem?
  intro j
  rw [wipe_get, wipe_get]
  by_cases hj : i = j
  · subst hj
    rw [if_pos h, if_pos h]
    by_cases hv : i < σ.length
    · rw [List.getElem?_set_self hv, List.getElem?_eq_getElem hv]; rfl
    · rw [List.getElem?_eq_none (by rw [List.length_set]; omega), List.getElem?_eq_none (by omega)]
  · rw [List.getElem?_set_ne hj]
section
variable {K : PySem.W.Frag} {B : Bs}
mutual
theorem asg_run {vs : List Nat} : ∀ {tg : Tg} {F H : Hp} {σ : St} {e e' : En} {G : Ws} {v : V} {x : O} {Q : St → Hp → Prop}, Sta K B F H σ e ((v, x) :: G) → asg tg x e = some e' →
    (∀ F' σ', Sta K B F' H σ' e' G → Same F F' → (tg.in vs = true → wipe σ' vs = wipe σ vs) → Q σ' H) → tg.rd K v σ H Q
  | .n i, F, H, σ, e, e', G, v, x, Q, s, h, k => by
    unfold Tg.rd
    unfold asg at h
    exact k F _ (setE_store s h) (.refl _) fun z => wipe_set (by unfold Tg.in at z; exact List.contains_iff_mem.mp z)
  | .tp ts, F, H, σ, e, e', G, v, x, Q, s, h, k => by
    unfold Tg.rd
    unfold asg at h
    split at h
    · rename_i xs hx
      obtain ⟨p, w, F1, rfl, e1, e2, e3, s1⟩ := s.openT hx
      subst e2
      have hl := asgs_len h
      rw [List.length_map] at hl
      refine ⟨p, _, rfl, .of (s1.fh _ _ e1), by rw [List.length_map]; exact hl.symm, ?_⟩
      exact asgs_run (vs := vs) s1 h fun F' σ' s' sm z => k F' σ' s' (e3.trans sm) fun y => z (by unfold Tg.in at y; exact y)
    · cases h
theorem asgs_len : ∀ {ts : List Tg} {xs : List O} {e e' : En}, asgs ts xs e = some e' → ts.length = xs.length
  | [], [], _, _, _ => rfl
  | t :: ts, x :: xs, e, e', h => by
    unfold asgs at h
    split at h
    · rw [List.length_cons, List.length_cons, asgs_len h]
    · cases h
  | [], _ :: _, _, _, h => by unfold asgs at h; cases h
  | _ :: _, [], _, _, h => by unfold asgs at h; cases h
theorem asgs_run {vs : List Nat} : ∀ {ts : List Tg} {F H : Hp} {σ : St} {e e' : En} {G w : Ws} {Q : St → Hp → Prop}, Sta K B F H σ e (w ++ G) → asgs ts (w.map (·.2)) e = some e' →
    (∀ F' σ', Sta K B F' H σ' e' G → Same F F' → (Tg.ins vs ts = true → wipe σ' vs = wipe σ vs) → Q σ' H) → Tg.rds K ts (w.map (·.1)) σ H Q
  | [], F, H, σ, e, e', G, [], Q, s, h, k => by
    unfold Tg.rds
    unfold asgs at h
    cases h
    exact ⟨rfl, k F σ s (.refl _) fun _ => rfl⟩
  | t :: ts, F, H, σ, e, e', G, (v, x) :: w, Q, s, h, k => by
    unfold Tg.rds
    simp only [List.map_cons] at h ⊢
    unfold asgs at h
    split at h
    · rename_i e1 h1
      refine ⟨v, _, rfl, ?_⟩
      refine asg_run (vs := vs) (G := w ++ G) s h1 fun F1 σ1 s1 sm1 z1 => ?_
      exact asgs_run (vs := vs) s1 h fun F2 σ2 s2 sm2 z2 => k F2 σ2 s2 (sm1.trans sm2) fun y => by
        unfold Tg.ins at y
        simp only [Bool.and_eq_true] at y
        rw [z2 y.2, z1 y.1]
    · cases h
  | [], _, _, _, _, _, _, _ :: _, _, _, h, _ => by unfold asgs at h; simp at h
  | _ :: _, _, _, _, _, _, _, [], _, _, h, _ => by unfold asgs at h; simp at h
end
end
inductive Im where
  | one (w : V × O)
  | tup (ws : Ws)
def Im.ws : Im → Ws
  | .one w => [w]
  | .tup ws => ws
def Im.o : Im → O
  | .one w => w.2
  | .tup ws => .t (ws.map (·.2))
def Yl (x : V) (H H3 : Hp) : Im → Prop
  | .one w => H3 = H ∧ x = w.1
  | .tup ws => ∃ T, x = .ref T ∧ H T = none ∧ H3 = upd H T (.tup (ws.map (·.1)))
abbrev Cs := List (Addr × HO)
def fxW (cs : Cs) : Ws := cs.map fun c => (.ref c.1, .fx c.2)
def ItOk (cs : Cs) (J : It) (ims : List Im) : Prop := ∀ H : Hp, (∀ c ∈ cs, H c.1 = some c.2) → (∀ i im, ims[i]? = some im → J.go i H ∧ ∀ x H3, J.yld i H x H3 → Yl x H H3 im) ∧ J.stop ims.length H
def denI (K : PySem.W.Frag) (a : Bool) (mi : MD (List O)) : TI := fun σ H R => ∃ B F e G os e', Sta K B F H σ e G ∧ mi e = some (os, e') ∧ ∀ F' H' J ims cs, Sta K B F' H' σ e' (ims.flatMap Im.ws ++ (fxW cs ++ G)) → ims.map Im.o = os → ItOk cs J ims → (a = true → Same H H') → R J H'
theorem pi_imp {X : Cx} {tg iter : Expr} {t u : TI} (h : PI X tg iter t) (k : ∀ σ H R, u σ H R → t σ H R) : PI X tg iter u := ⟨fun pins s σ H R I q => h.run pins s σ H R I (k _ _ _ q)⟩
theorem pi_or {X : Cx} {tg iter : Expr} {t u : TI} (h : PI X tg iter t) (h' : PI X tg iter u) : PI X tg iter (fun σ H R => t σ H R ∨ u σ H R) := ⟨fun pins s σ H R I q => by
  rcases q with q | q
  · exact h.run pins s σ H R I q
  · exact h'.run pins s σ H R I q⟩
theorem flat_one (w : Ws) : (w.map Im.one).flatMap Im.ws = w := by
  induction w with
  | nil => rfl
  | cons x w ih => simp only [List.map_cons, List.flatMap_cons, ih]; rfl
theorem map_one (w : Ws) : (w.map Im.one).map Im.o = w.map (·.2) := by
  rw [List.map_map]; rfl
section
variable {K : PySem.W.Frag} {X : Cx} {tg iter : Expr}
theorem Sta.drop {B : Bs} {F H : Hp} {σ : St} {e : En} {w G : Ws} (s : Sta K B F H σ e (w ++ G)) : Sta K B F H σ e G := ⟨s.ok, (s.rel.perm (pmid _ _ _)).drop⟩
theorem Sta.fix {B : Bs} {F H : Hp} {σ : St} {e : En} {w G : Ws} {a : Addr} {u : HO} (s : Sta K B F H σ e (w ++ G)) (h : F a = some u) : Sta K B F H σ e (w ++ ((.ref a, .fx u) :: G)) := by
  obtain ⟨T, rl, nd, hp⟩ := s.rel.res
  have q : Rel K B.H0 B.F0 F H ((.ref a, .fx u) :: (slots σ e ++ (w ++ G))) := ⟨s.rel.h0, s.rel.f0, s.rel.fn, s.rel.fh, T, .cons (T1 := []) (.fx h) rl, nd, hp⟩
  refine ⟨s.ok, q.perm ?_⟩
  rw [← List.append_assoc, ← List.append_assoc]
  exact (mid _ _ _).symm
theorem Sta.fixed {B : Bs} {F H : Hp} {σ : St} {e : En} {cs : Cs} {w G : Ws} (s : Sta K B F H σ e (w ++ (fxW cs ++ G))) : ∀ c ∈ cs, H c.1 = some c.2 := fun c hc => by
  have hm : (V.ref c.1, O.fx c.2) ∈ slots σ e ++ (w ++ (fxW cs ++ G)) := by
    refine List.mem_append_right _ (List.mem_append_right _ (List.mem_append_left _ ?_))
    unfold fxW
    exact List.mem_map.mpr ⟨c, hc, rfl⟩
  obtain ⟨T, r⟩ := s.rel.memAt hm
  generalize hv : V.ref c.1 = v at r
  generalize ho : O.fx c.2 = o at r
  cases r with
  | fx h => cases hv; cases ho; exact s.fh _ _ h
  | _ => cases ho
def iL (m : MD O) : MD (List O) := fun e => match m e with
  | some (x, e1) => (match x.lparts with
    | some os => some (os, e1)
    | none => (match x.tparts with
      | some os => some (os, e1)
      | none => none))
  | none => none
theorem itok_l {a : Addr} {w : Ws} : ItOk [(a, .lst (w.map (·.1)))] (Itl K a) (w.map Im.one) := fun H fh => by
  have hq : SqL K H a (w.map (·.1)) := .of (fh _ (List.mem_cons_self ..))
  refine ⟨fun i im hi => ?_, ⟨_, hq, by rw [List.length_map, List.length_map]; exact Nat.le_refl _⟩⟩
  rw [List.getElem?_map] at hi
  obtain ⟨y, h1, rfl⟩ := Option.map_eq_some_iff.mp hi
  have h2 : (w.map (·.1))[i]? = some y.1 := by rw [List.getElem?_map, h1]; rfl
  refine ⟨⟨_, y.1, hq, h2⟩, fun x H3 hy => ?_⟩
  obtain ⟨e1, e2⟩ := hy
  have := e2 _ hq
  rw [h2] at this
  exact ⟨e1, (Option.some.inj this).symm⟩
theorem itok_t {a : Addr} {w : Ws} : ItOk [(a, .tup (w.map (·.1)))] (Itt K a) (w.map Im.one) := fun H fh => by
  have hq : SqT K H a (w.map (·.1)) := .of (fh _ (List.mem_cons_self ..))
  refine ⟨fun i im hi => ?_, ⟨_, hq, by rw [List.length_map, List.length_map]; exact Nat.le_refl _⟩⟩
  rw [List.getElem?_map] at hi
  obtain ⟨y, h1, rfl⟩ := Option.map_eq_some_iff.mp hi
  have h2 : (w.map (·.1))[i]? = some y.1 := by rw [List.getElem?_map, h1]; rfl
  refine ⟨⟨_, y.1, hq, h2⟩, fun x H3 hy => ?_⟩
  obtain ⟨e1, e2⟩ := hy
  have := e2 _ hq
  rw [h2] at this
  exact ⟨e1, (Option.some.inj this).symm⟩
theorem di_list {p : Bool} {m : MD O} (h : PE X iter (den X.K p m)) : PI X tg iter (denI X.K p (iL m)) := pi_imp (pi_or (pi_list h) (pi_tup h)) fun σ H R ⟨B, F, e, G, os, e', s, hm, k⟩ => by
  unfold iL at hm
  split at hm
  · rename_i x e1 h1
    split at hm
    · rename_i xs h2
      obtain ⟨rfl, rfl⟩ := so hm
      refine .inl ⟨B, F, e, G, x, e1, s, h1, fun F1 H1 v s1 sm1 => ?_⟩
      obtain ⟨a, w, F2, rfl, e2, e3, e4, s2⟩ := s1.openL h2
      refine ⟨a, rfl, ⟨_, .of (s2.fh _ _ e2)⟩, k F2 H1 _ (w.map Im.one) [(a, .lst (w.map (·.1)))] (by rw [flat_one]; exact s2.fix e2) (by rw [map_one]; exact e3) itok_l sm1⟩
    · split at hm
      · rename_i xs h2
        obtain ⟨rfl, rfl⟩ := so hm
        refine .inr ⟨B, F, e, G, x, e1, s, h1, fun F1 H1 v s1 sm1 => ?_⟩
        obtain ⟨a, w, F2, rfl, e2, e3, e4, s2⟩ := s1.openT h2
        refine ⟨a, rfl, ⟨_, .of (s2.fh _ _ e2)⟩, k F2 H1 _ (w.map Im.one) [(a, .tup (w.map (·.1)))] (by rw [flat_one]; exact s2.fix e2) (by rw [map_one]; exact e3) itok_t sm1⟩
      · cases hm
  · cases hm
def rngO (lo : Int) (n : Nat) : List O := (List.range n).map fun (k : Nat) => .v (.int (lo + (k : Int)))
def rngW (lo : Int) (n : Nat) : Ws := (List.range n).map fun (k : Nat) => (.int (lo + (k : Int)), .v (.int (lo + (k : Int))))
theorem Sta.rng {B : Bs} {F H : Hp} {σ : St} {e : En} {G : Ws} (s : Sta K B F H σ e G) (lo : Int) (n : Nat) : Sta K B F H σ e (rngW lo n ++ G) := by
  have h := s.ints ((List.range n).map fun (k : Nat) => lo + (k : Int))
  rw [List.map_map] at h
  exact h
theorem itok_r {lo : Int} {n : Nat} : ItOk [] (Itr lo n) ((rngW lo n).map Im.one) := fun H fh => by
  have hl : ((rngW lo n).map Im.one).length = n := by rw [List.length_map]; unfold rngW; rw [List.length_map, List.length_range]
  refine ⟨fun i im hi => ?_, by rw [hl]; exact Nat.le_refl n⟩
  have hlt : i < n := by
    have := (List.getElem?_eq_some_iff.mp hi).1
    rw [hl] at this
    exact this
  unfold rngW at hi
  rw [List.getElem?_map, List.getElem?_map, List.getElem?_range hlt] at hi
  cases hi
  exact ⟨hlt, fun x H3 ⟨e1, e2⟩ => ⟨e1, e2⟩⟩
noncomputable def iR1 (ms : MD (List O)) : MD (List O) := fun e => match ms e with
  | some ([.v (.int j)], e1) => if shut (decide (-(2 ^ 62) ≤ j ∧ j < 2 ^ 62)) = true then some (rngO 0 j.toNat, e1) else none
  | _ => none
noncomputable def iR2 (ms : MD (List O)) : MD (List O) := fun e => match ms e with
  | some ([.v (.int i), .v (.int j)], e1) => if shut (decide (-(2 ^ 62) ≤ i ∧ i < 2 ^ 62 ∧ -(2 ^ 62) ≤ j ∧ j < 2 ^ 62)) = true then some (rngO i (j - i).toNat, e1) else none
  | _ => none
theorem rng_o (lo : Int) (n : Nat) : ((rngW lo n).map Im.one).map Im.o = rngO lo n := by
  rw [map_one]; unfold rngW rngO; rw [List.map_map]; rfl
theorem di_r1 {a : Expr} {p : Bool} {ms : MD (List O)} {p1 pos : Pos} (hg : Gl X "range") (hm : X.mg "range" = none) (ha : PA X [a] (denL X.K p ms)) (hs : starEach [a] X.env = [(false, eval a X.env)] := by rfl) :
    PI X tg (.Call (.Name "range" p1) [a] [] pos) (denI X.K p (iR1 ms)) := pi_imp (pi_range1 hg hm ha hs) fun σ H R ⟨B, F, e, G, os, e', s, hm, k⟩ => by
  unfold iR1 at hm
  split at hm
  · rename_i j e1 h1
    split at hm
    · rename_i hj
      rw [shut_eq, decide_eq_true_eq] at hj
      obtain ⟨rfl, rfl⟩ := so hm
      refine ⟨B, F, e, G, _, e1, s, h1, fun F1 H1 vs s1 r1 sm1 => ?_⟩
      obtain ⟨v, T, rfl, r⟩ := rpa1 r1
      obtain rfl := rp_int r
      exact ⟨j, rfl, hj.1, hj.2, k F1 H1 _ ((rngW 0 j.toNat).map Im.one) [] (by rw [flat_one]; exact s1.rng 0 _) (rng_o _ _) itok_r sm1⟩
    · cases hm
  · cases hm
theorem di_r2 {a b : Expr} {p : Bool} {ms : MD (List O)} {p1 pos : Pos} (hg : Gl X "range") (hm : X.mg "range" = none) (ha : PA X [a, b] (denL X.K p ms)) (hs : starEach [a, b] X.env = [(false, eval a X.env), (false, eval b X.env)] := by rfl) (hs2 : starEach [b] X.env = [(false, eval b X.env)] := by rfl) :
    PI X tg (.Call (.Name "range" p1) [a, b] [] pos) (denI X.K p (iR2 ms)) := pi_imp (pi_range2 hg hm ha hs hs2) fun σ H R ⟨B, F, e, G, os, e', s, hm, k⟩ => by
  unfold iR2 at hm
  split at hm
  · rename_i i j e1 h1
    split at hm
    · rename_i hj
      rw [shut_eq, decide_eq_true_eq] at hj
      obtain ⟨rfl, rfl⟩ := so hm
      refine ⟨B, F, e, G, _, e1, s, h1, fun F1 H1 vs s1 r1 sm1 => ?_⟩
      obtain ⟨v, u, T, T', rfl, r, r'⟩ := rpa2 r1
      obtain rfl := rp_int r
      obtain rfl := rp_int r'
      exact ⟨i, j, rfl, hj, k F1 H1 _ ((rngW i (j - i).toNat).map Im.one) [] (by rw [flat_one]; exact s1.rng i _) (rng_o _ _) itok_r sm1⟩
    · cases hm
  · cases hm
def zipO : List O → List O → List O
  | x :: xs, y :: ys => .t [x, y] :: zipO xs ys
  | _, _ => []
def zipI : Ws → Ws → List Im
  | x :: xs, y :: ys => .tup [x, y] :: zipI xs ys
  | _, _ => []
theorem zip_o : ∀ (a b : Ws), (zipI a b).map Im.o = zipO (a.map (·.2)) (b.map (·.2))
  | [], _ => rfl
  | _ :: _, [] => rfl
  | x :: a, y :: b => by simp only [zipI, List.map_cons, zipO, zip_o a b, Im.o, List.map_nil]
theorem zip_flat : ∀ (a b : Ws), ∃ r, (a ++ b).Perm (r ++ (zipI a b).flatMap Im.ws)
  | [], b => ⟨b, by simp [zipI]⟩
  | x :: a, [] => ⟨x :: a, by simp [zipI]⟩
  | x :: a, y :: b => by
    obtain ⟨r, h⟩ := zip_flat a b
    refine ⟨r, ?_⟩
    show (x :: (a ++ y :: b)).Perm (r ++ (x :: y :: (zipI a b).flatMap Im.ws))
    refine ((mid y a b).cons x).trans ?_
    refine ((h.cons y).cons x).trans ?_
    exact ((mid x r _).trans ((mid y r _).cons x)).symm
theorem zip_at : ∀ (a b : Ws) (i : Nat) (im : Im), (zipI a b)[i]? = some im → ∃ x y, a[i]? = some x ∧ b[i]? = some y ∧ im = .tup [x, y]
  | [], _, _, _, h => by simp [zipI] at h
  | _ :: _, [], _, _, h => by simp [zipI] at h
  | x :: a, y :: b, 0, im, h => by
    simp [zipI] at h
    exact ⟨x, y, rfl, rfl, h.symm⟩
  | x :: a, y :: b, i + 1, im, h => by
    simp [zipI] at h
    obtain ⟨x', y', h1, h2, h3⟩ := zip_at a b i im h
    exact ⟨x', y', by simpa using h1, by simpa using h2, h3⟩
theorem zip_len : ∀ (a b : Ws), a.length ≤ (zipI a b).length ∨ b.length ≤ (zipI a b).length
  | [], _ => .inl (Nat.zero_le _)
  | _ :: _, [] => .inr (Nat.zero_le _)
  | x :: a, y :: b => by
    rcases zip_len a b with h | h
    · left; simp [zipI]; exact h
    · right; simp [zipI]; exact h
theorem itok_z {a b : Addr} {w u : Ws} : ItOk [(a, .lst (w.map (·.1))), (b, .lst (u.map (·.1)))] (Itz K a b) (zipI w u) := fun H fh => by
  have hq : SqL K H a (w.map (·.1)) := .of (fh _ (List.mem_cons_self ..))
  have hq' : SqL K H b (u.map (·.1)) := .of (fh _ (List.mem_cons_of_mem _ (List.mem_cons_self ..)))
  refine ⟨fun i im hi => ?_, ⟨_, _, hq, hq', by rw [List.length_map, List.length_map]; exact zip_len w u⟩⟩
  obtain ⟨x, y, h1, h2, rfl⟩ := zip_at w u i im hi
  have g1 : (w.map (·.1))[i]? = some x.1 := by rw [List.getElem?_map, h1]; rfl
  have g2 : (u.map (·.1))[i]? = some y.1 := by rw [List.getElem?_map, h2]; rfl
  refine ⟨⟨_, _, x.1, y.1, hq, hq', g1, g2⟩, fun z H3 hy => ?_⟩
  obtain ⟨T, x', y', rfl, hT, rfl, f1, f2⟩ := hy
  have e1 := f1 _ hq
  have e2 := f2 _ hq'
  rw [g1] at e1
  rw [g2] at e2
  cases e1
  cases e2
  exact ⟨T, rfl, hT, rfl⟩
def iZ (ms : MD (List O)) : MD (List O) := fun e => match ms e with
  | some ([x, y], e1) => (match x.lparts, y.lparts with
    | some xs, some ys => some (zipO xs ys, e1)
    | _, _ => none)
  | _ => none
theorem di_zip {x y : Expr} {p : Bool} {ms : MD (List O)} {p1 pos tpos : Pos} {elts : List Expr} {kk : Nat} (hg : Gl X "zip") (hm : X.mg "zip" = none) (ha : PA X [x, y] (denA X.K p ms))
    (hs : starEach [x, y] X.env = (false, eval x X.env) :: starEach [y] X.env := by rfl) (hpl : (backTo pos (starEach [y] X.env)).any (·.1) = false := by rfl) :
    PI X (.Tuple elts kk tpos) (.Call (.Name "zip" p1) [x, y] [] pos) (denI X.K p (iZ ms)) := pi_imp (pi_zip hg hm ha hs hpl) fun σ H R ⟨B, F, e, G, os, e', s, hm, k⟩ => by
  unfold iZ at hm
  split at hm
  · rename_i a b e1 h1
    split at hm
    · rename_i xs ys h2 h3
      obtain ⟨rfl, rfl⟩ := so hm
      refine ⟨B, F, e, G, _, e1, s, h1, fun F1 H1 ws s1 r1 sm1 => ?_⟩
      obtain ⟨v, u, rfl⟩ := ws2 r1
      obtain ⟨p, w1, F2, rfl, g1, g2, g3, s2⟩ := Sta.openL (G := (u, b) :: G) s1 h2
      obtain ⟨q, w2, F3, rfl, g1', g2', g3', s3⟩ := Sta.openL (s2.perm (mid _ _ _)) h3
      obtain ⟨r, pr⟩ := zip_flat w1 w2
      have s4 : Sta X.K B F3 H1 σ e1 (r ++ ((zipI w1 w2).flatMap Im.ws ++ G)) := s3.perm (by
        have q1 : (w2 ++ (w1 ++ G)).Perm ((w1 ++ w2) ++ G) := by
          rw [← List.append_assoc]
          exact List.perm_append_comm.append_right G
        have q2 := pr.append_right G
        rw [List.append_assoc r] at q2
        exact q1.trans q2)
      refine ⟨p, q, _, _, rfl, .of (s3.fh _ _ (g3' _ _ g1)), .of (s3.fh _ _ g1'), k F3 H1 _ (zipI w1 w2) [(p, HO.lst (w1.map fun x : V × O => x.1)), (q, HO.lst (w2.map fun x : V × O => x.1))] ((s4.drop.fix g1').fix (g3' _ _ g1)) ?_ itok_z sm1⟩
      rw [zip_o, g2, g2']
    · cases hm
  · cases hm
def enuO : Nat → List O → List O
  | _, [] => []
  | n, x :: xs => .t [.v (.int (n : Int)), x] :: enuO (n + 1) xs
def enuI : Nat → Ws → List Im
  | _, [] => []
  | n, x :: xs => .tup [(.int (n : Int), .v (.int (n : Int))), x] :: enuI (n + 1) xs
theorem enu_o : ∀ (n : Nat) (a : Ws), (enuI n a).map Im.o = enuO n (a.map (·.2))
  | _, [] => rfl
  | n, x :: a => by simp only [enuI, List.map_cons, enuO, enu_o (n + 1) a, Im.o, List.map_nil]
theorem enu_at : ∀ (n : Nat) (a : Ws) (i : Nat) (im : Im), (enuI n a)[i]? = some im → ∃ x, a[i]? = some x ∧ im = .tup [(.int ((n + i : Nat) : Int), .v (.int ((n + i : Nat) : Int))), x]
  | _, [], _, _, h => by simp [enuI] at h
  | n, x :: a, 0, im, h => by
    simp [enuI] at h
    exact ⟨x, rfl, by rw [← h]; simp⟩
  | n, x :: a, i + 1, im, h => by
    simp [enuI] at h
    obtain ⟨x', h1, h3⟩ := enu_at (n + 1) a i im h
    exact ⟨x', by simpa using h1, by rw [h3]; rw [show n + 1 + i = n + (i + 1) by omega]⟩
theorem enu_len : ∀ (n : Nat) (a : Ws), (enuI n a).length = a.length
  | _, [] => rfl
  | n, x :: a => by simp [enuI, enu_len (n + 1) a]
theorem itok_e {a : Addr} {w : Ws} : ItOk [(a, .lst (w.map (·.1)))] (Ite K a) (enuI 0 w) := fun H fh => by
  have hq : SqL K H a (w.map (·.1)) := .of (fh _ (List.mem_cons_self ..))
  refine ⟨fun i im hi => ?_, ⟨_, hq, by rw [List.length_map, enu_len]; exact Nat.le_refl _⟩⟩
  obtain ⟨x, h1, rfl⟩ := enu_at 0 w i im hi
  have g1 : (w.map (·.1))[i]? = some x.1 := by rw [List.getElem?_map, h1]; rfl
  refine ⟨⟨_, x.1, hq, g1⟩, fun z H3 hy => ?_⟩
  obtain ⟨T, x', rfl, hT, rfl, f1⟩ := hy
  have e1 := f1 _ hq
  rw [g1] at e1
  cases e1
  refine ⟨T, rfl, hT, ?_⟩
  rw [Nat.zero_add]
  rfl
theorem Sta.enu {B : Bs} {F H : Hp} {σ : St} {e : En} : ∀ {w G : Ws} (n : Nat), Sta K B F H σ e (w ++ G) → Sta K B F H σ e ((enuI n w).flatMap Im.ws ++ G)
  | [], G, n, s => s
  | x :: w, G, n, s => by
    have s1 : Sta K B F H σ e (w ++ (x :: G)) := s.perm (mid _ _ _).symm
    have s2 := (Sta.enu (n + 1) s1).perm (mid _ _ _)
    exact s2.push (.int n)
def iE (ms : MD (List O)) : MD (List O) := fun e => match ms e with
  | some ([x], e1) => (match x.lparts with
    | some xs => some (enuO 0 xs, e1)
    | _ => none)
  | _ => none
theorem di_enum {x : Expr} {p : Bool} {ms : MD (List O)} {p1 pos tpos : Pos} {elts : List Expr} {kk : Nat} (hg : Gl X "enumerate") (hm : X.mg "enumerate" = none) (ha : PA X [x] (denA X.K p ms)) (hs : starEach [x] X.env = [(false, eval x X.env)] := by rfl) :
    PI X (.Tuple elts kk tpos) (.Call (.Name "enumerate" p1) [x] [] pos) (denI X.K p (iE ms)) := pi_imp (pi_enum hg hm ha hs) fun σ H R ⟨B, F, e, G, os, e', s, hm, k⟩ => by
  unfold iE at hm
  split at hm
  · rename_i a e1 h1
    split at hm
    · rename_i xs h2
      obtain ⟨rfl, rfl⟩ := so hm
      refine ⟨B, F, e, G, _, e1, s, h1, fun F1 H1 ws s1 r1 sm1 => ?_⟩
      obtain ⟨v, rfl⟩ := ws1 r1
      obtain ⟨p, w1, F2, rfl, g1, g2, g3, s2⟩ := Sta.openL (G := G) s1 h2
      refine ⟨p, _, rfl, .of (s2.fh _ _ g1), k F2 H1 _ (enuI 0 w1) [(p, .lst (w1.map (·.1)))] ((s2.enu 0).fix g1) ?_ itok_e sm1⟩
      rw [enu_o, g2]
    · cases hm
  · cases hm
def forL (tg : Tg) (body : MS) : List O → MS
  | [], e => some (.nx e)
  | x :: xs, e => (match asg tg x e with
    | some e1 => (match body e1 with
      | some (.nx e2) => forL tg body xs e2
      | some (.ct e2) => forL tg body xs e2
      | some (.bk e2) => some (.nx e2)
      | some (.rt y e2) => some (.rt y e2)
      | none => none)
    | none => none)
def mFor (mi : MD (List O)) (tg : Tg) (body : MS) : MS := fun e => match mi e with
  | some (os, e1) => forL tg body os e1
  | none => none
theorem Sta.item {B : Bs} {F H H3 : Hp} {σ : St} {e : En} {G : Ws} {im : Im} {x : V} (s : Sta K B F H σ e (im.ws ++ G)) (h : Yl x H H3 im) : Sta K B F H3 σ e ((x, im.o) :: G) := by
  cases im with
  | one w =>
    obtain ⟨rfl, rfl⟩ := h
    exact s
  | tup ws =>
    obtain ⟨T, rfl, hT, rfl⟩ := h
    exact s.newT hT
theorem Oc.drop {B : Bs} {w G : Ws} {D : Ends} {oc : Oc} (h : oc.end K B G D) : oc.end K B (w ++ G) D := by
  cases oc with
  | nx e => exact fun F H σ s => h F H σ s.drop
  | bk e => exact fun F H σ s => h F H σ s.drop
  | ct e => exact fun F H σ s => h F H σ s.drop
  | rt x e => exact fun F H σ v s => h F H σ v (Sta.drop (w := w) (s.perm (by
      rw [← List.cons_append]
      exact (mid _ _ _).symm)))
theorem ds_for {tgE : Expr} {body : List Stmt} {tg : Tg} {p : Bool} {mi : MD (List O)} {mb : MS} {pos : Pos} (hp : PassesOwn (model X.prog X.w) X.A X.env X.xe) (hc : X.calm = true) (hi : PI X tgE iter (denI X.K p mi)) (hg : PG X tgE (tg.rd X.K)) (hb : PSs X body (denS X.K mb))
    (hs : ∀ x, foldedSetIterable iter X.env x = pure x := by intro _; rfl) : PS X (.For tgE iter body [] pos) (denS X.K (mFor mi tg mb)) := ps_imp (ps_for hp hc hi hg hb hs) fun D σ H ⟨B, F, e, G, oc, s, hm, k⟩ => by
  unfold mFor at hm
  split at hm
  · rename_i os e1 h1
    refine ⟨B, F, e, G, os, e1, s, h1, fun F1 H1 J ims cs s1 r1 it sm1 => ?_⟩
    subst r1
    refine ⟨fun i m σ H => ∃ F e, i + m = ims.length ∧ Sta X.K B F H σ e ((ims.drop i).flatMap Im.ws ++ (fxW cs ++ G)) ∧ forL tg mb ((ims.drop i).map Im.o) e = some oc, ⟨ims.length, F1, e1, by omega, s1, hm⟩, fun i m σ H ⟨F, e, hl, s2, h2⟩ => ?_⟩
    obtain ⟨g1, g2⟩ := it H s2.fixed
    cases m with
    | zero =>
      have : i = ims.length := by omega
      subst this
      rw [List.drop_length] at h2 s2
      cases h2
      exact .inl ⟨g2, k F H σ (Sta.drop (w := fxW cs) s2)⟩
    | succ m =>
      have hlt : i < ims.length := by omega
      obtain ⟨f1, f2⟩ := g1 i ims[i] (List.getElem?_eq_getElem hlt)
      rw [List.drop_eq_getElem_cons hlt] at h2 s2
      simp only [List.map_cons, List.flatMap_cons, List.append_assoc] at h2 s2
      unfold forL at h2
      refine .inr ⟨f1, fun σ H => ∃ F e, Sta X.K B F H σ e ((ims.drop (i + 1)).flatMap Im.ws ++ (fxW cs ++ G)) ∧ forL tg mb ((ims.drop (i + 1)).map Im.o) e = some oc, fun σ' H' ⟨F', e', q2, q3⟩ => ⟨m, Nat.lt_succ_self _, F', e', by omega, q2, q3⟩, fun x H3 hy => ?_⟩
      have s3 := s2.item (f2 x H3 hy)
      split at h2
      · rename_i e2 h3
        refine asg_run (vs := []) s3 h3 fun F4 σ4 s4 sF4 _ => ?_
        split at h2
        · rename_i e5 h5
          exact ⟨B, F4, e2, _, _, s4, h5, fun F6 H6 σ6 s6 => ⟨F6, e5, s6, h2⟩⟩
        · rename_i e5 h5
          exact ⟨B, F4, e2, _, _, s4, h5, fun F6 H6 σ6 s6 => ⟨F6, e5, s6, h2⟩⟩
        · rename_i e5 h5
          cases h2
          exact ⟨B, F4, e2, _, _, s4, h5, fun F6 H6 σ6 s6 => k F6 H6 σ6 s6.drop.drop⟩
        · rename_i y e5 h5
          cases h2
          exact ⟨B, F4, e2, _, _, s4, h5, Oc.drop (oc := .rt y e5) (Oc.drop (oc := .rt y e5) k)⟩
        · cases h2
      · cases h2
  · cases hm
end
end Dn
namespace Dn
open PySem L2
def whileF (c : MD Bool) (b : MS) : Nat → MS
  | 0, _ => none
  | n + 1, e => (match c e with
    | some (false, e1) => some (.nx e1)
    | some (true, e1) => (match b e1 with
      | some (.nx e2) => whileF c b n e2
      | some (.ct e2) => whileF c b n e2
      | some (.bk e2) => some (.nx e2)
      | some (.rt x e2) => some (.rt x e2)
      | none => none)
    | none => none)
theorem whileF_mono {c : MD Bool} {b : MS} : ∀ {n : Nat} {e : En} {oc : Oc}, whileF c b n e = some oc → whileF c b (n + 1) e = some oc
  | 0, _, _, h => by cases h
  | n + 1, e, oc, h => by
    unfold whileF at h
    unfold whileF
    split at h
    · exact h
    · split at h
      · exact whileF_mono h
      · exact whileF_mono h
      · exact h
      · exact h
      · cases h
    · cases h
theorem whileF_add {c : MD Bool} {b : MS} {n : Nat} {e : En} {oc : Oc} (h : whileF c b n e = some oc) : ∀ k, whileF c b (n + k) e = some oc
  | 0 => h
  | k + 1 => whileF_mono (whileF_add h k)
open Classical in
noncomputable def mWhile (c : MD Bool) (b : MS) : MS := fun e => if h : ∃ oc n, whileF c b n e = some oc then some h.choose else none
theorem mWhile_of {c : MD Bool} {b : MS} {n : Nat} {e : En} {oc : Oc} (h : whileF c b n e = some oc) : mWhile c b e = some oc := by
  have hex : ∃ oc n, whileF c b n e = some oc := ⟨oc, n, h⟩
  unfold mWhile
  rw [dif_pos hex]
  obtain ⟨n', h'⟩ := hex.choose_spec
  have a := whileF_add h n'
  have b' := whileF_add h' n
  rw [Nat.add_comm] at b'
  rw [a] at b'
  rw [← b']
theorem mWhile_some {c : MD Bool} {b : MS} {e : En} {oc : Oc} (h : mWhile c b e = some oc) : ∃ n, whileF c b n e = some oc := by
  unfold mWhile at h
  split at h
  · rename_i hex
    cases h
    exact hex.choose_spec
  · cases h
section
variable {K : PySem.W.Frag} {X : Cx}
theorem ds_while {c : Expr} {body : List Stmt} {p : Bool} {mc : MD Bool} {mb : MS} {pos : Pos} (hp : PassesOwn (model X.prog X.w) X.A X.env X.xe) (hc : PT X c (denT X.K p mc)) (hb : PSs X body (denS X.K mb)) :
    PS X (.While c body [] pos) (denS X.K (mWhile mc mb)) := ps_imp (ps_while hp hc hb) fun D σ H ⟨B, F, e, G, oc, s, hm, k⟩ => by
  obtain ⟨n, hn⟩ := mWhile_some hm
  refine ⟨fun m σ H => ∃ F e, Sta X.K B F H σ e G ∧ whileF mc mb m e = some oc, ⟨n, F, e, s, hn⟩, fun m σ H ⟨F, e, s1, h1⟩ => ?_⟩
  cases m with
  | zero => cases h1
  | succ m =>
    unfold whileF at h1
    split at h1
    · rename_i e1 h2
      cases h1
      exact ⟨B, F, e, G, false, e1, s1, h2, fun F2 H2 s2 _ => iteF (k F2 H2 σ s2)⟩
    · rename_i e1 h2
      refine ⟨B, F, e, G, true, e1, s1, h2, fun F2 H2 s2 _ => iteT ⟨fun σ H => ∃ F e, Sta X.K B F H σ e G ∧ whileF mc mb m e = some oc, fun σ' H' q => ⟨m, Nat.lt_succ_self _, q⟩, ?_⟩⟩
      split at h1
      · rename_i e2 h3
        exact ⟨B, F2, e1, G, _, s2, h3, fun F4 H4 σ4 s4 => ⟨F4, e2, s4, h1⟩⟩
      · rename_i e2 h3
        exact ⟨B, F2, e1, G, _, s2, h3, fun F4 H4 σ4 s4 => ⟨F4, e2, s4, h1⟩⟩
      · rename_i e2 h3
        cases h1
        exact ⟨B, F2, e1, G, _, s2, h3, fun F4 H4 σ4 s4 => k F4 H4 σ4 s4⟩
      · rename_i x e2 h3
        cases h1
        exact ⟨B, F2, e1, G, _, s2, h3, fun F4 H4 σ4 v s4 => k F4 H4 σ4 v s4⟩
      · cases h1
    · cases h1
def hide (e : En) : List Nat → En
  | [] => e
  | v :: vs => (hide e vs).set v .no
def keepV : Option Sl → Sl
  | some (.own (.v d)) => .own (.v d)
  | some (.own (.s ns)) => .own (.s ns)
  | _ => .no
def unhide (e1 : En) : En → List Nat → En
  | e2, [] => e2
  | e2, v :: vs => unhide e1 (e2.set v (if vs.contains v then .no else keepV e1[v]?)) vs
def lcL (tg : Tg) (mt : MD Bool) (me : MD O) (vs : List Nat) : List O → En → Option (List O × En)
  | [], e => some ([], e)
  | x :: xs, e => (match asg tg x e with
    | some e1 => (match mt e1 with
      | some (true, e2) => (match me e2 with
        | some (y, e3) => (match lcL tg mt me vs xs (hide e3 vs) with
          | some (ys, e4) => some (y :: ys, e4)
          | none => none)
        | none => none)
      | some (false, e2) => lcL tg mt me vs xs (hide e2 vs)
      | none => none)
    | none => none)
def mLc (mi : MD (List O)) (tg : Tg) (mt : MD Bool) (me : MD O) (vs : List Nat) : MD O := fun e => match mi e with
  | some (os, e1) => if os.length ≤ sizeLine && tg.in vs then (match lcL tg mt me vs os (hide e1 vs) with
    | some (ys, e2) => some (.l ys, unhide e1 e2 vs)
    | none => none) else none
  | none => none
variable {B : Bs} {F H : Hp} {σ : St} {e : En} {G : Ws}
theorem Sta.wipe1 {v : Nat} {x : Option V} (s : Sta K B F H σ e G) : Sta K B F H (σ.set v x) (e.set v .no) G := by
  by_cases hv : v < e.length
  · have hσ : v < σ.length := by rw [s.ok.len]; exact hv
    obtain ⟨w, pw⟩ := slots_less (σ := σ) (e := e) (i := v) (List.getElem?_eq_getElem hσ) (List.getElem?_eq_getElem hv)
    have r : Rel K B.H0 B.F0 F H (slots σ (e.set v .no) ++ G) := by
      have q := s.rel.perm (pw.append_right G)
      rw [List.append_assoc] at q
      exact q.drop
    refine ⟨⟨by rw [List.length_set, List.length_set]; exact s.ok.len, fun j sl hj => ?_⟩, by rw [slots_no]; exact r⟩
    by_cases h : v = j
    · subst h
      rw [List.getElem?_set_self hv] at hj
      cases hj
      exact ⟨x, by rw [List.getElem?_set_self hσ], trivial⟩
    · rw [List.getElem?_set_ne h] at hj ⊢
      exact s.ok.sl j sl hj
  · have e1 : e.set v .no = e := List.set_eq_of_length_le (by omega)
    have e2 : σ.set v x = σ := List.set_eq_of_length_le (by rw [s.ok.len]; omega)
    rw [e1, e2]
    exact s
theorem Sta.hide : ∀ {vs : List Nat}, Sta K B F H σ e G → Sta K B F H (wipe σ vs) (hide e vs) G
  | [], s => s
  | v :: vs, s => by
    unfold wipe Dn.hide
    exact (Sta.hide (vs := vs) s).wipe1
theorem wipe_wipe {σ : St} {vs : List Nat} : wipe (wipe σ vs) vs = wipe σ vs := by
  apply List.ext_getElem?
  intro j
  rw [wipe_get, wipe_get]
  by_cases h : j ∈ vs
  · rw [if_pos h, if_pos h, Option.map_map]
    rfl
  · rw [if_neg h, if_neg h]
variable {vs : List Nat}
def Kept (K : PySem.W.Frag) (F : Hp) (σ : St) (e1 : En) (vs : List Nat) : Prop := ∀ (v : Nat), v ∈ vs → ∀ o, (keepV e1[v]?).o? = some o → ∃ x, σ[v]? = some (some x) ∧ ∀ H, Rp K F H x o []
def keptW (σ : St) (e1 : En) : List Nat → Ws
  | [] => []
  | v :: vs => (match σ[v]?, (keepV e1[v]?).o? with
    | some (some x), some o => [(x, o)]
    | _, _ => []) ++ keptW σ e1 vs
theorem keepV_fz {sl : Option Sl} {o : O} (h : (keepV sl).o? = some o) : ∃ s, sl = some s ∧ s.o? = some o ∧ ((∃ d, o = .v d) ∨ ∃ ns, o = .s ns) := by
  unfold keepV at h
  split at h
  · cases h; exact ⟨_, rfl, rfl, .inl ⟨_, rfl⟩⟩
  · cases h; exact ⟨_, rfl, rfl, .inr ⟨_, rfl⟩⟩
  · cases h
theorem Sta.keptPush (s : Sta K B F H σ e G) : ∀ vs : List Nat, Sta K B F H σ e (keptW σ e vs ++ G)
  | [] => s
  | v :: vs => by
    have s1 := s.keptPush vs
    unfold keptW
    split
    · rename_i x o hx ho
      obtain ⟨sl, h1, h2, h3⟩ := keepV_fz ho
      obtain ⟨x', hx', T, r⟩ := s.seeO h1 h2
      rw [hx] at hx'
      cases hx'
      rcases h3 with ⟨d, rfl⟩ | ⟨ns, rfl⟩
      · exact s1.push (rp_v r)
      · cases r with
        | s h => exact s1.pushS h
    · exact s1
theorem Sta.kept {σ1 : St} {e1 e2 : En} (s : Sta K B F H σ1 e2 (keptW σ e1 vs ++ G)) (ok : SlOk B.vs σ e1) : Kept K F σ e1 vs := fun v hv o ho => by
  obtain ⟨sl, h1, h2, h3⟩ := keepV_fz ho
  obtain ⟨y, hy, hok⟩ := ok.sl v sl h1
  have : ∃ x, y = some x := by
    cases sl with
    | no => cases h2
    | own _ => exact hok
    | pin _ => obtain ⟨x, e, _⟩ := hok; exact ⟨x, e⟩
  obtain ⟨x, rfl⟩ := this
  have hm : (x, o) ∈ keptW σ e1 vs := by
    clear s
    induction vs with
    | nil => cases hv
    | cons u vs ih =>
      unfold keptW
      rcases List.mem_cons.mp hv with rfl | hv
      · rw [hy, ho]
        exact List.mem_append_left _ (List.mem_cons_self ..)
      · exact List.mem_append_right _ (ih hv)
  obtain ⟨T, r⟩ := s.rel.memAt (List.mem_append_right _ (List.mem_append_left _ hm))
  refine ⟨x, hy, fun H' => ?_⟩
  rcases h3 with ⟨d, rfl⟩ | ⟨ns, rfl⟩
  · exact .v (rp_v r)
  · cases r with
    | s h => exact .s h
theorem Sta.unhide1 {e1 : En} {v : Nat} {vs vs' : List Nat} (kp : Kept K F σ e1 vs') (hv' : v ∈ vs') (s : Sta K B F H (wipe σ (v :: vs)) e G) : Sta K B F H (wipe σ vs) (e.set v (if vs.contains v then .no else keepV e1[v]?)) G := by
  have s1 : Sta K B F H (wipe σ vs) (e.set v .no) G := by
    have q := s.wipe1 (v := v) (x := ((wipe σ vs)[v]?).join)
    have : (wipe σ (v :: vs)).set v ((wipe σ vs)[v]?).join = wipe σ vs := by
      show ((wipe σ vs).set v none).set v _ = _
      rw [List.set_set]
      apply List.ext_getElem?
      intro j
      by_cases h : v = j
      · subst h
        by_cases hv : v < (wipe σ vs).length
        · rw [List.getElem?_set_self hv, List.getElem?_eq_getElem hv]; rfl
        · rw [List.getElem?_eq_none (by rw [List.length_set]; omega), List.getElem?_eq_none (by omega)]
      · rw [List.getElem?_set_ne h]
    rw [this] at q
    exact q
  by_cases hc : vs.contains v = true
  · rw [if_pos hc]; exact s1
  · rw [if_neg hc]
    cases ho : (keepV e1[v]?).o? with
    | none =>
      have : keepV e1[v]? = .no := by
        cases h : keepV e1[v]? with
        | no => rfl
        | own o => rw [h] at ho; cases ho
        | pin o => rw [h] at ho; cases ho
      rw [this]
      exact s1
    | some o =>
      obtain ⟨x, hx, r⟩ := kp v hv' o ho
      have hx' : (wipe σ vs)[v]? = some (some x) := by
        rw [wipe_get, if_neg (fun z => hc (List.contains_iff_mem.mpr z))]
        exact hx
      have hlen : v < e.length := by
        have := (List.getElem?_eq_some_iff.mp hx').1
        rw [s1.ok.len, List.length_set] at this
        exact this
      obtain ⟨T, rl, nd, hp⟩ := s1.rel.res
      have q : Rel K B.H0 B.F0 F H ((x, o) :: (slots (wipe σ vs) (e.set v .no) ++ G)) := ⟨s1.rel.h0, s1.rel.f0, s1.rel.fn, s1.rel.fh, T, .cons (T1 := []) (r H) rl, nd, hp⟩
      have hsl : ∃ o', keepV e1[v]? = .own o' := by
        unfold keepV at ho ⊢
        split at ho <;> first | exact ⟨_, rfl⟩ | cases ho
      obtain ⟨o', hsl⟩ := hsl
      rw [hsl] at ho ⊢
      refine ⟨⟨by rw [List.length_set]; have := s1.ok.len; rw [List.length_set] at this; exact this, fun j sl hj => ?_⟩, q.perm ((slots_put ho hlen hx').append_right G).symm⟩
      by_cases h : v = j
      · subst h
        rw [List.getElem?_set_self hlen] at hj
        cases hj
        exact ⟨_, hx', x, rfl⟩
      · rw [List.getElem?_set_ne h] at hj
        exact s1.ok.sl j sl (by rw [List.getElem?_set_ne h]; exact hj)
theorem Sta.unhide {e1 : En} {vs' : List Nat} (kp : Kept K F σ e1 vs') : ∀ {vs : List Nat} {e : En}, (∀ v ∈ vs, v ∈ vs') → Sta K B F H (wipe σ vs) e G → Sta K B F H σ (unhide e1 e vs) G
  | [], _, _, s => s
  | v :: vs, e, hs, s => by
    unfold Dn.unhide
    exact Sta.unhide kp (fun u hu => hs u (List.mem_cons_of_mem _ hu)) (s.unhide1 kp (hs v (List.mem_cons_self ..)))
theorem lc_den {p q r : Bool} {mi : MD (List O)} {tg : Tg} {mt : MD Bool} {me : MD O} {vs : List Nat} : ∀ σ H Q, den K false (mLc mi tg mt me vs) σ H Q → tLc (denI K p mi) (tg.rd K) (denT K q mt) (den K r me) vs σ H Q := fun σ H Q ⟨B, F, e, G, x, e', s, hm, k⟩ => by
  unfold mLc at hm
  split at hm
  · rename_i os e1 h1
    split at hm
    · rename_i hz
      simp only [Bool.and_eq_true, decide_eq_true_eq] at hz
      split at hm
      · rename_i ys e2 h2
        obtain ⟨rfl, rfl⟩ := so hm
        refine ⟨B, F, e, G, os, e1, s, h1, fun F1 H1 J ims cs s1 r1 it sm1 D hD => ?_⟩
        subst r1
        have hlen : ims.length ≤ sizeLine := by
          have := hz.1
          rw [List.length_map] at this
          exact this
        -- the frozen slots are kept
        have s2 : Sta K B F1 H1 σ e1 (keptW σ e1 vs ++ (ims.flatMap Im.ws ++ (fxW cs ++ G))) := s1.keptPush vs
        have s3 : Sta K B F1 H1 (wipe σ vs) (Dn.hide e1 vs) (ims.flatMap Im.ws ++ (fxW cs ++ (keptW σ e1 vs ++ G))) := (s2.hide (vs := vs)).perm (by
          refine (pmid _ _ _).trans ?_
          exact List.Perm.append_left _ (pmid _ _ _))
        refine ⟨fun i m H => ∃ F e acc, i + m = ims.length ∧ acc.length ≤ i ∧ Sta K B F H (wipe σ vs) e ((.ref D, .l acc) :: ((ims.drop i).flatMap Im.ws ++ (fxW cs ++ (keptW σ e1 vs ++ G)))) ∧ ∃ zs, lcL tg mt me vs ((ims.drop i).map Im.o) e = some (zs, e2) ∧ acc ++ zs = ys,
          ⟨ims.length, F1, Dn.hide e1 vs, [], by omega, Nat.le_refl _, s3.newL (w := []) hD, ys, h2, rfl⟩, fun i m H ⟨F, e, acc, hl, ha, s4, zs, h4, hz4⟩ => ?_⟩
        have s5 : Sta K B F H (wipe σ vs) e ((ims.drop i).flatMap Im.ws ++ (fxW cs ++ (keptW σ e1 vs ++ G))) := s4.pop
        obtain ⟨g1, g2⟩ := it H s5.fixed
        cases m with
        | zero =>
          have : i = ims.length := by omega
          subst this
          rw [List.drop_length] at h4 s4
          cases h4
          rw [List.append_nil] at hz4
          subst hz4
          have s6 : Sta K B F H (wipe σ vs) e2 (keptW σ e1 vs ++ ((.ref D, .l acc) :: G)) := by
            have q0 : Sta K B F H (wipe σ vs) e2 ((.ref D, .l acc) :: (fxW cs ++ (keptW σ e1 vs ++ G))) := s4
            have q1 : Sta K B F H (wipe σ vs) e2 (fxW cs ++ ((.ref D, .l acc) :: (keptW σ e1 vs ++ G))) := q0.perm (mid _ _ _).symm
            exact q1.drop.perm (mid _ _ _).symm
          have kp := s6.kept s1.ok
          exact .inl ⟨g2, k F H _ (Sta.unhide kp (fun _ h => h) s6.drop) fun z => nomatch z⟩
        | succ m =>
          have hlt : i < ims.length := by omega
          obtain ⟨f1, f2⟩ := g1 i ims[i] (List.getElem?_eq_getElem hlt)
          rw [List.drop_eq_getElem_cons hlt] at h4 s4
          simp only [List.map_cons, List.flatMap_cons, List.append_assoc] at h4 s4
          unfold lcL at h4
          refine .inr ⟨f1, fun H => ∃ F e acc, acc.length ≤ i + 1 ∧ Sta K B F H (wipe σ vs) e ((.ref D, .l acc) :: ((ims.drop (i + 1)).flatMap Im.ws ++ (fxW cs ++ (keptW σ e1 vs ++ G)))) ∧ ∃ zs, lcL tg mt me vs ((ims.drop (i + 1)).map Im.o) e = some (zs, e2) ∧ acc ++ zs = ys,
            fun H' ⟨F', e', acc', q1, q2, q3⟩ => ⟨m, Nat.lt_succ_self _, F', e', acc', by omega, q1, q2, q3⟩, fun x H3 hy => ?_⟩
          have s6 : Sta K B F H3 (wipe σ vs) e ((x, (ims[i]).o) :: ((.ref D, .l acc) :: ((ims.drop (i + 1)).flatMap Im.ws ++ (fxW cs ++ (keptW σ e1 vs ++ G))))) := Sta.item (s4.perm (mid _ _ _).symm) (f2 x H3 hy)
          split at h4
          · rename_i ea ha1
            refine asg_run (vs := vs) s6 ha1 fun F7 σ7 s7 _ hw => ⟨?_, ?_⟩
            · rw [hw hz.2, wipe_wipe]
            · split at h4
              · rename_i eb hb
                refine ⟨B, F7, ea, _, true, eb, s7, hb, fun F8 H8 s8 _ => iteT ?_⟩
                split at h4
                · rename_i y ec hc
                  refine ⟨B, F8, eb, _, y, ec, s8, hc, fun F9 H9 v s9 _ => ?_⟩
                  split at h4
                  · rename_i ys' ed hd
                    obtain ⟨rfl, rfl⟩ := so h4
                    have s10 : Sta K B F9 H9 σ7 ec ((.ref D, .l acc) :: ((v, y) :: ((ims.drop (i + 1)).flatMap Im.ws ++ (fxW cs ++ (keptW σ e1 vs ++ G))))) := s9.perm (.swap _ _ _)
                    obtain ⟨p', w, hpe, hp, hw2, q⟩ := (s10.rel.perm (mid _ _ _)).put
                    cases hpe
                    refine ⟨_, hp, ?_, F9, Dn.hide ec vs, acc ++ [y], ?_, ?_, ys', hd, ?_⟩
                    · rw [List.length_map]
                      have : w.length = acc.length := by rw [← hw2, List.length_map]
                      omega
                    · rw [List.length_append, List.length_singleton]; omega
                    · have r2 := q (w ++ [(v, y)]) (slots σ7 ec ++ ((ims.drop (i + 1)).flatMap Im.ws ++ (fxW cs ++ (keptW σ e1 vs ++ G)))) (by
                        rw [List.append_assoc]
                        refine List.Perm.append_left _ ?_
                        exact mid _ _ _)
                      rw [List.map_append, List.map_append, hw2] at r2
                      have s11 : Sta K B F9 (upd H9 D (.lst (w.map (·.1) ++ [v]))) σ7 ec ((.ref D, .l (acc ++ [y])) :: ((ims.drop (i + 1)).flatMap Im.ws ++ (fxW cs ++ (keptW σ e1 vs ++ G)))) := ⟨s10.ok, r2.perm (mid _ _ _).symm⟩
                      have s12 := s11.hide (vs := vs)
                      rw [hw hz.2, wipe_wipe] at s12
                      exact s12
                    · rw [← hz4, List.append_assoc]; rfl
                  · cases h4
                · cases h4
              · rename_i eb hb
                refine ⟨B, F7, ea, _, false, eb, s7, hb, fun F8 H8 s8 _ => iteF ⟨F8, Dn.hide eb vs, acc, by omega, ?_, zs, h4, hz4⟩⟩
                have s12 := s8.hide (vs := vs)
                rw [hw hz.2, wipe_wipe] at s12
                exact s12
              · cases h4
          · cases h4
      · cases hm
    · cases hm
  · cases hm
end
end Dn
namespace Dn
open PySem L2
section
variable {X : Cx} {K : PySem.W.Frag}
theorem d_lc {elt tgE iter : Expr} {ifs : List Expr} {scope : Scope} {own : List (Str × Nat)} {pos : Pos} {tg : Tg} {p q r : Bool} {mi : MD (List O)} {mt : MD Bool} {me : MD O} (hc : X.calm = true) (hN : X.N.Nodup) (hi : PI X tgE iter (denI X.K p mi)) (ok : BlkOk X.N X.env.scope scope own)
    (hg : ∀ (s : Shared) (H : Hp) (C : Addr) (cl : List (Str × Addr)) (fp : List Addr), PG (X.blk s H scope (compEnvC scope cl C X.env) fp) tgE (tg.rd X.K))
    (ht : ∀ (s : Shared) (H : Hp) (C : Addr) (cl : List (Str × Addr)) (fp : List Addr), PTs (X.blk s H scope (compEnvC scope cl C X.env) fp) ifs (denT X.K q mt))
    (he : ∀ (s : Shared) (H : Hp) (C : Addr) (cl : List (Str × Addr)) (fp : List Addr), PE (X.blk s H scope (compEnvC scope cl C X.env) fp) elt (den X.K r me)) (hs : ∀ x, foldedSetIterable iter X.env x = pure x := by intro _; rfl) :
    PE X (.ListComp elt [⟨tgE, iter, ifs, 0⟩] scope pos) (den X.K false (mLc mi tg mt me (own.map (·.2)))) := pe_imp (pe_lc hc hN hi ok hg ht he hs) lc_den
theorem ds_setLc {i : Nat} {y : Str} {py : Pos} {elt tgE iter : Expr} {ifs : List Expr} {scope : Scope} {own : List (Str × Nat)} {pos spos : Pos} {tg : Tg} {p q r : Bool} {mi : MD (List O)} {mt : MD Bool} {me : MD O} (hc : X.calm = true) (hN : X.N.Nodup) (hy : X.N[i]? = some y) (hyl : X.env.scope.names.lookup y = some .local)
    (hsw : swapsWith (.ListComp elt [⟨tgE, iter, ifs, 0⟩] scope pos) (some (.Name y py)) spos.line X.env = pure true) (hi : PI X tgE iter (denI X.K p mi)) (ok : BlkOk X.N X.env.scope scope own)
    (hg : ∀ (s : Shared) (H : Hp) (C : Addr) (cl : List (Str × Addr)) (fp : List Addr), PG (X.blk s H scope (compEnvC scope cl C X.env) fp) tgE (tg.rd X.K))
    (ht : ∀ (s : Shared) (H : Hp) (C : Addr) (cl : List (Str × Addr)) (fp : List Addr), PTs (X.blk s H scope (compEnvC scope cl C X.env) fp) ifs (denT X.K q mt))
    (he : ∀ (s : Shared) (H : Hp) (C : Addr) (cl : List (Str × Addr)) (fp : List Addr), PE (X.blk s H scope (compEnvC scope cl C X.env) fp) elt (den X.K r me)) (hs : ∀ x, foldedSetIterable iter X.env x = pure x := by intro _; rfl) :
    PS X (.Assign [.Name y py] (.ListComp elt [⟨tgE, iter, ifs, 0⟩] scope pos) spos) (denS X.K (mSet i (mLc mi tg mt me (own.map (·.2))))) := ps_imp (ps_setLc hc hN hy hyl hsw hi ok hg ht he hs) (mSet_den lc_den)
def mYes : MD Bool := fun e => some (true, e)
theorem dts_nil : PTs X [] (denT X.K true mYes) := ⟨fun pins s σ H Q I h => pts_nil.run pins s σ H Q I (by
  obtain ⟨B, F, e, G, b, e', st, hm, k⟩ := h
  cases hm
  exact k F H st fun _ => .refl _)⟩
theorem dts_one {c : Expr} {p : Bool} {m : MD Bool} (h : PT X c (denT X.K p m)) : PTs X [c] (denT X.K p m) := pts_one h
theorem dg_name {i : Nat} {x : Str} {pos : Pos} (hN : X.N.Nodup) (hi : X.N[i]? = some x) (hx : Loc X.env.scope x) (hf : X.fn x = true ∨ X.env.scope.names.lookup x = some .local := by first | exact .inl rfl | exact .inr rfl | assumption) : PG X (.Name x pos) ((Tg.n i).rd K) := by
  unfold Tg.rd
  exact pg_name hN hi hx hf
theorem dgs_nil : PGs X [] (Tg.rds K []) := by
  unfold Tg.rds
  exact pgs_nil
theorem dgs_cons {e : Expr} {es : List Expr} {t : Tg} {ts : List Tg} (h1 : PG X e (t.rd K)) (h2 : PGs X es (Tg.rds K ts))
    (hs : (assignEach (e :: es) X.env).map (·.2) = assign e X.env :: (assignEach es X.env).map (·.2) := by rfl) : PGs X (e :: es) (Tg.rds K (t :: ts)) := by
  unfold Tg.rds
  exact pgs_cons h1 h2 hs
theorem dg_tup {es : List Expr} {k : Nat} {ts : List Tg} {pos : Pos} (hc : X.calm = true) (h : PGs X es (Tg.rds X.K ts))
    (hn : (assignEach es X.env).length = ts.length := by rfl) (hst : (assignEach es X.env).findIdx? (·.1) = none := by rfl) : PG X (.Tuple es k pos) ((Tg.tp ts).rd X.K) := by
  unfold Tg.rd
  exact pg_tup hc h hn hst
def mAsg (tg : Tg) (m : MD O) : MS := fun e => match m e with
  | some (x, e1) => (match asg tg x e1 with
    | some e2 => some (.nx e2)
    | none => none)
  | none => none
theorem ds_asg {tgE e : Expr} {tg : Tg} {p : Bool} {m : MD O} {pos : Pos} (he : PE X e (den X.K p m)) (hg : PG X tgE (tg.rd X.K)) (hs : swapsWithSole [tgE] e pos.line X.env = pure false := by rfl) (hw : swappedStores [tgE] e X.env = pure none := by rfl)
    (h1 : (assignEach [tgE] X.env).map (·.2) = [assign tgE X.env] := by rfl) : PS X (.Assign [tgE] e pos) (denS X.K (mAsg tg m)) := ps_imp (ps_asg he hg hs hw h1) fun D σ H ⟨B, F, e, G, oc, s, hm, k⟩ => by
  unfold mAsg at hm
  split at hm
  · rename_i x e1 h1
    split at hm
    · rename_i e2 h2
      cases hm
      exact ⟨B, F, e, G, x, e1, s, h1, fun F1 H1 v s1 _ => asg_run (vs := []) s1 h2 fun F2 σ2 s2 _ _ => k F2 H1 σ2 s2⟩
    · cases hm
  · cases hm
def pinsOf : List Bool → En → Option (List O)
  | [], _ => some []
  | false :: br, _ :: e => pinsOf br e
  | true :: br, .pin o :: e => (match pinsOf br e with
    | some os => some (o :: os)
    | none => none)
  | _, _ => none
def brV {α : Type} : List Bool → List α → List α
  | true :: br, v :: vs => v :: brV br vs
  | false :: br, _ :: vs => brV br vs
  | _, _ => []
def env0 : List Bool → List O → En
  | true :: br, o :: os => .pin o :: env0 br os
  | false :: br, o :: os => .own o :: env0 br os
  | _, _ => []
def runF (n : Nat) (br : List Bool) (m : MS) (os : List O) : Option (O × List O) := if os.length = br.length then
    (match m (env0 br os ++ List.replicate (n - br.length) .no) with
    | some (.rt x e) => (match pinsOf br e with
      | some os' => some (x, os')
      | none => none)
    | some (.nx e) => (match pinsOf br e with
      | some os' => some (.v .none, os')
      | none => none)
    | _ => none) else none
def spOf (K : PySem.W.Frag) (br : List Bool) (sem : List O → Option (O × List O)) : Sp := fun vs H Q _ => ∃ H0 F os x os', vs.length = br.length ∧ os.length = br.length ∧ Rel K H0 F F H (vs.zip os) ∧ sem os = some (x, os') ∧ ∀ F' H' v, Rel K H0 F F' H' ((v, x) :: (brV br vs).zip os') → Q v H'
theorem env0_len : ∀ {br : List Bool} {os : List O}, os.length = br.length → (env0 br os).length = br.length
  | [], [], _ => rfl
  | true :: br, o :: os, h => by simp only [env0, List.length_cons, env0_len (by simpa using h)]
  | false :: br, o :: os, h => by simp only [env0, List.length_cons, env0_len (by simpa using h)]
  | [], _ :: _, h => by simp at h
  | _ :: _, [], h => by simp at h
theorem slots_rep : ∀ (n : Nat) (σ : St), slots σ (List.replicate n .no) = []
  | 0, σ => by cases σ <;> simp [slots]
  | n + 1, [] => rfl
  | n + 1, x :: σ => by
    rw [List.replicate_succ]
    cases x <;> exact slots_rep n σ
theorem slots_env0 : ∀ {br : List Bool} {vs : List V} {os : List O} {t : St} {u : En}, vs.length = br.length → os.length = br.length → slots (vs.map some ++ t) (env0 br os ++ u) = vs.zip os ++ slots t u
  | [], [], [], t, u, _, _ => rfl
  | b :: br, v :: vs, o :: os, t, u, h1, h2 => by
    have ih := slots_env0 (br := br) (vs := vs) (os := os) (t := t) (u := u) (by simpa using h1) (by simpa using h2)
    cases b
    · simp only [List.map_cons, env0, List.cons_append, slots, ih, List.zip_cons_cons]
    · simp only [List.map_cons, env0, List.cons_append, slots, ih, List.zip_cons_cons]
  | [], _ :: _, _, _, _, h, _ => by simp at h
  | [], [], _ :: _, _, _, _, h => by simp at h
  | _ :: _, [], _, _, _, h, _ => by simp at h
  | _ :: _, _ :: _, [], _, _, _, h => by simp at h
theorem ok_env0 {br : List Bool} {vs : List V} {os : List O} {n : Nat} (h1 : vs.length = br.length) (h2 : os.length = br.length) : SlOk vs (vs.map some ++ List.replicate (n - vs.length) none) (env0 br os ++ List.replicate (n - br.length) .no) := by
  refine ⟨by rw [List.length_append, List.length_append, List.length_map, List.length_replicate, List.length_replicate, env0_len h2, h1], fun i s hi => ?_⟩
  by_cases hb : i < br.length
  · have hv : i < vs.length := by rw [h1]; exact hb
    refine ⟨some vs[i], by rw [List.getElem?_append_left (by rw [List.length_map]; exact hv), List.getElem?_map, List.getElem?_eq_getElem hv]; rfl, ?_⟩
    cases s with
    | no => trivial
    | own o => exact ⟨_, rfl⟩
    | pin o => exact ⟨_, rfl, List.getElem?_eq_getElem hv⟩
  · rw [List.getElem?_append_right (by rw [env0_len h2]; omega), List.getElem?_replicate] at hi
    split at hi
    · rename_i hlt
      cases hi
      rw [env0_len h2] at hlt
      refine ⟨none, ?_, trivial⟩
      rw [List.getElem?_append_right (by rw [List.length_map]; omega), List.length_map, List.getElem?_replicate, if_pos (by rw [h1]; exact hlt)]
    · cases hi
theorem pins_out : ∀ {br : List Bool} {vs : List V} {σ : St} {e : En} {os : List O}, pinsOf br e = some os → vs.length = br.length → σ.length = e.length → (∀ i : Nat, ∀ o, e[i]? = some (.pin o) → ∃ v, vs[i]? = some v ∧ σ[i]? = some (some v)) → ∃ r, (slots σ e).Perm ((brV br vs).zip os ++ r)
  | [], vs, σ, e, os, h, hl, _, _ => by
    cases h
    exact ⟨slots σ e, by cases vs <;> exact .refl _⟩
  | false :: br, v :: vs, σ, s :: e, os, h, hl, hse, k => by
    have h' : pinsOf br e = some os := h
    cases σ with
    | nil => simp at hse
    | cons x σ =>
      obtain ⟨r, pr⟩ := pins_out (vs := vs) (σ := σ) h' (by simpa using hl) (by simpa using hse) (fun i o hi => by
        obtain ⟨v', h1, h2⟩ := k (i + 1) o (by simpa using hi)
        exact ⟨v', by simpa using h1, by simpa using h2⟩)
      cases x with
      | none => exact ⟨r, pr⟩
      | some x =>
        cases s with
        | no => exact ⟨r, pr⟩
        | own o => exact ⟨(x, o) :: r, (pr.cons _).trans (mid _ _ _).symm⟩
        | pin o => exact ⟨(x, o) :: r, (pr.cons _).trans (mid _ _ _).symm⟩
  | true :: br, v :: vs, σ, s :: e, os, h, hl, hse, k => by
    cases s with
    | pin o =>
      unfold pinsOf at h
      split at h
      · rename_i os' h'
        cases h
        obtain ⟨v', h1, h2⟩ := k 0 o rfl
        cases h1
        cases σ with
        | nil => simp at h2
        | cons x σ =>
          simp only [List.getElem?_cons_zero, Option.some.injEq] at h2
          subst h2
          obtain ⟨r, pr⟩ := pins_out (vs := vs) (σ := σ) h' (by simpa using hl) (by simpa using hse) (fun i o hi => by
            obtain ⟨v', h1, h2⟩ := k (i + 1) o (by simpa using hi)
            exact ⟨v', by simpa using h1, by simpa using h2⟩)
          exact ⟨r, pr.cons _⟩
      · cases h
    | no => cases h
    | own o => cases h
  | _ :: _, [], _, _, _, _, hl, _, _ => by simp at hl
  | false :: _, _ :: _, _, [], _, h, _, _, _ => by cases h
  | true :: _, _ :: _, _, [], _, h, _, _, _ => by cases h
theorem ret_run {B : Bs} {br : List Bool} {F H : Hp} {σ : St} {e : En} {v : V} {x : O} {os : List O} (s : Sta K B F H σ e [(v, x)]) (hp : pinsOf br e = some os) (hl : B.vs.length = br.length) : Rel K B.H0 B.F0 F H ((v, x) :: (brV br B.vs).zip os) := by
  obtain ⟨r, pr⟩ := pins_out (vs := B.vs) (σ := σ) hp hl s.ok.len (fun i o hi => by
    obtain ⟨y, h1, v', rfl, h3⟩ := s.ok.sl i _ hi
    exact ⟨v', h3, h1⟩)
  have q := s.rel.perm (mid _ _ _)
  rw [List.append_nil] at q
  have q2 := q.perm (pr.cons _)
  have q3 := q2.perm (show ((v, x) :: ((brV br B.vs).zip os ++ r)).Perm (r ++ ((v, x) :: (brV br B.vs).zip os)) by
    rw [← List.cons_append]
    exact List.perm_append_comm)
  exact q3.drop
theorem okD {P : Program} {w : World} {mg : Str → Option Value} {base : Heap} {x qual : Str} {st : Stmt} {f : Addr} {fd : FuncData} {N ps : List Str} {k : Nat} {br : List Bool} {m : MS} (F : Fun K x qual st f fd) (S : FnScope N ps (defScope st)) (hbr : br.length = ps.length)
    (hbody : ∀ (cdv : Value) (A : Around) (outer : List Env) (s : Shared) (H : Hp) (E : XK), RoomG k (A.deeper (PyProof.Rows.envOfC qual (defScope st) s.heap.objs.size f cdv)) → PSs (cxOf CX0 P w K mg base N qual (defScope st) f cdv A outer s H E).nox (defBody st) (denS K m)) :
    FnG P w K mg base CX0 (k + 1) f fd ps (spOf K br (runF N.length br m)) := by
  refine Dn.Fun.okG F S (fun vs H Q E h => ?_) (fun cdv A outer s H vs Q E hr h => ⟨_, (hbody cdv A outer s H E hr).nox, ?_⟩)
  · obtain ⟨_, _, _, _, _, h, _⟩ := h
    rw [h, hbr]
  · obtain ⟨H0, F0, os, x, os', hl, hlo, rel, hm, q⟩ := h
    unfold runF at hm
    rw [if_pos hlo] at hm
    have hs : Sta K ⟨H0, F0, vs⟩ F0 H (L2.start N vs) (env0 br os ++ List.replicate (N.length - br.length) .no) [] := by
      refine ⟨?_, ?_⟩
      · exact ok_env0 hl hlo
      · unfold L2.start
        rw [slots_env0 hl hlo, slots_rep, List.append_nil, List.append_nil]
        exact rel
    split at hm
    · rename_i y e h1
      split at hm
      · rename_i os2 h2
        obtain ⟨rfl, rfl⟩ := so hm
        exact ⟨_, F0, _, [], _, hs, h1, fun F1 H1 σ1 v s1 => q F1 H1 v (ret_run (B := ⟨H0, F0, vs⟩) s1 h2 hl)⟩
      · cases hm
    · rename_i e h1
      split at hm
      · rename_i os2 h2
        obtain ⟨rfl, rfl⟩ := so hm
        exact ⟨_, F0, _, [], _, hs, h1, fun F1 H1 σ1 s1 => q F1 H1 .non (ret_run (B := ⟨H0, F0, vs⟩) (s1.push .non) h2 hl)⟩
      · cases hm
    · cases hm
end
end Dn
namespace Dn
open PySem L2
abbrev Sem1 := List O → Option (O × List O)
section
variable {X : Cx} {K : PySem.W.Frag} {p : Bool} {ms : MD (List O)} {sem : Sem1}
def mCallM (sem : Sem1) (ms : MD (List O)) : MD O := fun e => match ms e with
  | some (xs, e1) => (match sem xs with
    | some (x, []) => some (x, e1)
    | _ => none)
  | none => none
theorem brV_no {α : Type} : ∀ (n : Nat) (vs : List α), brV (List.replicate n false) vs = []
  | 0, _ => by cases ‹List α› <;> rfl
  | n + 1, [] => rfl
  | n + 1, _ :: vs => brV_no n vs
theorem zip_ws (ws : Ws) : (ws.map (·.1)).zip (ws.map (·.2)) = ws := (zip_self ws).symm
theorem call_run {B : Bs} {F H : Hp} {σ : St} {e : En} {G ws : Ws} {x : O} {Q : VK} {n : Nat} (s : Sta K B F H σ e (ws ++ G)) (hn : ws.length = n) (hm : sem (ws.map (·.2)) = some (x, []))
    (k : ∀ F' H' v, Sta K B F' H' σ e ((v, x) :: G) → ((∀ w ∈ ws, w.2.fz = true) → Same H H') → Q v H') (E : XK) : spOf K (List.replicate n false) sem (ws.map (·.1)) H Q E := by
  obtain ⟨H1, r1, r2, r3⟩ := (s.rel.perm (pmid _ _ _)).hand
  refine ⟨H1, F, ws.map (·.2), x, [], by rw [List.length_map, List.length_replicate, hn], by rw [List.length_map, List.length_replicate, hn], by rw [zip_ws]; exact r1, hm, fun F' H' v r => ?_⟩
  rw [brV_no] at r
  have q := r2 F' H' [(v, x)] r
  refine k F' H' v ⟨s.ok, q.perm (show ((v, x) :: (slots σ e ++ G)).Perm (slots σ e ++ (v, x) :: G) from (mid _ _ _).symm)⟩ fun hz => ?_
  have := r.h0
  rw [r3 hz] at this
  exact this
theorem mCallM_den {n : Nat} {E : XK} {t : TA} (hn : ∀ e xs e1, ms e = some (xs, e1) → xs.length = n) (hl : AS K p ms t) : ∀ σ H Q, den K false (mCallM sem ms) σ H Q → tCall (spOf K (List.replicate n false) sem) [] E t σ H Q := fun σ H Q ⟨B, F, e, G, y, e', s, hm, k⟩ => by
  unfold mCallM at hm
  split at hm
  · rename_i xs e1 h1
    split at hm
    · rename_i x h2
      obtain ⟨rfl, rfl⟩ := so hm
      refine hl σ H _ ⟨B, F, e, G, xs, e1, s, h1, fun F1 H1 ws s1 r1 sm1 => ?_⟩
      subst r1
      rw [List.append_nil]
      exact call_run s1 (by have := hn _ _ _ h1; rw [List.length_map] at this; exact this) h2 (fun F2 H2 v s2 sm2 => k F2 H2 v s2 fun z => nomatch z) E
    · cases hm
  · cases hm
variable {k : Nat} {f : Addr} {fd : FuncData} {ps : List Str} {x : Str} {p1 pos : Pos} {e : Expr} {es : List Expr} {n : Nat}
theorem d_callM (F : FnG X.prog X.w X.K X.mg X.base CX0 k f fd ps (spOf X.K (List.replicate n false) sem)) (hr : RoomG k X.A) (hg : Gl X x) (hm : X.mg x = some (.ref f)) (hk : PySem.W.keepIn X.K (.ref f) = true) (hb : Binds X.K fd ps [])
    (hn : ∀ e xs e1, ms e = some (xs, e1) → xs.length = n) (ha : PA X (e :: es) (denA X.K p ms)) (hdb : (x == ("__debug__" : Str)) = false := by decide) (he : starEach (e :: es) X.env = (false, eval e X.env) :: starEach es X.env := by rfl) (hpl : (backTo pos (starEach es X.env)).any (·.1) = false := by rfl) :
    PE X (.Call (.Name x p1) (e :: es) [] pos) (den X.K false (mCallM sem ms)) := pe_imp (pe_callG F hr hg hm hk hb .nil pass0 ha hdb he hpl) (mCallM_den hn fun _ _ _ h => h)
theorem n_nil : ∀ e xs e1, lNil e = some (xs, e1) → xs.length = 0 := fun e xs e1 h => by cases h; rfl
theorem n_cons {m : MD O} {ms : MD (List O)} {n : Nat} (h : ∀ e xs e1, ms e = some (xs, e1) → xs.length = n) : ∀ e xs e1, lCons m ms e = some (xs, e1) → xs.length = n + 1 := fun e xs e1 hm => by
  unfold lCons at hm
  split at hm
  · split at hm
    · rename_i h2
      obtain ⟨rfl, rfl⟩ := so hm
      rw [List.length_cons, h _ _ _ h2]
    · cases hm
  · cases hm
theorem n_mv {i : Nat} {ms : MD (List O)} {n : Nat} (h : ∀ e xs e1, ms e = some (xs, e1) → xs.length = n) : ∀ e xs e1, aMv i ms e = some (xs, e1) → xs.length = n + 1 := fun e xs e1 hm => by
  unfold aMv at hm
  split at hm
  · split at hm
    · rename_i h2
      split at hm
      · obtain ⟨rfl, rfl⟩ := so hm
        rw [List.length_cons, h _ _ _ h2]
      · cases hm
    · cases hm
  · cases hm
def aRf (i : Nat) (ms : MD (List O)) : MD (List O) := fun e => match bVar i e with
  | some _ => (match ms e with
    | some (xs, e1) => (match bVar i e1 with
      | some x => some (x :: xs, e1.set i .no)
      | none => none)
    | none => none)
  | none => none
def valAt (σ : St) (i : Nat) : Option V := (σ[i]?).join
def denR (K : PySem.W.Frag) (a : Bool) (br : List Bool) (rs : List Nat) (m : MD (List O)) : TA := fun σ H Q => ∃ B F e G xs e', Sta K B F H σ e G ∧ m e = some (xs, e') ∧ ∀ F' H' ws, Sta K B F' H' σ e' (ws ++ G) → ws.map (·.2) = xs → ws.length = br.length → (brV br (ws.map (·.1))).map some = rs.map (valAt σ) → (a = true → Same H H') → Q (ws.map (·.1)) H'
def RS (K : PySem.W.Frag) (p : Bool) (br : List Bool) (rs : List Nat) (m : MD (List O)) (t : TA) : Prop := ∀ σ H Q, denR K p br rs m σ H Q → t σ H Q
theorem rs_nil : RS K true [] [] aNil tNil := fun σ H Q ⟨B, F, e, G, y, e', s, hm, k⟩ => by
  cases hm
  exact k F H [] s rfl rfl rfl fun _ => .refl _
theorem rs_cons {p q : Bool} {br : List Bool} {rs : List Nat} {m : MD O} {ms : MD (List O)} {t : TA} (h : RS K q br rs ms t) : RS K (p && q) (false :: br) rs (aCons m ms) (tCons (den K p m) t) := fun σ H Q ⟨B, F, e, G, y, e', s, hm, k⟩ => by
  unfold aCons lCons at hm
  split at hm
  · rename_i x e1 h1
    split at hm
    · rename_i xs e2 h2
      obtain ⟨rfl, rfl⟩ := so hm
      refine ⟨B, F, e, G, x, e1, s, h1, fun F1 H1 v s1 sm1 => h σ H1 _ ⟨B, F1, e1, (v, x) :: G, xs, e2, s1, h2, fun F2 H2 ws s2 r2 l2 b2 sm2 => ?_⟩⟩
      refine k F2 H2 ((v, x) :: ws) (s2.perm (mid _ _ _)) (by rw [List.map_cons, r2]) (by rw [List.length_cons, List.length_cons, l2]) b2 fun z => (sm1 (band1 z)).trans (sm2 (band2 z))
    · cases hm
  · cases hm
theorem rs_ref {q : Bool} {i : Nat} {br : List Bool} {rs : List Nat} {ms : MD (List O)} {t : TA} (h : RS K q br rs ms t) : RS K q (true :: br) (i :: rs) (aRf i ms) (tCons (tVar i) t) := fun σ H Q ⟨B, F, e, G, y, e', s, hm, k⟩ => by
  unfold aRf at hm
  split at hm
  · rename_i x0 h0
    split at hm
    · rename_i xs e1 h1
      split at hm
      · rename_i x h2
        obtain ⟨rfl, rfl⟩ := so hm
        obtain ⟨sl0, hi0, ho0⟩ := Option.bind_eq_some_iff.mp h0
        obtain ⟨v, hv, _⟩ := s.seeO hi0 ho0
        refine ⟨v, hv, h σ H _ ⟨B, F, e, G, xs, e1, s, h1, fun F1 H1 ws s1 r1 l1 b1 sm1 => ?_⟩⟩
        obtain ⟨sl, hi, ho⟩ := Option.bind_eq_some_iff.mp h2
        obtain ⟨v', hv', s2⟩ := s1.out hi ho
        obtain rfl : v' = v := by rw [hv] at hv'; cases hv'; rfl
        refine k F1 H1 ((v', x) :: ws) s2 (by rw [List.map_cons, r1]) (by rw [List.length_cons, List.length_cons, l1]) ?_ sm1
        simp only [List.map_cons, brV, b1, List.cons.injEq, and_true]
        unfold valAt
        rw [hv]
        rfl
      · cases hm
    · cases hm
  · cases hm
def putBk (e0 : En) : En → List Nat → List O → Option En
  | e, [], [] => some e
  | e, i :: rs, o :: os => (match e0[i]?, e[i]? with
    | some (.own _), some .no => putBk e0 (e.set i (.own o)) rs os
    | some (.pin _), some .no => putBk e0 (e.set i (.pin o)) rs os
    | _, _ => none)
  | _, _, _ => none
def mCallR (sem : Sem1) (ms : MD (List O)) (rs : List Nat) : MD O := fun e => match ms e with
  | some (xs, e1) => (match sem xs with
    | some (x, os) => (match putBk e e1 rs os with
      | some e2 => some (x, e2)
      | none => none)
    | none => none)
  | none => none
theorem putBk_run {B : Bs} {F H : Hp} {σ : St} {e0 : En} (ok0 : SlOk B.vs σ e0) : ∀ {rs : List Nat} {os : List O} {e e2 : En} {vs : List V} {G : Ws}, putBk e0 e rs os = some e2 → vs.map some = rs.map (valAt σ) → Sta K B F H σ e (vs.zip os ++ G) → Sta K B F H σ e2 G
  | [], [], e, e2, vs, G, h, hv, s => by
    unfold putBk at h
    cases h
    cases vs with
    | nil => exact s
    | cons _ _ => simp at hv
  | i :: rs, o :: os, e, e2, v :: vs, G, h, hv, s => by
    simp only [List.map_cons, List.cons.injEq] at hv
    have hσ : σ[i]? = some (some v) := by
      have := hv.1
      unfold valAt at this
      cases h' : σ[i]? with
      | none => rw [h'] at this; cases this
      | some y => rw [h'] at this; cases y <;> cases this; rfl
    unfold putBk at h
    split at h
    · rename_i o0 h0 h1
      have hl := (List.getElem?_eq_some_iff.mp h1).1
      have e1 : e.set i .no = e := set_self h1
      have s1 : Sta K B F H σ (e.set i (.own o)) (vs.zip os ++ G) := Sta.back (e := e) (by rw [e1]; exact s) hσ hl (show (Sl.own o).o? = some o from rfl) (by
        have := s.ok.set (i := i) (v := v) (o := o)
        have e2 : σ.set i (some v) = σ := by
          apply List.ext_getElem?
          intro j
          by_cases hj : i = j
          · subst hj; rw [List.getElem?_set_self (List.getElem?_eq_some_iff.mp hσ).1, hσ]
          · rw [List.getElem?_set_ne hj]
        rw [e2] at this
        exact this)
      exact putBk_run ok0 h hv.2 s1
    · rename_i o0 h0 h1
      have hl := (List.getElem?_eq_some_iff.mp h1).1
      have e1 : e.set i .no = e := set_self h1
      have s1 : Sta K B F H σ (e.set i (.pin o)) (vs.zip os ++ G) := Sta.back (e := e) (by rw [e1]; exact s) hσ hl (show (Sl.pin o).o? = some o from rfl) (by
        refine ⟨by rw [List.length_set]; exact s.ok.len, fun j sl hj => ?_⟩
        by_cases hij : i = j
        · subst hij
          rw [List.getElem?_set_self hl] at hj
          cases hj
          obtain ⟨y, hy, q⟩ := ok0.sl i _ h0
          exact ⟨y, hy, q⟩
        · rw [List.getElem?_set_ne hij] at hj
          exact s.ok.sl j sl hj)
      exact putBk_run ok0 h hv.2 s1
    · cases h
  | i :: rs, o :: os, e, e2, [], G, h, hv, s => by simp at hv
  | [], _ :: _, _, _, _, _, h, _, _ => by unfold putBk at h; cases h
  | _ :: _, [], _, _, _, _, h, _, _ => by unfold putBk at h; cases h
theorem mCallR_den {br : List Bool} {rs : List Nat} {E : XK} {t : TA} (hl : RS K p br rs ms t) : ∀ σ H Q, den K false (mCallR sem ms rs) σ H Q → tCall (spOf K br sem) [] E t σ H Q := fun σ H Q ⟨B, F, e, G, y, e', s, hm, k⟩ => by
  unfold mCallR at hm
  split at hm
  · rename_i xs e1 h1
    split at hm
    · rename_i x os h2
      split at hm
      · rename_i e2 h3
        obtain ⟨rfl, rfl⟩ := so hm
        refine hl σ H _ ⟨B, F, e, G, xs, e1, s, h1, fun F1 H1 ws s1 r1 l1 b1 sm1 => ?_⟩
        subst r1
        rw [List.append_nil]
        obtain ⟨H2, q1, q2, _⟩ := (s1.rel.perm (pmid _ _ _)).hand
        refine ⟨H2, F1, ws.map (·.2), x, os, by rw [List.length_map, l1], by rw [List.length_map, l1], by rw [zip_ws]; exact q1, h2, fun F' H' v r => ?_⟩
        have q := q2 F' H' _ r
        have s2 : Sta K B F' H' σ e1 ((brV br (ws.map (·.1))).zip os ++ ((v, x) :: G)) := ⟨s1.ok, q.perm (by
          rw [List.cons_append]
          refine List.Perm.trans ?_ (pmid _ _ _).symm
          refine List.Perm.trans ?_ (List.Perm.append_left _ (mid _ _ _).symm)
          exact (mid _ _ _).symm)⟩
        exact k F' H' v (putBk_run s.ok h3 b1 s2) fun z => nomatch z
      · cases hm
    · cases hm
  · cases hm
theorem dr_nil : PA X [] (denR X.K true [] [] aNil) := pa_imp pa_nil rs_nil
theorem dr_cons {p q : Bool} {br : List Bool} {rs : List Nat} {m : MD O} {ms : MD (List O)} (ha : PE X e (den X.K p m)) (hr : PA X es (denR X.K q br rs ms)) (hs : starEach (e :: es) X.env = (false, eval e X.env) :: starEach es X.env := by rfl) :
    PA X (e :: es) (denR X.K (p && q) (false :: br) rs (aCons m ms)) := pa_imp (pa_cons ha hr hs) (rs_cons fun _ _ _ h => h)
theorem dr_ref {q : Bool} {i : Nat} {br : List Bool} {rs : List Nat} {ms : MD (List O)} (ha : PE X e (tVar i)) (hr : PA X es (denR X.K q br rs ms)) (hs : starEach (e :: es) X.env = (false, eval e X.env) :: starEach es X.env := by rfl) :
    PA X (e :: es) (denR X.K q (true :: br) (i :: rs) (aRf i ms)) := pa_imp (pa_cons ha hr hs) (rs_ref fun _ _ _ h => h)
theorem d_callR {br : List Bool} {rs : List Nat} (F : FnG X.prog X.w X.K X.mg X.base CX0 k f fd ps (spOf X.K br sem)) (hr : RoomG k X.A) (hg : Gl X x) (hm : X.mg x = some (.ref f)) (hk : PySem.W.keepIn X.K (.ref f) = true) (hb : Binds X.K fd ps [])
    (ha : PA X (e :: es) (denR X.K p br rs ms)) (hdb : (x == ("__debug__" : Str)) = false := by decide) (he : starEach (e :: es) X.env = (false, eval e X.env) :: starEach es X.env := by rfl) (hpl : (backTo pos (starEach es X.env)).any (·.1) = false := by rfl) :
    PE X (.Call (.Name x p1) (e :: es) [] pos) (den X.K false (mCallR sem ms rs)) := pe_imp (pe_callG F hr hg hm hk hb .nil pass0 ha hdb he hpl) (mCallR_den fun _ _ _ h => h)
def tyN : PyData → Option String
  | .none => some "NoneType"
  | .bool _ => some "bool"
  | .int _ => some "int"
  | .str _ => some "str"
  | .list _ => some "list"
  | .tuple _ => some "tuple"
  | .dict _ => none
def isiB (d : PyData) (T : String) : Bool := match d with
  | .none => false
  | .bool _ => T == "bool" || T == "int"
  | .int _ => T == "int"
  | .str _ => T == "str"
  | .list _ => T == "list"
  | .tuple _ => T == "tuple"
  | .dict _ => false
def fIsi (T : String) : List PyData → Option PyData
  | [d] => (match tyN d with
    | some _ => some (.bool (isiB d T))
    | none => none)
  | _ => none
def IsiT (T : String) : Prop := kitB "NoneType" T = some false ∧ kitB "bool" T = some (T == "bool" || T == "int") ∧ kitB "int" T = some (T == "int") ∧ kitB "str" T = some (T == "str") ∧ kitB "list" T = some (T == "list") ∧ kitB "tuple" T = some (T == "tuple")
def rIsiT (K : PySem.W.Frag) (T : String) : List V → Hp → VK → Prop := fun vs H Q => match vs with
  | [x] => rIsi K [x, .ty T] H Q
  | _ => False
theorem sc_isi {T : String} (hT : IsiT T) : Sc K (fIsi T) (rIsiT K T) := fun H vs ds z a hf => by
  unfold fIsi at hf
  split at hf
  · split at hf
    · cases hf
      obtain ⟨v, rfl, b⟩ := dfa1 a
      obtain ⟨h1, h2, h3, h4, h5, h6⟩ := hT
      refine ⟨_, rfl, fun Q q => ?_⟩
      cases b with
      | non => exact ⟨_, _, _, _, _, rfl, .ty T, .base .non, kit_ty h1, q⟩
      | bl b => exact ⟨_, _, _, _, _, rfl, .ty T, .base (.bl b), kit_ty h2, q⟩
      | int i => exact ⟨_, _, _, _, _, rfl, .ty T, .base (.int i), kit_ty h3, q⟩
      | str x => exact ⟨_, _, _, _, _, rfl, .ty T, .base (.str x), kit_ty h4, q⟩
      | lst hp _ => exact ⟨_, _, _, _, _, rfl, .ty T, .base (.lst hp), kit_ty h5, q⟩
      | tup hp _ => exact ⟨_, _, _, _, _, rfl, .ty T, .base (.tup hp), kit_ty h6, q⟩
    · cases hf
  · cases hf
theorem isi_list : IsiT "list" := by unfold IsiT; decide +kernel
theorem isi_tuple : IsiT "tuple" := by unfold IsiT; decide +kernel
theorem d_isi {T : String} {y : Str} {a : Expr} {ta : TE} {pn : Pos} (hT : IsiT T) (hg : Gl X "isinstance") (hm : X.mg "isinstance" = none) (hy : PE X (.Name y pn) (tC (.ty T))) (ha : PE X a ta) (hl : LS X.K p ms (tCons ta tNil))
    (hs : starEach [a, .Name y pn] X.env = (false, eval a X.env) :: starEach [.Name y pn] X.env := by rfl) (hs2 : starEach [.Name y pn] X.env = (false, eval (.Name y pn) X.env) :: starEach [] X.env := by rfl) (hpl : (backTo pos (starEach [.Name y pn] X.env)).any (·.1) = false := by rfl) :
    PE X (.Call (.Name "isinstance" p1) [a, .Name y pn] [] pos) (den X.K p (mL (fIsi T) ms)) :=
  pe_imp (pe_callB call_isi hg hm (by decide +kernel) (pa_cons ha (pa_cons hy pa_nil hs2) hs) (by decide) (by decide) hs hpl) (mL_den (r := rIsiT X.K T) (t := tCons ta tNil) (sc_isi hT) hl)
end
end Dn
namespace Dn
open PySem L2
structure Cal (P : Program) (w : World) (K : PySem.W.Frag) (mg : Str → Option Value) (base : Heap) (k : Nat) (x : Str) (ps : List Str) (sp : Sp) : Prop where
  ex : ∃ f fd, FnG P w K mg base CX0 k f fd ps sp ∧ mg x = some (.ref f) ∧ PySem.W.keepIn K (.ref f) = true ∧ Binds K fd ps []
theorem Cal.mk' {P : Program} {w : World} {K : PySem.W.Frag} {mg : Str → Option Value} {base : Heap} {k : Nat} {x : Str} {ps : List Str} {sp : Sp} {f : Addr} {fd : FuncData} (G : FnG P w K mg base CX0 k f fd ps sp) (m : mg x = some (.ref f)) (kp : PySem.W.keepIn K (.ref f) = true) (b : Binds K fd ps []) : Cal P w K mg base k x ps sp := ⟨f, fd, G, m, kp, b⟩
theorem hu65 {A : Around} {k : Nat} (hr : RoomG k A) : A.units + 65 < cLine := by have := hr.un; omega
section
variable {X : Cx} {p : Bool} {ms : MD (List O)} {sem : Sem1} {k : Nat} {ps : List Str} {x : Str} {p1 pos : Pos} {e : Expr} {es : List Expr} {n : Nat}
theorem c_callM (C : Cal X.prog X.w X.K X.mg X.base k x ps (spOf X.K (List.replicate n false) sem)) (hr : RoomG k X.A) (hg : Gl X x)
    (hn : ∀ e xs e1, ms e = some (xs, e1) → xs.length = n) (ha : PA X (e :: es) (denA X.K p ms)) (hdb : (x == ("__debug__" : Str)) = false := by decide) (he : starEach (e :: es) X.env = (false, eval e X.env) :: starEach es X.env := by rfl) (hpl : (backTo pos (starEach es X.env)).any (·.1) = false := by rfl) :
    PE X (.Call (.Name x p1) (e :: es) [] pos) (den X.K false (mCallM sem ms)) := by
  obtain ⟨f, fd, F, hm, hk, hb⟩ := C.ex
  exact d_callM F hr hg hm hk hb hn ha hdb he hpl
theorem c_callR {br : List Bool} {rs : List Nat} (C : Cal X.prog X.w X.K X.mg X.base k x ps (spOf X.K br sem)) (hr : RoomG k X.A) (hg : Gl X x)
    (ha : PA X (e :: es) (denR X.K p br rs ms)) (hdb : (x == ("__debug__" : Str)) = false := by decide) (he : starEach (e :: es) X.env = (false, eval e X.env) :: starEach es X.env := by rfl) (hpl : (backTo pos (starEach es X.env)).any (·.1) = false := by rfl) :
    PE X (.Call (.Name x p1) (e :: es) [] pos) (den X.K false (mCallR sem ms rs)) := by
  obtain ⟨f, fd, F, hm, hk, hb⟩ := C.ex
  exact d_callR F hr hg hm hk hb ha hdb he hpl
theorem d_glob {d : PyData} {v : V} {u : Value} (hg : Gl X x) (hm : X.mg x = some u) (r : RelV v u) (hd : sV d = some v) (hdb : (x == ("__debug__" : Str)) = false := by decide) : PE X (.Name x pos) (den X.K true (mC d)) := pe_imp (pe_glob hg hm r hdb) fun σ H Q ⟨B, F, e, G, y, e', s, hm, k⟩ => by
  cases hm
  exact k F H v (s.push (sV_df hd)) fun _ => .refl _
theorem d_ty {T : String} (hg : Gl X x) (hm : X.mg x = none) (hv : bootBuiltins x = some (.type T)) (hn : x ≠ "__name__" := by decide) (hdb : (x == ("__debug__" : Str)) = false := by decide) : PE X (.Name x pos) (tC (.ty T)) := pe_bltn hg hm hv rfl hn hdb
end
theorem bb_len : bootBuiltins "len" = some (.builtin "len") := by decide +kernel
theorem bb_max : bootBuiltins "max" = some (.builtin "max") := by decide +kernel
theorem bb_min : bootBuiltins "min" = some (.builtin "min") := by decide +kernel
theorem bb_sum : bootBuiltins "sum" = some (.builtin "sum") := by decide +kernel
theorem bb_all : bootBuiltins "all" = some (.builtin "all") := by decide +kernel
theorem bb_sorted : bootBuiltins "sorted" = some (.builtin "sorted") := by decide +kernel
theorem bb_int : bootBuiltins "int" = some (.type "int") := by decide +kernel
theorem bb_str : bootBuiltins "str" = some (.type "str") := by decide +kernel
theorem bb_list : bootBuiltins "list" = some (.type "list") := by decide +kernel
theorem bb_tuple : bootBuiltins "tuple" = some (.type "tuple") := by decide +kernel
section
variable {K : PySem.W.Frag} {X : Cx}
def idxD (d : PyData) : List PyData → Nat → Option Nat
  | [], _ => none
  | z :: zs, n => if PyData.eqv z d then some n else idxD d zs (n + 1)
def fIndex : List PyData → Option PyData
  | [.list ds, d] => if SeqAt.shaped (.list ds) && SeqAt.shaped d then (match idxD d ds 0 with
    | some j => some (.int (j : Nat))
    | none => none) else none
  | _ => none
theorem idxD_some {d : PyData} : ∀ {ds : List PyData} {n j : Nat}, idxD d ds n = some j → ∃ i z, j = n + i ∧ ds[i]? = some z ∧ PyData.eqv z d = true ∧ ∀ (m : Nat) (z' : PyData), m < i → ds[m]? = some z' → PyData.eqv z' d = false
  | [], _, _, h => by cases h
  | z :: zs, n, j, h => by
    unfold idxD at h
    split at h
    · rename_i hz
      cases h
      exact ⟨0, z, rfl, rfl, hz, fun m z' hm => absurd hm (Nat.not_lt_zero _)⟩
    · rename_i hz
      obtain ⟨i, z1, e1, e2, e3, e4⟩ := idxD_some h
      refine ⟨i + 1, z1, by omega, by simpa using e2, e3, fun m z' hm hz' => ?_⟩
      cases m with
      | zero =>
        simp at hz'
        subst hz'
        simpa using hz
      | succ m => exact e4 m z' (by omega) (by simpa using hz')
def rM (r : V → List V → Hp → VK → Prop) : List V → Hp → VK → Prop := fun vs H Q => match vs with
  | x :: xs => r x xs H Q
  | [] => False
theorem sc_index : Sc K fIndex (rM (rIndexD K)) := fun H vs ds z a hf => by
  unfold fIndex at hf
  split at hf
  · split at hf
    · rename_i hs
      simp only [Bool.and_eq_true] at hs
      split at hf
      · rename_i j hj
        cases hf
        obtain ⟨v, u, rfl, b, c⟩ := dfa2 a
        obtain ⟨i, z, e1, e2, e3, e4⟩ := idxD_some hj
        obtain ⟨p, ws, rfl, hp, ha⟩ := df_list b
        rw [Nat.zero_add] at e1
        subst e1
        exact ⟨_, rfl, fun Q q => ⟨p, u, _, _, j, z, rfl, rfl, b.dp (.refl H), c.dp (.refl H), hs.1, hs.2, e2, e3, e4, q⟩⟩
      · cases hf
    · cases hf
  · cases hf
def mLM (i : Nat) (f : List PyData → Option PyData) (ms : MD (List O)) : MD O := fun e => match bVar i e with
  | some (.l _) => mL f (lSee i ms) e
  | some (.v (.list _)) => mL f (lSee i ms) e
  | _ => none
theorem d_lm {i : Nat} {p : Bool} {x ex : Expr} {es : List Expr} {ms : MD (List O)} {f : List PyData → Option PyData} {r : V → List V → Hp → VK → Prop} {name : Str} {id : String} {apos cpos : Pos} (slot : Slot "list" name id) (hty : typeOf (.builtin id) = pure (.type "method_descriptor")) (hm : MtR X id r) (hr : Sc X.K f (rM r))
    (ho : PE X x (tVar i)) (ha : PA X (ex :: es) (denL X.K p ms)) (hbase : attributeBase x name X.env (eval x X.env) = eval x X.env := by rfl)
    (hfew : ((backTo cpos (starEach (ex :: es) X.env)).all (fun x => !x.1) && (backToKw cpos (keywordEach [] X.env)).all (fun x => x.1.isSome)
      && decide ((ex :: es).length + ([] : List Keyword).length + (if ([] : List Keyword).isEmpty then 0 else 1) < 30)) = true := by rfl)
    (hline : (apos.endLine == cpos.line) = true := by rfl) (hs : starEach (ex :: es) X.env = (false, eval ex X.env) :: starEach es X.env := by rfl) (hplain : (backTo cpos (starEach es X.env)).any (·.1) = false := by rfl) :
    PE X (.Call (.Attribute x name apos) (ex :: es) [] cpos) (den X.K p (mLM i f ms)) :=
  pe_imp (pe_bm PySem.F.plainAttrs_list slot hty hm ho ha hbase hfew hline hs hplain) fun σ H Q ⟨B, F, e, G, y, e', s, hmm, k⟩ => by
    have gen : ∀ {o : O}, bVar i e = some o → mL f (lSee i ms) e = some (y, e') → (∀ v, (∃ T, Rp X.K F H v o T) → tyV X.K "list" v H) → tBM X.K "list" r (tVar i) (denL X.K p ms) σ H Q := fun {o} h0 hm2 ty => by
      have q := mL_den (K := X.K) (p := p) (r := rM r) (t := tCons (tVar i) (denL X.K p ms)) hr (ls_see fun _ _ _ h => h) σ H Q ⟨B, F, e, G, y, e', s, hm2, k⟩
      obtain ⟨v, hv, q⟩ := q
      obtain ⟨sl0, hi0, ho0⟩ := Option.bind_eq_some_iff.mp h0
      obtain ⟨v', hv', T, rv⟩ := s.seeO hi0 ho0
      obtain rfl : v' = v := by rw [hv] at hv'; cases hv'; rfl
      exact ⟨v', hv, ty v' ⟨T, rv⟩, q⟩
    unfold mLM at hmm
    split at hmm
    · rename_i xs h0
      refine gen h0 hmm fun v ⟨T, rv⟩ => ?_
      cases rv with
      | l hp _ _ _ => exact .inl ⟨rfl, _, .of hp⟩
    · rename_i ds h0
      refine gen h0 hmm fun v ⟨T, rv⟩ => ?_
      obtain ⟨p, ws, rfl, hp, _⟩ := df_list (rp_v rv)
      exact .inl ⟨rfl, _, .of (s.fh _ _ hp)⟩
    · cases hmm
end
end Dn
namespace Dn
open PySem L2
section
variable {K : PySem.W.Frag} {X : Cx} {B : Bs} {F H : Hp} {σ : St} {e : En} {G : Ws}
theorem set_join {σ : St} {v : Nat} : σ.set v (σ[v]?).join = σ := by
  apply List.ext_getElem?
  intro j
  by_cases h : v = j
  · subst h
    by_cases hv : v < σ.length
    · rw [List.getElem?_set_self hv, List.getElem?_eq_getElem hv]; rfl
    · rw [List.getElem?_eq_none (by rw [List.length_set]; omega), List.getElem?_eq_none (by omega)]
  · rw [List.getElem?_set_ne h]
theorem Sta.forget1 {v : Nat} (s : Sta K B F H σ e G) : Sta K B F H σ (e.set v .no) G := by
  have q := s.wipe1 (v := v) (x := (σ[v]?).join)
  rw [set_join] at q
  exact q
theorem Sta.forget : ∀ {vs : List Nat}, Sta K B F H σ e G → Sta K B F H σ (Dn.hide e vs) G
  | [], s => s
  | v :: vs, s => by
    unfold Dn.hide
    exact (Sta.forget (vs := vs) s).forget1
def mKill (vs : List Nat) : MS := fun e => some (.nx (hide e vs))
theorem dss_kill {vs : List Nat} {st : List Stmt} {m : MS} (h : PSs X st (denS X.K m)) : PSs X st (denS X.K (mSeq (mKill vs) m)) := pss_imp h fun D σ H ⟨B, F, e, G, oc, s, hm, k⟩ =>
  ⟨B, F, hide e vs, G, oc, s.forget, hm, k⟩
def frzS : Sl → Sl
  | .own o => (match o.toD with
    | some d => .own (.v d)
    | none => .own o)
  | s => s
def frz (e : En) : List Nat → En
  | [] => e
  | v :: vs => frz (match e[v]? with
    | some s => e.set v (frzS s)
    | none => e) vs
theorem Sta.frz1 {v : Nat} {sl : Sl} (s : Sta K B F H σ e G) (hi : e[v]? = some sl) : ∃ F', Sta K B F' H σ (e.set v (frzS sl)) G := by
  cases sl with
  | no => exact ⟨F, by rw [show frzS .no = .no from rfl, set_self hi]; exact s⟩
  | pin o => exact ⟨F, by rw [show frzS (.pin o) = .pin o from rfl, set_self hi]; exact s⟩
  | own o =>
    cases h : o.toD with
    | none =>
      have : frzS (.own o) = .own o := by show (match o.toD with | some d => Sl.own (O.v d) | none => Sl.own o) = _; rw [h]
      exact ⟨F, by rw [this, set_self hi]; exact s⟩
    | some d =>
      have : frzS (.own o) = .own (.v d) := by show (match o.toD with | some d => Sl.own (O.v d) | none => Sl.own o) = _; rw [h]
      rw [this]
      obtain ⟨x, hv, s1⟩ := s.out hi (show (Sl.own o).o? = some o from rfl)
      obtain ⟨F', s2⟩ := s1.freeze h
      have hl : v < e.length := (List.getElem?_eq_some_iff.mp hi).1
      exact ⟨F', Sta.back (e := e) s2 hv hl (show (Sl.own (.v d)).o? = some (.v d) from rfl) (s.ok.own hi)⟩
theorem Sta.frz : ∀ {vs : List Nat} {F : Hp} {e : En}, Sta K B F H σ e G → ∃ F', Sta K B F' H σ (Dn.frz e vs) G
  | [], F, e, s => ⟨F, s⟩
  | v :: vs, F, e, s => by
    unfold Dn.frz
    cases hi : e[v]? with
    | none => exact Sta.frz (vs := vs) s
    | some sl =>
      obtain ⟨F', s'⟩ := s.frz1 hi
      exact Sta.frz (vs := vs) s'
def mFrz (vs : List Nat) : MS := fun e => some (.nx (frz e vs))
theorem dss_frz {vs : List Nat} {st : List Stmt} {m : MS} (h : PSs X st (denS X.K m)) : PSs X st (denS X.K (mSeq (mFrz vs) m)) := pss_imp h fun D σ H ⟨B, F, e, G, oc, s, hm, k⟩ => by
  obtain ⟨F', s'⟩ := s.frz (vs := vs)
  exact ⟨B, F', _, G, oc, s', hm, k⟩
def mFrzE {α : Type} (vs : List Nat) (m : MD α) : MD α := fun e => m (frz e vs)
theorem di_frz {tg iter : Expr} {vs : List Nat} {p : Bool} {m : MD (List O)} (h : PI X tg iter (denI X.K p m)) : PI X tg iter (denI X.K p (mFrzE vs m)) := pi_imp h fun σ H R ⟨B, F, e, G, y, e', s, hm, k⟩ => by
  obtain ⟨F', s'⟩ := s.frz (vs := vs)
  exact ⟨B, F', _, G, y, e', s', hm, k⟩
def mFz (m : MD O) : MD O := fun e => match m e with
  | some (x, e1) => (match x.toD with
    | some d => some (.v d, e1)
    | none => none)
  | none => none
theorem fz_den {p : Bool} {m : MD O} {t : TE} (h : ∀ σ H Q, den K p m σ H Q → t σ H Q) : ∀ σ H Q, den K p (mFz m) σ H Q → t σ H Q := fun σ H Q ⟨B, F, e, G, y, e', s, hm, k⟩ => by
  unfold mFz at hm
  split at hm
  · rename_i z e1 h1
    split at hm
    · rename_i d hd
      obtain ⟨rfl, rfl⟩ := so hm
      refine h σ H Q ⟨B, F, e, G, z, e1, s, h1, fun F1 H1 v s1 sm => ?_⟩
      obtain ⟨F2, s2⟩ := s1.freeze hd
      exact k F2 H1 v s2 sm
    · cases hm
  · cases hm
theorem d_fz {x : Expr} {p : Bool} {m : MD O} (h : PE X x (den X.K p m)) : PE X x (den X.K p (mFz m)) := pe_imp h (fz_den fun _ _ _ h => h)
theorem ds_setLcF {i : Nat} {y : Str} {py : Pos} {elt tgE iter : Expr} {ifs : List Expr} {scope : Scope} {own : List (Str × Nat)} {pos spos : Pos} {tg : Tg} {p q r : Bool} {mi : MD (List O)} {mt : MD Bool} {me : MD O} (hc : X.calm = true) (hN : X.N.Nodup) (hy : X.N[i]? = some y) (hyl : X.env.scope.names.lookup y = some .local)
    (hsw : swapsWith (.ListComp elt [⟨tgE, iter, ifs, 0⟩] scope pos) (some (.Name y py)) spos.line X.env = pure true) (hi : PI X tgE iter (denI X.K p mi)) (ok : BlkOk X.N X.env.scope scope own)
    (hg : ∀ (s : Shared) (H : Hp) (C : Addr) (cl : List (Str × Addr)) (fp : List Addr), PG (X.blk s H scope (compEnvC scope cl C X.env) fp) tgE (tg.rd X.K))
    (ht : ∀ (s : Shared) (H : Hp) (C : Addr) (cl : List (Str × Addr)) (fp : List Addr), PTs (X.blk s H scope (compEnvC scope cl C X.env) fp) ifs (denT X.K q mt))
    (he : ∀ (s : Shared) (H : Hp) (C : Addr) (cl : List (Str × Addr)) (fp : List Addr), PE (X.blk s H scope (compEnvC scope cl C X.env) fp) elt (den X.K r me)) (hs : ∀ x, foldedSetIterable iter X.env x = pure x := by intro _; rfl) :
    PS X (.Assign [.Name y py] (.ListComp elt [⟨tgE, iter, ifs, 0⟩] scope pos) spos) (denS X.K (mSet i (mFz (mLc mi tg mt me (own.map (·.2)))))) := ps_imp (ps_setLc hc hN hy hyl hsw hi ok hg ht he hs) (mSet_den (fz_den lc_den))
def fin (br : List Bool) : Option Oc → Option (O × List O)
  | some (.rt x e) => (match pinsOf br e with
    | some os' => some (x, os')
    | none => none)
  | some (.nx e) => (match pinsOf br e with
    | some os' => some (.v .none, os')
    | none => none)
  | _ => none
end
end Dn
namespace Dn
open PySem L2
section
variable {K : PySem.W.Frag} {X : Cx}
def repO0 : List O → Option O
  | [x, .v (.int k)] => (match x.lparts with
    | some xs => (match O.allV xs with
      | some ds => if -(2 ^ 63) ≤ k ∧ k < 2 ^ 63 ∧ xs.length * k.toNat ≤ sizeLine then some (.l ((List.replicate k.toNat ds).flatten.map .v)) else none
      | none => none)
    | none => none)
  | _ => none
theorem repO_ex : ∃ f : List O → Option O, f = repO0 := ⟨repO0, rfl⟩
noncomputable def repO : List O → Option O := Classical.choose repO_ex
theorem repO_eq : repO = repO0 := Classical.choose_spec repO_ex
theorem Sta.pushAll {B : Bs} {F H : Hp} {σ : St} {e : En} {G : Ws} (s : Sta K B F H σ e G) : ∀ {vs : List V} {ds : List PyData}, DfAll K F vs ds → Sta K B F H σ e (vs.zip (ds.map O.v) ++ G)
  | _, _, .nil => s
  | _, _, .cons h t => (s.pushAll t).push h
theorem Sta.frozenAll {B : Bs} {F H : Hp} {σ : St} {e : En} {G : Ws} : ∀ {w : Ws} {ds : List PyData}, Sta K B F H σ e (w ++ G) → O.allV (w.map (·.2)) = some ds → DfAll K F (w.map (·.1)) ds
  | [], _, s, h => by cases h; exact .nil
  | (v, x) :: w, ds, s, h => by
    rw [List.map_cons] at h
    cases x with
    | v d =>
      unfold O.allV at h
      split at h
      · rename_i ds' h'
        cases h
        obtain ⟨T, r⟩ := s.at
        exact .cons (rp_v r) (Sta.frozenAll (w := w) s.pop h')
      · cases h
    | _ => cases h
theorem dfa_append {F : Hp} : ∀ {v1 v2 : List V} {d1 d2 : List PyData}, DfAll K F v1 d1 → DfAll K F v2 d2 → DfAll K F (v1 ++ v2) (d1 ++ d2)
  | _, _, _, _, .nil, h => h
  | _, _, _, _, .cons a t, h => .cons a (dfa_append t h)
theorem dfa_rep {F : Hp} {vs : List V} {ds : List PyData} (h : DfAll K F vs ds) : ∀ n : Nat, DfAll K F (List.replicate n vs).flatten (List.replicate n ds).flatten
  | 0 => .nil
  | n + 1 => by
    rw [List.replicate_succ, List.replicate_succ, List.flatten_cons, List.flatten_cons]
    exact dfa_append h (dfa_rep h n)
theorem al_rep : Al K repO (r2 rRep) := fun B F H σ e G ws x Q s hx k => by
  rw [repO_eq] at hx
  unfold repO0 at hx
  split at hx
  · rename_i y n hw
    obtain ⟨v, u, rfl⟩ := ws2 hw
    split at hx
    · rename_i xs h1
      split at hx
      · rename_i ds h2
        split at hx
        · rename_i hl
          cases hx
          obtain ⟨_, r⟩ := s.pop.at
          obtain rfl := rp_int r
          obtain ⟨p, w1, F1, rfl, e1, e2, e3, s1⟩ := Sta.openL (G := (V.int n, O.v (.int n)) :: G) s h1
          subst e2
          have hd := s1.frozenAll h2
          have hr := dfa_rep hd n.toNat
          rw [List.length_map] at hl
          refine ⟨p, n, w1.map (·.1), rfl, rfl, s1.fh _ _ e1, hl.1, hl.2.1, by rw [List.length_map]; exact hl.2.2, fun q hq => ?_⟩
          have s2 := (s1.drop.pop.pushAll hr).newL hq
          have hlen := dfa_len hr
          rw [zip_fst (by rw [List.length_map]; exact hlen), zip_snd (by rw [List.length_map]; exact hlen)] at s2
          exact k F1 _ _ s2 (same_upd hq)
        · cases hx
      · cases hx
    · cases hx
  · cases hx
theorem d_rep {a b : Expr} {ta tb : TE} {p : Bool} {ms : MD (List O)} {pos : Pos} (ha : PE X a ta) (hb : PE X b tb) (hl : AS X.K p ms (tCons ta (tCons tb tNil))) : PE X (.BinOp a .Mult b pos) (den X.K p (mA repO ms)) :=
  pe_imp (pe_op op_rep ha hb) (mA_den (r := r2 rRep) al_rep hl)
def rSortD (K : PySem.W.Frag) : List V → Hp → VK → Prop := fun vs H Q => ∃ (a : Addr) (xs : List V) (ds : List PyData), vs = [.ref a] ∧ SqL K H a xs ∧ DpAll K H xs ds ∧ PySem.W.AllAlike ds ∧ PySem.W.Sortable ds ∧ (∀ d ∈ ds, d.depth ≤ 60) ∧
  ∀ l, H l = none → Q (.ref l) (upd H l (.lst (((xs.zip ds).mergeSort (PySem.W.dataLe false (·.2))).map (·.1))))
theorem dpa_len {H : Hp} : ∀ {vs : List V} {ds : List PyData}, DpAll K H vs ds → vs.length = ds.length
  | _, _, .nil => rfl
  | _, _, .cons _ t => by rw [List.length_cons, List.length_cons, dpa_len t]
theorem each_vals : ∀ {bs : List (V × PyData)} {us : List Value}, PySem.W.EachIs (fun u (b : V × PyData) => RelV b.1 u) us bs → Vals (bs.map (·.1)) us
  | [], _, .nil => .nil
  | _ :: _, _, .cons h t => .cons h (each_vals t)
theorem vals_each : ∀ {vs : List V} {ds : List PyData} {us : List Value}, Vals vs us → vs.length = ds.length → PySem.W.EachIs (fun u (b : V × PyData) => RelV b.1 u) us (vs.zip ds)
  | [], [], _, .nil, _ => .nil
  | v :: vs, d :: ds, _, .cons h t, hl => .cons h (vals_each t (by simpa using hl))
  | [], _ :: _, _, _, h => by simp at h
  | _ :: _, [], _, _, h => by simp at h
theorem reads_each {h : Heap} : ∀ {vs : List V} {ds : List PyData} {us : List Value} {as : List Addr}, ReadsAll h us ds as → vs.length = ds.length → PySem.W.EachIs (fun u (b : V × PyData) => ∃ as, Reads h u b.2 as) us (vs.zip ds)
  | [], [], _, _, .nil, _ => .nil
  | v :: vs, d :: ds, _, _, .cons h t, hl => .cons ⟨_, h⟩ (reads_each t (by simpa using hl))
  | [], _ :: _, _, _, _, h => by simp at h
  | _ :: _, [], _, _, _, h => by simp at h
theorem cr_sortD (hu : X.A.units + 65 < cLine) : CallR X (.builtin "sorted") (rSortD X.K) := by
  intro pins s σ H vs us Q I r h
  obtain ⟨a, xs, ds, rfl, hs, hd, hal, hso, hdp, q⟩ := h
  obtain ⟨its, rv, hl, hz⟩ := I.list hs
  obtain ⟨u, rfl, ru⟩ := vals1 r
  obtain rfl : u = Value.ref a := ru
  obtain ⟨as, hr⟩ := Dp.readsAll I ds xs its hd rv
  have hlen := dpa_len hd
  have hmap : (xs.zip ds).map (·.2) = ds := zip_snd hlen
  refine PySem.W.sorted_data (bs := xs.zip ds) (enc := (·.2)) (R := fun u b => RelV b.1 u) hl.isList (vals_each rv hlen) (reads_each hr hlen) (by rw [hmap]; exact hal) (by rw [hmap]; exact hso) ?_ ?_ ?_
  · rw [List.length_zip]; omega
  · intro b hb
    have : b.2 ∈ ds := (List.of_mem_zip hb).2
    have := hdp _ this
    omega
  · intro out hout he
    obtain ⟨n, hn⟩ := PyProof.Rows.sortedAll_at s.heap its out.toArray
    refine ⟨.ref _, upd H (s.heap.objs.size + 1) (.lst (((xs.zip ds).mergeSort (PySem.W.dataLe false (·.2))).map (·.1))), I.laid (t' := s.toks) (fun b o e => PyProof.Rows.sortedAll_old e) (Nat.le_succ _) ⟨?_, out, n, each_vals he, hn⟩, rfl, q _ (I.hok.fresh (Nat.le_succ _))⟩
    rw [List.length_map, List.length_mergeSort, List.length_zip]
    omega
def allAlikeB (ds : List PyData) : Bool := ds.all fun d => ds.all fun d' => PySem.W.alike d d'
def isTupB : PyData → Bool
  | .tuple (_ :: _) => true
  | _ => false
def isOthB : PyData → Bool
  | .none => false
  | .tuple _ => false
  | _ => true
def sortableB (ds : List PyData) : Bool := ds.all isTupB || ds.all isOthB
def srtO : List O → Option O
  | [x] => (match x.lparts with
    | some xs => (match O.toDs xs with
      | some ds => if allAlikeB ds && sortableB ds && ds.all (fun d => decide (d.depth ≤ 60)) then some (.l (((xs.zip ds).mergeSort (PySem.W.dataLe false (·.2))).map (·.1))) else none
      | none => none)
    | none => none)
  | _ => none
theorem Sta.dfs {B : Bs} {F H : Hp} {σ : St} {e : En} {G : Ws} : ∀ {w : Ws} {ds : List PyData}, Sta K B F H σ e (w ++ G) → O.toDs (w.map (·.2)) = some ds → DfAll K H (w.map (·.1)) ds
  | [], _, s, h => by unfold O.toDs at h; cases h; exact .nil
  | (v, x) :: w, ds, s, h => by
    rw [List.map_cons] at h
    unfold O.toDs at h
    split at h
    · rename_i d ds' h1 h2
      cases h
      exact .cons (s.df h1) (Sta.dfs (w := w) s.pop h2)
    · cases h
theorem merge_map {α β : Type} (f : α → β) (le : β → β → Bool) (xs : List α) : (xs.map f).mergeSort le = (xs.mergeSort fun a b => le (f a) (f b)).map f :=
  (List.map_mergeSort (r := fun a b => le (f a) (f b)) (s := le) (f := f) (l := xs) (fun _ _ _ _ => rfl)).symm
theorem zip_map_map {α β δ : Type} (f : α → β) : ∀ (xs : List α) (ds : List δ), (xs.map f).zip ds = (xs.zip ds).map fun p => (f p.1, p.2)
  | [], _ => by simp
  | _ :: _, [] => by simp
  | x :: xs, d :: ds => by simp [zip_map_map f xs ds]
theorem al_srt : Al K srtO (rSortD K) := fun B F H σ e G ws x Q s hx k => by
  unfold srtO at hx
  split at hx
  · rename_i y hw
    obtain ⟨v, rfl⟩ := ws1 hw
    split at hx
    · rename_i xs h1
      split at hx
      · rename_i ds h2
        split at hx
        · rename_i hc
          cases hx
          simp only [Bool.and_eq_true, List.all_eq_true, decide_eq_true_eq] at hc
          obtain ⟨p, w, F1, rfl, e1, e2, e3, s1⟩ := Sta.openL (G := G) s h1
          subst e2
          have hd := s1.dfs h2
          have hlen := dfa_len hd
          rw [List.length_map] at hlen
          refine ⟨p, _, ds, rfl, .of (s1.fh _ _ e1), hd.dp (Same.refl H), ?_, ?_, hc.2, fun l hl => ?_⟩
          · intro d hd' d' hd''
            have := hc.1.1
            unfold allAlikeB at this
            simp only [List.all_eq_true] at this
            exact this d hd' d' hd''
          · have := hc.1.2
            unfold sortableB at this
            simp only [Bool.or_eq_true, List.all_eq_true] at this
            rcases this with h | h
            · left
              intro d hd'
              have := h d hd'
              unfold isTupB at this
              split at this
              · exact ⟨_, _, rfl⟩
              · cases this
            · right
              intro d hd'
              have := h d hd'
              unfold isOthB at this
              split at this
              · cases this
              · cases this
              · rename_i h1 h2
                exact ⟨fun z => h1 z, fun xs z => h2 xs z⟩
          · let L := (w.zip ds).mergeSort (PySem.W.dataLe false (·.2))
            have hV : ((w.map (·.1)).zip ds).mergeSort (PySem.W.dataLe false (·.2)) = L.map fun p => (p.1.1, p.2) := by
              rw [zip_map_map (fun x : V × O => x.1)]
              exact merge_map (fun p : (V × O) × PyData => (p.1.1, p.2)) (PySem.W.dataLe false (·.2)) (w.zip ds)
            have hO : ((w.map (·.2)).zip ds).mergeSort (PySem.W.dataLe false (·.2)) = L.map fun p => (p.1.2, p.2) := by
              rw [zip_map_map (fun x : V × O => x.2)]
              exact merge_map (fun p : (V × O) × PyData => (p.1.2, p.2)) (PySem.W.dataLe false (·.2)) (w.zip ds)
            have pL : w.Perm (L.map (·.1)) := by
              have h3 := (List.mergeSort_perm (w.zip ds) (PySem.W.dataLe false (·.2))).map (·.1)
              rw [zip_fst hlen] at h3
              exact h3.symm
            have s2 : Sta K B F1 H σ e (L.map (·.1) ++ G) := s1.perm (pL.append_right G)
            have s3 := s2.newL hl
            rw [List.map_map, List.map_map] at s3
            have e1 : (((w.map (·.1)).zip ds).mergeSort (PySem.W.dataLe false (·.2))).map (·.1) = L.map ((·.1) ∘ (·.1)) := by rw [hV, List.map_map]; rfl
            have e2 : (((w.map (·.2)).zip ds).mergeSort (PySem.W.dataLe false (·.2))).map (·.1) = L.map ((·.2) ∘ (·.1)) := by rw [hO, List.map_map]; rfl
            rw [e1]
            rw [e2] at k
            exact k F1 _ _ s3 (same_upd hl)
        · cases hx
      · cases hx
    · cases hx
  · cases hx
def mChain (f g : List PyData → Option PyData) (ms : MD (List O)) (mc : MD O) : MD O := fun e => match ms e with
  | some (xs, e1) => (match O.toDs xs with
    | some [x, y] => (match f [x, y] with
      | some (.bool true) => (match sV y with
        | some _ => mL g (lCons (mC y) (lCons mc lNil)) e1
        | none => none)
      | some (.bool false) => some (.v (.bool false), e1)
      | _ => none)
    | _ => none)
  | none => none
theorem chain_den {p q : Bool} {f g : List PyData → Option PyData} {ms : MD (List O)} {mc : MD O} {r r' : R2} {ta tb : TE} (hf : Sc K f (r2 r)) (hg : Sc K g (r2 r')) (hl : LS K p ms (tCons ta (tCons tb tNil))) :
    ∀ σ H Q, den K (p && q) (mChain f g ms mc) σ H Q → tChain r r' ta tb (den K q mc) σ H Q := fun σ H Q ⟨B, F, e, G, y, e', s, hm, k⟩ => by
  unfold mChain at hm
  split at hm
  · rename_i xs e1 h1
    refine hl σ H (fun vs H2 => match vs with | [x, y] => r x y H2 (fun z H3 => ∃ c, z = V.bl c ∧ (if c = true then den K q mc σ H3 (fun w' H4 => r' y w' H4 Q) else Q (.bl false) H3)) | _ => False) ⟨B, F, e, G, xs, e1, s, h1, fun F1 H1 vs s1 r1 sm1 => ?_⟩
    split at hm
    · rename_i dx dy h2
      have hd := r1.df s1.fh h2
      obtain ⟨vx, vy, rfl, bx, by'⟩ := dfa2 hd
      split at hm
      · rename_i h3
        split at hm
        · rename_i vy' h4
          obtain rfl := df_sV h4 by'
          obtain ⟨v, hv, q1⟩ := hf H1 _ _ _ hd h3
          cases hv
          refine q1 _ ⟨true, rfl, iteT ?_⟩
          rw [mL] at hm
          split at hm
          · rename_i zs e2 h5
            split at hm
            · rename_i ds h6
              split at hm
              · rename_i z h7
                obtain ⟨rfl, rfl⟩ := so hm
                unfold lCons at h5
                split at h5
                · rename_i x0 e0 h8
                  cases h8
                  split at h5
                  · rename_i xs0 e9 h9
                    obtain ⟨rfl, rfl⟩ := so h5
                    split at h9
                    · rename_i x1 e1' h10
                      split at h9
                      · rename_i xs1 e11 h11
                        cases h11
                        obtain ⟨rfl, rfl⟩ := so h9
                        refine ⟨B, F1, e1, G, x1, _, s1, h10, fun F2 H2 v2 s2 sm2 => ?_⟩
                        unfold O.toDs at h6
                        split at h6
                        · rename_i d1 ds1 h12 h13
                          cases h6
                          unfold O.toDs at h13
                          split at h13
                          · rename_i d2 ds2 h14 h15
                            cases h13
                            unfold O.toDs at h15
                            cases h15
                            cases h12
                            have hdd : DfAll K H2 [vy, v2] [dy, d2] := .cons (sV_df h4) (.cons (s2.df h14) .nil)
                            obtain ⟨v3, hv3, q3⟩ := hg H2 _ _ _ hdd h7
                            exact q3 Q (k F2 H2 v3 (s2.pop.push (sV_df hv3)) fun z => (sm1 (band1 z)).trans (sm2 (band2 z)))
                          · cases h13
                        · cases h6
                      · cases h9
                    · cases h9
                  · cases h5
                · cases h5
              · cases hm
            · cases hm
          · cases hm
        · cases hm
      · rename_i h3
        obtain ⟨rfl, rfl⟩ := so hm
        obtain ⟨v, hv, q1⟩ := hf H1 _ _ _ hd h3
        cases hv
        exact q1 _ ⟨false, rfl, iteF (k F1 H1 _ (s1.push (.bl false)) fun z => sm1 (band1 z))⟩
      · cases hm
    · cases hm
  · cases hm
variable {a b c : Expr} {ta tb : TE} {p q : Bool} {ms : MD (List O)} {mc : MD O} {f g : List PyData → Option PyData} {pos : Pos}
theorem d_chain {op op' : CmpOp} {r r' : R2} (ho : OpR X (compareOp op) r) (ho' : OpR X (compareOp op') r') (hf : Sc X.K f (r2 r)) (hg : Sc X.K g (r2 r')) (ha : PE X a ta) (hb : PE X b tb) (hc : PE X c (den X.K q mc)) (hl : LS X.K p ms (tCons ta (tCons tb tNil)))
    (hm : lastMarks [op, op'] [b, c] = false := by with_unfolding_all rfl) : PE X (.Compare a [op, op'] [b, c] pos) (den X.K (p && q) (mChain f g ms mc)) := pe_imp (pe_chain ho ho' ha hb hc hm) (chain_den hf hg hl)
def mRev (m : MD O) : MD O := fun e => match m e with
  | some (x, e1) => (match x.lparts with
    | some xs => some (.l xs.reverse, e1)
    | none => none)
  | none => none
theorem d_revL {m : MD O} {k : Nat} {p1 p2 p3 : Pos} (he : PE X a (den X.K p m)) : PE X (.Subscript a (.Slice none none (some (.UnaryOp .USub (.Constant (.int 1) k p1) p2)) p3) pos) (den X.K p (mRev m)) := pe_imp (pe_revL he) fun σ H Q ⟨B, F, e, G, x, e', s, hm, k⟩ => by
  unfold mRev at hm
  split at hm
  · rename_i y e1 h1
    split at hm
    · rename_i xs h2
      obtain ⟨rfl, rfl⟩ := so hm
      refine ⟨B, F, e, G, y, e1, s, h1, fun F1 H1 v s1 sm1 => ?_⟩
      obtain ⟨p, w, F2, rfl, e1', e2, e3, s2⟩ := s1.openL h2
      subst e2
      refine ⟨p, _, rfl, .of (s2.fh _ _ e1'), fun l hl => ?_⟩
      have s3 := (s2.perm ((List.reverse_perm w).symm.append_right G)).newL hl
      rw [List.map_reverse, List.map_reverse] at s3
      exact k F2 _ _ s3 fun z => (sm1 z).trans (same_upd hl)
    · cases hm
  · cases hm
end
end Dn
namespace Dn
open PySem L2
def O.kids : O → Option (List O)
  | .l xs => some xs
  | .t xs => some xs
  | _ => none
def O.withKids : O → List O → O
  | .l _, ys => .l ys
  | .t _, ys => .t ys
  | o, _ => o
def atK : O → List Int → Option O
  | o, [] => some o
  | o, k :: ks => (match o.kids with
    | some xs => (match ixN xs.length k with
      | some j => (match xs[j]? with
        | some x => atK x ks
        | none => none)
      | none => none)
    | none => none)
def setK : O → List Int → List O → Option O
  | .l _, [], ys => some (.l ys)
  | o, k :: ks, ys => (match o.kids with
    | some xs => (match ixN xs.length k with
      | some j => (match xs[j]? with
        | some x => (match setK x ks ys with
          | some x' => some (o.withKids (xs.set j x'))
          | none => none)
        | none => none)
      | none => none)
    | none => none)
  | _, [], _ => none
section
variable {K : PySem.W.Frag} {F H : Hp}
inductive Way (K : PySem.W.Frag) (H : Hp) : V → List Int → V → Prop
  | nil {v : V} : Way K H v [] v
  | cons {p : Addr} {vs : List V} {k : Int} {j : Nat} {u z : V} {ks : List Int} : (H p = some (.lst vs) ∨ H p = some (.tup vs)) → ixN vs.length k = some j → vs[j]? = some u → Way K H u ks z → Way K H (.ref p) (k :: ks) z
theorem set_same {α : Type} {l : List α} {j : Nat} {a : α} (h : l[j]? = some a) : l.set j a = l := by
  apply List.ext_getElem?
  intro i
  by_cases hi : j = i
  · subst hi
    rw [List.getElem?_set_self (List.getElem?_eq_some_iff.mp h).1, h]
  · rw [List.getElem?_set_ne hi]
theorem rpl_pick : ∀ {ws : Ws} {T : List Addr} {j : Nat} {w : V × O}, RpL K F H ws T → ws[j]? = some w → ∃ T1 T2, T.Perm (T1 ++ T2) ∧ Rp K F H w.1 w.2 T1 ∧
    ∀ H' o' T1', Rp K F H' w.1 o' T1' → (∀ p ∈ T2, H' p = H p) → ∃ T', RpL K F H' (ws.set j (w.1, o')) T' ∧ T'.Perm (T1' ++ T2)
  | _, _, j, w, .nil, h => by simp at h
  | _, _, 0, w, .cons (T1 := Ta) (T2 := Tb) a t, h => by
    simp at h
    subst h
    refine ⟨Ta, Tb, .refl _, a, fun H' o' T1' r k => ⟨T1' ++ Tb, ?_, .refl _⟩⟩
    rw [List.set_cons_zero]
    exact .cons r (rpl_mono (Same.refl F) t k)
  | _, _, j + 1, w, .cons (x := x) (o := o) (T1 := Ta) (T2 := Tb) a t, h => by
    obtain ⟨T1, T2, p1, r1, k1⟩ := rpl_pick (j := j) t (by simpa using h)
    refine ⟨T1, Ta ++ T2, (List.Perm.append_left Ta p1).trans (pmid _ _ _), r1, fun H' o' T1' r k => ?_⟩
    obtain ⟨T', r2, p2⟩ := k1 H' o' T1' r fun p hp => k p (List.mem_append_right _ hp)
    refine ⟨Ta ++ T', ?_, (List.Perm.append_left Ta p2).trans (pmid _ _ _)⟩
    rw [List.set_cons_succ]
    exact .cons (rp_mono (Same.refl F) a fun p hp => k p (List.mem_append_left _ hp)) r2
theorem rp_leaf : ∀ (ks : List Int) {v : V} {o : O} {T : List Addr} {xs : List O}, Rp K F H v o T → atK o ks = some (.l xs) →
    ∃ q w Tw Tr, T.Perm (q :: (Tw ++ Tr)) ∧ H q = some (.lst (w.map (·.1))) ∧ w.map (·.2) = xs ∧ RpL K F H w Tw ∧ Way K H v ks (.ref q) ∧
    ∀ H' w' Tw', (∀ p ∈ Tr, H' p = H p) → H' q = some (.lst (w'.map (·.1))) → RpL K F H' w' Tw' → ∃ T' o', setK o ks (w'.map (·.2)) = some o' ∧ Rp K F H' v o' T' ∧ T'.Perm (q :: (Tw' ++ Tr))
  | [], v, o, T, xs, r, h => by
    unfold atK at h
    cases h
    cases r with
    | l hp e1 e2 rl =>
      rename_i p vs ws T'
      refine ⟨p, ws, T', [], by rw [List.append_nil], by rw [hp, e1], e2.symm, rl, .nil, fun H' w' Tw' k hq rl' => ⟨p :: Tw', _, rfl, .l hq rfl rfl rl', by rw [List.append_nil]⟩⟩
  | k :: ks, v, o, T, xs, r, h => by
    unfold atK at h
    split at h
    · rename_i zs hz
      split at h
      · rename_i j hj
        split at h
        · rename_i x hx
          cases o with
          | l ys =>
            cases hz
            cases r with
            | l hp e1 e2 rl =>
              rename_i p vs ws T'
              subst e2
              rw [List.getElem?_map] at hx
              obtain ⟨w0, hw0, rfl⟩ := Option.map_eq_some_iff.mp hx
              obtain ⟨T1, T2, p1, r1, k1⟩ := rpl_pick rl hw0
              obtain ⟨q, w, Tw, Tr, p2, hq, hw, rlw, way, k2⟩ := rp_leaf ks r1 h
              rw [List.length_map] at hj
              refine ⟨q, w, Tw, p :: (Tr ++ T2), ?_, hq, hw, rlw, .cons (.inl hp) (by rw [e1, List.length_map]; exact hj) (by rw [e1, List.getElem?_map, hw0]; rfl) way, fun H' w' Tw' kk hq' rl' => ?_⟩
              · refine ((p1.trans (List.Perm.append_right T2 p2)).cons p).trans ?_
                refine (List.Perm.swap _ _ _).trans (List.Perm.cons _ ?_)
                show (p :: ((Tw ++ Tr) ++ T2)).Perm _
                rw [List.append_assoc]
                exact (mid _ _ _).symm
              · obtain ⟨T', o', s1, s2, s3⟩ := k2 H' w' Tw' (fun a ha => kk a (List.mem_cons_of_mem _ (List.mem_append_left _ ha))) hq' rl'
                obtain ⟨T'', s4, s5⟩ := k1 H' o' T' s2 fun a ha => kk a (List.mem_cons_of_mem _ (List.mem_append_right _ ha))
                refine ⟨p :: T'', .l ((ws.map (·.2)).set j o'), ?_, .l ((kk p (List.mem_cons_self ..)).trans hp) ?_ ?_ s4, ?_⟩
                · unfold setK
                  simp only [O.kids, List.length_map, hj, List.getElem?_map, hw0, Option.map_some, s1, O.withKids]
                · rw [e1, List.map_set]
                  symm
                  apply set_same
                  rw [List.getElem?_map, hw0]; rfl
                · rw [List.map_set]
                · refine ((s5.trans (List.Perm.append_right T2 s3)).cons p).trans ?_
                  refine (List.Perm.swap _ _ _).trans (List.Perm.cons _ ?_)
                  show (p :: ((Tw' ++ Tr) ++ T2)).Perm _
                  rw [List.append_assoc]
                  exact (mid _ _ _).symm
          | t ys =>
            cases hz
            cases r with
            | t hp e1 e2 rl =>
              rename_i p vs ws T'
              subst e2
              rw [List.getElem?_map] at hx
              obtain ⟨w0, hw0, rfl⟩ := Option.map_eq_some_iff.mp hx
              obtain ⟨T1, T2, p1, r1, k1⟩ := rpl_pick rl hw0
              obtain ⟨q, w, Tw, Tr, p2, hq, hw, rlw, way, k2⟩ := rp_leaf ks r1 h
              rw [List.length_map] at hj
              refine ⟨q, w, Tw, p :: (Tr ++ T2), ?_, hq, hw, rlw, .cons (.inr hp) (by rw [e1, List.length_map]; exact hj) (by rw [e1, List.getElem?_map, hw0]; rfl) way, fun H' w' Tw' kk hq' rl' => ?_⟩
              · refine ((p1.trans (List.Perm.append_right T2 p2)).cons p).trans ?_
                refine (List.Perm.swap _ _ _).trans (List.Perm.cons _ ?_)
                show (p :: ((Tw ++ Tr) ++ T2)).Perm _
                rw [List.append_assoc]
                exact (mid _ _ _).symm
              · obtain ⟨T', o', s1, s2, s3⟩ := k2 H' w' Tw' (fun a ha => kk a (List.mem_cons_of_mem _ (List.mem_append_left _ ha))) hq' rl'
                obtain ⟨T'', s4, s5⟩ := k1 H' o' T' s2 fun a ha => kk a (List.mem_cons_of_mem _ (List.mem_append_right _ ha))
                refine ⟨p :: T'', .t ((ws.map (·.2)).set j o'), ?_, .t ((kk p (List.mem_cons_self ..)).trans hp) ?_ ?_ s4, ?_⟩
                · unfold setK
                  simp only [O.kids, List.length_map, hj, List.getElem?_map, hw0, Option.map_some, s1, O.withKids]
                · rw [e1, List.map_set]
                  symm
                  apply set_same
                  rw [List.getElem?_map, hw0]; rfl
                · rw [List.map_set]
                · refine ((s5.trans (List.Perm.append_right T2 s3)).cons p).trans ?_
                  refine (List.Perm.swap _ _ _).trans (List.Perm.cons _ ?_)
                  show (p :: ((Tw' ++ Tr) ++ T2)).Perm _
                  rw [List.append_assoc]
                  exact (mid _ _ _).symm
          | _ => cases hz
        · cases h
      · cases h
    · cases h
variable {H0 F0 : Hp} {ws : Ws} {B : Bs} {σ : St} {e : En} {G : Ws}
theorem Rel.putK {v : V} {o : O} {ks : List Int} {xs : List O} (r : Rel K H0 F0 F H ((v, o) :: ws)) (h : atK o ks = some (.l xs)) : ∃ q w, Way K H v ks (.ref q) ∧ H q = some (.lst (w.map (·.1))) ∧ w.map (·.2) = xs ∧
    ∀ w' rest, (w ++ ws).Perm (w' ++ rest) → ∃ o', setK o ks (w'.map (·.2)) = some o' ∧ Rel K H0 F0 F (upd H q (.lst (w'.map (·.1)))) ((v, o') :: rest) := by
  obtain ⟨T, rl, nd, hT⟩ := r.res
  cases rl with
  | cons a t =>
    rename_i T1 T2
    obtain ⟨q, w, Tw, Tr, p1, hq, hw, rlw, way, k⟩ := rp_leaf ks a h
    refine ⟨q, w, way, hq, hw, fun w' rest pm => ?_⟩
    have pT : (T1 ++ T2).Perm (q :: (Tw ++ T2 ++ Tr)) := by
      refine (List.Perm.append_right T2 p1).trans ?_
      rw [List.cons_append]
      refine List.Perm.cons _ ?_
      rw [List.append_assoc, List.append_assoc]
      exact List.Perm.append_left _ List.perm_append_comm
    have nd1 := pT.nodup_iff.mp nd
    obtain ⟨nq, nd2⟩ := List.nodup_cons.mp nd1
    have hqn := hT q (pT.mem_iff.mpr (List.mem_cons_self ..))
    have kq : ∀ p ∈ Tw ++ T2 ++ Tr, upd H q (.lst (w'.map (·.1))) p = H p := fun p hp => upd_ne fun z => nq (z ▸ hp)
    have m1 : RpL K F (upd H q (.lst (w'.map (·.1)))) (w ++ ws) (Tw ++ T2) := rpl_mono (Same.refl F) (rpl_append rlw t) fun p hp => kq p (List.mem_append_left _ hp)
    obtain ⟨T', pT', m2⟩ := rpl_perm pm m1
    obtain ⟨Ta, Tb, rfl, ra, rb⟩ := rpl_split m2
    obtain ⟨T3, o', s1, s2, s3⟩ := k _ w' Ta (fun p hp => kq p (List.mem_append_right _ hp)) upd_same ra
    have pF : (T3 ++ Tb).Perm (q :: (Tw ++ T2 ++ Tr)) := by
      refine (List.Perm.append_right Tb s3).trans ?_
      rw [List.cons_append]
      refine List.Perm.cons _ ?_
      rw [List.append_assoc]
      refine (List.Perm.append_left Ta List.perm_append_comm).trans ?_
      rw [← List.append_assoc]
      exact List.Perm.append_right Tr pT'.symm
    refine ⟨o', s1, fun p u e => ?_, r.f0, r.fn, fun p u e => ?_, T3 ++ Tb, .cons s2 rb, pF.nodup_iff.mpr nd1, fun p hp => hT p (pT.mem_iff.mpr (pF.mem_iff.mp hp))⟩
    · have : p ≠ q := fun z => by rw [z, hqn.2] at e; cases e
      rw [upd_ne this]
      exact r.h0 p u e
    · have : p ≠ q := fun z => by rw [z, hqn.1] at e; cases e
      rw [upd_ne this]
      exact r.fh p u e
theorem Sta.putK {i : Nat} {sl : Sl} {o : O} {ks : List Int} {xs : List O} (s : Sta K B F H σ e G) (hi : e[i]? = some sl) (ho : sl.o? = some o) (h : atK o ks = some (.l xs)) : ∃ v q w, σ[i]? = some (some v) ∧ Way K H v ks (.ref q) ∧ H q = some (.lst (w.map (·.1))) ∧ w.map (·.2) = xs ∧
    ∀ w' G', (w ++ G).Perm (w' ++ G') → ∃ o', setK o ks (w'.map (·.2)) = some o' ∧ Sta K B F (upd H q (.lst (w'.map (·.1)))) σ (e.set i (sl.like o')) G' := by
  obtain ⟨v, hv, s1⟩ := s.out hi ho
  obtain ⟨q, w, way, hp, hw, k⟩ := (s1.rel.perm (mid _ _ _)).putK h
  refine ⟨v, q, w, hv, way, hp, hw, fun w' G' pm => ?_⟩
  obtain ⟨o', ho', r⟩ := k w' (slots σ (e.set i .no) ++ G') (by
    refine (pmid _ _ _).symm.trans ?_
    refine (List.Perm.append_left _ pm).trans ?_
    exact pmid _ _ _)
  refine ⟨o', ho', ?_⟩
  have hl : i < e.length := (List.getElem?_eq_some_iff.mp hi).1
  have ok : SlOk B.vs σ (e.set i (sl.like o')) := by
    cases sl with
    | no => cases ho
    | own o => exact s.ok.own hi
    | pin o => exact s.ok.pin hi
  refine ⟨ok, r.perm ?_⟩
  have hlo : (sl.like o').o? = some o' := by
    cases sl with
    | no => cases ho
    | own o => rfl
    | pin o => rfl
  exact ((slots_put hlo hl hv).append_right G').symm
def UpK (K : PySem.W.Frag) (f : List O → List O → Option (List O × O)) (r : V → List V → Hp → VK → Prop) : Prop :=
  ∀ (B : Bs) (F H : Hp) (σ : St) (e : En) (G ws : Ws) (i : Nat) (sl : Sl) (o : O) (ks : List Int) (xs xs' : List O) (y : O) (Q : VK), Sta K B F H σ e (ws ++ G) → e[i]? = some sl → sl.o? = some o → atK o ks = some (.l xs) → f xs (ws.map (·.2)) = some (xs', y) →
    ∃ v q vs0, σ[i]? = some (some v) ∧ Way K H v ks (.ref q) ∧ H q = some (.lst vs0) ∧ ∃ o', setK o ks xs' = some o' ∧ ((∀ F' H' v, Sta K B F' H' σ (e.set i (sl.like o')) ((v, y) :: G) → Q v H') → r (.ref q) (ws.map (·.1)) H Q)
theorem upk_app : UpK K uApp rAppend := fun B F H σ e G ws i sl o ks xs xs' y Q s hi ho ha hf => by
  unfold uApp at hf
  split at hf
  · rename_i z hw
    split at hf
    · rename_i hl
      cases hf
      obtain ⟨u, rfl⟩ := ws1 hw
      obtain ⟨v, q, w, hv, way, hp, rfl, k⟩ := s.putK hi ho ha
      rw [List.length_map] at hl
      obtain ⟨o', h1, s1⟩ := k (w ++ [(u, z)]) G (by rw [List.append_assoc])
      rw [List.map_append] at s1 h1
      exact ⟨v, q, _, hv, way, hp, o', h1, fun kk => ⟨q, _, u, rfl, rfl, hp, by rw [List.length_map]; exact hl, kk F _ .non (s1.push .non)⟩⟩
    · cases hf
  · cases hf
theorem upk_rev : UpK K uRev rReverse := fun B F H σ e G ws i sl o ks xs xs' y Q s hi ho ha hf => by
  unfold uRev at hf
  split at hf
  · rename_i hw
    cases hf
    have : ws = [] := List.map_eq_nil_iff.mp hw
    subst this
    obtain ⟨v, q, w, hv, way, hp, rfl, k⟩ := s.putK hi ho ha
    obtain ⟨o', h1, s1⟩ := k w.reverse G ((List.reverse_perm w).symm.append_right _)
    rw [List.map_reverse] at s1 h1
    exact ⟨v, q, _, hv, way, hp, o', h1, fun kk => ⟨q, _, rfl, rfl, hp, kk F _ .non (s1.push .non)⟩⟩
  · cases hf
theorem upk_clear : UpK K uClear rClear := fun B F H σ e G ws i sl o ks xs xs' y Q s hi ho ha hf => by
  unfold uClear at hf
  split at hf
  · rename_i hw
    cases hf
    have : ws = [] := List.map_eq_nil_iff.mp hw
    subst this
    obtain ⟨v, q, w, hv, way, hp, rfl, k⟩ := s.putK hi ho ha
    obtain ⟨o', h1, s1⟩ := k [] (w ++ G) (.refl _)
    have s2 : Sta K B F _ σ _ G := ⟨s1.ok, (s1.rel.perm (pmid _ _ _)).drop⟩
    exact ⟨v, q, _, hv, way, hp, o', h1, fun kk => ⟨q, _, rfl, rfl, hp, kk F _ .non (s2.push .non)⟩⟩
  · cases hf
def pathK (e : En) : List (En → Option O) → Option (List Int)
  | [] => some []
  | b :: bs => (match b e with
    | some (.v (.int k)) => (match pathK e bs with
      | some ks => some (k :: ks)
      | none => none)
    | _ => none)
def mUpK (i : Nat) (bs : List (En → Option O)) (ms : MD (List O)) (f : List O → List O → Option (List O × O)) : MD O := fun e => match pathK e bs, e[i]?, ms e with
  | some ks, some (.own o), some (ys, _) => (match atK o ks with
    | some (.l xs) => (match f xs ys with
      | some (xs', y) => (match setK o ks xs' with
        | some o' => some (y, e.set i (.own o'))
        | none => none)
      | none => none)
    | _ => none)
  | some ks, some (.pin o), some (ys, _) => (match atK o ks with
    | some (.l xs) => (match f xs ys with
      | some (xs', y) => (match setK o ks xs' with
        | some o' => some (y, e.set i (.pin o'))
        | none => none)
      | none => none)
    | _ => none)
  | _, _, _ => none
def Recv (K : PySem.W.Frag) (i : Nat) (bs : List (En → Option O)) (t : TE) : Prop := ∀ (B : Bs) (F H : Hp) (σ : St) (e : En) (G : Ws) (v z : V) (ks : List Int) (Q : VK), Sta K B F H σ e G → σ[i]? = some (some v) → pathK e bs = some ks → Way K H v ks z → Q z H → t σ H Q
theorem way_same {H' : Hp} (sm : Same H H') : ∀ {v z : V} {ks : List Int}, Way K H v ks z → Way K H' v ks z
  | _, _, _, .nil => .nil
  | _, _, _, .cons hs hj hu w => .cons (hs.elim (fun h => .inl (sm _ _ h)) fun h => .inr (sm _ _ h)) hj hu (way_same sm w)
theorem way_uniq1 : ∀ {v z z' : V} {ks : List Int}, Way K H v ks z → Way K H v ks z' → z = z'
  | _, _, _, _, .nil, .nil => rfl
  | _, _, _, _, .cons hs hj hu w, .cons hs' hj' hu' w' => by
    have : ∀ {p : Addr} {a b : List V}, (H p = some (.lst a) ∨ H p = some (.tup a)) → (H p = some (.lst b) ∨ H p = some (.tup b)) → a = b := fun h1 h2 => by
      rcases h1 with h1 | h1 <;> rcases h2 with h2 | h2 <;> rw [h1] at h2 <;> cases h2 <;> rfl
    obtain rfl := this hs hs'
    rw [hj] at hj'
    cases hj'
    rw [hu] at hu'
    cases hu'
    exact way_uniq1 w w'
theorem way_uniq {H' : Hp} {v z z' : V} {ks : List Int} (sm : true = true → Same H H') (w : Way K H v ks z) (w' : Way K H' v ks z') : z' = z := way_uniq1 w' (way_same (sm rfl) w)
theorem ix_way {F : Hp} {p : Addr} {vs : List V} {k : Int} {j : Nat} {u : V} {Q : VK} (hs : H p = some (.lst vs) ∨ H p = some (.tup vs)) (hj : ixN vs.length k = some j) (hu : vs[j]? = some u) (q : Q u H) : rIx K (.ref p) (.int k) H Q := by
  rcases hs with h | h
  · exact .inl ⟨p, vs, k, u, rfl, rfl, .of h, atI_of hj hu, q⟩
  · exact .inr (.inl ⟨p, vs, k, u, rfl, rfl, .of h, atI_of hj hu, q⟩)
theorem recv1 {i : Nat} {b : En → Option O} : Recv K i [b] (tOp (rIx K) (tVar i) (denB K b)) := fun B F H σ e G v z ks Q s hv hk way q => by
  unfold pathK at hk
  split at hk
  · rename_i k hb
    unfold pathK at hk
    cases hk
    cases way with
    | cons hs hj hu w =>
      cases w
      refine ⟨_, hv, B, F, e, G, _, s, hb, fun v' T r => ?_⟩
      obtain rfl := rp_int r
      exact ix_way (F := F) hs hj hu q
  · cases hk
def PureA (ms : MD (List O)) : Prop := ∀ e ys e1, ms e = some (ys, e1) → e1 = e
def PureE (m : MD O) : Prop := ∀ e x e1, m e = some (x, e1) → e1 = e
theorem pure_nil : PureA aNil := fun e ys e1 h => by cases h; rfl
theorem pure_cons {m : MD O} {ms : MD (List O)} (h1 : PureE m) (h2 : PureA ms) : PureA (aCons m ms) := fun e ys e1 h => by
  unfold aCons lCons at h
  split at h
  · rename_i x e2 h3
    split at h
    · rename_i xs e3 h4
      obtain ⟨rfl, rfl⟩ := so h
      rw [h2 _ _ _ h4, h1 _ _ _ h3]
    · cases h
  · cases h
theorem pure_c {d : PyData} : PureE (mC d) := fun e x e1 h => by cases h; rfl
theorem mUpK_den {i : Nat} {bs : List (En → Option O)} {ms : MD (List O)} {f : List O → List O → Option (List O × O)} {r : V → List V → Hp → VK → Prop} {t : TA} {tr : TE} (hr : UpK K f r) (hrec : Recv K i bs tr) (hp : PureA ms) (hl : AS K true ms t) : ∀ σ H Q, den K false (mUpK i bs ms f) σ H Q → tBM K "list" r tr t σ H Q := fun σ H Q ⟨B, F, e, G, y, e', s, hm, k⟩ => by
  have go : ∀ {sl : Sl} {o o' : O} {ks : List Int} {xs xs' ys : List O} {ex : En}, pathK e bs = some ks → e[i]? = some sl → sl.o? = some o → ms e = some (ys, ex) → atK o ks = some (.l xs) → f xs ys = some (xs', y) → setK o ks xs' = some o' → e' = e.set i (sl.like o') → tBM K "list" r tr t σ H Q := fun {sl o o' ks xs xs' ys ex} hk hi ho hms hat hf hset he => by
    obtain ⟨v, q, w, hv, way, hq, _, _⟩ := s.putK hi ho hat
    refine hrec B F H σ e G v (.ref q) ks _ s hv hk way ⟨.inl ⟨rfl, _, .of hq⟩, ?_⟩
    refine hl σ H _ ⟨B, F, e, G, ys, ex, s, hms, fun F1 H1 ws s1 r1 sm1 => ?_⟩
    subst r1
    obtain rfl := hp _ _ _ hms
    obtain ⟨v1, q1, vs1, hv1, way1, hq1, o1, hs1, kk⟩ := hr B F1 H1 σ ex G ws i sl o ks xs xs' y Q s1 hi ho hat hf
    rw [hset] at hs1
    cases hs1
    rw [hv] at hv1
    cases hv1
    have : V.ref q1 = V.ref q := way_uniq sm1 way way1
    cases this
    exact kk fun F2 H2 v2 s2 => k F2 H2 v2 (by rw [he]; exact s2) fun z => nomatch z
  unfold mUpK at hm
  split at hm
  · rename_i ks o ys ex hk hi hms
    split at hm
    · rename_i xs hat
      split at hm
      · rename_i xs' y' hf
        split at hm
        · rename_i o' hset
          obtain ⟨rfl, rfl⟩ := so hm
          exact go hk hi rfl hms hat hf hset rfl
        · cases hm
      · cases hm
    · cases hm
  · rename_i ks o ys ex hk hi hms
    split at hm
    · rename_i xs hat
      split at hm
      · rename_i xs' y' hf
        split at hm
        · rename_i o' hset
          obtain ⟨rfl, rfl⟩ := so hm
          exact go hk hi rfl hms hat hf hset rfl
        · cases hm
      · cases hm
    · cases hm
  · cases hm
variable {X : Cx}
theorem d_upK {i : Nat} {bs : List (En → Option O)} {x ex : Expr} {es : List Expr} {ms : MD (List O)} {f : List O → List O → Option (List O × O)} {r : V → List V → Hp → VK → Prop} {tr : TE} {name : Str} {id : String} {apos cpos : Pos} (slot : Slot "list" name id) (hty : typeOf (.builtin id) = pure (.type "method_descriptor")) (hm : MtR X id r) (hr : UpK X.K f r)
    (hrec : Recv X.K i bs tr) (ho : PE X x tr) (hpu : PureA ms) (ha : PA X (ex :: es) (denA X.K true ms)) (hbase : attributeBase x name X.env (eval x X.env) = eval x X.env := by rfl)
    (hfew : ((backTo cpos (starEach (ex :: es) X.env)).all (fun x => !x.1) && (backToKw cpos (keywordEach [] X.env)).all (fun x => x.1.isSome)
      && decide ((ex :: es).length + ([] : List Keyword).length + (if ([] : List Keyword).isEmpty then 0 else 1) < 30)) = true := by rfl)
    (hline : (apos.endLine == cpos.line) = true := by rfl) (hs : starEach (ex :: es) X.env = (false, eval ex X.env) :: starEach es X.env := by rfl) (hplain : (backTo cpos (starEach es X.env)).any (·.1) = false := by rfl) :
    PE X (.Call (.Attribute x name apos) (ex :: es) [] cpos) (den X.K false (mUpK i bs ms f)) :=
  pe_imp (pe_bm PySem.F.plainAttrs_list slot hty hm ho ha hbase hfew hline hs hplain) (mUpK_den hr hrec hpu fun _ _ _ h => h)
theorem d_upK0 {i : Nat} {bs : List (En → Option O)} {x : Expr} {f : List O → List O → Option (List O × O)} {r : V → List V → Hp → VK → Prop} {tr : TE} {name : Str} {id : String} {apos cpos : Pos} (slot : Slot "list" name id) (hty : typeOf (.builtin id) = pure (.type "method_descriptor")) (hm : MtR X id r) (hr : UpK X.K f r)
    (hrec : Recv X.K i bs tr) (ho : PE X x tr) (hbase : attributeBase x name X.env (eval x X.env) = eval x X.env := by rfl) (hline : (apos.endLine == cpos.line) = true := by rfl) :
    PE X (.Call (.Attribute x name apos) [] [] cpos) (den X.K false (mUpK i bs aNil f)) :=
  pe_imp (pe_bm0 PySem.F.plainAttrs_list slot hty hm ho hbase hline) fun σ H Q h => mUpK_den (t := tNil) hr hrec pure_nil as_nil σ H Q h
theorem px1 {a b : Expr} {i : Nat} {mb : En → Option O} {pos : Pos} (ha : PE X a (tVar i)) (hb : PE X b (denB X.K mb)) (hs : PlainIx b) : PE X (.Subscript a b pos) (tOp (rIx X.K) (tVar i) (denB X.K mb)) := pe_ix ix_seq ha hb hs
theorem d_globI {x : Str} {i : Int} {pos : Pos} (hg : Gl X x) (hm : ∃ t, X.mg x = some (.int i t)) (hdb : (x == ("__debug__" : Str)) = false := by decide) : PE X (.Name x pos) (den X.K true (mC (.int i))) := by
  obtain ⟨t, hm⟩ := hm
  exact d_glob (v := .int i) hg hm ⟨t, rfl⟩ rfl hdb
end
end Dn
namespace Dn
open PySem L2
section
variable {K : PySem.W.Frag} {F H : Hp} {X : Cx}
end
end Dn
namespace Dn
open PySem L2
def dblRow (d : PyData) : O → Option O
  | .l zs => (match O.allV zs with
    | some ds => if ds.length + 1 ≤ sizeLine then some (.l ((ds ++ [d]).map .v)) else none
    | none => none)
  | _ => none
def dblRows (d : PyData) : List O → Option (List O)
  | [] => some []
  | x :: xs => (match dblRow d x, dblRows d xs with
    | some y, some ys => some (y :: ys)
    | _, _ => none)
def mDbl (i r y : Nat) : MS := fun e => match e[i]?, e[r]?, e[y]? with
  | some (.own (.l xs)), some .no, some (.own (.v d)) => if i ≠ r ∧ y ≠ r ∧ xs.length + xs.length ≤ sizeLine then (match dblRows d xs with
    | some ys => some (.nx (e.set i (.own (.l (xs ++ ys)))))
    | none => none) else none
  | _, _, _ => none
theorem dblRows_len {d : PyData} : ∀ {xs ys : List O}, dblRows d xs = some ys → ys.length = xs.length
  | [], _, h => by cases h; rfl
  | x :: xs, ys, h => by
    unfold dblRows at h
    split at h
    · rename_i h1 h2
      cases h
      rw [List.length_cons, List.length_cons, dblRows_len h2]
    · cases h
theorem dblRows_snoc {d : PyData} {x y : O} (hy : dblRow d x = some y) : ∀ {xs ys : List O}, dblRows d xs = some ys → dblRows d (xs ++ [x]) = some (ys ++ [y])
  | [], _, h => by
    cases h
    show (match dblRow d x, some [] with | some y, some ys => some (y :: ys) | _, _ => none) = some [y]
    rw [hy]
  | z :: xs, ys, h => by
    unfold dblRows at h
    split at h
    · rename_i a b h1 h2
      cases h
      rw [List.cons_append]
      unfold dblRows
      rw [h1, dblRows_snoc hy h2]
      rfl
    · cases h
theorem dblRows_get {d : PyData} {x : O} : ∀ {xs ys : List O} {k : Nat}, dblRows d xs = some ys → xs[k]? = some x → ∃ y, dblRow d x = some y
  | [], _, k, _, h => by simp at h
  | z :: xs, ys, k, h, hk => by
    unfold dblRows at h
    split at h
    · rename_i a b h1 h2
      cases k with
      | zero => simp at hk; subst hk; exact ⟨a, h1⟩
      | succ k => exact dblRows_get h2 (by simpa using hk)
    · cases h
section
variable {K : PySem.W.Frag} {F H : Hp} {X : Cx} {B : Bs} {σ : St} {e : En} {G : Ws}
theorem rpl_allV : ∀ {w : Ws} {T : List Addr} {ds : List PyData}, RpL K F H w T → O.allV (w.map (·.2)) = some ds → DfAll K F (w.map (·.1)) ds
  | [], _, _, _, h => by cases h; exact .nil
  | (v, x) :: w, _, ds, .cons a t, h => by
    rw [List.map_cons] at h
    cases x with
    | v d =>
      unfold O.allV at h
      split at h
      · rename_i ds' h'
        cases h
        exact .cons (rp_v a) (rpl_allV t h')
      · cases h
    | _ => cases h
theorem Sta.unwipe {r : Nat} (s : Sta K B F H (wipe σ [r]) e G) (h : e[r]? = some .no) : Sta K B F H σ e G := by
  have q := s.wipe1 (v := r) (x := (σ[r]?).join)
  rw [set_self h] at q
  have : (wipe σ [r]).set r (σ[r]?).join = σ := by
    show ((wipe σ []).set r none).set r _ = σ
    rw [List.set_set]
    exact set_join
  rw [this] at q
  exact q
theorem wipe1_get {r j : Nat} (h : ¬ j = r) : (wipe σ [r])[j]? = σ[j]? := by
  rw [wipe_get, if_neg (by simpa using h)]
theorem ds_dbl {i r y : Nat} {x : Str} {ex : Expr} {pos pos' : Pos} (hN : X.N.Nodup) (hi : X.N[i]? = some x) (hx : Loc X.env.scope x)
    (he : PE X ex (tOp (rAddA X.K) (tVar i) (tLc (iList X.K (tVar i)) (gName r) tYes (tOp rCat (tVar r) (tLst (tCons (tVar y) tNil))) [r])))
    (hs : swapsWith ex (some (.Name x pos')) pos.line X.env = pure false := by rfl) (hf : X.fn x = true ∨ X.env.scope.names.lookup x = some .local := by first | exact .inl rfl | exact .inr rfl | assumption) :
    PS X (.Assign [.Name x pos'] ex pos) (denS X.K (mDbl i r y)) := ps_imp (ps_set hN hi hx he hs hf) fun D σ H ⟨B, F, e, G, oc, s, hm, k⟩ => by
  unfold mDbl at hm
  split at hm
  · rename_i xs d h1 h2 h3
    split at hm
    · rename_i hne
      obtain ⟨n1, n2, hlen⟩ := hne
      split at hm
      · rename_i ys h4
        cases hm
        obtain ⟨v, hv, T, rv⟩ := s.seeO h1 (show (Sl.own (.l xs)).o? = some (.l xs) from rfl)
        obtain ⟨u, hu, Tu, ru⟩ := s.seeO h3 (show (Sl.own (.v d)).o? = some (.v d) from rfl)
        cases rv with
        | l hp e1 e2 rl =>
          rename_i p vs ws T'
          refine ⟨_, hv, _, hv, p, rfl, ⟨_, .of hp⟩, fun D' hD => ?_⟩
          have s0 : Sta X.K B F H (wipe σ [r]) e G := by
            have q := s.hide (vs := [r])
            have e3 : Dn.hide e [r] = e := by
              show (Dn.hide e []).set r .no = e
              exact set_self h2
            rw [e3] at q
            exact q
          refine ⟨fun j m H' => j + m = xs.length ∧ ∃ F' acc, Sta X.K B F' H' (wipe σ [r]) e ((.ref D', .l acc) :: G) ∧ dblRows d (xs.take j) = some acc, ⟨xs.length, by omega, F, [], s0.newL (w := []) hD, rfl⟩, fun j m H' ⟨hjm, F', acc, s1, ha⟩ => ?_⟩
          obtain ⟨v1, hv1, T1, rv1⟩ := s1.seeO h1 (show (Sl.own (.l xs)).o? = some (.l xs) from rfl)
          rw [wipe1_get n1, hv] at hv1
          cases hv1
          cases rv1 with
          | l hp1 f1 f2 rl1 =>
            rename_i vs1 ws1 T1'
            cases m with
            | zero =>
              have hj : j = xs.length := by omega
              subst hj
              left
              refine ⟨⟨_, .of hp1, ?_⟩, ?_⟩
              · rw [f1, f2, List.length_map, List.length_map]; exact Nat.le_refl _
              · rw [List.take_length] at ha
                have : acc = ys := by rw [ha] at h4; exact Option.some.inj h4
                subst this
                have s2 := s1.unwipe h2
                obtain ⟨v2, hv2, s3⟩ := s2.out h1 (show (Sl.own (.l xs)).o? = some (.l xs) from rfl)
                rw [hv] at hv2
                cases hv2
                have hal := dblRows_len ha
                refine al_add B F' H' σ (e.set i .no) G [(.ref p, .l xs), (.ref D', .l acc)] (.l (xs ++ acc)) _ s3 ?_ fun F4 H4 v4 s4 _ => ?_
                · show (if xs.length + acc.length ≤ sizeLine then some (O.l (xs ++ acc)) else none) = _
                  rw [if_pos (by omega)]
                · have hlt := (List.getElem?_eq_some_iff.mp h1).1
                  have s5 := setE_store (i := i) (e' := e.set i (.own (.l (xs ++ acc)))) s4 (by
                    unfold setE
                    rw [List.getElem?_set_self hlt, List.set_set])
                  exact k F4 H4 _ s5
            | succ m =>
              right
              have hjl : j < xs.length := by omega
              have hw : j < ws1.length := by
                have : xs.length = ws1.length := by rw [f2, List.length_map]
                omega
              have hgo : vs1[j]? = some (ws1[j]).1 := by rw [f1, List.getElem?_map, List.getElem?_eq_getElem hw]; rfl
              refine ⟨⟨_, (ws1[j]).1, .of hp1, hgo⟩, fun H'' => ∃ F' acc, Sta X.K B F' H'' (wipe σ [r]) e ((.ref D', .l acc) :: G) ∧ dblRows d (xs.take (j + 1)) = some acc, fun H'' q => ⟨m, Nat.lt_succ_self _, by omega, q⟩, fun z H3 hz => ?_⟩
              obtain ⟨rfl, hz2⟩ := hz
              have hzz := hz2 _ (.of hp1)
              rw [hgo] at hzz
              cases hzz
              have hxj : xs[j]? = some (ws1[j]).2 := by rw [f2, List.getElem?_map, List.getElem?_eq_getElem hw]; rfl
              obtain ⟨Tj, rj⟩ := rpl_get rl1 (List.getElem?_eq_getElem hw)
              obtain ⟨yj, hyj⟩ := dblRows_get h4 hxj
              have hr : r < (wipe σ [r]).length := by
                have := (List.getElem?_eq_some_iff.mp h2).1
                rw [s1.ok.len]; exact this
              show wipe ((wipe σ [r]).set r (some ws1[j].1)) [r] = wipe σ [r] ∧ tYes ((wipe σ [r]).set r (some ws1[j].1)) H3 _
              constructor
              · rw [wipe_set (List.mem_singleton.mpr rfl), wipe_wipe]
              · unfold tYes
                dsimp only
                rw [if_pos rfl]
                generalize ws1[j] = wj at *
                obtain ⟨z, oz⟩ := wj
                simp only at hgo hxj rj
                cases oz with
                | l zs =>
                  unfold dblRow at hyj
                  dsimp only at hyj
                  split at hyj
                  · rename_i ds hds
                    split at hyj
                    · rename_i hsz
                      cases hyj
                      cases rj with
                      | l hq g1 g2 rlq =>
                        rename_i q zv wz Tz
                        subst g2
                        have hdf := rpl_allV rlq hds
                        have hzl := dfa_len hdf
                        obtain ⟨u1, hu1, Tu1, ru1⟩ := s1.seeO h3 (show (Sl.own (.v d)).o? = some (.v d) from rfl)
                        rw [wipe1_get n2, hu] at hu1
                        cases hu1
                        have hdu := rp_v ru1
                        refine ⟨.ref q, by rw [List.getElem?_set_self hr], u, by rw [List.getElem?_set_ne (fun z => n2 z.symm), wipe1_get n2]; exact hu, by show 1 ≤ sizeLine; decide, fun p1 hp1' => ?_⟩
                        have hqp : q ≠ p1 := fun z => by rw [z, hp1'] at hq; cases hq
                        refine ⟨q, p1, zv, [u], rfl, rfl, by rw [upd_ne hqp]; exact hq, upd_same, by rw [g1]; rw [List.length_map] at hzl ⊢; show wz.length + 1 ≤ sizeLine; omega, fun t ht => ?_⟩
                        have s2 : Sta X.K B F' _ (wipe σ [r]) e _ := (s1.push hdu).newL (w := [(u, .v d)]) hp1'
                        have s3 := s2.pop
                        have hdd : DfAll X.K F' (zv ++ [u]) (ds ++ [d]) := by rw [g1]; exact dfa_append hdf (.cons hdu .nil)
                        have s4 := (s3.pushAll hdd).newL ht
                        have hl4 := dfa_len hdd
                        rw [zip_fst (by rw [List.length_map]; exact hl4), zip_snd (by rw [List.length_map]; exact hl4)] at s4
                        have s5 := s4.perm (.swap _ _ _)
                        obtain ⟨p', w, hpe, hp', hw2, qq⟩ := (s5.rel.perm (mid _ _ _)).put
                        cases hpe
                        have hla : acc.length ≤ j := by
                          have := dblRows_len ha
                          rw [List.length_take] at this
                          omega
                        refine ⟨w.map (fun x : V × O => x.1), hp', ?_, ⟨F', acc ++ [.l ((ds ++ [d]).map .v)], ?_, ?_⟩⟩
                        · rw [List.length_map]
                          have : w.length = acc.length := by rw [← hw2, List.length_map]
                          omega
                        · have r2 := qq (w ++ [(.ref t, .l ((ds ++ [d]).map .v))]) (slots (wipe σ [r]) e ++ G) (by
                            rw [List.append_assoc]
                            refine List.Perm.append_left _ ?_
                            exact mid _ _ _)
                          rw [List.map_append (f := fun x : V × O => x.1), List.map_append (f := fun x : V × O => x.2), hw2] at r2
                          exact ⟨s5.ok, r2.perm (mid _ _ _).symm⟩
                        · rw [List.take_succ_eq_append_getElem hjl]
                          refine dblRows_snoc ?_ ha
                          have : xs[j] = .l (wz.map (·.2)) := by
                            rw [List.getElem?_eq_getElem hjl] at hxj
                            exact Option.some.inj hxj
                          rw [this]
                          show (match O.allV (wz.map (·.2)) with | some ds => if ds.length + 1 ≤ sizeLine then some (O.l ((ds ++ [d]).map .v)) else none | none => none) = _
                          rw [hds]
                          dsimp only
                          rw [if_pos hsz]
                    · cases hyj
                  · cases hyj
                | _ => cases hyj
      · cases hm
    · cases hm
  · cases hm
end
end Dn
namespace L2
open PySem PySem.Spec PyProof.Rows
end L2
namespace Dn
open PySem L2
variable {K : PySem.W.Frag}
end Dn
namespace Dn
open PySem L2
def keyD : PyData → Option Key
  | .int i => some (.inl i)
  | .str x => some (.inr x)
  | _ => none
def keysD : List PyData → Option (List Key)
  | [] => some []
  | d :: ds => (match keyD d, keysD ds with
    | some k, some ks => some (k :: ks)
    | _, _ => none)
section
variable {κ : Type} [DecidableEq κ]
def dval (kvs : List (κ × PyData)) (k : κ) : Option PyData := (kvs.find? fun kv => decide (kv.1 = k)).map (·.2)
def dput (kvs : List (κ × PyData)) (k : κ) (v : PyData) : List (κ × PyData) :=
  if (kvs.any fun kv => decide (kv.1 = k)) = true then kvs.map (fun kv => if kv.1 = k then (kv.1, v) else kv) else kvs ++ [(k, v)]
variable {K : PySem.W.Frag} {F : Hp}
theorem dval_ok (k : κ) : ∀ {kvs : List (κ × V)} {ks : List (κ × PyData)} {d : PyData}, kvs.map (·.1) = ks.map (·.1) → DfAll K F (kvs.map (·.2)) (ks.map (·.2)) → dval ks k = some d → ∃ v, valV kvs k = some v ∧ Df K F v d
  | [], [], d, _, _, h => by simp [dval] at h
  | [], _ :: _, _, h, _, _ => by simp at h
  | _ :: _, [], _, h, _, _ => by simp at h
  | (a, v) :: kvs, (b, e) :: ks, d, h1, h2, h3 => by
    simp only [List.map_cons, List.cons.injEq] at h1 h2
    obtain ⟨rfl, h1⟩ := h1
    cases h2 with
    | cons hv ht =>
      by_cases q : a = k
      · have : dval ((a, e) :: ks) k = some e := by simp [dval, List.find?_cons, q]
        rw [this] at h3
        cases h3
        exact ⟨v, valV_pos q, hv⟩
      · have : dval ((a, e) :: ks) k = dval ks k := by simp [dval, List.find?_cons, q]
        rw [this] at h3
        obtain ⟨u, e1, e2⟩ := dval_ok k h1 ht h3
        exact ⟨u, by rw [valV_neg (by exact q)]; exact e1, e2⟩
theorem any_keys (k : κ) : ∀ {α β : Type} {kvs : List (κ × α)} {ks : List (κ × β)}, kvs.map (·.1) = ks.map (·.1) → (kvs.any fun kv => decide (kv.1 = k)) = ks.any fun kv => decide (kv.1 = k)
  | _, _, [], [], _ => rfl
  | _, _, [], _ :: _, h => by simp at h
  | _, _, _ :: _, [], h => by simp at h
  | _, _, (a, v) :: kvs, (b, e) :: ks, h1 => by
    simp only [List.map_cons, List.cons.injEq] at h1
    obtain ⟨rfl, h1⟩ := h1
    rw [List.any_cons, List.any_cons, any_keys k h1]
theorem rep_keys (k : κ) {α : Type} (v : α) : ∀ (kvs : List (κ × α)), (kvs.map (fun kv => if kv.1 = k then (kv.1, v) else kv)).map (·.1) = kvs.map (·.1)
  | [] => rfl
  | (a, e) :: kvs => by
    rw [List.map_cons, List.map_cons, List.map_cons, rep_keys k v kvs]
    by_cases q : a = k
    · simp [q]
    · simp [q]
theorem rep_df (k : κ) {v : V} {d : PyData} (hv : Df K F v d) : ∀ {kvs : List (κ × V)} {ks : List (κ × PyData)}, kvs.map (·.1) = ks.map (·.1) → DfAll K F (kvs.map (·.2)) (ks.map (·.2)) → DfAll K F ((kvs.map (fun kv => if kv.1 = k then (kv.1, v) else kv)).map (·.2)) ((ks.map (fun kv => if kv.1 = k then (kv.1, d) else kv)).map (·.2))
  | [], [], _, _ => .nil
  | [], _ :: _, h, _ => by simp at h
  | _ :: _, [], h, _ => by simp at h
  | (a, u) :: kvs, (b, e) :: ks, h1, h2 => by
    simp only [List.map_cons, List.cons.injEq] at h1
    obtain ⟨rfl, h1⟩ := h1
    rw [List.map_cons, List.map_cons] at h2
    cases h2 with
    | cons hu ht =>
      have ih := rep_df k hv h1 ht
      by_cases q : a = k
      · simp only [List.map_cons, q, if_true]
        exact .cons hv ih
      · simp only [List.map_cons, q, if_false]
        exact .cons hu ih
theorem dput_ok {k : κ} {v : V} {d : PyData} {kvs : List (κ × V)} {ks : List (κ × PyData)} (hv : Df K F v d) (h1 : kvs.map (·.1) = ks.map (·.1)) (h2 : DfAll K F (kvs.map (·.2)) (ks.map (·.2))) :
    (putK kvs k v).map (·.1) = (dput ks k d).map (·.1) ∧ DfAll K F ((putK kvs k v).map (·.2)) ((dput ks k d).map (·.2)) := by
  unfold putK dput
  rw [any_keys k h1]
  split
  · exact ⟨by rw [rep_keys, rep_keys, h1], rep_df k hv h1 h2⟩
  · refine ⟨by rw [List.map_append, List.map_append, h1]; rfl, ?_⟩
    rw [List.map_append, List.map_append]
    exact dfa_append h2 (.cons hv .nil)
end
section
variable {K : PySem.W.Frag} {H0 F0 F H : Hp} {ws : Ws} {B : Bs} {σ : St} {e : En} {G : Ws} {X : Cx}
theorem keysD_v : ∀ {vs : List V} {ds : List PyData} {ks : List Key}, DfAll K F vs ds → keysD ds = some ks → vs = ks.map kV
  | _, [], _, .nil, h => by cases h; rfl
  | _, d :: ds, ks, .cons a t, h => by
    unfold keysD at h
    split at h
    · rename_i k ks' h1 h2
      cases h
      rw [List.map_cons, ← keysD_v t h2]
      congr 1
      cases d <;> simp only [keyD, Option.some.injEq, reduceCtorEq] at h1
      · subst h1; cases a; rfl
      · subst h1; cases a; rfl
    · cases h
theorem keyD_v {v : V} {d : PyData} {k : Key} (a : Df K F v d) (h1 : keyD d = some k) : v = kV k := by
  cases d <;> simp only [keyD, Option.some.injEq, reduceCtorEq] at h1
  · subst h1; cases a; rfl
  · subst h1; cases a; rfl
theorem Sta.newT0 {p : Addr} (s : Sta K B F H σ e G) (h : H p = none) : Sta K B F (upd H p (.dT [])) σ e ((.ref p, .dt []) :: G) :=
  ⟨s.ok, (Rel.newWith (w := []) s.rel h fun T m => by cases m; exact .dt upd_same rfl .nil).perm (mid _ _ _).symm⟩
def mDnT : MD O := fun e => some (.dt [], e)
theorem d_dnT {pos : Pos} : PE X (.Dict [] [] pos) (den X.K true mDnT) := pe_imp pe_dnewT fun σ H Q ⟨B, F, e, G, x, e', s, hm, k⟩ => by
  cases hm
  exact fun p hp => k F _ _ (s.newT0 hp) fun _ => same_upd hp
def dgetO : O → PyData → Option (Option PyData)
  | .dt kvs, .tuple ds => (match keysD ds with
    | some k => some (dval kvs k)
    | none => none)
  | .dk kvs, d => (match keyD d with
    | some k => some (dval kvs k)
    | none => none)
  | _, _ => none
def dputO : O → PyData → PyData → Option O
  | .dt kvs, .tuple ds, d => (match keysD ds with
    | some k => if kvs.length < sizeLine then some (.dt (dput kvs k d)) else none
    | none => none)
  | .dk kvs, y, d => (match keyD y with
    | some k => if kvs.length < sizeLine then some (.dk (dput kvs k d)) else none
    | none => none)
  | _, _, _ => none
theorem dget_run {F H : Hp} {v y : V} {x : O} {d z : PyData} {T : List Addr} (fh : Same F H) (r : Rp K F H v x T) (hy : Df K F y d) (h : dgetO x d = some (some z)) : ∃ a u, v = .ref a ∧ DGet H a y (some u) ∧ Df K F u z := by
  cases r with
  | dt hp e1 a =>
    rename_i p kvs ks
    cases d with
    | tuple ds =>
      have h' : (match keysD ds with | some k => some (dval ks k) | none => none) = some (some z) := h
      split at h'
      · rename_i k hk
        cases hy with
        | tup hb hall =>
          have := keysD_v hall hk
          subst this
          obtain ⟨u, h1, h2⟩ := dval_ok k e1 a (Option.some.inj h')
          exact ⟨p, u, rfl, by rw [← h1]; exact DGet.t hp (fh _ _ hb), h2⟩
      · cases h'
    | _ => cases h
  | dk hp e1 a =>
    rename_i p kvs ks
    have h' : (match keyD d with | some k => some (dval ks k) | none => none) = some (some z) := h
    split at h'
    · rename_i k hk
      have := keyD_v hy hk
      subst this
      obtain ⟨u, h1, h2⟩ := dval_ok k e1 a (Option.some.inj h')
      exact ⟨p, u, rfl, by rw [← h1]; exact DGet.k hp, h2⟩
    · cases h'
  | _ => cases h
def mDget (i : Nat) (mk : MD O) : MD O := fun e => match bVar i e with
  | some _ => (match mk e with
    | some (.v d, e1) => (match bVar i e1 with
      | some x => (match dgetO x d with
        | some (some z) => some (.v z, e1)
        | _ => none)
      | none => none)
    | _ => none)
  | none => none
theorem d_dget {i : Nat} {p : Bool} {o k : Expr} {mk : MD O} {pos : Pos} (hu : X.A.units + 65 < cLine) (ho : PE X o (tVar i)) (hk : PE X k (den X.K p mk)) (hs : NoSl k) : PE X (.Subscript o k pos) (den X.K p (mDget i mk)) := pe_imp (pe_dget (by omega) ho hk hs) fun σ H Q ⟨B, F, e, G, x, e', s, hm, kk⟩ => by
  unfold mDget at hm
  split at hm
  · rename_i x0 h0
    split at hm
    · rename_i d e1 h1
      split at hm
      · rename_i y h2
        split at hm
        · rename_i z h3
          obtain ⟨rfl, rfl⟩ := so hm
          obtain ⟨sl0, hi0, ho0⟩ := Option.bind_eq_some_iff.mp h0
          obtain ⟨v, hv, _⟩ := s.seeO hi0 ho0
          refine ⟨v, hv, ⟨B, F, e, G, _, e1, s, h1, fun F1 H1 u s1 sm => ?_⟩⟩
          obtain ⟨sl, hi, ho⟩ := Option.bind_eq_some_iff.mp h2
          obtain ⟨v', hv', T, r⟩ := s1.seeO hi ho
          obtain rfl : v' = v := by rw [hv] at hv'; cases hv'; rfl
          obtain ⟨T', ru⟩ := s1.at
          obtain ⟨a, w, e2, g, hw⟩ := dget_run s1.fh r (rp_v ru) h3
          exact ⟨a, w, e2, g, kk F1 H1 w (s1.pop.push hw) sm⟩
        · cases hm
      · cases hm
    · cases hm
  · cases hm
theorem Rel.putD {v : V} {x x' : O} {y : V} {yd d : PyData} {u : V} (r : Rel K H0 F0 F H ((v, x) :: ws)) (hy : Df K F y yd) (hu : Df K F u d) (h : dputO x yd d = some x') : ∃ a H', v = .ref a ∧ DPut H a y u H' ∧ Rel K H0 F0 F H' ((v, x') :: ws) := by
  obtain ⟨T, rl, nd, hT⟩ := r.res
  cases rl with
  | cons a t =>
    rename_i T1 T2
    have main : ∀ (p : Addr) (ob : HO), v = .ref p → T1 = [p] → H p ≠ none → Rp K F (upd H p ob) (.ref p) x' [p] → Rel K H0 F0 F (upd H p ob) ((v, x') :: ws) := by
      intro p ob hv ht _ hr
      subst hv
      subst ht
      have hpn := hT p (List.mem_append_left _ (List.mem_cons_self ..))
      have nd0 := nd
      rw [List.cons_append] at nd
      obtain ⟨np, nd2⟩ := List.nodup_cons.mp nd
      rw [List.nil_append] at np
      refine ⟨fun q o e => ?_, r.f0, r.fn, fun q o e => ?_, [p] ++ T2, .cons hr (rpl_mono (Same.refl F) t fun q hq => upd_ne fun z => np (z ▸ hq)), nd0, hT⟩
      · have : q ≠ p := fun z => by rw [z, hpn.2] at e; cases e
        rw [upd_ne this]
        exact r.h0 q o e
      · have : q ≠ p := fun z => by rw [z, hpn.1] at e; cases e
        rw [upd_ne this]
        exact r.fh q o e
    cases a with
    | dt hp e1 hall =>
      rename_i p kvs ks
      cases yd with
      | tuple ds =>
        have h' : (match keysD ds with | some k => if ks.length < sizeLine then some (O.dt (dput ks k d)) else none | none => none) = some x' := h
        split at h'
        · rename_i k hk
          split at h'
          · rename_i hl
            cases h'
            cases hy with
            | tup hb hal =>
              have := keysD_v hal hk
              subst this
              obtain ⟨q1, q2⟩ := dput_ok (k := k) hu e1 hall
              have hlen : kvs.length = ks.length := by
                have := congrArg List.length e1
                simpa using this
              exact ⟨p, _, rfl, DPut.t hp (r.fh _ _ hb) (by rw [hlen]; exact hl), main p _ rfl rfl (by rw [hp]; exact nofun) (.dt upd_same q1 q2)⟩
          · cases h'
        · cases h'
      | _ => cases h
    | dk hp e1 hall =>
      rename_i p kvs ks
      have h' : (match keyD yd with | some k => if ks.length < sizeLine then some (O.dk (dput ks k d)) else none | none => none) = some x' := h
      split at h'
      · rename_i k hk
        split at h'
        · rename_i hl
          cases h'
          have := keyD_v hy hk
          subst this
          obtain ⟨q1, q2⟩ := dput_ok (k := k) hu e1 hall
          have hlen : kvs.length = ks.length := by
            have := congrArg List.length e1
            simpa using this
          exact ⟨p, _, rfl, DPut.k hp (by rw [hlen]; exact hl), main p _ rfl rfl (by rw [hp]; exact nofun) (.dk upd_same q1 q2)⟩
        · cases h'
      · cases h'
    | _ => cases h
theorem Sta.putD {i : Nat} {sl : Sl} {x x' : O} {y u : V} {yd d : PyData} (s : Sta K B F H σ e ((y, .v yd) :: (u, .v d) :: G)) (hi : e[i]? = some sl) (ho : sl.o? = some x) (h : dputO x yd d = some x') :
    ∃ a H', σ[i]? = some (some (.ref a)) ∧ DPut H a y u H' ∧ Sta K B F H' σ (e.set i (sl.like x')) G := by
  obtain ⟨Ty, ry⟩ := s.at
  obtain ⟨Tu, ru⟩ := s.pop.at
  obtain ⟨v, hv, s1⟩ := s.pop.pop.out hi ho
  obtain ⟨a, H', rfl, g, r⟩ := (s1.rel.perm (mid _ _ _)).putD (rp_v ry) (rp_v ru) h
  refine ⟨a, H', hv, g, ?_⟩
  have hl : i < e.length := (List.getElem?_eq_some_iff.mp hi).1
  have ok : SlOk B.vs σ (e.set i (sl.like x')) := by
    cases sl with
    | no => cases ho
    | own o => exact s.ok.own hi
    | pin o => exact s.ok.pin hi
  have hlo : (sl.like x').o? = some x' := by
    cases sl with
    | no => cases ho
    | own o => rfl
    | pin o => rfl
  exact ⟨ok, r.perm ((slots_put hlo hl hv).append_right G).symm⟩
def mDput (i : Nat) (mv mk : MD O) : MS := fun e => match mv e with
  | some (.v d, e1) => (match bVar i e1 with
    | some _ => (match mk e1 with
      | some (.v yd, e2) => (match e2[i]? with
        | some (.own x) => (match dputO x yd d with
          | some x' => some (.nx (e2.set i (.own x')))
          | none => none)
        | some (.pin x) => (match dputO x yd d with
          | some x' => some (.nx (e2.set i (.pin x')))
          | none => none)
        | _ => none)
      | _ => none)
    | none => none)
  | _ => none
theorem ds_dput {i : Nat} {p q : Bool} {o k v : Expr} {mv mk : MD O} {pos pos' : Pos} (hu : X.A.units + 65 < cLine) (hv : PE X v (den X.K p mv)) (ho : PE X o (tVar i)) (hk : PE X k (den X.K q mk)) (hs : swapsWith v (some (.Subscript o k pos')) pos.line X.env = pure false := by rfl) :
    PS X (.Assign [.Subscript o k pos'] v pos) (denS X.K (mDput i mv mk)) := ps_imp (ps_dput (by omega) ho hk hv hs) fun D σ H ⟨B, F, e, G, oc, s, hm, kk⟩ => by
  unfold mDput at hm
  split at hm
  · rename_i d e1 h1
    split at hm
    · rename_i x0 h0
      split at hm
      · rename_i yd e2 h2
        refine ⟨B, F, e, G, _, e1, s, h1, fun F1 H1 u s1 _ => ?_⟩
        obtain ⟨sl0, hi0, ho0⟩ := Option.bind_eq_some_iff.mp h0
        obtain ⟨v0, hv0, _⟩ := s1.seeO hi0 ho0
        refine ⟨v0, hv0, ⟨B, F1, e1, _, _, e2, s1, h2, fun F2 H2 y s2 _ => ?_⟩⟩
        split at hm
        · rename_i x hx
          split at hm
          · rename_i x' hx'
            cases hm
            obtain ⟨a, H', g1, g2, g3⟩ := s2.putD hx rfl hx'
            rw [hv0] at g1
            cases g1
            exact ⟨a, H', rfl, g2, kk F2 H' σ g3⟩
          · cases hm
        · rename_i x hx
          split at hm
          · rename_i x' hx'
            cases hm
            obtain ⟨a, H', g1, g2, g3⟩ := s2.putD hx rfl hx'
            rw [hv0] at g1
            cases g1
            exact ⟨a, H', rfl, g2, kk F2 H' σ g3⟩
          · cases hm
        · cases hm
      · cases hm
    · cases hm
  · cases hm
def mDgetE (m mk : MD O) : MD O := fun e => match m e with
  | some (x, e1) => (match mk e1 with
    | some (.v d, e2) => (match dgetO x d with
      | some (some z) => some (.v z, e2)
      | _ => none)
    | _ => none)
  | none => none
theorem d_dgetE {p q : Bool} {o k : Expr} {m mk : MD O} {pos : Pos} (hu : X.A.units + 65 < cLine) (ho : PE X o (den X.K p m)) (hk : PE X k (den X.K q mk)) (hs : NoSl k) : PE X (.Subscript o k pos) (den X.K (p && q) (mDgetE m mk)) := pe_imp (pe_dget (by omega) ho hk hs) fun σ H Q ⟨B, F, e, G, x, e', s, hm, kk⟩ => by
  unfold mDgetE at hm
  split at hm
  · rename_i x e1 h1
    split at hm
    · rename_i d e2 h2
      split at hm
      · rename_i z h3
        obtain ⟨rfl, rfl⟩ := so hm
        refine ⟨B, F, e, G, x, e1, s, h1, fun F1 H1 v s1 sm1 => ⟨B, F1, e1, _, _, e2, s1, h2, fun F2 H2 y s2 sm2 => ?_⟩⟩
        obtain ⟨Ty, ry⟩ := s2.at
        obtain ⟨T, r⟩ := s2.pop.at
        obtain ⟨a, w, e3, g, hw⟩ := dget_run s2.fh r (rp_v ry) h3
        exact ⟨a, w, e3, g, kk F2 H2 w (s2.pop.pop.push hw) fun z => (sm1 (band1 z)).trans (sm2 (band2 z))⟩
      · cases hm
    · cases hm
  · cases hm
end
end Dn
namespace Dn
open PySem L2
section
variable {X : Cx} {K : PySem.W.Frag}
def strFit (d : PyData) : Bool := d.showable && !d.hasDict && decide (d.depth ≤ 60) && decide (d.shown.length ≤ sizeLine)
def rStrR (K : PySem.W.Frag) : List V → Hp → VK → Prop := fun xs H Q => ∃ a d, xs = [V.ref a] ∧ Dp K H (V.ref a) d ∧ strFit d = true ∧ Q (.str d.shown) H
theorem call_strR (hu : X.A.units + 65 < cLine) (hg : X.A.guards = some []) : CallR X (.type "str") (rStrR X.K) := by
  intro pins s σ H xs us Q I r h
  obtain ⟨a, d, rfl, hd, hf, q⟩ := h
  obtain ⟨u, rfl, ru⟩ := vals1 r
  obtain rfl : u = Value.ref a := ru
  obtain ⟨as, hr⟩ := Dp.reads I d (.ref a) (.ref a) hd rfl
  simp only [strFit, Bool.and_eq_true, Bool.not_eq_true', decide_eq_true_eq] at hf
  obtain ⟨⟨⟨h1, h2⟩, h3⟩, h4⟩ := hf
  exact str_of_reads hr h1 (fun z => by rw [h2] at z; cases z) hg (by omega) (fun _ _ e => e) (fun h' u tk hk => ⟨.str d.shown, H, I.kept (t' := tk) hk, ⟨u, rfl⟩, q⟩) h4
def rStrA (K : PySem.W.Frag) : List V → Hp → VK → Prop := fun xs H Q => ((∃ i, xs = [.int i] ∧ i.natAbs.log2 < 1920 ∧ Q (.str (toString i)) H) ∨ ∃ a, xs = [.str a] ∧ Q (.str a) H) ∨ rStrR K xs H Q
theorem call_strA (hu : X.A.units + 65 < cLine) (hg : X.A.guards = some []) : CallR X (.type "str") (rStrA X.K) := callr_or (callr_or call_str_int SkE.call_str_str) (call_strR hu hg)
noncomputable def fStrD : List PyData → Option PyData
  | [.int i] => if shut (decide (i.natAbs.log2 < 1920)) = true then some (.str (toString i)) else none
  | [.str x] => some (.str x)
  | [.list ds] => if shut (strFit (.list ds)) = true then some (.str (PyData.shown (.list ds))) else none
  | [.tuple ds] => if shut (strFit (.tuple ds)) = true then some (.str (PyData.shown (.tuple ds))) else none
  | _ => none
theorem sc_strD : Sc K fStrD (rStrA K) := fun H vs ds z a hf => by
  unfold fStrD at hf
  split at hf
  · split at hf
    · rename_i i hi
      rw [shut_eq] at hi
      cases hf
      obtain ⟨v, rfl, b⟩ := dfa1 a
      obtain rfl := df_int b
      exact ⟨_, rfl, fun Q q => .inl (.inl ⟨i, rfl, of_decide_eq_true hi, q⟩)⟩
    · cases hf
  · rename_i x
    cases hf
    obtain ⟨v, rfl, b⟩ := dfa1 a
    obtain rfl := df_str b
    exact ⟨_, rfl, fun Q q => .inl (.inr ⟨x, rfl, q⟩)⟩
  · split at hf
    · rename_i ds hi
      rw [shut_eq] at hi
      cases hf
      obtain ⟨v, rfl, b⟩ := dfa1 a
      obtain ⟨p, ws, rfl, _, _⟩ := df_list b
      exact ⟨_, rfl, fun Q q => .inr ⟨p, _, rfl, b.dp (.refl H), hi, q⟩⟩
    · cases hf
  · split at hf
    · rename_i ds hi
      rw [shut_eq] at hi
      cases hf
      obtain ⟨v, rfl, b⟩ := dfa1 a
      obtain ⟨p, ws, rfl, _, _⟩ := df_tuple b
      exact ⟨_, rfl, fun Q q => .inr ⟨p, _, rfl, b.dp (.refl H), hi, q⟩⟩
    · cases hf
  · cases hf
end
end Dn
namespace Dn
open PySem L2
def scal (d : PyData) : Bool := (sV d).isSome
mutual
def O.free : O → Bool
  | .v d => scal d
  | .l xs => O.freeAll xs
  | .t xs => O.freeAll xs
  | .dk kvs => kvs.all fun kv => scal kv.2
  | .dt kvs => kvs.all fun kv => scal kv.2
  | _ => false
def O.freeAll : List O → Bool
  | [] => true
  | x :: xs => O.free x && O.freeAll xs
end
section
variable {K : PySem.W.Frag} {H0 F0 F H : Hp} {ws : Ws} {B : Bs} {σ : St} {e : En} {G : Ws} {X : Cx}
theorem df_scal {F F2 : Hp} {v : V} {d : PyData} (h : Df K F v d) (hs : scal d = true) : Df K F2 v d := by
  cases h with
  | non => exact .non
  | bl b => exact .bl b
  | int i => exact .int i
  | str x => exact .str x
  | lst _ _ => cases hs
  | tup _ _ => cases hs
theorem dfa_scal {F F2 : Hp} : ∀ {vs : List V} {ds : List PyData}, DfAll K F vs ds → (∀ d ∈ ds, scal d = true) → DfAll K F2 vs ds
  | _, _, .nil, _ => .nil
  | _, _, .cons a t, h => .cons (df_scal a (h _ (List.mem_cons_self ..))) (dfa_scal t fun d hd => h d (List.mem_cons_of_mem _ hd))
mutual
theorem rp_free {F F2 H : Hp} : ∀ {v : V} {o : O} {T : List Addr}, Rp K F H v o T → o.free = true → Rp K F2 H v o T
  | _, _, _, .v h, z => .v (df_scal h (by unfold O.free at z; exact z))
  | _, _, _, .s h, z => by unfold O.free at z; cases z
  | _, _, _, .fx h, z => by unfold O.free at z; cases z
  | _, _, _, .ex _ _ _, z => by unfold O.free at z; cases z
  | _, _, _, .l h e1 e2 r, z => .l h e1 e2 (rpl_free r (by unfold O.free at z; rw [e2] at z; exact z))
  | _, _, _, .t h e1 e2 r, z => .t h e1 e2 (rpl_free r (by unfold O.free at z; rw [e2] at z; exact z))
  | _, _, _, .dk h e1 a, z => .dk h e1 (dfa_scal a (by
    unfold O.free at z
    intro d hd
    obtain ⟨kv, hk, rfl⟩ := List.mem_map.mp hd
    exact List.all_eq_true.mp z kv hk))
  | _, _, _, .dt h e1 a, z => .dt h e1 (dfa_scal a (by
    unfold O.free at z
    intro d hd
    obtain ⟨kv, hk, rfl⟩ := List.mem_map.mp hd
    exact List.all_eq_true.mp z kv hk))
  | _, _, _, .ob _ h h' e0 e1 e2 r, z => by unfold O.free at z; cases z
theorem rpl_free {F F2 H : Hp} : ∀ {ws : Ws} {T : List Addr}, RpL K F H ws T → O.freeAll (ws.map (·.2)) = true → RpL K F2 H ws T
  | _, _, .nil, _ => .nil
  | _, _, .cons (ws := ws) h t, z => by
    rw [List.map_cons] at z
    unfold O.freeAll at z
    rw [Bool.and_eq_true] at z
    exact .cons (rp_free h z.1) (rpl_free t z.2)
end
def onlyFz (e : En) : En := e.map fun sl => match sl with
  | .own (.v d) => .own (.v d)
  | .own (.s ns) => .own (.s ns)
  | .pin (.v d) => .own (.v d)
  | .pin (.s ns) => .own (.s ns)
  | _ => .no
theorem slots_onlyFz : ∀ {σ : St} {e : En}, σ.length = e.length → ∃ r, (slots σ e).Perm (slots σ (onlyFz e) ++ r)
  | [], _, _ => ⟨[], by simp [slots]⟩
  | _ :: _, [], h => by simp at h
  | x :: σ, s :: e, h => by
    obtain ⟨r, pr⟩ := slots_onlyFz (σ := σ) (e := e) (by simpa using h)
    have key : ∀ (w : V × O) (l : Ws), (slots σ e).Perm (l ++ r) → (w :: slots σ e).Perm ((w :: l) ++ r) := fun w l p => p.cons w
    have drp : ∀ (w : V × O) (l : Ws), (slots σ e).Perm (l ++ r) → (w :: slots σ e).Perm (l ++ (w :: r)) := fun w l p => (p.cons w).trans (mid _ _ _).symm
    cases x with
    | none => exact ⟨r, by cases s with
        | no => exact pr
        | own o => cases o <;> exact pr
        | pin o => cases o <;> exact pr⟩
    | some v =>
      cases s with
      | no => exact ⟨r, pr⟩
      | own o =>
        cases o with
        | v d => exact ⟨r, key _ _ pr⟩
        | s ns => exact ⟨r, key _ _ pr⟩
        | _ => exact ⟨_, drp _ _ pr⟩
      | pin o =>
        cases o with
        | v d => exact ⟨r, key _ _ pr⟩
        | s ns => exact ⟨r, key _ _ pr⟩
        | _ => exact ⟨_, drp _ _ pr⟩
theorem slots_fz : ∀ {σ : St} {e : En} (w : V × O), w ∈ slots σ (onlyFz e) → w.2.fz = true
  | [], e, w, h => by simp [slots] at h
  | _ :: _, [], w, h => by simp [slots, onlyFz] at h
  | x :: σ, s :: e, w, h => by
    have ih := slots_fz (σ := σ) (e := e) w
    have key : ∀ (u : V × O) , u.2.fz = true → w ∈ (u :: slots σ (onlyFz e)) → w.2.fz = true := fun u hu hm => by
      rcases List.mem_cons.mp hm with rfl | hm
      · exact hu
      · exact ih hm
    cases x with
    | none => exact ih (by cases s with
        | no => exact h
        | own o => cases o <;> exact h
        | pin o => cases o <;> exact h)
    | some v =>
      cases s with
      | no => exact ih h
      | own o =>
        cases o with
        | v d => exact key _ rfl h
        | s ns => exact key _ rfl h
        | _ => exact ih h
      | pin o =>
        cases o with
        | v d => exact key _ rfl h
        | s ns => exact key _ rfl h
        | _ => exact ih h
theorem ok_onlyFz {vs : List V} {σ : St} {e : En} (h : SlOk vs σ e) : SlOk vs σ (onlyFz e) := by
  refine ⟨by rw [h.len]; simp [onlyFz], fun i s hi => ?_⟩
  unfold onlyFz at hi
  rw [List.getElem?_map] at hi
  obtain ⟨s0, h0, rfl⟩ := Option.map_eq_some_iff.mp hi
  obtain ⟨x, hx, q⟩ := h.sl i s0 h0
  refine ⟨x, hx, ?_⟩
  cases s0 with
  | no => trivial
  | own o => cases o <;> first | exact q | trivial
  | pin o =>
    obtain ⟨v, e1, e2⟩ := q
    cases o <;> first | exact ⟨v, e1⟩ | trivial
def pkIn (e : En) (vs : List Nat) : En := onlyFz (frz (e.map fun s => match s with
  | .pin o => .own o
  | s => s) vs)
theorem ok_pins {ps : List V} {σ : St} {e : En} (h : SlOk ps σ e) : SlOk ps σ (e.map fun s => match s with | .pin o => .own o | s => s) := by
  refine ⟨by rw [h.len]; simp, fun i s hi => ?_⟩
  rw [List.getElem?_map] at hi
  obtain ⟨s0, h0, rfl⟩ := Option.map_eq_some_iff.mp hi
  obtain ⟨x, hx, q⟩ := h.sl i s0 h0
  refine ⟨x, hx, ?_⟩
  cases s0 with
  | no => trivial
  | own o => exact q
  | pin o =>
    obtain ⟨v, e1, _⟩ := q
    exact ⟨v, e1⟩
theorem slots_pins : ∀ {σ : St} {e : En}, slots σ (e.map fun s => match s with | .pin o => .own o | s => s) = slots σ e
  | [], _ => by simp [slots]
  | _ :: _, [] => by simp [slots]
  | x :: σ, s :: e => by
    have ih := slots_pins (σ := σ) (e := e)
    cases x <;> cases s <;> simp only [List.map_cons, slots, ih]
theorem Sta.peek {vs : List Nat} (s : Sta K B F H σ e G) : ∃ F1, Sta K ⟨H, F1, B.vs⟩ F1 H σ (pkIn e vs) [] ∧
    ∀ F2 H2 (w : Ws), Rel K H F1 F2 H2 w → O.freeAll (w.map (·.2)) = true → Sta K B F H2 σ e (w ++ G) := by
  have s0 : Sta K B F H σ (e.map fun s => match s with | .pin o => .own o | s => s) G := ⟨ok_pins s.ok, by rw [slots_pins]; exact s.rel⟩
  obtain ⟨F1, s1⟩ := s0.frz (vs := vs)
  have ok2 := ok_onlyFz s1.ok
  obtain ⟨r, pr⟩ := slots_onlyFz s1.ok.len
  have r2 : Rel K B.H0 B.F0 F1 H ((r ++ G) ++ slots σ (pkIn e vs)) := s1.rel.perm ((pr.append_right G).trans (by rw [List.append_assoc]; exact List.perm_append_comm))
  have r3 : Rel K B.H0 B.F0 F1 H (slots σ (pkIn e vs)) := Rel.drop (w := r ++ G) r2
  obtain ⟨H1, q1, q2, q3⟩ := Rel.hand (w := slots σ (pkIn e vs)) (ws := []) (by rw [List.append_nil]; exact r3)
  have hH := q3 (fun x hx => slots_fz x hx)
  subst hH
  refine ⟨F1, ⟨ok2, by rw [List.append_nil]; exact q1⟩, fun F2 H2 w r2 hw => ⟨s.ok, ?_⟩⟩
  have sm : Same H1 H2 := r2.h0
  obtain ⟨T, rl, nd, hT⟩ := s.rel.res
  obtain ⟨T', rl', nd', hT'⟩ := r2.res
  have dom := rpl_dom rl
  have rl2 : RpL K F H2 (slots σ e ++ G) T := rpl_mono (.refl F) rl fun p hp => by
    cases q : H1 p with
    | none => exact absurd q (dom p hp)
    | some o => exact sm p o q
  have new : ∀ p ∈ T', H1 p = none := fun p hp => (hT' p hp).2
  have full : Rel K B.H0 B.F0 F H2 (w ++ (slots σ e ++ G)) := by
    refine ⟨s.rel.h0.trans sm, s.rel.f0, s.rel.fn, s.rel.fh.trans sm, T' ++ T, rpl_append (rpl_free rl' hw) rl2, List.nodup_append.mpr ⟨nd', nd, fun p hp q hq z => ?_⟩, fun p hp => ?_⟩
    · subst z
      exact dom p hq (new p hp)
    · rcases List.mem_append.mp hp with hp | hp
      · exact ⟨s.rel.f_none (new p hp), s.rel.h_none (new p hp)⟩
      · exact hT p hp
  exact full.perm (pmid _ _ _).symm
def mPeek (vs : List Nat) (m : MD O) : MD O := fun e => match m (pkIn e vs) with
  | some (x, _) => if x.free then some (x, e) else none
  | none => none
theorem peek_den {p : Bool} {vs : List Nat} {m : MD O} {t : TE} (h : ∀ σ H Q, den K p m σ H Q → t σ H Q) : ∀ σ H Q, den K true (mPeek vs m) σ H Q → t σ H Q := fun σ H Q ⟨B, F, e, G, y, e', s, hm, k⟩ => by
  unfold mPeek at hm
  split at hm
  · rename_i x e1 h1
    split at hm
    · rename_i hx
      obtain ⟨rfl, rfl⟩ := so hm
      obtain ⟨F1, s1, back⟩ := s.peek (vs := vs)
      refine h σ H Q ⟨_, F1, _, [], x, e1, s1, h1, fun F2 H2 v s2 _ => ?_⟩
      have r2 : Rel K H F1 F2 H2 ([(v, x)] ++ slots σ e1) := s2.rel.perm List.perm_append_comm
      have r3 : Rel K H F1 F2 H2 [(v, x)] := Rel.drop (w := slots σ e1) (s2.rel)
      exact k F H2 v (back F2 H2 [(v, x)] r3 (by simp [O.freeAll, hx])) fun _ => r3.h0
    · cases hm
  · cases hm
def mPeekT (vs : List Nat) (m : MD Bool) : MD Bool := fun e => match m (pkIn e vs) with
  | some (x, _) => some (x, e)
  | none => none
theorem dt_peek {x : Expr} {vs : List Nat} {p : Bool} {m : MD Bool} (h : PT X x (denT X.K p m)) : PT X x (denT X.K true (mPeekT vs m)) := pt_imp h fun σ H Q ⟨B, F, e, G, y, e', s, hm, k⟩ => by
  unfold mPeekT at hm
  split at hm
  · rename_i x e1 h1
    obtain ⟨rfl, rfl⟩ := so hm
    obtain ⟨F1, s1, back⟩ := s.peek (vs := vs)
    refine ⟨_, F1, _, [], x, e1, s1, h1, fun F2 H2 s2 _ => ?_⟩
    have r3 : Rel X.K H F1 F2 H2 [] := Rel.drop (w := slots σ e1) s2.rel
    exact k F H2 (back F2 H2 [] r3 (by simp [O.freeAll])) fun _ => r3.h0
  · cases hm
theorem ds_setLcPkF {i : Nat} {y : Str} {py : Pos} {elt tgE iter : Expr} {ifs : List Expr} {scope : Scope} {own : List (Str × Nat)} {pos spos : Pos} {tg : Tg} {p q r : Bool} {mi : MD (List O)} {mt : MD Bool} {me : MD O} {vs : List Nat} (hc : X.calm = true) (hN : X.N.Nodup) (hy : X.N[i]? = some y) (hyl : X.env.scope.names.lookup y = some .local)
    (hsw : swapsWith (.ListComp elt [⟨tgE, iter, ifs, 0⟩] scope pos) (some (.Name y py)) spos.line X.env = pure true) (hi : PI X tgE iter (denI X.K p mi)) (ok : BlkOk X.N X.env.scope scope own)
    (hg : ∀ (s : Shared) (H : Hp) (C : Addr) (cl : List (Str × Addr)) (fp : List Addr), PG (X.blk s H scope (compEnvC scope cl C X.env) fp) tgE (tg.rd X.K))
    (ht : ∀ (s : Shared) (H : Hp) (C : Addr) (cl : List (Str × Addr)) (fp : List Addr), PTs (X.blk s H scope (compEnvC scope cl C X.env) fp) ifs (denT X.K q mt))
    (he : ∀ (s : Shared) (H : Hp) (C : Addr) (cl : List (Str × Addr)) (fp : List Addr), PE (X.blk s H scope (compEnvC scope cl C X.env) fp) elt (den X.K r me)) (hs : ∀ x, foldedSetIterable iter X.env x = pure x := by intro _; rfl) :
    PS X (.Assign [.Name y py] (.ListComp elt [⟨tgE, iter, ifs, 0⟩] scope pos) spos) (denS X.K (mSet i (mFz (mPeek vs (mLc mi tg mt me (own.map (·.2))))))) := ps_imp (ps_setLc hc hN hy hyl hsw hi ok hg ht he hs) (mSet_den (fz_den (peek_den lc_den)))
end
end Dn
namespace Dn
open PySem L2
def pinS : Sl → Sl
  | .own o => .pin o
  | s => s
def pinsLike : En → En → Bool
  | _, [] => true
  | s0 :: e0, s :: e => (match s, s0 with
    | .pin _, .pin _ => true
    | .pin _, _ => false
    | _, _ => true) && pinsLike e0 e
  | [], _ :: _ => false
def unpin (e0 e : En) (i : Nat) : Option En := match e0[i]?, e[i]? with
  | some (.own _), some (.pin o) => if pinsLike e0 (e.set i (.own o)) then some (e.set i (.own o)) else none
  | some (.pin _), some (.pin _) => if pinsLike e0 e then some e else none
  | _, _ => none
def forS (i : Nat) (tg : Tg) (body : MS) : Nat → Nat → MS
  | 0, j, e => (match e[i]? with
    | some (.pin (.l xs)) => if xs.length ≤ j then some (.nx e) else none
    | _ => none)
  | m + 1, j, e => (match e[i]? with
    | some (.pin (.l xs)) => (match xs[j]? with
      | some (.v d) => if scal d then (match asg tg (.v d) e with
        | some e1 => (match body e1 with
          | some (.nx e2) => forS i tg body m (j + 1) e2
          | some (.ct e2) => forS i tg body m (j + 1) e2
          | some (.bk e2) => some (.nx e2)
          | some (.rt y e2) => some (.rt y e2)
          | none => none)
        | none => none) else none
      | _ => none)
    | _ => none)
def mForS (i : Nat) (tg : Tg) (body : MS) : MS := fun e => match e[i]? with
  | some s => (match s.o? with
    | some (.l xs) => (match forS i tg body xs.length 0 (e.set i (pinS s)) with
      | some (.nx e2) => (match unpin e e2 i with
        | some e3 => some (.nx e3)
        | none => none)
      | some (.rt y e2) => (match unpin e e2 i with
        | some e3 => some (.rt y e3)
        | none => none)
      | _ => none)
    | _ => none)
  | none => none
section
variable {K : PySem.W.Frag} {B : Bs} {F H : Hp} {σ : St} {e : En} {G : Ws} {X : Cx}
def vsOf (σ : St) : List V := σ.map fun x => x.getD .non
theorem vsOf_get {σ : St} {j : Nat} {v : V} (h : σ[j]? = some (some v)) : (vsOf σ)[j]? = some v := by
  unfold vsOf
  rw [List.getElem?_map, h]
  rfl
theorem slots_pinS : ∀ {σ : St} {e : En} {i : Nat} {s : Sl}, e[i]? = some s → slots σ (e.set i (pinS s)) = slots σ e
  | [], _, _, _, _ => by simp [slots]
  | _ :: _, [], _, _, h => by simp at h
  | x :: σ, y :: e, 0, s, h => by
    simp only [List.getElem?_cons_zero, Option.some.injEq] at h
    subst h
    cases x <;> cases y <;> rfl
  | x :: σ, y :: e, i + 1, s, h => by
    simp only [List.getElem?_cons_succ] at h
    have ih := slots_pinS (σ := σ) h
    simp only [List.set_cons_succ]
    cases x <;> cases y <;> simp only [slots, ih]
theorem Sta.pinUp {i : Nat} {s0 : Sl} (s : Sta K B F H σ e G) (hi : e[i]? = some s0) : Sta K ⟨B.H0, B.F0, vsOf σ⟩ F H σ (e.set i (pinS s0)) G := by
  refine ⟨⟨by rw [List.length_set]; exact s.ok.len, fun j sl hj => ?_⟩, by rw [slots_pinS hi]; exact s.rel⟩
  have hlt : i < e.length := (List.getElem?_eq_some_iff.mp hi).1
  by_cases hij : i = j
  · subst hij
    rw [List.getElem?_set_self hlt] at hj
    cases hj
    obtain ⟨x, hx, q⟩ := s.ok.sl i s0 hi
    refine ⟨x, hx, ?_⟩
    cases s0 with
    | no => trivial
    | own o =>
      obtain ⟨v, rfl⟩ := q
      exact ⟨v, rfl, vsOf_get hx⟩
    | pin o =>
      obtain ⟨v, rfl, _⟩ := q
      exact ⟨v, rfl, vsOf_get hx⟩
  · rw [List.getElem?_set_ne hij] at hj
    obtain ⟨x, hx, q⟩ := s.ok.sl j sl hj
    refine ⟨x, hx, ?_⟩
    cases sl with
    | no => trivial
    | own o => exact q
    | pin o =>
      obtain ⟨v, rfl, _⟩ := q
      exact ⟨v, rfl, vsOf_get hx⟩
theorem pinsLike_get : ∀ {e0 e : En} {j : Nat} {o : O}, pinsLike e0 e = true → e[j]? = some (.pin o) → ∃ o0, e0[j]? = some (.pin o0)
  | _, [], _, _, _, h => by simp at h
  | [], _ :: _, _, _, h, _ => by cases h
  | s0 :: e0, s :: e, 0, o, h, hj => by
    simp only [List.getElem?_cons_zero, Option.some.injEq] at hj
    subst hj
    unfold pinsLike at h
    rw [Bool.and_eq_true] at h
    cases s0 with
    | pin o0 => exact ⟨o0, rfl⟩
    | no => cases h.1
    | own _ => cases h.1
  | s0 :: e0, s :: e, j + 1, o, h, hj => by
    unfold pinsLike at h
    rw [Bool.and_eq_true] at h
    simp only [List.getElem?_cons_succ] at hj ⊢
    exact pinsLike_get h.2 hj
theorem Sta.unpin {i : Nat} {e0 e2 e3 : En} {σ0 σ2 : St} {F2 H2 : Hp} {G2 : Ws} (ok0 : SlOk B.vs σ0 e0) (h : Dn.unpin e0 e2 i = some e3) (s : Sta K ⟨B.H0, B.F0, vsOf σ0⟩ F2 H2 σ2 e2 G2) : Sta K B F2 H2 σ2 e3 G2 := by
  have fin : ∀ e3 : En, pinsLike e0 e3 = true → SlOk (vsOf σ0) σ2 e3 → SlOk B.vs σ2 e3 := fun e3 hp ok => by
    refine ⟨ok.len, fun j sl hj => ?_⟩
    obtain ⟨x, hx, q⟩ := ok.sl j sl hj
    refine ⟨x, hx, ?_⟩
    cases sl with
    | no => trivial
    | own o => exact q
    | pin o =>
      obtain ⟨v, rfl, hv⟩ := q
      obtain ⟨o0, h0⟩ := pinsLike_get hp hj
      obtain ⟨y, hy, v0, rfl, hb⟩ := ok0.sl j _ h0
      rw [vsOf_get hy] at hv
      cases hv
      exact ⟨_, rfl, hb⟩
  unfold Dn.unpin at h
  split at h
  · rename_i o0 o h0 h2
    split at h
    · rename_i hp
      cases h
      have hl : i < e2.length := (List.getElem?_eq_some_iff.mp h2).1
      refine ⟨fin _ hp ⟨by rw [List.length_set]; exact s.ok.len, fun j sl hj => ?_⟩, ?_⟩
      · by_cases hij : i = j
        · subst hij
          rw [List.getElem?_set_self hl] at hj
          cases hj
          obtain ⟨x, hx, v, rfl, _⟩ := s.ok.sl i _ h2
          exact ⟨_, hx, v, rfl⟩
        · rw [List.getElem?_set_ne hij] at hj
          exact s.ok.sl j sl hj
      · have e1 : slots σ2 (e2.set i (.own o)) = slots σ2 e2 := by
          have hh : (e2.set i (.own o))[i]? = some (.own o) := List.getElem?_set_self hl
          have := slots_pinS (σ := σ2) hh
          rw [List.set_set] at this
          have e4 : e2.set i (pinS (.own o)) = e2 := set_self h2
          rw [e4] at this
          exact this.symm
        rw [e1]
        exact s.rel
    · cases h
  · rename_i o0 o h0 h2
    split at h
    · rename_i hp
      cases h
      exact ⟨fin _ hp s.ok, s.rel⟩
    · cases h
  · cases h
theorem ds_forS {i : Nat} {tgE iter : Expr} {body : List Stmt} {tg : Tg} {mb : MS} {pos : Pos} (hp : PassesOwn (model X.prog X.w) X.A X.env X.xe) (hc : X.calm = true) (hi : PE X iter (tVar i)) (hg : PG X tgE (tg.rd X.K)) (hb : PSs X body (denS X.K mb))
    (hs : ∀ x, foldedSetIterable iter X.env x = pure x := by intro _; rfl) : PS X (.For tgE iter body [] pos) (denS X.K (mForS i tg mb)) := ps_imp (ps_for hp hc (pi_list hi) hg hb hs) fun D σ H ⟨B, F, e, G, oc, s, hm, k⟩ => by
  unfold mForS at hm
  split at hm
  · rename_i s0 h0
    split at hm
    · rename_i xs hx
      obtain ⟨v, hv, T, r⟩ := s.seeO h0 hx
      cases r with
      | l hp0 e1 e2 rl =>
        rename_i a vs ws T'
        have main : ∀ oc1, forS i tg mb xs.length 0 (e.set i (pinS s0)) = some oc1 → (∀ F2 H2 σ2 e2, oc1 = .nx e2 → Sta X.K ⟨B.H0, B.F0, vsOf σ⟩ F2 H2 σ2 e2 G → D.nx σ2 H2) → (∀ F2 H2 σ2 y u e2, oc1 = .rt y e2 → Sta X.K ⟨B.H0, B.F0, vsOf σ⟩ F2 H2 σ2 e2 ((u, y) :: G) → D.rt u H2) → (∀ e2, oc1 ≠ .bk e2) → (∀ e2, oc1 ≠ .ct e2) →
            tFor (iList X.K (tVar i)) (tg.rd X.K) (denS X.K mb) D σ H := by
          intro oc1 hf knx krt _ _
          refine ⟨.ref a, hv, a, rfl, ⟨_, .of hp0⟩, ?_⟩
          refine ⟨fun j m σ1 H1 => ∃ F1 e1, σ1[i]? = some (some (.ref a)) ∧ Sta X.K ⟨B.H0, B.F0, vsOf σ⟩ F1 H1 σ1 e1 G ∧ forS i tg mb m j e1 = some oc1, ⟨xs.length, F, _, hv, s.pinUp h0, hf⟩, fun j m σ1 H1 ⟨F1, e1, ha, s1, h1⟩ => ?_⟩
          have look : ∀ ys, e1[i]? = some (.pin (.l ys)) → ∃ w : Ws, SqL X.K H1 a (w.map (·.1)) ∧ w.map (·.2) = ys ∧ ∃ T, RpL X.K F1 H1 w T := fun ys hy => by
            obtain ⟨u, hu, T, r⟩ := s1.seeO hy (show (Sl.pin (.l ys)).o? = some (.l ys) from rfl)
            rw [ha] at hu
            cases hu
            cases r with
            | l hpp f1 f2 rl1 =>
              rename_i vs' w' T''
              exact ⟨w', .of (by rw [hpp, f1]), f2.symm, _, rl1⟩
          cases m with
          | zero =>
            unfold forS at h1
            split at h1
            · rename_i ys hy
              split at h1
              · rename_i hle
                cases h1
                obtain ⟨w, hq, hw, _⟩ := look ys hy
                exact .inl ⟨⟨_, hq, by rw [List.length_map, ← List.length_map (f := fun x : V × O => x.2), hw]; exact hle⟩, knx F1 H1 σ1 e1 rfl s1⟩
              · cases h1
            · cases h1
          | succ m =>
            unfold forS at h1
            split at h1
            · rename_i ys hy
              obtain ⟨w, hq, hw, T, rw'⟩ := look ys hy
              split at h1
              · rename_i d hd
                split at h1
                · rename_i hsc
                  rw [← hw, List.getElem?_map] at hd
                  obtain ⟨w0, hw0, hwd⟩ := Option.map_eq_some_iff.mp hd
                  obtain ⟨T0, r0⟩ := rpl_get rw' hw0
                  rw [hwd] at r0
                  have hg1 : (w.map (·.1))[j]? = some w0.1 := by rw [List.getElem?_map, hw0]; rfl
                  refine .inr ⟨⟨_, _, hq, hg1⟩, fun σ2 H2 => ∃ F2 e2, σ2[i]? = some (some (.ref a)) ∧ Sta X.K ⟨B.H0, B.F0, vsOf σ⟩ F2 H2 σ2 e2 G ∧ forS i tg mb m (j + 1) e2 = some oc1, fun σ2 H2 ⟨F2, e2, q1, q2, q3⟩ => ⟨m, Nat.lt_succ_self _, F2, e2, q1, q2, q3⟩, fun x H3 hyl => ?_⟩
                  obtain ⟨rfl, hx2⟩ := hyl
                  have hx3 := hx2 _ hq
                  rw [hg1] at hx3
                  cases hx3
                  have s2 := s1.push (rp_v r0)
                  split at h1
                  · rename_i ea he
                    refine asg_run (vs := []) s2 he fun F4 σ4 s4 _ _ => ?_
                    have keep : ∀ F5 H5 σ5 e5, Sta X.K ⟨B.H0, B.F0, vsOf σ⟩ F5 H5 σ5 e5 G → forS i tg mb m (j + 1) e5 = some oc1 → σ5[i]? = some (some (.ref a)) := fun F5 H5 σ5 e5 s5 h5 => by
                      have : ∃ o, e5[i]? = some (.pin o) := by
                        cases m with
                        | zero =>
                          unfold forS at h5
                          split at h5
                          · rename_i z; exact ⟨_, z⟩
                          · cases h5
                        | succ m =>
                          unfold forS at h5
                          split at h5
                          · rename_i z; exact ⟨_, z⟩
                          · cases h5
                      obtain ⟨o, ho⟩ := this
                      obtain ⟨y, hy2, u, rfl, hu⟩ := s5.ok.sl i _ ho
                      have : (vsOf σ)[i]? = some u := hu
                      rw [vsOf_get hv] at this
                      cases this
                      exact hy2
                    split at h1
                    · rename_i e5 h5
                      exact ⟨_, F4, ea, _, _, s4, h5, fun F6 H6 σ6 s6 => ⟨F6, e5, keep F6 H6 σ6 e5 s6 h1, s6, h1⟩⟩
                    · rename_i e5 h5
                      exact ⟨_, F4, ea, _, _, s4, h5, fun F6 H6 σ6 s6 => ⟨F6, e5, keep F6 H6 σ6 e5 s6 h1, s6, h1⟩⟩
                    · rename_i e5 h5
                      cases h1
                      exact ⟨_, F4, ea, _, _, s4, h5, fun F6 H6 σ6 s6 => knx F6 H6 σ6 e5 rfl s6⟩
                    · rename_i y e5 h5
                      cases h1
                      exact ⟨_, F4, ea, _, _, s4, h5, fun F6 H6 σ6 u s6 => krt F6 H6 σ6 y u e5 rfl s6⟩
                    · cases h1
                  · cases h1
                · cases h1
              · cases h1
            · cases h1
        split at hm
        · rename_i e2 h2
          split at hm
          · rename_i e3 h3
            cases hm
            exact main _ h2 (fun F2 H2 σ2 e2' he s2 => by cases he; exact k F2 H2 σ2 (s2.unpin s.ok h3)) (fun _ _ _ _ _ _ he => nomatch he) (fun _ he => nomatch he) (fun _ he => nomatch he)
          · cases hm
        · rename_i y e2 h2
          split at hm
          · rename_i e3 h3
            cases hm
            exact main _ h2 (fun _ _ _ _ he => nomatch he) (fun F2 H2 σ2 y' u e2' he s2 => by cases he; exact k F2 H2 σ2 u (s2.unpin s.ok h3)) (fun _ he => nomatch he) (fun _ he => nomatch he)
          · cases hm
        · cases hm
    · cases hm
  · cases hm
end
end Dn
namespace Dn
open PySem L2
section
variable {K : PySem.W.Frag} {B : Bs} {F H : Hp} {σ : St} {e : En} {G : Ws} {X : Cx}
theorem Sta.setNo {j : Nat} {x : Option V} (s : Sta K B F H σ e G) (h : e[j]? = some .no) : Sta K B F H (σ.set j x) e G := by
  have he : e.set j .no = e := set_self h
  have hl : j < e.length := (List.getElem?_eq_some_iff.mp h).1
  refine ⟨⟨by rw [List.length_set]; exact s.ok.len, fun l sl hj => ?_⟩, ?_⟩
  · obtain ⟨y, hy, q⟩ := s.ok.sl l sl hj
    by_cases hij : j = l
    · subst hij
      rw [h] at hj
      cases hj
      have hl2 : j < σ.length := (List.getElem?_eq_some_iff.mp hy).1
      exact ⟨x, List.getElem?_set_self hl2, trivial⟩
    · exact ⟨y, by rw [List.getElem?_set_ne hij]; exact hy, q⟩
  · have := slots_no (x := x) (σ := σ) (e := e) (i := j)
    rw [he] at this
    rw [this]
    exact s.rel
end
end Dn
namespace Dn
open PySem L2
section
variable {K : PySem.W.Frag} {X : Cx}
end
end Dn
namespace Dn
open PySem L2
abbrev MX := En → Option (Exn × En)
def Wx (K : PySem.W.Frag) (B : Bs) (G : Ws) (σ : St) (x : Exn) (e' : En) (W : WX) : Prop := ∀ F' H' C (dd : Option Addr), Sta K B F' H' σ e' G → ClsAt K x.c C → XdAt F' x dd → W (.ref C) dd σ H'
section
variable {X : Cx} {K : PySem.W.Frag} {W : WX}
theorem Wx.drop {B : Bs} {w G : Ws} {σ : St} {x : Exn} {e' : En} (h : Wx K B G σ x e' W) : Wx K B (w ++ G) σ x e' W := fun F' H' C dd s h1 h2 => h F' H' C dd s.drop h1 h2
end
end Dn
namespace Dn
open PySem L2
section
variable {K : PySem.W.Frag}
structure CalX (P : Program) (w : World) (K : PySem.W.Frag) (mg : Str → Option Value) (base : Heap) (k : Nat) (x : Str) (ps : List Str) (sp : Sp) : Prop where
  ex : ∃ f fd, FnG P w K mg base (L2.CX P w) k f fd ps sp ∧ mg x = some (.ref f) ∧ PySem.W.keepIn K (.ref f) = true ∧ Binds K fd ps []
theorem CalX.mk' {P : Program} {w : World} {mg : Str → Option Value} {base : Heap} {k : Nat} {x : Str} {ps : List Str} {sp : Sp} {f : Addr} {fd : FuncData} (G : FnG P w K mg base (L2.CX P w) k f fd ps sp) (m : mg x = some (.ref f)) (kp : PySem.W.keepIn K (.ref f) = true) (b : Binds K fd ps []) : CalX P w K mg base k x ps sp := ⟨f, fd, G, m, kp, b⟩
end
end Dn
namespace Dn
open PySem PySem.Spec PyProof.Rows L2
section
variable {K : PySem.W.Frag} {B : Bs} {F H : Hp} {σ : L2.St} {e : En} {G : Ws}
theorem SlOk.clear {vs : List V} {i : Nat} {x : Option V} (h : SlOk vs σ e) : SlOk vs (σ.set i x) (e.set i .no) := by
  refine ⟨by rw [List.length_set, List.length_set]; exact h.len, fun j s hj => ?_⟩
  by_cases hij : i = j
  · subst hij
    have hi : i < e.length := by
      have := (List.getElem?_eq_some_iff.mp hj).1
      rw [List.length_set] at this
      exact this
    rw [List.getElem?_set_self hi] at hj
    cases hj
    exact ⟨x, by rw [List.getElem?_set_self (by rw [h.len]; exact hi)], trivial⟩
  · rw [List.getElem?_set_ne hij] at hj ⊢
    exact h.sl j s hj
theorem Sta.clear {i : Nat} {x : Option V} (s : Sta K B F H σ e G) (hi : i < e.length) : Sta K B F H (σ.set i x) (e.set i .no) G := by
  have s1 : Sta K B F H σ (e.set i .no) G := by
    have := s.forget (vs := [i])
    exact this
  refine ⟨s.ok.clear, ?_⟩
  rw [slots_no]
  exact s1.rel
end
end Dn
namespace Dn
open PySem L2
section
variable {K : PySem.W.Frag} {H0 F0 F H : Hp}
def O.look (o : O) : Option O := match o.toD with
  | some d => some (.v d)
  | none => (match o with
    | .s ns => some (.s ns)
    | _ => none)
inductive Looks : Ws → Ws → Prop
  | nil : Looks [] []
  | keep {v : V} {o o' : O} {w w' : Ws} : o.look = some o' → Looks w w' → Looks ((v, o) :: w) ((v, o') :: w')
  | drop {v : V} {o : O} {w w' : Ws} : Looks w w' → Looks ((v, o) :: w) w'
theorem Looks.app {w w' u : Ws} (h : Looks w w') : Looks (w ++ u) w' := by
  induction h with
  | nil =>
    induction u with
    | nil => exact .nil
    | cons a u ih => exact .drop ih
  | keep e _ ih => exact .keep e ih
  | drop _ ih => exact .drop ih
theorem look_rp {F F1 : Hp} {v : V} {o o' : O} {T : List Addr} (e : Same F F1) (r : Rp K F H v o T) (h : o.look = some o') (k : ∀ p ∈ T, F1 p = H p) : Rp K F1 H v o' [] := by
  unfold O.look at h
  split at h
  · rename_i d hd
    cases h
    exact .v (rp_freeze e r hd k)
  · split at h
    · cases h
      cases r with
      | s q => exact .s (sql_mono e q)
    · cases h
theorem looks_rpl {F F1 : Hp} (e : Same F F1) {w w' : Ws} (h : Looks w w') : ∀ {T : List Addr}, RpL K F H w T → (∀ p ∈ T, F1 p = H p) → RpL K F1 H w' [] := by
  induction h with
  | nil => exact fun _ _ => .nil
  | keep q _ ih =>
    intro T r k
    cases r with
    | cons a t => exact .cons (T1 := []) (look_rp e a q fun p hp => k p (List.mem_append_left _ hp)) (ih t fun p hp => k p (List.mem_append_right _ hp))
  | drop _ ih =>
    intro T r k
    cases r with
    | cons a t => exact ih t fun p hp => k p (List.mem_append_right _ hp)
theorem Rel.iso {kW oW kF : Ws} (r : Rel K H0 F0 F H (kW ++ oW)) (hf : Looks kW kF) : ∃ F1 H1, Rel K H1 F1 F1 H (kF ++ oW) ∧
    ∀ F2 H2 (w : Ws), Rel K H1 F1 F2 H2 w → O.freeAll (w.map (·.2)) = true → Rel K H0 F0 F H2 (kW ++ w) := by
  obtain ⟨T, rl, nd, hp⟩ := r.res
  obtain ⟨Tk, To, rfl, rk, ro⟩ := rpl_split rl
  obtain ⟨n1, n2, n3⟩ := List.nodup_append.mp nd
  have fk : ∀ p o, F p = some o → p ∉ Tk := fun p o e q => by
    rw [(hp p (List.mem_append_left _ q)).1] at e; cases e
  have fo : ∀ p o, F p = some o → p ∉ To := fun p o e q => by
    rw [(hp p (List.mem_append_right _ q)).1] at e; cases e
  have h0o : ∀ p o, H0 p = some o → p ∉ To := fun p o e q => by
    rw [(hp p (List.mem_append_right _ q)).2] at e; cases e
  have sF : Same F (fun p => if p ∈ Tk then H p else F p) := fun p o e => by
    simp only [if_neg (fk p o e)]; exact e
  refine ⟨fun p => if p ∈ Tk then H p else F p, fun p => if p ∈ To then none else H p, ⟨fun p o e => ?_, .refl _, fun p o e => .inl e, fun p o e => ?_, To, ?_, n2, fun p q => ⟨?_, by simp only [if_pos q]⟩⟩, fun F2 H2 w r2 hw => ?_⟩
  · by_cases q : p ∈ To
    · simp only [if_pos q] at e; cases e
    · simp only [if_neg q] at e; exact e
  · by_cases q : p ∈ Tk
    · simp only [if_pos q] at e; exact e
    · simp only [if_neg q] at e; exact r.fh p o e
  · have a := looks_rpl (K := K) sF hf rk (fun p q => by simp only [if_pos q])
    exact rpl_append (T1 := []) a (rpl_mono sF ro fun p _ => rfl)
  · have nk : p ∉ Tk := fun z => n3 p z p q rfl
    simp only [if_neg nk]
    exact (hp p (List.mem_append_right _ q)).1
  · have up : ∀ p o, p ∉ To → H p = some o → H2 p = some o := fun p o q e => r2.h0 p o (by simp only [if_neg q]; exact e)
    obtain ⟨Tw, rw', ndw, hpw⟩ := r2.res
    have nw : ∀ p ∈ Tw, (if p ∈ To then none else H p) = none := fun p q => (hpw p q).2
    refine ⟨fun p o e => up p o (h0o p o e) (r.h0 p o e), r.f0, r.fn, fun p o e => up p o (fo p o e) (r.fh p o e), Tk ++ Tw, rpl_append (rpl_mono (.refl F) rk fun p q => ?_) (rpl_free rw' hw), List.nodup_append.mpr ⟨n1, ndw, fun p q p2 q2 z => ?_⟩, fun p q => ?_⟩
    · have no : p ∉ To := fun z => n3 p q p z rfl
      cases e : H p with
      | none => exact absurd e (rpl_dom rk p q)
      | some o => exact up p o no e
    · subst z
      have no : p ∉ To := fun z => n3 p q p z rfl
      have := nw p q2
      rw [if_neg no] at this
      exact rpl_dom rk p q this
    · rcases List.mem_append.mp q with q | q
      · exact hp p (List.mem_append_left _ q)
      · refine ⟨?_, ?_⟩
        · cases e : F p with
          | none => rfl
          | some o =>
            have := nw p q
            rw [if_neg (fo p o e), r.fh p o e] at this
            cases this
        · cases e : H0 p with
          | none => rfl
          | some o =>
            have := nw p q
            rw [if_neg (h0o p o e), r.h0 p o e] at this
            cases this
end
def pinF (s : Sl) : Sl := match s.o? with
  | some o => (match o.look with
    | some o' => .pin o'
    | none => .no)
  | none => .no
def isoIn (ks : List Nat) : Nat → En → En
  | _, [] => []
  | n, s :: e => (if ks.contains n = true then pinF s else s) :: isoIn ks (n + 1) e
def backS (s s2 : Sl) (kept : Bool) : Option Sl := if kept = true then (match s, s2 with
    | .no, _ => some .no
    | s, .pin _ => some s
    | _, _ => some .no) else (match s2 with
    | .no => some .no
    | .own x => some (if x.free = true then .own x else .no)
    | .pin x => (match s with
      | .pin _ => if x.free = true then some (.pin x) else none
      | _ => none))
def isoOut (ks : List Nat) : Nat → En → En → Option En
  | _, [], [] => some []
  | n, s :: e, s2 :: e2 => (match isoOut ks (n + 1) e e2, backS s s2 (ks.contains n) with
    | some r, some s3 => some (s3 :: r)
    | _, _ => none)
  | _, _, _ => none
def kSl (ks : List Nat) : Nat → St → En → Ws
  | n, x :: σ, s :: e => (if ks.contains n = true then slots [x] [s] else []) ++ kSl ks (n + 1) σ e
  | _, _, _ => []
def oSl (ks : List Nat) : Nat → St → En → Ws
  | n, x :: σ, s :: e => (if ks.contains n = true then [] else slots [x] [s]) ++ oSl ks (n + 1) σ e
  | _, _, _ => []
theorem slots_cons (x : Option V) (s : Sl) (σ : St) (e : En) : slots (x :: σ) (s :: e) = slots [x] [s] ++ slots σ e := by
  cases x <;> cases s <;> rfl
theorem slots_ko (ks : List Nat) : ∀ (n : Nat) (σ : St) (e : En), (slots σ e).Perm (kSl ks n σ e ++ oSl ks n σ e)
  | _, [], _ => by simp [slots, kSl, oSl]
  | _, _ :: _, [] => by simp [slots, kSl, oSl]
  | n, x :: σ, s :: e => by
    rw [slots_cons]
    unfold kSl oSl
    have ih := slots_ko ks (n + 1) σ e
    by_cases h : ks.contains n = true
    · rw [if_pos h, if_pos h, List.nil_append, List.append_assoc]
      exact List.Perm.append_left _ ih
    · rw [if_neg h, if_neg h, List.nil_append]
      exact (List.Perm.append_left _ ih).trans (pmid _ _ _).symm
theorem look_slot (x : Option V) (s : Sl) : ∃ w, slots [x] [pinF s] = w ∧ Looks (slots [x] [s]) w := by
  cases x with
  | none => exact ⟨[], by cases h : pinF s <;> rfl, by cases s <;> exact .nil⟩
  | some v =>
    cases s with
    | no => exact ⟨[], rfl, .nil⟩
    | own o =>
      cases h : o.look with
      | none => exact ⟨[], by show slots [some v] [match o.look with | some o' => Sl.pin o' | none => .no] = []; rw [h]; rfl, .drop .nil⟩
      | some o' => exact ⟨[(v, o')], by show slots [some v] [match o.look with | some o' => Sl.pin o' | none => .no] = _; rw [h]; rfl, .keep h .nil⟩
    | pin o =>
      cases h : o.look with
      | none => exact ⟨[], by show slots [some v] [match o.look with | some o' => Sl.pin o' | none => .no] = []; rw [h]; rfl, .drop .nil⟩
      | some o' => exact ⟨[(v, o')], by show slots [some v] [match o.look with | some o' => Sl.pin o' | none => .no] = _; rw [h]; rfl, .keep h .nil⟩
theorem Looks.append {a a' b b' : Ws} (h1 : Looks a a') (h2 : Looks b b') : Looks (a ++ b) (a' ++ b') := by
  induction h1 with
  | nil => exact h2
  | keep e _ ih => exact .keep e ih
  | drop _ ih => exact .drop ih
theorem slots_in (ks : List Nat) : ∀ (n : Nat) (σ : St) (e : En), ∃ kF, Looks (kSl ks n σ e) kF ∧ (slots σ (isoIn ks n e)).Perm (kF ++ oSl ks n σ e)
  | _, [], _ => ⟨[], by unfold kSl; exact .nil, by unfold oSl; cases isoIn ks _ _ <;> exact .refl _⟩
  | _, _ :: _, [] => ⟨[], by unfold kSl; exact .nil, by unfold oSl isoIn; simp [slots]⟩
  | n, x :: σ, s :: e => by
    obtain ⟨kF, h1, h2⟩ := slots_in ks (n + 1) σ e
    unfold kSl oSl isoIn
    by_cases h : ks.contains n = true
    · rw [if_pos h, if_pos h, if_pos h, slots_cons x (pinF s) σ]
      obtain ⟨w, hw, hl⟩ := look_slot x s
      refine ⟨w ++ kF, hl.append h1, ?_⟩
      rw [hw, List.nil_append, List.append_assoc]
      exact List.Perm.append_left _ h2
    · rw [if_neg h, if_neg h, if_neg h, slots_cons x s σ (isoIn ks (n + 1) e)]
      exact ⟨kF, h1, (List.Perm.append_left _ h2).trans (pmid _ _ _).symm⟩
def valsOf (σ : St) : List V := σ.map fun x => x.getD .non
section
variable {K : PySem.W.Frag} {B : Bs} {F H : Hp} {σ : St} {e : En} {G : Ws} {X : Cx}
theorem isoIn_get (ks : List Nat) : ∀ (n : Nat) (e : En) (i : Nat), (isoIn ks n e)[i]? = (e[i]?).map fun s => if ks.contains (n + i) = true then pinF s else s
  | _, [], i => by simp [isoIn]
  | n, s :: e, 0 => by simp [isoIn]
  | n, s :: e, i + 1 => by
    unfold isoIn
    rw [List.getElem?_cons_succ, List.getElem?_cons_succ, isoIn_get ks (n + 1) e i]
    have : n + 1 + i = n + (i + 1) := by omega
    rw [this]
theorem ok_in (ks : List Nat) (h : SlOk B.vs σ e) : SlOk (valsOf σ) σ (isoIn ks 0 e) := by
  have hlen : (isoIn ks 0 e).length = e.length := by
    have : ∀ (n : Nat) (e : En), (isoIn ks n e).length = e.length := by
      intro n e
      induction e generalizing n with
      | nil => rfl
      | cons s e ih => unfold isoIn; rw [List.length_cons, List.length_cons, ih]
    exact this 0 e
  refine ⟨by rw [hlen]; exact h.len, fun i s hi => ?_⟩
  rw [isoIn_get] at hi
  obtain ⟨s0, h0, rfl⟩ := Option.map_eq_some_iff.mp hi
  obtain ⟨x, hx, q⟩ := h.sl i s0 h0
  refine ⟨x, hx, ?_⟩
  have hv : ∀ v, x = some v → (valsOf σ)[i]? = some v := fun v e => by
    subst e
    unfold valsOf
    rw [List.getElem?_map, hx]
    rfl
  have key : ∀ o : O, (∃ v, x = some v) → Sl.ok (valsOf σ)[i]? x (.pin o) := fun o ⟨v, e⟩ => ⟨v, e, hv v e⟩
  by_cases hk : ks.contains (0 + i) = true
  · rw [if_pos hk]
    cases s0 with
    | no => trivial
    | own o =>
      show Sl.ok _ x (match o.look with | some o' => Sl.pin o' | none => .no)
      cases o.look with
      | none => trivial
      | some o' => exact key o' q
    | pin o =>
      show Sl.ok _ x (match o.look with | some o' => Sl.pin o' | none => .no)
      obtain ⟨v, e1, _⟩ := q
      cases o.look with
      | none => trivial
      | some o' => exact key o' ⟨v, e1⟩
  · rw [if_neg hk]
    cases s0 with
    | no => trivial
    | own o => exact q
    | pin o =>
      obtain ⟨v, e1, _⟩ := q
      exact key o ⟨v, e1⟩
theorem iso_out (ks : List Nat) (vs : List V) : ∀ (n : Nat) (σ σ2 : St) (e e2 e3 : En), isoOut ks n e e2 = some e3 → σ.length = e.length → σ2.length = e2.length →
    (∀ (i : Nat) (s : Sl), e[i]? = some s → ∃ x, σ[i]? = some x ∧ s.ok vs[n + i]? x) →
    (∀ (i : Nat) (s : Sl), e2[i]? = some s → ∃ x, σ2[i]? = some x ∧ s.ok (valsOf σ)[i]? x) →
    ∃ w r, O.freeAll (w.map (·.2)) = true ∧ (∃ k r2, (kSl ks n σ e).Perm (k ++ r2) ∧ (slots σ2 e3).Perm (k ++ w)) ∧ (slots σ2 e2).Perm (w ++ r) ∧ σ2.length = e3.length ∧ (∀ (i : Nat) (s : Sl), e3[i]? = some s → ∃ x, σ2[i]? = some x ∧ s.ok (vs[n + i]?) x)
  | n, σ, σ2, [], [], e3, h, h1, h2, h3, h4 => by
    cases h
    cases σ2 with
    | nil => exact ⟨[], [], rfl, ⟨[], kSl ks n σ [], .refl _, .refl _⟩, .refl _, rfl, fun i s hi => by simp at hi⟩
    | cons => simp at h2
  | n, σ, σ2, [], _ :: _, e3, h, _, _, _, _ => by cases h
  | n, σ, σ2, _ :: _, [], e3, h, _, _, _, _ => by cases h
  | n, [], σ2, _ :: _, _ :: _, e3, h, h1, _, _, _ => by simp at h1
  | n, _ :: _, [], _ :: _, _ :: _, e3, h, _, h2, _, _ => by simp at h2
  | n, x :: σ, x2 :: σ2, s :: e, s2 :: e2, e3, h, h1, h2, h3, h4 => by
    unfold isoOut at h
    split at h
    · rename_i r0 s3 hr hs
      cases h
      obtain ⟨w, r, q1, ⟨k, r2, q2, q3⟩, q4, q5, q6⟩ := iso_out ks vs (n + 1) σ σ2 e e2 r0 hr (by simpa using h1) (by simpa using h2) (fun i s hi => by
        obtain ⟨y, a, b⟩ := h3 (i + 1) s (by simpa using hi)
        refine ⟨y, by simpa using a, ?_⟩
        have : n + 1 + i = n + (i + 1) := by omega
        rw [this]; exact b) (fun i s hi => by
        obtain ⟨y, a, b⟩ := h4 (i + 1) s (by simpa using hi)
        exact ⟨y, by simpa using a, by simpa [valsOf] using b⟩)
      obtain ⟨y, ya, yb⟩ := h3 0 s rfl
      obtain ⟨y2, ya2, yb2⟩ := h4 0 s2 rfl
      simp only [List.getElem?_cons_zero, Option.some.injEq] at ya ya2
      subst ya; subst ya2
      have lens : (x2 :: σ2).length = (s3 :: r0).length := by simp [q5]
      have oks : Sl.ok (vs[n]?) x2 s3 → ∀ (i : Nat) (s : Sl), (s3 :: r0)[i]? = some s → ∃ z, (x2 :: σ2)[i]? = some z ∧ s.ok (vs[n + i]?) z := fun hok i s hi => by
        cases i with
        | zero => simp only [List.getElem?_cons_zero, Option.some.injEq] at hi; subst hi; exact ⟨x2, rfl, hok⟩
        | succ i =>
          obtain ⟨z, a, b⟩ := q6 i s (by simpa using hi)
          refine ⟨z, by simpa using a, ?_⟩
          have : n + (i + 1) = n + 1 + i := by omega
          rw [this]; exact b
      rw [slots_cons x2 s3, slots_cons x2 s2]
      unfold kSl
      by_cases hk : ks.contains n = true
      · rw [if_pos hk]
        unfold backS at hs
        rw [if_pos hk] at hs
        -- kept
        have stay : ∀ o, s2 = .pin o → s ≠ .no → x2 = x ∧ ∃ v, x = some v := fun o e1 e2 => by
          subst e1
          obtain ⟨v, a, b⟩ := yb2
          have hx : ∃ v, x = some v := by
            cases s with
            | no => exact absurd rfl e2
            | own _ => exact yb
            | pin _ => obtain ⟨v, a, _⟩ := yb; exact ⟨v, a⟩
          obtain ⟨u, rfl⟩ := hx
          have b' : some u = some v := b
          cases b'
          exact ⟨a, _, rfl⟩
        have none' : s3 = .no → ∃ w r, O.freeAll (w.map (·.2)) = true ∧ (∃ k r2, (slots [x] [s] ++ kSl ks (n + 1) σ e).Perm (k ++ r2) ∧ (slots [x2] [s3] ++ slots σ2 r0).Perm (k ++ w)) ∧ (slots [x2] [s2] ++ slots σ2 e2).Perm (w ++ r) ∧ (x2 :: σ2).length = (s3 :: r0).length ∧ (∀ (i : Nat) (s : Sl), (s3 :: r0)[i]? = some s → ∃ z, (x2 :: σ2)[i]? = some z ∧ s.ok (vs[n + i]?) z) := fun e0 => by
          subst e0
          have z : slots [x2] [Sl.no] = [] := by cases x2 <;> rfl
          refine ⟨w, slots [x2] [s2] ++ r, q1, ⟨k, slots [x] [s] ++ r2, (List.Perm.append_left _ q2).trans (pmid _ _ _), by rw [z]; exact q3⟩, (List.Perm.append_left _ q4).trans (pmid _ _ _), lens, oks trivial⟩
        cases s with
        | no => cases hs; exact none' rfl
        | own o =>
          cases s2 with
          | no => cases hs; exact none' rfl
          | own o2 => cases hs; exact none' rfl
          | pin o2 =>
            cases hs
            obtain ⟨rfl, v, rfl⟩ := stay o2 rfl (by simp)
            refine ⟨w, slots [some v] [.pin o2] ++ r, q1, ⟨slots [some v] [.own o] ++ k, r2, by rw [List.append_assoc]; exact List.Perm.append_left _ q2, by rw [List.append_assoc]; exact List.Perm.append_left _ q3⟩, (List.Perm.append_left _ q4).trans (pmid _ _ _), lens, oks ⟨v, rfl⟩⟩
        | pin o =>
          cases s2 with
          | no => cases hs; exact none' rfl
          | own o2 => cases hs; exact none' rfl
          | pin o2 =>
            cases hs
            obtain ⟨rfl, v, rfl⟩ := stay o2 rfl (by simp)
            refine ⟨w, slots [some v] [.pin o2] ++ r, q1, ⟨slots [some v] [.pin o] ++ k, r2, by rw [List.append_assoc]; exact List.Perm.append_left _ q2, by rw [List.append_assoc]; exact List.Perm.append_left _ q3⟩, (List.Perm.append_left _ q4).trans (pmid _ _ _), lens, oks ?_⟩
            exact yb
      · rw [if_neg hk]
        unfold backS at hs
        rw [if_neg hk] at hs
        have none' : s3 = .no → ∃ w r, O.freeAll (w.map (·.2)) = true ∧ (∃ k r2, ([] ++ kSl ks (n + 1) σ e).Perm (k ++ r2) ∧ (slots [x2] [s3] ++ slots σ2 r0).Perm (k ++ w)) ∧ (slots [x2] [s2] ++ slots σ2 e2).Perm (w ++ r) ∧ (x2 :: σ2).length = (s3 :: r0).length ∧ (∀ (i : Nat) (s : Sl), (s3 :: r0)[i]? = some s → ∃ z, (x2 :: σ2)[i]? = some z ∧ s.ok (vs[n + i]?) z) := fun e0 => by
          subst e0
          have z : slots [x2] [Sl.no] = [] := by cases x2 <;> rfl
          exact ⟨w, slots [x2] [s2] ++ r, q1, ⟨k, r2, q2, by rw [z]; exact q3⟩, (List.Perm.append_left _ q4).trans (pmid _ _ _), lens, oks trivial⟩
        cases s2 with
        | no => cases hs; exact none' rfl
        | own o2 =>
          have hs : some (if o2.free = true then Sl.own o2 else .no) = some s3 := hs
          by_cases hf : o2.free = true
          · rw [if_pos hf] at hs
            cases hs
            obtain ⟨v, rfl⟩ := yb2
            refine ⟨(v, o2) :: w, r, by rw [List.map_cons]; unfold O.freeAll; rw [hf, q1]; rfl, ⟨k, r2, q2, (List.Perm.cons _ q3).trans (mid _ _ _).symm⟩, List.Perm.cons _ q4, lens, oks ⟨v, rfl⟩⟩
          · rw [if_neg hf] at hs
            cases hs
            exact none' rfl
        | pin o2 =>
          cases s with
          | no => cases hs
          | own o => cases hs
          | pin o =>
            have hs : (if o2.free = true then some (Sl.pin o2) else none) = some s3 := hs
            by_cases hf : o2.free = true
            · rw [if_pos hf] at hs
              cases hs
              obtain ⟨v, rfl, b⟩ := yb2
              obtain ⟨u, rfl, b2⟩ := yb
              have b' : some u = some v := b
              cases b'
              refine ⟨(v, o2) :: w, r, by rw [List.map_cons]; unfold O.freeAll; rw [hf, q1]; rfl, ⟨k, r2, q2, (List.Perm.cons _ q3).trans (mid _ _ _).symm⟩, List.Perm.cons _ q4, lens, oks ⟨v, rfl, b2⟩⟩
            · rw [if_neg hf] at hs
              cases hs
    · cases h
theorem Sta.iso (ks : List Nat) (s : Sta K B F H σ e G) : ∃ F1 H1, Sta K ⟨H1, F1, valsOf σ⟩ F1 H σ (isoIn ks 0 e) [] ∧
    ∀ F2 H2 σ2 e2 e3 (u : Ws), Sta K ⟨H1, F1, valsOf σ⟩ F2 H2 σ2 e2 u → O.freeAll (u.map (·.2)) = true → isoOut ks 0 e e2 = some e3 → Sta K B F H2 σ2 e3 (u ++ G) := by
  obtain ⟨kF, hl, hp⟩ := slots_in ks 0 σ e
  have r0 : Rel K B.H0 B.F0 F H ((kSl ks 0 σ e ++ G) ++ oSl ks 0 σ e) := s.rel.perm (((slots_ko ks 0 σ e).append_right G).trans (by
    rw [List.append_assoc, List.append_assoc]
    exact List.Perm.append_left _ List.perm_append_comm))
  obtain ⟨F1, H1, r1, back⟩ := r0.iso (hl.app (u := G))
  refine ⟨F1, H1, ⟨ok_in ks s.ok, by rw [List.append_nil]; exact r1.perm hp.symm⟩, fun F2 H2 σ2 e2 e3 u s2 hu ho => ?_⟩
  obtain ⟨w, r, q1, ⟨k, r2, q2, q3⟩, q4, q5, q6⟩ := iso_out ks B.vs 0 σ σ2 e e2 e3 ho s.ok.len s2.ok.len (fun i sl hi => by
    obtain ⟨x, a, b⟩ := s.ok.sl i sl hi
    exact ⟨x, a, by rw [Nat.zero_add]; exact b⟩) s2.ok.sl
  have r3 : Rel K H1 F1 F2 H2 (w ++ u) := by
    have a : Rel K H1 F1 F2 H2 (r ++ (w ++ u)) := s2.rel.perm ((q4.append_right u).trans (by
      rw [List.append_assoc]
      exact pmid _ _ _))
    exact a.drop
  have hf : O.freeAll ((w ++ u).map (·.2)) = true := by
    have : ∀ (a b : List O), O.freeAll a = true → O.freeAll b = true → O.freeAll (a ++ b) = true := by
      intro a b ha hb
      induction a with
      | nil => exact hb
      | cons x a ih =>
        unfold O.freeAll at ha
        rw [Bool.and_eq_true] at ha
        rw [List.cons_append]
        unfold O.freeAll
        rw [ha.1, ih ha.2]
        rfl
    rw [List.map_append]
    exact this _ _ q1 hu
  have r4 := back F2 H2 (w ++ u) r3 hf
  refine ⟨⟨q5, fun i sl hi => by
    obtain ⟨x, a, b⟩ := q6 i sl hi
    exact ⟨x, a, by rw [Nat.zero_add] at b; exact b⟩⟩, ?_⟩
  have r5 : Rel K B.H0 B.F0 F H2 (r2 ++ (k ++ (G ++ (w ++ u)))) := r4.perm (by
    rw [List.append_assoc]
    refine (q2.append_right _).trans ?_
    rw [List.append_assoc]
    exact pmid _ _ _)
  refine r5.drop.perm ?_
  refine List.Perm.trans ?_ (q3.symm.append_right (u ++ G))
  rw [List.append_assoc]
  refine List.Perm.append_left _ ?_
  exact List.perm_append_comm.trans (by rw [List.append_assoc])
def mIso (ks : List Nat) (m : MS) : MS := fun e => match m (isoIn ks 0 e) with
  | some (.nx e2) => (match isoOut ks 0 e e2 with
    | some e3 => some (.nx e3)
    | none => none)
  | some (.bk e2) => (match isoOut ks 0 e e2 with
    | some e3 => some (.bk e3)
    | none => none)
  | some (.ct e2) => (match isoOut ks 0 e e2 with
    | some e3 => some (.ct e3)
    | none => none)
  | some (.rt x e2) => if x.free = true then (match isoOut ks 0 e e2 with
    | some e3 => some (.rt x e3)
    | none => none) else none
  | none => none
theorem iso_den {ks : List Nat} {m : MS} {D : Ends} : denS K (mIso ks m) D σ H → denS K m D σ H := fun ⟨B, F, e, G, oc, s, hm, k⟩ => by
  obtain ⟨F1, H1, s1, back⟩ := s.iso ks
  unfold mIso at hm
  split at hm
  · rename_i e2 h2
    split at hm
    · rename_i e3 h3
      cases hm
      exact ⟨_, F1, _, [], _, s1, h2, fun F2 H2 σ2 s2 => k F H2 σ2 (back F2 H2 σ2 e2 e3 [] s2 rfl h3)⟩
    · cases hm
  · rename_i e2 h2
    split at hm
    · rename_i e3 h3
      cases hm
      exact ⟨_, F1, _, [], _, s1, h2, fun F2 H2 σ2 s2 => k F H2 σ2 (back F2 H2 σ2 e2 e3 [] s2 rfl h3)⟩
    · cases hm
  · rename_i e2 h2
    split at hm
    · rename_i e3 h3
      cases hm
      exact ⟨_, F1, _, [], _, s1, h2, fun F2 H2 σ2 s2 => k F H2 σ2 (back F2 H2 σ2 e2 e3 [] s2 rfl h3)⟩
    · cases hm
  · rename_i x e2 h2
    split at hm
    · rename_i hx
      split at hm
      · rename_i e3 h3
        cases hm
        exact ⟨_, F1, _, [], _, s1, h2, fun F2 H2 σ2 v s2 => k F H2 σ2 v (back F2 H2 σ2 e2 e3 [(v, x)] s2 (by simp [O.freeAll, hx]) h3)⟩
      · cases hm
    · cases hm
  · cases hm
structure PSg (X : Cx) (sts : List Stmt) (T : TS) (rest : List Stmt) : Prop where
  run : ∀ u, PSs X rest u → PSs X sts (tSeq T u)
theorem sg_nil {rest : List Stmt} : PSg X rest (denS X.K mNil) rest := ⟨fun u hu => pss_imp hu fun D σ H ⟨B, F, e, G, oc, s, hm, k⟩ => by
  cases hm
  exact k F H σ s⟩
theorem sg_cons {st : Stmt} {seg rest : List Stmt} {t u : MS} (h1 : PS X st (denS X.K t)) (h2 : PSg X seg (denS X.K u) rest) : PSg X (st :: seg) (denS X.K (mSeq t u)) rest := ⟨fun v hv => pss_imp (pss_cons h1 (h2.run v hv)) fun D σ H ⟨B, F, e, G, oc, s, hm, k⟩ => by
  unfold mSeq at hm
  split at hm
  · rename_i e1 h1
    exact ⟨B, F, e, G, _, s, h1, fun F1 H1 σ1 s1 => ⟨B, F1, e1, G, oc, s1, hm, k⟩⟩
  · rename_i hn
    refine ⟨B, F, e, G, oc, s, hm, ?_⟩
    cases oc with
    | nx e1 => exact absurd hm (hn e1)
    | rt x e1 => exact k
    | bk e1 => exact k
    | ct e1 => exact k⟩
theorem dss_iso {ks : List Nat} {sts rest : List Stmt} {m1 m2 : MS} (h1 : PSg X sts (denS X.K m1) rest) (h2 : PSs X rest (denS X.K m2)) : PSs X sts (denS X.K (mSeq (mIso ks m1) m2)) :=
  pss_imp (h1.run _ h2) fun D σ H ⟨B, F, e, G, oc, s, hm, k⟩ => by
    unfold mSeq at hm
    split at hm
    · rename_i e1 h1
      exact iso_den ⟨B, F, e, G, _, s, h1, fun F1 H1 σ1 s1 => ⟨B, F1, e1, G, oc, s1, hm, k⟩⟩
    · rename_i hn
      refine iso_den ⟨B, F, e, G, oc, s, hm, ?_⟩
      cases oc with
      | nx e1 => exact absurd hm (hn e1)
      | rt x e1 => exact k
      | bk e1 => exact k
      | ct e1 => exact k
end
end Dn
namespace Dn
open PySem L2
section
variable {K : PySem.W.Frag} {B : Bs} {F H : Hp} {σ : St} {e : En} {G : Ws} {X : Cx}
theorem pss_upK0 {x : Expr} {r : V → List V → Hp → VK → Prop} {tr : TE} {name : Str} {id : String} {apos cpos pos : Pos} (slot : Slot "list" name id) (hty : typeOf (.builtin id) = pure (.type "method_descriptor")) (hm : MtR X id r) (ho : PE X x tr) (hbase : attributeBase x name X.env (eval x X.env) = eval x X.env := by rfl)
    (hline : (apos.endLine == cpos.line) = true := by rfl) (hsw : swapsWith (.Call (.Attribute x name apos) [] [] cpos) none pos.line X.env = pure false := by rfl) :
    PSs X [.Expr (.Call (.Attribute x name apos) [] [] cpos) pos] (fun D σ H => tBM0 X.K "list" r tr σ H fun _ H1 => D.nx σ H1) :=
  pss_imp (pss_cons (ps_expr (pe_bm0 PySem.F.plainAttrs_list slot hty hm ho hbase hline) hsw) pss_nil) fun D σ H h => h
end
end Dn
namespace Dn
open PySem L2
section
variable {K : PySem.W.Frag} {F H : Hp}
variable {H0 F0 : Hp} {ws : Ws} {B : Bs} {σ : St} {e : En} {G : Ws} {X : Cx}
theorem slots_sub : ∀ (σ σ2 : St) (e e3 : En), σ2.length = σ.length → e3.length = e.length → σ.length = e.length → (∀ (k : Nat) (s : Sl), e3[k]? = some s → s = .no ∨ (e[k]? = some s ∧ σ2[k]? = σ[k]?)) → ∃ r, (slots σ e).Perm (slots σ2 e3 ++ r)
  | [], [], [], [], _, _, _, _ => ⟨[], by simp [slots]⟩
  | x :: σ, y :: σ2, s :: e, t :: e3, h1, h2, h3, h => by
    obtain ⟨r, hr⟩ := slots_sub σ σ2 e e3 (by simpa using h1) (by simpa using h2) (by simpa using h3) fun k s hk => by
      rcases h (k + 1) s (by simpa using hk) with z | ⟨z1, z2⟩
      · exact .inl z
      · exact .inr ⟨by simpa using z1, by simpa using z2⟩
    rw [slots_cons x s, slots_cons y t]
    rcases h 0 t rfl with z | ⟨z1, z2⟩
    · subst z
      refine ⟨slots [x] [s] ++ r, ?_⟩
      have : slots [y] [Sl.no] = [] := by cases y <;> rfl
      rw [this, List.nil_append]
      exact (List.Perm.append_left _ hr).trans (pmid _ _ _)
    · simp only [List.getElem?_cons_zero, Option.some.injEq] at z1 z2
      subst z1
      subst z2
      refine ⟨r, ?_⟩
      rw [List.append_assoc]
      exact List.Perm.append_left _ hr
  | [], _ :: _, _, _, h, _, _, _ => by simp at h
  | _ :: _, [], _, _, h, _, _, _ => by simp at h
  | [], [], _ :: _, _, _, _, h, _ => by simp at h
  | [], [], [], _ :: _, _, h, _, _ => by simp at h
  | _ :: _, _ :: _, [], _, _, _, h, _ => by simp at h
  | _ :: _, _ :: _, _ :: _, [], _, h, _, _ => by simp at h
theorem ok_set {vs : List V} {k : Nat} {s : Sl} (h : SlOk vs σ e) (hs : ∀ x, σ[k]? = some x → s.ok vs[k]? x) : SlOk vs σ (e.set k s) := by
  refine ⟨by rw [List.length_set]; exact h.len, fun l t hl => ?_⟩
  by_cases hk : k = l
  · subst hk
    by_cases hlt : k < e.length
    · rw [List.getElem?_set_self hlt] at hl
      cases hl
      have hσ : k < σ.length := by rw [h.len]; exact hlt
      exact ⟨σ[k], List.getElem?_eq_getElem hσ, hs _ (List.getElem?_eq_getElem hσ)⟩
    · rw [List.getElem?_eq_none (by rw [List.length_set]; omega)] at hl
      cases hl
  · rw [List.getElem?_set_ne hk] at hl
    exact h.sl l t hl
end
end Dn
namespace Dn
open PySem L2
section
variable {K : PySem.W.Frag}
mutual
def O.good : O → Bool
  | .v _ => true
  | .l xs => O.goodAll xs
  | .t xs => O.goodAll xs
  | .dk _ => true
  | .dt _ => true
  | _ => false
def O.goodAll : List O → Bool
  | [] => true
  | x :: xs => O.good x && O.goodAll xs
end
def del (F : Hp) (a : Addr) : Hp := fun p => if p = a then none else F p
structure Out (F : Hp) (a : Addr) : Prop where
  h : ∀ u, F a = some u → ∃ vs c, (u = .lst vs ∨ u = .tup vs) ∧ V.ref c ∈ vs ∧ F c = none
theorem dfa_ref {F : Hp} {c : Addr} : ∀ {vs : List V} {ds : List PyData}, DfAll K F vs ds → V.ref c ∈ vs → F c ≠ none
  | _, _, .nil, h => nomatch h
  | _, _, .cons a t, h => by
    rcases List.mem_cons.mp h with h | h
    · cases a with
      | lst q _ => cases h; rw [q]; exact nofun
      | tup q _ => cases h; rw [q]; exact nofun
      | _ => cases h
    · exact dfa_ref t h
mutual
theorem df_del {F : Hp} {a : Addr} (o : Out F a) : ∀ {v : V} {d : PyData}, Df K F v d → Df K (del F a) v d
  | _, _, .non => .non
  | _, _, .bl b => .bl b
  | _, _, .int i => .int i
  | _, _, .str x => .str x
  | _, _, .lst (a := b) (xs := xs) h t => by
    refine .lst ?_ (dfa_del o t)
    unfold del
    by_cases e : b = a
    · subst e
      obtain ⟨vs, c, e1, e2, e3⟩ := o.h _ h
      rcases e1 with e1 | e1
      · cases e1; exact absurd e3 (dfa_ref t e2)
      · cases e1
    · rw [if_neg e]; exact h
  | _, _, .tup (a := b) (xs := xs) h t => by
    refine .tup ?_ (dfa_del o t)
    unfold del
    by_cases e : b = a
    · subst e
      obtain ⟨vs, c, e1, e2, e3⟩ := o.h _ h
      rcases e1 with e1 | e1
      · cases e1
      · cases e1; exact absurd e3 (dfa_ref t e2)
    · rw [if_neg e]; exact h
theorem dfa_del {F : Hp} {a : Addr} (o : Out F a) : ∀ {vs : List V} {ds : List PyData}, DfAll K F vs ds → DfAll K (del F a) vs ds
  | _, _, .nil => .nil
  | _, _, .cons h t => .cons (df_del o h) (dfa_del o t)
end
mutual
theorem rp_del {F H : Hp} {a : Addr} (oo : Out F a) : ∀ {v : V} {o : O} {T : List Addr}, Rp K F H v o T → o.good = true → Rp K (del F a) H v o T
  | _, _, _, .v h, _ => .v (df_del oo h)
  | _, _, _, .s h, z => by unfold O.good at z; cases z
  | _, _, _, .fx h, z => by unfold O.good at z; cases z
  | _, _, _, .ex _ _ _, z => by unfold O.good at z; cases z
  | _, _, _, .l h e1 e2 r, z => .l h e1 e2 (rpl_del oo r (by unfold O.good at z; rw [e2] at z; exact z))
  | _, _, _, .t h e1 e2 r, z => .t h e1 e2 (rpl_del oo r (by unfold O.good at z; rw [e2] at z; exact z))
  | _, _, _, .dk h e1 t, _ => .dk h e1 (dfa_del oo t)
  | _, _, _, .dt h e1 t, _ => .dt h e1 (dfa_del oo t)
  | _, _, _, .ob _ h h' e0 e1 e2 r, z => by unfold O.good at z; cases z
theorem rpl_del {F H : Hp} {a : Addr} (oo : Out F a) : ∀ {ws : Ws} {T : List Addr}, RpL K F H ws T → O.goodAll (ws.map (·.2)) = true → RpL K (del F a) H ws T
  | _, _, .nil, _ => .nil
  | _, _, .cons (ws := ws) h t, z => by
    rw [List.map_cons] at z
    unfold O.goodAll at z
    rw [Bool.and_eq_true] at z
    exact .cons (rp_del oo h z.1) (rpl_del oo t z.2)
end
section
variable {F H : Hp}
def TopW (H : Hp) (q : Addr) (Tr : List Addr) (v : V) : List Int → Prop
  | [] => v = .ref q
  | k :: _ => ∃ p vs j c Tr', v = .ref p ∧ Tr = p :: Tr' ∧ (H p = some (.lst vs) ∨ H p = some (.tup vs)) ∧ ixN vs.length k = some j ∧ vs[j]? = some (V.ref c) ∧ c ∈ q :: Tr'
theorem TopW.root {q : Addr} {Tr : List Addr} {v : V} : ∀ {ks : List Int}, TopW H q Tr v ks → ∃ c, v = .ref c ∧ c ∈ q :: Tr
  | [], h => ⟨q, h, List.mem_cons_self ..⟩
  | _ :: _, ⟨p, _, _, _, _, h1, h2, _⟩ => ⟨p, h1, by rw [h2]; exact List.mem_cons_of_mem _ (List.mem_cons_self ..)⟩
theorem mem_top {c q : Addr} {Tr T2 : List Addr} (h : c ∈ q :: Tr) : c ∈ q :: (Tr ++ T2) := by
  rcases List.mem_cons.mp h with z | z
  · rw [z]; exact List.mem_cons_self ..
  · exact List.mem_cons_of_mem _ (List.mem_append_left _ z)
theorem rpl_pick2 : ∀ {ws : Ws} {T : List Addr} {j : Nat} {w : V × O}, RpL K F H ws T → ws[j]? = some w → ∃ T1 T2, T.Perm (T1 ++ T2) ∧ Rp K F H w.1 w.2 T1 ∧
    ∀ F' H' o' T1', Same F F' → Rp K F' H' w.1 o' T1' → (∀ p ∈ T2, H' p = H p) → ∃ T', RpL K F' H' (ws.set j (w.1, o')) T' ∧ T'.Perm (T1' ++ T2)
  | _, _, j, w, .nil, h => by simp at h
  | _, _, 0, w, .cons (T1 := Ta) (T2 := Tb) a t, h => by
    simp at h
    subst h
    refine ⟨Ta, Tb, .refl _, a, fun F' H' o' T1' sF r k => ⟨T1' ++ Tb, ?_, .refl _⟩⟩
    rw [List.set_cons_zero]
    exact .cons r (rpl_mono sF t k)
  | _, _, j + 1, w, .cons (x := x) (o := o) (T1 := Ta) (T2 := Tb) a t, h => by
    obtain ⟨T1, T2, p1, r1, k1⟩ := rpl_pick2 (j := j) t (by simpa using h)
    refine ⟨T1, Ta ++ T2, (List.Perm.append_left Ta p1).trans (pmid _ _ _), r1, fun F' H' o' T1' sF r k => ?_⟩
    obtain ⟨T', r2, p2⟩ := k1 F' H' o' T1' sF r fun p hp => k p (List.mem_append_right _ hp)
    refine ⟨Ta ++ T', ?_, (List.Perm.append_left Ta p2).trans (pmid _ _ _)⟩
    rw [List.set_cons_succ]
    exact .cons (rp_mono sF a fun p hp => k p (List.mem_append_left _ hp)) r2
theorem rp_leaf3 : ∀ (ks : List Int) {v : V} {o : O} {T : List Addr} {xs : List O}, Rp K F H v o T → atK o ks = some (.l xs) →
    ∃ q w Tw Tr, T.Perm (q :: (Tw ++ Tr)) ∧ H q = some (.lst (w.map (·.1))) ∧ w.map (·.2) = xs ∧ RpL K F H w Tw ∧ Way K H v ks (.ref q) ∧ TopW H q Tr v ks ∧
    ∀ F' H' w' Tw', Same F F' → (∀ p ∈ Tr, H' p = H p) → H' q = some (.lst (w'.map (·.1))) → RpL K F' H' w' Tw' → ∃ T' o', setK o ks (w'.map (·.2)) = some o' ∧ Rp K F' H' v o' T' ∧ T'.Perm (q :: (Tw' ++ Tr))
  | [], v, o, T, xs, r, h => by
    unfold atK at h
    cases h
    cases r with
    | l hp e1 e2 rl =>
      rename_i p vs ws T'
      refine ⟨p, ws, T', [], by rw [List.append_nil], by rw [hp, e1], e2.symm, rl, .nil, rfl, fun F' H' w' Tw' sF k hq rl' => ⟨p :: Tw', _, rfl, .l hq rfl rfl rl', by rw [List.append_nil]⟩⟩
  | k :: ks, v, o, T, xs, r, h => by
    unfold atK at h
    split at h
    · rename_i zs hz
      split at h
      · rename_i j hj
        split at h
        · rename_i x hx
          cases o with
          | l ys =>
            cases hz
            cases r with
            | l hp e1 e2 rl =>
              rename_i p vs ws T'
              subst e2
              rw [List.getElem?_map] at hx
              obtain ⟨w0, hw0, rfl⟩ := Option.map_eq_some_iff.mp hx
              obtain ⟨T1, T2, p1, r1, k1⟩ := rpl_pick2 rl hw0
              obtain ⟨q, w, Tw, Tr, p2, hq, hw, rlw, way, top, k2⟩ := rp_leaf3 ks r1 h
              obtain ⟨c, hc1, hc2⟩ := top.root
              rw [List.length_map] at hj
              refine ⟨q, w, Tw, p :: (Tr ++ T2), ?_, hq, hw, rlw, .cons (.inl hp) (by rw [e1, List.length_map]; exact hj) (by rw [e1, List.getElem?_map, hw0]; rfl) way, ⟨p, vs, j, c, Tr ++ T2, rfl, rfl, .inl hp, by rw [e1, List.length_map]; exact hj, by rw [e1, List.getElem?_map, hw0]; exact congrArg some hc1, mem_top hc2⟩, fun F' H' w' Tw' sF kk hq' rl' => ?_⟩
              · refine ((p1.trans (List.Perm.append_right T2 p2)).cons p).trans ?_
                refine (List.Perm.swap _ _ _).trans (List.Perm.cons _ ?_)
                show (p :: ((Tw ++ Tr) ++ T2)).Perm _
                rw [List.append_assoc]
                exact (mid _ _ _).symm
              · obtain ⟨T', o', s1, s2, s3⟩ := k2 F' H' w' Tw' sF (fun a ha => kk a (List.mem_cons_of_mem _ (List.mem_append_left _ ha))) hq' rl'
                obtain ⟨T'', s4, s5⟩ := k1 F' H' o' T' sF s2 fun a ha => kk a (List.mem_cons_of_mem _ (List.mem_append_right _ ha))
                refine ⟨p :: T'', .l ((ws.map (·.2)).set j o'), ?_, .l ((kk p (List.mem_cons_self ..)).trans hp) ?_ ?_ s4, ?_⟩
                · unfold setK
                  simp only [O.kids, List.length_map, hj, List.getElem?_map, hw0, Option.map_some, s1, O.withKids]
                · rw [e1, List.map_set]
                  symm
                  apply set_same
                  rw [List.getElem?_map, hw0]; rfl
                · rw [List.map_set]
                · refine ((s5.trans (List.Perm.append_right T2 s3)).cons p).trans ?_
                  refine (List.Perm.swap _ _ _).trans (List.Perm.cons _ ?_)
                  show (p :: ((Tw' ++ Tr) ++ T2)).Perm _
                  rw [List.append_assoc]
                  exact (mid _ _ _).symm
          | t ys =>
            cases hz
            cases r with
            | t hp e1 e2 rl =>
              rename_i p vs ws T'
              subst e2
              rw [List.getElem?_map] at hx
              obtain ⟨w0, hw0, rfl⟩ := Option.map_eq_some_iff.mp hx
              obtain ⟨T1, T2, p1, r1, k1⟩ := rpl_pick2 rl hw0
              obtain ⟨q, w, Tw, Tr, p2, hq, hw, rlw, way, top, k2⟩ := rp_leaf3 ks r1 h
              obtain ⟨c, hc1, hc2⟩ := top.root
              rw [List.length_map] at hj
              refine ⟨q, w, Tw, p :: (Tr ++ T2), ?_, hq, hw, rlw, .cons (.inr hp) (by rw [e1, List.length_map]; exact hj) (by rw [e1, List.getElem?_map, hw0]; rfl) way, ⟨p, vs, j, c, Tr ++ T2, rfl, rfl, .inr hp, by rw [e1, List.length_map]; exact hj, by rw [e1, List.getElem?_map, hw0]; exact congrArg some hc1, mem_top hc2⟩, fun F' H' w' Tw' sF kk hq' rl' => ?_⟩
              · refine ((p1.trans (List.Perm.append_right T2 p2)).cons p).trans ?_
                refine (List.Perm.swap _ _ _).trans (List.Perm.cons _ ?_)
                show (p :: ((Tw ++ Tr) ++ T2)).Perm _
                rw [List.append_assoc]
                exact (mid _ _ _).symm
              · obtain ⟨T', o', s1, s2, s3⟩ := k2 F' H' w' Tw' sF (fun a ha => kk a (List.mem_cons_of_mem _ (List.mem_append_left _ ha))) hq' rl'
                obtain ⟨T'', s4, s5⟩ := k1 F' H' o' T' sF s2 fun a ha => kk a (List.mem_cons_of_mem _ (List.mem_append_right _ ha))
                refine ⟨p :: T'', .t ((ws.map (·.2)).set j o'), ?_, .t ((kk p (List.mem_cons_self ..)).trans hp) ?_ ?_ s4, ?_⟩
                · unfold setK
                  simp only [O.kids, List.length_map, hj, List.getElem?_map, hw0, Option.map_some, s1, O.withKids]
                · rw [e1, List.map_set]
                  symm
                  apply set_same
                  rw [List.getElem?_map, hw0]; rfl
                · rw [List.map_set]
                · refine ((s5.trans (List.Perm.append_right T2 s3)).cons p).trans ?_
                  refine (List.Perm.swap _ _ _).trans (List.Perm.cons _ ?_)
                  show (p :: ((Tw' ++ Tr) ++ T2)).Perm _
                  rw [List.append_assoc]
                  exact (mid _ _ _).symm
          | _ => cases hz
        · cases h
      · cases h
    · cases h
end
variable {F H H0 F0 : Hp} {ws gs : Ws} {B : Bs} {σ : St} {e : En} {G : Ws} {X : Cx}
theorem Rel.focus2 {v : V} {o : O} {k : Int} {ks : List Int} {xs : List O} (r : Rel K H0 F0 F H ((v, o) :: (ws ++ gs))) (h : atK o (k :: ks) = some (.l xs)) :
    ∃ q w F1 H1 u, Way K H v (k :: ks) (.ref q) ∧ H q = some (.lst (w.map (·.1))) ∧ w.map (·.2) = xs ∧ H1 q = H q ∧ Rel K H1 F1 F1 H ((v, .fx u) :: (w ++ ws)) ∧
    ∀ F2 H2 (w' ws' : Ws), Rel K H1 F1 F2 H2 (w' ++ ws') → w'.map (·.1) = w.map (·.1) → O.goodAll (w'.map (·.2)) = true → O.goodAll (ws'.map (·.2)) = true → ∃ o' F3, setK o (k :: ks) (w'.map (·.2)) = some o' ∧ Rel K H0 F0 F3 H2 ((v, o') :: (ws' ++ gs)) := by
  obtain ⟨T, rl, nd, hp⟩ := r.res
  cases rl with
  | cons ra rt =>
    rename_i T1 T2
    obtain ⟨Ts, Tg, rfl, rts, rtg⟩ := rpl_split rt
    obtain ⟨q, w, Tw, Tr, pm, hq, hw, rlw, way, ⟨a, vs0, jj, c, Tr', hva, hTr, hroot, hj, hu1, hcT⟩, kk⟩ := rp_leaf3 (k :: ks) ra h
    subst hva
    have haT : a ∈ q :: Tr := by rw [hTr]; exact List.mem_cons_of_mem _ (List.mem_cons_self ..)
    have nd2 : ((q :: (Tw ++ Tr)) ++ (Ts ++ Tg)).Nodup := (pm.append_right _).nodup_iff.mp nd
    have hp2 : ∀ p ∈ (q :: (Tw ++ Tr)) ++ (Ts ++ Tg), F p = none ∧ H0 p = none := fun p m => hp p ((pm.append_right _).mem_iff.mpr m)
    obtain ⟨n1, n2, n3⟩ := List.nodup_append.mp nd2
    obtain ⟨nq, n4⟩ := List.nodup_cons.mp n1
    obtain ⟨n5, n6, n7⟩ := List.nodup_append.mp n4
    obtain ⟨n8, n9, n10⟩ := List.nodup_append.mp n2
    have inK : ∀ p, p ∈ q :: Tr → p ∈ (q :: (Tw ++ Tr)) ++ (Ts ++ Tg) := fun p m => by
      rcases List.mem_cons.mp m with rfl | m
      · exact List.mem_append_left _ (List.mem_cons_self ..)
      · exact List.mem_append_left _ (List.mem_cons_of_mem _ (List.mem_append_right _ m))
    have inW : ∀ p, p ∈ Tw → p ∈ (q :: (Tw ++ Tr)) ++ (Ts ++ Tg) := fun p m => List.mem_append_left _ (List.mem_cons_of_mem _ (List.mem_append_left _ m))
    have inS : ∀ p, p ∈ Ts → p ∈ (q :: (Tw ++ Tr)) ++ (Ts ++ Tg) := fun p m => List.mem_append_right _ (List.mem_append_left _ m)
    have inG : ∀ p, p ∈ Tg → p ∈ (q :: (Tw ++ Tr)) ++ (Ts ++ Tg) := fun p m => List.mem_append_right _ (List.mem_append_right _ m)
    have kW : ∀ p, p ∈ q :: Tr → p ∉ Tw ++ Ts := fun p m z => by
      rcases List.mem_append.mp z with z | z
      · rcases List.mem_cons.mp m with rfl | m
        · exact nq (List.mem_append_left _ z)
        · exact n7 p z p m rfl
      · refine n3 p ?_ p (List.mem_append_left _ z) rfl
        rcases List.mem_cons.mp m with rfl | m
        · exact List.mem_cons_self ..
        · exact List.mem_cons_of_mem _ (List.mem_append_right _ m)
    have gW : ∀ p, p ∈ Tg → p ∉ Tw ++ Ts := fun p m z => by
      rcases List.mem_append.mp z with z | z
      · exact n3 p (List.mem_cons_of_mem _ (List.mem_append_left _ z)) p (List.mem_append_right _ m) rfl
      · exact n10 p z p m rfl
    have dom1 : ∀ p, p ∈ q :: Tr → H p ≠ none := fun p m => rp_dom ra p (pm.mem_iff.mpr (by
      rcases List.mem_cons.mp m with rfl | m
      · exact List.mem_cons_self ..
      · exact List.mem_cons_of_mem _ (List.mem_append_right _ m)))
    -- the root and its item on the way
    have hroot' : ∃ u, H a = some u ∧ (u = .lst vs0 ∨ u = .tup vs0) := by
      rcases hroot with h | h
      · exact ⟨_, h, .inl rfl⟩
      · exact ⟨_, h, .inr rfl⟩
    obtain ⟨u, hu, huv⟩ := hroot'
    have hcK : c ∈ q :: Tr := by
      rcases List.mem_cons.mp hcT with z | z
      · rw [z]; exact List.mem_cons_self ..
      · rw [hTr]; exact List.mem_cons_of_mem _ (List.mem_cons_of_mem _ z)
    have hca : c ≠ a := fun z => by
      subst z
      rw [hTr] at n6 nq
      rcases List.mem_cons.mp hcT with z | z
      · exact nq (List.mem_append_right _ (by rw [← z]; exact List.mem_cons_self ..))
      · exact (List.nodup_cons.mp n6).1 z
    · skip
      have fW : ∀ p o, F p = some o → p ∉ Tw ++ Ts := fun p o e m => by
        rcases List.mem_append.mp m with m | m
        · rw [(hp2 p (inW p m)).1] at e; cases e
        · rw [(hp2 p (inS p m)).1] at e; cases e
      have fa : F a = none := (hp2 a (inK a haT)).1
      have h0W : ∀ p o, H0 p = some o → p ∉ Tw ++ Ts := fun p o e m => by
        rcases List.mem_append.mp m with m | m
        · rw [(hp2 p (inW p m)).2] at e; cases e
        · rw [(hp2 p (inS p m)).2] at e; cases e
      have sF : Same F (upd F a u) := fun p o e => by
        by_cases z : p = a
        · subst z; rw [fa] at e; cases e
        · rw [upd_ne z]; exact e
      have aW : a ∉ Tw ++ Ts := kW a haT
      refine ⟨q, w, upd F a u, fun p => if p ∈ Tw ++ Ts then none else H p, u, way, hq, hw, by simp only [if_neg (kW q (List.mem_cons_self ..))], ⟨fun p o e => ?_, .refl _, fun p o e => .inl e, fun p o e => ?_, Tw ++ Ts, ?_, ?_, fun p m => ⟨?_, by simp only [if_pos m]⟩⟩, fun F2 H2 w' ws' r2 hw' hg1 hg2 => ?_⟩
      · by_cases m : p ∈ Tw ++ Ts
        · simp only [if_pos m] at e; cases e
        · simp only [if_neg m] at e; exact e
      · by_cases z : p = a
        · subst z; rw [upd_same] at e; cases e; exact hu
        · rw [upd_ne z] at e; exact r.fh p o e
      · exact .cons (T1 := []) (.fx upd_same) (rpl_append (rpl_mono sF rlw fun p _ => rfl) (rpl_mono sF rts fun p _ => rfl))
      · exact List.nodup_append.mpr ⟨n5, n8, fun p m p2 m2 z => n3 p (List.mem_cons_of_mem _ (List.mem_append_left _ m)) p2 (List.mem_append_left _ m2) z⟩
      · rw [upd_ne (fun z => aW (by rw [← z]; exact m))]
        rcases List.mem_append.mp m with m | m
        · exact (hp2 p (inW p m)).1
        · exact (hp2 p (inS p m)).1
      · have up : ∀ p o, p ∉ Tw ++ Ts → H p = some o → H2 p = some o := fun p o m e => r2.h0 p o (by simp only [if_neg m]; exact e)
        obtain ⟨Tn, rn, ndn, hpn⟩ := r2.res
        obtain ⟨Tn1, Tn2, rfl, rn1, rn2⟩ := rpl_split rn
        have nn : ∀ p ∈ Tn1 ++ Tn2, (if p ∈ Tw ++ Ts then none else H p) = none := fun p m => (hpn p m).2
        have stayK : ∀ p, p ∈ q :: Tr → H2 p = H p := fun p m => by
          cases e : H p with
          | some o => exact up p o (kW p m) e
          | none => exact absurd e (dom1 p m)
        have stayG : ∀ p, p ∈ Tg → H2 p = H p := fun p m => by
          cases e : H p with
          | some o => exact up p o (gW p m) e
          | none => exact absurd e (rpl_dom rtg p m)
        have hF2c : F2 c = none := by
          cases e : F2 c with
          | none => rfl
          | some o =>
            rcases r2.fn c o e with z | z
            · have z' : upd F a u c = some o := z
              rw [upd_ne hca, (hp2 c (inK c hcK)).1] at z'
              cases z'
            · have z' : (if c ∈ Tw ++ Ts then none else H c) = none := z
              rw [if_neg (kW c hcK)] at z'
              exact absurd z' (dom1 c hcK)
        have hF2a : F2 a = some u := r2.f0 a u upd_same
        have oo : Out F2 a := ⟨fun u' e => by
          rw [hF2a] at e
          cases e
          exact ⟨vs0, c, huv, List.mem_of_getElem? hu1, hF2c⟩⟩
        have sFd : Same F (del F2 a) := fun p o e => by
          unfold del
          by_cases z : p = a
          · subst z; rw [fa] at e; cases e
          · rw [if_neg z]
            have : upd F a u p = some o := by rw [upd_ne z]; exact e
            exact r2.f0 p o this
        have e1 := rpl_del oo rn1 hg1
        have e2 := rpl_del oo rn2 hg2
        obtain ⟨T', o', s1, s2, s3⟩ := kk (del F2 a) H2 w' Tn1 sFd (fun p m => stayK p (List.mem_cons_of_mem _ m)) (by rw [stayK q (List.mem_cons_self ..), hq, hw']) e1
        have nK : ∀ p ∈ Tn1 ++ Tn2, p ∉ q :: Tr := fun p m z => by
          have e := nn p m
          rw [if_neg (kW p z)] at e
          exact dom1 p z e
        have nG : ∀ p ∈ Tn1 ++ Tn2, p ∉ Tg := fun p m z => by
          have e := nn p m
          rw [if_neg (gW p z)] at e
          exact rpl_dom rtg p z e
        obtain ⟨nd1, nd2', nd3⟩ := List.nodup_append.mp ndn
        refine ⟨o', del F2 a, s1, fun p o e => up p o (h0W p o e) (r.h0 p o e), r.f0.trans sFd, fun p o e => ?_, fun p o e => ?_, T' ++ (Tn2 ++ Tg), .cons s2 (rpl_append e2 (rpl_mono sFd rtg fun p m => stayG p m)), ?_, fun p m => ?_⟩
        · unfold del at e
          by_cases z : p = a
          · rw [if_pos z] at e; cases e
          · rw [if_neg z] at e
            rcases r2.fn p o e with y | y
            · have y' : upd F a u p = some o := y
              rw [upd_ne z] at y'
              exact r.fn p o y'
            · have y' : (if p ∈ Tw ++ Ts then none else H p) = none := y
              right
              cases g : H0 p with
              | none => rfl
              | some o2 => rw [if_neg (h0W p o2 g), r.h0 p o2 g] at y'; cases y'
        · unfold del at e
          by_cases z : p = a
          · rw [if_pos z] at e; cases e
          · rw [if_neg z] at e; exact r2.fh p o e
        · rw [(s3.append_right (Tn2 ++ Tg)).nodup_iff]
          refine List.nodup_append.mpr ⟨List.nodup_cons.mpr ⟨fun z => ?_, List.nodup_append.mpr ⟨nd1, n6, fun p m p2 m2 z => ?_⟩⟩, List.nodup_append.mpr ⟨nd2', n9, fun p m p2 m2 z => ?_⟩, fun p m p2 m2 z => ?_⟩
          · rcases List.mem_append.mp z with z | z
            · exact nK q (List.mem_append_left _ z) (List.mem_cons_self ..)
            · exact nq (List.mem_append_right _ z)
          · subst z; exact nK p (List.mem_append_left _ m) (List.mem_cons_of_mem _ m2)
          · subst z; exact nG p (List.mem_append_right _ m) m2
          · subst z
            rcases List.mem_append.mp m2 with y | y
            · rcases List.mem_cons.mp m with rfl | m
              · exact nK p (List.mem_append_right _ y) (List.mem_cons_self ..)
              · rcases List.mem_append.mp m with m | m
                · exact nd3 p m p y rfl
                · exact nK p (List.mem_append_right _ y) (List.mem_cons_of_mem _ m)
            · rcases List.mem_cons.mp m with rfl | m
              · exact n3 p (List.mem_cons_self ..) p (List.mem_append_right _ y) rfl
              · rcases List.mem_append.mp m with m | m
                · exact nG p (List.mem_append_left _ m) y
                · exact n3 p (List.mem_cons_of_mem _ (List.mem_append_right _ m)) p (List.mem_append_right _ y) rfl
        · have m' := (s3.append_right (Tn2 ++ Tg)).mem_iff.mp m
          have old : p ∈ q :: Tr ∨ p ∈ Tg ∨ p ∈ Tn1 ++ Tn2 := by
            rcases List.mem_append.mp m' with y | y
            · rcases List.mem_cons.mp y with rfl | y
              · exact .inl (List.mem_cons_self ..)
              · rcases List.mem_append.mp y with y | y
                · exact .inr (.inr (List.mem_append_left _ y))
                · exact .inl (List.mem_cons_of_mem _ y)
            · rcases List.mem_append.mp y with y | y
              · exact .inr (.inr (List.mem_append_right _ y))
              · exact .inr (.inl y)
          have kept : p ∈ (q :: (Tw ++ Tr)) ++ (Ts ++ Tg) → H p ≠ none → p ∉ Tw ++ Ts → del F2 a p = none := fun mm hd nw => by
            unfold del
            by_cases z : p = a
            · rw [if_pos z]
            · rw [if_neg z]
              cases e : F2 p with
              | none => rfl
              | some o2 =>
                rcases r2.fn p o2 e with y | y
                · have y' : upd F a u p = some o2 := y
                  rw [upd_ne z, (hp2 p mm).1] at y'
                  cases y'
                · have y' : (if p ∈ Tw ++ Ts then none else H p) = none := y
                  rw [if_neg nw] at y'
                  exact absurd y' hd
          rcases old with y | y | y
          · exact ⟨kept (inK p y) (dom1 p y) (kW p y), (hp2 p (inK p y)).2⟩
          · exact ⟨kept (inG p y) (rpl_dom rtg p y) (gW p y), (hp2 p (inG p y)).2⟩
          · have e0 := nn p y
            refine ⟨?_, ?_⟩
            · unfold del
              by_cases z : p = a
              · rw [if_pos z]
              · rw [if_neg z]; exact (hpn p y).1
            · cases g : H0 p with
              | none => rfl
              | some o2 => rw [if_neg (h0W p o2 g), r.h0 p o2 g] at e0; cases e0
def goodS (s : Sl) : Sl := match s.o? with
  | some o => if o.good = true then s else .no
  | none => .no
theorem goodS_get (k : Nat) (s : Sl) (h : (e.map goodS)[k]? = some s) (hn : s ≠ .no) : e[k]? = some s := by
  rw [List.getElem?_map] at h
  obtain ⟨s0, h0, rfl⟩ := Option.map_eq_some_iff.mp h
  unfold goodS at hn ⊢
  cases hp : s0.o? with
  | none => rw [hp] at hn; exact absurd rfl hn
  | some o =>
    rw [hp] at hn
    simp only at hn ⊢
    by_cases hg : o.good = true
    · rw [if_pos hg]; exact h0
    · rw [if_neg hg] at hn; exact absurd rfl hn
theorem slots_good : ∀ (σ : St) (e : En), O.goodAll ((slots σ (e.map goodS)).map (·.2)) = true
  | [], e => by cases e <;> simp [slots, O.goodAll]
  | _ :: _, [] => by simp [slots, O.goodAll]
  | x :: σ, s :: e => by
    have ih := slots_good σ e
    rw [List.map_cons, slots_cons, List.map_append]
    have app : ∀ a b : List O, O.goodAll a = true → O.goodAll b = true → O.goodAll (a ++ b) = true := by
      intro a b ha hb
      induction a with
      | nil => exact hb
      | cons y a ih2 =>
        unfold O.goodAll at ha
        rw [Bool.and_eq_true] at ha
        rw [List.cons_append]
        unfold O.goodAll
        rw [ha.1, ih2 ha.2]
        rfl
    refine app _ _ ?_ ih
    have one : ∀ v (o : O), O.good o = true → O.goodAll (([(v, o)] : Ws).map (·.2)) = true := fun v o h => by simp [O.goodAll, h]
    cases x with
    | none => cases h : goodS s <;> rfl
    | some v =>
      cases s with
      | no => rfl
      | own o =>
        show O.goodAll ((slots [some v] [if o.good = true then Sl.own o else .no]).map (·.2)) = true
        by_cases hg : o.good = true
        · rw [if_pos hg]; exact one v o hg
        · rw [if_neg hg]; rfl
      | pin o =>
        show O.goodAll ((slots [some v] [if o.good = true then Sl.pin o else .no]).map (·.2)) = true
        by_cases hg : o.good = true
        · rw [if_pos hg]; exact one v o hg
        · rw [if_neg hg]; rfl
theorem goodS_set {i : Nat} : (e.set i .no).map goodS = (e.map goodS).set i .no := by rw [List.map_set]; rfl
def eY (e : En) (i j : Nat) (u : HO) (x : O) : En := (e.set i (.pin (.fx u))).set j (.pin x)
open Classical in
noncomputable def turnY (body : MS) (e : En) (i j : Nat) (x : O) : Option O := if h : ∃ x', O.good x' = true ∧ ∀ u, body (eY e i j u x) = some (.nx (eY e i j u x')) then some h.choose else none
theorem turnY_some {body : MS} {i j : Nat} {x x' : O} (h : turnY body e i j x = some x') : x'.good = true ∧ ∀ u, body (eY e i j u x) = some (.nx (eY e i j u x')) := by
  unfold turnY at h
  split at h
  · rename_i hex
    cases h
    exact hex.choose_spec
  · cases h
theorem turnY_of {body : MS} {i j : Nat} {x x' : O} (hj : j < e.length) (h1 : x'.good = true) (h2 : ∀ u, body (eY e i j u x) = some (.nx (eY e i j u x'))) : turnY body e i j x = some x' := by
  have hex : ∃ x', O.good x' = true ∧ ∀ u, body (eY e i j u x) = some (.nx (eY e i j u x')) := ⟨x', h1, h2⟩
  unfold turnY
  rw [dif_pos hex]
  obtain ⟨_, g⟩ := hex.choose_spec
  have a := g (.lst [])
  rw [h2 (.lst [])] at a
  have a' : eY e i j (.lst []) x' = eY e i j (.lst []) hex.choose := by
    exact Oc.nx.inj (Option.some.inj a)
  have b := congrArg (fun l : En => l[j]?) a'
  unfold eY at b
  rw [List.getElem?_set_self (by simpa using hj), List.getElem?_set_self (by simpa using hj)] at b
  exact congrArg some (Sl.pin.inj (Option.some.inj b)).symm
noncomputable def alY (body : MS) (e : En) (i j : Nat) : List O → Option (List O)
  | [] => some []
  | x :: xs => (match turnY body e i j x, alY body e i j xs with
    | some y, some ys => some (y :: ys)
    | _, _ => none)
noncomputable def mForY (i : Nat) (bs : List (En → Option O)) (j : Nat) (body : MS) : MS := fun e => match e[i]?, e[j]?, pathK e bs with
  | some (.own o), some .no, some (k :: ks) => (match atK o (k :: ks) with
    | some (.l xs) => (match alY body e i j xs with
      | some ys => (match setK o (k :: ks) ys with
        | some o' => some (.nx ((e.map goodS).set i (.own o')))
        | none => none)
      | none => none)
    | _ => none)
  | _, _, _ => none
theorem alY_get {body : MS} {i j : Nat} : ∀ {xs ys : List O}, alY body e i j xs = some ys → ys.length = xs.length ∧ ∀ (n : Nat) (x : O), xs[n]? = some x → ∃ y, ys[n]? = some y ∧ turnY body e i j x = some y
  | [], ys, h => by cases h; exact ⟨rfl, fun n x hx => by simp at hx⟩
  | x :: xs, ys, h => by
    unfold alY at h
    split at h
    · rename_i y ys' h1 h2
      cases h
      obtain ⟨g1, g2⟩ := alY_get h2
      refine ⟨by simp [g1], fun n z hz => ?_⟩
      cases n with
      | zero => simp only [List.getElem?_cons_zero, Option.some.injEq] at hz; subst hz; exact ⟨y, rfl, h1⟩
      | succ n => exact g2 n z (by simpa using hz)
    · cases h
theorem ok_vals (h : SlOk B.vs σ e) : SlOk (valsOf σ) σ e := by
  refine ⟨h.len, fun k s hk => ?_⟩
  obtain ⟨x, hx, q⟩ := h.sl k s hk
  refine ⟨x, hx, ?_⟩
  cases s with
  | no => trivial
  | own o => exact q
  | pin o =>
    obtain ⟨v, rfl, _⟩ := q
    refine ⟨v, rfl, ?_⟩
    unfold valsOf
    rw [List.getElem?_map, hx]
    rfl
theorem ds_forY {i j : Nat} {tgE iter : Expr} {body : List Stmt} {bs : List (En → Option O)} {mb : MS} {tr : TE} {pos : Pos} (hp : PassesOwn (model X.prog X.w) X.A X.env X.xe) (hc : X.calm = true) (hi : PE X iter tr) (hrec : Recv X.K i bs tr) (hg : PG X tgE (Tg.rd X.K (.n j))) (hb : PSs X body (denS X.K mb))
    (hs : ∀ x, foldedSetIterable iter X.env x = pure x := by intro _; rfl) : PS X (.For tgE iter body [] pos) (denS X.K (mForY i bs j mb)) := ps_imp (ps_for hp hc (pi_list hi) hg hb hs) fun D σ H ⟨B, F, e, G, oc, s, hm, k⟩ => by
  unfold mForY at hm
  split at hm
  · rename_i o k0 ks h0 hj0 hks
    split at hm
    · rename_i xs hat
      split at hm
      · rename_i ys hys
        split at hm
        · rename_i o' hset
          cases hm
          obtain ⟨yl, yg⟩ := alY_get hys
          have hij : i ≠ j := fun z => by rw [z, hj0] at h0; cases h0
          have hil : i < e.length := (List.getElem?_eq_some_iff.mp h0).1
          have hjl : j < e.length := (List.getElem?_eq_some_iff.mp hj0).1
          obtain ⟨v, hv, s0⟩ := s.out h0 (show (Sl.own o).o? = some o from rfl)
          have r0 : Rel X.K B.H0 B.F0 F H ((v, o) :: (slots σ (e.set i .no) ++ G)) := s0.rel.perm (mid _ _ _)
          obtain ⟨q, w, F1, H1, u, way, hq, hwx, hq1, r1, back⟩ := r0.focus2 hat
          have ok1 : SlOk (valsOf σ) σ (e.set i (.pin (.fx u))) := ok_set (ok_vals s.ok) fun x hx => by
            rw [hv] at hx
            cases hx
            refine ⟨v, rfl, ?_⟩
            unfold valsOf
            rw [List.getElem?_map, hv]
            rfl
          have rel1 : Rel X.K H1 F1 F1 H (slots σ (e.set i (.pin (.fx u))) ++ w) := by
            refine r1.perm ?_
            have a := (slots_put (σ := σ) (e := e) (i := i) (s := .pin (.fx u)) (o := .fx u) rfl hil hv).append_right w
            refine List.Perm.trans ?_ a.symm
            exact List.Perm.cons _ List.perm_append_comm
          refine hrec B F H σ e G v (.ref q) (k0 :: ks) _ s hv hks way ⟨q, rfl, ⟨_, .of hq⟩, ?_⟩
          have wl : w.length = xs.length := by rw [← hwx, List.length_map]
          have ej1 : (e.set i (.pin (.fx u)))[j]? = some .no := by
            rw [List.getElem?_set_ne hij]
            exact hj0
          refine ⟨fun n m σ1 Hn => ∃ (Fn : Hp) (wn : Ws), n + m = xs.length ∧ wn.map (·.1) = w.map (·.1) ∧ wn.map (·.2) = ys.take n ++ xs.drop n ∧ Sta X.K ⟨H1, F1, valsOf σ⟩ Fn Hn σ1 (e.set i (.pin (.fx u))) wn,
            ⟨xs.length, F1, w, by omega, rfl, by simp [hwx], ok1, rel1⟩, fun n m σ1 Hn ⟨Fn, wn, hnm, hw1, hw2, sn⟩ => ?_⟩
          have hqn : Hn q = some (.lst (w.map (·.1))) := sn.rel.h0 q _ (show H1 q = _ by rw [hq1]; exact hq)
          cases m with
          | zero =>
            have hn : n = xs.length := by omega
            subst hn
            have hw2' : wn.map (·.2) = ys := by rw [hw2, ← yl, List.take_length, yl, List.drop_length, List.append_nil]
            refine .inl ⟨⟨_, .of hqn, by rw [List.length_map]; omega⟩, ?_⟩
            have hlen : σ1.length = σ.length := by rw [sn.ok.len, s.ok.len]; simp
            have hσi : σ1[i]? = some (some v) := by
              obtain ⟨y, hy, z, rfl, hz⟩ := sn.ok.sl i (.pin (.fx u)) (by rw [List.getElem?_set_self hil])
              unfold valsOf at hz
              rw [List.getElem?_map, hv] at hz
              cases hz
              exact hy
            have stay : ∀ (l : Nat) (t : Sl), ((e.map goodS).set i .no)[l]? = some t → t = .no ∨ ((e.set i (.pin (.fx u)))[l]? = some t ∧ σ1[l]? = σ1[l]?) := fun l t hl => by
              by_cases hli : i = l
              · subst hli
                rw [List.getElem?_set_self (by simpa using hil)] at hl
                cases hl
                exact .inl rfl
              · rw [List.getElem?_set_ne hli] at hl
                by_cases ht : t = .no
                · exact .inl ht
                · exact .inr ⟨by rw [List.getElem?_set_ne hli]; exact goodS_get l t hl ht, rfl⟩
            obtain ⟨rr, hrr⟩ := slots_sub σ1 σ1 (e.set i (.pin (.fx u))) ((e.map goodS).set i .no) rfl (by simp) sn.ok.len stay
            have rd : Rel X.K H1 F1 Fn Hn (wn ++ slots σ1 ((e.map goodS).set i .no)) := by
              have c1 : Rel X.K H1 F1 Fn Hn (rr ++ (wn ++ slots σ1 ((e.map goodS).set i .no))) := sn.rel.perm (by
                refine (hrr.append_right wn).trans ?_
                rw [List.append_assoc]
                refine (pmid _ _ _).trans (List.Perm.append_left _ List.perm_append_comm))
              exact c1.drop
            have hfr : O.goodAll (wn.map (·.2)) = true := by
              rw [hw2']
              have all : ∀ l : List O, (∀ y ∈ l, O.good y = true) → O.goodAll l = true := by
                intro l
                induction l with
                | nil => exact fun _ => rfl
                | cons a l ih =>
                  intro h
                  unfold O.goodAll
                  rw [h a (List.mem_cons_self ..), ih fun y hy => h y (List.mem_cons_of_mem _ hy)]
                  rfl
              refine all ys fun y hy => ?_
              obtain ⟨n, hn⟩ := List.getElem?_of_mem hy
              have hlt := (List.getElem?_eq_some_iff.mp hn).1
              obtain ⟨y', a1, a2⟩ := yg n xs[n] (List.getElem?_eq_getElem (by omega))
              rw [hn] at a1
              cases a1
              exact (turnY_some a2).1
            have hgs : O.goodAll ((slots σ1 ((e.map goodS).set i .no)).map (·.2)) = true := by
              rw [← goodS_set]
              exact slots_good σ1 (e.set i .no)
            obtain ⟨o2, F3, b1, b2⟩ := back Fn Hn wn (slots σ1 ((e.map goodS).set i .no)) rd hw1 hfr hgs
            rw [hw2', hset] at b1
            cases b1
            refine k F3 Hn σ1 ⟨⟨by rw [hlen, s.ok.len]; simp, fun l t hl => ?_⟩, ?_⟩
            · by_cases hli : i = l
              · subst hli
                rw [List.getElem?_set_self (by simpa using hil)] at hl
                cases hl
                exact ⟨_, hσi, v, rfl⟩
              · rw [List.getElem?_set_ne hli] at hl
                have hll : l < σ1.length := by
                  rw [hlen, s.ok.len]
                  have := (List.getElem?_eq_some_iff.mp hl).1
                  simpa using this
                by_cases ht : t = .no
                · subst ht
                  exact ⟨σ1[l], List.getElem?_eq_getElem hll, trivial⟩
                · have g1 := goodS_get l t hl ht
                  obtain ⟨y, hy, hok⟩ := sn.ok.sl l t (by rw [List.getElem?_set_ne hli]; exact g1)
                  refine ⟨y, hy, ?_⟩
                  cases t with
                  | no => trivial
                  | own o3 => exact hok
                  | pin o3 =>
                    obtain ⟨y2, hy2, z2, rfl, hz2⟩ := s.ok.sl l (.pin o3) g1
                    obtain ⟨z, rfl, hz⟩ := hok
                    refine ⟨z, rfl, ?_⟩
                    have hz' : (valsOf σ)[l]? = some z := hz
                    unfold valsOf at hz'
                    rw [List.getElem?_map, hy2] at hz'
                    cases hz'
                    exact hz2
            · have hl2 : i < (e.map goodS).length := by simpa using hil
              have a := (slots_put (σ := σ1) (e := e.map goodS) (i := i) (s := .own o') (o := o') rfl hl2 hσi).append_right G
              exact b2.perm a.symm
          | succ m =>
            have hlt : n < xs.length := by omega
            obtain ⟨un, hun⟩ : ∃ un, (w.map (·.1))[n]? = some un := ⟨_, List.getElem?_eq_getElem (by rw [List.length_map]; omega)⟩
            refine .inr ⟨⟨_, un, .of hqn, hun⟩, fun σ2 H2 => ∃ (Fn : Hp) (wn : Ws), (n + 1) + m = xs.length ∧ wn.map (·.1) = w.map (·.1) ∧ wn.map (·.2) = ys.take (n + 1) ++ xs.drop (n + 1) ∧ Sta X.K ⟨H1, F1, valsOf σ⟩ Fn H2 σ2 (e.set i (.pin (.fx u))) wn, fun σ2 H2 g => ⟨m, Nat.lt_succ_self _, g⟩, fun x H3 hyl => ?_⟩
            obtain ⟨rfl, hx2⟩ := hyl
            have hx3 := hx2 _ (.of hqn)
            rw [hun] at hx3
            cases hx3
            -- the item that is taken out
            have wnl : wn.length = xs.length := by
              have := congrArg List.length hw1
              rw [List.length_map, List.length_map] at this
              omega
            obtain ⟨it, hit⟩ : ∃ it, wn[n]? = some it := ⟨_, List.getElem?_eq_getElem (by omega)⟩
            have hit1 : it.1 = un := by
              have := congrArg (fun l : List V => l[n]?) hw1
              simp only [List.getElem?_map, hit] at this
              rw [List.getElem?_map] at hun
              rw [hun] at this
              exact Option.some.inj this
            have hxn : xs[n]? = some xs[n] := List.getElem?_eq_getElem hlt
            have hit2 : it.2 = xs[n] := by
              have := congrArg (fun l : List O => l[n]?) hw2
              simp only [List.getElem?_map, hit] at this
              rw [List.getElem?_append_right (by rw [List.length_take]; omega), List.length_take, Nat.min_eq_left (by omega), Nat.sub_self, List.getElem?_drop, Nat.add_zero, hxn] at this
              exact Option.some.inj this
            obtain ⟨y, hyn, hty⟩ := yg n xs[n] hxn
            obtain ⟨hyf, hbody⟩ := turnY_some hty
            have hjσ : j < σ1.length := by rw [sn.ok.len]; simpa using hjl
            have split : wn = wn.take n ++ it :: wn.drop (n + 1) := by
              have := List.getElem?_eq_some_iff.mp hit
              obtain ⟨h1, h2⟩ := this
              rw [← h2, ← List.drop_eq_getElem_cons h1, List.take_append_drop]
            have lenp : (e.set i (.pin (.fx u))).length = e.length := by simp
            have ejs : ((e.set i (.pin (.fx u))).set j .no) = (e.set i (.pin (.fx u))) := set_self ej1
            have okn : SlOk ((valsOf σ).set j un) (σ1.set j (some un)) (eY e i j u xs[n]) := by
              unfold eY
              refine ⟨by rw [List.length_set, List.length_set]; exact sn.ok.len, fun l t hl => ?_⟩
              by_cases hjl2 : j = l
              · subst hjl2
                rw [List.getElem?_set_self (by rw [lenp]; exact hjl)] at hl
                cases hl
                refine ⟨some un, List.getElem?_set_self hjσ, un, rfl, ?_⟩
                rw [List.getElem?_set_self]
                unfold valsOf
                rw [List.length_map]
                have := sn.ok.len
                rw [lenp] at this
                rw [s.ok.len]; exact hjl
              · rw [List.getElem?_set_ne hjl2] at hl
                obtain ⟨z, hz, hok⟩ := sn.ok.sl l t hl
                refine ⟨z, by rw [List.getElem?_set_ne hjl2]; exact hz, ?_⟩
                rw [List.getElem?_set_ne hjl2]
                exact hok
            have putp : (slots (σ1.set j (some un)) (eY e i j u xs[n])).Perm ((un, xs[n]) :: slots σ1 (e.set i (.pin (.fx u)))) := by
              unfold eY
              refine (slots_put (s := .pin xs[n]) (o := xs[n]) rfl (by rw [lenp]; exact hjl) (List.getElem?_set_self hjσ)).trans ?_
              rw [slots_no, ejs]
            have stn : Sta X.K ⟨H1, F1, (valsOf σ).set j un⟩ Fn H3 (σ1.set j (some un)) (eY e i j u xs[n]) (wn.take n ++ wn.drop (n + 1)) := by
              refine ⟨okn, sn.rel.perm ?_⟩
              refine List.Perm.trans ?_ (putp.append_right _).symm
              have itE : it = (un, xs[n]) := by rw [← hit1, ← hit2]
              rw [itE] at split
              conv => lhs; rw [split]
              refine (List.Perm.append_left _ (mid _ _ _)).trans (mid _ _ _)
            refine ⟨⟨H1, F1, (valsOf σ).set j un⟩, Fn, eY e i j u xs[n], _, .nx (eY e i j u y), stn, hbody u, fun F4 H4 σ4 s4 => ?_⟩
            -- it is put back
            have hσ4j : σ4[j]? = some (some un) := by
              obtain ⟨z, hz, z2, rfl, hz3⟩ := s4.ok.sl j (.pin y) (by unfold eY; rw [List.getElem?_set_self (by rw [lenp]; exact hjl)])
              have hz3' : ((valsOf σ).set j un)[j]? = some z2 := hz3
              rw [List.getElem?_set_self (by unfold valsOf; rw [List.length_map, s.ok.len]; exact hjl)] at hz3'
              cases hz3'
              exact hz
            refine ⟨F4, wn.take n ++ (un, y) :: wn.drop (n + 1), by omega, ?_, ?_, ?_⟩
            · rw [List.map_append, List.map_cons]
              rw [split] at hw1
              rw [← hw1, List.map_append, List.map_cons, hit1]
            · have t1 : (wn.take n).map (·.2) = ys.take n := by
                rw [List.map_take, hw2, List.take_append_of_le_length (by rw [List.length_take]; omega), List.take_take, Nat.min_self]
              have t2 : (wn.drop (n + 1)).map (·.2) = xs.drop (n + 1) := by
                rw [List.map_drop, hw2, List.drop_append, List.length_take, Nat.min_eq_left (by omega), List.drop_eq_nil_of_le (by rw [List.length_take]; omega), List.nil_append, List.drop_drop]
                congr 1
                omega
              rw [List.map_append, List.map_cons, t1, t2, List.take_add_one, hyn]
              simp
            · refine ⟨⟨?_, fun l t hl => ?_⟩, ?_⟩
              · have := s4.ok.len
                unfold eY at this
                rw [List.length_set] at this
                exact this
              · by_cases hjl2 : j = l
                · subst hjl2
                  rw [ej1] at hl
                  cases hl
                  exact ⟨_, hσ4j, trivial⟩
                · obtain ⟨z, hz, hok⟩ := s4.ok.sl l t (by unfold eY; rw [List.getElem?_set_ne hjl2]; exact hl)
                  refine ⟨z, hz, ?_⟩
                  have hok' : Sl.ok ((valsOf σ).set j un)[l]? z t := hok
                  rw [List.getElem?_set_ne hjl2] at hok'
                  exact hok'
              · have putq : (slots σ4 (eY e i j u y)).Perm ((un, y) :: slots σ4 (e.set i (.pin (.fx u)))) := by
                  unfold eY
                  refine (slots_put (s := .pin y) (o := y) rfl (by rw [lenp]; exact hjl) hσ4j).trans ?_
                  rw [ejs]
                refine s4.rel.perm ((putq.append_right _).trans ?_)
                refine List.Perm.trans ?_ (List.Perm.append_left _ (mid _ _ _).symm)
                exact (mid _ _ _).symm
        · cases hm
      · cases hm
    · cases hm
  · cases hm
end
end Dn
namespace Dn
open PySem L2
end Dn
namespace Dn
open PySem L2
section
variable {X : Cx} {K : PySem.W.Frag} {B : Bs} {F H : Hp} {σ : St} {e : En} {G : Ws}
theorem slots_ext : ∀ {σ : St} {e : En} {v : V} {sl : Sl} {o : O}, σ.length = e.length → sl.o? = some o → slots (σ ++ [some v]) (e ++ [sl]) = slots σ e ++ [(v, o)]
  | [], [], v, sl, o, _, ho => by
    cases sl with
    | no => cases ho
    | own _ => cases ho; rfl
    | pin _ => cases ho; rfl
  | x :: σ, s :: e, v, sl, o, hl, ho => by
    have ih := slots_ext (σ := σ) (e := e) (v := v) (sl := sl) (by simpa using hl) ho
    cases x with
    | none => simpa [slots] using ih
    | some x => cases s <;> simp [slots, ih]
  | [], _ :: _, _, _, _, h, _ => by simp at h
  | _ :: _, [], _, _, _, h, _ => by simp at h
theorem Sta.ext {v : V} {o : O} (s : Sta K B F H σ e ((v, o) :: G)) : Sta K B F H (σ ++ [some v]) (e ++ [.own o]) G := by
  refine ⟨⟨by rw [List.length_append, List.length_append, s.ok.len]; rfl, fun j t hj => ?_⟩, ?_⟩
  · by_cases h : j < e.length
    · rw [List.getElem?_append_left h] at hj
      obtain ⟨x, hx, q⟩ := s.ok.sl j t hj
      exact ⟨x, by rw [List.getElem?_append_left (by rw [s.ok.len]; exact h)]; exact hx, q⟩
    · have hj2 := (List.getElem?_eq_some_iff.mp hj).1
      rw [List.length_append, List.length_singleton] at hj2
      have : j = e.length := by omega
      subst this
      rw [List.getElem?_append_right (Nat.le_refl _), Nat.sub_self] at hj
      cases hj
      exact ⟨some v, by rw [← s.ok.len, List.getElem?_append_right (Nat.le_refl _), Nat.sub_self]; rfl, v, rfl⟩
  · rw [slots_ext s.ok.len rfl, List.append_assoc]
    exact s.rel
end
end Dn
namespace Dn
open PySem L2 PyProof.Rows
end Dn
namespace Zl
open PySem PySem.Spec PySem.W PyProof.Rows
structure St (h : Heap) (z TI TO i1 i2 l1 l2 S : Addr) (xs ys : Array Value) (i : Nat) : Prop where
  ti : IsPair h TI (.ref i1) (.ref i2)
  a1 : h.IsListIter i1 l1 i
  a2 : h.IsListIter i2 l2 i
  b1 : h.IsList l1 xs
  b2 : h.IsList l2 ys
  zz : (IsZip h z TI TO .none ∧ ∃ a b, IsPair h TO a b) ∨ ∃ T f oT, IsZipHeld h z TI TO T f ∧ h.get? T = some oT ∧ T ≠ z ∧ T ≠ i1 ∧ T ≠ i2 ∧ T ≠ S
theorem St.keep {h h' : Heap} {z TI TO i1 i2 l1 l2 S : Addr} {xs ys : Array Value} {i : Nat} (x : St h z TI TO i1 i2 l1 l2 S xs ys i) (hk : ∀ b o, b ≠ S → h.get? b = some o → h'.get? b = some o) (n1 : z ≠ S) (n2 : TI ≠ S) (n3 : TO ≠ S) (n4 : i1 ≠ S) (n5 : i2 ≠ S) (n6 : l1 ≠ S) (n7 : l2 ≠ S) : St h' z TI TO i1 i2 l1 l2 S xs ys i := by
  refine ⟨hk _ _ n2 x.ti, x.a1.at fun o e => hk _ o n4 e, x.a2.at fun o e => hk _ o n5 e, x.b1.at fun o e => hk _ o n6 e, x.b2.at fun o e => hk _ o n7 e, ?_⟩
  rcases x.zz with ⟨h1, a, b, h2⟩ | ⟨T, f, oT, h1, h2, h3, h4, h5, h6⟩
  · exact .inl ⟨hk _ _ n1 h1, a, b, hk _ _ n3 h2⟩
  · exact .inr ⟨T, f, oT, hk _ _ n1 h1, hk _ _ h6 h2, h3, h4, h5, h6⟩
structure Gd (xs ys : Array Value) (lo : Addr) (h : Heap) (as : List Addr) : Prop where
  rise : as.Pairwise (· < ·)
  above : ∀ a ∈ as, lo < a
  pairs : ∀ (j : Nat) (a : Addr), as[j]? = some a → ∃ x y, xs[j]? = some x ∧ ys[j]? = some y ∧ h.get? a = some { cls := .type "tuple", data := .seq #[x, y] }
theorem Gd.there {xs ys : Array Value} {lo : Addr} {h : Heap} {as : List Addr} (g : Gd xs ys lo h as) {a : Addr} (ha : a ∈ as) : a < h.objs.size := by
  obtain ⟨j, hj⟩ := List.mem_iff_getElem?.mp ha
  obtain ⟨_, _, _, _, e⟩ := g.pairs j a hj
  exact Heap.lt_size e
section
variable {prog : Program} {w : World} {A : Around} {E : Value → Shared → Prop} {s : Shared} {R : Result → Shared → Prop} {z TI TO i1 i2 l1 l2 S : Addr} {xs ys : Array Value}
theorem item {i : Nat} {x y : Value} {Q : Option Value → Shared → Prop} (D : ZipApart z TI TO i1 i2 l1 l2) (st : St s.heap z TI TO i1 i2 l1 l2 S xs ys i) (hS : S < s.heap.objs.size) (hx : xs[i]? = some x) (hy : ys[i]? = some y)
    (hQ : ∀ h', St h' z TI TO i1 i2 l1 l2 S xs ys (i + 1) → h'.get? s.heap.objs.size = some { cls := .type "tuple", data := .seq #[x, y] } → h'.objs.size = s.heap.objs.size + 1 →
      (∀ b o, b ≠ z → b ≠ TO → b ≠ i1 → b ≠ i2 → s.heap.get? b = some o → h'.get? b = some o) → Q (some (.ref s.heap.objs.size)) { s with heap := h' }) :
    wpAny (model prog w) A (pyNext (.ref z)) Q E s := by
  obtain ⟨hTI, h1, h2, hl1, hl2, hz⟩ := st
  have lt : ∀ {c o}, s.heap.get? c = some o → s.heap.objs.size ≠ c := fun e => Nat.ne_of_gt (Heap.lt_size e)
  have n1 : s.heap.objs.size ≠ i1 := let ⟨_, e, _⟩ := h1; lt e
  have n2 : s.heap.objs.size ≠ i2 := let ⟨_, e, _⟩ := h2; lt e
  rcases hz with ⟨hz, a, b, hTO⟩ | ⟨T, f, oT, hz, hT, r1, r2, r3, r4⟩
  · refine wpAny_pyNext_zip_item D hz hTI hTO h1 h2 hl1 hl2 hx hy fun h' a1 a2 a3 a4 a5 a6 hk => ?_
    exact hQ h' ⟨hk _ _ D.TIz D.TITO D.TIi1 D.TIi2 hTI, a3, a4, hl1.at fun o e => hk _ o D.l1z D.l1TO D.l1i1 D.l1i2 e, hl2.at fun o e => hk _ o D.l2z D.l2TO D.l2i1 D.l2i2 e,
        .inr ⟨s.heap.objs.size, false, _, a1, a5, lt hz, n1, n2, Nat.ne_of_gt hS⟩⟩ a5 a6 fun c o c1 c2 c3 c4 e => hk c o c1 c2 c3 c4 e
  · refine wpAny_pyNext_zip_item_held D hz hT hTI h1 h2 hl1 hl2 hx hy fun h' a1 a3 a4 a5 a6 hk => ?_
    exact hQ h' ⟨hk _ _ D.TIz D.TIi1 D.TIi2 hTI, a3, a4, hl1.at fun o e => hk _ o D.l1z D.l1i1 D.l1i2 e, hl2.at fun o e => hk _ o D.l2z D.l2i1 D.l2i2 e,
        .inr ⟨T, true, oT, a1, hk _ _ r1 r2 r3 hT, r1, r2, r3, r4⟩⟩ a5 a6 fun c o c1 c2 c3 c4 e => hk c o c1 c3 c4 e
theorem done {i : Nat} {Q : Option Value → Shared → Prop} (hh : A.handled = none) (D : ZipApart z TI TO i1 i2 l1 l2) (st : St s.heap z TI TO i1 i2 l1 l2 S xs ys i) (hend : xs[i]? = none ∨ ys[i]? = none)
    (hQ : ∀ h', (∀ b o, b ≠ z → b ≠ TO → b ≠ i1 → b ≠ i2 → s.heap.get? b = some o → h'.get? b = some o) → Q none { s with heap := h' }) : wpAny (model prog w) A (pyNext (.ref z)) Q E s := by
  obtain ⟨hTI, h1, h2, hl1, hl2, hz⟩ := st
  rcases hz with ⟨hz, a, b, hTO⟩ | ⟨T, f, oT, hz, hT, r1, r2, r3, r4⟩
  · exact wpAny_pyNext_zip_end hh D hz hTI hTO h1 h2 hl1 hl2 hend fun h' hk => hQ h' fun c o c1 c2 c3 c4 e => hk c o c1 c2 c3 c4 e
  · exact wpAny_pyNext_zip_end_held hh D hz hT hTI h1 h2 hl1 hl2 hend fun h' hk => hQ h' fun c o c1 c2 c3 c4 e => hk c o c1 c3 c4 e
theorem loop (hh : A.handled = none) (D : ZipApart z TI TO i1 i2 l1 l2) (n1 : z < S) (n2 : TI < S) (n3 : TO < S) (n4 : i1 < S) (n5 : i2 < S) (n6 : l1 < S) (n7 : l2 < S) (hn : min xs.size ys.size ≤ sizeLine) (res : Value) {h₁ : Heap}
    (hR : ∀ h' tk acc c as, (∀ b o, b ≠ S → b ≠ z → b ≠ TO → b ≠ i1 → b ≠ i2 → h₁.get? b = some o → h'.get? b = some o) → h'.get? S = some { cls := .type "list", dict := none, data := .seq acc c, slots := #[] } → as.length = min xs.size ys.size → Gd xs ys S h' as →
      acc.toList = as.map Value.ref → R (.ok (.ret res)) { s with heap := h', toks := tk }) :
    ∀ (k i : Nat) (h : Heap) (tk c : Nat) (acc : Array Value) (as : List Addr), min xs.size ys.size - i = k → i ≤ min xs.size ys.size → St h z TI TO i1 i2 l1 l2 S xs ys i → (∀ b o, b ≠ S → b ≠ z → b ≠ TO → b ≠ i1 → b ≠ i2 → h₁.get? b = some o → h.get? b = some o) →
      h.get? S = some { cls := .type "list", dict := none, data := .seq acc c, slots := #[] } → acc.toList = as.map Value.ref → as.length = i → Gd xs ys S h as →
      codeAny (model prog w) A (.builtin "list.extend.loop" ⟨[.ref S, .ref z, res], []⟩) R { s with heap := h, toks := tk } := by
  have ne : ∀ {a : Addr}, a < S → S ≠ a := fun h => Nat.ne_of_gt h
  intro k
  induction k with
  | zero =>
    intro i h tk c acc as hk hi hst hkeep hS hacc hal hG
    have hin : i = min xs.size ys.size := by omega
    refine codeAny_builtin PySem.F.entry_extend_loop ?_
    rw [Around.under_plainId PySem.F.plain_extend_loop _]
    show wpAny _ A.in1 (pyNext (.ref z) >>= _) _ _ _
    have hend : xs[i]? = none ∨ ys[i]? = none := by
      rcases Nat.le_total xs.size ys.size with h | h
      · exact .inl (Array.getElem?_eq_none (by rw [hin, Nat.min_eq_left h]; exact Nat.le_refl _))
      · exact .inr (Array.getElem?_eq_none (by rw [hin, Nat.min_eq_right h]; exact Nat.le_refl _))
    refine wpAny_bind (done (s := { s with heap := h, toks := tk }) (A := A.in1) hh D hst hend fun h' he => ?_)
    refine wpAny_pure (hR h' tk acc c as (fun b o h1 h2 h3 h4 h5 e => he b o h2 h3 h4 h5 (hkeep b o h1 h2 h3 h4 h5 e)) (he S _ (ne n1) (ne n3) (ne n4) (ne n5) hS) (by omega) ⟨hG.rise, hG.above, fun j a hj => ?_⟩ hacc)
    obtain ⟨x, y, e1, e2, e3⟩ := hG.pairs j a hj
    have hb := hG.above a (List.mem_of_getElem? hj)
    exact ⟨x, y, e1, e2, he a _ (Nat.ne_of_gt (Nat.lt_trans n1 hb)) (Nat.ne_of_gt (Nat.lt_trans n3 hb)) (Nat.ne_of_gt (Nat.lt_trans n4 hb)) (Nat.ne_of_gt (Nat.lt_trans n5 hb)) e3⟩
  | succ k ih =>
    intro i h tk c acc as hk hi hst hkeep hS hacc hal hG
    have hlt : i < min xs.size ys.size := by omega
    have hix : i < xs.size := Nat.lt_of_lt_of_le hlt (Nat.min_le_left ..)
    have hiy : i < ys.size := Nat.lt_of_lt_of_le hlt (Nat.min_le_right ..)
    have ex := Array.getElem?_eq_getElem hix
    have ey := Array.getElem?_eq_getElem hiy
    have hsz : acc.size = i := by rw [← Array.length_toList, hacc, List.length_map, hal]
    refine codeAny_builtin PySem.F.entry_extend_loop ?_
    rw [Around.under_plainId PySem.F.plain_extend_loop _]
    show wpAny _ A.in1 (pyNext (.ref z) >>= _) _ _ _
    refine wpAny_bind (item (s := { s with heap := h, toks := tk }) (S := S) D hst (Heap.lt_size hS) ex ey fun h' hst' ht hz hkp => ?_)
    dsimp only at ht hz hkp ⊢
    have hS' := hkp S _ (ne n1) (ne n3) (ne n4) (ne n5) hS
    have up : ∀ b o, b ≠ S → h'.get? b = some o → (h'.update S (Obj.mapSeq (·.push (Value.ref h.objs.size)))).get? b = some o := fun b o hb e => (Heap.get?_update_other _ _ (Ne.symm hb)).trans e
    have hSl : S < h.objs.size := Heap.lt_size hS
    show wpAny _ A.in1 (updateSeq S (·.push (Value.ref h.objs.size)) >>= _) _ _ _
    refine wpAny_bind ?_
    refine wpAny_updateSeq hS' rfl (wpAny_pure ⟨plainId_quiet PySem.F.plain_extend_loop _, ih (i + 1) _ tk _ (acc.push (Value.ref h.objs.size)) (as ++ [h.objs.size]) (by omega) hlt (hst'.keep up (Ne.symm (ne n1)) (Ne.symm (ne n2)) (Ne.symm (ne n3)) (Ne.symm (ne n4)) (Ne.symm (ne n5)) (Ne.symm (ne n6)) (Ne.symm (ne n7)))
      (fun b o h1 h2 h3 h4 h5 e => up b o h1 (hkp b o h2 h3 h4 h5 (hkeep b o h1 h2 h3 h4 h5 e))) (Heap.get?_update_self _ hS' rfl) (by rw [Array.toList_push, hacc, List.map_append]; rfl) (by rw [List.length_append, hal]; rfl) ⟨?_, ?_, ?_⟩⟩) (by rw [hsz]; omega) (by show (acc.push (Value.ref h.objs.size)).size ≤ sizeLine + 1; rw [Array.size_push, hsz]; omega)
    · refine List.pairwise_append.mpr ⟨hG.rise, List.pairwise_singleton _ _, fun a ha b hb => ?_⟩
      rw [List.mem_singleton.mp hb]
      exact hG.there ha
    · intro a ha
      rcases List.mem_append.mp ha with ha | ha
      · exact hG.above a ha
      · rw [List.mem_singleton.mp ha]; exact hSl
    · intro j b hj
      rcases Nat.lt_trichotomy j as.length with h1 | h1 | h1
      · rw [List.getElem?_append_left h1] at hj
        obtain ⟨x, y, e1, e2, e3⟩ := hG.pairs j b hj
        have hb := hG.above b (List.mem_of_getElem? hj)
        exact ⟨x, y, e1, e2, up b _ (Nat.ne_of_gt hb) (hkp b _ (Nat.ne_of_gt (Nat.lt_trans n1 hb)) (Nat.ne_of_gt (Nat.lt_trans n3 hb)) (Nat.ne_of_gt (Nat.lt_trans n4 hb)) (Nat.ne_of_gt (Nat.lt_trans n5 hb)) e3)⟩
      · subst h1
        have hb : h.objs.size = b := by simpa using hj
        subst hb
        exact ⟨_, _, by rw [hal]; exact ex, by rw [hal]; exact ey, up _ _ (Nat.ne_of_gt hSl) ht⟩
      · have hnone : (as ++ [h.objs.size])[j]? = none := List.getElem?_eq_none (by rw [List.length_append, List.length_singleton]; omega)
        rw [hnone] at hj; cases hj
end
end Zl
namespace Zl
open PySem PySem.Spec PyProof.Rows L2
def putP : Hp → List Addr → List (V × V) → Hp
  | H, a :: as, p :: ps => putP (upd H a (.tup [p.1, p.2])) as ps
  | H, _, _ => H
theorem putP_off {b : Addr} : ∀ (as : List Addr) (ps : List (V × V)) (H : Hp), b ∉ as → putP H as ps b = H b
  | [], _, _, _ => rfl
  | _ :: _, [], _, _ => rfl
  | a :: as, p :: ps, H, h => by
    show putP (upd H a (.tup [p.1, p.2])) as ps b = H b
    rw [putP_off as ps _ (fun z => h (List.mem_cons_of_mem _ z)), upd_ne (fun z => h (by rw [z]; exact List.mem_cons_self))]
theorem putP_at : ∀ (as : List Addr) (ps : List (V × V)) (H : Hp), as.length = ps.length → as.Nodup → ∀ (j : Nat) (a : Addr), as[j]? = some a → ∃ p, ps[j]? = some p ∧ putP H as ps a = some (.tup [p.1, p.2])
  | [], _, _, _, _, j, a, h => by simp at h
  | _ :: _, [], _, h, _, _, _, _ => by simp at h
  | a :: as, p :: ps, H, h, hn, 0, b, e => by
    cases e
    refine ⟨p, rfl, ?_⟩
    show putP (upd H a (.tup [p.1, p.2])) as ps a = _
    rw [putP_off as ps _ (List.nodup_cons.mp hn).1, upd_same]
  | a :: as, p :: ps, H, h, hn, j + 1, b, e => by
    obtain ⟨q, h1, h2⟩ := putP_at as ps (upd H a (.tup [p.1, p.2])) (Nat.succ.inj h) (List.nodup_cons.mp hn).2 j b (by simpa using e)
    exact ⟨q, by simpa using h1, h2⟩
section
variable {X : Cx}
theorem laid {pins : List (Addr × Obj)} {σ : L2.St} {H : Hp} {s : Shared} {h' : Heap} {tk : Nat} {vs us : List V} {ws zs : List Value} {acc : Array Value} {c : Nat} {as : List Addr} (I : Inv X pins σ H s) (hz : (vs.zip us).length ≤ sizeLine) (rv : Vals vs ws) (ru : Vals us zs)
    (hk : ∀ b o, s.heap.get? b = some o → h'.get? b = some o) {S : Addr} (hSs : s.heap.objs.size ≤ S) (hS : h'.get? S = some { cls := .type "list", dict := none, data := .seq acc c, slots := #[] }) (hl : as.length = (vs.zip us).length) (hG : Gd ws.toArray zs.toArray S h' as) (hacc : acc.toList = as.map Value.ref) :
    H S = none ∧ (∀ t ∈ as, H t = none) ∧ S ∉ as ∧ as.Nodup ∧ Inv X pins σ (upd (putP H as (vs.zip us)) S (.lst (as.map V.ref))) { s with heap := h', toks := tk } := by
  have hSn : S ∉ as := fun z => Nat.lt_irrefl _ (hG.above _ z)
  have nd : as.Nodup := List.Pairwise.imp (fun {a b} (h : a < b) => Nat.ne_of_lt h) hG.rise
  have ge : ∀ t ∈ as, s.heap.objs.size ≤ t := fun t ht => Nat.le_trans hSs (Nat.le_of_lt (hG.above t ht))
  have new : ∀ t ∈ as, H t = none := fun t ht => I.hok.fresh (ge t ht)
  have newS : H S = none := I.hok.fresh hSs
  have atP := putP_at as (vs.zip us) H hl nd
  have off : ∀ b, b ∉ as → b ≠ S → upd (putP H as (vs.zip us)) S (.lst (as.map V.ref)) b = H b := fun b h1 h2 => by rw [upd_ne h2, putP_off as _ _ h1]
  have low : ∀ b o, s.heap.get? b = some o → b ∉ as ∧ b ≠ S := fun b o e => ⟨fun z => absurd (Heap.lt_size e) (Nat.not_lt.mpr (ge b z)), fun z => absurd (Heap.lt_size e) (Nat.not_lt.mpr (z ▸ hSs))⟩
  have kp : ∀ b u, H b = some u → upd (putP H as (vs.zip us)) S (.lst (as.map V.ref)) b = some u := fun b u e => by
    rw [off b (fun z => by rw [new b z] at e; cases e) (fun z => by rw [z, newS] at e; cases e)]
    exact e
  refine ⟨newS, new, hSn, nd, ?_⟩
  refine I.call' (ch := []) rfl ⟨fun b o q _ _ _ => hk b o q, fun b o q _ _ _ => ⟨o.slots, hk b o q⟩, fun b o q n _ => ?_, fun b o q _ => ⟨o, hk b o q⟩, fun b xs q => kp b _ q, fun b o u q => kp b _ q, fun b ps q => ⟨#[], by rw [kp b _ q]; simp⟩⟩ (fun b u q => ?_) I.bare fun b z => by simp at z
  · obtain ⟨z1, z2⟩ := low b o q
    rw [off b z1 z2]
    exact n
  · by_cases hb2 : b = S
    · subst hb2
      rw [upd_same] at q
      cases q
      refine ⟨by rw [List.length_map, hl]; exact hz, acc.toList, c, by rw [hacc]; exact LiI.vals_refs as, ?_⟩
      rw [Array.toArray_toList]
      exact hS
    · by_cases hb : b ∈ as
      · obtain ⟨j, e1⟩ := List.mem_iff_getElem?.mp hb
        obtain ⟨p, e2, e3⟩ := atP j b e1
        rw [upd_ne hb2, e3] at q
        cases q
        obtain ⟨x, y, f1, f2, f3⟩ := hG.pairs j b e1
        obtain ⟨g1, g2⟩ := List.getElem?_zip_eq_some.mp e2
        obtain ⟨x', k1, k2⟩ := rv.get g1
        obtain ⟨y', k3, k4⟩ := ru.get g2
        rw [List.getElem?_toArray, k1] at f1
        rw [List.getElem?_toArray, k3] at f2
        cases f1
        cases f2
        exact ⟨by show 2 ≤ sizeLine; decide, [x, y], .cons k2 (.cons k4 .nil), ⟨_, f3, rfl, _, rfl⟩⟩
      · rw [off b hb hb2] at q
        exact (I.hok b u q).stay (fun d v _ y => hk d v y) (fun d y => kp d _ y) fun d xs y => kp d _ y
end
end Zl
namespace Dn
open PySem L2 Zl
section
variable {X : Cx} {K : PySem.W.Frag} {B : Bs} {F H : Hp} {σ : L2.St} {e : En} {G : Ws}
abbrev Tz := (V × PyData) × (V × PyData)
end
end Dn
namespace Dn
open PySem L2
abbrev Bk := En → List O → Option En
abbrev MQ := En → Option (List O × En × Bk)
end Dn
namespace Dn
open PySem L2 PyProof.Rows
abbrev SemX := List O → Option (Exn × List O)
end Dn
namespace Dn
open PySem L2 PyProof.Rows
section
variable {X : Cx} {p : Bool} {ms : MQ} {sem : Sem1} {xr : SemX} {k : Nat} {ps : List Str} {x : Str} {p1 pos apos : Pos} {e o : Expr} {es : List Expr} {br : List Bool} {W : WX} {c m : Str} {i : Nat}
end
end Dn
namespace Dn
open PySem PySem.Spec PyProof.Rows
section
variable {P : Program} {w : World} {A : Around} {xe : Value → Shared → Prop} {s : Shared}
abbrev newS (led : Bool) : Obj := { cls := .type "set", dict := none, data := .set #[] 0 (.fresh 0 0 led) }
end
open L2
end Dn
namespace Dn
open PySem L2
def alA (ks : List Int) (f : List O → List O → Option (List O × O)) : List O → Option (List O)
  | [] => some []
  | x :: xs => (match atK x ks with
    | some (.l zs) => (match f zs [] with
      | some (zs', _) => (match setK x ks zs', alA ks f xs with
        | some x', some ys => some (x' :: ys)
        | _, _ => none)
      | none => none)
    | _ => none)
theorem alA_get {ks : List Int} {f : List O → List O → Option (List O × O)} : ∀ {xs ys : List O}, alA ks f xs = some ys → ys.length = xs.length ∧ ∀ (n : Nat) (x : O), xs[n]? = some x → ∃ y zs zs' z, ys[n]? = some y ∧ atK x ks = some (.l zs) ∧ f zs [] = some (zs', z) ∧ setK x ks zs' = some y
  | [], ys, h => by cases h; exact ⟨rfl, fun n x hx => by simp at hx⟩
  | x :: xs, ys, h => by
    unfold alA at h
    split at h
    · rename_i zs h1
      split at h
      · rename_i zs' z h2
        split at h
        · rename_i x' ys' h3 h4
          cases h
          obtain ⟨g1, g2⟩ := alA_get h4
          refine ⟨by simp [g1], fun n y hy => ?_⟩
          cases n with
          | zero => simp only [List.getElem?_cons_zero, Option.some.injEq] at hy; subst hy; exact ⟨x', zs, zs', z, rfl, h1, h2, h3⟩
          | succ n => exact g2 n y (by simpa using hy)
        · cases h
      · cases h
    · cases h
section
variable {K : PySem.W.Frag} {H0 F0 F H : Hp} {ws gs : Ws} {B : Bs} {σ : St} {e : En} {G : Ws} {X : Cx}
def tA (K : PySem.W.Frag) (i j : Nat) (ks : List Int) (f : List O → List O → Option (List O × O)) : TS := fun D σ H => ∃ (B : Bs) (F : Hp) (e : En) (q : Addr) (w : Ws) (ys : List O),
  e[j]? = some .no ∧ i ≠ j ∧ σ[i]? = some (some (.ref q)) ∧ B.H0 q = some (.lst (w.map (·.1))) ∧ Sta K B F H σ e w ∧ alA ks f (w.map (·.2)) = some ys ∧
  ∀ F' H' σ' w', w'.map (·.1) = w.map (·.1) → w'.map (·.2) = ys → (∀ l, l ≠ j → σ'[l]? = σ[l]?) → Sta K B F' H' σ' e w' → D.nx σ' H'
theorem ds_forA {i j : Nat} {tgE iter : Expr} {body : List Stmt} {bs : List (En → Option O)} {ks : List Int} {f : List O → List O → Option (List O × O)} {r : V → List V → Hp → VK → Prop} {tr : TE} {pos : Pos} (hp : PassesOwn (model X.prog X.w) X.A X.env X.xe) (hc : X.calm = true) (hi : PE X iter (tVar i)) (hg : PG X tgE (Tg.rd X.K (.n j))) (hr : UpK X.K f r) (hrec : Recv X.K j bs tr) (hks : ∀ e, pathK e bs = some ks)
    (hb : PSs X body (fun D σ H => tBM0 X.K "list" r tr σ H fun _ H1 => D.nx σ H1))
    (hs : ∀ x, foldedSetIterable iter X.env x = pure x := by intro _; rfl) : PS X (.For tgE iter body [] pos) (tA X.K i j ks f) := ps_imp (ps_for hp hc (pi_list hi) hg hb hs) fun D σ H ⟨B, F, e, q, w, ys, hj0, hij, hσi, hBq, s, hys, kk⟩ => by
  obtain ⟨yl, yg⟩ := alA_get hys
  have hHq : ∀ {F1 H1 : Hp} {σ1 : St} {e1 : En} {G1 : Ws}, Sta X.K B F1 H1 σ1 e1 G1 → H1 q = some (.lst (w.map (·.1))) := fun s1 => s1.rel.h0 q _ hBq
  have hjl : j < e.length := (List.getElem?_eq_some_iff.mp hj0).1
  have wl : (w.map (·.2)).length = w.length := List.length_map ..
  rw [wl] at yl
  refine ⟨.ref q, hσi, q, rfl, ⟨_, .of (hHq s)⟩, ?_⟩
  refine ⟨fun n m σ1 Hn => ∃ (Fn : Hp) (wn : Ws), n + m = w.length ∧ wn.map (·.1) = w.map (·.1) ∧ wn.map (·.2) = ys.take n ++ (w.map (·.2)).drop n ∧ (∀ l, l ≠ j → σ1[l]? = σ[l]?) ∧ Sta X.K B Fn Hn σ1 e wn,
    ⟨w.length, F, w, by omega, rfl, by simp, fun _ _ => rfl, s⟩, fun n m σ1 Hn ⟨Fn, wn, hnm, hw1, hw2, hag, sn⟩ => ?_⟩
  have hqn := hHq sn
  cases m with
  | zero =>
    have hn : n = w.length := by omega
    subst hn
    refine .inl ⟨⟨_, .of hqn, by rw [List.length_map]; omega⟩, kk Fn Hn σ1 wn hw1 ?_ hag sn⟩
    rw [hw2, ← yl, List.take_length, yl, ← wl, List.drop_length, List.append_nil]
  | succ m =>
    have hlt : n < w.length := by omega
    obtain ⟨un, hun⟩ : ∃ un, (w.map (·.1))[n]? = some un := ⟨_, List.getElem?_eq_getElem (by rw [List.length_map]; omega)⟩
    refine .inr ⟨⟨_, un, .of hqn, hun⟩, fun σ2 H2 => ∃ (Fn : Hp) (wn : Ws), (n + 1) + m = w.length ∧ wn.map (·.1) = w.map (·.1) ∧ wn.map (·.2) = ys.take (n + 1) ++ (w.map (·.2)).drop (n + 1) ∧ (∀ l, l ≠ j → σ2[l]? = σ[l]?) ∧ Sta X.K B Fn H2 σ2 e wn, fun σ2 H2 g => ⟨m, Nat.lt_succ_self _, g⟩, fun x H3 hyl => ?_⟩
    obtain ⟨rfl, hx2⟩ := hyl
    have hx3 := hx2 _ (.of hqn)
    rw [hun] at hx3
    cases hx3
    have wnl : wn.length = w.length := by
      have := congrArg List.length hw1
      rw [List.length_map, List.length_map] at this
      omega
    obtain ⟨it, hit⟩ : ∃ it, wn[n]? = some it := ⟨_, List.getElem?_eq_getElem (by omega)⟩
    have hit1 : it.1 = un := by
      have := congrArg (fun l : List V => l[n]?) hw1
      simp only [List.getElem?_map, hit] at this
      rw [List.getElem?_map] at hun
      rw [hun] at this
      exact Option.some.inj this
    obtain ⟨xn, hxn⟩ : ∃ xn, (w.map (·.2))[n]? = some xn := ⟨_, List.getElem?_eq_getElem (by rw [wl]; omega)⟩
    have hit2 : it.2 = xn := by
      have := congrArg (fun l : List O => l[n]?) hw2
      simp only [List.getElem?_map, hit] at this
      rw [List.getElem?_append_right (by rw [List.length_take]; omega), List.length_take, Nat.min_eq_left (by omega), Nat.sub_self, List.getElem?_drop, Nat.add_zero, hxn] at this
      exact Option.some.inj this
    obtain ⟨y, zs, zs', z, hyn, hat, hf, hset⟩ := yg n xn hxn
    have itE : it = (un, xn) := by rw [← hit1, ← hit2]
    have split : wn = wn.take n ++ it :: wn.drop (n + 1) := by
      have := List.getElem?_eq_some_iff.mp hit
      obtain ⟨h1, h2⟩ := this
      rw [← h2, ← List.drop_eq_getElem_cons h1, List.take_append_drop]
    have hjσ : j < σ1.length := by rw [sn.ok.len]; exact hjl
    have hσj : (σ1.set j (some un))[j]? = some (some un) := List.getElem?_set_self hjσ
    have s0 : Sta X.K B Fn H3 (σ1.set j (some un)) e wn := sn.setNo hj0
    -- the item in slot j
    have sj : Sta X.K B Fn H3 (σ1.set j (some un)) (e.set j (.own xn)) (wn.take n ++ wn.drop (n + 1)) := by
      refine ⟨ok_set s0.ok fun x hx => ?_, ?_⟩
      · rw [hσj] at hx
        cases hx
        exact ⟨un, rfl⟩
      · have put := slots_put (σ := σ1.set j (some un)) (e := e) (i := j) (s := .own xn) (o := xn) rfl hjl hσj
        rw [set_self hj0] at put
        refine s0.rel.perm ?_
        rw [itE] at split
        refine List.Perm.trans ?_ (put.append_right _).symm
        conv => lhs; rw [split]
        exact (List.Perm.append_left _ (mid _ _ _)).trans (mid _ _ _)
    have ejj : (e.set j (.own xn))[j]? = some (.own xn) := List.getElem?_set_self hjl
    obtain ⟨v1, q1, w1, hv1, way1, hqq, _, _⟩ := sj.putK ejj (show (Sl.own xn).o? = some xn from rfl) hat
    rw [hσj] at hv1
    cases hv1
    show tBM0 X.K "list" r tr (σ1.set j (some un)) H3 _
    refine hrec B Fn H3 (σ1.set j (some un)) (e.set j (.own xn)) _ un (.ref q1) ks _ sj hσj (hks _) way1 ⟨.inl ⟨rfl, _, .of hqq⟩, ?_⟩
    obtain ⟨v2, q2, vs2, hv2, way3, hq3, o1, hs3, k3⟩ := hr B Fn H3 (σ1.set j (some un)) (e.set j (.own xn)) _ [] j (.own xn) xn ks zs zs' z _ sj ejj rfl hat hf
    rw [hset] at hs3
    cases hs3
    rw [hσj] at hv2
    cases hv2
    have : V.ref q2 = V.ref q1 := way_uniq (fun _ => .refl _) way1 way3
    cases this
    refine k3 fun F3 H4 v3 s3 => ?_
    have s4 := s3.pop
    have e4 : (e.set j (.own xn)).set j ((Sl.own xn).like y) = e.set j (.own y) := by rw [List.set_set]; rfl
    rw [e4] at s4
    refine ⟨F3, wn.take n ++ (un, y) :: wn.drop (n + 1), by omega, ?_, ?_, fun l hl => ?_, ⟨?_, ?_⟩⟩
    · rw [List.map_append, List.map_cons]
      rw [split] at hw1
      rw [← hw1, List.map_append, List.map_cons, hit1]
    · have t1 : (wn.take n).map (·.2) = ys.take n := by
        rw [List.map_take, hw2, List.take_append_of_le_length (by rw [List.length_take]; omega), List.take_take, Nat.min_self]
      have t2 : (wn.drop (n + 1)).map (·.2) = (w.map (·.2)).drop (n + 1) := by
        rw [List.map_drop, hw2, List.drop_append, List.length_take, Nat.min_eq_left (by omega), List.drop_eq_nil_of_le (by rw [List.length_take]; omega), List.nil_append, List.drop_drop]
        congr 1
        omega
      rw [List.map_append, List.map_cons, t1, t2, List.take_add_one, hyn]
      simp
    · rw [List.getElem?_set_ne (Ne.symm hl)]
      exact hag l hl
    · refine ⟨by rw [List.length_set, sn.ok.len], fun l t hl => ?_⟩
      by_cases hjl2 : j = l
      · subst hjl2
        rw [hj0] at hl
        cases hl
        exact ⟨_, hσj, trivial⟩
      · exact s4.ok.sl l t (by rw [List.getElem?_set_ne hjl2]; exact hl)
    · have put := slots_put (σ := σ1.set j (some un)) (e := e) (i := j) (s := .own y) (o := y) rfl hjl hσj
      rw [set_self hj0] at put
      refine s4.rel.perm ((put.append_right _).trans ?_)
      refine List.Perm.trans ?_ (List.Perm.append_left _ (mid _ _ _).symm)
      exact (mid _ _ _).symm
def tB (i j : Nat) : TS := fun D σ H => ∃ q vs, i ≠ j ∧ j < σ.length ∧ σ[i]? = some (some (.ref q)) ∧ H q = some (.lst vs) ∧ ∀ p σ', H p = none → p ≠ q → (∀ l, l ≠ j → σ'[l]? = σ[l]?) → σ'.length = σ.length → D.nx σ' (upd (upd H p (.lst (cutV vs (some (-1)) none))) q (.lst vs.dropLast))
theorem ds_forB {i j : Nat} {tgE xE one : Expr} {body : List Stmt} {pos p2 p3 p4 : Pos} (hp : PassesOwn (model X.prog X.w) X.A X.env X.xe) (hc : X.calm = true) (hx : PE X xE (tVar i)) (h1 : PE X one (tC (.int 1))) (hg : PG X tgE (Tg.rd X.K (.n j)))
    (hb : PSs X body (fun D σ H => tBM0 X.K "list" rPop (tVar i) σ H fun _ H1 => D.nx σ H1))
    (hs : ∀ x, foldedSetIterable (.Subscript xE (.Slice (some (.UnaryOp .USub one p4)) none none p2) p3) X.env x = pure x := by intro _; rfl) : PS X (.For tgE (.Subscript xE (.Slice (some (.UnaryOp .USub one p4)) none none p2) p3) body [] pos) (tB i j) :=
  ps_imp (ps_for hp hc (pi_list (pe_slice sl_list hx (po_some (pe_un un_neg h1)) po_none)) hg hb hs) fun D σ H ⟨q, vs, hij, hjl, hσ, hq, kk⟩ => by
  have hlen : (cutV vs (some (-1)) none).length = if vs = [] then 0 else 1 := by
    unfold cutV
    rw [HT.sIx_none]
    have e : HT.sIx vs.length 0 (some (-1)) = vs.length - 1 := by
      show (if (-1 : Int) < 0 then ((-1 : Int) + (vs.length : Int)).toNat else min ((-1 : Int)).toNat vs.length) = _
      rw [if_pos (by decide)]
      omega
    rw [e, List.length_take, List.length_drop]
    split
    · rename_i h; subst h; rfl
    · rename_i h
      have := List.length_pos_iff.mpr h
      omega
  refine ⟨.ref q, hσ, 1, rfl, -1, rfl, ?_⟩
  refine ⟨q, vs, rfl, .of hq, fun p hpn => ?_⟩
  have hpq : p ≠ q := fun z => by subst z; rw [hpn] at hq; cases hq
  have hq1 : upd H p (.lst (cutV vs (some (-1)) none)) q = some (.lst vs) := by rw [upd_ne (Ne.symm hpq)]; exact hq
  have hp1 : upd H p (.lst (cutV vs (some (-1)) none)) p = some (.lst (cutV vs (some (-1)) none)) := upd_same
  refine ⟨p, rfl, ⟨_, .of hp1⟩, ?_⟩
  have fin := fun σ' h1 h2 => kk p σ' hpn hpq h1 h2
  refine ⟨fun n m σ1 Hn => (n = 0 ∧ m = 1 ∧ σ1 = σ ∧ Hn = upd H p (.lst (cutV vs (some (-1)) none))) ∨ (n = 1 ∧ m = 0 ∧ vs ≠ [] ∧ (∀ l, l ≠ j → σ1[l]? = σ[l]?) ∧ σ1.length = σ.length ∧ Hn = upd (upd H p (.lst (cutV vs (some (-1)) none))) q (.lst vs.dropLast)), ⟨1, .inl ⟨rfl, rfl, rfl, rfl⟩⟩, fun n m σ1 Hn hW => ?_⟩
  rcases hW with ⟨rfl, rfl, rfl, rfl⟩ | ⟨rfl, rfl, hne, hag, hl, rfl⟩
  · by_cases he : vs = []
    · refine .inl ⟨⟨_, .of hp1, by rw [hlen, if_pos he]; exact Nat.le_refl _⟩, ?_⟩
      have := fin σ1 (fun _ _ => rfl) rfl
      have e : upd (upd H p (.lst (cutV vs (some (-1)) none))) q (.lst vs.dropLast) = upd H p (.lst (cutV vs (some (-1)) none)) := by
        funext a
        by_cases ha : a = q
        · subst ha
          rw [upd_same, hq1, he]
          rfl
        · rw [upd_ne ha]
      rw [e] at this
      exact this
    · have hpos := List.length_pos_iff.mpr he
      obtain ⟨u, hu⟩ : ∃ u, (cutV vs (some (-1)) none)[0]? = some u := ⟨_, List.getElem?_eq_getElem (by rw [hlen, if_neg he]; decide)⟩
      refine .inr ⟨⟨_, u, .of hp1, hu⟩, fun σ2 H2 => (∀ l, l ≠ j → σ2[l]? = σ1[l]?) ∧ σ2.length = σ1.length ∧ H2 = upd (upd H p (.lst (cutV vs (some (-1)) none))) q (.lst vs.dropLast), fun σ2 H2 ⟨g1, g2, g3⟩ => ⟨0, Nat.zero_lt_one, .inr ⟨rfl, rfl, he, g1, g2, g3⟩⟩, fun x H3 hyl => ?_⟩
      obtain ⟨rfl, hx2⟩ := hyl
      show tBM0 X.K "list" rPop (tVar i) (σ1.set j (some x)) _ _
      refine ⟨.ref q, by rw [List.getElem?_set_ne (Ne.symm hij)]; exact hσ, .inl ⟨rfl, _, .of hq1⟩, q, vs, vs[vs.length - 1]'(by omega), rfl, rfl, hq1, List.getElem?_eq_getElem (by omega), fun l hl => ?_, ?_, rfl⟩
      · rw [List.getElem?_set_ne (Ne.symm hl)]
      · rw [List.length_set]
  · have hp2 : upd (upd H p (.lst (cutV vs (some (-1)) none))) q (.lst vs.dropLast) p = some (.lst (cutV vs (some (-1)) none)) := by rw [upd_ne hpq]; exact hp1
    exact .inl ⟨⟨_, .of hp2, by rw [hlen, if_neg hne]; exact Nat.le_refl _⟩, fin σ1 hag hl⟩
end
end Dn
namespace Dn
open PySem PySem.Spec PyProof.Rows L2
section
variable {K : PySem.W.Frag} {H0 F0 F H : Hp} {ws gs : Ws} {B : Bs} {σ : L2.St} {e : En} {G : Ws} {X : Cx}
theorem Rel.openA {v : V} {xs : List O} (r : Rel K H0 F0 F H ((v, .l xs) :: ws)) : ∃ q w, v = .ref q ∧ H q = some (.lst (w.map (·.1))) ∧ w.map (·.2) = xs ∧ F q = none ∧ H0 q = none ∧ Rel K (upd H0 q (.lst (w.map (·.1)))) F0 F H (w ++ ws) := by
  obtain ⟨T, rl, nd, hp⟩ := r.res
  cases rl with
  | cons ra rt =>
    rename_i T1 T2
    cases ra with
    | l hq e1 e2 rr =>
      rename_i q us w T'
      have hp0 := hp q (List.mem_cons_self ..)
      subst e1
      have nq : q ∉ T' ++ T2 := by
        have := nd
        rw [List.cons_append] at this
        exact (List.nodup_cons.mp this).1
      have ndr : (T' ++ T2).Nodup := by
        have := nd
        rw [List.cons_append] at this
        exact (List.nodup_cons.mp this).2
      refine ⟨q, w, rfl, hq, e2.symm, hp0.1, hp0.2, fun a o h => ?_, r.f0, fun a o h => ?_, r.fh, T' ++ T2, rpl_append rr rt, ndr, fun a m => ?_⟩
      · by_cases z : a = q
        · subst z; rw [upd_same] at h; cases h; exact hq
        · rw [upd_ne z] at h; exact r.h0 a o h
      · rcases r.fn a o h with y | y
        · exact .inl y
        · right
          have z : a ≠ q := fun z => by subst z; rw [hp0.1] at h; cases h
          rw [upd_ne z]
          exact y
      · have h1 := hp a (by rw [List.cons_append]; exact List.mem_cons_of_mem _ m)
        have z : a ≠ q := fun z => nq (by rw [← z]; exact m)
        exact ⟨h1.1, by rw [upd_ne z]; exact h1.2⟩
theorem Rel.shutB {q p : Addr} {w : Ws} {L : List V} {u : HO} {H1 F1 : Hp} (r : Rel K (upd H0 q (.lst L)) F0 F1 H1 (w ++ ws)) (hF0 : F0 q = none) (h0 : H0 q = none) (hp : H1 p = none) (hpq : p ≠ q) :
    Rel K H0 F0 F1 (upd (upd H1 p u) q (.lst (w.map (·.1)).dropLast)) ((.ref q, .l (w.map (·.2)).dropLast) :: ws) := by
  obtain ⟨w2, hw⟩ : ∃ w2, w = w.dropLast ++ w2 := ⟨w.drop (w.length - 1), by rw [List.dropLast_eq_take, List.take_append_drop]⟩
  have r1 : Rel K (upd H0 q (.lst L)) F0 F1 H1 (w2 ++ (w.dropLast ++ ws)) := r.perm (by
    conv => lhs; rw [hw]
    rw [List.append_assoc]
    exact pmid _ _ _)
  have r2 := r1.drop
  obtain ⟨T, rl, nd, hT⟩ := r2.res
  have dom := rpl_dom rl
  have nq : q ∉ T := fun m => by
    have := (hT q m).2
    rw [upd_same] at this
    cases this
  have np : p ∉ T := fun m => dom p m hp
  have hF1q : F1 q = none := by
    cases h : F1 q with
    | none => rfl
    | some o =>
      rcases r2.fn q o h with y | y
      · rw [hF0] at y; cases y
      · rw [upd_same] at y; cases y
  have st : ∀ a, a ≠ q → a ≠ p → upd (upd H1 p u) q (.lst (w.map (·.1)).dropLast) a = H1 a := fun a h1 h2 => by rw [upd_ne h1, upd_ne h2]
  have sF : Same F1 (upd (upd H1 p u) q (.lst (w.map (·.1)).dropLast)) := fun a o h => by
    have h1 := r2.fh a o h
    rw [st a (fun z => by subst z; rw [hF1q] at h; cases h) (fun z => by subst z; rw [hp] at h1; cases h1)]
    exact h1
  refine ⟨fun a o h => ?_, r2.f0, fun a o h => ?_, sF, q :: T, ?_, ?_, fun a m => ?_⟩
  · have z : a ≠ q := fun z => by subst z; rw [h0] at h; cases h
    have h1 := r2.h0 a o (by rw [upd_ne z]; exact h)
    rw [st a z (fun y => by subst y; rw [hp] at h1; cases h1)]
    exact h1
  · rcases r2.fn a o h with y | y
    · exact .inl y
    · by_cases z : a = q
      · subst z; exact .inr h0
      · rw [upd_ne z] at y; exact .inr y
  · obtain ⟨T1, T2, e12, ra, rb⟩ := rpl_split rl
    have m1 : RpL K F1 (upd (upd H1 p u) q (.lst (w.map (·.1)).dropLast)) w.dropLast T1 := rpl_mono (Same.refl F1) ra fun a ha => st a (fun z => nq (by rw [← z, e12]; exact List.mem_append_left _ ha)) (fun z => np (by rw [← z, e12]; exact List.mem_append_left _ ha))
    have m2 : RpL K F1 (upd (upd H1 p u) q (.lst (w.map (·.1)).dropLast)) ws T2 := rpl_mono (Same.refl F1) rb fun a ha => st a (fun z => nq (by rw [← z, e12]; exact List.mem_append_right _ ha)) (fun z => np (by rw [← z, e12]; exact List.mem_append_right _ ha))
    rw [e12]
    exact .cons (T1 := q :: T1) (.l (ws := w.dropLast) upd_same (by rw [List.map_dropLast]) (by rw [List.map_dropLast]) m1) m2
  · exact List.nodup_cons.mpr ⟨nq, nd⟩
  · rcases List.mem_cons.mp m with rfl | m
    · exact ⟨hF1q, h0⟩
    · have h1 := hT a m
      have z : a ≠ q := fun z => nq (by rw [← z]; exact m)
      rw [upd_ne z] at h1
      exact h1
noncomputable def semBeh (N : Nat) (ks : List Int) (f : List O → List O → Option (List O × O)) (m : MS) : List O → Option (O × List O)
  | [.l xs, .v wd] => (match alA ks f xs with
    | some ys => (match (O.l ys.dropLast).toD with
      | some d => (match m (.own (.v d) :: .own (.v d) :: .own (.v wd) :: List.replicate (N - 3) .no) with
        | some (.rt y _) => some (y, [])
        | _ => none)
      | none => none)
    | none => none)
  | _ => none
def spBeh (K : PySem.W.Frag) (sem : List O → Option (O × List O)) : Sp := fun vs H Q _ => ∃ H0 F b q wv us xs wd x, vs = [.ref b, .ref q, wv] ∧ Rel K H0 F F H [(.ref q, .l xs), (wv, .v wd)] ∧ H q = some (.lst us) ∧ F b = some (.lst us.dropLast) ∧ sem [.l xs, .v wd] = some (x, []) ∧ ∀ F' H' v, Rel K H0 F F' H' [(v, x)] → Q v H'
theorem slots3 {a b c : V} {x y z : O} {σ : L2.St} {n : Nat} : slots (some a :: some b :: some c :: σ) (.own x :: .own y :: .own z :: List.replicate n .no) = [(a, x), (b, y), (c, z)] := by
  simp only [slots, slots_rep]
theorem okBeh {P : Program} {w : World} {mg : Str → Option Value} {base : Heap} {x qual : Str} {st s1 s2 : Stmt} {rest : List Stmt} {f : Addr} {fd : FuncData} {N ps : List Str} {k n : Nat} {m : MS} {ks : List Int} {g : List O → List O → Option (List O × O)} (F : Fun K x qual st f fd) (S : FnScope N ps (defScope st)) (hps : ps.length = 3) (hN : N.length = n + 4) (hbd : defBody st = s1 :: s2 :: rest)
    (hbody : ∀ (cdv : Value) (A : Around) (outer : List Env) (s : Shared) (H : Hp) (E : XK), RoomG k (A.deeper (PyProof.Rows.envOfC qual (defScope st) s.heap.objs.size f cdv)) →
      PS (cxOf CX0 P w K mg base N qual (defScope st) f cdv A outer s H E).nox s1 (tA K 1 3 ks g) ∧ PS (cxOf CX0 P w K mg base N qual (defScope st) f cdv A outer s H E).nox s2 (tB 1 3) ∧ PSs (cxOf CX0 P w K mg base N qual (defScope st) f cdv A outer s H E).nox rest (denS K m)) :
    FnG P w K mg base CX0 (k + 1) f fd ps (spBeh K (semBeh N.length ks g m)) := by
  refine Dn.Fun.okG F S (fun vs H Q E h => ?_) (fun cdv A outer s H vs Q E hr h => ⟨tSeq (tA K 1 3 ks g) (tSeq (tB 1 3) (denS K m)), ?_, ?_⟩)
  · obtain ⟨_, _, _, _, _, _, _, _, _, rfl, _⟩ := h
    rw [hps]; rfl
  · rw [hbd]
    obtain ⟨h1, h2, h3⟩ := hbody cdv A outer s H E hr
    exact (pss_cons h1 (pss_cons h2 h3)).nox
  · obtain ⟨H0, F0, b, q, wv, us, xs, wd, x, rfl, rel, hq, hb, hsem, hQ⟩ := h
    unfold semBeh at hsem
    simp only at hsem
    · split at hsem
      · rename_i ys hys
        split at hsem
        · rename_i d hd
          split at hsem
          · rename_i y e9 hm
            obtain ⟨rfl, -⟩ := so hsem
            obtain ⟨q', w1, hv, hq', hw2, hFq, hH0q, r1⟩ := rel.openA
            cases hv
            rw [hq] at hq'
            cases hq'
            have hst : L2.start N [.ref b, .ref q, wv] = some (.ref b) :: some (.ref q) :: some wv :: List.replicate (n + 1) none := by
              unfold L2.start
              rw [hN]
              rfl
            show tA K 1 3 ks g _ (L2.start N [.ref b, .ref q, wv]) H
            rw [hst]
            have hb2 : ∀ {F' : Hp}, Same F0 F' → F' b = some (.lst (w1.map (·.1)).dropLast) := fun h => h _ _ hb
            refine ⟨⟨upd H0 q (.lst (w1.map (·.1))), F0, []⟩, F0, .no :: .no :: .own (.v wd) :: List.replicate (n + 1) .no, q, w1, ys, rfl, by decide, rfl, upd_same, ⟨⟨by simp, fun i sl hi => ?_⟩, ?_⟩, by rw [hw2]; exact hys, fun F1 H1 σ1 w2 g1 g2 g3 g4 => ?_⟩
            · match i, hi with
              | 0, hi => cases hi; exact ⟨_, rfl, trivial⟩
              | 1, hi => cases hi; exact ⟨_, rfl, trivial⟩
              | 2, hi => cases hi; exact ⟨_, rfl, wv, rfl⟩
              | i + 3, hi =>
                have h1 : (List.replicate (n + 1) Sl.no)[i]? = some sl := hi
                rw [List.getElem?_replicate] at h1
                by_cases hlt : i < n + 1
                · rw [if_pos hlt] at h1
                  cases h1
                  refine ⟨none, ?_, trivial⟩
                  show (List.replicate (n + 1) (none : Option V))[i]? = _
                  rw [List.getElem?_replicate, if_pos hlt]
                · rw [if_neg hlt] at h1
                  cases h1
            · have e1 : slots (some (V.ref b) :: some (V.ref q) :: some wv :: List.replicate (n + 1) none) (.no :: .no :: .own (.v wd) :: List.replicate (n + 1) .no) = [(wv, .v wd)] := by
                simp only [slots, slots_rep]
              rw [e1]
              exact r1.perm List.perm_append_comm
            · -- the second loop
              have hl1 : σ1.length = n + 4 := by rw [g4.ok.len]; simp
              have hH1q : H1 q = some (.lst (w1.map (·.1))) := g4.rel.h0 q _ upd_same
              have s1q : σ1[1]? = some (some (.ref q)) := by rw [g3 1 (by decide)]; rfl
              show tB 1 3 _ σ1 H1
              refine ⟨q, w1.map (·.1), by decide, by omega, s1q, hH1q, fun p σ2 hp hpq g5 g6 => ?_⟩
              have e1 : slots σ1 (.no :: .no :: .own (.v wd) :: List.replicate (n + 1) .no) = [(wv, .v wd)] := by
                have a2 : σ1[2]? = some (some wv) := by rw [g3 2 (by decide)]; rfl
                match σ1, hl1, a2 with
                | x0 :: x1 :: x2 :: tl, _, a2 =>
                  simp only [List.getElem?_cons_succ, List.getElem?_cons_zero, Option.some.injEq] at a2
                  subst a2
                  cases x0 <;> cases x1 <;> simp only [slots, slots_rep]
              have r2 := g4.rel
              rw [e1] at r2
              have r3 : Rel K (upd H0 q (.lst (w1.map (·.1)))) F0 F1 H1 (w2 ++ [(wv, .v wd)]) := r2.perm List.perm_append_comm
              have r4 := r3.shutB (u := .lst (cutV (w1.map (·.1)) (some (-1)) none)) hFq hH0q hp hpq
              rw [g1, g2] at r4
              obtain ⟨F2, r5⟩ := r4.freeze hd
              have dq : Df K F2 (.ref q) d := r5.dp
              -- the other list is like it
              obtain ⟨ds, rfl⟩ : ∃ ds, d = .list ds := by
                rw [show (O.l ys.dropLast).toD = (O.toDs ys.dropLast).map .list from rfl] at hd
                obtain ⟨ds, _, rfl⟩ := Option.map_eq_some_iff.mp hd
                exact ⟨ds, rfl⟩
              have db : Df K F2 (.ref b) (.list ds) := by
                cases dq with
                | lst h1 h2 =>
                  rename_i vs
                  have h3 := r5.fh q _ h1
                  rw [upd_same] at h3
                  cases h3
                  exact .lst (hb2 r5.f0) h2
              have r6 := r5.add db
              show denS K m _ σ2 _
              refine ⟨⟨H0, F0, []⟩, F2, .own (.v (.list ds)) :: .own (.v (.list ds)) :: .own (.v wd) :: List.replicate (n + 1) .no, [], .rt y e9, ⟨⟨by rw [g6, hl1]; simp, fun i sl hi => ?_⟩, ?_⟩, ?_, fun F9 H9 σ9 v s9 => ?_⟩
              · have b0 : σ2[0]? = some (some (.ref b)) := by rw [g5 0 (by decide), g3 0 (by decide)]; rfl
                have b1 : σ2[1]? = some (some (.ref q)) := by rw [g5 1 (by decide), s1q]
                have b2 : σ2[2]? = some (some wv) := by rw [g5 2 (by decide), g3 2 (by decide)]; rfl
                match i, hi with
                | 0, hi => cases hi; exact ⟨_, b0, _, rfl⟩
                | 1, hi => cases hi; exact ⟨_, b1, _, rfl⟩
                | 2, hi => cases hi; exact ⟨_, b2, _, rfl⟩
                | i + 3, hi =>
                  have h1 : (List.replicate (n + 1) Sl.no)[i]? = some sl := hi
                  rw [List.getElem?_replicate] at h1
                  by_cases hlt : i < n + 1
                  · rw [if_pos hlt] at h1
                    cases h1
                    exact ⟨σ2[i + 3]'(by omega), List.getElem?_eq_getElem (by omega), trivial⟩
                  · rw [if_neg hlt] at h1
                    cases h1
              · have b0 : σ2[0]? = some (some (.ref b)) := by rw [g5 0 (by decide), g3 0 (by decide)]; rfl
                have b1 : σ2[1]? = some (some (.ref q)) := by rw [g5 1 (by decide), s1q]
                have b2 : σ2[2]? = some (some wv) := by rw [g5 2 (by decide), g3 2 (by decide)]; rfl
                have e3 : slots σ2 (.own (.v (.list ds)) :: .own (.v (.list ds)) :: .own (.v wd) :: List.replicate (n + 1) .no) = [(.ref b, .v (.list ds)), (.ref q, .v (.list ds)), (wv, .v wd)] := by
                  have hl2 : σ2.length = n + 4 := by omega
                  match σ2, hl2, b0, b1, b2 with
                  | x0 :: x1 :: x2 :: tl, _, b0, b1, b2 =>
                    simp only [List.getElem?_cons_succ, List.getElem?_cons_zero, Option.some.injEq] at b0 b1 b2
                    subst b0
                    subst b1
                    subst b2
                    exact slots3
                rw [e3, List.append_nil]
                exact r6
              · rw [hN] at hm
                exact hm
              · refine hQ F9 H9 v ?_
                have r9 := s9.rel
                exact Rel.drop (w := slots σ9 e9) r9
          · cases hsem
        · cases hsem
      · cases hsem
theorem Rel.addF {p : Addr} {u : HO} (r : Rel K H0 F0 F H ws) (hp : H p = none) : Rel K H0 F0 (upd F p u) (upd H p u) ws := by
  have hF : F p = none := r.f_none hp
  have sF : Same F (upd F p u) := same_upd hF
  obtain ⟨T, rl, nd, hT⟩ := r.res
  have dom := rpl_dom rl
  have np : ∀ a ∈ T, a ≠ p := fun a m z => dom a m (by rw [z]; exact hp)
  refine ⟨r.h0.trans (same_upd hp), r.f0.trans sF, fun a o h => ?_, fun a o h => ?_, T, rpl_mono sF rl fun a m => upd_ne (np a m), nd, fun a m => ⟨by rw [upd_ne (np a m)]; exact (hT a m).1, (hT a m).2⟩⟩
  · by_cases z : a = p
    · subst z; exact .inr (r.h_none hp)
    · rw [upd_ne z] at h; exact r.fn a o h
  · by_cases z : a = p
    · subst z; rw [upd_same] at h ⊢; exact h
    · rw [upd_ne z] at h ⊢; exact r.fh a o h
theorem cut_last (us : List V) : cutV us none (some (-1)) = us.dropLast := by
  unfold cutV
  have e : HT.sIx us.length us.length (some (-1)) = us.length - 1 := by
    show (if (-1 : Int) < 0 then ((-1 : Int) + (us.length : Int)).toNat else min ((-1 : Int)).toNat us.length) = _
    rw [if_pos (by decide)]
    omega
  rw [HT.sIx_none, e, List.drop_zero, Nat.sub_zero, List.dropLast_eq_take]
def mBeh (sem : List O → Option (O × List O)) (i l : Nat) : MD O := fun e => match e[i]?, e[l]? with
  | some (.own (.l xs)), some (.own (.v wd)) => (match sem [.l xs, .v wd] with
    | some (x, []) => some (x, e.set i .no)
    | _ => none)
  | _, _ => none
theorem d_callBeh {i l k : Nat} {x : Str} {f : Addr} {fd : FuncData} {ps : List Str} {sem : List O → Option (O × List O)} {xE xE2 wE one : Expr} {p1 p2 p3 p4 pos : Pos} (F : FnG X.prog X.w X.K X.mg X.base CX0 k f fd ps (spBeh X.K sem)) (hr : RoomG k X.A) (hg : Gl X x) (hm : X.mg x = some (.ref f)) (hk : PySem.W.keepIn X.K (.ref f) = true) (hb : Binds X.K fd ps [])
    (hx : PE X xE (tVar i)) (h1 : PE X one (tC (.int 1))) (hx2 : PE X xE2 (tVar i)) (hw : PE X wE (tVar l)) (hdb : (x == ("__debug__" : Str)) = false := by decide)
    (he : starEach [.Subscript xE (.Slice none (some (.UnaryOp .USub one p4)) none p2) p3, xE2, wE] X.env = (false, eval (.Subscript xE (.Slice none (some (.UnaryOp .USub one p4)) none p2) p3) X.env) :: starEach [xE2, wE] X.env := by rfl) (hpl : (backTo pos (starEach [xE2, wE] X.env)).any (·.1) = false := by rfl)
    (he2 : starEach [xE2, wE] X.env = (false, eval xE2 X.env) :: starEach [wE] X.env := by rfl) (he3 : starEach [wE] X.env = (false, eval wE X.env) :: starEach [] X.env := by rfl) :
    PE X (.Call (.Name x p1) [.Subscript xE (.Slice none (some (.UnaryOp .USub one p4)) none p2) p3, xE2, wE] [] pos) (den X.K false (mBeh sem i l)) :=
  pe_imp (pe_callG F hr hg hm hk hb .nil pass0 (pa_cons (pe_slice sl_list hx po_none (po_some (pe_un un_neg h1))) (pa_cons hx2 (pa_cons hw pa_nil he3) he2) he) hdb he hpl) fun σ H Q ⟨B, F, e, G, x, e', s, hm, kk⟩ => by
  unfold mBeh at hm
  split at hm
  · rename_i xs wd hxs hwd
    split at hm
    · rename_i y hy
      obtain ⟨rfl, rfl⟩ := so hm
      obtain ⟨v, hv, s1⟩ := s.out hxs (show (Sl.own (.l xs)).o? = some (.l xs) from rfl)
      obtain ⟨wv, hwv, T, rw'⟩ := s.seeO hwd (show (Sl.own (.v wd)).o? = some (.v wd) from rfl)
      have dw : Df X.K F wv wd := by cases rw' with | v h => exact h
      have r1 : Rel X.K B.H0 B.F0 F H ((v, .l xs) :: (slots σ (e.set i .no) ++ G)) := s1.rel.perm (mid _ _ _)
      obtain ⟨q, us, rfl, hq⟩ : ∃ q us, v = .ref q ∧ H q = some (.lst us) := by
        obtain ⟨T, r⟩ := r1.at
        cases r with
        | l hq _ _ _ => exact ⟨_, _, rfl, hq⟩
      refine ⟨.ref q, hv, 1, rfl, -1, rfl, q, us, rfl, .of hq, fun p hp => ?_⟩
      refine ⟨.ref q, hv, wv, hwv, ?_⟩
      have hpq : p ≠ q := fun z => by subst z; rw [hp] at hq; cases hq
      rw [cut_last]
      have r2 := (r1.add dw).addF (u := .lst us.dropLast) hp
      have r3 : Rel X.K B.H0 B.F0 (upd F p (.lst us.dropLast)) (upd H p (.lst us.dropLast)) ([(.ref q, .l xs), (wv, .v wd)] ++ (slots σ (e.set i .no) ++ G)) := r2.perm (List.Perm.swap _ _ _)
      obtain ⟨H1, q1, q2, q3⟩ := r3.hand
      refine ⟨H1, upd F p (.lst us.dropLast), p, q, wv, us, xs, wd, y, rfl, q1, by rw [upd_ne (Ne.symm hpq)]; exact hq, upd_same, hy, fun F' H' v' r4 => ?_⟩
      have r5 := q2 F' H' [(v', y)] r4
      exact kk F' H' v' ⟨s1.ok, r5.perm (show ((v', y) :: (slots σ (e.set i .no) ++ G)).Perm _ from (mid _ _ _).symm)⟩ (fun z => by cases z)
    · cases hm
  · cases hm
end
end Dn
namespace Dn
open PySem PySem.Spec PyProof.Rows L2
theorem c_callBeh {X : Cx} {i l k : Nat} {x : Str} {ps : List Str} {sem : List O → Option (O × List O)} {xE xE2 wE one : Expr} {p1 p2 p3 p4 pos : Pos} (C : Cal X.prog X.w X.K X.mg X.base k x ps (spBeh X.K sem)) (hr : RoomG k X.A) (hg : Gl X x)
    (hx : PE X xE (tVar i)) (h1 : PE X one (tC (.int 1))) (hx2 : PE X xE2 (tVar i)) (hw : PE X wE (tVar l)) (hdb : (x == ("__debug__" : Str)) = false := by decide)
    (he : starEach [.Subscript xE (.Slice none (some (.UnaryOp .USub one p4)) none p2) p3, xE2, wE] X.env = (false, eval (.Subscript xE (.Slice none (some (.UnaryOp .USub one p4)) none p2) p3) X.env) :: starEach [xE2, wE] X.env := by rfl) (hpl : (backTo pos (starEach [xE2, wE] X.env)).any (·.1) = false := by rfl)
    (he2 : starEach [xE2, wE] X.env = (false, eval xE2 X.env) :: starEach [wE] X.env := by rfl) (he3 : starEach [wE] X.env = (false, eval wE X.env) :: starEach [] X.env := by rfl) :
    PE X (.Call (.Name x p1) [.Subscript xE (.Slice none (some (.UnaryOp .USub one p4)) none p2) p3, xE2, wE] [] pos) (den X.K false (mBeh sem i l)) := by
  obtain ⟨f, fd, F, hm, hk, hb⟩ := C.ex
  exact d_callBeh F hr hg hm hk hb hx h1 hx2 hw hdb he hpl he2 he3
end Dn
namespace Dn
open PySem L2
@[simp] theorem shut_simp {α : Type} (a : α) : shut a = a := shut_eq a
section
variable {m a b : MD O} {ms : MD (List O)} {c c' : MD Bool} {t u : MS} {e : En} {i : Nat} {f : List PyData → Option PyData}
@[simp] theorem mC_ap (d : PyData) : mC d e = some (.v d, e) := id rfl
@[simp] theorem mVar_ap : mVar i e = (match e[i]? with
  | some (.own (.v d)) => some (.v d, e)
  | some (.own (.s ns)) => some (.s ns, e)
  | some (.own o) => (match o.toD with | some d => some (.v d, e.set i (.own (.v d))) | none => none)
  | some (.pin (.v d)) => some (.v d, e)
  | some (.pin (.s ns)) => some (.s ns, e)
  | _ => none) := id rfl
@[simp] theorem mMv_ap : mMv i e = (match e[i]? with
  | some (.own o) => some (o, e.set i .no)
  | _ => none) := id rfl
@[simp] theorem bVar_ap : bVar i e = (e[i]?).bind Sl.o? := id rfl
@[simp] theorem o_no : Sl.o? .no = none := id rfl
@[simp] theorem o_own (o : O) : Sl.o? (.own o) = some o := id rfl
@[simp] theorem o_pin (o : O) : Sl.o? (.pin o) = some o := id rfl
@[simp] theorem lNil_ap : lNil e = some ([], e) := id rfl
@[simp] theorem aNil_ap : aNil e = some ([], e) := id rfl
@[simp] theorem lCons_ap : lCons m ms e = (match m e with
  | some (x, e1) => (match ms e1 with
    | some (xs, e2) => some (x :: xs, e2)
    | none => none)
  | none => none) := id rfl
@[simp] theorem aCons_ap : aCons m ms e = (match m e with
  | some (x, e1) => (match ms e1 with
    | some (xs, e2) => some (x :: xs, e2)
    | none => none)
  | none => none) := id rfl
@[simp] theorem lSee_ap : lSee i ms e = (match (e[i]?).bind Sl.o? with
  | some _ => (match ms e with
    | some (xs, e1) => (match (e1[i]?).bind Sl.o? with
      | some x => some (x :: xs, e1)
      | none => none)
    | none => none)
  | none => none) := id rfl
@[simp] theorem aMv_ap : aMv i ms e = (match (e[i]?).bind Sl.o? with
  | some _ => (match ms e with
    | some (xs, e1) => (match mMv i e1 with
      | some (x, e2) => some (x :: xs, e2)
      | none => none)
    | none => none)
  | none => none) := id rfl
@[simp] theorem aRf_ap : aRf i ms e = (match (e[i]?).bind Sl.o? with
  | some _ => (match ms e with
    | some (xs, e1) => (match (e1[i]?).bind Sl.o? with
      | some x => some (x :: xs, e1.set i .no)
      | none => none)
    | none => none)
  | none => none) := id rfl
@[simp] theorem mL_ap : mL f ms e = (match ms e with
  | some (xs, e1) => (match O.toDs xs with
    | some ds => (match f ds with
      | some z => some (.v z, e1)
      | none => none)
    | none => none)
  | none => none) := id rfl
@[simp] theorem mLk_ap {f : List O → Option PyData} : mLk f ms e = (match ms e with
  | some (xs, e1) => (match f xs with
    | some z => some (.v z, e1)
    | none => none)
  | none => none) := id rfl
@[simp] theorem mA_ap {f : List O → Option O} : mA f ms e = (match ms e with
  | some (xs, e1) => (match f xs with
    | some x => some (x, e1)
    | none => none)
  | none => none) := id rfl
@[simp] theorem mT_ap : mT m e = (match m e with
  | some (.v (.bool b), e1) => some (b, e1)
  | _ => none) := id rfl
@[simp] theorem mFz_ap : mFz m e = (match m e with
  | some (x, e1) => (match x.toD with
    | some d => some (.v d, e1)
    | none => none)
  | none => none) := id rfl
@[simp] theorem mSet_ap : mSet i m e = (match m e with
  | some (x, e1) => (match setE e1 i x with
    | some e2 => some (.nx e2)
    | none => none)
  | none => none) := id rfl
@[simp] theorem setE_ap {x : O} : setE e i x = (match e[i]? with
  | some .no => some (e.set i (.own x))
  | some (.own _) => some (e.set i (.own x))
  | _ => none) := id rfl
@[simp] theorem mDrop_ap : mDrop m e = (match m e with
  | some (_, e1) => some (.nx e1)
  | none => none) := id rfl
@[simp] theorem mRet_ap : mRet m e = (match m e with
  | some (x, e1) => some (.rt x e1)
  | none => none) := id rfl
@[simp] theorem mNil_ap : mNil e = some (.nx e) := id rfl
@[simp] theorem mKill_ap (vs : List Nat) : mKill vs e = some (.nx (hide e vs)) := id rfl
@[simp] theorem mFrz_ap (vs : List Nat) : mFrz vs e = some (.nx (frz e vs)) := id rfl
@[simp] theorem mFrzE_ap {α : Type} (vs : List Nat) (m : MD α) : mFrzE vs m e = m (frz e vs) := id rfl
@[simp] theorem mYes_ap : mYes e = some (true, e) := id rfl
@[simp] theorem oNone_ap : oNone e = some (none, e) := id rfl
@[simp] theorem oSome_ap : oSome m e = (match m e with
  | some (.v (.int i), e1) => some (some i, e1)
  | _ => none) := id rfl
@[simp] theorem mSl_ap {lo hi : MO} : mSl m lo hi e = (match m e with
  | some (x, e1) => (match lo e1 with
    | some (a, e2) => (match hi e2 with
      | some (b, e3) => (match slO x a b with
        | some y => some (y, e3)
        | none => none)
      | none => none)
    | none => none)
  | none => none) := id rfl
@[simp] theorem mSeq_ap : mSeq t u e = (match t e with
  | some (.nx e1) => u e1
  | r => r) := id rfl
@[simp] theorem mIf_ap : mIf c t u e = (match c e with
  | some (b, e1) => if b = true then t e1 else u e1
  | none => none) := by
  unfold mIf
  split <;> rename_i h <;> simp [h]
@[simp] theorem tAndM_ap : tAndM c c' e = (match c e with
  | some (b, e1) => if b = true then c' e1 else some (false, e1)
  | none => none) := by
  unfold tAndM
  split
  · rename_i h; simp [h]
  · rename_i h
    cases hc : c e with
    | none => rfl
    | some p =>
      obtain ⟨b, e1⟩ := p
      cases b
      · rfl
      · exact absurd hc (h e1)
@[simp] theorem tOrM_ap : tOrM c c' e = (match c e with
  | some (b, e1) => if b = true then some (true, e1) else c' e1
  | none => none) := by
  unfold tOrM
  split
  · rename_i h; simp [h]
  · rename_i h
    cases hc : c e with
    | none => rfl
    | some p =>
      obtain ⟨b, e1⟩ := p
      cases b
      · exact absurd hc (h e1)
      · rfl
@[simp] theorem tNotM_ap : tNotM c e = (match c e with
  | some (b, e1) => some (!b, e1)
  | none => none) := id rfl
@[simp] theorem vAnd_ap : vAnd a b e = (match a e with
  | some (.v (.bool k), e1) => if k = true then b e1 else some (.v (.bool false), e1)
  | _ => none) := by
  unfold vAnd
  split
  · rename_i h; simp [h]
  · rename_i h; simp [h]
  · rename_i h1 h2
    split
    · rename_i k e1 h3
      cases k
      · exact absurd h3 (h2 _)
      · exact absurd h3 (h1 _)
    · rfl
@[simp] theorem vOr_ap : vOr a b e = (match a e with
  | some (.v (.bool k), e1) => if k = true then some (.v (.bool true), e1) else b e1
  | _ => none) := by
  unfold vOr
  split
  · rename_i h; simp [h]
  · rename_i h; simp [h]
  · rename_i h1 h2
    split
    · rename_i k e1 h3
      cases k
      · exact absurd h3 (h1 _)
      · exact absurd h3 (h2 _)
    · rfl
@[simp] theorem mUp_ap {f : List O → List O → Option (List O × O)} : mUp i ms f e = (match (e[i]?).bind Sl.o? with
  | some (.l _) => (match ms e with
    | some (ys, e1) => (match e1[i]? with
      | some (.own (.l xs)) => (match f xs ys with
        | some (xs', y) => some (y, e1.set i (.own (.l xs')))
        | none => none)
      | some (.pin (.l xs)) => (match f xs ys with
        | some (xs', y) => some (y, e1.set i (.pin (.l xs')))
        | none => none)
      | _ => none)
    | none => none)
  | _ => none) := id rfl
@[simp] theorem mSetI_ap : mSetI i a b e = (match a e with
  | some (y, e1) => (match (e1[i]?).bind Sl.o? with
    | some (.l _) => (match b e1 with
      | some (.v (.int k), e2) => (match e2[i]? with
        | some (.own (.l xs)) => (match ixN xs.length k with
          | some j => some (.nx (e2.set i (.own (.l (xs.set j y)))))
          | none => none)
        | some (.pin (.l xs)) => (match ixN xs.length k with
          | some j => some (.nx (e2.set i (.pin (.l (xs.set j y)))))
          | none => none)
        | _ => none)
      | _ => none)
    | _ => none)
  | none => none) := id rfl
@[simp] theorem mLM_ap : mLM i f ms e = (match (e[i]?).bind Sl.o? with
  | some (.l _) => mL f (lSee i ms) e
  | some (.v (.list _)) => mL f (lSee i ms) e
  | _ => none) := id rfl
@[simp] theorem mAsg_ap {tg : Tg} : mAsg tg m e = (match m e with
  | some (x, e1) => (match asg tg x e1 with
    | some e2 => some (.nx e2)
    | none => none)
  | none => none) := id rfl
@[simp] theorem mCallM_ap {sem : Sem1} : mCallM sem ms e = (match ms e with
  | some (xs, e1) => (match sem xs with
    | some (x, []) => some (x, e1)
    | _ => none)
  | none => none) := id rfl
@[simp] theorem mCallR_ap {sem : Sem1} {rs : List Nat} : mCallR sem ms rs e = (match ms e with
  | some (xs, e1) => (match sem xs with
    | some (x, os) => (match putBk e e1 rs os with
      | some e2 => some (x, e2)
      | none => none)
    | none => none)
  | none => none) := id rfl
@[simp] theorem putBk_nil {e0 : En} : putBk e0 e [] [] = some e := id rfl
@[simp] theorem putBk_cons {e0 : En} {i : Nat} {rs : List Nat} {o : O} {os : List O} : putBk e0 e (i :: rs) (o :: os) = (match e0[i]?, e[i]? with
    | some (.own _), some .no => putBk e0 (e.set i (.own o)) rs os
    | some (.pin _), some .no => putBk e0 (e.set i (.pin o)) rs os
    | _, _ => none) := id rfl
@[simp] theorem hide_nil : hide e [] = e := id rfl
@[simp] theorem hide_cons {v : Nat} {vs : List Nat} : hide e (v :: vs) = (hide e vs).set v .no := id rfl
@[simp] theorem frz_nil : frz e [] = e := id rfl
@[simp] theorem frz_cons {v : Nat} {vs : List Nat} : frz e (v :: vs) = frz (match e[v]? with
    | some s => e.set v (frzS s)
    | none => e) vs := id rfl
@[simp] theorem frzS_no : frzS .no = .no := id rfl
@[simp] theorem frzS_pin (o : O) : frzS (.pin o) = .pin o := id rfl
@[simp] theorem frzS_own (o : O) : frzS (.own o) = (match o.toD with
    | some d => .own (.v d)
    | none => .own o) := id rfl
@[simp] theorem unhide_nil {e1 : En} : unhide e1 e [] = e := id rfl
@[simp] theorem unhide_cons {e1 : En} {v : Nat} {vs : List Nat} : unhide e1 e (v :: vs) = unhide e1 (e.set v (if vs.contains v then .no else keepV e1[v]?)) vs := id rfl
@[simp] theorem keepV_none : keepV none = .no := id rfl
@[simp] theorem keepV_no : keepV (some .no) = .no := id rfl
@[simp] theorem keepV_v (d : PyData) : keepV (some (.own (.v d))) = .own (.v d) := id rfl
@[simp] theorem asg_n {x : O} : asg (.n i) x e = setE e i x := id rfl
@[simp] theorem asg_tp {ts : List Tg} {x : O} : asg (.tp ts) x e = (match x.tparts with
    | some xs => asgs ts xs e
    | none => none) := id rfl
@[simp] theorem asgs_nil : asgs [] [] e = some e := id rfl
@[simp] theorem asgs_cons {g : Tg} {ts : List Tg} {x : O} {xs : List O} : asgs (g :: ts) (x :: xs) e = (match asg g x e with
    | some e1 => asgs ts xs e1
    | none => none) := id rfl
@[simp] theorem tgin_n {vs : List Nat} : (Tg.n i).in vs = vs.contains i := id rfl
@[simp] theorem tgin_tp {vs : List Nat} {ts : List Tg} : (Tg.tp ts).in vs = Tg.ins vs ts := id rfl
@[simp] theorem tgins_nil {vs : List Nat} : Tg.ins vs [] = true := id rfl
@[simp] theorem tgins_cons {vs : List Nat} {g : Tg} {ts : List Tg} : Tg.ins vs (g :: ts) = (Tg.in vs g && Tg.ins vs ts) := id rfl
@[simp] theorem mLc_ap {mi : MD (List O)} {tg : Tg} {vs : List Nat} : mLc mi tg c m vs e = (match mi e with
  | some (os, e1) => if os.length ≤ sizeLine && tg.in vs then (match lcL tg c m vs os (hide e1 vs) with
    | some (ys, e2) => some (.l ys, unhide e1 e2 vs)
    | none => none) else none
  | none => none) := id rfl
@[simp] theorem mFor_ap {mi : MD (List O)} {tg : Tg} : mFor mi tg t e = (match mi e with
  | some (os, e1) => forL tg t os e1
  | none => none) := id rfl
@[simp] theorem iL_ap : iL m e = (match m e with
  | some (x, e1) => (match x.lparts with
    | some os => some (os, e1)
    | none => (match x.tparts with
      | some os => some (os, e1)
      | none => none))
  | none => none) := id rfl
@[simp] theorem iR1_ap : iR1 ms e = (match ms e with
  | some ([.v (.int j)], e1) => if shut (decide (-(2 ^ 62) ≤ j ∧ j < 2 ^ 62)) = true then some (rngO 0 j.toNat, e1) else none
  | _ => none) := id rfl
@[simp] theorem iR2_ap : iR2 ms e = (match ms e with
  | some ([.v (.int i), .v (.int j)], e1) => if shut (decide (-(2 ^ 62) ≤ i ∧ i < 2 ^ 62 ∧ -(2 ^ 62) ≤ j ∧ j < 2 ^ 62)) = true then some (rngO i (j - i).toNat, e1) else none
  | _ => none) := id rfl
@[simp] theorem iZ_ap : iZ ms e = (match ms e with
  | some ([x, y], e1) => (match x.lparts, y.lparts with
    | some xs, some ys => some (zipO xs ys, e1)
    | _, _ => none)
  | _ => none) := id rfl
@[simp] theorem iE_ap : iE ms e = (match ms e with
  | some ([x], e1) => (match x.lparts with
    | some xs => some (enuO 0 xs, e1)
    | _ => none)
  | _ => none) := id rfl
@[simp] theorem fin_rt {br : List Bool} {x : O} : fin br (some (.rt x e)) = (match pinsOf br e with
    | some os' => some (x, os')
    | none => none) := id rfl
@[simp] theorem fin_nx {br : List Bool} : fin br (some (.nx e)) = (match pinsOf br e with
    | some os' => some (.v .none, os')
    | none => none) := id rfl
@[simp] theorem pins_nil : pinsOf [] e = some [] := id rfl
@[simp] theorem pins_f {br : List Bool} {s : Sl} : pinsOf (false :: br) (s :: e) = pinsOf br e := id rfl
@[simp] theorem pins_t {br : List Bool} {o : O} : pinsOf (true :: br) (.pin o :: e) = (match pinsOf br e with
    | some os => some (o :: os)
    | none => none) := id rfl
@[simp] theorem toD_v (d : PyData) : O.toD (.v d) = some d := id rfl
@[simp] theorem toD_l (xs : List O) : O.toD (.l xs) = (O.toDs xs).map .list := id rfl
@[simp] theorem toD_t (xs : List O) : O.toD (.t xs) = (O.toDs xs).map .tuple := id rfl
@[simp] theorem toDs_nil : O.toDs [] = some [] := id rfl
@[simp] theorem toDs_cons (x : O) (xs : List O) : O.toDs (x :: xs) = (match O.toD x, O.toDs xs with
    | some d, some ds => some (d :: ds)
    | _, _ => none) := id rfl
@[simp] theorem lparts_l (xs : List O) : O.lparts (.l xs) = some xs := id rfl
@[simp] theorem lparts_v (ds : List PyData) : O.lparts (.v (.list ds)) = some (ds.map .v) := id rfl
@[simp] theorem lparts_t (xs : List O) : O.lparts (.t xs) = none := id rfl
@[simp] theorem lparts_tv (ds : List PyData) : O.lparts (.v (.tuple ds)) = none := id rfl
@[simp] theorem tparts_t (xs : List O) : O.tparts (.t xs) = some xs := id rfl
@[simp] theorem tparts_v (ds : List PyData) : O.tparts (.v (.tuple ds)) = some (ds.map .v) := id rfl
@[simp] theorem pathK_nil : pathK e [] = some [] := id rfl
@[simp] theorem pathK_cons {b : En → Option O} {bs : List (En → Option O)} : pathK e (b :: bs) = (match b e with
    | some (.v (.int k)) => (match pathK e bs with
      | some ks => some (k :: ks)
      | none => none)
    | _ => none) := id rfl
@[simp] theorem bC_ap (d : PyData) : bC d e = some (.v d) := id rfl
@[simp] theorem mUpK_ap {bs : List (En → Option O)} {f : List O → List O → Option (List O × O)} : mUpK i bs ms f e = (match pathK e bs, e[i]?, ms e with
  | some ks, some (.own o), some (ys, _) => (match atK o ks with
    | some (.l xs) => (match f xs ys with
      | some (xs', y) => (match setK o ks xs' with
        | some o' => some (y, e.set i (.own o'))
        | none => none)
      | none => none)
    | _ => none)
  | some ks, some (.pin o), some (ys, _) => (match atK o ks with
    | some (.l xs) => (match f xs ys with
      | some (xs', y) => (match setK o ks xs' with
        | some o' => some (y, e.set i (.pin o'))
        | none => none)
      | none => none)
    | _ => none)
  | _, _, _ => none) := id rfl
@[simp] theorem mRev_ap : mRev m e = (match m e with
  | some (x, e1) => (match x.lparts with
    | some xs => some (.l xs.reverse, e1)
    | none => none)
  | none => none) := id rfl
@[simp] theorem mChain_ap {f g : List PyData → Option PyData} : mChain f g ms m e = (match ms e with
  | some (xs, e1) => (match O.toDs xs with
    | some [x, y] => (match f [x, y] with
      | some (.bool true) => (match sV y with
        | some _ => mL g (lCons (mC y) (lCons m lNil)) e1
        | none => none)
      | some (.bool false) => some (.v (.bool false), e1)
      | _ => none)
    | _ => none)
  | none => none) := id rfl
@[simp] theorem atK_nil (o : O) : atK o [] = some o := id rfl
end
end Dn
namespace Dn
open PySem L2
section
variable {α : Type} {tg : Tg} {mt : MD Bool} {me : MD O} {vs : List Nat}
theorem lc_map {enc : α → O} {f : α → O} {e : En} : ∀ (xs : List α), (∀ x ∈ xs, ∃ e1 e2 e3, asg tg (enc x) e = some e1 ∧ mt e1 = some (true, e2) ∧ me e2 = some (f x, e3) ∧ hide e3 vs = e) →
    lcL tg mt me vs (xs.map enc) e = some (xs.map f, e)
  | [], _ => rfl
  | x :: xs, h => by
    obtain ⟨e1, e2, e3, h1, h2, h3, h4⟩ := h x (List.mem_cons_self ..)
    have ih := lc_map xs fun y hy => h y (List.mem_cons_of_mem _ hy)
    simp only [List.map_cons, lcL, h1, h2, h3, h4, ih]
theorem lc_filter {enc : α → O} {f : α → O} {p : α → Bool} {e : En} : ∀ (xs : List α), (∀ x ∈ xs, ∃ e1 e2 e3, asg tg (enc x) e = some e1 ∧ mt e1 = some (p x, e2) ∧ (p x = true → me e2 = some (f x, e3) ∧ hide e3 vs = e) ∧ (p x = false → hide e2 vs = e)) →
    lcL tg mt me vs (xs.map enc) e = some ((xs.filter p).map f, e)
  | [], _ => rfl
  | x :: xs, h => by
    obtain ⟨e1, e2, e3, h1, h2, h3, h4⟩ := h x (List.mem_cons_self ..)
    have ih := lc_filter xs fun y hy => h y (List.mem_cons_of_mem _ hy)
    cases hp : p x with
    | true =>
      obtain ⟨h5, h6⟩ := h3 hp
      rw [hp] at h2
      simp only [List.map_cons, lcL, h1, h2, h5, h6, ih, List.filter_cons, hp, if_true]
    | false =>
      rw [hp] at h2
      simp only [List.map_cons, lcL, h1, h2, h4 hp, ih, List.filter_cons, hp]
      rfl
variable {body : MS}
theorem for_fold {S : Type} {enc : α → O} {E : S → En} {step : S → α → S} {I : S → Prop} : ∀ (xs : List α) (s : S), I s → (∀ x ∈ xs, ∀ s, I s → I (step s x) ∧ ∃ e1, asg tg (enc x) (E s) = some e1 ∧ body e1 = some (.nx (E (step s x)))) →
    forL tg body (xs.map enc) (E s) = some (.nx (E (xs.foldl step s))) ∧ I (xs.foldl step s)
  | [], s, hs, _ => ⟨rfl, hs⟩
  | x :: xs, s, hs, h => by
    obtain ⟨h0, e1, h1, h2⟩ := h x (List.mem_cons_self ..) s hs
    obtain ⟨g1, g2⟩ := for_fold xs (step s x) h0 fun z hz => h z (List.mem_cons_of_mem _ hz)
    refine ⟨?_, g2⟩
    simp only [List.map_cons, forL, h1, h2, g1, List.foldl_cons]
theorem for_inv {S : Type} {enc : α → O} {E : S → En} (I : List α → S → Prop) {all : List α} : ∀ (xs pre : List α) (s : S), all = pre ++ xs → I pre s → (∀ pre x post s, all = pre ++ x :: post → I pre s → ∃ s' e1, asg tg (enc x) (E s) = some e1 ∧ body e1 = some (.nx (E s')) ∧ I (pre ++ [x]) s') →
    ∃ s', forL tg body (xs.map enc) (E s) = some (.nx (E s')) ∧ I all s'
  | [], pre, s, ha, hs, _ => ⟨s, rfl, by rw [ha, List.append_nil]; exact hs⟩
  | x :: xs, pre, s, ha, hs, h => by
    obtain ⟨s1, e1, h1, h2, h3⟩ := h pre x xs s ha hs
    obtain ⟨s2, g1, g2⟩ := for_inv I xs (pre ++ [x]) s1 (by rw [ha, List.append_assoc]; rfl) h3 h
    exact ⟨s2, by simp only [List.map_cons, forL, h1, h2, g1], g2⟩
end
theorem while_inv {S : Type} {E : S → En} {mc : MD Bool} {mb : MS} (I : S → Prop) (P : S → Prop) (μ : S → Nat) (h : ∀ s, I s → (P s ∧ mc (E s) = some (false, E s)) ∨ ∃ s', mc (E s) = some (true, E s) ∧ mb (E s) = some (.nx (E s')) ∧ I s' ∧ μ s' < μ s) :
    ∀ (n : Nat) (s : S), μ s ≤ n → I s → ∃ s', mWhile mc mb (E s) = some (.nx (E s')) ∧ I s' ∧ P s' := by
  have go : ∀ (n : Nat) (s : S), μ s ≤ n → I s → ∃ s', whileF mc mb (n + 1) (E s) = some (.nx (E s')) ∧ I s' ∧ P s' := by
    intro n
    induction n with
    | zero =>
      intro s hm hs
      rcases h s hs with ⟨h1, h2⟩ | ⟨s', h1, h2, h3, h4⟩
      · exact ⟨s, by simp only [whileF, h2], hs, h1⟩
      · omega
    | succ n ih =>
      intro s hm hs
      rcases h s hs with ⟨h1, h2⟩ | ⟨s', h1, h2, h3, h4⟩
      · exact ⟨s, by rw [whileF, h2], hs, h1⟩
      · obtain ⟨s2, g1, g2, g3⟩ := ih s' (by omega) h3
        refine ⟨s2, ?_, g2, g3⟩
        rw [whileF, h1]
        simp only [h2, g1]
  intro n s hm hs
  obtain ⟨s', h1, h2, h3⟩ := go n s hm hs
  exact ⟨s', mWhile_of h1, h2, h3⟩
abbrev oi (n : Int) : O := .v (.int n)
@[simp] theorem toDs_map {α : Type} {f : α → O} {g : α → PyData} (h : ∀ x, (f x).toD = some (g x)) : ∀ xs : List α, O.toDs (xs.map f) = some (xs.map g)
  | [] => rfl
  | x :: xs => by simp only [List.map_cons, toDs_cons, h, toDs_map h xs]
@[simp] theorem toDs_vs (ds : List PyData) : O.toDs (ds.map .v) = some ds := by
  rw [toDs_map (g := id) fun _ => rfl, List.map_id]
@[simp] theorem toDs_oi (ns : List Int) : O.toDs (ns.map fun n => O.v (.int n)) = some (ns.map .int) := toDs_map (fun _ => rfl) ns
@[simp] theorem asInts_map : ∀ ns : List Int, asInts (ns.map .int) = some ns
  | [] => rfl
  | n :: ns => by simp only [List.map_cons, asInts, asInts_map ns]
@[simp] theorem asBools_map : ∀ ns : List Bool, asBools (ns.map .bool) = some ns
  | [] => rfl
  | n :: ns => by simp only [List.map_cons, asBools, asBools_map ns]
@[simp] theorem asInts_nil : asInts [] = some [] := id rfl
@[simp] theorem asInts_cons (i : Int) (ds : List PyData) : asInts (.int i :: ds) = (match asInts ds with
    | some ns => some (i :: ns)
    | none => none) := id rfl
@[simp] theorem asBools_nil : asBools [] = some [] := id rfl
@[simp] theorem asBools_cons (i : Bool) (ds : List PyData) : asBools (.bool i :: ds) = (match asBools ds with
    | some ns => some (i :: ns)
    | none => none) := id rfl
@[simp] theorem toDs_mapv {α : Type} (g : α → PyData) (xs : List α) : O.toDs (xs.map fun x => O.v (g x)) = some (xs.map g) := toDs_map (fun _ => rfl) xs
@[simp] theorem asInts_mapf {α : Type} (g : α → Int) (xs : List α) : asInts (xs.map fun x => .int (g x)) = some (xs.map g) := by
  have := asInts_map (xs.map g)
  rw [List.map_map] at this
  exact this
@[simp] theorem asBools_mapf {α : Type} (g : α → Bool) (xs : List α) : asBools (xs.map fun x => .bool (g x)) = some (xs.map g) := by
  have := asBools_map (xs.map g)
  rw [List.map_map] at this
  exact this
@[simp] theorem map_ov {α : Type} (g : α → PyData) (xs : List α) : List.map O.v (xs.map g) = xs.map fun x => O.v (g x) := by rw [List.map_map]; rfl
@[simp] theorem comp_ov {α : Type} (g : α → PyData) : (O.v ∘ g) = fun x => O.v (g x) := id rfl
@[simp] theorem toDs_int (ns : List Int) : O.toDs (ns.map fun n => O.v (.int n)) = some (ns.map .int) := toDs_mapv _ _
theorem zipO_map {α β : Type} (f : α → O) (g : β → O) : ∀ (xs : List α) (ys : List β), zipO (xs.map f) (ys.map g) = (xs.zip ys).map fun p => .t [f p.1, g p.2]
  | [], _ => rfl
  | _ :: _, [] => rfl
  | x :: xs, y :: ys => by simp only [List.map_cons, zipO, List.zip_cons_cons, zipO_map f g xs ys]
theorem enuO_map {α : Type} (f : α → O) : ∀ (n : Nat) (xs : List α), enuO n (xs.map f) = (xs.zipIdx n).map fun p => .t [oi (p.2 : Nat), f p.1]
  | _, [] => rfl
  | n, x :: xs => by simp only [List.map_cons, enuO, List.zipIdx_cons, enuO_map f (n + 1) xs]
@[simp] theorem fI2_ap (g : Int → Int → Option PyData) (i j : Int) : fI2 g [.int i, .int j] = g i j := id rfl
@[simp] theorem fI1_ap (g : Int → Option PyData) (i : Int) : fI1 g [.int i] = g i := id rfl
@[simp] theorem fSub_ap (i j : Int) : fSub [.int i, .int j] = some (.int (i - j)) := id rfl
theorem fMod_ap (i j : Int) : fMod [.int i, .int j] = if shut (decide (0 < j)) = true then some (.int (i % j)) else none := id rfl
@[simp] theorem fLt_ap (i j : Int) : fLt [.int i, .int j] = some (.bool (decide (i < j))) := id rfl
@[simp] theorem fLe_ap (i j : Int) : fLe [.int i, .int j] = some (.bool (decide (i ≤ j))) := id rfl
@[simp] theorem fGt_ap (i j : Int) : fGt [.int i, .int j] = some (.bool (decide (j < i))) := id rfl
@[simp] theorem fGe_ap (i j : Int) : fGe [.int i, .int j] = some (.bool (decide (j ≤ i))) := id rfl
@[simp] theorem fNeg_ap (i : Int) : fNeg [.int i] = some (.int (-i)) := id rfl
theorem fDiv_ap (i j : Int) : fDiv [.int i, .int j] = if shut (decide (CDivW i j)) = true then some (.int (i / j)) else none := id rfl
theorem fMul_ap (i j : Int) : fMul [.int i, .int j] = if shut (decide (CMul i j ∨ CMulW i j)) = true then some (.int (i * j)) else none := id rfl
@[simp] theorem fPow_s {i j : Int} (h0 : 0 ≤ j) (h1 : j ≤ 1000000) (h2 : i.natAbs < 18446744073709551616) : fPow [.int i, .int j] = some (.int (i ^ j.toNat)) := by
  show (if shut (decide (CPow i j)) = true then some (PyData.int (i ^ j.toNat)) else none) = _
  rw [shut_eq, if_pos (decide_eq_true ⟨h0, h1, h2⟩)]
@[simp] theorem fMod_s {i j : Int} (h : 0 < j) : fMod [.int i, .int j] = some (.int (i % j)) := by rw [fMod_ap, shut_eq, if_pos (decide_eq_true h)]
@[simp] theorem fDiv_s {i j : Int} (h : 0 < j) (h2 : j < 18446744073709551616) : fDiv [.int i, .int j] = some (.int (i / j)) := by
  rw [fDiv_ap, shut_eq, if_pos]
  refine decide_eq_true ⟨h, Nat.lt_of_lt_of_le ((Nat.log2_lt (by omega)).mpr (show j.natAbs < 2 ^ 64 by omega)) (by decide)⟩
@[simp] theorem fMul_l {i j : Int} (h : -18446744073709551616 < i) (h2 : i < 18446744073709551616) : fMul [.int i, .int j] = some (.int (i * j)) := by
  rw [fMul_ap, shut_eq, if_pos (decide_eq_true (.inl (.inl ⟨h, h2⟩)))]
@[simp] theorem fMul_r {i j : Int} (h : -18446744073709551616 < j) (h2 : j < 18446744073709551616) : fMul [.int i, .int j] = some (.int (i * j)) := by
  rw [fMul_ap, shut_eq, if_pos (decide_eq_true (.inl (.inr ⟨h, h2⟩)))]
@[simp] theorem fMul_ml {a m j : Int} (h : 0 < m) (h2 : m < 18446744073709551616) : fMul [.int (a % m), .int j] = some (.int (a % m * j)) := by
  have h3 := Int.emod_nonneg a (show m ≠ 0 by omega)
  have h4 := Int.emod_lt_of_pos a h
  exact fMul_l (by omega) (by omega)
@[simp] theorem fAll_ap (ds : List PyData) : fAll [.list ds] = (match asBools ds with
    | some ns => some (.bool (ns.all id))
    | _ => none) := id rfl
@[simp] theorem fSum_ap (ds : List PyData) : fSum [.list ds] = (match asInts ds with
    | some ns => some (.int ns.sum)
    | _ => none) := id rfl
@[simp] theorem fLen_l (ds : List PyData) : fLen [.list ds] = some (.int ds.length) := id rfl
@[simp] theorem fLen_t (ds : List PyData) : fLen [.tuple ds] = some (.int ds.length) := id rfl
@[simp] theorem fMax_2 (i j : Int) : fMax [.int i, .int j] = some (.int (if j > i then j else i)) := id rfl
@[simp] theorem fMin_2 (i j : Int) : fMin [.int i, .int j] = some (.int (if j < i then j else i)) := id rfl
@[simp] theorem fMax_l (ds : List PyData) : fMax [.list ds] = (match asInts ds with
    | some (n :: ns) => some (.int (maxL n ns))
    | _ => none) := id rfl
@[simp] theorem fMin_l (ds : List PyData) : fMin [.list ds] = (match asInts ds with
    | some (n :: ns) => some (.int (minL n ns))
    | _ => none) := id rfl
theorem fEq_ap (d e : PyData) : fEq [d, e] = if SeqAt.shaped d && SeqAt.shaped e then some (.bool (PyData.eqv d e)) else none := id rfl
theorem fNe_ap (d e : PyData) : fNe [d, e] = if SeqAt.shaped d && SeqAt.shaped e then some (.bool (!PyData.eqv d e)) else none := id rfl
@[simp] theorem fIsN_ap (d : PyData) : fIsN [d, .none] = some (.bool (isN d)) := id rfl
@[simp] theorem fNotN_ap (d : PyData) : fNotN [d, .none] = some (.bool (!isN d)) := id rfl
@[simp] theorem isN_none : isN .none = true := id rfl
@[simp] theorem isN_int (i : Int) : isN (.int i) = false := id rfl
@[simp] theorem isN_list (ds : List PyData) : isN (.list ds) = false := id rfl
@[simp] theorem isN_tuple (ds : List PyData) : isN (.tuple ds) = false := id rfl
@[simp] theorem isN_str (x : Str) : isN (.str x) = false := id rfl
@[simp] theorem addO_i (i j : Int) : addO [.v (.int i), .v (.int j)] = some (.v (.int (i + j))) := id rfl
@[simp] theorem addO_ll (xs ys : List O) : addO [.l xs, .l ys] = if xs.length + ys.length ≤ sizeLine then some (.l (xs ++ ys)) else none := id rfl
@[simp] theorem addO_vl (xs : List PyData) (ys : List O) : addO [.v (.list xs), .l ys] = if (xs.map O.v).length + ys.length ≤ sizeLine then some (.l (xs.map .v ++ ys)) else none := id rfl
@[simp] theorem addO_lv (xs : List O) (ys : List PyData) : addO [.l xs, .v (.list ys)] = if xs.length + (ys.map O.v).length ≤ sizeLine then some (.l (xs ++ ys.map .v)) else none := id rfl
@[simp] theorem addO_vv (xs ys : List PyData) : addO [.v (.list xs), .v (.list ys)] = if (xs.map O.v).length + (ys.map O.v).length ≤ sizeLine then some (.l (xs.map .v ++ ys.map .v)) else none := id rfl
@[simp] theorem addO_s (a b : Str) : addO [.v (.str a), .v (.str b)] = if a.length + b.length ≤ sizeLine then some (.v (.str (a ++ b))) else none := id rfl
@[simp] theorem lstO_ap (xs : List O) : lstO xs = if xs.length ≤ sizeLine then some (.l xs) else none := id rfl
@[simp] theorem tupO_ap (xs : List O) : tupO xs = if xs.length ≤ sizeLine then (match O.allV xs with
  | some ds => some (.v (.tuple ds))
  | none => some (.t xs)) else none := id rfl
@[simp] theorem allV_nil : O.allV [] = some [] := id rfl
@[simp] theorem allV_v (d : PyData) (xs : List O) : O.allV (.v d :: xs) = (match O.allV xs with
    | some ds => some (d :: ds)
    | none => none) := id rfl
@[simp] theorem allV_l (l xs : List O) : O.allV (.l l :: xs) = none := id rfl
@[simp] theorem allV_t (l xs : List O) : O.allV (.t l :: xs) = none := id rfl
@[simp] theorem allV_map {α : Type} (g : α → PyData) : ∀ xs : List α, O.allV (xs.map fun x => .v (g x)) = some (xs.map g)
  | [] => rfl
  | x :: xs => by rw [List.map_cons, allV_v, allV_map g xs]; rfl
@[simp] theorem listO_l (xs : List O) : listO [.l xs] = if xs.length ≤ sizeLine then some (.l xs) else none := id rfl
@[simp] theorem listO_v (ds : List PyData) : listO [.v (.list ds)] = if (ds.map O.v).length ≤ sizeLine then some (.l (ds.map .v)) else none := id rfl
@[simp] theorem listO_tv (ds : List PyData) : listO [.v (.tuple ds)] = if (ds.map O.v).length ≤ sizeLine then some (.l (ds.map .v)) else none := id rfl
@[simp] theorem tupleO_l (xs : List O) : tupleO [.l xs] = tupO xs := id rfl
@[simp] theorem tupleO_v (ds : List PyData) : tupleO [.v (.list ds)] = tupO (ds.map .v) := id rfl
@[simp] theorem uApp_ap (xs : List O) (y : O) : uApp xs [y] = if xs.length < sizeLine then some (xs ++ [y], .v .none) else none := id rfl
@[simp] theorem uExt_l (xs ys : List O) : uExt xs [.l ys] = if xs.length + ys.length ≤ sizeLine then some (xs ++ ys, .v .none) else none := id rfl
@[simp] theorem uExt_v (xs : List O) (ys : List PyData) : uExt xs [.v (.list ys)] = if xs.length + (ys.map O.v).length ≤ sizeLine then some (xs ++ ys.map .v, .v .none) else none := id rfl
@[simp] theorem uPop0_ap (x : O) (xs : List O) : uPop0 (x :: xs) [.v (.int 0)] = some (xs, x) := id rfl
@[simp] theorem ixO_vl (ds : List PyData) (i : Int) : ixO [.v (.list ds), .v (.int i)] = atI ds i := id rfl
@[simp] theorem ixO_vt (ds : List PyData) (i : Int) : ixO [.v (.tuple ds), .v (.int i)] = atI ds i := id rfl
@[simp] theorem ixO_l (os : List O) (i : Int) : ixO [.l os, .v (.int i)] = (match atI os i with
    | some (.v d) => some d
    | _ => none) := id rfl
@[simp] theorem ixO_t (os : List O) (i : Int) : ixO [.t os, .v (.int i)] = (match atI os i with
    | some (.v d) => some d
    | _ => none) := id rfl
@[simp] theorem sizeLine_eq : sizeLine = 16777216 := by decide
end Dn
namespace Dn
open PySem L2
@[simp] theorem shaped_eq (d : PyData) : SeqAt.shaped d = (d.canLay0 && decide (d.depth ≤ 64)) := id rfl
@[simp] theorem canLay_none : PyData.canLay0 .none = true := id rfl
@[simp] theorem canLay_bool (b : Bool) : PyData.canLay0 (.bool b) = true := id rfl
@[simp] theorem canLay_int (i : Int) : PyData.canLay0 (.int i) = true := id rfl
@[simp] theorem canLay_str (x : Str) : PyData.canLay0 (.str x) = PyData.strOk x := id rfl
@[simp] theorem canLay_list (ds : List PyData) : PyData.canLay0 (.list ds) = ds.all PyData.canLay0 := by
  show PyData.canLayAll0 ds = _
  induction ds with
  | nil => rfl
  | cons d ds ih => show (d.canLay0 && PyData.canLayAll0 ds) = _; rw [ih]; rfl
@[simp] theorem canLay_tuple (ds : List PyData) : PyData.canLay0 (.tuple ds) = ds.all PyData.canLay0 := canLay_list ds
@[simp] theorem depth_none : PyData.depth .none = 0 := id rfl
@[simp] theorem depth_bool (b : Bool) : PyData.depth (.bool b) = 0 := id rfl
@[simp] theorem depth_int (i : Int) : PyData.depth (.int i) = 0 := id rfl
@[simp] theorem depth_str (x : Str) : PyData.depth (.str x) = 0 := id rfl
@[simp] theorem depthAll_le (n : Nat) : ∀ ds : List PyData, PyData.depthAll ds ≤ n ↔ ∀ d ∈ ds, d.depth ≤ n
  | [] => by simp [PyData.depthAll]
  | d :: ds => by
    have ih := depthAll_le n ds
    show max (PyData.depth d) (PyData.depthAll ds) ≤ n ↔ _
    simp only [List.mem_cons, forall_eq_or_imp, ← ih]
    omega
@[simp] theorem depth_list (n : Nat) (ds : List PyData) : PyData.depth (.list ds) ≤ n + 1 ↔ ∀ d ∈ ds, d.depth ≤ n := by
  show PyData.depthAll ds + 1 ≤ n + 1 ↔ _
  rw [← depthAll_le]; omega
@[simp] theorem depth_tuple (n : Nat) (ds : List PyData) : PyData.depth (.tuple ds) ≤ n + 1 ↔ ∀ d ∈ ds, d.depth ≤ n := depth_list n ds
def nb : PyData → Nat → Bool
  | .none, _ => true
  | .int _, _ => true
  | .str x, _ => PyData.strOk x
  | .list ds, n + 1 => ds.attach.all fun d => nb d.1 n
  | .tuple ds, n + 1 => ds.attach.all fun d => nb d.1 n
  | _, _ => false
@[simp] theorem nb_none (n : Nat) : nb .none n = true := by unfold nb; rfl
@[simp] theorem nb_int (i : Int) (n : Nat) : nb (.int i) n = true := by unfold nb; rfl
@[simp] theorem nb_str (x : Str) (n : Nat) : nb (.str x) n = PyData.strOk x := by unfold nb; rfl
@[simp] theorem nb_list (ds : List PyData) (n : Nat) : nb (.list ds) (n + 1) = ds.all fun d => nb d n := by
  rw [nb]
  simp [List.all_eq, List.attach]
@[simp] theorem nb_tuple (ds : List PyData) (n : Nat) : nb (.tuple ds) (n + 1) = ds.all fun d => nb d n := by
  rw [nb]
  simp [List.all_eq, List.attach]
theorem nb_shape : ∀ (n : Nat) (d : PyData), nb d n = true → d.canLay0 = true ∧ d.depth ≤ n
  | n, .none, _ => ⟨rfl, Nat.zero_le _⟩
  | n, .int i, _ => ⟨rfl, Nat.zero_le _⟩
  | n, .str x, h => ⟨by simpa using h, Nat.zero_le _⟩
  | 0, .list ds, h => by simp [nb] at h
  | 0, .tuple ds, h => by simp [nb] at h
  | n + 1, .list ds, h => by
    rw [nb_list, List.all_eq_true] at h
    refine ⟨?_, (depth_list n ds).mpr fun d hd => (nb_shape n d (h d hd)).2⟩
    rw [canLay_list, List.all_eq_true]
    exact fun d hd => (nb_shape n d (h d hd)).1
  | n + 1, .tuple ds, h => by
    rw [nb_tuple, List.all_eq_true] at h
    refine ⟨?_, (depth_tuple n ds).mpr fun d hd => (nb_shape n d (h d hd)).2⟩
    rw [canLay_tuple, List.all_eq_true]
    exact fun d hd => (nb_shape n d (h d hd)).1
  | n, .bool b, h => by cases n <;> simp [nb] at h
  | n, .dict _, h => by cases n <;> simp [nb] at h
theorem eqvAll_iff {n : Nat} (ih : ∀ d e : PyData, nb d n = true → nb e n = true → (PyData.eqv d e = true ↔ d = e)) : ∀ ds es : List PyData, (∀ d ∈ ds, nb d n = true) → (∀ d ∈ es, nb d n = true) → (PyData.eqvAll ds es = true ↔ ds = es)
  | [], [], _, _ => by simp [PyData.eqvAll]
  | [], _ :: _, _, _ => by simp [PyData.eqvAll]
  | _ :: _, [], _, _ => by simp [PyData.eqvAll]
  | d :: ds, e :: es, h1, h2 => by
    have i1 := ih d e (h1 d (List.mem_cons_self ..)) (h2 e (List.mem_cons_self ..))
    have i2 := eqvAll_iff ih ds es (fun x hx => h1 x (List.mem_cons_of_mem _ hx)) (fun x hx => h2 x (List.mem_cons_of_mem _ hx))
    simp only [PyData.eqvAll, Bool.and_eq_true, i1, i2, List.cons.injEq]
theorem eqv_iff : ∀ (n : Nat) (d e : PyData), nb d n = true → nb e n = true → (PyData.eqv d e = true ↔ d = e)
  | n, .none, e, _, h2 => by cases e <;> simp [PyData.eqv]
  | n, .int i, e, _, h2 => by cases e <;> simp [PyData.eqv]; simp [nb] at h2
  | n, .str x, e, _, h2 => by cases e <;> simp [PyData.eqv]
  | 0, .list ds, e, h, _ => by simp [nb] at h
  | 0, .tuple ds, e, h, _ => by simp [nb] at h
  | n + 1, .list ds, e, h1, h2 => by
    cases e with
    | list es =>
      rw [nb_list, List.all_eq_true] at h1 h2
      have := eqvAll_iff (eqv_iff n) ds es h1 h2
      simp only [PyData.eqv, this, PyData.list.injEq]
    | _ => simp [PyData.eqv]
  | n + 1, .tuple ds, e, h1, h2 => by
    cases e with
    | tuple es =>
      rw [nb_tuple, List.all_eq_true] at h1 h2
      have := eqvAll_iff (eqv_iff n) ds es h1 h2
      simp only [PyData.eqv, this, PyData.tuple.injEq]
    | _ => simp [PyData.eqv]
  | n, .bool b, _, h, _ => by cases n <;> simp [nb] at h
  | n, .dict _, _, h, _ => by cases n <;> simp [nb] at h
theorem fEq_nb {d e : PyData} (n : Nat) (hn : n ≤ 64) (h1 : nb d n = true) (h2 : nb e n = true) [Decidable (d = e)] : fEq [d, e] = some (.bool (decide (d = e))) := by
  obtain ⟨a1, a2⟩ := nb_shape n d h1
  obtain ⟨b1, b2⟩ := nb_shape n e h2
  have : PyData.eqv d e = decide (d = e) := by
    rw [Bool.eq_iff_iff, eqv_iff n d e h1 h2, decide_eq_true_eq]
  simp [fEq_ap, fNe_ap, a1, b1, this, Nat.le_trans a2 hn, Nat.le_trans b2 hn]
theorem fNe_nb {d e : PyData} (n : Nat) (hn : n ≤ 64) (h1 : nb d n = true) (h2 : nb e n = true) [Decidable (d = e)] : fNe [d, e] = some (.bool (!decide (d = e))) := by
  obtain ⟨a1, a2⟩ := nb_shape n d h1
  obtain ⟨b1, b2⟩ := nb_shape n e h2
  have : PyData.eqv d e = decide (d = e) := by
    rw [Bool.eq_iff_iff, eqv_iff n d e h1 h2, decide_eq_true_eq]
  simp [fEq_ap, fNe_ap, a1, b1, this, Nat.le_trans a2 hn, Nat.le_trans b2 hn]
theorem fNe_same {d : PyData} (n : Nat) (hn : n ≤ 64) (h1 : nb d n = true) : fNe [d, d] = some (.bool false) := by
  obtain ⟨a1, a2⟩ := nb_shape n d h1
  have : PyData.eqv d d = true := (eqv_iff n d d h1 h1).mpr rfl
  simp [fEq_ap, fNe_ap, a1, this, Nat.le_trans a2 hn]
theorem fEq_same {d : PyData} (n : Nat) (hn : n ≤ 64) (h1 : nb d n = true) : fEq [d, d] = some (.bool true) := by
  obtain ⟨a1, a2⟩ := nb_shape n d h1
  have : PyData.eqv d d = true := (eqv_iff n d d h1 h1).mpr rfl
  simp [fEq_ap, fNe_ap, a1, this, Nat.le_trans a2 hn]
theorem map_int_inj (a b : List Int) : a.map PyData.int = b.map PyData.int ↔ a = b :=
  ⟨fun h => by
    have := congrArg asInts h
    simpa using this, fun h => by rw [h]⟩
@[simp] theorem fEq_ints (a b : List Int) : fEq [.list (a.map .int), .list (b.map .int)] = some (.bool (decide (a = b))) := by
  have : Decidable (PyData.list (a.map .int) = .list (b.map .int)) := decidable_of_iff (a = b) (by simp [map_int_inj])
  rw [fEq_nb 1 (by decide) (by simp) (by simp)]
  simp [map_int_inj]
@[simp] theorem fNe_ints (a b : List Int) : fNe [.list (a.map .int), .list (b.map .int)] = some (.bool (!decide (a = b))) := by
  have : Decidable (PyData.list (a.map .int) = .list (b.map .int)) := decidable_of_iff (a = b) (by simp [map_int_inj])
  rw [fNe_nb 1 (by decide) (by simp) (by simp)]
  simp [map_int_inj]
@[simp] theorem fEq_nil (a : List Int) : fEq [.list (a.map .int), .list []] = some (.bool (decide (a = []))) := fEq_ints a []
@[simp] theorem fNe_nil (a : List Int) : fNe [.list (a.map .int), .list []] = some (.bool (!decide (a = []))) := fNe_ints a []
@[simp] theorem fEq_i (i j : Int) : fEq [.int i, .int j] = some (.bool (decide (i = j))) := by simp [fEq_ap, PyData.eqv]; rfl
@[simp] theorem fNe_i (i j : Int) : fNe [.int i, .int j] = some (.bool (!decide (i = j))) := by simp [fNe_ap, PyData.eqv]; rfl
@[simp] theorem fEq_b (i j : Bool) : fEq [.bool i, .bool j] = some (.bool (i == j)) := by simp [fEq_ap, PyData.eqv]
@[simp] theorem fNe_b (i j : Bool) : fNe [.bool i, .bool j] = some (.bool (!(i == j))) := by simp [fNe_ap, PyData.eqv]
@[simp] theorem atI_map {α β : Type} (f : α → β) (xs : List α) (i : Int) : atI (xs.map f) i = (atI xs i).map f := by
  unfold atI
  rw [List.length_map]
  cases ixN xs.length i with
  | none => rfl
  | some j => simp
theorem atI_nat {α : Type} {xs : List α} {i : Int} {j : Nat} {x : α} (h0 : i = (j : Int)) (h : xs[j]? = some x) : atI xs i = some x := by
  subst h0
  have hj := (List.getElem?_eq_some_iff.mp h).1
  unfold atI ixN
  rw [if_pos (Int.natCast_nonneg j), if_pos (by omega)]
  simpa using h
theorem atI_in {α : Type} (xs : List α) {i : Int} (h0 : 0 ≤ i) (h1 : i < xs.length) : ∃ x, atI xs i = some x ∧ xs[i.toNat]? = some x := by
  have hj : i.toNat < xs.length := by omega
  refine ⟨xs[i.toNat], ?_, List.getElem?_eq_getElem hj⟩
  exact atI_nat (j := i.toNat) (by omega) (List.getElem?_eq_getElem hj)
theorem ixN_in {n : Nat} {i : Int} (h0 : 0 ≤ i) (h1 : i < n) : ixN n i = some i.toNat := by
  unfold ixN
  rw [if_pos h0, if_pos h1]
@[simp] theorem atI_0 {α : Type} (x : α) (xs : List α) : atI (x :: xs) 0 = some x := atI_nat (j := 0) rfl rfl
@[simp] theorem atI_1 {α : Type} (x y : α) (xs : List α) : atI (x :: y :: xs) 1 = some y := atI_nat (j := 1) rfl rfl
@[simp] theorem atI_2 {α : Type} (x y z : α) (xs : List α) : atI (x :: y :: z :: xs) 2 = some z := atI_nat (j := 2) rfl rfl
@[simp] theorem atI_3 {α : Type} (x y z u : α) (xs : List α) : atI (x :: y :: z :: u :: xs) 3 = some u := atI_nat (j := 3) rfl rfl
theorem rng_map (lo : Int) (n : Nat) : rngO lo n = (List.range n).map fun (k : Nat) => O.v (.int (lo + (k : Int))) := id rfl
@[simp] theorem rng0 (n : Nat) : rngO 0 n = (List.range n).map fun (k : Nat) => O.v (.int (k : Int)) := by
  rw [rng_map]
  simp
@[simp] theorem rngO_len (lo : Int) (n : Nat) : (rngO lo n).length = n := by simp [rng_map]
@[simp] theorem toDs_append : ∀ xs ys : List O, O.toDs (xs ++ ys) = (match O.toDs xs, O.toDs ys with
    | some a, some b => some (a ++ b)
    | _, _ => none)
  | [], ys => by
    rw [List.nil_append, toDs_nil]
    cases O.toDs ys <;> rfl
  | x :: xs, ys => by
    rw [List.cons_append, toDs_cons, toDs_cons, toDs_append xs ys]
    cases O.toD x <;> cases O.toDs xs <;> cases O.toDs ys <;> rfl
@[simp] theorem allV_append : ∀ xs ys : List O, O.allV (xs ++ ys) = (match O.allV xs, O.allV ys with
    | some a, some b => some (a ++ b)
    | _, _ => none)
  | [], ys => by
    rw [List.nil_append, allV_nil]
    cases O.allV ys <;> rfl
  | x :: xs, ys => by
    rw [List.cons_append]
    cases x with
    | v d =>
      rw [allV_v, allV_v, allV_append xs ys]
      cases O.allV xs <;> cases O.allV ys <;> rfl
    | _ => rfl
theorem atI_getD {α : Type} (xs : List α) (d : α) {k : Nat} (h : k < xs.length) : atI xs (k : Int) = some (xs.getD k d) :=
  atI_nat rfl (by rw [List.getD_eq_getElem?_getD, List.getElem?_eq_getElem h]; rfl)
theorem range_zip {α β γ : Type} (f : α → β → γ) (w : List α) (c : List β) (x : α) (y : β) {n : Nat} (hw : w.length = n) (hc : c.length = n) : (List.range n).map (fun k => f (w.getD k x) (c.getD k y)) = (w.zip c).map fun p => f p.1 p.2 := by
  apply List.ext_getElem
  · simp [hw, hc]
  · intro i h1 h2
    simp at h1
    simp [List.getD_eq_getElem?_getD, hw, hc, h1]
theorem set_no {e : En} {i : Nat} {x : Sl} (hi : e[i]? = some .no) : (e.set i x).set i .no = e := by
  rw [List.set_set, set_self hi]
theorem set_get {e : En} {i : Nat} {x s : Sl} (hi : e[i]? = some s) : (e.set i x)[i]? = some x := List.getElem?_set_self (List.getElem?_eq_some_iff.mp hi).1
theorem lc_map1 {α : Type} {i : Nat} {me : MD O} {enc f : α → O} {e : En} (hi : e[i]? = some .no) (xs : List α) (h : ∀ x ∈ xs, ∀ e' : En, e'[i]? = some (.own (enc x)) → (∀ j, ¬ j = i → e'[j]? = e[j]?) → me e' = some (f x, e')) : lcL (.n i) mYes me [i] (xs.map enc) e = some (xs.map f, e) := by
  refine lc_map xs fun x hx => ⟨e.set i (.own (enc x)), _, _, ?_, rfl, h x hx _ (set_get hi) (fun j hj => List.getElem?_set_ne fun z => hj z.symm), ?_⟩
  · simp [hi]
  · exact set_no hi
theorem lc_filter1 {α : Type} {i : Nat} {mt : MD Bool} {me : MD O} {enc f : α → O} {p : α → Bool} {e : En} (hi : e[i]? = some .no) (xs : List α) (h : ∀ x ∈ xs, ∀ e' : En, e'[i]? = some (.own (enc x)) → (∀ j, ¬ j = i → e'[j]? = e[j]?) → mt e' = some (p x, e') ∧ (p x = true → me e' = some (f x, e'))) : lcL (.n i) mt me [i] (xs.map enc) e = some ((xs.filter p).map f, e) := by
  refine lc_filter xs fun x hx => ?_
  obtain ⟨h1, h2⟩ := h x hx (e.set i (.own (enc x))) (set_get hi) (fun j hj => List.getElem?_set_ne fun z => hj z.symm)
  refine ⟨e.set i (.own (enc x)), e.set i (.own (enc x)), e.set i (.own (enc x)), ?_, h1, fun hp => ⟨h2 hp, set_no hi⟩, fun _ => set_no hi⟩
  simp [hi]
def reps (n : Nat) (x : Int) : List Int := List.replicate n x
theorem reps_eq {α : Type} (w : List α) (x : Int) : (w.map fun _ => x) = reps w.length x := by
  unfold reps
  induction w with
  | nil => rfl
  | cons a w ih => rw [List.map_cons, ih]; rfl
@[simp] theorem reps_len (n : Nat) (x : Int) : (reps n x).length = n := by simp [reps]
@[simp] theorem rep_oi {x n : Int} (h0 : 0 ≤ n) (h : n < 1000) : repO [.l [.v (.int x)], .v (.int n)] = some (.l ((reps n.toNat x).map oi)) := by
  have e : (List.replicate n.toNat [PyData.int x]).flatten.map O.v = (reps n.toNat x).map oi := by
    unfold reps
    induction n.toNat with
    | zero => rfl
    | succ k ih => rw [List.replicate_succ, List.flatten_cons, List.map_append, ih]; rfl
  rw [repO_eq]
  show (if -(2 ^ 63) ≤ n ∧ n < 2 ^ 63 ∧ 1 * n.toNat ≤ sizeLine then some (O.l ((List.replicate n.toNat [PyData.int x]).flatten.map .v)) else none) = _
  rw [e, if_pos ⟨by omega, by omega, by rw [sizeLine_eq]; omega⟩]
theorem ixN_nat {n k : Nat} (h : k < n) : ixN n (k : Int) = some k := by
  rw [ixN_in (by omega) (by omega)]; simp
theorem atK_l {xs : List O} {k : Nat} {x : O} {ks : List Int} (h : xs[k]? = some x) : atK (.l xs) ((k : Int) :: ks) = atK x ks := by
  have hk := (List.getElem?_eq_some_iff.mp h).1
  show (match ixN xs.length (k : Int) with | some j => (match xs[j]? with | some x => atK x ks | none => none) | none => none) = _
  rw [ixN_nat hk]
  simp only [h]
theorem atK_t {xs : List O} {k : Nat} {x : O} {ks : List Int} (h : xs[k]? = some x) : atK (.t xs) ((k : Int) :: ks) = atK x ks := atK_l h
@[simp] theorem setK_nil (xs ys : List O) : setK (.l xs) [] ys = some (.l ys) := id rfl
end Dn
namespace Dn
open PySem L2
section
variable {m a b : MD O} {ms : MD (List O)} {c c' : MD Bool} {t u : MS} {e : En} {i : Nat} {f : List PyData → Option PyData}
@[simp] theorem mDnT_ap : mDnT e = some (.dt [], e) := id rfl
@[simp] theorem mDget_ap {mk : MD O} : mDget i mk e = (match (e[i]?).bind Sl.o? with
  | some _ => (match mk e with
    | some (.v d, e1) => (match (e1[i]?).bind Sl.o? with
      | some x => (match dgetO x d with
        | some (some z) => some (.v z, e1)
        | _ => none)
      | none => none)
    | _ => none)
  | none => none) := id rfl
@[simp] theorem mDput_ap {mv mk : MD O} : mDput i mv mk e = (match mv e with
  | some (.v d, e1) => (match (e1[i]?).bind Sl.o? with
    | some _ => (match mk e1 with
      | some (.v yd, e2) => (match e2[i]? with
        | some (.own x) => (match dputO x yd d with
          | some x' => some (.nx (e2.set i (.own x')))
          | none => none)
        | some (.pin x) => (match dputO x yd d with
          | some x' => some (.nx (e2.set i (.pin x')))
          | none => none)
        | _ => none)
      | _ => none)
    | none => none)
  | _ => none) := id rfl
@[simp] theorem mDgetE_ap {mk : MD O} : mDgetE m mk e = (match m e with
  | some (x, e1) => (match mk e1 with
    | some (.v d, e2) => (match dgetO x d with
      | some (some z) => some (.v z, e2)
      | _ => none)
    | _ => none)
  | none => none) := id rfl
@[simp] theorem mPeek_ap {vs : List Nat} : mPeek vs m e = (match m (pkIn e vs) with
  | some (x, _) => if x.free then some (x, e) else none
  | none => none) := id rfl
@[simp] theorem mPeekT_ap {vs : List Nat} : mPeekT vs c e = (match c (pkIn e vs) with
  | some (x, _) => some (x, e)
  | none => none) := id rfl
@[simp] theorem mForS_ap {tg : Tg} : mForS i tg t e = (match e[i]? with
  | some s => (match s.o? with
    | some (.l xs) => (match forS i tg t xs.length 0 (e.set i (pinS s)) with
      | some (.nx e2) => (match unpin e e2 i with
        | some e3 => some (.nx e3)
        | none => none)
      | some (.rt y e2) => (match unpin e e2 i with
        | some e3 => some (.rt y e3)
        | none => none)
      | _ => none)
    | _ => none)
  | none => none) := id rfl
end
@[simp] theorem pinS_own (o : O) : pinS (.own o) = .pin o := id rfl
@[simp] theorem pinS_pin (o : O) : pinS (.pin o) = .pin o := id rfl
@[simp] theorem pinsLike_nil (e0 : En) : pinsLike e0 [] = true := by cases e0 <;> rfl
@[simp] theorem pinsLike_no (s0 : Sl) (e0 e : En) : pinsLike (s0 :: e0) (.no :: e) = pinsLike e0 e := by cases s0 <;> simp [pinsLike]
@[simp] theorem pinsLike_own (s0 : Sl) (o : O) (e0 e : En) : pinsLike (s0 :: e0) (.own o :: e) = pinsLike e0 e := by cases s0 <;> simp [pinsLike]
@[simp] theorem pinsLike_pin (o o' : O) (e0 e : En) : pinsLike (.pin o' :: e0) (.pin o :: e) = pinsLike e0 e := by simp [pinsLike]
theorem unpin_ap (e0 e : En) (i : Nat) : unpin e0 e i = (match e0[i]?, e[i]? with
  | some (.own _), some (.pin o) => if pinsLike e0 (e.set i (.own o)) then some (e.set i (.own o)) else none
  | some (.pin _), some (.pin _) => if pinsLike e0 e then some e else none
  | _, _ => none) := id rfl
theorem pkIn_eq (e : En) (vs : List Nat) : pkIn e vs = onlyFz (frz (e.map fun s => match s with | .pin o => .own o | s => s) vs) := id rfl
@[simp] theorem onlyFz_nil : onlyFz [] = [] := id rfl
@[simp] theorem onlyFz_v (d : PyData) (e : En) : onlyFz (.own (.v d) :: e) = .own (.v d) :: onlyFz e := id rfl
@[simp] theorem onlyFz_s (d : List Int) (e : En) : onlyFz (.own (.s d) :: e) = .own (.s d) :: onlyFz e := id rfl
@[simp] theorem onlyFz_no (e : En) : onlyFz (.no :: e) = .no :: onlyFz e := id rfl
@[simp] theorem onlyFz_l (xs : List O) (e : En) : onlyFz (.own (.l xs) :: e) = .no :: onlyFz e := id rfl
@[simp] theorem onlyFz_t (xs : List O) (e : En) : onlyFz (.own (.t xs) :: e) = .no :: onlyFz e := id rfl
@[simp] theorem onlyFz_dt (xs : List (List Key × PyData)) (e : En) : onlyFz (.own (.dt xs) :: e) = .no :: onlyFz e := id rfl
@[simp] theorem onlyFz_dk (xs : List (Key × PyData)) (e : En) : onlyFz (.own (.dk xs) :: e) = .no :: onlyFz e := id rfl
@[simp] theorem free_v (d : PyData) : O.free (.v d) = scal d := by unfold O.free; rfl
@[simp] theorem free_l (xs : List O) : O.free (.l xs) = xs.all O.free := by
  unfold O.free
  induction xs with
  | nil => unfold O.freeAll; rfl
  | cons x xs ih => unfold O.freeAll; rw [ih, List.all_cons]
@[simp] theorem free_t (xs : List O) : O.free (.t xs) = xs.all O.free := by
  have := free_l xs
  unfold O.free at this ⊢
  exact this
@[simp] theorem free_dt (kvs : List (List Key × PyData)) : O.free (.dt kvs) = kvs.all fun kv => scal kv.2 := by unfold O.free; rfl
@[simp] theorem free_dk (kvs : List (Key × PyData)) : O.free (.dk kvs) = kvs.all fun kv => scal kv.2 := by unfold O.free; rfl
@[simp] theorem scal_int (i : Int) : scal (.int i) = true := id rfl
@[simp] theorem scal_none : scal .none = true := id rfl
@[simp] theorem scal_bool (b : Bool) : scal (.bool b) = true := id rfl
@[simp] theorem scal_str (x : Str) : scal (.str x) = true := id rfl
theorem keysD_ints : ∀ ns : List Int, keysD (ns.map .int) = some (ns.map Sum.inl)
  | [] => rfl
  | n :: ns => by
    show (match keyD (.int n), keysD (ns.map .int) with | some k, some ks => some (k :: ks) | _, _ => none) = _
    rw [keysD_ints ns]; rfl
def keyI (ns : List Int) : List Key := ns.map Sum.inl
theorem keyI_inj {a b : List Int} (h : keyI a = keyI b) : a = b := by
  unfold keyI at h
  exact (List.map_inj_right (f := (Sum.inl : Int → Key)) fun x y h => by cases h; rfl).mp h
@[simp] theorem dgetO_t (kvs : List (List Key × PyData)) (ns : List Int) : dgetO (.dt kvs) (.tuple (ns.map .int)) = some (dval kvs (keyI ns)) := by
  show (match keysD (ns.map .int) with | some k => some (dval kvs k) | none => none) = _
  rw [keysD_ints]; rfl
@[simp] theorem dputO_t (kvs : List (List Key × PyData)) (ns : List Int) (d : PyData) : dputO (.dt kvs) (.tuple (ns.map .int)) d = if kvs.length < sizeLine then some (.dt (dput kvs (keyI ns) d)) else none := by
  show (match keysD (ns.map .int) with | some k => if kvs.length < sizeLine then some (O.dt (dput kvs k d)) else none | none => none) = _
  rw [keysD_ints]; rfl
def tabD {α : Type} (enc : α → PyData) (t : List (List Int × α)) : List (List Key × PyData) := t.map fun p => (keyI p.1, enc p.2)
def tabGet {α : Type} (t : List (List Int × α)) (k : List Int) : Option α := (t.find? fun p => decide (p.1 = k)).map (·.2)
theorem dval_tab {α : Type} (enc : α → PyData) (k : List Int) : ∀ t : List (List Int × α), dval (tabD enc t) (keyI k) = (tabGet t k).map enc
  | [] => rfl
  | (a, v) :: t => by
    unfold dval tabGet
    rw [tabD, List.map_cons, List.find?_cons, List.find?_cons]
    by_cases h : a = k
    · simp [h]
    · have : ¬ keyI a = keyI k := fun z => h (keyI_inj z)
      simp only [h, this, decide_false]
      have := dval_tab enc k t
      unfold dval tabGet tabD at this
      exact this
theorem dput_tab {α : Type} (enc : α → PyData) (k : List Int) (v : α) (t : List (List Int × α)) (h : ∀ p ∈ t, p.1 ≠ k) : dput (tabD enc t) (keyI k) (enc v) = tabD enc (t ++ [(k, v)]) := by
  have : ((tabD enc t).any fun kv => decide (kv.1 = keyI k)) = false := by
    rw [List.any_eq_false]
    intro p hp
    obtain ⟨q, hq, rfl⟩ := List.mem_map.mp hp
    simp only [decide_eq_true_eq]
    exact fun z => h q hq (keyI_inj z)
  unfold dput
  rw [this]
  simp [tabD]
theorem tabGet_mem {α : Type} {t : List (List Int × α)} {k : List Int} (h : k ∈ t.map (·.1)) : ∃ v, tabGet t k = some v ∧ (k, v) ∈ t := by
  induction t with
  | nil => simp at h
  | cons p t ih =>
    unfold tabGet
    rw [List.find?_cons]
    by_cases e : p.1 = k
    · simp only [e, decide_true, Option.map_some]
      exact ⟨_, rfl, by rw [← e]; exact List.mem_cons_self ..⟩
    · simp only [e, decide_false]
      rcases List.mem_cons.mp h with h | h
      · exact absurd h.symm e
      · obtain ⟨v, h1, h2⟩ := ih h
        exact ⟨v, h1, List.mem_cons_of_mem _ h2⟩
theorem forS_fold {α S : Type} {i : Nat} {tg : Tg} {body : MS} {enc : α → PyData} {E : S → En} {step : S → α → S} {I : S → Prop} (all : List α) (hs : ∀ x ∈ all, scal (enc x) = true) (hE : ∀ s, (E s)[i]? = some (.pin (.l (all.map fun x => .v (enc x))))) (h : ∀ x ∈ all, ∀ s, I s → I (step s x) ∧ ∃ e1, asg tg (.v (enc x)) (E s) = some e1 ∧ body e1 = some (.nx (E (step s x)))) :
    ∀ (xs : List α) (j : Nat) (s : S), all.drop j = xs → I s → forS i tg body xs.length j (E s) = some (.nx (E (xs.foldl step s))) ∧ I (xs.foldl step s)
  | [], j, s, hd, hI => by
    refine ⟨?_, hI⟩
    have hl : all.length ≤ j := by
      have := congrArg List.length hd
      simp at this; omega
    show (match (E s)[i]? with | some (.pin (.l xs)) => if xs.length ≤ j then some (Oc.nx (E s)) else none | _ => none) = _
    rw [hE s]
    simp [hl]
  | x :: xs, j, s, hd, hI => by
    have hj : all[j]? = some x := by
      have : (all.drop j)[0]? = some x := by rw [hd]; rfl
      rw [List.getElem?_drop] at this
      simpa using this
    have hx : x ∈ all := List.mem_of_getElem? hj
    have hd2 : all.drop (j + 1) = xs := by
      rw [← List.drop_drop, hd]; rfl
    obtain ⟨h1, e1, h2, h3⟩ := h x hx s hI
    obtain ⟨ih1, ih2⟩ := forS_fold all hs hE h xs (j + 1) (step s x) hd2 h1
    refine ⟨?_, ih2⟩
    show (match (E s)[i]? with | some (.pin (.l ys)) => (match ys[j]? with | some (.v d) => if scal d then (match asg tg (.v d) (E s) with | some e1 => (match body e1 with | some (.nx e2) => forS i tg body xs.length (j + 1) e2 | some (.ct e2) => forS i tg body xs.length (j + 1) e2 | some (.bk e2) => some (.nx e2) | some (.rt y e2) => some (.rt y e2) | none => none) | none => none) else none | _ => none) | _ => none) = _
    rw [hE s]
    simp only [List.getElem?_map, hj, Option.map_some, hs x hx, if_true, h2, h3, ih1]
    rfl
end Dn
namespace Dn
open PySem L2
section
variable {e : En} {x y : MX} {m : MS}
@[simp] theorem mNo_ap : mNo e = none := id rfl
@[simp] theorem fin_none (br : List Bool) : fin br none = none := id rfl
end
@[simp] theorem place_ne : ("place" : Str) = "" ↔ False := by simp only [iff_false]; decide +kernel
@[simp] theorem row_ne : ("row" : Str) = "" ↔ False := by simp only [iff_false]; decide +kernel
variable {α : Type} {tg : Tg} {body : MS} {bx : MX}
end Dn
namespace Dn
open PySem L2
section
variable {m mk mv : MD O} {ms : MD (List O)} {e : En} {i : Nat} {c f : Str} {rs : List Nat} {sem : Sem1}
@[simp] theorem like_own (o o' : O) : Sl.like (.own o) o' = .own o' := id rfl
@[simp] theorem like_pin (o o' : O) : Sl.like (.pin o) o' = .pin o' := id rfl
end
end Dn
namespace Dn
open PySem L2
section
variable {m : MD O} {e : En} {i : Nat}
@[simp] theorem onlyFz_ob (c : Str) (ns : List Str) (xs : List O) (e : En) : onlyFz (.own (.ob c ns xs) :: e) = .no :: onlyFz e := id rfl
end
end Dn
namespace Dn
open PySem L2
noncomputable section
def m__law_pop : MS := (mSeq (mIf (mT (mL fEq (lSee 0 (lCons (mA lstO aNil) lNil)))) (mSeq (mRet (mC (.int 0))) mNil) mNil) (mSeq (mRet (mUp 0 (aCons (mC (.int 0)) aNil) uPop0)) mNil))
def sem__law_pop : Sem1 := runF 1 [true] m__law_pop
theorem un__law_pop (x0 : O) : sem__law_pop [x0] = fin [true] (m__law_pop [.pin x0]) := id rfl
def ce_rest_1 : MD O := (mL fMax (lCons (mC (.int 0)) (lCons (mL fSub (lSee 2 (lSee 3 lNil))) lNil)))
def m_rest : MS := (mSeq (mRet (mLc (iZ (aCons (mVar 0) (aCons (mVar 1) aNil))) (.tp [(.n 2), (.n 3)]) mYes ce_rest_1 [2, 3])) mNil)
def sem_rest : Sem1 := runF 4 (List.replicate 2 false) m_rest
theorem un_rest (x0 x1 : O) : sem_rest [x0, x1] = fin (List.replicate 2 false) (m_rest [.own x0, .own x1, .no, .no]) := id rfl
def ce_lesser_1 : MD O := (mA addO (aCons (mVar 4) (aCons (mA lstO (aCons (mVar 5) aNil)) aNil)))
def b_lesser_1 : MS := (mSeq (mDrop (mUp 3 (aCons (mLc (mFrzE [4] (iR1 (lCons (mA addO (aCons (mVar 2) (aCons (mC (.int 1)) aNil))) lNil))) (.n 5) mYes ce_lesser_1 [5]) aNil) uExt)) (mSeq (mKill [4]) mNil))
def b_lesser_2 : MS := (mSeq (mSet 3 (mA lstO aNil)) (mSeq (mFor (mFrzE [2] (iL (mVar 1))) (.n 4) b_lesser_1) (mSeq (mKill [4]) (mSeq (mSet 1 (mMv 3)) (mSeq (mKill [2, 3, 4]) mNil)))))
def m_lesser : MS := (mSeq (mSet 1 (mA lstO (aCons (mA lstO aNil) aNil))) (mSeq (mFor (iL (mVar 0)) (.n 2) b_lesser_2) (mSeq (mKill [2, 3, 4]) (mSeq (mRet (mMv 1)) mNil))))
def sem_lesser : Sem1 := runF 6 (List.replicate 1 false) m_lesser
theorem un_lesser (x0 : O) : sem_lesser [x0] = fin (List.replicate 1 false) (m_lesser [.own x0, .no, .no, .no, .no, .no]) := id rfl
def ce_tiers_right_1 : MD O := (mVar 2)
def ce_tiers_right_2 : MD O := (mL fLt (lCons (mLk ixO (lSee 1 (lSee 4 lNil))) (lCons (mLk ixO (lSee 1 (lCons (mA addO (aCons (mVar 4) (aCons (mC (.int 1)) aNil))) lNil))) lNil)))
def m_tiers_right : MS := (mSeq (mSet 1 (mFz (mLc (iL (mVar 0)) (.tp [(.n 2), (.n 3)]) mYes ce_tiers_right_1 [2, 3]))) (mSeq (mIf (tOrM (mT (mL fNe (lCons (mSl (mVar 1) oNone (oSome (mC (.int 1)))) (lCons (mA lstO (aCons (mC (.int 1)) aNil)) lNil)))) (tOrM (mT (mL fGt (lCons (mL fLen (lSee 1 lNil)) (lCons (mC (.int 4)) lNil)))) (mT (mL fGt (lCons (mLk ixO (lSee 1 (lCons (mL fNeg (lCons (mC (.int 1)) lNil)) lNil))) (lCons (mC (.int 12)) lNil)))))) (mSeq (mRet (mC (.bool false))) mNil) mNil) (mSeq (mRet (mL fAll (lCons (mLc (iR1 (lCons (mL fSub (lCons (mL fLen (lSee 1 lNil)) (lCons (mC (.int 1)) lNil))) lNil)) (.n 4) mYes ce_tiers_right_2 [4]) lNil))) mNil)))
def sem_tiers_right : Sem1 := runF 5 (List.replicate 1 false) m_tiers_right
theorem un_tiers_right (x0 : O) : sem_tiers_right [x0] = fin (List.replicate 1 false) (m_tiers_right [.own x0, .no, .no, .no, .no]) := id rfl
def b_look_1 : MS := (mSeq (mSet 3 (mC (.bool true))) (mSeq (mIf (mT (mL fEq (lCons (mLk ixO (lSee 2 (lCons (mC (.int 0)) lNil))) (lCons (mC (.str "add")) lNil)))) (mSeq (mSet 3 (vAnd (mChain fLe fLt (lCons (mC (.int 0)) (lCons (mLk ixO (lSee 2 (lCons (mC (.int 3)) lNil))) lNil)) (mVar 1)) (mL fEq (lCons (mLk ixO (lCons (mLk ixO (lSee 0 (lCons (mLk ixO (lSee 2 (lCons (mC (.int 3)) lNil))) lNil))) (lCons (mC (.int 0)) lNil))) (lCons (mC (.str "pack")) lNil))))) mNil) mNil) (mSeq (mIf (mT (mL fEq (lCons (mLk ixO (lSee 2 (lCons (mC (.int 0)) lNil))) (lCons (mC (.str "many")) lNil)))) (mSeq (mSet 3 (mFz (mCallM sem_tiers_right (aCons (mLk ixO (lSee 2 (lCons (mC (.int 2)) lNil))) aNil)))) mNil) mNil) (mSeq (mIf (tNotM (mT (mVar 3))) (mSeq mNo mNil) mNil) (mSeq (mKill [1, 2, 3]) mNil)))))
def m_look : MS := (mSeq (mFor (iE (aCons (mVar 0) aNil)) (.tp [(.n 1), (.n 2)]) b_look_1) (mSeq (mKill [1, 2, 3]) mNil))
def sem_look : Sem1 := runF 4 (List.replicate 1 false) m_look
theorem un_look (x0 : O) : sem_look [x0] = fin (List.replicate 1 false) (m_look [.own x0, .no, .no, .no]) := id rfl
def b_choices_1 : MS := (mSeq (mDbl 1 3 2) (mSeq (mKill [2]) mNil))
def m_choices : MS := (mSeq (mSet 1 (mA lstO (aCons (mA lstO aNil) aNil))) (mSeq (mFor (iL (mVar 0)) (.n 2) b_choices_1) (mSeq (mKill [2]) (mSeq (mRet (mA srtO (aMv 1 aNil))) mNil))))
def sem_choices : Sem1 := runF 4 (List.replicate 1 false) m_choices
theorem un_choices (x0 : O) : sem_choices [x0] = fin (List.replicate 1 false) (m_choices [.own x0, .no, .no, .no]) := id rfl
def ct_adds_of_1 : MD Bool := (tAndM (mT (mL fEq (lCons (mLk ixO (lSee 3 (lCons (mC (.int 0)) lNil))) (lCons (mC (.str "add")) lNil)))) (mT (mL fEq (lCons (mLk ixO (lSee 3 (lCons (mC (.int 3)) lNil))) (lSee 1 lNil)))))
def ce_adds_of_1 : MD O := (mVar 2)
def m_adds_of : MS := (mSeq (mRet (mLc (iE (aCons (mVar 0) aNil)) (.tp [(.n 2), (.n 3)]) ct_adds_of_1 ce_adds_of_1 [2, 3])) mNil)
def sem_adds_of : Sem1 := runF 4 (List.replicate 2 false) m_adds_of
theorem un_adds_of (x0 x1 : O) : sem_adds_of [x0, x1] = fin (List.replicate 2 false) (m_adds_of [.own x0, .own x1, .no, .no]) := id rfl
def ce_lines_1 : MD O := (mA tupO (aCons (mVar 2) (aCons (mC (.int 1)) (aMv 4 aNil))))
def ce_lines_2 : MD O := (mA tupO (aCons (mVar 2) (aCons (mVar 5) (aCons (mA lstO aNil) aNil))))
def b_lines_1 : MS := (mSeq (mIf (mT (mL fEq (lCons (mLk ixO (lSee 3 (lCons (mC (.int 0)) lNil))) (lCons (mC (.str "pack")) lNil)))) (mSeq (mDrop (mUp 1 (aCons (mLc (mFrzE [2] (iL (mCallM sem_choices (aCons (mFz (mCallM sem_adds_of (aCons (mVar 0) (aCons (mVar 2) aNil)))) aNil)))) (.n 4) mYes ce_lines_1 [4]) aNil) uExt)) mNil) mNil) (mSeq (mIf (mT (mL fEq (lCons (mLk ixO (lSee 3 (lCons (mC (.int 0)) lNil))) (lCons (mC (.str "many")) lNil)))) (mSeq (mDrop (mUp 1 (aCons (mLc (mFrzE [2] (iR2 (lCons (mC (.int 1)) (lCons (mA addO (aCons (mC (.int 12)) (aCons (mC (.int 1)) aNil))) lNil)))) (.n 5) mYes ce_lines_2 [5]) aNil) uExt)) mNil) mNil) (mSeq (mKill [2, 3]) mNil)))
def m_lines : MS := (mSeq (mDrop (mCallM sem_look (aCons (mVar 0) aNil))) (mSeq (mSet 1 (mA lstO aNil)) (mSeq (mFor (mFrzE [0] (iE (aCons (mVar 0) aNil))) (.tp [(.n 2), (.n 3)]) b_lines_1) (mSeq (mKill [2, 3]) (mSeq (mRet (mMv 1)) mNil)))))
def sem_lines : Sem1 := runF 6 (List.replicate 1 false) m_lines
theorem un_lines (x0 : O) : sem_lines [x0] = fin (List.replicate 1 false) (m_lines [.own x0, .no, .no, .no, .no, .no]) := id rfl
def ct_tier_price_1 : MD Bool := (mT (mL fLe (lSee 2 (lSee 1 lNil))))
def ce_tier_price_1 : MD O := (mVar 3)
def m_tier_price : MS := (mSeq (mRet (mLk ixO (lCons (mLc (iL (mVar 0)) (.tp [(.n 2), (.n 3)]) ct_tier_price_1 ce_tier_price_1 [2, 3]) (lCons (mL fNeg (lCons (mC (.int 1)) lNil)) lNil)))) mNil)
def sem_tier_price : Sem1 := runF 4 (List.replicate 2 false) m_tier_price
theorem un_tier_price (x0 x1 : O) : sem_tier_price [x0, x1] = fin (List.replicate 2 false) (m_tier_price [.own x0, .own x1, .no, .no]) := id rfl
def ce_line_price_1 : MD O := (mLk ixO (lCons (mLk ixO (lSee 0 (lSee 5 lNil))) (lCons (mC (.int 2)) lNil)))
def m_line_price : MS := (mSeq (mDrop (mCallM sem_look (aCons (mVar 0) aNil))) (mSeq (mAsg (.tp [(.n 2), (.n 3), (.n 4)]) (mVar 1)) (mSeq (mIf (mT (mL fEq (lCons (mLk ixO (lCons (mLk ixO (lSee 0 (lSee 2 lNil))) (lCons (mC (.int 0)) lNil))) (lCons (mC (.str "many")) lNil)))) (mSeq (mRet (mL fMul (lSee 3 (lCons (mCallM sem_tier_price (aCons (mLk ixO (lCons (mLk ixO (lSee 0 (lSee 2 lNil))) (lCons (mC (.int 2)) lNil))) (aCons (mVar 3) aNil))) lNil)))) mNil) mNil) (mSeq (mRet (mA addO (aCons (mLk ixO (lCons (mLk ixO (lSee 0 (lSee 2 lNil))) (lCons (mC (.int 2)) lNil))) (aCons (mL fSum (lCons (mLc (iL (mVar 4)) (.n 5) mYes ce_line_price_1 [5]) lNil)) aNil)))) mNil))))
def sem_line_price : Sem1 := runF 6 (List.replicate 2 false) m_line_price
theorem un_line_price (x0 x1 : O) : sem_line_price [x0, x1] = fin (List.replicate 2 false) (m_line_price [.own x0, .own x1, .no, .no, .no, .no]) := id rfl
def ce__law_sum_1 : MD O := (mA addO (aCons (mLk ixO (lSee 0 (lSee 2 lNil))) (aCons (mLk ixO (lSee 1 (lSee 2 lNil))) aNil)))
def m__law_sum : MS := (mSeq (mRet (mLc (iR1 (lCons (mL fLen (lSee 0 lNil)) lNil)) (.n 2) mYes ce__law_sum_1 [2])) mNil)
def sem__law_sum : Sem1 := runF 3 (List.replicate 2 false) m__law_sum
theorem un__law_sum (x0 x1 : O) : sem__law_sum [x0, x1] = fin (List.replicate 2 false) (m__law_sum [.own x0, .own x1, .no]) := id rfl
def ce_put_together_1 : MD O := (mA addO (aCons (mVar 2) (aCons (mVar 3) aNil)))
def m_put_together : MS := (mSeq (mRet (mLc (iZ (aCons (mVar 0) (aCons (mVar 1) aNil))) (.tp [(.n 2), (.n 3)]) mYes ce_put_together_1 [2, 3])) mNil)
def sem_put_together : Sem1 := runF 4 (List.replicate 2 false) m_put_together
theorem un_put_together (x0 x1 : O) : sem_put_together [x0, x1] = fin (List.replicate 2 false) (m_put_together [.own x0, .own x1, .no, .no]) := id rfl
def ce_line_content_1 : MD O := (mL fMul (lSee 3 (lSee 6 lNil)))
def b_line_content_1 : MS := (mSeq (mSet 5 (mCallM sem_put_together (aCons (mVar 5) (aCons (mLk ixO (lCons (mLk ixO (lSee 0 (lSee 7 lNil))) (lCons (mC (.int 1)) lNil))) aNil)))) (mSeq (mKill [7]) mNil))
def m_line_content : MS := (mSeq (mDrop (mCallM sem_look (aCons (mVar 0) aNil))) (mSeq (mAsg (.tp [(.n 2), (.n 3), (.n 4)]) (mVar 1)) (mSeq (mSet 5 (mLc (iL (mLk ixO (lCons (mLk ixO (lSee 0 (lSee 2 lNil))) (lCons (mC (.int 1)) lNil)))) (.n 6) mYes ce_line_content_1 [6])) (mSeq (mFor (iL (mVar 4)) (.n 7) b_line_content_1) (mSeq (mKill [7]) (mSeq (mRet (mMv 5)) mNil))))))
def sem_line_content : Sem1 := runF 8 (List.replicate 2 false) m_line_content
theorem un_line_content (x0 x1 : O) : sem_line_content [x0, x1] = fin (List.replicate 2 false) (m_line_content [.own x0, .own x1, .no, .no, .no, .no, .no, .no]) := id rfl
def m__law_mix : MS := (mSeq (mSet 2 (mL fMod (lCons (mL fMul (lCons (mA addO (aCons (mA addO (aCons (mL fMod (lSee 0 (lCons (mC (.int 2147483647)) lNil))) (aCons (mL fMul (lCons (mL fMul (lSee 1 (lSee 1 lNil))) (lCons (mC (.int 7919)) lNil))) aNil))) (aCons (mC (.int 104729)) aNil))) (lCons (mC (.int 48271)) lNil))) (lCons (mC (.int 2147483647)) lNil)))) (mSeq (mRet (mL fMod (lCons (mA addO (aCons (mL fMul (lSee 2 (lSee 2 lNil))) (aCons (mL fMul (lCons (mC (.int 69621)) (lSee 1 lNil))) aNil))) (lCons (mC (.int 2147483629)) lNil)))) mNil))
def sem__law_mix : Sem1 := runF 3 (List.replicate 2 false) m__law_mix
theorem un__law_mix (x0 x1 : O) : sem__law_mix [x0, x1] = fin (List.replicate 2 false) (m__law_mix [.own x0, .own x1, .no]) := id rfl
def ce__law_draws_bf2d_1 : MD O := (mL fDiv (lSee 5 (lCons (mC (.int 100000)) lNil)))
def b__law_draws_bf2d_1 : MS := (mSeq (mSet 8 (mL fMod (lSee 7 (lCons (mL fLen (lSee 3 lNil)) lNil)))) (mSeq (mSet 9 (mFz (mCallM sem__law_mix (aCons (mLk ixO (lSee 3 (lSee 8 lNil))) (aCons (mVar 7) aNil))))) (mSeq (mSet 9 (mL fMod (lCons (mA addO (aCons (mL fMul (lSee 9 (lSee 9 lNil))) (aCons (mL fMul (lCons (mC (.int 7)) (lSee 7 lNil))) aNil))) (lCons (mC (.int 2147483587)) lNil)))) (mSeq (mIf (tAndM (mT (mL fGe (lCons (mLk ixO (lSee 3 (lSee 8 lNil))) (lCons (mL fPow (lCons (mC (.int 10)) (lCons (mC (.int 18)) lNil))) lNil)))) (mT (mL fGt (lCons (mLk ixO (lSee 4 (lSee 8 lNil))) (lCons (mC (.int 0)) lNil))))) (mSeq (mSet 9 (mL fMod (lCons (mLk ixO (lSee 4 (lSee 8 lNil))) (lCons (mC (.int 2147483587)) lNil)))) (mSeq (mSetI 4 (mL fDiv (lCons (mLk ixO (lSee 4 (lSee 8 lNil))) (lCons (mC (.int 2147483587)) lNil))) (mVar 8)) mNil)) mNil) (mSeq (mDrop (mUp 6 (aCons (mVar 9) aNil) uApp)) (mSeq (mKill [7, 8, 9]) mNil))))))
def m__law_draws_bf2d : MS := (mSeq (mSet 3 (mFz (mA addO (aCons (mSl (mVar 0) oNone (oSome (mC (.int 63)))) (aCons (mA lstO (aCons (mVar 1) aNil)) aNil))))) (mSeq (mSet 4 (mLc (iL (mVar 3)) (.n 5) mYes ce__law_draws_bf2d_1 [5])) (mSeq (mSet 6 (mA lstO aNil)) (mSeq (mFor (iR1 (lCons (mA addO (aCons (mVar 1) (aCons (mVar 2) aNil))) lNil)) (.n 7) b__law_draws_bf2d_1) (mSeq (mKill [7, 8, 9]) (mSeq (mRet (mSl (mVar 6) (oSome (mVar 1)) oNone)) mNil))))))
def sem__law_draws_bf2d : Sem1 := runF 10 (List.replicate 3 false) m__law_draws_bf2d
theorem un__law_draws_bf2d (x0 x1 x2 : O) : sem__law_draws_bf2d [x0, x1, x2] = fin (List.replicate 3 false) (m__law_draws_bf2d [.own x0, .own x1, .own x2, .no, .no, .no, .no, .no, .no, .no]) := id rfl
def b__law_cut_1 : MS := (mSeq (mSet 1 (mL fMul (lSee 1 (lCons (mA addO (aCons (mVar 2) (aCons (mC (.int 1)) aNil))) lNil)))) (mSeq (mKill [2]) mNil))
def t__law_cut_1 : MD Bool := (mT (mL fGt (lSee 1 (lCons (mC (.int 400)) lNil))))
def b__law_cut_2 : MS := (mSeq (mSet 1 (mC (.int 1))) (mSeq (mForS 0 (.n 2) b__law_cut_1) (mSeq (mKill [2]) (mSeq (mIf (mT (mL fGt (lSee 1 (lCons (mC (.int 400)) lNil)))) (mSeq (mSetI 0 (mL fSub (lCons (mL fMax (lSee 0 lNil)) (lCons (mC (.int 1)) lNil))) (mLM 0 fIndex (lCons (mL fMax (lSee 0 lNil)) lNil))) mNil) mNil) (mSeq (mKill [2]) mNil)))))
def m__law_cut : MS := (mSeq (mSet 1 (mC (.int 401))) (mSeq (mWhile t__law_cut_1 b__law_cut_2) (mSeq (mKill [1, 2]) (mSeq (mRet (mMv 0)) mNil))))
def sem__law_cut : Sem1 := runF 3 (List.replicate 1 false) m__law_cut
theorem un__law_cut (x0 : O) : sem__law_cut [x0] = fin (List.replicate 1 false) (m__law_cut [.own x0, .no, .no]) := id rfl
def b__law_content_e374_1 : MS := (mSeq (mDrop (mUp 4 (aCons (mLk ixO (lCons (mA lstO (aCons (mC (.int 0)) (aCons (mC (.int 1)) (aCons (mA addO (aCons (mC (.int 1)) (aCons (mL fMod (lSee 3 (lSee 2 lNil))) aNil))) (aCons (mC (.int 1)) aNil))))) (lCons (mL fMod (lCons (mL fDiv (lSee 3 (lCons (mC (.int 16)) lNil))) (lCons (mC (.int 4)) lNil))) lNil))) aNil) uApp)) (mSeq (mSet 3 (mL fDiv (lSee 3 (lCons (mC (.int 64)) lNil)))) (mSeq (mKill [5]) mNil)))
def m__law_content_e374 : MS := (mSeq (mSet 3 (mFz (mCallR sem__law_pop (aRf 0 aNil) [0]))) (mSeq (mSet 4 (mA lstO aNil)) (mSeq (mFor (iR1 (lSee 1 lNil)) (.n 5) b__law_content_e374_1) (mSeq (mKill [5]) (mSeq (mIf (mT (mL fEq (lCons (mL fSum (lSee 4 lNil)) (lCons (mC (.int 0)) lNil)))) (mSeq (mSetI 4 (mC (.int 1)) (mL fMod (lSee 3 (lSee 1 lNil)))) mNil) mNil) (mSeq (mRet (mCallM sem__law_cut (aMv 4 aNil))) mNil))))))
def sem__law_content_e374 : Sem1 := runF 6 [true, false, false] m__law_content_e374
theorem un__law_content_e374 (x0 x1 x2 : O) : sem__law_content_e374 [x0, x1, x2] = fin [true, false, false] (m__law_content_e374 [.pin x0, .own x1, .own x2, .no, .no, .no]) := id rfl
def m__law_price_59e4 : MS := (mSeq (mSet 1 (mFz (mCallR sem__law_pop (aRf 0 aNil) [0]))) (mSeq (mRet (mLk ixO (lCons (mA lstO (aCons (mL fMod (lSee 1 (lCons (mC (.int 12)) lNil))) (aCons (mA addO (aCons (mC (.int 20)) (aCons (mL fMod (lSee 1 (lCons (mC (.int 100)) lNil))) aNil))) (aCons (mL fMod (lSee 1 (lCons (mC (.int 12)) lNil))) (aCons (mL fMod (lCons (mL fMul (lSee 1 (lCons (mC (.int 465)) lNil))) (lCons (mL fPow (lCons (mC (.int 10)) (lCons (mC (.int 12)) lNil))) lNil))) (aCons (mC (.int 0)) aNil)))))) (lCons (mL fMod (lCons (mL fDiv (lSee 1 (lCons (mC (.int 12)) lNil))) (lCons (mC (.int 5)) lNil))) lNil)))) mNil))
def sem__law_price_59e4 : Sem1 := runF 2 [true] m__law_price_59e4
theorem un__law_price_59e4 (x0 : O) : sem__law_price_59e4 [x0] = fin [true] (m__law_price_59e4 [.pin x0, .no]) := id rfl
def b__law_tiers_fe28_1 : MS := (mSeq (mIf (mT (mL fLt (lSee 2 (lCons (mC (.int 13)) lNil)))) (mSeq (mDrop (mUp 1 (aCons (mFz (mA tupO (aCons (mVar 2) (aCons (mCallR sem__law_price_59e4 (aRf 0 aNil) [0]) aNil)))) aNil) uApp)) mNil) mNil) (mSeq (mSet 2 (mFz (mA addO (aCons (mA addO (aCons (mVar 2) (aCons (mC (.int 1)) aNil))) (aCons (mL fMod (lCons (mCallR sem__law_pop (aRf 0 aNil) [0]) (lCons (mC (.int 5)) lNil))) aNil))))) (mSeq (mKill [3]) mNil)))
def m__law_tiers_fe28 : MS := (mSeq (mSet 1 (mA lstO aNil)) (mSeq (mSet 2 (mC (.int 1))) (mSeq (mFor (iR1 (lCons (mA addO (aCons (mC (.int 1)) (aCons (mL fMod (lCons (mCallR sem__law_pop (aRf 0 aNil) [0]) (lCons (mC (.int 4)) lNil))) aNil))) lNil)) (.n 3) b__law_tiers_fe28_1) (mSeq (mKill [2, 3]) (mSeq (mRet (mMv 1)) mNil)))))
def sem__law_tiers_fe28 : Sem1 := runF 4 [true] m__law_tiers_fe28
theorem un__law_tiers_fe28 (x0 : O) : sem__law_tiers_fe28 [x0] = fin [true] (m__law_tiers_fe28 [.pin x0, .no, .no, .no]) := id rfl
def ct__law_shop_7fee_1 : MD Bool := (mT (mL fEq (lCons (mLk ixO (lSee 10 (lCons (mC (.int 0)) lNil))) (lCons (mC (.str "pack")) lNil))))
def ce__law_shop_7fee_1 : MD O := (mVar 9)
def b__law_shop_7fee_1 : MS := (mSeq (mSet 5 (mFz (mCallR sem__law_pop (aRf 0 aNil) [0]))) (mSeq (mSet 6 (mFz (mPeek [3] (mLc (iE (aCons (mVar 3) aNil)) (.tp [(.n 9), (.n 10)]) ct__law_shop_7fee_1 ce__law_shop_7fee_1 [9, 10])))) (mSeq (mSet 7 (mL fMod (lSee 5 (lCons (mC (.int 8)) lNil)))) (mSeq (mSet 8 (mCallR sem__law_content_e374 (aRf 0 (aCons (mVar 1) (aCons (mC (.int 9)) aNil))) [0])) (mSeq (mIf (mT (mL fLt (lSee 7 (lCons (mC (.int 2)) lNil)))) (mSeq (mDrop (mUp 3 (aCons (mA tupO (aCons (mC (.str "many")) (aMv 8 (aCons (mCallR sem__law_tiers_fe28 (aRf 0 aNil) [0]) aNil)))) aNil) uApp)) mNil) (mSeq (mIf (tAndM (mT (mL fLt (lSee 7 (lCons (mC (.int 4)) lNil)))) (mT (mL fNe (lSee 6 (lCons (mA lstO aNil) lNil))))) (mSeq (mDrop (mUp 3 (aCons (mA tupO (aCons (mC (.str "add")) (aMv 8 (aCons (mCallR sem__law_price_59e4 (aRf 0 aNil) [0]) (aCons (mLk ixO (lSee 6 (lCons (mL fMod (lCons (mL fDiv (lSee 5 (lCons (mC (.int 8)) lNil))) (lCons (mL fLen (lSee 6 lNil)) lNil))) lNil))) aNil))))) aNil) uApp)) mNil) (mSeq (mDrop (mUp 3 (aCons (mA tupO (aCons (mC (.str "pack")) (aMv 8 (aCons (mCallR sem__law_price_59e4 (aRf 0 aNil) [0]) aNil)))) aNil) uApp)) mNil)) mNil)) (mSeq (mKill [4, 5, 6, 7, 8]) mNil))))))
def m__law_shop_7fee : MS := (mSeq (mSet 3 (mA lstO aNil)) (mSeq (mFor (mFrzE [1] (iR1 (lCons (mL fMod (lCons (mCallR sem__law_pop (aRf 0 aNil) [0]) (lCons (mA addO (aCons (mVar 2) (aCons (mC (.int 1)) aNil))) lNil))) lNil))) (.n 4) b__law_shop_7fee_1) (mSeq (mKill [4, 5, 6, 7, 8]) (mSeq (mRet (mMv 3)) mNil))))
def sem__law_shop_7fee : Sem1 := runF 11 [true, false, false] m__law_shop_7fee
theorem un__law_shop_7fee (x0 x1 x2 : O) : sem__law_shop_7fee [x0, x1, x2] = fin [true, false, false] (m__law_shop_7fee [.pin x0, .own x1, .own x2, .no, .no, .no, .no, .no, .no, .no, .no]) := id rfl
def b__law_want_c9ae_1 : MS := (mSeq (mDrop (mUp 3 (aCons (mL fMod (lSee 2 (lCons (mC (.int 10)) lNil))) aNil) uApp)) (mSeq (mSet 2 (mL fDiv (lSee 2 (lCons (mC (.int 10)) lNil)))) (mSeq (mKill [4]) mNil)))
def m__law_want_c9ae : MS := (mSeq (mSet 2 (mFz (mCallR sem__law_pop (aRf 0 aNil) [0]))) (mSeq (mSet 3 (mA lstO aNil)) (mSeq (mFor (iR1 (lSee 1 lNil)) (.n 4) b__law_want_c9ae_1) (mSeq (mKill [2, 4]) (mSeq (mRet (mCallM sem__law_cut (aMv 3 aNil))) mNil)))))
def sem__law_want_c9ae : Sem1 := runF 5 [true, false] m__law_want_c9ae
theorem un__law_want_c9ae (x0 x1 : O) : sem__law_want_c9ae [x0, x1] = fin [true, false] (m__law_want_c9ae [.pin x0, .own x1, .no, .no, .no]) := id rfl
def m__law_case_2562 : MS := (mSeq (mSet 2 (mCallM sem__law_draws_bf2d (aCons (mVar 0) (aCons (mC (.int 1)) (aCons (mVar 1) aNil))))) (mSeq (mSet 3 (mLk ixO (lCons (mA lstO (aCons (mC (.int 1)) (aCons (mC (.int 2)) (aCons (mC (.int 2)) (aCons (mC (.int 3)) (aCons (mC (.int 2)) (aCons (mC (.int 3)) (aCons (mC (.int 1)) (aCons (mC (.int 4)) aNil))))))))) (lCons (mL fMod (lCons (mCallR sem__law_pop (aRf 2 aNil) [2]) (lCons (mC (.int 8)) lNil))) lNil)))) (mSeq (mSet 4 (mCallR sem__law_shop_7fee (aRf 2 (aCons (mVar 3) (aCons (mC (.int 8)) aNil))) [2])) (mSeq (mRet (mA tupO (aCons (mVar 3) (aMv 4 (aCons (mCallR sem__law_want_c9ae (aRf 2 (aCons (mVar 3) aNil)) [2]) (aMv 2 aNil)))))) mNil))))
def sem__law_case_2562 : Sem1 := runF 5 (List.replicate 2 false) m__law_case_2562
theorem un__law_case_2562 (x0 x1 : O) : sem__law_case_2562 [x0, x1] = fin (List.replicate 2 false) (m__law_case_2562 [.own x0, .own x1, .no, .no, .no]) := id rfl
def ce__law_groups_1 : MD O := (mA addO (aCons (mA lstO (aCons (mVar 2) aNil)) (aCons (mVar 3) aNil)))
def b__law_groups_1 : MS := (mSeq (mSet 1 (mA addO (aCons (mA addO (aCons (mSl (mVar 1) oNone (oSome (mC (.int 1)))) (aCons (mLc (mFrzE [2] (iL (mVar 1))) (.n 3) mYes ce__law_groups_1 [3]) aNil))) (aCons (mSl (mVar 1) (oSome (mC (.int 1))) oNone) aNil)))) (mSeq (mKill [2]) mNil))
def m__law_groups : MS := (mSeq (mSet 1 (mA lstO (aCons (mA lstO aNil) aNil))) (mSeq (mFor (iL (mRev (mVar 0))) (.n 2) b__law_groups_1) (mSeq (mKill [2]) (mSeq (mRet (mMv 1)) mNil))))
def sem__law_groups : Sem1 := runF 4 (List.replicate 1 false) m__law_groups
theorem un__law_groups (x0 : O) : sem__law_groups [x0] = fin (List.replicate 1 false) (m__law_groups [.own x0, .no, .no, .no]) := id rfl
def ct__law_lines_9070_1 : MD Bool := (tAndM (mT (mL fEq (lCons (mLk ixO (lSee 11 (lCons (mC (.int 0)) lNil))) (lCons (mC (.str "add")) lNil)))) (mT (mL fEq (lCons (mLk ixO (lSee 11 (lCons (mC (.int 3)) lNil))) (lSee 2 lNil)))))
def ce__law_lines_9070_1 : MD O := (mVar 10)
def b__law_lines_9070_1 : MS := (mSeq (mSet 7 (mFz (mCallM sem__law_sum (aCons (mVar 7) (aCons (mLk ixO (lCons (mLk ixO (lSee 0 (lSee 9 lNil))) (lCons (mC (.int 1)) lNil))) aNil))))) (mSeq (mSet 8 (mFz (mA addO (aCons (mVar 8) (aCons (mLk ixO (lCons (mLk ixO (lSee 0 (lSee 9 lNil))) (lCons (mC (.int 2)) lNil))) aNil))))) (mSeq (mKill [9]) mNil)))
def b__law_lines_9070_2 : MS := (mSeq (mSet 7 (mLk ixO (lSee 3 (lCons (mC (.int 1)) lNil)))) (mSeq (mSet 8 (mLk ixO (lSee 3 (lCons (mC (.int 2)) lNil)))) (mSeq (mFor (iL (mVar 5)) (.n 9) b__law_lines_9070_1) (mSeq (mKill [9]) (mSeq (mDrop (mUp 1 (aCons (mFz (mA tupO (aCons (mA tupO (aCons (mVar 2) (aCons (mC (.int 1)) (aCons (mVar 5) aNil)))) (aCons (mVar 7) (aCons (mVar 8) aNil))))) aNil) uApp)) (mSeq (mKill [5, 7, 8, 9]) mNil))))))
def ct__law_lines_9070_2 : MD Bool := (mT (mL fLe (lCons (mLk ixO (lSee 12 (lCons (mC (.int 0)) lNil))) (lSee 6 lNil))))
def ce__law_lines_9070_2 : MD O := (mLk ixO (lSee 12 (lCons (mC (.int 1)) lNil)))
def ce__law_lines_9070_3 : MD O := (mL fMul (lSee 6 (lSee 11 lNil)))
def b__law_lines_9070_3 : MS := (mSeq (mSet 8 (mLk ixO (lCons (mLc (iL (mLk ixO (lSee 3 (lCons (mC (.int 2)) lNil)))) (.n 12) ct__law_lines_9070_2 ce__law_lines_9070_2 [12]) (lCons (mL fNeg (lCons (mC (.int 1)) lNil)) lNil)))) (mSeq (mDrop (mUp 1 (aCons (mFz (mA tupO (aCons (mA tupO (aCons (mVar 2) (aCons (mVar 6) (aCons (mA lstO aNil) aNil)))) (aCons (mLc (iL (mLk ixO (lSee 3 (lCons (mC (.int 1)) lNil)))) (.n 11) mYes ce__law_lines_9070_3 [11]) (aCons (mL fMul (lSee 6 (lSee 8 lNil))) aNil))))) aNil) uApp)) (mSeq (mKill [6, 8]) mNil)))
def b__law_lines_9070_4 : MS := (mSeq (mIf (mT (mL fEq (lCons (mLk ixO (lSee 3 (lCons (mC (.int 0)) lNil))) (lCons (mC (.str "pack")) lNil)))) (mSeq (mSet 4 (mFz (mLc (iE (aCons (mVar 0) aNil)) (.tp [(.n 10), (.n 11)]) ct__law_lines_9070_1 ce__law_lines_9070_1 [10, 11]))) (mSeq (mFor (mFrzE [2] (iL (mFz (mCallM sem__law_groups (aCons (mVar 4) aNil))))) (.n 5) b__law_lines_9070_2) (mSeq (mKill [5, 7, 8, 9]) mNil))) mNil) (mSeq (mKill [4, 5, 7, 8, 9]) (mSeq (mIf (mT (mL fEq (lCons (mLk ixO (lSee 3 (lCons (mC (.int 0)) lNil))) (lCons (mC (.str "many")) lNil)))) (mSeq (mFor (mFrzE [2] (iR2 (lCons (mC (.int 1)) (lCons (mC (.int 13)) lNil)))) (.n 6) b__law_lines_9070_3) (mSeq (mKill [6, 8]) mNil)) mNil) (mSeq (mKill [2, 3, 4, 5, 6, 7, 8, 9]) mNil))))
def m__law_lines_9070 : MS := (mSeq (mSet 1 (mA lstO aNil)) (mSeq (mFor (mFrzE [0] (iE (aCons (mVar 0) aNil))) (.tp [(.n 2), (.n 3)]) b__law_lines_9070_4) (mSeq (mKill [2, 3, 4, 5, 6, 7, 8, 9]) (mSeq (mRet (mMv 1)) mNil))))
def sem__law_lines_9070 : Sem1 := runF 13 (List.replicate 1 false) m__law_lines_9070
theorem un__law_lines_9070 (x0 : O) : sem__law_lines_9070 [x0] = fin (List.replicate 1 false) (m__law_lines_9070 [.own x0, .no, .no, .no, .no, .no, .no, .no, .no, .no, .no, .no, .no]) := id rfl
def b__law_lesser_1 : MS := (mSeq (mDrop (mUp 3 (aCons (mFz (mA addO (aCons (mVar 4) (aCons (mA lstO (aCons (mVar 5) aNil)) aNil)))) aNil) uApp)) (mSeq (mKill [5]) mNil))
def b__law_lesser_2 : MS := (mSeq (mFor (mFrzE [4] (iR1 (lCons (mA addO (aCons (mVar 2) (aCons (mC (.int 1)) aNil))) lNil))) (.n 5) b__law_lesser_1) (mSeq (mKill [4, 5]) mNil))
def b__law_lesser_3 : MS := (mSeq (mSet 3 (mA lstO aNil)) (mSeq (mFor (mFrzE [2] (iL (mVar 1))) (.n 4) b__law_lesser_2) (mSeq (mKill [4, 5]) (mSeq (mSet 1 (mVar 3)) (mSeq (mKill [2, 3, 4, 5]) mNil)))))
def m__law_lesser : MS := (mSeq (mSet 1 (mA lstO (aCons (mA lstO aNil) aNil))) (mSeq (mFor (iL (mVar 0)) (.n 2) b__law_lesser_3) (mSeq (mKill [2, 3, 4, 5]) (mSeq (mRet (mMv 1)) mNil))))
def sem__law_lesser : Sem1 := runF 6 (List.replicate 1 false) m__law_lesser
theorem un__law_lesser (x0 : O) : sem__law_lesser [x0] = fin (List.replicate 1 false) (m__law_lesser [.own x0, .no, .no, .no, .no, .no]) := id rfl
def ce__law_rest_1 : MD O := (mL fMax (lCons (mC (.int 0)) (lCons (mL fSub (lCons (mLk ixO (lSee 0 (lSee 2 lNil))) (lCons (mLk ixO (lSee 1 (lSee 2 lNil))) lNil))) lNil)))
def m__law_rest : MS := (mSeq (mRet (mLc (iR1 (lCons (mL fLen (lSee 0 lNil)) lNil)) (.n 2) mYes ce__law_rest_1 [2])) mNil)
def sem__law_rest : Sem1 := runF 3 (List.replicate 2 false) m__law_rest
theorem un__law_rest (x0 x1 : O) : sem__law_rest [x0, x1] = fin (List.replicate 2 false) (m__law_rest [.own x0, .own x1, .no]) := id rfl
def b__law_table_1 : MS := (mSeq (mSet 9 (mFz (mCallM sem__law_rest (aCons (mVar 4) (aCons (mVar 7) aNil))))) (mSeq (mIf (tAndM (mT (mL fNe (lSee 9 (lSee 4 lNil)))) (mT (mL fNotN (lCons (mDget 3 (mA tupleO (aCons (mVar 9) aNil))) (lCons (mC .none) lNil))))) (mSeq (mDrop (mUp 5 (aCons (mFz (mA addO (aCons (mVar 8) (aCons (mDget 3 (mA tupleO (aCons (mVar 9) aNil))) aNil)))) aNil) uApp)) mNil) mNil) (mSeq (mKill [6, 7, 8, 9]) mNil)))
def b__law_table_2 : MS := (mSeq (mSet 5 (mSl (mA lstO (aCons (mC (.int 0)) aNil)) oNone (oSome (mL fInt (lCons (mL fEq (lCons (mL fSum (lSee 4 lNil)) (lCons (mC (.int 0)) lNil))) lNil))))) (mSeq (mFor (mFrzE [4] (iL (mVar 2))) (.tp [(.n 6), (.n 7), (.n 8)]) b__law_table_1) (mSeq (mKill [6, 7, 8, 9]) (mSeq (mDput 3 (mC .none) (mA tupleO (aCons (mVar 4) aNil))) (mSeq (mIf (mT (mL fNe (lSee 5 (lCons (mA lstO aNil) lNil)))) (mSeq (mDput 3 (mFz (mL fMin (lSee 5 lNil))) (mA tupleO (aCons (mVar 4) aNil))) mNil) mNil) (mSeq (mKill [4, 5, 6, 7, 8, 9]) mNil))))))
def m__law_table : MS := (mSeq (mSet 2 (mFz (mCallM sem__law_lines_9070 (aCons (mVar 0) aNil)))) (mSeq (mSet 3 (mDnT)) (mSeq (mFor (mFrzE [2] (iL (mFz (mCallM sem__law_lesser (aCons (mVar 1) aNil))))) (.n 4) b__law_table_2) (mSeq (mKill [4, 5, 6, 7, 8, 9]) (mSeq (mRet (mMv 3)) mNil)))))
def sem__law_table : Sem1 := runF 10 (List.replicate 2 false) m__law_table
theorem un__law_table (x0 x1 : O) : sem__law_table [x0, x1] = fin (List.replicate 2 false) (m__law_table [.own x0, .own x1, .no, .no, .no, .no, .no, .no, .no, .no]) := id rfl
def ce_goods_1 : MD O := (mA tupO (aCons (mVar 1) (aCons (mCallM sem_line_content (aCons (mVar 0) (aCons (mVar 1) aNil))) (aCons (mCallM sem_line_price (aCons (mVar 0) (aCons (mVar 1) aNil))) aNil))))
def m_goods : MS := (mSeq (mRet (mLc (mFrzE [0] (iL (mFz (mCallM sem_lines (aCons (mVar 0) aNil))))) (.n 1) mYes ce_goods_1 [1])) mNil)
def sem_goods : Sem1 := runF 2 (List.replicate 1 false) m_goods
theorem un_goods (x0 : O) : sem_goods [x0] = fin (List.replicate 1 false) (m_goods [.own x0, .no]) := id rfl
def b_best_of_1 : MS := (mSeq (mSet 7 (mFz (mCallM sem_rest (aCons (mVar 2) (aCons (mVar 5) aNil))))) (mSeq (mIf (tAndM (mT (mL fNe (lSee 7 (lSee 2 lNil)))) (mT (mL fNotN (lCons (mDget 1 (mA tupleO (aCons (mVar 7) aNil))) (lCons (mC .none) lNil))))) (mSeq (mSet 8 (mFz (mA addO (aCons (mVar 6) (aCons (mLk ixO (lCons (mDget 1 (mA tupleO (aCons (mVar 7) aNil))) (lCons (mC (.int 0)) lNil))) aNil))))) (mSeq (mIf (tOrM (mT (mL fIsN (lSee 3 (lCons (mC .none) lNil)))) (mT (mL fLt (lSee 8 (lCons (mLk ixO (lSee 3 (lCons (mC (.int 0)) lNil))) lNil))))) (mSeq (mSet 3 (mA tupO (aCons (mVar 8) (aCons (mVar 4) aNil)))) mNil) mNil) mNil)) mNil) (mSeq (mKill [4, 5, 6, 7, 8]) mNil)))
def m_best_of : MS := (mSeq (mSet 3 (mC .none)) (mSeq (mFor (mFrzE [2] (iL (mVar 0))) (.tp [(.n 4), (.n 5), (.n 6)]) b_best_of_1) (mSeq (mKill [4, 5, 6, 7, 8]) (mSeq (mRet (mMv 3)) mNil))))
def sem_best_of : Sem1 := runF 9 [false, true, false] m_best_of
theorem un_best_of (x0 x1 x2 : O) : sem_best_of [x0, x1, x2] = fin [false, true, false] (m_best_of [.own x0, .pin x1, .own x2, .no, .no, .no, .no, .no, .no]) := id rfl
def b_reckoned_1 : MS := (mSeq (mIf (mT (mL fEq (lCons (mL fSum (lSee 4 lNil)) (lCons (mC (.int 0)) lNil)))) (mSeq (mDput 3 (mFz (mA tupO (aCons (mC (.int 0)) (aCons (mC .none) aNil)))) (mA tupleO (aCons (mVar 4) aNil))) mNil) (mSeq (mDput 3 (mFz (mCallR sem_best_of (aCons (mVar 2) (aRf 3 (aCons (mVar 4) aNil))) [3])) (mA tupleO (aCons (mVar 4) aNil))) mNil)) (mSeq (mKill [4]) mNil))
def m_reckoned : MS := (mSeq (mSet 2 (mFz (mCallM sem_goods (aCons (mVar 0) aNil)))) (mSeq (mSet 3 (mDnT)) (mSeq (mFor (mFrzE [2] (iL (mFz (mCallM sem_lesser (aCons (mVar 1) aNil))))) (.n 4) b_reckoned_1) (mSeq (mKill [4]) (mSeq (mRet (mMv 3)) mNil)))))
def sem_reckoned : Sem1 := runF 5 (List.replicate 2 false) m_reckoned
theorem un_reckoned (x0 x1 : O) : sem_reckoned [x0, x1] = fin (List.replicate 2 false) (m_reckoned [.own x0, .own x1, .no, .no, .no]) := id rfl
def m_own_line : MS := (mSeq (mRet (mA tupO (aCons (mLk ixO (lSee 0 (lCons (mC (.int 0)) lNil))) (aCons (mLk ixO (lSee 0 (lCons (mC (.int 1)) lNil))) (aCons (mA listO (aCons (mLk ixO (lSee 0 (lCons (mC (.int 2)) lNil))) aNil)) aNil))))) mNil)
def sem_own_line : Sem1 := runF 1 (List.replicate 1 false) m_own_line
theorem un_own_line (x0 : O) : sem_own_line [x0] = fin (List.replicate 1 false) (m_own_line [.own x0]) := id rfl
def t_least_1 : MD Bool := (mT (mL fNotN (lCons (mLk ixO (lSee 3 (lCons (mC (.int 1)) lNil))) (lCons (mC .none) lNil))))
def b_least_1 : MS := (mSeq (mDrop (mUp 5 (aCons (mCallM sem_own_line (aCons (mLk ixO (lSee 3 (lCons (mC (.int 1)) lNil))) aNil)) aNil) uApp)) (mSeq (mSet 6 (mFz (mCallM sem_rest (aCons (mVar 6) (aCons (mFz (mCallM sem_line_content (aCons (mVar 0) (aCons (mLk ixO (lSee 3 (lCons (mC (.int 1)) lNil))) aNil)))) aNil))))) (mSeq (mSet 3 (mDget 2 (mA tupleO (aCons (mVar 6) aNil)))) mNil)))
def m_least : MS := (mSeq (mSet 2 (mCallM sem_reckoned (aCons (mVar 0) (aCons (mVar 1) aNil)))) (mSeq (mSet 3 (mDget 2 (mA tupleO (aCons (mVar 1) aNil)))) (mSeq (mIf (mT (mL fIsN (lSee 3 (lCons (mC .none) lNil)))) (mSeq (mRet (mC .none)) mNil) mNil) (mSeq (mSet 4 (mLk ixO (lSee 3 (lCons (mC (.int 0)) lNil)))) (mSeq (mSet 5 (mA lstO aNil)) (mSeq (mSet 6 (mFz (mA listO (aCons (mVar 1) aNil)))) (mSeq (mFrz [0]) (mSeq (mWhile t_least_1 b_least_1) (mSeq (mKill [3, 6]) (mSeq (mRet (mA tupO (aCons (mVar 4) (aCons (mA srtO (aMv 5 aNil)) aNil)))) mNil))))))))))
def sem_least : Sem1 := runF 7 (List.replicate 2 false) m_least
theorem un_least (x0 x1 : O) : sem_least [x0, x1] = fin (List.replicate 2 false) (m_least [.own x0, .own x1, .no, .no, .no, .no, .no]) := id rfl
def ce__law_right_1657_1 : MD O := (mL fStrD (lSee 6 lNil))
def ct__law_right_1657_1 : MD Bool := (mT (mL fIn (lCons (mL fStrD (lSee 6 lNil)) (lSee 5 lNil))))
def ce__law_right_1657_2 : MD O := (mLM 5 fIndex (lCons (mL fStrD (lSee 6 lNil)) lNil))
def ce__law_right_1657_3 : MD O := (mC (.int 0))
def b__law_right_1657_1 : MS := (mSeq (mSet 10 (mFz (mCallM sem__law_sum (aCons (mVar 10) (aCons (mLk ixO (lCons (mLk ixO (lSee 4 (lSee 12 lNil))) (lCons (mC (.int 1)) lNil))) aNil))))) (mSeq (mKill [12]) mNil))
def ct__law_right_1657_2 : MD Bool := (mT (mL fLt (lCons (mLk ixO (lSee 10 (lSee 11 lNil))) (lCons (mLk ixO (lSee 1 (lSee 11 lNil))) lNil))))
def ce__law_right_1657_4 : MD O := (mVar 11)
def ce__law_right_1657_5 : MD O := (mLk ixO (lCons (mLk ixO (lSee 4 (lSee 12 lNil))) (lCons (mC (.int 2)) lNil)))
def m__law_right_1657 : MS := (mSeq (mIf (tOrM (tNotM (mT (mL (fIsi "tuple") (lSee 2 lNil)))) (tOrM (mT (mL fNe (lCons (mL fLen (lSee 2 lNil)) (lCons (mC (.int 2)) lNil)))) (tNotM (mT (mL (fIsi "list") (lCons (mLk ixO (lSee 2 (lCons (mC (.int 1)) lNil))) lNil)))))) (mSeq (mRet (mC (.bool false))) mNil) mNil) (mSeq (mIf (mT (mL fNe (lCons (mL fStrD (lCons (mLk ixO (lSee 2 (lCons (mC (.int 0)) lNil))) lNil)) (lCons (mL fStrD (lSee 3 lNil)) lNil)))) (mSeq (mRet (mC (.bool false))) mNil) mNil) (mSeq (mSet 4 (mFz (mCallM sem__law_lines_9070 (aCons (mVar 0) aNil)))) (mSeq (mSet 5 (mFz (mLc (iL (mVar 4)) (.tp [(.n 6), (.n 7), (.n 8)]) mYes ce__law_right_1657_1 [6, 7, 8]))) (mSeq (mSet 9 (mFz (mLc (iL (mLk ixO (lSee 2 (lCons (mC (.int 1)) lNil)))) (.n 6) ct__law_right_1657_1 ce__law_right_1657_2 [6]))) (mSeq (mIf (tOrM (mT (mL fNe (lCons (mL fLen (lSee 9 lNil)) (lCons (mL fLen (lCons (mLk ixO (lSee 2 (lCons (mC (.int 1)) lNil))) lNil)) lNil)))) (mT (mL fNe (lSee 9 (lCons (mA srtO (aCons (mVar 9) aNil)) lNil))))) (mSeq (mRet (mC (.bool false))) mNil) mNil) (mSeq (mSet 10 (mFz (mLc (iL (mVar 1)) (.n 11) mYes ce__law_right_1657_3 [11]))) (mSeq (mFor (iL (mVar 9)) (.n 12) b__law_right_1657_1) (mSeq (mKill [12]) (mSeq (mIf (mT (mL fNe (lCons (mLc (iR1 (lCons (mL fLen (lSee 1 lNil)) lNil)) (.n 11) ct__law_right_1657_2 ce__law_right_1657_4 [11]) (lCons (mA lstO aNil) lNil)))) (mSeq (mRet (mC (.bool false))) mNil) mNil) (mSeq (mRet (vAnd (mL fEq (lCons (mL fSum (lCons (mLc (iL (mVar 9)) (.n 12) mYes ce__law_right_1657_5 [12]) lNil)) (lSee 3 lNil))) (vOr (mL fGt (lCons (mL fSum (lSee 1 lNil)) (lCons (mC (.int 0)) lNil))) (mL fEq (lSee 2 (lCons (mA tupO (aCons (mC (.int 0)) (aCons (mA lstO aNil) aNil))) lNil)))))) mNil)))))))))))
def sem__law_right_1657 : Sem1 := runF 13 (List.replicate 4 false) m__law_right_1657
theorem un__law_right_1657 (x0 x1 x2 x3 : O) : sem__law_right_1657 [x0, x1, x2, x3] = fin (List.replicate 4 false) (m__law_right_1657 [.own x0, .own x1, .own x2, .own x3, .no, .no, .no, .no, .no, .no, .no, .no, .no]) := id rfl
def m__law_behind_a235 : MS := (mSeq (mIf (mT (mL fNe (lSee 1 (lSee 0 lNil)))) (mSeq (mRet (mC (.bool false))) mNil) mNil) (mSeq (mSet 4 (mDgetE (mCallM sem__law_table (aCons (mVar 1) (aCons (mVar 2) aNil))) (mA tupleO (aCons (mVar 2) aNil)))) (mSeq (mSet 5 (mFz (mCallM sem_least (aCons (mVar 1) (aCons (mVar 2) aNil))))) (mSeq (mIf (mT (mL fIsN (lSee 4 (lCons (mC .none) lNil)))) (mSeq (mRet (mL fIsN (lSee 5 (lCons (mC .none) lNil)))) mNil) mNil) (mSeq (mRet (vAnd (mL fNotN (lSee 5 (lCons (mC .none) lNil))) (mL fEq (lCons (mLk ixO (lSee 5 (lCons (mC (.int 0)) lNil))) (lSee 4 lNil))))) mNil)))))
noncomputable def sem__law_behind_a235 : Sem1 := semBeh 6 [1] uRev m__law_behind_a235
def b_law_k13_1 : MS := (mSeq (mDrop (mUpK 9 [(bC (.int 2))] (aCons (mC (.int 0)) aNil) uApp)) mNil)
def ct_law_k13_1 : MD Bool := (mT (mL fNe (lCons (mLk ixO (lSee 9 (lCons (mC (.int 2)) lNil))) (lCons (mA addO (aCons (mLk ixO (lCons (mLk ixO (lCons (mLk ixO (lSee 7 (lCons (mC (.int 1)) lNil))) (lSee 10 lNil))) (lCons (mC (.int 2)) lNil))) (aCons (mA lstO (aCons (mC (.int 0)) aNil)) aNil))) lNil))))
def ce_law_k13_1 : MD O := (mVar 10)
def g_law_k13_1 : MS := (mSeq (mSet 5 (mFz (mL fStrD (lCons (mA lstO (aCons (mVar 2) (aCons (mVar 3) aNil))) lNil)))) (mSeq (mSet 6 (mDgetE (mCallM sem__law_table (aCons (mVar 2) (aCons (mVar 3) aNil))) (mA tupleO (aCons (mVar 3) aNil)))) (mSeq (mSet 7 (mFz (mCallM sem_least (aCons (mVar 2) (aCons (mVar 3) aNil))))) (mSeq (mIf (mT (mL fIsN (lSee 6 (lCons (mC .none) lNil)))) (mSeq (mRet (vAnd (mL fIsN (lSee 7 (lCons (mC .none) lNil))) (mL fEq (lCons (mL fStrD (lCons (mA lstO (aCons (mVar 2) (aCons (mVar 3) aNil))) lNil)) (lSee 5 lNil))))) mNil) mNil) (mSeq (mIf (tOrM (tNotM (mT (mCallM sem__law_right_1657 (aCons (mVar 2) (aCons (mVar 3) (aCons (mVar 7) (aCons (mVar 6) aNil))))))) (mT (mL fNe (lCons (mL fStrD (lCons (mA lstO (aCons (mVar 2) (aCons (mVar 3) aNil))) lNil)) (lSee 5 lNil))))) (mSeq (mRet (mC (.bool false))) mNil) mNil) (mSeq (mSet 8 (mCallM sem_least (aCons (mVar 2) (aCons (mVar 3) aNil)))) (mSeq (mIf (mPeekT [8] (mT (mL fNe (lSee 7 (lSee 8 lNil))))) (mSeq (mRet (mC (.bool false))) mNil) mNil) (mSeq (mForY 8 [(bC (.int 1))] 9 b_law_k13_1) (mSeq (mIf (mPeekT [8] (mT (mL fNe (lCons (mLc (iE (aCons (mLk ixO (lSee 8 (lCons (mC (.int 1)) lNil))) aNil)) (.tp [(.n 10), (.n 9)]) ct_law_k13_1 ce_law_k13_1 [10, 9]) (lCons (mA lstO aNil) lNil))))) (mSeq (mRet (mC (.bool false))) mNil) mNil) (mSeq (mDrop (mUpK 8 [(bC (.int 1))] aNil uClear)) (mSeq (mSet 11 (mFz (mCallM sem_least (aCons (mVar 2) (aCons (mVar 3) aNil))))) (mSeq (mDrop (mCallM sem_least (aCons (mVar 2) (aCons (mFz (mA repO (aCons (mA lstO (aCons (mC (.int 0)) aNil)) (aCons (mVar 1) aNil)))) aNil)))) (mSeq (mIf (mT (mL fNe (lSee 11 (lSee 7 lNil)))) (mSeq (mRet (mC (.bool false))) mNil) mNil) mNil)))))))))))))
def m_law_k13 : MS := (mSeq (mAsg (.tp [(.n 1), (.n 2), (.n 3), (.n 4)]) (mCallM sem__law_case_2562 (aCons (mVar 0) (aCons (mC (.int 130)) aNil)))) (mSeq (mIso [2, 3, 1] g_law_k13_1) (mSeq (mFrz [3]) (mSeq (mRet (mBeh sem__law_behind_a235 2 3)) mNil))))
def sem_law_k13 : Sem1 := runF 12 (List.replicate 1 false) m_law_k13
theorem un_law_k13 (x0 : O) : sem_law_k13 [x0] = fin (List.replicate 1 false) (m_law_k13 [.own x0, .no, .no, .no, .no, .no, .no, .no, .no, .no, .no, .no]) := id rfl
end
end Dn
namespace Dn
open PySem L2
theorem pop_ok (ds : List Int) : ∃ (n : Int) (ds' : List Int), sem__law_pop [.l (ds.map oi)] = some (oi n, [.l (ds'.map oi)]) := by
  cases ds with
  | nil => exact ⟨0, [], by
      have h := fEq_nil []
      simp at h
      simp [un__law_pop, m__law_pop, h]⟩
  | cons n ds => exact ⟨n, ds, by
      have h := fEq_nil (n :: ds)
      simp at h
      simp [un__law_pop, m__law_pop, h]⟩
def casesI (w : List Int) : Int := w.foldl (fun a n => a * (n + 1)) 1
def restL (w c : List Int) : List Int := (w.zip c).map fun p => max 0 (p.1 - p.2)
theorem rest_ok (w c : List Int) (hl : w.length ≤ 1000) : sem_rest [.v (.list (w.map .int)), .v (.list (c.map .int))] = some (.l ((restL w c).map oi), []) := by
  have hm : min w.length c.length ≤ 16777216 := by omega
  have h : lcL (.tp [(.n 2), (.n 3)]) mYes ce_rest_1 [2, 3] (((w.zip c)).map fun p => .t [oi p.1, oi p.2]) [.own (.v (.list (w.map .int))), .own (.v (.list (c.map .int))), .no, .no] = some ((w.zip c).map (fun p => oi (max 0 (p.1 - p.2))), [.own (.v (.list (w.map .int))), .own (.v (.list (c.map .int))), .no, .no]) := by
    refine lc_map _ fun p _ => ?_
    have : (if p.1 - p.2 > 0 then p.1 - p.2 else 0) = max 0 (p.1 - p.2) := by omega
    simp [ce_rest_1]
    exact ⟨_, ⟨by omega, rfl⟩, rfl⟩
  simp [un_rest, m_rest, zipO_map, h, hm, restL]
end Dn
namespace Dn
open PySem L2
theorem cases_zero (w : List Int) (h : ∀ n ∈ w, n = 0) : casesI w = 1 := by
  have : ∀ (w : List Int) (a : Int), (∀ n ∈ w, n = 0) → w.foldl (fun a n => a * (n + 1)) a = a := by
    intro w
    induction w with
    | nil => intro a _; rfl
    | cons n w ih =>
      intro a h
      rw [List.foldl_cons, ih _ fun m hm => h m (List.mem_cons_of_mem _ hm), h n (List.mem_cons_self ..)]
      simp
  exact this w 1 h
theorem sum_set : ∀ (w : List Int) (j : Nat) (m : Int), w[j]? = some m → 1 ≤ m → ((w.set j (m - 1)).map Int.toNat).sum < (w.map Int.toNat).sum
  | [], j, m, h, _ => by simp at h
  | n :: w, 0, m, h, h1 => by
    simp at h
    subst h
    simp; omega
  | n :: w, j + 1, m, h, h1 => by
    have ih := sum_set w j m (by simpa using h) h1
    simp only [List.set_cons_succ, List.map_cons, List.sum_cons]; omega
theorem idx_ok (m : Int) : ∀ (w : List Int) (n : Nat), m ∈ w → ∃ j, idxD (.int m) (w.map .int) n = some (n + j) ∧ w[j]? = some m
  | [], n, h => by simp at h
  | x :: w, n, h => by
    by_cases hx : x = m
    · exact ⟨0, by simp [idxD, PyData.eqv, hx], by simp [hx]⟩
    · have hm : m ∈ w := by
        rcases List.mem_cons.mp h with e | h
        · exact absurd e.symm hx
        · exact h
      obtain ⟨j, h1, h2⟩ := idx_ok m w (n + 1) hm
      exact ⟨j + 1, by simp [idxD, PyData.eqv, hx, h1]; omega, by simpa using h2⟩
theorem maxL_in (n : Int) (ns : List Int) : maxL n ns ∈ n :: ns := by
  rcases maxL_mem n ns with h | h
  · rw [h]; exact List.mem_cons_self ..
  · exact List.mem_cons_of_mem _ h
structure Want (n : Nat) (w : List Int) : Prop where
  len : w.length = n
  nine : ∀ x ∈ w, 0 ≤ x ∧ x ≤ 9
end Dn
namespace Dn
open PySem L2
inductive Off where
  | pack (c : List Int) (p : Int)
  | many (c : List Int) (ts : List (Int × Int))
  | add (c : List Int) (p : Int) (k : Int)
def tierD (t : Int × Int) : PyData := .tuple [.int t.1, .int t.2]
namespace Off
def kd : Off → Str
  | pack _ _ => "pack"
  | many _ _ => "many"
  | add _ _ _ => "add"
def c : Off → List Int
  | pack c _ => c
  | many c _ => c
  | add c _ _ => c
def d : Off → PyData
  | pack c p => .tuple [.str "pack", .list (c.map .int), .int p]
  | many c ts => .tuple [.str "many", .list (c.map .int), .list (ts.map tierD)]
  | add c p k => .tuple [.str "add", .list (c.map .int), .int p, .int k]
def isPack : Off → Bool
  | pack _ _ => true
  | _ => false
def isMany : Off → Bool
  | many _ _ => true
  | _ => false
def isAdd : Off → Bool
  | add _ _ _ => true
  | _ => false
end Off
theorem fEq_str (x y : Str) (hx : PyData.strOk x = true) (hy : PyData.strOk y = true) : fEq [.str x, .str y] = some (.bool (decide (x = y))) := by
  simp [fEq_ap, hx, hy, PyData.eqv]; rfl
theorem ok_pack : PyData.strOk "pack" = true := by decide +kernel
theorem ok_many : PyData.strOk "many" = true := by decide +kernel
theorem ok_add : PyData.strOk "add" = true := by decide +kernel
theorem kd_ok (o : Off) : PyData.strOk o.kd = true := by cases o <;> first | exact ok_pack | exact ok_many | exact ok_add
@[simp] theorem fEq_kp (o : Off) : fEq [.str o.kd, .str "pack"] = some (.bool o.isPack) := by
  rw [fEq_str _ _ (kd_ok o) ok_pack]
  cases o <;> (simp only [Off.kd, Off.isPack]; congr 2)
@[simp] theorem fEq_km (o : Off) : fEq [.str o.kd, .str "many"] = some (.bool o.isMany) := by
  rw [fEq_str _ _ (kd_ok o) ok_many]
  cases o <;> (simp only [Off.kd, Off.isMany]; congr 2)
@[simp] theorem fEq_ka (o : Off) : fEq [.str o.kd, .str "add"] = some (.bool o.isAdd) := by
  rw [fEq_str _ _ (kd_ok o) ok_add]
  cases o <;> (simp only [Off.kd, Off.isAdd]; congr 2)
@[simp] theorem ixO_d0 (o : Off) : ixO [.v o.d, .v (.int 0)] = some (.str o.kd) := by cases o <;> simp [Off.d, Off.kd]
@[simp] theorem ixO_d1 (o : Off) : ixO [.v o.d, .v (.int 1)] = some (.list (o.c.map .int)) := by cases o <;> simp [Off.d, Off.c]
@[simp] theorem nb_d (o : Off) : nb o.d 3 = true := by
  cases o <;> simp [Off.d, ok_pack, ok_many, ok_add, tierD]
structure Tiers (ts : List (Int × Int)) : Prop where
  len : 1 ≤ ts.length ∧ ts.length ≤ 4
  one : (ts.map (·.1)).head? = some 1
  up : (ts.map (·.1)).Pairwise (· < ·)
  most : ∀ t ∈ ts, 1 ≤ t.1 ∧ t.1 ≤ 12
  price : ∀ t ∈ ts, 0 ≤ t.2 ∧ t.2 < 2000000000000
structure GoodO (n : Nat) (sh : List Off) (i : Nat) (o : Off) : Prop where
  w : Want n o.c
  sum : 0 < o.c.sum
  kind : match o with
    | .pack _ p => 0 ≤ p ∧ p < 1000000000000
    | .many _ ts => Tiers ts
    | .add _ p k => (0 ≤ p ∧ p < 1000000000000) ∧ 0 ≤ k ∧ k < i ∧ ∃ c p', sh[k.toNat]? = some (.pack c p')
def Good (n : Nat) (sh : List Off) : Prop := ∀ i o, sh[i]? = some o → GoodO n sh i o
structure TierI (pre : Nat) (ts : List (Int × Int)) (at' : Int) : Prop where
  len : ts.length ≤ pre
  pos : 1 ≤ at' ∧ (ts = [] → at' = 1) ∧ (pre ≠ 0 → ts ≠ [])
  one : ts ≠ [] → (ts.map (·.1)).head? = some 1
  up : (ts.map (·.1)).Pairwise (· < ·)
  most : ∀ t ∈ ts, 1 ≤ t.1 ∧ t.1 ≤ 12 ∧ t.1 < at'
  price : ∀ t ∈ ts, 0 ≤ t.2 ∧ t.2 < 1000000000000
end Dn
namespace Dn
open PySem L2
theorem Good.snoc {n : Nat} {sh : List Off} {o : Off} (h : Good n sh) (ho : GoodO n sh sh.length o) : Good n (sh ++ [o]) := by
  have lift : ∀ (i : Nat) (x : Off), GoodO n sh i x → i ≤ sh.length → GoodO n (sh ++ [o]) i x := fun i x hx hi => by
    refine ⟨hx.w, hx.sum, ?_⟩
    have := hx.kind
    cases x with
    | pack c p => exact this
    | many c ts => exact this
    | add c p k =>
      obtain ⟨a, b, c', ⟨c2, p2, h2⟩⟩ := this
      refine ⟨a, b, c', c2, p2, ?_⟩
      rw [List.getElem?_append_left (by omega)]
      exact h2
  intro i x hx
  by_cases hi : i < sh.length
  · rw [List.getElem?_append_left hi] at hx
    exact lift i x (h i x hx) (by omega)
  · have hl := (List.getElem?_eq_some_iff.mp hx).1
    simp at hl
    have : i = sh.length := by omega
    subst this
    simp at hx
    subst hx
    exact lift _ _ ho (Nat.le_refl _)
end Dn
namespace Dn
open PySem L2
theorem cutG_take {α : Type} (xs : List α) (n : Nat) : cutG xs none (some (n : Int)) = xs.take n := by
  unfold cutG
  rw [HT.sIx_none, HT.sIx_nat, List.drop_zero, Nat.sub_zero]
  by_cases h : n ≤ xs.length
  · rw [Nat.min_eq_left h]
  · rw [Nat.min_eq_right (by omega), List.take_length, List.take_of_length_le (by omega)]
theorem cutG_drop {α : Type} (xs : List α) (n : Nat) : cutG xs (some (n : Int)) none = xs.drop n := by
  unfold cutG
  rw [HT.sIx_none, HT.sIx_nat]
  by_cases h : n ≤ xs.length
  · rw [Nat.min_eq_left h, List.take_of_length_le (by simp)]
  · rw [Nat.min_eq_right (by omega), List.drop_of_length_le (by omega), List.drop_of_length_le (by omega)]
    simp
@[simp] theorem slO_l (xs : List O) (lo hi : Option Int) : slO (.l xs) lo hi = some (.l (cutG xs lo hi)) := id rfl
@[simp] theorem slO_v (ds : List PyData) (lo hi : Option Int) : slO (.v (.list ds)) lo hi = some (.l (cutG (ds.map .v) lo hi)) := id rfl
theorem cutG_map1 {α β : Type} (f : α → β) (xs : List α) (lo hi : Option Int) : cutG (xs.map f) lo hi = (cutG xs lo hi).map f := cutG_map f xs lo hi
def startsL (ts : List (Int × Int)) : List Int := ts.map (·.1)
theorem atI_last {α : Type} (xs : List α) (x : α) : atI (xs ++ [x]) (-1) = some x := by
  unfold atI ixN
  rw [if_neg (by decide), if_pos (by simp; omega)]
  have : (-1 + ((xs ++ [x]).length : Int)).toNat = xs.length := by simp; omega
  rw [this]
  simp
theorem tiersR_ok (ts : List (Int × Int)) (h : Tiers ts) : sem_tiers_right [.v (.list (ts.map tierD))] = some (.v (.bool true), []) := by
  have hl : ts.length ≤ 4 := h.len.2
  have hlc : lcL (.tp [(.n 2), (.n 3)]) mYes ce_tiers_right_1 [2, 3] (ts.map fun t => .v (tierD t)) [.own (.v (.list (ts.map tierD))), .no, .no, .no, .no] = some ((startsL ts).map oi, [.own (.v (.list (ts.map tierD))), .no, .no, .no, .no]) := by
    rw [startsL, List.map_map]
    refine lc_map _ fun t _ => ?_
    simp [ce_tiers_right_1, tierD]
  have hsl : (startsL ts).length = ts.length := by simp [startsL]
  obtain ⟨r, hr⟩ : ∃ r, startsL ts = 1 :: r := by
    have := h.one
    cases hs : startsL ts with
    | nil => rw [startsL] at hs; rw [hs] at this; simp at this
    | cons x r => rw [startsL] at hs; rw [hs] at this; simp at this; exact ⟨r, by rw [this]⟩
  obtain ⟨u, z, hz⟩ : ∃ u z, startsL ts = u ++ [z] := by
    have hne : startsL ts ≠ [] := by rw [hr]; simp
    exact ⟨_, _, (List.dropLast_concat_getLast hne).symm⟩
  have hz12 : z ≤ 12 := by
    have : z ∈ startsL ts := by rw [hz]; simp
    obtain ⟨t, ht, rfl⟩ := List.mem_map.mp this
    exact (h.most t ht).2
  have hcut : cutG ((startsL ts).map fun n => O.v (.int n)) none (some 1) = [oi 1] := by
    rw [show (1 : Int) = ((1 : Nat) : Int) from rfl, cutG_take, hr]; rfl
  have hlast : atI (startsL ts) (-1) = some z := by rw [hz]; exact atI_last u z
  have hall : ∀ e : En, e[1]? = some (.own (.v (.list ((startsL ts).map .int)))) → e[4]? = some .no → lcL (.n 4) mYes ce_tiers_right_2 [4] ((List.range (ts.length - 1)).map fun (k : Nat) => O.v (.int (k : Int))) e = some ((List.range (ts.length - 1)).map (fun _ => O.v (.bool true)), e) := fun e h1 h4 => by
    refine lc_map1 h4 _ fun k hk e' g1 g2 => ?_
    simp at hk
    have hp := List.pairwise_iff_getElem.mp h.up k (k + 1) (by simp; omega) (by simp; omega) (by omega)
    obtain ⟨a, ha⟩ : ∃ a, (startsL ts)[k]? = some a := ⟨_, List.getElem?_eq_getElem (by omega)⟩
    obtain ⟨b, hb⟩ : ∃ b, (startsL ts)[k + 1]? = some b := ⟨_, List.getElem?_eq_getElem (by omega)⟩
    have hab : a < b := by
      have e1 := (List.getElem?_eq_some_iff.mp ha).2
      have e2 := (List.getElem?_eq_some_iff.mp hb).2
      simp only [startsL] at e1 e2
      rw [e1, e2] at hp
      exact hp
    have e1 : atI (startsL ts) (k : Int) = some a := atI_nat rfl ha
    have e2 : atI (startsL ts) ((k : Int) + 1) = some b := atI_nat (j := k + 1) (by omega) hb
    simp [ce_tiers_right_2, g1, g2, h1, e1, e2, hab]
  have b1 : -4611686018427387904 ≤ (ts.length : Int) - 1 := by omega
  have b2 : (ts.length : Int) - 1 < 4611686018427387904 := by omega
  have b3 : ((ts.length : Int) - 1).toNat = ts.length - 1 := by omega
  have b4 : ts.length ≤ 16777216 := by omega
  have b5 : ts.length ≤ 16777217 := by omega
  have b6 : ¬ 4 < (ts.length : Int) := by omega
  have b7 : ¬ 12 < z := by omega
  have fne : fNe [.list [.int 1], .list [.int 1]] = some (.bool false) := fNe_same 1 (by decide) (by simp)
  have hne1 : ¬ 4 < ts.length := by omega
  have hbb : (List.range (ts.length - 1)).map (fun _ => PyData.bool true) = ((List.range (ts.length - 1)).map fun _ => true).map .bool := by simp
  simp [un_tiers_right, m_tiers_right, hlc, hcut, fne, hsl, hlast, b1, b2, b3, b4, b5, b6, b7, hne1, hall]
@[simp] theorem ixO_a2 (c : List Int) (p k : Int) : ixO [.v (Off.add c p k).d, .v (.int 2)] = some (.int p) := by simp [Off.d]
@[simp] theorem ixO_a3 (c : List Int) (p k : Int) : ixO [.v (Off.add c p k).d, .v (.int 3)] = some (.int k) := by simp [Off.d]
@[simp] theorem ixO_p2 (c : List Int) (p : Int) : ixO [.v (Off.pack c p).d, .v (.int 2)] = some (.int p) := by simp [Off.d]
@[simp] theorem ixO_m2 (c : List Int) (ts : List (Int × Int)) : ixO [.v (Off.many c ts).d, .v (.int 2)] = some (.list (ts.map tierD)) := by simp [Off.d]
@[simp] theorem isPack_p (c : List Int) (p : Int) : (Off.pack c p).isPack = true := id rfl
@[simp] theorem isPack_m (c : List Int) (ts : List (Int × Int)) : (Off.many c ts).isPack = false := id rfl
@[simp] theorem isPack_a (c : List Int) (p k : Int) : (Off.add c p k).isPack = false := id rfl
@[simp] theorem isMany_p (c : List Int) (p : Int) : (Off.pack c p).isMany = false := id rfl
@[simp] theorem isMany_m (c : List Int) (ts : List (Int × Int)) : (Off.many c ts).isMany = true := id rfl
@[simp] theorem isMany_a (c : List Int) (p k : Int) : (Off.add c p k).isMany = false := id rfl
@[simp] theorem isAdd_p (c : List Int) (p : Int) : (Off.pack c p).isAdd = false := id rfl
@[simp] theorem isAdd_m (c : List Int) (ts : List (Int × Int)) : (Off.many c ts).isAdd = false := id rfl
@[simp] theorem isAdd_a (c : List Int) (p k : Int) : (Off.add c p k).isAdd = true := id rfl
abbrev shopD (sh : List Off) : PyData := .list (sh.map Off.d)
theorem enu_shop (sh : List Off) : enuO 0 (sh.map fun o => O.v o.d) = (sh.zipIdx 0).map fun p => .t [oi (p.2 : Nat), .v p.1.d] := enuO_map _ 0 sh
theorem zipIdx_get {α : Type} {xs : List α} {p : α × Nat} (h : p ∈ xs.zipIdx 0) : xs[p.2]? = some p.1 := by
  have := List.mem_zipIdx_iff_getElem?.mp h
  simpa using this
theorem look_ok (n : Nat) (sh : List Off) (hg : Good n sh) : sem_look [.v (shopD sh)] = some (.v .none, []) := by
  have h := (for_fold (tg := .tp [(.n 1), (.n 2)]) (body := b_look_1) (enc := fun (p : Off × Nat) => O.t [oi (p.2 : Nat), .v p.1.d]) (E := fun (_ : Unit) => [.own (.v (shopD sh)), .no, .no, .no]) (step := fun _ _ => ()) (I := fun _ => True) (sh.zipIdx 0) () trivial (by
    intro ⟨o, i⟩ hp _ _
    have ho := zipIdx_get hp
    simp only at ho
    have hk := (hg i o ho).kind
    cases o with
    | pack c p =>
      refine ⟨trivial, _, rfl, ?_⟩
      simp [b_look_1]
    | many c ts =>
      have := tiersR_ok ts hk
      refine ⟨trivial, _, rfl, ?_⟩
      simp [b_look_1, this]
    | add c p k =>
      obtain ⟨-, k0, ki, c', p', hk'⟩ := hk
      have ha : atI sh k = some (.pack c' p') := atI_nat (j := k.toNat) (by omega) hk'
      refine ⟨trivial, _, rfl, ?_⟩
      simp [b_look_1, k0, ki, ha, sV])).1
  simp [un_look, m_look, enu_shop, h]
end Dn
namespace Dn
open PySem L2
def upTo (n : Int) : List Int := (List.range (n + 1).toNat).map fun (k : Nat) => (k : Int)
def les : List Int → List (List Int)
  | [] => [[]]
  | n :: w => (upTo n).flatMap fun k => (les w).map (k :: ·)
theorem upTo_mem {n k : Int} : k ∈ upTo n ↔ 0 ≤ k ∧ k ≤ n := by
  unfold upTo
  simp only [List.mem_map, List.mem_range]
  constructor
  · rintro ⟨a, h, rfl⟩; omega
  · intro ⟨h1, h2⟩; exact ⟨k.toNat, by omega, by omega⟩
theorem les_mem : ∀ {w r : List Int}, r ∈ les w ↔ r.length = w.length ∧ ∀ p ∈ r.zip w, 0 ≤ p.1 ∧ p.1 ≤ p.2
  | [], r => by
    simp only [les, List.mem_singleton, List.length_nil]
    constructor
    · rintro rfl; simp
    · intro h; exact List.length_eq_zero_iff.mp h.1
  | n :: w, r => by
    simp only [les, List.mem_flatMap, List.mem_map, upTo_mem]
    constructor
    · rintro ⟨k, hk, s, hs, rfl⟩
      obtain ⟨h1, h2⟩ := les_mem.mp hs
      refine ⟨by simp [h1], fun p hp => ?_⟩
      simp only [List.zip_cons_cons, List.mem_cons] at hp
      rcases hp with rfl | hp
      · exact hk
      · exact h2 p hp
    · intro ⟨h1, h2⟩
      cases r with
      | nil => simp at h1
      | cons k s =>
        exact ⟨k, h2 (k, n) (by simp), s, les_mem.mpr ⟨by simpa using h1, fun p hp => h2 p (by simp [hp])⟩, rfl⟩
theorem les_len_el {w r : List Int} (h : r ∈ les w) : r.length = w.length := (les_mem.mp h).1
theorem les_count : ∀ (w : List Int), (∀ n ∈ w, 0 ≤ n) → ∀ a : Int, w.foldl (fun a n => a * (n + 1)) a = a * ((les w).length : Int)
  | [], _, a => by simp [les]
  | n :: w, h, a => by
    have hn := h n (List.mem_cons_self ..)
    rw [List.foldl_cons, les_count w (fun m hm => h m (List.mem_cons_of_mem _ hm))]
    have : (les (n :: w)).length = (n + 1).toNat * (les w).length := by
      simp only [les]
      have hc : ∀ (l : List Int), (l.flatMap fun k => (les w).map (k :: ·)).length = l.length * (les w).length := by
        intro l
        induction l with
        | nil => simp
        | cons k l ih => simp [ih, Nat.add_mul]; omega
      rw [hc, upTo, List.length_map, List.length_range]
    rw [this, Int.natCast_mul, Int.toNat_of_nonneg (by omega), Int.mul_assoc]
theorem les_cases {w : List Int} (h : ∀ n ∈ w, 0 ≤ n) : casesI w = (les w).length := by
  unfold casesI
  rw [les_count w h 1]; omega
def lesStep (rows : List (List Int)) (n : Int) : List (List Int) := rows.flatMap fun r => (upTo n).map fun k => r ++ [k]
theorem les_fold : ∀ (w : List Int) (rows : List (List Int)), w.foldl lesStep rows = rows.flatMap fun r => (les w).map (r ++ ·)
  | [], rows => by
    simp only [List.foldl_nil, les, List.map_cons, List.append_nil, List.map_nil]
    induction rows with
    | nil => rfl
    | cons r rows ih => rw [List.flatMap_cons, ← ih]; rfl
  | n :: w, rows => by
    rw [List.foldl_cons, les_fold w]
    simp only [lesStep, les, List.flatMap_assoc, List.flatMap_map, List.map_flatMap, List.map_map]
    congr 1
    funext r
    congr 1
    funext k
    congr 1
    funext s
    simp
theorem les_eq (w : List Int) : w.foldl lesStep [[]] = les w := by
  rw [les_fold]; simp
abbrev rowO (r : List Int) : O := .l (r.map oi)
abbrev rowD (r : List Int) : PyData := .list (r.map .int)
@[simp] theorem toDs_rows (rows : List (List Int)) : O.toDs (rows.map rowO) = some (rows.map rowD) := toDs_map (fun r => by simp) rows
@[simp] theorem toDs_rows' (rows : List (List Int)) : O.toDs (rows.map fun r => O.l (r.map oi)) = some (rows.map rowD) := toDs_rows rows
theorem upTo_len {n : Int} (h : 0 ≤ n ∧ n ≤ 9) : (upTo n).length ≤ 10 := by simp [upTo]; omega
theorem lesStep_len (rows : List (List Int)) {n : Int} (h : 0 ≤ n ∧ n ≤ 9) : (lesStep rows n).length ≤ 10 * rows.length := by
  unfold lesStep
  have := upTo_len h
  induction rows with
  | nil => simp
  | cons r rows ih => simp only [List.flatMap_cons, List.length_append, List.length_map, List.length_cons]; omega
theorem lesser_row (w : List Int) (fr : O) (n : Int) (hn : 0 ≤ n ∧ n ≤ 9) (acc : List (List Int)) (r : List Int) (ha : acc.length ≤ 1000000) (hr : r.length ≤ 1000) :
    b_lesser_1 [.own (.v (.list (w.map .int))), .own fr, .own (.v (.int n)), .own (.l (acc.map rowO)), .own (.v (rowD r)), .no] = some (.nx [.own (.v (.list (w.map .int))), .own fr, .own (.v (.int n)), .own (.l ((acc ++ (upTo n).map fun k => r ++ [k]).map rowO)), .no, .no]) := by
  have hb1 : -4611686018427387904 ≤ n + 1 := by omega
  have hb2 : n + 1 < 4611686018427387904 := by omega
  have h10 : (n + 1).toNat ≤ 16777216 := by omega
  have h11 : acc.length + (n + 1).toNat ≤ 16777216 := by omega
  have hlc : ∀ e : En, e[5]? = some .no → e[4]? = some (.own (.v (rowD r))) → lcL (.n 5) mYes ce_lesser_1 [5] ((List.range (n + 1).toNat).map fun (k : Nat) => O.v (.int (k : Int))) e = some ((List.range (n + 1).toNat).map (fun (k : Nat) => rowO (r ++ [(k : Int)])), e) := fun e h5 h4 => by
    refine lc_map1 h5 _ fun k hk e' h1 h2 => ?_
    have hl : r.length ≤ 16777215 := by omega
    simp [ce_lesser_1, h1, h2, h4, hl]
  simp [b_lesser_1, hb1, hb2, h10, h11, hlc, upTo, Function.comp_def]
theorem lesser_ok (w : List Int) (hw : ∀ n ∈ w, 0 ≤ n ∧ n ≤ 9) (hlen : w.length ≤ 4) : sem_lesser [.v (.list (w.map .int))] = some (.l ((les w).map rowO), []) := by
  obtain ⟨rows, h, hr⟩ := for_inv (tg := .n 2) (body := b_lesser_2) (enc := fun (n : Int) => O.v (.int n)) (E := fun (rows : List (List Int)) => [.own (.v (.list (w.map .int))), .own (.l (rows.map rowO)), .no, .no, .no, .no])
    (fun pre rows => rows = pre.foldl lesStep [[]] ∧ rows.length ≤ 10 ^ pre.length ∧ ∀ r ∈ rows, r.length = pre.length) (all := w) w [] [[]] rfl (by simp) (by
    intro pre n post rows hall ⟨hI, hI2, hI3⟩
    have hn := hw n (by rw [hall]; simp)
    have hpl : pre.length < 4 := by have := congrArg List.length hall; simp at this; omega
    have hrl : rows.length ≤ 10000 := Nat.le_trans hI2 (Nat.le_trans (Nat.pow_le_pow_right (by decide) (by omega)) (show 10 ^ 4 ≤ 10000 by decide))
    refine ⟨lesStep rows n, _, rfl, ?_, ?_, ?_, ?_⟩
    · obtain ⟨acc, h1, h2⟩ := for_inv (tg := .n 4) (body := b_lesser_1) (enc := fun (r : List Int) => O.v (rowD r)) (E := fun (acc : List (List Int)) => [.own (.v (.list (w.map .int))), .own (.v (.list (rows.map rowD))), .own (.v (.int n)), .own (.l (acc.map rowO)), .no, .no])
        (fun pre acc => acc = lesStep pre n) (all := rows) rows [] [] rfl rfl (by
        intro pre' r post' acc hall' hacc
        have hr := hI3 r (by rw [hall']; simp)
        have hpl' : pre'.length ≤ rows.length := by rw [hall']; simp
        refine ⟨acc ++ (upTo n).map fun k => r ++ [k], _, rfl, ?_, ?_⟩
        · refine lesser_row w _ n hn acc r ?_ (by omega)
          rw [hacc]
          have := lesStep_len pre' hn
          omega
        · rw [hacc]; simp [lesStep])
      simp at h1
      simp [b_lesser_2, h1, h2]
    · rw [hI, List.foldl_append]; rfl
    · rw [List.length_append, List.length_singleton, Nat.pow_succ]
      have := lesStep_len rows hn
      omega
    · intro r hr
      simp only [lesStep, List.mem_flatMap, List.mem_map] at hr
      obtain ⟨r0, h0, k, hk, rfl⟩ := hr
      simp [hI3 r0 h0])
  have hr2 := hr.1
  rw [les_eq] at hr2
  subst hr2
  simp only [rowO, List.map_cons, List.map_nil] at h
  simp [un_lesser, m_lesser, h]
end Dn
namespace Dn
open PySem L2
theorem les_cons (n : Int) (w : List Int) : les (n :: w) = (upTo n).flatMap fun k => (les w).map (k :: ·) := rfl
end Dn
namespace Dn
open PySem L2
def lexI : List Int → List Int → Bool
  | [], [] => false
  | [], _ :: _ => true
  | _ :: _, [] => false
  | x :: xs, y :: ys => if x = y then lexI xs ys else decide (x < y)
open PySem.W PyProof.Rows in
theorem toks_lex : ∀ a b : List Int, PyProof.Rows.lexLt itemOrd (PySem.W.keyToksAll (a.map .int)) (PySem.W.keyToksAll (b.map .int)) = lexI a b
  | [], [] => by simp [lex_irrefl, lexI]
  | [], y :: b => by
    rw [List.map_cons, PySem.W.toks_all_cons]
    simp only [List.map_nil, PySem.W.keyToksAll]
    rw [lex_diff (O := itemOrd) (by simp)]
    simp [itemLt, lexI]
  | x :: a, [] => by
    rw [List.map_cons, PySem.W.toks_all_cons]
    simp only [List.map_nil, PySem.W.keyToksAll]
    rw [lex_diff (O := itemOrd) (by simp)]
    simp [itemLt, lexI]
  | x :: a, y :: b => by
    rw [List.map_cons, List.map_cons]
    have hal : PySem.W.alike (.int x) (.int y) = true := by simp [PySem.W.alike]
    by_cases h : x = y
    · rw [PySem.W.dataLt_all_yes hal (by simp [PyData.eqv, h]), toks_lex a b]
      simp [lexI, h]
    · rw [PySem.W.dataLt_all_no hal (by simp [PyData.eqv, h]), PySem.W.dataLt_int]
      simp [lexI, h]
theorem dataLt_row (a b : List Int) : PySem.W.dataLt (rowD a) (rowD b) = lexI a b := by
  rw [PySem.W.dataLt_list, toks_lex]
theorem upTo_snoc {n : Int} (h : 0 ≤ n) : ∃ t, upTo n = t ++ [n] := by
  unfold upTo
  rw [show (n + 1).toNat = n.toNat + 1 by omega, List.range_succ, List.map_append]
  refine ⟨(List.range n.toNat).map fun (k : Nat) => (k : Int), ?_⟩
  simp; omega
theorem les_last : ∀ (w : List Int), (∀ n ∈ w, 0 ≤ n) → ∃ t, les w = t ++ [w]
  | [], _ => ⟨[], rfl⟩
  | n :: w, h => by
    obtain ⟨t, ht⟩ := les_last w fun m hm => h m (List.mem_cons_of_mem _ hm)
    obtain ⟨u, hu⟩ := upTo_snoc (h n (List.mem_cons_self ..))
    rw [les_cons, hu, List.flatMap_append, ht]
    refine ⟨(u.flatMap fun k => (t ++ [w]).map (k :: ·)) ++ t.map (n :: ·), ?_⟩
    simp only [List.flatMap_cons, List.flatMap_nil, List.append_nil, List.map_append, List.map_cons, List.map_nil, ← List.append_assoc]
theorem upTo_pair (n : Int) : (upTo n).Pairwise (· < ·) := by
  unfold upTo
  rw [List.pairwise_map]
  exact List.Pairwise.imp (fun h => by omega) List.pairwise_lt_range
theorem les_pair : ∀ (w : List Int), (les w).Pairwise fun a b => lexI a b = true
  | [] => by simp [les]
  | n :: w => by
    rw [les_cons]
    have ih := les_pair w
    have := upTo_pair n
    generalize upTo n = l at this
    induction l with
    | nil => simp
    | cons k l ihl =>
      obtain ⟨h1, h2⟩ := List.pairwise_cons.mp this
      rw [List.flatMap_cons, List.pairwise_append]
      refine ⟨?_, ihl h2, fun a ha b hb => ?_⟩
      · rw [List.pairwise_map]
        exact ih.imp fun h => by simpa [lexI] using h
      · obtain ⟨a', _, rfl⟩ := List.mem_map.mp ha
        obtain ⟨j, hj, hb⟩ := List.mem_flatMap.mp hb
        obtain ⟨b', _, rfl⟩ := List.mem_map.mp hb
        have := h1 j hj
        have hne : ¬ k = j := by omega
        simp [lexI, hne, this]
def covB (c r : List Int) : Bool := (c.zip r).all fun p => decide (p.2 ≤ p.1)
theorem covB_iff (c r : List Int) : covB c r = true ↔ ∀ p ∈ r.zip c, p.1 ≤ p.2 := by
  unfold covB
  simp only [List.all_eq_true, decide_eq_true_eq]
  constructor
  · intro h p hp
    have : (p.2, p.1) ∈ c.zip r := by
      induction r generalizing c with
      | nil => simp at hp
      | cons x r ih =>
        cases c with
        | nil => simp at hp
        | cons y c =>
          simp only [List.zip_cons_cons, List.mem_cons] at hp ⊢
          rcases hp with rfl | hp
          · exact .inl rfl
          · exact .inr (ih c (fun q hq => h q (by simp [hq])) hp)
    exact h _ this
  · intro h p hp
    have : (p.2, p.1) ∈ r.zip c := by
      induction c generalizing r with
      | nil => simp at hp
      | cons x c ih =>
        cases r with
        | nil => simp at hp
        | cons y r =>
          simp only [List.zip_cons_cons, List.mem_cons] at hp ⊢
          rcases hp with rfl | hp
          · exact .inl rfl
          · exact .inr (ih r (fun q hq => h q (by simp [hq])) hp)
    exact h _ this
theorem restL_len (w c : List Int) : (restL w c).length = min w.length c.length := by simp [restL]
theorem restL_rest : ∀ (w a b : List Int), (∀ x ∈ b, 0 ≤ x) → restL (restL w a) b = restL w ((a.zip b).map fun p => p.1 + p.2)
  | [], _, _, _ => by simp [restL]
  | _ :: _, [], _, _ => by simp [restL]
  | _ :: _, _ :: _, [], _ => by simp [restL]
  | x :: w, y :: a, z :: b, h => by
    have ih := restL_rest w a b fun u hu => h u (List.mem_cons_of_mem _ hu)
    have := h z (List.mem_cons_self ..)
    simp only [restL, List.zip_cons_cons, List.map_cons, List.cons.injEq] at ih ⊢
    exact ⟨by omega, ih⟩
theorem restL_les {w c : List Int} (hw : ∀ x ∈ w, 0 ≤ x) (hc : ∀ x ∈ c, 0 ≤ x) (hl : c.length = w.length) : restL w c ∈ les w := by
  rw [les_mem]
  refine ⟨by rw [restL_len]; omega, ?_⟩
  induction w generalizing c with
  | nil => simp
  | cons x w ih =>
    cases c with
    | nil => simp at hl
    | cons y c =>
      intro p hp
      simp only [restL, List.zip_cons_cons, List.map_cons, List.mem_cons] at hp
      rcases hp with rfl | hp
      · have h1 := hw x (List.mem_cons_self ..)
        have h2 := hc y (List.mem_cons_self ..)
        simp only; omega
      · exact ih (fun u hu => hw u (List.mem_cons_of_mem _ hu)) (fun u hu => hc u (List.mem_cons_of_mem _ hu)) (by simpa using hl) p hp
theorem restL_zero (w c : List Int) (hl : c.length = w.length) : restL w c = reps w.length 0 ↔ covB c w = true := by
  induction w generalizing c with
  | nil => cases c <;> simp [restL, reps, covB]
  | cons x w ih =>
    cases c with
    | nil => simp at hl
    | cons y c =>
      have := ih c (by simpa using hl)
      simp only [restL, covB, reps, List.zip_cons_cons, List.map_cons, List.length_cons, List.replicate_succ, List.cons.injEq, List.all_cons, Bool.and_eq_true, decide_eq_true_eq] at this ⊢
      rw [this]
      constructor
      · intro ⟨h1, h2⟩; exact ⟨by omega, h2⟩
      · intro ⟨h1, h2⟩; exact ⟨by omega, h2⟩
end Dn
namespace Dn
open PySem L2
def isAddOf (place : Int) : Off → Bool
  | .add _ _ k => decide (k = place)
  | _ => false
def addsL (sh : List Off) (place : Int) : List Int := ((sh.zipIdx 0).filter fun p => isAddOf place p.1).map fun p => ((p.2 : Nat) : Int)
theorem adds_of_ok (sh : List Off) (place : Int) (hl : sh.length ≤ 1000) : sem_adds_of [.v (shopD sh), oi place] = some (.l ((addsL sh place).map oi), []) := by
  have h : lcL (.tp [(.n 2), (.n 3)]) ct_adds_of_1 ce_adds_of_1 [2, 3] ((sh.zipIdx 0).map fun p => .t [oi (p.2 : Nat), .v p.1.d]) [.own (.v (shopD sh)), .own (oi place), .no, .no] = some ((addsL sh place).map oi, [.own (.v (shopD sh)), .own (oi place), .no, .no]) := by
    rw [addsL, List.map_map]
    refine lc_filter (p := fun (p : Off × Nat) => isAddOf place p.1) _ fun p _ => ?_
    obtain ⟨o, i⟩ := p
    refine ⟨[.own (.v (shopD sh)), .own (oi place), .own (oi (i : Nat)), .own (.v o.d)], [.own (.v (shopD sh)), .own (oi place), .own (oi (i : Nat)), .own (.v o.d)], [.own (.v (shopD sh)), .own (oi place), .own (oi (i : Nat)), .own (.v o.d)], ?_, ?_, fun _ => ⟨?_, ?_⟩, fun _ => ?_⟩
    · simp
    · cases o with
      | pack c p => simp [ct_adds_of_1, isAddOf]
      | many c ts => simp [ct_adds_of_1, isAddOf]
      | add c p k => simp [ct_adds_of_1, isAddOf]
    · simp [ce_adds_of_1]
    · simp
    · simp
  have hl2 : sh.length ≤ 16777216 := by omega
  simp [un_adds_of, m_adds_of, enu_shop, h, hl2]
def dblL (rows : List (List Int)) (x : Int) : List (List Int) := rows ++ rows.map (· ++ [x])
theorem dblRows_rows (x : Int) (rows : List (List Int)) (h : ∀ r ∈ rows, r.length ≤ 1000) : dblRows (.int x) (rows.map rowO) = some ((rows.map (· ++ [x])).map rowO) := by
  induction rows with
  | nil => rfl
  | cons r rows ih =>
    have ih := ih fun r' hr => h r' (List.mem_cons_of_mem _ hr)
    have hr := h r (List.mem_cons_self ..)
    have h1 : dblRow (.int x) (rowO r) = some (rowO (r ++ [x])) := by
      show (match O.allV (r.map oi) with | some ds => if ds.length + 1 ≤ sizeLine then some (O.l ((ds ++ [PyData.int x]).map .v)) else none | none => none) = _
      have : r.length + 1 ≤ 16777216 := by omega
      simp [this]
    rw [List.map_cons, List.map_cons, List.map_cons]
    show (match dblRow (.int x) (rowO r), dblRows (.int x) (rows.map rowO) with | some y, some ys => some (y :: ys) | _, _ => none) = _
    rw [h1, ih]
def sortRows (rows : List (List Int)) : List (List Int) := rows.mergeSort fun a b => !lexI b a
theorem srt_rows (rows : List (List Int)) : srtO [.l (rows.map rowO)] = some (.l ((sortRows rows).map rowO)) := by
  have e1 : (rows.map rowO).zip (rows.map rowD) = rows.map fun r => (rowO r, rowD r) := by
    induction rows with
    | nil => rfl
    | cons r rows ih => simp [ih]
  have e2 : ((rows.map fun r => (rowO r, rowD r)).mergeSort (PySem.W.dataLe false (·.2))).map (·.1) = (sortRows rows).map rowO := by
    rw [merge_map, List.map_map, sortRows]
    congr 1
    congr 1
    funext a b
    rw [PySem.W.dataLe_eq]
    simp [dataLt_row]
  have hal : allAlikeB (rows.map rowD) = true := by
    unfold allAlikeB
    rw [List.all_eq_true]
    intro d hd
    rw [List.all_eq_true]
    intro d' hd'
    obtain ⟨a, _, rfl⟩ := List.mem_map.mp hd
    obtain ⟨b, _, rfl⟩ := List.mem_map.mp hd'
    show PySem.W.alike (.list _) (.list _) = true
    simp [PySem.W.alike, PySem.W.alike_ints]
  have hso : sortableB (rows.map rowD) = true := by
    unfold sortableB
    rw [Bool.or_eq_true]
    right
    rw [List.all_eq_true]
    intro d hd
    obtain ⟨a, _, rfl⟩ := List.mem_map.mp hd
    rfl
  have hdp : (rows.map rowD).all (fun d => decide (d.depth ≤ 60)) = true := by
    rw [List.all_eq_true]
    intro d hd
    obtain ⟨a, _, rfl⟩ := List.mem_map.mp hd
    simp
  show (match O.toDs (rows.map rowO) with | some ds => if allAlikeB ds && sortableB ds && ds.all (fun d => decide (d.depth ≤ 60)) then some (O.l ((((rows.map rowO).zip ds).mergeSort (PySem.W.dataLe false (fun x : O × PyData => x.2))).map (fun x : O × PyData => x.1))) else none | none => none) = _
  rw [toDs_rows]
  simp only [hal, hso, hdp, Bool.and_self, if_true]
  rw [e1, e2]
def choicesL (places : List Int) : List (List Int) := sortRows (places.foldl dblL [[]])
theorem choices_ok (places : List Int) (hl : places.length ≤ 10) : sem_choices [.v (.list (places.map .int))] = some (.l ((choicesL places).map rowO), []) := by
  obtain ⟨rows, h, hr⟩ := for_inv (tg := .n 2) (body := b_choices_1) (enc := fun (n : Int) => O.v (.int n)) (E := fun (rows : List (List Int)) => [.own (.v (.list (places.map .int))), .own (.l (rows.map rowO)), .no, .no])
    (fun pre rows => rows = pre.foldl dblL [[]] ∧ rows.length = 2 ^ pre.length ∧ ∀ r ∈ rows, r.length ≤ pre.length) (all := places) places [] [[]] rfl (by simp) (by
    intro pre x post rows hall ⟨hI, hI2, hI3⟩
    have hpl : pre.length < 10 := by have := congrArg List.length hall; simp at this; omega
    have h1024 : rows.length ≤ 1024 := by
      rw [hI2]
      exact Nat.le_trans (Nat.pow_le_pow_right (by decide) (Nat.le_of_lt hpl)) (by decide)
    have hd := dblRows_rows x rows fun r hr => by have := hI3 r hr; omega
    refine ⟨dblL rows x, _, rfl, ?_, ?_, ?_, ?_⟩
    · have hsz : rows.length + rows.length ≤ 16777216 := by omega
      have : mDbl 1 3 2 [.own (.v (.list (places.map .int))), .own (.l (rows.map rowO)), .own (.v (.int x)), .no] = some (.nx [.own (.v (.list (places.map .int))), .own (.l ((dblL rows x).map rowO)), .own (.v (.int x)), .no]) := by
        show (if (1 : Nat) ≠ 3 ∧ (2 : Nat) ≠ 3 ∧ (rows.map rowO).length + (rows.map rowO).length ≤ sizeLine then (match dblRows (.int x) (rows.map rowO) with | some ys => some (Oc.nx [.own (.v (.list (places.map .int))), .own (.l (rows.map rowO ++ ys)), .own (.v (.int x)), .no]) | none => none) else none) = _
        rw [if_pos ⟨by decide, by decide, by simp; omega⟩, hd]
        simp [dblL]
      simp [b_choices_1, this]
    · rw [hI, List.foldl_append]; rfl
    · simp [dblL, hI2, Nat.pow_succ]; omega
    · intro r hr
      simp only [dblL, List.mem_append, List.mem_map] at hr
      rcases hr with hr | ⟨r', hr, rfl⟩
      · have := hI3 r hr; simp; omega
      · have := hI3 r' hr; simp; omega)
  have hr1 := hr.1
  subst hr1
  have hs := srt_rows (places.foldl dblL [[]])
  simp only [rowO, List.map_cons, List.map_nil] at h
  rw [show choicesL places = sortRows (places.foldl dblL [[]]) from rfl]
  generalize places.foldl dblL [[]] = rows at *
  simp [un_choices, m_choices, h, hs]
abbrev Ln := Int × Int × List Int
def lineO (l : Ln) : O := .t [oi l.1, oi l.2.1, rowO l.2.2]
def lineD (l : Ln) : PyData := .tuple [.int l.1, .int l.2.1, rowD l.2.2]
@[simp] theorem toD_line (l : Ln) : (lineO l).toD = some (lineD l) := by simp [lineO, lineD]
@[simp] theorem toDs_lines (ls : List Ln) : O.toDs (ls.map lineO) = some (ls.map lineD) := toDs_map toD_line ls
def counts12 : List Int := [1, 2, 3, 4, 5, 6, 7, 8, 9, 10, 11, 12]
def linesAt (sh : List Off) (i : Nat) : Off → List Ln
  | .pack _ _ => (choicesL (addsL sh (i : Int))).map fun a => ((i : Int), 1, a)
  | .many _ _ => counts12.map fun c => ((i : Int), c, [])
  | .add _ _ _ => []
def linesL (sh : List Off) : List Ln := (sh.zipIdx 0).flatMap fun p => linesAt sh p.2 p.1
theorem dblL_len (places : List Int) : ∀ rows : List (List Int), (places.foldl dblL rows).length = rows.length * 2 ^ places.length := by
  induction places with
  | nil => intro rows; simp
  | cons x places ih =>
    intro rows
    rw [List.foldl_cons, ih]
    simp [dblL, Nat.pow_succ]
    rw [← Nat.two_mul, Nat.mul_comm (2 ^ places.length) 2, ← Nat.mul_assoc, Nat.mul_comm 2]
theorem choicesL_len (places : List Int) : (choicesL places).length = 2 ^ places.length := by
  unfold choicesL sortRows
  rw [List.length_mergeSort, dblL_len]
  simp
theorem addsL_len (sh : List Off) (i : Int) : (addsL sh i).length ≤ sh.length := by
  unfold addsL
  rw [List.length_map]
  exact Nat.le_trans (List.length_filter_le _ _) (by simp)
theorem linesAt_len (sh : List Off) (hs : sh.length ≤ 10) (i : Nat) (o : Off) : (linesAt sh i o).length ≤ 1024 := by
  cases o with
  | pack c p =>
    simp only [linesAt, List.length_map, choicesL_len]
    exact Nat.le_trans (Nat.pow_le_pow_right (by decide) (Nat.le_trans (addsL_len sh i) hs)) (by decide)
  | many c ts => simp [linesAt, counts12]
  | add c p k => simp [linesAt]
theorem rng12 : rngO 1 12 = counts12.map fun c => O.v (.int c) := by
  rw [rng_map]
  rfl
theorem lines_turn (sh : List Off) (hs : sh.length ≤ 10) (acc : List Ln) (ha : acc.length ≤ 100000) (i : Nat) (o : Off) :
    b_lines_1 [.own (.v (shopD sh)), .own (.l (acc.map lineO)), .own (oi (i : Nat)), .own (.v o.d), .no, .no] = some (.nx [.own (.v (shopD sh)), .own (.l ((acc ++ linesAt sh i o).map lineO)), .no, .no, .no, .no]) := by
  cases o with
  | add c p k => simp [b_lines_1, linesAt]
  | pack c p =>
    have hal := addsL_len sh (i : Int)
    have h1 := adds_of_ok sh (i : Int) (by omega)
    have h2 := choices_ok (addsL sh (i : Int)) (by omega)
    have hcl : (choicesL (addsL sh (i : Int))).length ≤ 1024 := by
      rw [choicesL_len]
      exact Nat.le_trans (Nat.pow_le_pow_right (by decide) (Nat.le_trans hal hs)) (by decide)
    have hlc : ∀ e : En, e[2]? = some (.own (oi (i : Nat))) → e[4]? = some .no → lcL (.n 4) mYes ce_lines_1 [4] ((choicesL (addsL sh (i : Int))).map rowO) e = some ((linesAt sh i (.pack c p)).map lineO, e) := fun e g2 g4 => by
      have hlt := (List.getElem?_eq_some_iff.mp g4).1
      rw [linesAt, List.map_map]
      refine lc_map _ fun r hr => ⟨e.set 4 (.own (rowO r)), e.set 4 (.own (rowO r)), e, ?_, rfl, ?_, ?_⟩
      · simp [g4]
      · have g5 : (e.set 4 (.own (rowO r)))[4]? = some (.own (rowO r)) := List.getElem?_set_self hlt
        have g6 : (e.set 4 (.own (rowO r)))[2]? = some (.own (oi (i : Nat))) := by rw [List.getElem?_set_ne (by decide)]; exact g2
        have g7 : (e.set 4 (.own (rowO r))).set 4 .no = e := set_no g4
        simp [ce_lines_1, g5, g6, g7, lineO]
      · show (hide e []).set 4 .no = e
        exact set_self g4
    have hb : (choicesL (addsL sh (i : Int))).length ≤ 16777216 := by omega
    have hb2 : acc.length + (linesAt sh i (.pack c p)).length ≤ 16777216 := by
      have := linesAt_len sh hs i (.pack c p); omega
    simp [b_lines_1, h1, h2, hlc, hb, hb2]
  | many c ts =>
    have hlc : ∀ e : En, e[2]? = some (.own (oi (i : Nat))) → e[5]? = some .no → lcL (.n 5) mYes ce_lines_2 [5] (counts12.map fun c => O.v (.int c)) e = some ((linesAt sh i (.many c ts)).map lineO, e) := fun e g2 g5 => by
      rw [linesAt, List.map_map]
      refine lc_map1 g5 _ fun k hk e' h1 h2 => ?_
      simp [ce_lines_2, h1, h2, g2, lineO]
    have hb2 : acc.length + (linesAt sh i (.many c ts)).length ≤ 16777216 := by
      have := linesAt_len sh hs i (.many c ts); omega
    have h12 : counts12.length ≤ 16777216 := by decide
    simp [b_lines_1, rng12, hlc, hb2, h12]
theorem lines_ok (n : Nat) (sh : List Off) (hg : Good n sh) (hs : sh.length ≤ 10) : sem_lines [.v (shopD sh)] = some (.l ((linesL sh).map lineO), []) := by
  have hlk := look_ok n sh hg
  obtain ⟨acc, h, hI⟩ := for_inv (tg := .tp [(.n 2), (.n 3)]) (body := b_lines_1) (enc := fun (p : Off × Nat) => O.t [oi (p.2 : Nat), .v p.1.d]) (E := fun (acc : List Ln) => [.own (.v (shopD sh)), .own (.l (acc.map lineO)), .no, .no, .no, .no])
    (fun pre acc => acc = pre.flatMap (fun p => linesAt sh p.2 p.1) ∧ acc.length ≤ 1024 * pre.length) (all := sh.zipIdx 0) (sh.zipIdx 0) [] [] rfl ⟨rfl, Nat.le_refl _⟩ (by
    intro pre ⟨o, i⟩ post acc hall ⟨h1, h2⟩
    have hpl : pre.length ≤ 10 := by have := congrArg List.length hall; simp at this; omega
    refine ⟨acc ++ linesAt sh i o, _, rfl, lines_turn sh hs acc (by omega) i o, ?_, ?_⟩
    · rw [h1, List.flatMap_append]; simp
    · have := linesAt_len sh hs i o
      simp; omega)
  have hacc := hI.1
  rw [show acc = linesL sh from hacc] at h
  simp only [List.map_nil] at h
  simp [un_lines, m_lines, hlk, enu_shop, h]
end Dn
namespace Dn
open PySem L2
end Dn
namespace Dn
open PySem L2
def sumL (a b : List Int) : List Int := (a.zip b).map fun p => p.1 + p.2
theorem put_ok (a b : List Int) (hl : a.length ≤ 1000) : sem_put_together [.v (.list (a.map .int)), .v (.list (b.map .int))] = some (.l ((sumL a b).map oi), []) := by
  have hm : min a.length b.length ≤ 16777216 := by omega
  have h : lcL (.tp [(.n 2), (.n 3)]) mYes ce_put_together_1 [2, 3] (((a.zip b)).map fun p => .t [oi p.1, oi p.2]) [.own (.v (.list (a.map .int))), .own (.v (.list (b.map .int))), .no, .no] = some ((sumL a b).map oi, [.own (.v (.list (a.map .int))), .own (.v (.list (b.map .int))), .no, .no]) := by
    rw [sumL, List.map_map]
    refine lc_map _ fun p _ => ?_
    simp [ce_put_together_1]
  simp [un_put_together, m_put_together, zipO_map, h, hm]
theorem lsum_ok (a b : List Int) (hl : a.length ≤ 1000) (hb : b.length = a.length) : sem__law_sum [.v (.list (a.map .int)), .v (.list (b.map .int))] = some (.l ((sumL a b).map oi), []) := by
  have h : ∀ e : En, e[0]? = some (.own (.v (.list (a.map .int)))) → e[1]? = some (.own (.v (.list (b.map .int)))) → e[2]? = some .no → lcL (.n 2) mYes ce__law_sum_1 [2] ((List.range a.length).map fun (k : Nat) => .v (.int (k : Int))) e = some ((sumL a b).map oi, e) := fun e h0 h1 h2 => by
    rw [sumL, ← range_zip (fun a b : Int => a + b) a b 0 0 rfl hb, List.map_map]
    refine lc_map1 h2 _ fun k hk e' g1 g2 => ?_
    simp at hk
    have e1 := atI_getD a 0 hk
    have e2 := atI_getD b 0 (show k < b.length by omega)
    simp [ce__law_sum_1, g1, g2, h0, h1, e1, e2]
  have hb1 : -4611686018427387904 ≤ (a.length : Int) := by omega
  have hb2 : (a.length : Int) < 4611686018427387904 := by omega
  have hb3 : a.length ≤ 16777216 := by omega
  simp [un__law_sum, m__law_sum, hb1, hb2, hb3, h]
def cAt (sh : List Off) (k : Int) : List Int := match atI sh k with
  | some o => o.c
  | none => []
def pAt (sh : List Off) (k : Int) : Int := match atI sh k with
  | some (.add _ p _) => p
  | some (.pack _ p) => p
  | _ => 0
def scaleL (c : Int) (l : List Int) : List Int := l.map fun x => c * x
def lcont (sh : List Off) (l : Ln) : List Int := l.2.2.foldl (fun f a => sumL f (cAt sh a)) (scaleL l.2.1 (cAt sh l.1))
def tierP (ts : List (Int × Int)) (c : Int) : Int := ((ts.filter fun t => decide (t.1 ≤ c)).map (·.2)).getLastD 0
def lprice (sh : List Off) (l : Ln) : Int := match atI sh l.1 with
  | some (.many _ ts) => l.2.1 * tierP ts l.2.1
  | some (.pack _ p) => p + (l.2.2.map (pAt sh)).sum
  | _ => 0
structure LnOk (sh : List Off) (l : Ln) : Prop where
  count : 1 ≤ l.2.1 ∧ l.2.1 ≤ 12
  place : ∃ o, atI sh l.1 = some o ∧ o.isAdd = false
  adds : ∀ a ∈ l.2.2, ∃ c p k, atI sh a = some (.add c p k)
  few : l.2.2.length ≤ 1000
theorem Good.at {n : Nat} {sh : List Off} (h : Good n sh) {k : Int} {o : Off} (ho : atI sh k = some o) : ∃ i, GoodO n sh i o := by
  unfold atI at ho
  obtain ⟨j, _, hj⟩ := Option.bind_eq_some_iff.mp ho
  exact ⟨j, h j o hj⟩
theorem cAt_len {n : Nat} {sh : List Off} (h : Good n sh) {k : Int} {o : Off} (ho : atI sh k = some o) : (cAt sh k).length = n := by
  obtain ⟨i, hi⟩ := h.at ho
  unfold cAt
  rw [ho]
  exact hi.w.len
theorem sumL_len (a b : List Int) : (sumL a b).length = min a.length b.length := by simp [sumL]
theorem scaleL_len (c : Int) (l : List Int) : (scaleL c l).length = l.length := by simp [scaleL]
theorem lcontent_ok (n : Nat) (sh : List Off) (hg : Good n sh) (hn : n ≤ 4) (l : Ln) (hl : LnOk sh l) : sem_line_content [.v (shopD sh), .v (lineD l)] = some (.l ((lcont sh l).map oi), []) := by
  obtain ⟨p, c, adds⟩ := l
  obtain ⟨o, ho, -⟩ := hl.place
  have hlk := look_ok n sh hg
  simp only at ho
  have hc0 : cAt sh p = o.c := by unfold cAt; rw [ho]
  have hcl := cAt_len hg ho
  have hcount := hl.count
  simp only at hcount
  have hlc : ∀ e : En, e[3]? = some (.own (.v (.int c))) → e[6]? = some .no → lcL (.n 6) mYes ce_line_content_1 [6] (o.c.map fun n => O.v (.int n)) e = some ((scaleL c (cAt sh p)).map oi, e) := fun e h3 h6 => by
    rw [hc0, scaleL, List.map_map]
    refine lc_map1 h6 _ fun k hk e' g1 g2 => ?_
    have b1 : -18446744073709551616 < c := by omega
    have b2 : c < 18446744073709551616 := by omega
    simp [ce_line_content_1, g1, g2, h3, b1, b2]
  obtain ⟨f, h, hf⟩ := for_inv (tg := .n 7) (body := b_line_content_1) (enc := fun (n : Int) => O.v (.int n)) (E := fun (f : List Int) => [.own (.v (shopD sh)), .own (.v (lineD (p, c, adds))), .own (.v (.int p)), .own (.v (.int c)), .own (.v (rowD adds)), .own (.l (f.map oi)), .no, .no])
    (fun pre f => f = pre.foldl (fun f a => sumL f (cAt sh a)) (scaleL c (cAt sh p)) ∧ f.length = n) (all := adds) adds [] (scaleL c (cAt sh p)) rfl ⟨rfl, by rw [scaleL_len, hcl]⟩ (by
    intro pre a post f hall ⟨h1, h2⟩
    obtain ⟨ca, pa, ka, haa⟩ := hl.adds a (by simp only; rw [hall]; simp)
    have hca : cAt sh a = ca := by unfold cAt; rw [haa]; rfl
    have hcal := cAt_len hg haa
    have hp := put_ok f ca (by omega)
    rw [hca] at hcal
    refine ⟨sumL f (cAt sh a), _, rfl, ?_, ?_, ?_⟩
    · rw [hca]
      simp [b_line_content_1, haa, hp, Off.c]
    · rw [h1, List.foldl_append]; rfl
    · rw [sumL_len, hca]; omega)
  have hfe : f = lcont sh (p, c, adds) := hf.1
  have hb : o.c.length ≤ 16777216 := by rw [← hc0]; omega
  rw [hfe] at h
  simp [un_line_content, m_line_content, hlk, lineD, ho, hlc, hb]
  simp [lineD] at h
  simp [h]
theorem getLastD_foldl (ts : List (Int × Int)) (c : Int) : ∀ d : Int, ((ts.filter fun t => decide (t.1 ≤ c)).map (·.2)).getLastD d = ts.foldl (fun e t => if t.1 ≤ c then t.2 else e) d := by
  induction ts with
  | nil => intro d; rfl
  | cons t ts ih =>
    intro d
    rw [List.foldl_cons, List.filter_cons]
    by_cases h : t.1 ≤ c
    · simp only [h, decide_true, if_true, List.map_cons, List.getLastD_cons]
      exact ih t.2
    · simp only [h, decide_false, if_false, Bool.false_eq_true]
      exact ih d
theorem tierP_fold (ts : List (Int × Int)) (c : Int) : tierP ts c = ts.foldl (fun e t => if t.1 ≤ c then t.2 else e) 0 := getLastD_foldl ts c 0
theorem tierp_ok (ts : List (Int × Int)) (c : Int) (h : Tiers ts) (hc : 1 ≤ c) : sem_tier_price [.v (.list (ts.map tierD)), oi c] = some (oi (tierP ts c), []) := by
  have hlc : lcL (.tp [(.n 2), (.n 3)]) ct_tier_price_1 ce_tier_price_1 [2, 3] (ts.map fun t => .v (tierD t)) [.own (.v (.list (ts.map tierD))), .own (oi c), .no, .no] = some ((((ts.filter fun t => decide (t.1 ≤ c)).map (·.2))).map oi, [.own (.v (.list (ts.map tierD))), .own (oi c), .no, .no]) := by
    rw [List.map_map]
    refine lc_filter _ fun t _ => ⟨[.own (.v (.list (ts.map tierD))), .own (oi c), .own (oi t.1), .own (oi t.2)], [.own (.v (.list (ts.map tierD))), .own (oi c), .own (oi t.1), .own (oi t.2)], [.own (.v (.list (ts.map tierD))), .own (oi c), .own (oi t.1), .own (oi t.2)], ?_, ?_, fun _ => ⟨?_, ?_⟩, fun _ => ?_⟩
    · simp [tierD]
    · simp [ct_tier_price_1]
    · simp [ce_tier_price_1]
    · simp
    · simp
  have hne : ((ts.filter fun t => decide (t.1 ≤ c)).map (·.2)) ≠ [] := by
    obtain ⟨t, r, rfl⟩ : ∃ t r, ts = t :: r := by
      cases ts with
      | nil => have := h.len.1; simp at this
      | cons t r => exact ⟨t, r, rfl⟩
    have h1 : t.1 = 1 := by have := h.one; simpa using this
    have : t.1 ≤ c := by omega
    simp [this]
  obtain ⟨u, z, hz⟩ : ∃ u z, ((ts.filter fun t => decide (t.1 ≤ c)).map (·.2)) = u ++ [z] := ⟨_, _, (List.dropLast_concat_getLast hne).symm⟩
  have htp : tierP ts c = z := by
    unfold tierP
    rw [hz]
    simp
  rw [hz] at hlc
  have hat : atI ((u ++ [z]).map oi) (-1) = some (oi z) := by rw [List.map_append]; exact atI_last _ _
  have hb : ts.length ≤ 16777216 := by have := h.len.2; omega
  rw [htp]
  simp only [List.map_append, List.map_cons, List.map_nil] at hat hlc
  simp [un_tier_price, m_tier_price, hlc, hb, hat]
theorem price_sum (sh : List Off) (adds : List Int) (ha : ∀ a ∈ adds, ∃ c p k, atI sh a = some (.add c p k)) (e : En) (h0 : e[0]? = some (.own (.v (shopD sh)))) (h5 : e[5]? = some .no) :
    lcL (.n 5) mYes ce_line_price_1 [5] (adds.map fun n => O.v (.int n)) e = some ((adds.map (pAt sh)).map oi, e) := by
  rw [List.map_map]
  refine lc_map1 h5 _ fun a hmem e' g1 g2 => ?_
  obtain ⟨c, p, k, hk⟩ := ha a hmem
  have hp : pAt sh a = p := by unfold pAt; rw [hk]
  simp [ce_line_price_1, g1, g2, h0, hk, hp]
theorem lprice_ok (n : Nat) (sh : List Off) (hg : Good n sh) (l : Ln) (hl : LnOk sh l) : sem_line_price [.v (shopD sh), .v (lineD l)] = some (oi (lprice sh l), []) := by
  obtain ⟨p, c, adds⟩ := l
  obtain ⟨o, ho, hna⟩ := hl.place
  have hlk := look_ok n sh hg
  have hcount := hl.count
  have hfew := hl.few
  simp only at ho hcount hfew
  obtain ⟨i, hgo⟩ := hg.at ho
  have hb : adds.length ≤ 16777216 := by omega
  cases o with
  | add c' p' k' => simp at hna
  | many c' ts =>
    have ht := tierp_ok ts c hgo.kind hcount.1
    have b1 : -18446744073709551616 < c := by omega
    have b2 : c < 18446744073709551616 := by omega
    have hpr : lprice sh (p, c, adds) = c * tierP ts c := by unfold lprice; rw [ho]
    simp [un_line_price, m_line_price, hlk, lineD, ho, ht, hpr, b1, b2]
  | pack c' p' =>
    have hs := price_sum sh adds hl.adds
    have hpr : lprice sh (p, c, adds) = p' + (adds.map (pAt sh)).sum := by unfold lprice; rw [ho]
    generalize adds.map (pAt sh) = ps at hs hpr
    simp [un_line_price, m_line_price, hlk, lineD, ho, hs, hpr, hb]
theorem sortRows_perm (rows : List (List Int)) : (sortRows rows).Perm rows := List.mergeSort_perm _ _
theorem dblL_mem (places : List Int) : ∀ (rows : List (List Int)) (r : List Int), r ∈ places.foldl dblL rows → ∃ r0 ∈ rows, ∃ s, r = r0 ++ s ∧ s.Sublist places := by
  induction places with
  | nil => intro rows r h; exact ⟨r, h, [], by simp, .refl _⟩
  | cons x places ih =>
    intro rows r h
    rw [List.foldl_cons] at h
    obtain ⟨r0, h0, s, hs, sub⟩ := ih _ _ h
    simp only [dblL, List.mem_append, List.mem_map] at h0
    rcases h0 with h0 | ⟨r1, h1, rfl⟩
    · exact ⟨r0, h0, s, hs, sub.cons _⟩
    · exact ⟨r1, h1, x :: s, by rw [hs]; simp, sub.cons_cons _⟩
theorem choicesL_mem {places r : List Int} (h : r ∈ choicesL places) : r.Sublist places := by
  unfold choicesL at h
  have := (sortRows_perm _).mem_iff.mp h
  obtain ⟨r0, h0, s, hs, sub⟩ := dblL_mem places [[]] r this
  simp at h0
  subst h0
  rw [hs]
  simpa using sub
theorem addsL_mem {sh : List Off} {i x : Int} (h : x ∈ addsL sh i) : ∃ c p, atI sh x = some (.add c p i) := by
  unfold addsL at h
  obtain ⟨⟨o, j⟩, hp, rfl⟩ := List.mem_map.mp h
  obtain ⟨h1, h2⟩ := List.mem_filter.mp hp
  have := zipIdx_get h1
  simp only at this h2
  cases o with
  | pack c p => simp [isAddOf] at h2
  | many c ts => simp [isAddOf] at h2
  | add c p k =>
    simp [isAddOf] at h2
    subst h2
    exact ⟨c, p, atI_nat rfl this⟩
theorem linesL_ok {sh : List Off} (hs : sh.length ≤ 10) {l : Ln} (h : l ∈ linesL sh) : LnOk sh l := by
  unfold linesL at h
  obtain ⟨⟨o, i⟩, hp, hl⟩ := List.mem_flatMap.mp h
  have ho := zipIdx_get hp
  simp only at ho hl
  cases o with
  | add c p k => simp [linesAt] at hl
  | many c ts =>
    simp only [linesAt] at hl
    obtain ⟨x, hx, rfl⟩ := List.mem_map.mp hl
    refine ⟨?_, ⟨_, atI_nat rfl ho, rfl⟩, (fun a ha => by cases ha), by simp⟩
    simp [counts12] at hx
    simp only; omega
  | pack c p =>
    simp only [linesAt] at hl
    obtain ⟨r, hr, rfl⟩ := List.mem_map.mp hl
    have hsub := choicesL_mem hr
    refine ⟨⟨by simp, by simp⟩, ⟨_, atI_nat rfl ho, rfl⟩, fun a ha => ?_, ?_⟩
    · obtain ⟨c', p', h'⟩ := addsL_mem (hsub.subset ha)
      exact ⟨c', p', _, h'⟩
    · have := hsub.length_le
      have := addsL_len sh (i : Int)
      simp only; omega
end Dn
namespace Dn
open PySem L2
theorem lcont_len {n : Nat} {sh : List Off} (hg : Good n sh) {l : Ln} (hl : LnOk sh l) : (lcont sh l).length = n := by
  obtain ⟨p, c, adds⟩ := l
  obtain ⟨o, ho, -⟩ := hl.place
  have : ∀ (as f : List Int), (∀ a ∈ as, ∃ c p k, atI sh a = some (.add c p k)) → f.length = n → (as.foldl (fun f a => sumL f (cAt sh a)) f).length = n := by
    intro as
    induction as with
    | nil => intro f _ h; exact h
    | cons a as ih =>
      intro f ha hf
      rw [List.foldl_cons]
      refine ih _ (fun b hb => ha b (List.mem_cons_of_mem _ hb)) ?_
      obtain ⟨c', p', k', h'⟩ := ha a (List.mem_cons_self ..)
      rw [sumL_len, cAt_len hg h', hf]; omega
  exact this adds _ hl.adds (by rw [scaleL_len, cAt_len hg ho])
end Dn
namespace Dn
open PySem L2
theorem sumL_comm : ∀ (a b : List Int), sumL b a = sumL a b
  | [], b => by simp [sumL]
  | _ :: _, [] => by simp [sumL]
  | x :: a, y :: b => by
    have := sumL_comm a b
    simp only [sumL, List.zip_cons_cons, List.map_cons, List.cons.injEq] at this ⊢
    exact ⟨by omega, this⟩
def NN (a : List Int) : Prop := ∀ x ∈ a, 0 ≤ x
theorem sumL_nn : ∀ (a b : List Int), NN a → NN b → NN (sumL a b)
  | [], b, _, _ => by simp [sumL, NN]
  | _ :: _, [], _, _ => by simp [sumL, NN]
  | x :: a, y :: b, ha, hb => by
    have ih := sumL_nn a b (fun z h => ha z (List.mem_cons_of_mem _ h)) (fun z h => hb z (List.mem_cons_of_mem _ h))
    have h1 := ha x (List.mem_cons_self ..)
    have h2 := hb y (List.mem_cons_self ..)
    intro z hz
    simp only [sumL, List.zip_cons_cons, List.map_cons, List.mem_cons] at hz
    rcases hz with rfl | hz
    · omega
    · exact ih z hz
theorem cAt_nn {n : Nat} {sh : List Off} (h : Good n sh) {k : Int} {o : Off} (ho : atI sh k = some o) : NN (cAt sh k) := by
  obtain ⟨i, hi⟩ := h.at ho
  unfold cAt
  rw [ho]
  exact fun x hx => (hi.w.nine x hx).1
theorem lcont_nn {n : Nat} {sh : List Off} (hg : Good n sh) {l : Ln} (hl : LnOk sh l) : NN (lcont sh l) := by
  obtain ⟨p, c, adds⟩ := l
  obtain ⟨o, ho, -⟩ := hl.place
  have : ∀ (as f : List Int), (∀ a ∈ as, ∃ c p k, atI sh a = some (.add c p k)) → NN f → NN (as.foldl (fun f a => sumL f (cAt sh a)) f) := by
    intro as
    induction as with
    | nil => intro f _ h; exact h
    | cons a as ih =>
      intro f ha hf
      rw [List.foldl_cons]
      refine ih _ (fun b hb => ha b (List.mem_cons_of_mem _ hb)) ?_
      obtain ⟨c', p', k', h'⟩ := ha a (List.mem_cons_self ..)
      exact sumL_nn _ _ hf (cAt_nn hg h')
  refine this adds _ hl.adds fun x hx => ?_
  simp only [scaleL, List.mem_map] at hx
  obtain ⟨y, hy, rfl⟩ := hx
  exact Int.mul_nonneg (by have := hl.count.1; simp only at this; omega) (cAt_nn hg ho y hy)
theorem restL_nn (w c : List Int) : NN (restL w c) := fun x hx => by
  simp only [restL, List.mem_map] at hx
  obtain ⟨p, -, rfl⟩ := hx
  omega
theorem restL_reps0 : ∀ (w : List Int), NN w → restL w (reps w.length 0) = w
  | [], _ => by simp [restL]
  | x :: w, hw => by
    have ih := restL_reps0 w fun z h => hw z (List.mem_cons_of_mem _ h)
    have h1 := hw x (List.mem_cons_self ..)
    simp only [restL, reps, List.length_cons, List.replicate_succ, List.zip_cons_cons, List.map_cons, List.cons.injEq] at ih ⊢
    exact ⟨by omega, ih⟩
theorem nn_sum0 : ∀ (w : List Int), NN w → (w.sum = 0 ↔ w = reps w.length 0)
  | [], _ => by simp [reps]
  | x :: w, hw => by
    have ih := nn_sum0 w fun z h => hw z (List.mem_cons_of_mem _ h)
    have h1 := hw x (List.mem_cons_self ..)
    have h2 : 0 ≤ w.sum := by
      have : ∀ w : List Int, NN w → 0 ≤ w.sum := fun w => by
        induction w with
        | nil => intro _; simp
        | cons x w ih =>
          intro h
          have := ih fun z hz => h z (List.mem_cons_of_mem _ hz)
          have := h x (List.mem_cons_self ..)
          rw [List.sum_cons]; omega
      exact this w fun z h => hw z (List.mem_cons_of_mem _ h)
    simp only [List.sum_cons, reps, List.length_cons, List.replicate_succ, List.cons.injEq] at ih ⊢
    rw [← ih]
    omega
end Dn
namespace Dn
open PySem L2
theorem lexI_irrefl : ∀ a : List Int, lexI a a = false
  | [] => rfl
  | x :: a => by simp [lexI, lexI_irrefl a]
theorem lexI_tri : ∀ a b : List Int, a ≠ b → lexI a b = false → lexI b a = true
  | [], [], h, _ => absurd rfl h
  | [], _ :: _, _, h => by simp [lexI] at h
  | _ :: _, [], _, _ => by simp [lexI]
  | x :: a, y :: b, h, h2 => by
    by_cases e : x = y
    · subst e
      simp only [lexI, if_true] at h2 ⊢
      exact lexI_tri a b (fun e => h (by rw [e])) h2
    · simp only [lexI, if_neg e, decide_eq_false_iff_not] at h2
      simp only [lexI, if_neg (Ne.symm e), decide_eq_true_eq]
      omega
theorem lexI_trans : ∀ a b c : List Int, lexI a b = true → lexI b c = true → lexI a c = true
  | [], [], c, h, _ => by simp [lexI] at h
  | [], _ :: _, [], _, h => by simp [lexI] at h
  | [], _ :: _, _ :: _, _, _ => by simp [lexI]
  | _ :: _, [], _, h, _ => by simp [lexI] at h
  | _ :: _, _ :: _, [], _, h => by simp [lexI] at h
  | x :: a, y :: b, z :: c, h1, h2 => by
    by_cases e : x = y
    · subst e
      by_cases e2 : x = z
      · subst e2
        simp only [lexI, if_true] at h1 h2 ⊢
        exact lexI_trans a b c h1 h2
      · simp only [lexI, if_neg e2] at h2 ⊢
        exact h2
    · by_cases e2 : y = z
      · subst e2
        simp only [lexI, if_neg e] at h1 ⊢
        exact h1
      · simp only [lexI, if_neg e, if_neg e2, decide_eq_true_eq] at h1 h2
        have : ¬ x = z := by omega
        simp only [lexI, if_neg this, decide_eq_true_eq]
        omega
theorem lexI_asymm (a b : List Int) (h : lexI a b = true) : lexI b a = false := by
  cases e : lexI b a with
  | false => rfl
  | true => have := lexI_trans a b a h e; rw [lexI_irrefl] at this; cases this
theorem lexLe_trans (a b c : List Int) (h1 : (!lexI b a) = true) (h2 : (!lexI c b) = true) : (!lexI c a) = true := by
  simp only [Bool.not_eq_true'] at *
  by_cases e1 : a = b
  · subst e1; exact h2
  · by_cases e2 : b = c
    · subst e2; exact h1
    · exact lexI_asymm _ _ (lexI_trans a b c (lexI_tri b a (Ne.symm e1) h1) (lexI_tri c b (Ne.symm e2) h2))
theorem lexLe_total (a b : List Int) : ((!lexI b a) || (!lexI a b)) = true := by
  cases e : lexI b a with
  | false => rfl
  | true => rw [lexI_asymm _ _ e]; rfl
theorem sortRows_strict {rows : List (List Int)} (h : rows.Nodup) : (sortRows rows).Pairwise fun a b => lexI a b = true := by
  have h1 : (sortRows rows).Pairwise fun a b => (!lexI b a) = true := List.pairwise_mergeSort (le := fun a b => !lexI b a) lexLe_trans lexLe_total rows
  have h2 : (sortRows rows).Nodup := (List.mergeSort_perm rows _).nodup_iff.mpr h
  refine (h1.and h2).imp fun {a b} ⟨p, q⟩ => ?_
  exact lexI_tri b a (Ne.symm q) (by simpa using p)
theorem dblL_nodup : ∀ (places : List Int) (rows : List (List Int)), rows.Nodup → places.Nodup → (∀ r ∈ rows, ∀ x ∈ r, x ∉ places) → (places.foldl dblL rows).Nodup
  | [], rows, h, _, _ => h
  | p :: places, rows, h, hp, hr => by
    rw [List.foldl_cons]
    rw [List.nodup_cons] at hp
    refine dblL_nodup places _ ?_ hp.2 ?_
    · show (rows ++ rows.map (· ++ [p])).Nodup
      rw [List.nodup_append]
      refine ⟨h, ?_, ?_⟩
      · unfold List.Nodup
        rw [List.pairwise_map]
        exact List.Pairwise.imp (fun {a b} hab e => hab (List.append_cancel_right e)) h
      · intro a ha b hb e
        obtain ⟨c, hc, rfl⟩ := List.mem_map.mp hb
        subst e
        exact hr _ ha p (by simp) (List.mem_cons_self ..)
    · intro r hm x hx hxp
      rcases List.mem_append.mp (show r ∈ rows ++ rows.map (· ++ [p]) from hm) with hm | hm
      · exact hr r hm x hx (List.mem_cons_of_mem _ hxp)
      · obtain ⟨c, hc, rfl⟩ := List.mem_map.mp hm
        rcases List.mem_append.mp hx with hx | hx
        · exact hr c hc x hx (List.mem_cons_of_mem _ hxp)
        · simp only [List.mem_singleton] at hx
          subst hx
          exact hp.1 hxp
theorem choicesL_strict {places : List Int} (h : places.Nodup) : (choicesL places).Pairwise fun a b => lexI a b = true :=
  sortRows_strict (dblL_nodup places [[]] (by simp) h (by simp))
theorem zipIdx_pair {α : Type} : ∀ (xs : List α) (k : Nat), (xs.zipIdx k).Pairwise fun p q => p.2 < q.2
  | [], _ => by simp
  | x :: xs, k => by
    rw [List.zipIdx_cons, List.pairwise_cons]
    refine ⟨fun p hp => ?_, zipIdx_pair xs (k + 1)⟩
    have := List.le_snd_of_mem_zipIdx hp
    simp only; omega
theorem addsL_nodup (sh : List Off) (i : Int) : (addsL sh i).Nodup := by
  unfold addsL
  unfold List.Nodup
  rw [List.pairwise_map]
  exact List.Pairwise.imp (fun {a b} h => by omega) ((zipIdx_pair sh 0).sublist List.filter_sublist)
def lnLt (a b : Ln) : Bool := if a.1 = b.1 then (if a.2.1 = b.2.1 then lexI a.2.2 b.2.2 else decide (a.2.1 < b.2.1)) else decide (a.1 < b.1)
theorem dataLt_line (a b : Ln) : PySem.W.dataLt (lineD a) (lineD b) = lnLt a b := by
  have al : ∀ x y : Int, PySem.W.alike (.int x) (.int y) = true := fun x y => by simp [PySem.W.alike]
  have alr : PySem.W.alike (rowD a.2.2) (rowD b.2.2) = true := by
    show PySem.W.alike (.list _) (.list _) = true
    simp [PySem.W.alike, PySem.W.alike_ints]
  unfold lineD lnLt
  rw [PySem.W.dataLt_tuple]
  by_cases h1 : a.1 = b.1
  · rw [PySem.W.dataLt_all_yes (al _ _) (by simp [PyData.eqv, h1]), if_pos h1]
    by_cases h2 : a.2.1 = b.2.1
    · rw [PySem.W.dataLt_all_yes (al _ _) (by simp [PyData.eqv, h2]), if_pos h2]
      by_cases h3 : a.2.2 = b.2.2
      · rw [h3, lexI_irrefl]
        exact PyProof.Rows.lex_irrefl _
      · rw [PySem.W.dataLt_all_no alr ?_, dataLt_row]
        have := eqv_iff 2 (rowD a.2.2) (rowD b.2.2) (by simp [rowD]) (by simp [rowD])
        cases e : PyData.eqv (rowD a.2.2) (rowD b.2.2) with
        | false => rfl
        | true =>
          have := this.mp e
          simp only [rowD, PyData.list.injEq] at this
          exact absurd ((map_int_inj _ _).mp this) h3
    · rw [PySem.W.dataLt_all_no (al _ _) (by simp [PyData.eqv, h2]), if_neg h2, PySem.W.dataLt_int]
  · rw [PySem.W.dataLt_all_no (al _ _) (by simp [PyData.eqv, h1]), if_neg h1, PySem.W.dataLt_int]
theorem linesAt_fst {sh : List Off} {i : Nat} {o : Off} {l : Ln} (h : l ∈ linesAt sh i o) : l.1 = (i : Int) := by
  cases o with
  | pack c p => obtain ⟨a, -, rfl⟩ := List.mem_map.mp h; rfl
  | many c ts => obtain ⟨a, -, rfl⟩ := List.mem_map.mp h; rfl
  | add c p k => cases h
theorem linesAt_strict (sh : List Off) (i : Nat) (o : Off) : (linesAt sh i o).Pairwise fun a b => lnLt a b = true := by
  cases o with
  | pack c p =>
    unfold linesAt
    rw [List.pairwise_map]
    exact (choicesL_strict (addsL_nodup sh i)).imp fun {a b} h => by simp [lnLt, h]
  | many c ts =>
    unfold linesAt
    rw [List.pairwise_map]
    have : counts12.Pairwise (· < ·) := by decide
    exact this.imp fun {a b} h => by
      have : ¬ a = b := by omega
      simp [lnLt, h, this]
  | add c p k => exact .nil
theorem linesL_strict (sh : List Off) : (linesL sh).Pairwise fun a b => lnLt a b = true := by
  unfold linesL
  rw [List.pairwise_flatMap]
  refine ⟨fun p _ => linesAt_strict sh p.2 p.1, (zipIdx_pair sh 0).imp fun {p q} h x hx y hy => ?_⟩
  have h1 := linesAt_fst hx
  have h2 := linesAt_fst hy
  have : ¬ x.1 = y.1 := by omega
  simp only [lnLt, if_neg this, decide_eq_true_eq]
  omega
theorem lnLt_irrefl (a : Ln) : lnLt a a = false := by simp [lnLt, lexI_irrefl]
theorem lnLt_asymm (a b : Ln) (h : lnLt a b = true) : lnLt b a = false := by
  unfold lnLt at h ⊢
  by_cases h1 : a.1 = b.1
  · rw [if_pos h1] at h
    rw [if_pos h1.symm]
    by_cases h2 : a.2.1 = b.2.1
    · rw [if_pos h2] at h
      rw [if_pos h2.symm]
      exact lexI_asymm _ _ h
    · rw [if_neg h2] at h
      rw [if_neg (Ne.symm h2)]
      simp at h ⊢; omega
  · rw [if_neg h1] at h
    rw [if_neg (Ne.symm h1)]
    simp at h ⊢; omega
theorem linesL_nodup (sh : List Off) : (linesL sh).Nodup := (linesL_strict sh).imp fun {a b} h e => by rw [e, lnLt_irrefl] at h; cases h
end Dn
namespace Dn
open PySem L2
theorem mix_ok (c t : Int) (ht : 0 ≤ t ∧ t ≤ 100000) : ∃ n, sem__law_mix [oi c, oi t] = some (oi n, []) ∧ 0 ≤ n ∧ n < 2147483629 := by
  have b1 : -18446744073709551616 < t := by omega
  have b2 : t < 18446744073709551616 := by omega
  refine ⟨((((c % 2147483647 + t * t * 7919 + 104729) * 48271 % 2147483647) * ((c % 2147483647 + t * t * 7919 + 104729) * 48271 % 2147483647)) + 69621 * t) % 2147483629, ?_, Int.emod_nonneg _ (by decide), Int.emod_lt_of_pos _ (by decide)⟩
  have h1 : 0 ≤ (c % 2147483647 + t * t * 7919 + 104729) * 48271 % 2147483647 := Int.emod_nonneg _ (by decide)
  have h2 : (c % 2147483647 + t * t * 7919 + 104729) * 48271 % 2147483647 < 2147483647 := Int.emod_lt_of_pos _ (by decide)
  generalize hx : (c % 2147483647 + t * t * 7919 + 104729) * 48271 % 2147483647 = x at h1 h2
  have b3 : -18446744073709551616 < x := by omega
  have b4 : x < 18446744073709551616 := by omega
  simp [un__law_mix, m__law_mix, b1, b2, hx, b3, b4]
theorem draws2_ok (ns : List Int) (hl : ns.length ≤ 63) (t m : Int) (ht : 0 ≤ t ∧ t ≤ 100) (hm : 0 ≤ m ∧ m ≤ 1000) : ∃ ds : List Int, sem__law_draws_bf2d [.s ns, oi t, oi m] = some (.l (ds.map oi), []) := by
  obtain ⟨c, hc⟩ : ∃ c : List Int, c = cutG ns none (some 63) ++ [t] := ⟨_, rfl⟩
  have hcl : c.length ≤ 64 := by
    rw [hc, List.length_append, cutG, List.length_take, List.length_drop]
    simp; omega
  have hc0 : 0 < c.length := by rw [hc]; simp
  have hcut : (cutG ns none (some 63)).length ≤ 16777215 := by
    rw [cutG, List.length_take, List.length_drop]; omega
  have hcm : (cutG ns none (some 63)).map PyData.int ++ [PyData.int t] = c.map .int := by rw [hc]; simp
  have hlc : lcL (.n 5) mYes ce__law_draws_bf2d_1 [5] (c.map fun n => .v (.int n)) [.own (.s ns), .own (oi t), .own (oi m), .own (.v (.list (c.map .int))), .no, .no, .no, .no, .no, .no] = some (c.map (fun n => oi (n / 100000)), [.own (.s ns), .own (oi t), .own (oi m), .own (.v (.list (c.map .int))), .no, .no, .no, .no, .no, .no]) := by
    refine lc_map _ fun p _ => ?_
    simp [ce__law_draws_bf2d_1]
  let E1 : List Int × List Int → En := fun s => [.own (.s ns), .own (oi t), .own (oi m), .own (.v (.list (c.map .int))), .own (.l (s.2.map oi)), .no, .own (.l (s.1.map oi)), .no, .no, .no]
  obtain ⟨s1, h1, -⟩ := for_inv (tg := .n 7) (body := b__law_draws_bf2d_1) (enc := fun (k : Nat) => O.v (.int (k : Int))) (E := E1) (fun pre s => s.1.length ≤ pre.length ∧ s.2.length = c.length) (all := List.range (t + m).toNat) (List.range (t + m).toNat) [] ([], c.map (· / 100000)) rfl (by simp) (by
    intro pre k post s hall hI
    have hkl : pre.length < 2000 ∧ k < 2000 := by
      have := congrArg List.length hall
      have hk : k ∈ List.range (t + m).toNat := by rw [hall]; simp
      simp at this hk; omega
    obtain ⟨x, hx, hx2⟩ := atI_in s.2 (i := (k : Int) % (c.length : Int)) (Int.emod_nonneg _ (by omega)) (by rw [hI.2]; exact Int.emod_lt_of_pos _ (by omega))
    obtain ⟨y, hy, hy2⟩ := atI_in c (i := (k : Int) % (c.length : Int)) (Int.emod_nonneg _ (by omega)) (Int.emod_lt_of_pos _ (by omega))
    have hpos : fMod [.int (k : Int), .int (c.length : Int)] = some (.int ((k : Int) % (c.length : Int))) := fMod_s (by omega)
    have hix : ixN s.2.length ((k : Int) % (c.length : Int)) = some (((k : Int) % (c.length : Int)).toNat) := ixN_in (Int.emod_nonneg _ (by omega)) (by rw [hI.2]; exact Int.emod_lt_of_pos _ (by omega))
    obtain ⟨n, hn, hn2⟩ := mix_ok y (k : Int) (by omega)
    have hlf : s.1.length < 16777216 := by omega
    have hn3 : -18446744073709551616 < n := by omega
    have hn4 : n < 18446744073709551616 := by omega
    by_cases hif : (1000000000000000000 ≤ y ∧ 0 < x)
    · refine ⟨(s.1 ++ [x % 2147483587], s.2.set ((k : Int) % (c.length : Int)).toNat (x / 2147483587)), _, rfl, ?_, by simp; omega⟩
      simp [b__law_draws_bf2d_1, E1, hx, hy, hix, hlf, hpos, hn, hn3, hn4, hif.1, hif.2, List.map_set]
    · refine ⟨(s.1 ++ [(n * n + 7 * k) % 2147483587], s.2), _, rfl, ?_, by simp; omega⟩
      by_cases h1 : 1000000000000000000 ≤ y
      · have h2 : ¬ 0 < x := fun z => hif ⟨h1, z⟩
        simp [b__law_draws_bf2d_1, E1, hx, hy, hix, hlf, hpos, hn, hn3, hn4, h1, h2]
      · simp [b__law_draws_bf2d_1, E1, hx, hy, hix, hlf, hpos, hn, hn3, hn4, h1])
  have hb1 : -4611686018427387904 ≤ t + m := by omega
  have hb2 : t + m < 4611686018427387904 := by omega
  have hc64 : c.length ≤ 16777216 := by omega
  simp only [E1, List.map_nil, List.map_map, Function.comp_def] at h1
  have hcut2 : cutG (s1.1.map oi) (some t) none = (s1.1.drop t.toNat).map oi := by
    obtain ⟨k, rfl⟩ : ∃ k : Nat, t = (k : Int) := ⟨t.toNat, by omega⟩
    rw [cutG_map1, cutG_drop]
    simp
  rw [un__law_draws_bf2d]
  refine ⟨s1.1.drop t.toNat, ?_⟩
  have hv : (s1.1.map fun n => O.v (.int n)) = s1.1.map oi := rfl
  simp [m__law_draws_bf2d, slO, hcut, hcm, hlc, hc64, hb1, hb2, h1]
  rw [← List.map_drop]
  exact hcut2
theorem cut_for (w : List Int) (hw : ∀ n ∈ w, 0 ≤ n ∧ n ≤ 10000) (x : Int) : mForS 0 (.n 2) b__law_cut_1 [.own (.l (w.map oi)), .own (oi 1), .no] = some (.nx [.own (.l (w.map oi)), .own (oi (casesI w)), .no]) := by
  have h := (forS_fold (i := 0) (tg := .n 2) (body := b__law_cut_1) (enc := fun (n : Int) => .int n) (E := fun (a : Int) => [.pin (.l (w.map oi)), .own (oi a), .no]) (step := fun a n => a * (n + 1)) (I := fun _ => True) w (fun _ _ => rfl) (fun _ => rfl) (by
    intro n hn s _
    obtain ⟨h1, h2⟩ := hw n hn
    have h3 : -18446744073709551616 < n + 1 := by omega
    have h4 : n + 1 < 18446744073709551616 := by omega
    refine ⟨trivial, _, rfl, ?_⟩
    simp [b__law_cut_1, h3, h4]) w 0 1 rfl trivial).1
  have e : (w.map fun x => O.v (PyData.int x)) = w.map oi := rfl
  have h' : forS 0 (.n 2) b__law_cut_1 (w.map oi).length 0 [.pin (.l (w.map oi)), .own (oi 1), .no] = some (.nx [.pin (.l (w.map oi)), .own (oi (casesI w)), .no]) := by rw [List.length_map]; exact h
  simp only [mForS_ap, List.getElem?_cons_zero, o_own, pinS_own, List.set_cons_zero, h']
  simp [unpin_ap]
theorem nn_sum : ∀ l : List Int, (∀ x ∈ l, 0 ≤ x) → 0 ≤ l.sum ∧ (l.sum = 0 → ∀ x ∈ l, x = 0)
  | [], _ => by simp
  | a :: l, h => by
    obtain ⟨i1, i2⟩ := nn_sum l fun x hx => h x (List.mem_cons_of_mem _ hx)
    have ha := h a (List.mem_cons_self ..)
    rw [List.sum_cons]
    refine ⟨by omega, fun hz x hx => ?_⟩
    rcases List.mem_cons.mp hx with rfl | hx
    · omega
    · exact i2 (by omega) x hx
theorem sum_pos_of {l : List Int} (h : ∀ x ∈ l, 0 ≤ x) {x : Int} (hx : x ∈ l) (hp : 0 < x) : 0 < l.sum := by
  obtain ⟨h1, h2⟩ := nn_sum l h
  rcases Int.lt_or_eq_of_le h1 with h3 | h3
  · exact h3
  · have := h2 h3.symm x hx; omega
theorem cases_two : ∀ (w : List Int), (∀ x ∈ w, 0 ≤ x ∧ x ≤ 1) → ∀ a : Int, 0 ≤ a → w.foldl (fun a n => a * (n + 1)) a ≤ a * 2 ^ w.length
  | [], _, a, h => by simp
  | x :: w, hw, a, h => by
    obtain ⟨h0, h1⟩ := hw x (List.mem_cons_self ..)
    have ih := cases_two w (fun y hy => hw y (List.mem_cons_of_mem _ hy)) (a * (x + 1)) (Int.mul_nonneg h (by omega))
    rw [List.foldl_cons, List.length_cons, Int.pow_succ]
    have h2 : a * (x + 1) ≤ a * 2 := Int.mul_le_mul_of_nonneg_left (by omega) h
    have h3 : (0 : Int) ≤ 2 ^ w.length := Int.le_of_lt (Int.pow_pos (by decide))
    have h4 : a * (x + 1) * 2 ^ w.length ≤ a * 2 * 2 ^ w.length := Int.mul_le_mul_of_nonneg_right h2 h3
    have h5 : a * 2 * 2 ^ w.length = a * (2 ^ w.length * 2) := by rw [Int.mul_assoc, Int.mul_comm 2]
    omega
theorem cut_while (n : Nat) (hn : 1 ≤ n ∧ n ≤ 4) (w : List Int) (hw : Want n w) : ∃ (w' : List Int) (c : Int), mWhile t__law_cut_1 b__law_cut_2 [.own (.l (w.map oi)), .own (oi 401), .no] = some (.nx [.own (.l (w'.map oi)), .own (oi c), .no]) ∧ Want n w' ∧ casesI w' ≤ 400 ∧ (∀ p ∈ w'.zip w, p.1 ≤ p.2) ∧ (casesI w ≤ 400 → w' = w) ∧ (0 < w.sum → 0 < w'.sum) := by
  have key : ∃ s : List Int × Int, mWhile t__law_cut_1 b__law_cut_2 [.own (.l (w.map oi)), .own (oi 401), .no] = some (.nx [.own (.l (s.1.map oi)), .own (oi s.2), .no]) ∧ (Want n s.1 ∧ (s.2 ≤ 400 → s.2 = casesI s.1) ∧ (∀ p ∈ s.1.zip w, p.1 ≤ p.2) ∧ (casesI w ≤ 400 → s.1 = w) ∧ (0 < w.sum → 0 < s.1.sum)) ∧ s.2 ≤ 400 := by
    have base := while_inv (E := fun s : List Int × Int => [.own (.l (s.1.map oi)), .own (oi s.2), .no]) (mc := t__law_cut_1) (mb := b__law_cut_2) (fun s => Want n s.1 ∧ (s.2 ≤ 400 → s.2 = casesI s.1) ∧ (∀ p ∈ s.1.zip w, p.1 ≤ p.2) ∧ (casesI w ≤ 400 → s.1 = w) ∧ (0 < w.sum → 0 < s.1.sum)) (fun s => s.2 ≤ 400) (fun s => 2 * (s.1.map Int.toNat).sum + (if s.2 ≤ 400 then 0 else 1)) (by
      intro ⟨v, c⟩ ⟨hv, hc, hle, heq, hsp⟩
      simp only at hv hc hle heq hsp ⊢
      by_cases h : c ≤ 400
      · refine .inl ⟨h, ?_⟩
        have : ¬ 400 < c := by omega
        simp [t__law_cut_1, this]
      · right
        have h4 : 400 < c := by omega
        have hf := cut_for v (fun x hx => ⟨(hv.nine x hx).1, by have := (hv.nine x hx).2; omega⟩) 0
        by_cases hg : casesI v ≤ 400
        · have hng : ¬ 400 < casesI v := by omega
          refine ⟨(v, casesI v), ?_, ?_, ⟨hv, fun _ => rfl, hle, heq, hsp⟩, ?_⟩
          · simp [t__law_cut_1, h4]
          · simp only [oi] at hf
            simp [b__law_cut_2, hf, hng, -mForS_ap]
          · simp [h, hg]
        · have h5 : 400 < casesI v := by omega
          obtain ⟨x, xs, rfl⟩ : ∃ x xs, v = x :: xs := by
            cases v with
            | nil => have := hv.len; simp at this; omega
            | cons x xs => exact ⟨x, xs, rfl⟩
          obtain ⟨j, hj, hj2⟩ := idx_ok (maxL x xs) (x :: xs) 0 (maxL_in x xs)
          have hm9 := hv.nine _ (maxL_in x xs)
          have hm1 : 1 ≤ maxL x xs := by
            rcases Int.lt_or_le (maxL x xs) 1 with hlt | hge
            · exfalso
              have : casesI (x :: xs) = 1 := cases_zero _ fun y hy => by
                have h1 := (hv.nine y hy).1
                have h2 := maxL_ge x xs
                rcases List.mem_cons.mp hy with rfl | hy
                · have := h2.1; omega
                · have := h2.2 y hy; omega
              omega
            · exact hge
          have hjl := (List.getElem?_eq_some_iff.mp hj2).1
          have hix : ixN (x :: xs).length (j : Int) = some j := by
            rw [ixN_in (by omega) (by omega)]; simp
          have hsh : fIndex [.list ((x :: xs).map .int), .int (maxL x xs)] = some (.int (j : Nat)) := by
            show (if SeqAt.shaped (.list ((x :: xs).map .int)) && SeqAt.shaped (.int (maxL x xs)) then (match idxD (.int (maxL x xs)) ((x :: xs).map .int) 0 with | some j => some (PyData.int (j : Nat)) | none => none) else none) = _
            rw [hj]
            simp
          refine ⟨((x :: xs).set j (maxL x xs - 1), casesI (x :: xs)), ?_, ?_, ⟨⟨?_, ?_⟩, fun z => by omega, fun p hp => ?_, fun z => ?_, fun _ => ?_⟩, ?_⟩
          · simp [t__law_cut_1, h4]
          · simp at hsh hix
            simp only [oi] at hf
            simp only [List.map_cons] at hf
            simp [b__law_cut_2, hf, h5, hsh, hix, List.map_set, -mForS_ap]
          · simp; have := hv.len; simp at this; omega
          · intro y hy
            rcases List.mem_or_eq_of_mem_set hy with hy | rfl
            · exact hv.nine y hy
            · omega
          · obtain ⟨i, hi, rfl⟩ := List.getElem_of_mem hp
            rw [List.getElem_zip]
            simp only
            rw [List.length_zip] at hi
            have hi2 : i < (x :: xs).length := by simp at hi ⊢; omega
            have hold := hle ((x :: xs)[i], w[i]'(by omega)) (by
              rw [← List.getElem_zip (h := by rw [List.length_zip]; omega)]
              exact List.getElem_mem _)
            simp only at hold
            rw [List.getElem_set]
            split
            · rename_i e
              subst e
              rw [List.getElem?_eq_getElem hi2] at hj2
              rw [Option.some.inj hj2] at hold
              omega
            · exact hold
          · exfalso
            have := heq z
            rw [← this] at z
            omega
          · have hm2 : 2 ≤ maxL x xs := by
              rcases Int.lt_or_le (maxL x xs) 2 with hlt | hge
              · exfalso
                have h9 := cases_two (x :: xs) (fun y hy => ⟨(hv.nine y hy).1, by
                  have h2 := maxL_ge x xs
                  rcases List.mem_cons.mp hy with rfl | hy
                  · have := h2.1; omega
                  · have := h2.2 y hy; omega⟩) 1 (by decide)
                have h10 : (2 : Int) ^ (x :: xs).length ≤ 16 := by
                  have hl : (x :: xs).length ≤ 4 := by rw [hv.len]; exact hn.2
                  have := Nat.pow_le_pow_right (n := 2) (by decide) hl
                  have h11 : ((2 ^ (x :: xs).length : Nat) : Int) ≤ ((2 ^ 4 : Nat) : Int) := by exact_mod_cast this
                  simpa using h11
                unfold casesI at h5
                omega
              · exact hge
            refine sum_pos_of (x := maxL x xs - 1) (fun y hy => ?_) (List.mem_set hjl _) (by omega)
            rcases List.mem_or_eq_of_mem_set hy with hy | rfl
            · exact (hv.nine y hy).1
            · omega
          · have := sum_set _ _ _ hj2 hm1
            simp only [h, if_false]
            have h6 : ¬ casesI (x :: xs) ≤ 400 := by omega
            simp only [h6, if_false]
            omega)
    obtain ⟨s, h1, h2, h3⟩ := base _ (w, 401) (Nat.le_refl _) ⟨hw, by omega, fun p hp => by
      obtain ⟨i, hi, rfl⟩ := List.getElem_of_mem hp
      rw [List.getElem_zip]
      exact Int.le_refl _, fun _ => rfl, fun h => h⟩
    exact ⟨s, h1, h2, h3⟩
  obtain ⟨⟨w', c⟩, h1, ⟨h2, h3, h4, h6⟩, h5⟩ := key
  exact ⟨w', c, h1, h2, by rw [← h3 h5]; exact h5, h4, h6⟩
theorem cut_ok (n : Nat) (hn : 1 ≤ n ∧ n ≤ 4) (w : List Int) (hw : Want n w) : ∃ w' : List Int, sem__law_cut [.l (w.map oi)] = some (.l (w'.map oi), []) ∧ Want n w' ∧ casesI w' ≤ 400 ∧ (∀ p ∈ w'.zip w, p.1 ≤ p.2) ∧ (casesI w ≤ 400 → w' = w) ∧ (0 < w.sum → 0 < w'.sum) := by
  obtain ⟨w', c, h1, h2⟩ := cut_while n hn w hw
  refine ⟨w', ?_, h2⟩
  simp [un__law_cut, m__law_cut, h1]
end Dn
namespace Dn
open PySem L2
theorem pick4 (n x : Int) (hx : 1 ≤ x ∧ x ≤ 9) : ∃ y : Int, atI [oi 0, oi 1, oi x, oi 1] (n % 4) = some (oi y) ∧ 0 ≤ y ∧ y ≤ 9 := by
  rcases (show n % 4 = 0 ∨ n % 4 = 1 ∨ n % 4 = 2 ∨ n % 4 = 3 by omega) with h | h | h | h <;> rw [h]
  · exact ⟨0, by simp, by omega⟩
  · exact ⟨1, by simp, by omega⟩
  · exact ⟨x, by simp, by omega⟩
  · exact ⟨1, by simp, by omega⟩
theorem content2_ok (ds : List Int) (many most : Int) (hm : 1 ≤ many ∧ many ≤ 4) (hmo : 1 ≤ most ∧ most ≤ 9) : ∃ (w ds' : List Int), sem__law_content_e374 [.l (ds.map oi), oi many, oi most] = some (.l (w.map oi), [.l (ds'.map oi)]) ∧ Want many.toNat w ∧ 0 < w.sum ∧ casesI w ≤ 400 := by
  obtain ⟨n0, d1, h1⟩ := pop_ok ds
  obtain ⟨⟨w, n⟩, h2, hI⟩ := for_inv (tg := .n 5) (body := b__law_content_e374_1) (enc := fun (k : Nat) => O.v (.int (k : Int))) (E := fun (s : List Int × Int) => [.pin (.l (d1.map oi)), .own (.v (.int many)), .own (.v (.int most)), .own (.v (.int s.2)), .own (.l (s.1.map oi)), .no])
    (fun pre s => s.1.length = pre.length ∧ ∀ x ∈ s.1, 0 ≤ x ∧ x ≤ 9) (all := List.range many.toNat) (List.range many.toNat) [] ([], n0) rfl ⟨rfl, by simp⟩ (by
    intro pre k post ⟨w, n⟩ hall ⟨hl, hx⟩
    simp only at hl hx
    have hpl : pre.length < 4 := by have := congrArg List.length hall; simp at this; omega
    have hmod : fMod [.int n, .int most] = some (.int (n % most)) := fMod_s (by omega)
    have hr : 1 ≤ 1 + n % most ∧ 1 + n % most ≤ 9 := by
      have a1 := Int.emod_nonneg n (show most ≠ 0 by omega)
      have a2 := Int.emod_lt_of_pos n (show 0 < most by omega)
      omega
    obtain ⟨y, hy, hy2⟩ := pick4 (n / 16) (1 + n % most) hr
    have hlf : w.length < 16777216 := by omega
    refine ⟨(w ++ [y], n / 64), _, rfl, ?_, by simp [hl], ?_⟩
    · simp [b__law_content_e374_1, hmod, hy, hlf]
    · intro x hx2
      rcases List.mem_append.mp hx2 with h | h
      · exact hx x h
      · simp at h; subst h; exact hy2)
  simp only at hI
  have hb1 : -4611686018427387904 ≤ many := by omega
  have hb2 : many < 4611686018427387904 := by omega
  have hb3 : many.toNat ≤ 16777216 := by omega
  have hw : Want many.toNat w := ⟨by rw [hI.1]; simp, hI.2⟩
  have hnn := nn_sum w fun x hx => (hw.nine x hx).1
  simp only [List.map_nil] at h2
  by_cases h0 : w.sum = 0
  · have hj : 0 ≤ n % many ∧ n % many < many := ⟨Int.emod_nonneg _ (by omega), Int.emod_lt_of_pos _ (by omega)⟩
    have hix : ixN w.length (n % many) = some (n % many).toNat := ixN_in hj.1 (by rw [hw.len]; omega)
    have hmod : fMod [.int n, .int many] = some (.int (n % many)) := fMod_s (by omega)
    have hjl : (n % many).toNat < w.length := by rw [hw.len]; omega
    have hw2 : Want many.toNat (w.set (n % many).toNat 1) := ⟨by simp [hw.len], fun x hx => by
      rcases List.mem_or_eq_of_mem_set hx with hx | rfl
      · exact hw.nine x hx
      · omega⟩
    have hp2 : 0 < (w.set (n % many).toNat 1).sum := sum_pos_of (fun x hx => (hw2.nine x hx).1) (List.mem_set hjl _) (by decide)
    obtain ⟨w', c1, c2, c3, -, -, c4⟩ := cut_ok many.toNat (by omega) _ hw2
    refine ⟨w', d1, ?_, c2, c4 hp2, c3⟩
    rw [List.map_set] at c1
    simp [un__law_content_e374, m__law_content_e374, h1, hb1, hb2, hb3, h2, h0, hmod, hix, c1]
  · obtain ⟨w', c1, c2, c3, -, -, c4⟩ := cut_ok many.toNat (by omega) w hw
    refine ⟨w', d1, ?_, c2, c4 (by omega), c3⟩
    simp [un__law_content_e374, m__law_content_e374, h1, hb1, hb2, hb3, h2, h0, c1]
theorem price2_ok (ds : List Int) : ∃ (p : Int) (ds' : List Int), sem__law_price_59e4 [.l (ds.map oi)] = some (oi p, [.l (ds'.map oi)]) ∧ 0 ≤ p ∧ p < 1000000000000 := by
  obtain ⟨n, d1, h1⟩ := pop_ok ds
  have h3 : 0 ≤ n / 12 % 5 ∧ n / 12 % 5 < 5 := by omega
  obtain ⟨x, hx, hx2⟩ := atI_in [n % 12, 20 + n % 100, n % 12, n * 465 % 1000000000000, 0] (i := n / 12 % 5) h3.1 (by simp; omega)
  have hm := List.mem_of_getElem? hx2
  have hx' := congrArg (Option.map oi) hx
  rw [← atI_map] at hx'
  simp at hx'
  have hmod : fMod [.int (n * 465), .int 1000000000000] = some (.int (n * 465 % 1000000000000)) := fMod_s (by decide)
  refine ⟨x, d1, ?_, ?_, ?_⟩
  · simp [un__law_price_59e4, m__law_price_59e4, h1, hx']
  · simp at hm; omega
  · simp at hm; omega
theorem tiers2_turn (ds : List Int) (k : Nat) (ts : List (Int × Int)) (at' : Int) (hl : ts.length ≤ 4) : ∃ (p z : Int) (ds' : List Int),
    b__law_tiers_fe28_1 [.pin (.l (ds.map oi)), .own (.l (ts.map fun t => .v (tierD t))), .own (.v (.int at')), .own (.v (.int (k : Int)))] = some (.nx [.pin (.l (ds'.map oi)), .own (.l ((if at' < 13 then ts ++ [(at', p)] else ts).map fun t => .v (tierD t))), .own (.v (.int (at' + 1 + z))), .no]) ∧ 0 ≤ z ∧ 0 ≤ p ∧ p < 1000000000000 := by
  obtain ⟨p, d2, h2, hp⟩ := price2_ok ds
  have hl2 : ts.length < 16777216 := by omega
  by_cases h : at' < 13
  · obtain ⟨n, d3, h3⟩ := pop_ok d2
    refine ⟨p, n % 5, d3, ?_, by omega, hp⟩
    simp [b__law_tiers_fe28_1, h2, h3, h, hl2, tierD]
  · obtain ⟨n, d3, h3⟩ := pop_ok ds
    refine ⟨p, n % 5, d3, ?_, by omega, hp⟩
    simp [b__law_tiers_fe28_1, h3, h]
theorem tierI_step {pre : Nat} {ts : List (Int × Int)} {at' p z : Int} (hI : TierI pre ts at') (hz : 0 ≤ z) (hp : 0 ≤ p ∧ p < 1000000000000) : TierI (pre + 1) (if at' < 13 then ts ++ [(at', p)] else ts) (at' + 1 + z) := by
  have hpos := hI.pos
  by_cases h : at' < 13
  · simp only [if_pos h]
    refine ⟨by simp; exact hI.len, ⟨by omega, fun h => by simp at h, fun _ => by simp⟩, fun _ => ?_, ?_, ?_, ?_⟩
    · cases ts with
      | nil => simp [hpos.2.1 rfl]
      | cons t ts => simpa using hI.one (by simp)
    · rw [List.map_append, List.pairwise_append]
      refine ⟨hI.up, by simp, fun a ha b hb => ?_⟩
      obtain ⟨t, ht, rfl⟩ := List.mem_map.mp ha
      simp at hb
      subst hb
      exact (hI.most t ht).2.2
    · intro t ht
      rcases List.mem_append.mp ht with ht | ht
      · obtain ⟨a, b, c⟩ := hI.most t ht
        exact ⟨a, b, by omega⟩
      · simp at ht; subst ht; simp only; omega
    · intro t ht
      rcases List.mem_append.mp ht with ht | ht
      · exact hI.price t ht
      · simp at ht; subst ht; exact hp
  · simp only [if_neg h]
    have hne : ts ≠ [] := fun z => by have := hpos.2.1 z; omega
    exact ⟨Nat.le_succ_of_le hI.len, ⟨by omega, fun h => absurd h hne, fun _ => hne⟩, hI.one, hI.up, fun t ht => by
      obtain ⟨a, b, c⟩ := hI.most t ht
      exact ⟨a, b, by omega⟩, hI.price⟩
theorem tierI_0 : TierI 0 [] 1 := { len := Nat.le_refl _, pos := ⟨Int.le_refl 1, fun _ => rfl, fun h => absurd rfl h⟩, one := fun h => absurd rfl h, up := .nil, most := (fun t ht => nomatch ht), price := (fun t ht => nomatch ht) }
theorem tierI_end {pre : Nat} {ts : List (Int × Int)} {at' : Int} (hI : TierI pre ts at') (h1 : 1 ≤ pre) (h2 : pre ≤ 4) : Tiers ts := by
  have hne : ts ≠ [] := hI.pos.2.2 (by omega)
  exact ⟨⟨List.length_pos_iff.mpr hne, by have := hI.len; omega⟩, hI.one hne, hI.up, fun t ht => ⟨(hI.most t ht).1, (hI.most t ht).2.1⟩, fun t ht => ⟨(hI.price t ht).1, by have := (hI.price t ht).2; omega⟩⟩
theorem tiers2_ok (ds : List Int) : ∃ (ts : List (Int × Int)) (ds' : List Int), sem__law_tiers_fe28 [.l (ds.map oi)] = some (.l (ts.map fun t => .v (tierD t)), [.l (ds'.map oi)]) ∧ Tiers ts := by
  obtain ⟨n, d1, h1⟩ := pop_ok ds
  obtain ⟨⟨ts, at', d2⟩, h2, hI⟩ := for_inv (tg := .n 3) (body := b__law_tiers_fe28_1) (enc := fun (k : Nat) => O.v (.int (k : Int))) (E := fun (s : List (Int × Int) × Int × List Int) => [.pin (.l (s.2.2.map oi)), .own (.l (s.1.map fun t => .v (tierD t))), .own (.v (.int s.2.1)), .no])
    (fun pre s => TierI pre.length s.1 s.2.1) (all := List.range (1 + n % 4).toNat) (List.range (1 + n % 4).toNat) [] ([], 1, d1) rfl tierI_0 (by
    intro pre k post ⟨ts, at', ds⟩ hall hI
    have hpl : pre.length < 4 := by have := congrArg List.length hall; simp at this; omega
    have hts := hI.len
    obtain ⟨p, z, ds', hb, hz, hp⟩ := tiers2_turn ds k ts at' (by simp only at hts; omega)
    refine ⟨(if at' < 13 then ts ++ [(at', p)] else ts, at' + 1 + z, ds'), _, rfl, hb, ?_⟩
    rw [List.length_append]
    exact tierI_step hI hz hp)
  simp only [List.length_range] at hI
  have hb1 : -4611686018427387904 ≤ 1 + n % 4 := by omega
  have hb2 : 1 + n % 4 < 4611686018427387904 := by omega
  refine ⟨ts, d2, ?_, tierI_end hI (by omega) (by omega)⟩
  simp only [List.map_nil] at h2
  simp [un__law_tiers_fe28, m__law_tiers_fe28, h1, hb1, hb2, h2]
def offT : Off → O
  | .pack c p => .t [.v (.str "pack"), .l (c.map oi), oi p]
  | .many c ts => .t [.v (.str "many"), .l (c.map oi), .l (ts.map fun t => .v (tierD t))]
  | .add c p k => .t [.v (.str "add"), .l (c.map oi), oi p, oi k]
@[simp] theorem toD_offT (o : Off) : (offT o).toD = some o.d := by
  cases o <;> simp [offT, Off.d]
@[simp] theorem toDs_offT (sh : List Off) : O.toDs (sh.map offT) = some (sh.map Off.d) := toDs_map toD_offT sh
def packs2L (sh : List Off) : List Int := ((sh.zipIdx 0).filter fun p => p.1.isPack).map fun p => ((p.2 : Nat) : Int)
theorem packs2L_mem {sh : List Off} {x : Int} (h : x ∈ packs2L sh) : 0 ≤ x ∧ x < sh.length ∧ ∃ c p, sh[x.toNat]? = some (.pack c p) := by
  unfold packs2L at h
  obtain ⟨⟨o, k⟩, hk, rfl⟩ := List.mem_map.mp h
  obtain ⟨h1, h2⟩ := List.mem_filter.mp hk
  have h3 := zipIdx_get h1
  simp only at h3 h2
  have hl := (List.getElem?_eq_some_iff.mp h3).1
  refine ⟨by simp only; omega, by simp only; omega, ?_⟩
  cases o with
  | pack c p => exact ⟨c, p, by simpa using h3⟩
  | many c ts => simp at h2
  | add c p k => simp at h2
theorem set2_get {e : En} {i j : Nat} {x y : Sl} (hi : e[i]? = some .no) (hj : e[j]? = some .no) (hij : i ≠ j) : ((e.set i x).set j y)[i]? = some x ∧ ((e.set i x).set j y)[j]? = some y ∧ (∀ k, k ≠ i → k ≠ j → ((e.set i x).set j y)[k]? = e[k]?) ∧ ((((e.set i x).set j y).set j .no).set i .no) = e := by
  have li := (List.getElem?_eq_some_iff.mp hi).1
  have lj := (List.getElem?_eq_some_iff.mp hj).1
  refine ⟨?_, ?_, fun k h1 h2 => ?_, ?_⟩
  · rw [List.getElem?_set_ne (Ne.symm hij), List.getElem?_set_self li]
  · rw [List.getElem?_set_self (by rw [List.length_set]; exact lj)]
  · rw [List.getElem?_set_ne (Ne.symm h2), List.getElem?_set_ne (Ne.symm h1)]
  · rw [List.set_set, List.set_comm _ _ hij.symm, List.set_set, set_self hi, set_self hj]
theorem lc_filter2 {α : Type} {i j : Nat} {mt : MD Bool} {me : MD O} {encA encB f : α → O} {p : α → Bool} {e : En} (hi : e[i]? = some .no) (hj : e[j]? = some .no) (hij : i ≠ j) (xs : List α) (h : ∀ x ∈ xs, ∀ e' : En, e'[i]? = some (.own (encA x)) → e'[j]? = some (.own (encB x)) → (∀ k, k ≠ i → k ≠ j → e'[k]? = e[k]?) → mt e' = some (p x, e') ∧ (p x = true → me e' = some (f x, e'))) :
    lcL (.tp [.n i, .n j]) mt me [i, j] (xs.map fun x => .t [encA x, encB x]) e = some ((xs.filter p).map f, e) := by
  refine lc_filter (enc := fun x => O.t [encA x, encB x]) xs fun x hx => ?_
  obtain ⟨g1, g2, g3, g4⟩ := set2_get (x := .own (encA x)) (y := .own (encB x)) hi hj hij
  obtain ⟨h1, h2⟩ := h x hx _ g1 g2 g3
  have hj2 : (e.set i (.own (encA x)))[j]? = some .no := by rw [List.getElem?_set_ne hij]; exact hj
  refine ⟨(e.set i (.own (encA x))).set j (.own (encB x)), _, (e.set i (.own (encA x))).set j (.own (encB x)), ?_, h1, fun hp => ⟨h2 hp, ?_⟩, fun _ => ?_⟩
  · simp [hi, hj2]
  · show (((e.set i _).set j _).set j .no).set i .no = e
    exact g4
  · show (((e.set i _).set j _).set j .no).set i .no = e
    exact g4
theorem packs2_lc (sh : List Off) (e : En) (h9 : e[9]? = some .no) (h10 : e[10]? = some .no) :
    lcL (.tp [.n 9, .n 10]) ct__law_shop_7fee_1 ce__law_shop_7fee_1 [9, 10] ((sh.zipIdx 0).map fun p => O.t [oi (p.2 : Nat), .v p.1.d]) e = some ((packs2L sh).map oi, e) := by
  rw [packs2L, List.map_map]
  refine lc_filter2 (encA := fun p : Off × Nat => oi (p.2 : Nat)) (encB := fun p => .v p.1.d) h9 h10 (by decide) _ fun p hp e' g1 g2 g3 => ?_
  exact ⟨by simp [ct__law_shop_7fee_1, g2], fun _ => by simp [ce__law_shop_7fee_1, g1]⟩
theorem free_oi (ns : List Int) : (ns.map oi).all O.free = true := by
  rw [List.all_eq_true]
  intro x hx
  obtain ⟨n, _, rfl⟩ := List.mem_map.mp hx
  simp
theorem shop2_turn (ds : List Int) (many most : Int) (hm : 1 ≤ many ∧ many ≤ 4) (k : Nat) (sh : List Off) (hg : Good many.toNat sh) (hl : sh.length ≤ 100) : ∃ (o : Off) (ds' : List Int),
    b__law_shop_7fee_1 [.pin (.l (ds.map oi)), .own (.v (.int many)), .own (.v (.int most)), .own (.l (sh.map offT)), .own (.v (.int (k : Int))), .no, .no, .no, .no, .no, .no] = some (.nx [.pin (.l (ds'.map oi)), .own (.v (.int many)), .own (.v (.int most)), .own (.l ((sh ++ [o]).map offT)), .no, .no, .no, .no, .no, .no, .no]) ∧ GoodO many.toNat sh sh.length o := by
  obtain ⟨n, d1, h1⟩ := pop_ok ds
  obtain ⟨c, d2, h2, hc, hs, -⟩ := content2_ok d1 many 9 hm (by omega)
  obtain ⟨p, d3, h3, hp⟩ := price2_ok d2
  obtain ⟨ts, d4, h4, ht⟩ := tiers2_ok d2
  have hpk := packs2_lc sh
  have hfr := free_oi (packs2L sh)
  have hb3 : sh.length ≤ 16777216 := by omega
  have hb4 : sh.length < 16777216 := by omega
  have henu : enuO 0 (sh.map fun o => O.v o.d) = (sh.zipIdx 0).map fun p => .t [oi (p.2 : Nat), .v p.1.d] := enuO_map _ 0 sh
  by_cases hmany : n % 8 < 2
  · refine ⟨.many c ts, d4, ?_, ⟨hc, hs, ht⟩⟩
    simp [b__law_shop_7fee_1, h1, h2, h4, pkIn_eq, henu, hpk, hfr, hb3, hb4, hmany, offT]
  · by_cases hadd : n % 8 < 4
    · by_cases hne : packs2L sh = []
      · refine ⟨.pack c p, d3, ?_, ⟨hc, hs, hp⟩⟩
        have hfn := fNe_nil (packs2L sh)
        simp [hne] at hfn
        simp [b__law_shop_7fee_1, h1, h2, h3, pkIn_eq, henu, hpk, hfr, hb3, hb4, hadd, hmany, hne, hfn, offT]
      · have hpl : 0 < (packs2L sh).length := List.length_pos_iff.mpr hne
        obtain ⟨x, hx, hx2⟩ := atI_in (packs2L sh) (i := n / 8 % ((packs2L sh).length : Int)) (Int.emod_nonneg _ (by omega)) (Int.emod_lt_of_pos _ (by omega))
        obtain ⟨q1, q2, q3⟩ := packs2L_mem (List.mem_of_getElem? hx2)
        have hmod : fMod [.int (n / 8), .int ((packs2L sh).length : Int)] = some (.int (n / 8 % ((packs2L sh).length : Int))) := fMod_s (by omega)
        refine ⟨.add c p x, d3, ?_, ⟨hc, hs, hp, q1, q2, q3⟩⟩
        simp [b__law_shop_7fee_1, h1, h2, h3, pkIn_eq, henu, hpk, hfr, hb3, hb4, hadd, hmany, hne, hx, hmod, offT]
    · refine ⟨.pack c p, d3, ?_, ⟨hc, hs, hp⟩⟩
      simp [b__law_shop_7fee_1, h1, h2, h3, pkIn_eq, henu, hpk, hfr, hb3, hb4, hadd, hmany, offT]
theorem shop2_ok (ds : List Int) (many most : Int) (hm : 1 ≤ many ∧ many ≤ 4) (hmo : 0 ≤ most ∧ most ≤ 50) : ∃ (sh : List Off) (ds' : List Int), sem__law_shop_7fee [.l (ds.map oi), oi many, oi most] = some (.l (sh.map offT), [.l (ds'.map oi)]) ∧ Good many.toNat sh ∧ sh.length ≤ most.toNat := by
  obtain ⟨n, d1, h1⟩ := pop_ok ds
  have hmod : fMod [.int n, .int (most + 1)] = some (.int (n % (most + 1))) := fMod_s (by omega)
  have hr : 0 ≤ n % (most + 1) ∧ n % (most + 1) < most + 1 := ⟨Int.emod_nonneg _ (by omega), Int.emod_lt_of_pos _ (by omega)⟩
  obtain ⟨⟨sh, d2⟩, h2, hI⟩ := for_inv (tg := .n 4) (body := b__law_shop_7fee_1) (enc := fun (k : Nat) => O.v (.int (k : Int))) (E := fun (s : List Off × List Int) => [.pin (.l (s.2.map oi)), .own (.v (.int many)), .own (.v (.int most)), .own (.l (s.1.map offT)), .no, .no, .no, .no, .no, .no, .no])
    (fun pre s => Good many.toNat s.1 ∧ s.1.length = pre.length) (all := List.range (n % (most + 1)).toNat) (List.range (n % (most + 1)).toNat) [] ([], d1) rfl ⟨fun i o h => by simp at h, rfl⟩ (by
    intro pre k post ⟨sh, ds⟩ hall ⟨hg, hl⟩
    have hpl : pre.length < 51 := by have := congrArg List.length hall; simp at this; omega
    simp only at hg hl
    obtain ⟨o, ds', hb, ho⟩ := shop2_turn ds many most hm k sh hg (by omega)
    exact ⟨(sh ++ [o], ds'), _, rfl, hb, hg.snoc ho, by simp [hl]⟩)
  have hb1 : -4611686018427387904 ≤ n % (most + 1) := by omega
  have hb2 : n % (most + 1) < 4611686018427387904 := by omega
  refine ⟨sh, d2, ?_, hI.1, by have := hI.2; simp at this; omega⟩
  simp only [List.map_nil] at h2
  simp [un__law_shop_7fee, m__law_shop_7fee, h1, hmod, hb1, hb2, h2]
theorem want2_ok (ds : List Int) (many : Int) (hm : 1 ≤ many ∧ many ≤ 4) : ∃ (w ds' : List Int), sem__law_want_c9ae [.l (ds.map oi), oi many] = some (.l (w.map oi), [.l (ds'.map oi)]) ∧ Want many.toNat w ∧ casesI w ≤ 400 := by
  obtain ⟨n0, d1, h1⟩ := pop_ok ds
  obtain ⟨⟨w, n⟩, h2, hI⟩ := for_inv (tg := .n 4) (body := b__law_want_c9ae_1) (enc := fun (k : Nat) => O.v (.int (k : Int))) (E := fun (s : List Int × Int) => [.pin (.l (d1.map oi)), .own (.v (.int many)), .own (.v (.int s.2)), .own (.l (s.1.map oi)), .no])
    (fun pre s => s.1.length = pre.length ∧ ∀ x ∈ s.1, 0 ≤ x ∧ x ≤ 9) (all := List.range many.toNat) (List.range many.toNat) [] ([], n0) rfl ⟨rfl, by simp⟩ (by
    intro pre k post ⟨w, n⟩ hall ⟨hl, hx⟩
    simp only at hl hx
    have hpl : pre.length < 4 := by have := congrArg List.length hall; simp at this; omega
    have hlf : w.length < 16777216 := by omega
    refine ⟨(w ++ [n % 10], n / 10), _, rfl, ?_, by simp [hl], ?_⟩
    · simp [b__law_want_c9ae_1, hlf]
    · intro x hx2
      rcases List.mem_append.mp hx2 with h | h
      · exact hx x h
      · simp at h; subst h; omega)
  simp only at hI
  have hb1 : -4611686018427387904 ≤ many := by omega
  have hb2 : many < 4611686018427387904 := by omega
  have hb3 : many.toNat ≤ 16777216 := by omega
  have hw : Want many.toNat w := ⟨by rw [hI.1]; simp, hI.2⟩
  simp only [List.map_nil] at h2
  obtain ⟨w', c1, c2, c3, -⟩ := cut_ok many.toNat (by omega) w hw
  refine ⟨w', d1, ?_, c2, c3⟩
  simp [un__law_want_c9ae, m__law_want_c9ae, h1, hb1, hb2, hb3, h2, c1]
theorem pick8 (n : Int) : ∃ y : Int, atI [oi 1, oi 2, oi 2, oi 3, oi 2, oi 3, oi 1, oi 4] (n % 8) = some (oi y) ∧ 1 ≤ y ∧ y ≤ 4 := by
  obtain ⟨x, hx, hx2⟩ := atI_in [(1 : Int), 2, 2, 3, 2, 3, 1, 4] (i := n % 8) (by omega) (by simp; omega)
  have hm := List.mem_of_getElem? hx2
  have hx' := congrArg (Option.map oi) hx
  rw [← atI_map] at hx'
  exact ⟨x, hx', by simp at hm; omega⟩
theorem case2_ok (ns : List Int) (hl : ns.length ≤ 63) (t : Int) (ht : 0 ≤ t ∧ t ≤ 1000) : ∃ (m : Int) (sh : List Off) (w ds : List Int), sem__law_case_2562 [.s ns, oi t] = some (.t [oi m, .l (sh.map offT), .l (w.map oi), .l (ds.map oi)], []) ∧ 1 ≤ m ∧ m ≤ 4 ∧ Good m.toNat sh ∧ sh.length ≤ 8 ∧ Want m.toNat w ∧ casesI w ≤ 400 := by
  obtain ⟨d0, h0⟩ := draws2_ok ns hl 1 t (by omega) ht
  obtain ⟨n, d1, h1⟩ := pop_ok d0
  obtain ⟨m, hm, hm1⟩ := pick8 n
  obtain ⟨sh, d2, h2, hg, hs⟩ := shop2_ok d1 m 8 hm1 (by omega)
  obtain ⟨w, d3, h3, hw, hc⟩ := want2_ok d2 m hm1
  refine ⟨m, sh, w, d3, ?_, hm1.1, hm1.2, hg, by simpa using hs, hw, hc⟩
  simp only [oi] at hm
  simp [un__law_case_2562, m__law_case_2562, h0, h1, hm, h2, h3]
end Dn
namespace Dn
open PySem L2
def grpS (p : Int) (g : List (List Int)) : List (List Int) := g.take 1 ++ g.map (p :: ·) ++ g.drop 1
def groupsL (ps : List Int) : List (List Int) := ps.foldr grpS [[]]
theorem groupsL_head : ∀ ps : List Int, ∃ r, groupsL ps = [] :: r ∧ ∀ x ∈ r, x ≠ []
  | [] => ⟨[], rfl, by simp⟩
  | p :: ps => by
    obtain ⟨r, h, hr⟩ := groupsL_head ps
    refine ⟨([] :: r).map (p :: ·) ++ r, ?_, fun x hx => ?_⟩
    · show grpS p (groupsL ps) = _
      rw [h]
      rfl
    · rcases List.mem_append.mp hx with hx | hx
      · obtain ⟨y, _, rfl⟩ := List.mem_map.mp hx
        simp
      · exact hr x hx
theorem groupsL_cons (p : Int) (ps : List Int) : groupsL (p :: ps) = [] :: ((groupsL ps).map (p :: ·) ++ (groupsL ps).tail) := by
  obtain ⟨r, h, _⟩ := groupsL_head ps
  show grpS p (groupsL ps) = _
  rw [h]
  rfl
theorem groupsL_mem : ∀ (ps x : List Int), x ∈ groupsL ps ↔ x.Sublist ps
  | [], x => by simp [groupsL]
  | p :: ps, x => by
    have ih := groupsL_mem ps
    obtain ⟨r, h, hr⟩ := groupsL_head ps
    rw [groupsL_cons]
    constructor
    · intro hx
      rcases List.mem_cons.mp hx with rfl | hx
      · exact List.nil_sublist _
      · rcases List.mem_append.mp hx with hx | hx
        · obtain ⟨y, hy, rfl⟩ := List.mem_map.mp hx
          exact ((ih y).mp hy).cons_cons p
        · exact ((ih x).mp (List.mem_of_mem_tail hx)).cons p
    · intro hx
      cases hx with
      | cons _ hs =>
        by_cases e : x = []
        · rw [e]; exact List.mem_cons_self ..
        · have := (ih x).mpr hs
          rw [h] at this
          rcases List.mem_cons.mp this with z | z
          · exact absurd z e
          · refine List.mem_cons_of_mem _ (List.mem_append_right _ ?_)
            rw [h]; exact z
      | cons_cons _ hs => exact List.mem_cons_of_mem _ (List.mem_append_left _ (List.mem_map.mpr ⟨_, (ih _).mpr hs, rfl⟩))
theorem groupsL_strict : ∀ (ps : List Int), ps.Pairwise (· < ·) → (groupsL ps).Pairwise fun a b => lexI a b = true
  | [], _ => by simp [groupsL]
  | p :: ps, hp => by
    rw [List.pairwise_cons] at hp
    have ih := groupsL_strict ps hp.2
    obtain ⟨r, h, hr⟩ := groupsL_head ps
    rw [groupsL_cons, List.pairwise_cons]
    refine ⟨fun x hx => ?_, ?_⟩
    · have : x ≠ [] := by
        rcases List.mem_append.mp hx with hx | hx
        · obtain ⟨y, _, rfl⟩ := List.mem_map.mp hx
          simp
        · rw [h] at hx; exact hr x hx
      cases x with
      | nil => exact absurd rfl this
      | cons a x => rfl
    · rw [List.pairwise_append]
      refine ⟨?_, ?_, fun x hx y hy => ?_⟩
      · rw [List.pairwise_map]
        exact ih.imp fun {a b} hab => by simp [lexI, hab]
      · rw [h] at ih ⊢
        exact (List.pairwise_cons.mp ih).2
      · obtain ⟨x', _, rfl⟩ := List.mem_map.mp hx
        rw [h] at hy
        have hy' : y ∈ r := hy
        have hsub := (groupsL_mem ps y).mp (by rw [h]; exact List.mem_cons_of_mem _ hy')
        cases y with
        | nil => exact absurd rfl (hr _ hy')
        | cons q y =>
          have hq : q ∈ ps := hsub.subset (List.mem_cons_self ..)
          have hlt := hp.1 q hq
          have hne : ¬ p = q := by omega
          simp [lexI, hne, hlt]
theorem dbl_mem : ∀ (ps : List Int) (rows : List (List Int)) (x : List Int), x ∈ ps.foldl dblL rows ↔ ∃ r ∈ rows, ∃ s, s.Sublist ps ∧ x = r ++ s
  | [], rows, x => by simp
  | p :: ps, rows, x => by
    rw [List.foldl_cons, dbl_mem ps]
    constructor
    · rintro ⟨r, hr, s, hs, rfl⟩
      rcases List.mem_append.mp (show r ∈ rows ++ rows.map (· ++ [p]) from hr) with hr | hr
      · exact ⟨r, hr, s, hs.cons p, rfl⟩
      · obtain ⟨r', hr', rfl⟩ := List.mem_map.mp hr
        exact ⟨r', hr', p :: s, hs.cons_cons p, by simp⟩
    · rintro ⟨r, hr, s, hs, rfl⟩
      cases hs with
      | cons _ hs => exact ⟨r, List.mem_append_left _ hr, s, hs, rfl⟩
      | cons_cons _ hs => exact ⟨r ++ [p], List.mem_append_right _ (List.mem_map.mpr ⟨r, hr, rfl⟩), _, hs, by simp⟩
theorem eq_of_strict {α : Type} {lt : α → α → Prop} (hirr : ∀ a, ¬ lt a a) (hasym : ∀ a b, lt a b → ¬ lt b a) : ∀ (a b : List α), a.Pairwise lt → b.Pairwise lt → (∀ x, x ∈ a ↔ x ∈ b) → a = b
  | [], [], _, _, _ => rfl
  | [], y :: b, _, _, h => by have := (h y).mpr (List.mem_cons_self ..); simp at this
  | x :: a, [], _, _, h => by have := (h x).mp (List.mem_cons_self ..); simp at this
  | x :: a, y :: b, ha, hb, h => by
    rw [List.pairwise_cons] at ha hb
    have e : x = y := by
      rcases List.mem_cons.mp ((h x).mp (List.mem_cons_self ..)) with e | hx
      · exact e
      · rcases List.mem_cons.mp ((h y).mpr (List.mem_cons_self ..)) with e | hy
        · exact e.symm
        · exact absurd (hb.1 x hx) (hasym _ _ (ha.1 y hy))
    subst e
    congr 1
    refine eq_of_strict hirr hasym a b ha.2 hb.2 fun z => ⟨fun hz => ?_, fun hz => ?_⟩
    · rcases List.mem_cons.mp ((h z).mp (List.mem_cons_of_mem _ hz)) with e | hz2
      · subst e; exact absurd (ha.1 _ hz) (hirr _)
      · exact hz2
    · rcases List.mem_cons.mp ((h z).mpr (List.mem_cons_of_mem _ hz)) with e | hz2
      · subst e; exact absurd (hb.1 _ hz) (hirr _)
      · exact hz2
theorem groups_choices {ps : List Int} (h : ps.Pairwise (· < ·)) : groupsL ps = choicesL ps := by
  have hnd : ps.Nodup := h.imp fun {a b} hab => by omega
  refine eq_of_strict (lt := fun a b => lexI a b = true) (fun a => by rw [lexI_irrefl]; exact Bool.false_ne_true) (fun a b hab => by rw [lexI_asymm _ _ hab]; exact Bool.false_ne_true) _ _ (groupsL_strict ps h) (choicesL_strict hnd) fun x => ?_
  rw [groupsL_mem]
  unfold choicesL
  rw [(sortRows_perm _).mem_iff, dbl_mem]
  simp
theorem addsL_up (sh : List Off) (i : Int) : (addsL sh i).Pairwise (· < ·) := by
  unfold addsL
  rw [List.pairwise_map]
  exact List.Pairwise.imp (fun {a b} h => by omega) ((zipIdx_pair sh 0).sublist List.filter_sublist)
theorem mVar_toD {e : En} {i : Nat} {x : O} {d : PyData} (h : e[i]? = some (.own x)) (hd : x.toD = some d) : mVar i e = some (.v d, e.set i (.own (.v d))) := by
  cases x with
  | v d' =>
    have : d' = d := by simpa using hd
    subst this
    rw [mVar_ap, h]
    simp only
    rw [set_self h]
  | s ns => simp [O.toD] at hd
  | l xs => rw [mVar_ap, h]; simp only; rw [hd]
  | t xs => rw [mVar_ap, h]; simp only; rw [hd]
  | fx u => simp [O.toD] at hd
  | ex u => simp [O.toD] at hd
  | dk u => simp [O.toD] at hd
  | dt u => simp [O.toD] at hd
  | ob a b c => simp [O.toD] at hd
theorem groups_turn (s0 s3 : Sl) (p : Int) (x : O) (rows : List (List Int)) (hx : x.toD = some (.list (rows.map rowD))) (hl : rows.length ≤ 100000) (hr : ∀ r ∈ rows, r.length ≤ 1000) : ∃ x' : O,
    b__law_groups_1 [s0, .own x, .own (.v (.int p)), .no] = some (.nx [s0, .own x', .no, .no]) ∧ x'.toD = some (.list ((grpS p rows).map rowD)) := by
  have hv := fun (e : En) (h : e[1]? = some (.own x)) => mVar_toD h hx
  have hlc : ∀ e : En, e[2]? = some (.own (.v (.int p))) → e[3]? = some .no → lcL (.n 3) mYes ce__law_groups_1 [3] (rows.map fun r => O.v (rowD r)) e = some (rows.map (fun r => rowO (p :: r)), e) := fun e h2 h3 => by
    refine lc_map1 h3 _ fun r hr2 e' g1 g2 => ?_
    have hb : 1 + r.length ≤ 16777216 := by have := hr r hr2; omega
    have hb' : r.length + 1 ≤ 16777216 := by omega
    simp [ce__law_groups_1, g1, g2, h2, hb, hb']
  have c1 : cutG (rows.map fun r => O.v (rowD r)) none (some 1) = (rows.take 1).map fun r => O.v (rowD r) := by rw [cutG_map1]; exact congrArg _ (cutG_take _ 1)
  have c2 : cutG (rows.map fun r => O.v (rowD r)) (some 1) none = (rows.drop 1).map fun r => O.v (rowD r) := by rw [cutG_map1]; exact congrArg _ (cutG_drop _ 1)
  refine ⟨.l ((rows.take 1).map (fun r => O.v (rowD r)) ++ rows.map (fun r => rowO (p :: r)) ++ (rows.drop 1).map fun r => O.v (rowD r)), ?_, ?_⟩
  · have hv1 : mVar 1 [s0, .own x, .own (.v (.int p)), .no] = some (.v (.list (rows.map rowD)), [s0, .own (.v (.list (rows.map rowD))), .own (.v (.int p)), .no]) := hv _ rfl
    have hb1 : rows.length ≤ 16777216 := by omega
    have hb2 : (rows.take 1).length + rows.length ≤ 16777216 := by rw [List.length_take]; omega
    have hb3 : (rows.take 1).length + rows.length + (rows.drop 1).length ≤ 16777216 := by rw [List.length_take, List.length_drop]; omega
    generalize rows.take 1 = ta at c1 hb2 hb3 ⊢
    generalize rows.drop 1 = tb at c2 hb3 ⊢
    simp [b__law_groups_1, hv1, c1, c2, hlc, hb1, hb2, hb3, -mVar_ap]
    simp [hlc, c2, hb1, hb2, hb3]
  · have e1 : O.toDs ((rows.take 1).map fun r => O.v (rowD r)) = some ((rows.take 1).map rowD) := toDs_mapv _ _
    have e2 : O.toDs (rows.map fun r => rowO (p :: r)) = some (rows.map fun r => rowD (p :: r)) := toDs_map (f := fun r : List Int => rowO (p :: r)) (g := fun r => rowD (p :: r)) (fun r => by simp) rows
    have e3 : O.toDs ((rows.drop 1).map fun r => O.v (rowD r)) = some ((rows.drop 1).map rowD) := toDs_mapv _ _
    rw [toD_l, toDs_append, toDs_append, e1, e2, e3]
    simp only [Option.map_some, grpS, List.map_append, List.map_map]
    rfl
theorem groups_ok (ps : List Int) (hl : ps.length ≤ 10) : ∃ x : O, sem__law_groups [.v (.list (ps.map .int))] = some (x, []) ∧ x.toD = some (.list ((groupsL ps).map rowD)) := by
  have glen : ∀ qs : List Int, (groupsL qs).length = 2 ^ qs.length := by
    intro qs
    induction qs with
    | nil => rfl
    | cons q qs ih =>
      rw [groupsL_cons]
      have h1 : 1 ≤ (groupsL qs).length := by rw [ih]; exact Nat.two_pow_pos _
      simp only [List.length_cons, List.length_append, List.length_map, List.length_tail]
      rw [Nat.pow_succ, ← ih]
      omega
  obtain ⟨⟨x, rows⟩, h, hI⟩ := for_inv (tg := .n 2) (body := b__law_groups_1) (enc := fun (n : Int) => O.v (.int n)) (E := fun (s : O × List (List Int)) => [.own (.v (.list (ps.map .int))), .own s.1, .no, .no])
    (fun pre s => s.1.toD = some (.list (s.2.map rowD)) ∧ s.2 = groupsL pre.reverse) (all := ps.reverse) ps.reverse [] (.l [.l []], [[]]) rfl ⟨by simp, rfl⟩ (by
    intro pre p post ⟨x, rows⟩ hall ⟨h1, h2⟩
    simp only at h1 h2
    have hpl : pre.length < 10 := by have := congrArg List.length hall; simp at this; omega
    have hrl : rows.length ≤ 1024 := by
      rw [h2, glen, List.length_reverse]
      exact Nat.le_trans (Nat.pow_le_pow_right (by decide) (show pre.length ≤ 10 by omega)) (by decide)
    obtain ⟨x', g1, g2⟩ := groups_turn (.own (.v (.list (ps.map .int)))) .no p x rows h1 (by omega) (fun r hr => by
      rw [h2] at hr
      have := ((groupsL_mem _ _).mp hr).length_le
      simp at this; omega)
    refine ⟨(x', grpS p rows), _, rfl, g1, g2, ?_⟩
    simp only [List.reverse_append, List.reverse_cons, List.reverse_nil, List.nil_append, List.singleton_append]
    rw [h2]
    rfl)
  simp only [List.reverse_reverse] at hI
  refine ⟨x, ?_, by rw [hI.1, hI.2]⟩
  rw [List.map_reverse] at h
  have hb : ps.length ≤ 16777216 := by omega
  simp at h
  simp [un__law_groups, m__law_groups, h, hb]
end Dn
namespace Dn
open PySem L2
abbrev Wr := Ln × List Int × Int
def wareD (x : Wr) : PyData := .tuple [lineD x.1, rowD x.2.1, .int x.2.2]
def wareOf (sh : List Off) (l : Ln) : Wr := (l, lcont sh l, lprice sh l)
def waresL (sh : List Off) : List Wr := (linesL sh).map (wareOf sh)
theorem scaleL_1 (c : List Int) : scaleL 1 c = c := by
  unfold scaleL
  induction c with
  | nil => rfl
  | cons x c ih => simp
theorem ll_adds (n : Nat) (hn : n ≤ 4) (sh : List Off) (hg : Good n sh) (adds : List Int) (ha : ∀ a ∈ adds, ∃ c p k, atI sh a = some (.add c p k)) (c0 : List Int) (p0 : Int) (hc : c0.length = n) (s1 s2 s3 s4 s5 s6 s10 s11 s12 : Sl) :
    forL (.n 9) b__law_lines_9070_1 (adds.map fun n => O.v (.int n)) [.own (.v (shopD sh)), s1, s2, s3, s4, s5, s6, .own (.v (.list (c0.map .int))), .own (.v (.int p0)), .no, s10, s11, s12]
     = some (.nx [.own (.v (shopD sh)), s1, s2, s3, s4, s5, s6, .own (.v (.list ((adds.foldl (fun f a => sumL f (cAt sh a)) c0).map .int))), .own (.v (.int (p0 + (adds.map (pAt sh)).sum))), .no, s10, s11, s12]) := by
  obtain ⟨⟨f, q⟩, h, h1, h2, -⟩ := for_inv (tg := .n 9) (body := b__law_lines_9070_1) (enc := fun (n : Int) => O.v (.int n)) (E := fun (s : List Int × Int) => [.own (.v (shopD sh)), s1, s2, s3, s4, s5, s6, .own (.v (.list (s.1.map .int))), .own (.v (.int s.2)), .no, s10, s11, s12])
    (fun pre s => s.1 = pre.foldl (fun f a => sumL f (cAt sh a)) c0 ∧ s.2 = p0 + (pre.map (pAt sh)).sum ∧ s.1.length = n) (all := adds) adds [] (c0, p0) rfl ⟨rfl, by simp, hc⟩ (by
    intro pre a post ⟨f, q⟩ hall ⟨h1, h2, h3⟩
    simp only at h1 h2 h3
    obtain ⟨ca, pa, ka, haa⟩ := ha a (by rw [hall]; simp)
    have hca : cAt sh a = ca := by unfold cAt; rw [haa]; rfl
    have hpa : pAt sh a = pa := by unfold pAt; rw [haa]
    have hcal := cAt_len hg haa
    rw [hca] at hcal
    have hp := lsum_ok f ca (by omega) (by omega)
    refine ⟨(sumL f (cAt sh a), q + pa), _, rfl, ?_, ?_, ?_, ?_⟩
    · rw [hca]
      simp [b__law_lines_9070_1, haa, hp, Off.c]
    · rw [h1, List.foldl_append]; rfl
    · rw [h2, List.map_append, List.sum_append]; simp [hpa]; omega
    · simp only; rw [sumL_len, hca]; omega)
  simp only at h1 h2
  rw [← h1, ← h2]
  exact h
theorem ll_pack (n : Nat) (hn : n ≤ 4) (sh : List Off) (hg : Good n sh) (i : Nat) (c : List Int) (p : Int) (ho : sh[i]? = some (.pack c p)) (as : List (List Int)) (has : ∀ a ∈ as, ∀ x ∈ a, ∃ c p k, atI sh x = some (.add c p k)) (acc : List Wr) (hl : acc.length + as.length ≤ 100000) (s4 s6 s10 s11 s12 : Sl) :
    forL (.n 5) b__law_lines_9070_2 (as.map fun a => O.v (rowD a)) [.own (.v (shopD sh)), .own (.l (acc.map fun w => .v (wareD w))), .own (.v (.int (i : Int))), .own (.v (Off.pack c p).d), s4, .no, s6, .no, .no, .no, s10, s11, s12]
     = some (.nx [.own (.v (shopD sh)), .own (.l ((acc ++ as.map fun a => wareOf sh ((i : Int), 1, a)).map fun w => .v (wareD w))), .own (.v (.int (i : Int))), .own (.v (Off.pack c p).d), s4, .no, s6, .no, .no, .no, s10, s11, s12]) := by
  have hgo := hg i _ ho
  have hat : atI sh (i : Int) = some (.pack c p) := atI_nat rfl ho
  obtain ⟨acc', h, hI⟩ := for_inv (tg := .n 5) (body := b__law_lines_9070_2) (enc := fun (a : List Int) => O.v (rowD a)) (E := fun (acc : List Wr) => [.own (.v (shopD sh)), .own (.l (acc.map fun w => .v (wareD w))), .own (.v (.int (i : Int))), .own (.v (Off.pack c p).d), s4, .no, s6, .no, .no, .no, s10, s11, s12])
    (fun pre a => a = acc ++ pre.map fun a => wareOf sh ((i : Int), 1, a)) (all := as) as [] acc rfl (by simp) (by
    intro pre a post ac hall hI
    have hpl : pre.length < as.length := by rw [hall]; simp
    have hal : ac.length < 16777216 := by rw [hI]; simp; omega
    have hA := ll_adds n hn sh hg a (has a (by rw [hall]; simp)) c p (by have := hgo.w.len; exact this) (.own (.l (ac.map fun w => .v (wareD w)))) (.own (.v (.int (i : Int)))) (.own (.v (Off.pack c p).d)) s4 (.own (.v (rowD a))) s6 s10 s11 s12
    have hw : wareOf sh ((i : Int), 1, a) = (((i : Int), 1, a), a.foldl (fun f a => sumL f (cAt sh a)) c, p + (a.map (pAt sh)).sum) := by
      unfold wareOf lcont lprice cAt
      simp only [hat, Off.c, scaleL_1]
    refine ⟨ac ++ [wareOf sh ((i : Int), 1, a)], _, rfl, ?_, by rw [hI]; simp⟩
    rw [hw]
    generalize hX : a.foldl (fun f a => sumL f (cAt sh a)) c = X at hA
    generalize hY : (a.map (pAt sh)).sum = Y at hA
    have hd1 : ixO [.v (Off.pack c p).d, .v (.int 1)] = some (.list (c.map .int)) := by simp [Off.d]
    have hal' : (ac.map fun w => O.v (wareD w)).length < 16777216 := by rw [List.length_map]; exact hal
    rw [List.map_append]
    generalize (ac.map fun w => O.v (wareD w)) = A at *
    simp [b__law_lines_9070_2, hd1, hA, hal', wareD, lineD])
  rw [hI] at h
  exact h
theorem ll_many (n : Nat) (hn : n ≤ 4) (sh : List Off) (hg : Good n sh) (i : Nat) (c : List Int) (ts : List (Int × Int)) (ho : sh[i]? = some (.many c ts)) (acc : List Wr) (hl : acc.length ≤ 100000) (s4 s5 s7 s9 s10 : Sl) :
    forL (.n 6) b__law_lines_9070_3 (counts12.map fun a => O.v (.int a)) [.own (.v (shopD sh)), .own (.l (acc.map fun w => .v (wareD w))), .own (.v (.int (i : Int))), .own (.v (Off.many c ts).d), s4, s5, .no, s7, .no, s9, s10, .no, .no]
     = some (.nx [.own (.v (shopD sh)), .own (.l ((acc ++ counts12.map fun k => wareOf sh ((i : Int), k, [])).map fun w => .v (wareD w))), .own (.v (.int (i : Int))), .own (.v (Off.many c ts).d), s4, s5, .no, s7, .no, s9, s10, .no, .no]) := by
  have hgo := hg i _ ho
  have ht : Tiers ts := hgo.kind
  have hat : atI sh (i : Int) = some (.many c ts) := atI_nat rfl ho
  obtain ⟨acc', h, hI⟩ := for_inv (tg := .n 6) (body := b__law_lines_9070_3) (enc := fun (a : Int) => O.v (.int a)) (E := fun (acc : List Wr) => [.own (.v (shopD sh)), .own (.l (acc.map fun w => .v (wareD w))), .own (.v (.int (i : Int))), .own (.v (Off.many c ts).d), s4, s5, .no, s7, .no, s9, s10, .no, .no])
    (fun pre a => a = acc ++ pre.map fun k => wareOf sh ((i : Int), k, [])) (all := counts12) counts12 [] acc rfl (by simp) (by
    intro pre k post ac hall hI
    have hkm : k ∈ counts12 := by rw [hall]; simp
    have hk : 1 ≤ k ∧ k ≤ 12 := by simp [counts12] at hkm; omega
    have hpl : pre.length < 12 := by have := congrArg List.length hall; simp [counts12] at this; omega
    have hal : ac.length < 16777216 := by rw [hI]; simp; omega
    have hlc : ∀ e : En, e[6]? = some (.own (.v (.int k))) → e[12]? = some .no → lcL (.n 12) ct__law_lines_9070_2 ce__law_lines_9070_2 [12] (ts.map fun t => O.v (tierD t)) e = some ((((ts.filter fun t => decide (t.1 ≤ k)).map (·.2))).map oi, e) := fun e h6 h12 => by
      rw [List.map_map]
      refine lc_filter1 h12 _ fun t _ e' g1 g2 => ?_
      exact ⟨by simp [ct__law_lines_9070_2, g1, g2, h6, tierD], fun _ => by simp [ce__law_lines_9070_2, g1, tierD]⟩
    have hne : ((ts.filter fun t => decide (t.1 ≤ k)).map (·.2)) ≠ [] := by
      obtain ⟨t, r, rfl⟩ : ∃ t r, ts = t :: r := by
        cases ts with
        | nil => have := ht.len.1; simp at this
        | cons t r => exact ⟨t, r, rfl⟩
      have h1 : t.1 = 1 := by have := ht.one; simpa using this
      have : t.1 ≤ k := by omega
      simp [this]
    obtain ⟨u, z, hz⟩ : ∃ u z, ((ts.filter fun t => decide (t.1 ≤ k)).map (·.2)) = u ++ [z] := ⟨_, _, (List.dropLast_concat_getLast hne).symm⟩
    have htp : tierP ts k = z := by
      unfold tierP
      rw [hz]
      simp
    have hlc' : ∀ e : En, e[6]? = some (.own (.v (.int k))) → e[12]? = some .no → lcL (.n 12) ct__law_lines_9070_2 ce__law_lines_9070_2 [12] (ts.map fun t => O.v (tierD t)) e = some (u.map oi ++ [oi z], e) := fun e h6 h12 => by
      rw [hlc e h6 h12, hz, List.map_append]; rfl
    have hat2 : atI (u.map oi ++ [oi z]) (-1) = some (oi z) := atI_last _ _
    have hcl : ∀ e : En, e[6]? = some (.own (.v (.int k))) → e[11]? = some .no → lcL (.n 11) mYes ce__law_lines_9070_3 [11] (c.map fun n => O.v (.int n)) e = some ((scaleL k c).map oi, e) := fun e h6 h11 => by
      rw [scaleL, List.map_map]
      refine lc_map1 h11 _ fun x _ e' g1 g2 => ?_
      have b1 : -18446744073709551616 < k := by omega
      have b2 : k < 18446744073709551616 := by omega
      simp [ce__law_lines_9070_3, g1, g2, h6, b1, b2]
    have hw : wareOf sh ((i : Int), k, []) = (((i : Int), k, []), scaleL k c, k * z) := by
      unfold wareOf lcont lprice cAt
      simp only [hat, Off.c, htp]
      rfl
    refine ⟨ac ++ [wareOf sh ((i : Int), k, [])], _, rfl, ?_, by rw [hI]; simp⟩
    rw [hw]
    have b1 : -18446744073709551616 < k := by omega
    have b2 : k < 18446744073709551616 := by omega
    have hcb : c.length ≤ 16777216 := by have : c.length = n := hgo.w.len; omega
    have htb : ts.length ≤ 16777216 := by have := ht.len.2; omega
    have hd1 : ixO [.v (Off.many c ts).d, .v (.int 1)] = some (.list (c.map .int)) := by simp [Off.d]
    have hal' : (ac.map fun w => O.v (wareD w)).length < 16777216 := by rw [List.length_map]; exact hal
    rw [List.map_append]
    generalize (ac.map fun w => O.v (wareD w)) = A at *
    simp [b__law_lines_9070_3, hlc', hat2, hd1, hcl, b1, b2, hal', hcb, htb, wareD, lineD])
  rw [hI] at h
  exact h
theorem ll_own (sh : List Off) (i : Int) (e : En) (h2 : e[2]? = some (.own (.v (.int i)))) (h10 : e[10]? = some .no) (h11 : e[11]? = some .no) :
    lcL (.tp [.n 10, .n 11]) ct__law_lines_9070_1 ce__law_lines_9070_1 [10, 11] ((sh.zipIdx 0).map fun p => O.t [oi (p.2 : Nat), .v p.1.d]) e = some ((addsL sh i).map oi, e) := by
  rw [addsL, List.map_map]
  refine lc_filter2 (encA := fun p : Off × Nat => oi (p.2 : Nat)) (encB := fun p => .v p.1.d) h10 h11 (by decide) _ fun p hp e' g1 g2 g3 => ?_
  refine ⟨?_, fun _ => by simp [ce__law_lines_9070_1, g1]⟩
  have g3' := g3 2 (by decide) (by decide)
  rw [h2] at g3'
  obtain ⟨o, k⟩ := p
  cases o with
  | pack c p => simp [ct__law_lines_9070_1, g2, g3', isAddOf]
  | many c ts => simp [ct__law_lines_9070_1, g2, g3', isAddOf]
  | add c p k => simp [ct__law_lines_9070_1, g2, g3', isAddOf]
theorem ll_turn (n : Nat) (hn : n ≤ 4) (sh : List Off) (hg : Good n sh) (hs : sh.length ≤ 10) (acc : List Wr) (ha : acc.length ≤ 50000) (i : Nat) (o : Off) (ho : sh[i]? = some o) :
    b__law_lines_9070_4 [.own (.v (shopD sh)), .own (.l (acc.map fun w => .v (wareD w))), .own (.v (.int (i : Int))), .own (.v o.d), .no, .no, .no, .no, .no, .no, .no, .no, .no]
     = some (.nx [.own (.v (shopD sh)), .own (.l ((acc ++ (linesAt sh i o).map (wareOf sh)).map fun w => .v (wareD w))), .no, .no, .no, .no, .no, .no, .no, .no, .no, .no, .no]) := by
  have henu : enuO 0 (sh.map fun o => O.v o.d) = (sh.zipIdx 0).map fun p => .t [oi (p.2 : Nat), .v p.1.d] := enuO_map _ 0 sh
  have hb : sh.length ≤ 16777216 := by omega
  cases o with
  | pack c p =>
    have hown := ll_own sh (i : Int)
    have hal := addsL_len sh (i : Int)
    obtain ⟨x, gx, gd⟩ := groups_ok (addsL sh (i : Int)) (by omega)
    rw [groups_choices (addsL_up sh (i : Int))] at gd
    have hcl : (choicesL (addsL sh (i : Int))).length ≤ 1024 := by
      rw [choicesL_len]
      exact Nat.le_trans (Nat.pow_le_pow_right (by decide) (show _ ≤ 10 by omega)) (by decide)
    have hP := fun s4 s6 s10 s11 s12 => ll_pack n hn sh hg i c p ho (choicesL (addsL sh (i : Int))) (fun a hm x hx => by
      obtain ⟨c', p', h'⟩ := addsL_mem ((choicesL_mem hm).subset hx)
      exact ⟨c', p', _, h'⟩) acc (by omega) s4 s6 s10 s11 s12
    have hll : linesAt sh i (.pack c p) = (choicesL (addsL sh (i : Int))).map fun a => ((i : Int), 1, a) := rfl
    rw [hll, List.map_map]
    have e0 : (wareOf sh ∘ fun a => ((i : Int), (1 : Int), a)) = fun a => wareOf sh ((i : Int), 1, a) := rfl
    rw [e0]
    generalize choicesL (addsL sh (i : Int)) = cs at *
    simp [b__law_lines_9070_4, henu, hown, hb, gx, gd, hP]
  | many c ts =>
    have hM := fun s4 s5 s7 s9 s10 => ll_many n hn sh hg i c ts ho acc (by omega) s4 s5 s7 s9 s10
    have hll : linesAt sh i (.many c ts) = counts12.map fun a => ((i : Int), a, []) := rfl
    rw [hll, List.map_map]
    have e0 : (wareOf sh ∘ fun a => ((i : Int), a, ([] : List Int))) = fun a => wareOf sh ((i : Int), a, []) := rfl
    rw [e0]
    simp [b__law_lines_9070_4, rng12, hM]
  | add c p k =>
    simp [b__law_lines_9070_4, linesAt]
theorem lwares_ok (n : Nat) (hn : n ≤ 4) (sh : List Off) (hg : Good n sh) (hs : sh.length ≤ 10) : sem__law_lines_9070 [.v (shopD sh)] = some (.l ((waresL sh).map fun w => .v (wareD w)), []) := by
  have henu : enuO 0 (sh.map fun o => O.v o.d) = (sh.zipIdx 0).map fun p => .t [oi (p.2 : Nat), .v p.1.d] := enuO_map _ 0 sh
  obtain ⟨acc, h, hI, -⟩ := for_inv (tg := .tp [.n 2, .n 3]) (body := b__law_lines_9070_4) (enc := fun (p : Off × Nat) => O.t [oi (p.2 : Nat), .v p.1.d]) (E := fun (acc : List Wr) => [.own (.v (shopD sh)), .own (.l (acc.map fun w => .v (wareD w))), .no, .no, .no, .no, .no, .no, .no, .no, .no, .no, .no])
    (fun pre acc => acc = (pre.flatMap fun p => (linesAt sh p.2 p.1).map (wareOf sh)) ∧ acc.length ≤ 1024 * pre.length) (all := sh.zipIdx 0) (sh.zipIdx 0) [] [] rfl ⟨rfl, by simp⟩ (by
    intro pre p post acc hall ⟨h1, h2⟩
    have hp : p ∈ sh.zipIdx 0 := by rw [hall]; simp
    have hpl : pre.length < 10 := by have := congrArg List.length hall; simp at this; omega
    have := ll_turn n hn sh hg hs acc (by omega) p.2 p.1 (zipIdx_get hp)
    refine ⟨acc ++ (linesAt sh p.2 p.1).map (wareOf sh), _, rfl, this, ?_, ?_⟩
    · rw [h1, List.flatMap_append]; simp
    · have h3 := linesAt_len sh hs p.2 p.1
      rw [List.length_append, List.length_append, List.length_map, List.length_singleton]; omega)
  have hw : waresL sh = acc := by
    rw [hI, waresL, linesL, List.map_flatMap]
  rw [hw]
  have hb : sh.length ≤ 16777216 := by omega
  simp only [List.map_nil] at h
  simp [un__law_lines_9070, m__law_lines_9070, henu, h]
theorem linesL_len (sh : List Off) (hs : sh.length ≤ 10) : (linesL sh).length ≤ 10240 := by
  unfold linesL
  rw [List.length_flatMap]
  have : ∀ (z : List (Off × Nat)), (z.map fun p => (linesAt sh p.2 p.1).length).sum ≤ 1024 * z.length := fun z => by
    induction z with
    | nil => simp
    | cons p z ih =>
      have := linesAt_len sh hs p.2 p.1
      simp at ih ⊢; omega
  have h2 := this (sh.zipIdx 0)
  simp at h2
  have h3 : 1024 * sh.length ≤ 10240 := by omega
  exact Nat.le_trans h2 h3
theorem goods_ok (n : Nat) (hn : n ≤ 4) (sh : List Off) (hg : Good n sh) (hs : sh.length ≤ 10) : ∃ x : O, sem_goods [.v (shopD sh)] = some (x, []) ∧ x.toD = some (.list ((waresL sh).map wareD)) := by
  have h4 := lines_ok n sh hg hs
  have hlen := linesL_len sh hs
  have hlc : ∀ e : En, e[0]? = some (.own (.v (shopD sh))) → e[1]? = some .no → lcL (.n 1) mYes ce_goods_1 [1] ((linesL sh).map fun l => O.v (lineD l)) e = some ((linesL sh).map (fun l => .t [.v (lineD l), .l ((lcont sh l).map oi), oi (lprice sh l)]), e) := fun e h0 h1 => by
    refine lc_map1 h1 _ fun l hl e' g1 g2 => ?_
    have hlk := linesL_ok hs hl
    have c1 := lcontent_ok n sh hg hn l hlk
    have c2 := lprice_ok n sh hg l hlk
    simp [ce_goods_1, g1, g2, h0, c1, c2]
  refine ⟨.l ((linesL sh).map fun l => .t [.v (lineD l), .l ((lcont sh l).map oi), oi (lprice sh l)]), ?_, ?_⟩
  · have hb : (linesL sh).length ≤ 16777216 := by omega
    generalize linesL sh = ls at *
    simp [un_goods, m_goods, h4, hlc, hb]
  · rw [toD_l, toDs_map (g := fun l => wareD (wareOf sh l)) (fun l => by simp [wareD, wareOf])]
    simp [waresL]
end Dn
namespace Dn
open PySem L2
abbrev Res := Option (Int × Option Ln)
def bestStep (tab : List Int → Res) (w : List Int) (best : Res) (g : Wr) : Res :=
  if restL w g.2.1 = w then best else (match tab (restL w g.2.1) with
    | some (q, _) => (match best with
      | none => some (g.2.2 + q, some g.1)
      | some (b, l) => if g.2.2 + q < b then some (g.2.2 + q, some g.1) else some (b, l))
    | none => best)
def bestOf (gs : List Wr) (tab : List Int → Res) (w : List Int) : Res := gs.foldl (bestStep tab w) none
def lp (gs : List Wr) : Nat → List Int → Res
  | 0, _ => none
  | k + 1, w => if w.sum = 0 then some (0, none) else bestOf gs (lp gs k) w
def LP (gs : List Wr) (w : List Int) : Res := lp gs (w.sum.toNat + 1) w
structure Gds (n : Nat) (gs : List Wr) : Prop where
  len : ∀ g ∈ gs, g.2.1.length = n
  nn : ∀ g ∈ gs, NN g.2.1
  pos : ∀ g ∈ gs, 0 ≤ g.2.2
theorem restL_le : ∀ (w c : List Int), NN w → NN c → (restL w c).sum ≤ w.sum ∧ (w.length = c.length → (restL w c).sum = w.sum → restL w c = w)
  | [], c, _, _ => by simp [restL]
  | x :: w, [], h, _ => by
    refine ⟨?_, fun z => by simp at z⟩
    simp only [restL, List.zip_nil_right, List.map_nil, List.sum_nil]
    exact (nn_sum _ h).1
  | x :: w, y :: c, hw, hc => by
    obtain ⟨h1, h2⟩ := restL_le w c (fun z hz => hw z (List.mem_cons_of_mem _ hz)) (fun z hz => hc z (List.mem_cons_of_mem _ hz))
    have hx := hw x (List.mem_cons_self ..)
    have hy := hc y (List.mem_cons_self ..)
    have e : restL (x :: w) (y :: c) = max 0 (x - y) :: restL w c := rfl
    rw [e, List.sum_cons, List.sum_cons]
    refine ⟨by omega, fun hl hs => ?_⟩
    have := h2 (by simpa using hl) (by omega)
    rw [this]
    congr 1
    omega
theorem restL_lt {w c : List Int} (hw : NN w) (hc : NN c) (hl : w.length = c.length) (h : restL w c ≠ w) : (restL w c).sum < w.sum := by
  obtain ⟨h1, h2⟩ := restL_le w c hw hc
  rcases Int.lt_or_eq_of_le h1 with h3 | h3
  · exact h3
  · exact absurd (h2 hl h3) h
theorem best_congr {gs : List Wr} {t1 t2 : List Int → Res} {w : List Int} (h : ∀ g ∈ gs, restL w g.2.1 ≠ w → t1 (restL w g.2.1) = t2 (restL w g.2.1)) : bestOf gs t1 w = bestOf gs t2 w := by
  unfold bestOf
  generalize (none : Res) = b
  induction gs generalizing b with
  | nil => rfl
  | cons g gs ih =>
    rw [List.foldl_cons, List.foldl_cons]
    have : bestStep t1 w b g = bestStep t2 w b g := by
      unfold bestStep
      by_cases e : restL w g.2.1 = w
      · rw [if_pos e, if_pos e]
      · rw [if_neg e, if_neg e, h g (List.mem_cons_self ..) e]
    rw [this]
    exact ih (fun g' hg' => h g' (List.mem_cons_of_mem _ hg')) _
theorem restL_len' {n : Nat} {w c : List Int} (hw : w.length = n) (hc : c.length = n) : (restL w c).length = n := by rw [restL_len]; omega
theorem lp_fuel {n : Nat} {gs : List Wr} (hg : Gds n gs) : ∀ (m : Nat) (w : List Int), w.length = n → NN w → w.sum.toNat = m → ∀ k, m < k → lp gs k w = LP gs w := by
  intro m
  induction m using Nat.strongRecOn with
  | ind m ih =>
    intro w hl hw hm k hk
    obtain ⟨k, rfl⟩ : ∃ j, k = j + 1 := ⟨k - 1, by omega⟩
    unfold LP
    rw [hm]
    show (if w.sum = 0 then some (0, none) else bestOf gs (lp gs k) w) = (if w.sum = 0 then some (0, none) else bestOf gs (lp gs m) w)
    by_cases h0 : w.sum = 0
    · rw [if_pos h0, if_pos h0]
    · rw [if_neg h0, if_neg h0]
      refine best_congr fun g hgm hne => ?_
      have hlt := restL_lt hw (hg.nn g hgm) (by rw [hl, hg.len g hgm]) hne
      have hnn := (nn_sum _ (restL_nn w g.2.1)).1
      have hlt2 : (restL w g.2.1).sum.toNat < m := by omega
      rw [ih _ hlt2 _ (restL_len' hl (hg.len g hgm)) (restL_nn _ _) rfl k (by omega), ih _ hlt2 _ (restL_len' hl (hg.len g hgm)) (restL_nn _ _) rfl m hlt2]
theorem LP_eq {n : Nat} {gs : List Wr} (hg : Gds n gs) {w : List Int} (hl : w.length = n) (hw : NN w) : LP gs w = if w.sum = 0 then some (0, none) else bestOf gs (LP gs) w := by
  have h1 : LP gs w = if w.sum = 0 then some (0, none) else bestOf gs (lp gs w.sum.toNat) w := rfl
  rw [h1]
  by_cases h0 : w.sum = 0
  · rw [if_pos h0, if_pos h0]
  · rw [if_neg h0, if_neg h0]
    refine best_congr fun g hgm hne => ?_
    have hlt := restL_lt hw (hg.nn g hgm) (by rw [hl, hg.len g hgm]) hne
    have hnn := (nn_sum _ (restL_nn w g.2.1)).1
    exact lp_fuel hg _ _ (restL_len' hl (hg.len g hgm)) (restL_nn _ _) rfl _ (by omega)
theorem best_in (gs : List Wr) (tab : List Int → Res) (w : List Int) : ∀ (b : Res) (p : Int) (o : Option Ln), gs.foldl (bestStep tab w) b = some (p, o) → b = some (p, o) ∨ ∃ g ∈ gs, o = some g.1 ∧ restL w g.2.1 ≠ w ∧ ∃ q o', tab (restL w g.2.1) = some (q, o') ∧ p = g.2.2 + q := by
  induction gs with
  | nil => intro b p o h; exact .inl h
  | cons g gs ih =>
    intro b p o h
    rw [List.foldl_cons] at h
    rcases ih _ p o h with h1 | ⟨g', hg', h2⟩
    · unfold bestStep at h1
      split at h1
      · exact .inl h1
      · rename_i hne
        split at h1
        · rename_i q o' hq
          split at h1
          · cases h1
            exact .inr ⟨g, List.mem_cons_self .., rfl, hne, q, o', hq, rfl⟩
          · split at h1
            · cases h1
              exact .inr ⟨g, List.mem_cons_self .., rfl, hne, q, o', hq, rfl⟩
            · exact .inl h1
        · exact .inl h1
    · exact .inr ⟨g', List.mem_cons_of_mem _ hg', h2⟩
def leR (a b : Res) : Prop := ∀ p o, b = some (p, o) → ∃ p' o', a = some (p', o') ∧ p' ≤ p
theorem leR_refl (a : Res) : leR a a := fun p o h => ⟨p, o, h, Int.le_refl _⟩
theorem leR_trans {a b c : Res} (h1 : leR a b) (h2 : leR b c) : leR a c := fun p o h => by
  obtain ⟨p1, o1, e1, l1⟩ := h2 p o h
  obtain ⟨p2, o2, e2, l2⟩ := h1 p1 o1 e1
  exact ⟨p2, o2, e2, by omega⟩
theorem step_le (tab : List Int → Res) (w : List Int) (b : Res) (g : Wr) : leR (bestStep tab w b g) b := fun p o h => by
  unfold bestStep
  split
  · exact ⟨p, o, h, Int.le_refl _⟩
  · split
    · rename_i q o' hq
      subst h
      simp only
      split
      · exact ⟨_, _, rfl, by omega⟩
      · exact ⟨_, _, rfl, Int.le_refl _⟩
    · exact ⟨p, o, h, Int.le_refl _⟩
theorem fold_le (gs : List Wr) (tab : List Int → Res) (w : List Int) : ∀ b : Res, leR (gs.foldl (bestStep tab w) b) b := by
  induction gs with
  | nil => exact fun b => leR_refl b
  | cons g gs ih => exact fun b => leR_trans (ih _) (step_le tab w b g)
theorem best_le (gs : List Wr) (tab : List Int → Res) (w : List Int) : ∀ (b : Res) (g : Wr), g ∈ gs → restL w g.2.1 ≠ w → ∀ q o', tab (restL w g.2.1) = some (q, o') → ∃ p o, gs.foldl (bestStep tab w) b = some (p, o) ∧ p ≤ g.2.2 + q := by
  induction gs with
  | nil => intro b g hg; cases hg
  | cons g0 gs ih =>
    intro b g hg hne q o' hq
    rw [List.foldl_cons]
    rcases List.mem_cons.mp hg with rfl | hg
    · have hs : ∃ p o, bestStep tab w b g = some (p, o) ∧ p ≤ g.2.2 + q := by
        unfold bestStep
        rw [if_neg hne, hq]
        cases b with
        | none => exact ⟨_, _, rfl, Int.le_refl _⟩
        | some x =>
          obtain ⟨b0, l0⟩ := x
          simp only
          split
          · exact ⟨_, _, rfl, Int.le_refl _⟩
          · exact ⟨_, _, rfl, by omega⟩
      obtain ⟨p, o, e, l⟩ := hs
      obtain ⟨p', o', e', l'⟩ := fold_le gs tab w _ p o e
      exact ⟨p', o', e', by omega⟩
    · exact ih _ g hg hne q o' hq
def leftW (ps : List Wr) (w : List Int) : List Int := ps.foldl (fun w g => restL w g.2.1) w
def costW (ps : List Wr) : Int := (ps.map (·.2.2)).sum
theorem LP_le {n : Nat} {gs : List Wr} (hg : Gds n gs) : ∀ (ps : List Wr) (w : List Int), w.length = n → NN w → (∀ g ∈ ps, g ∈ gs) → (leftW ps w).sum = 0 → ∃ p o, LP gs w = some (p, o) ∧ p ≤ costW ps
  | [], w, hl, hw, _, hz => by
    have hz' : w.sum = 0 := hz
    rw [LP_eq hg hl hw, if_pos hz']
    exact ⟨0, none, rfl, by simp [costW]⟩
  | g :: ps, w, hl, hw, hm, hz => by
    have hgm := hm g (List.mem_cons_self ..)
    have hm' : ∀ g' ∈ ps, g' ∈ gs := fun g' hg' => hm g' (List.mem_cons_of_mem _ hg')
    have hpos := hg.pos g hgm
    have hcost : costW (g :: ps) = g.2.2 + costW ps := by simp [costW]
    obtain ⟨q, o', e, l⟩ := LP_le hg ps (restL w g.2.1) (restL_len' hl (hg.len g hgm)) (restL_nn _ _) hm' hz
    by_cases hne : restL w g.2.1 = w
    · rw [hne] at e
      exact ⟨q, o', e, by omega⟩
    · rw [LP_eq hg hl hw]
      by_cases h0 : w.sum = 0
      · rw [if_pos h0]
        have : 0 ≤ costW ps := by
          unfold costW
          refine (nn_sum _ fun x hx => ?_).1
          obtain ⟨y, hy, rfl⟩ := List.mem_map.mp hx
          exact hg.pos y (hm' y hy)
        exact ⟨0, none, rfl, by omega⟩
      · rw [if_neg h0]
        obtain ⟨p, o, e2, l2⟩ := best_le gs (LP gs) w none g hgm hne q o' e
        exact ⟨p, o, e2, by omega⟩
theorem LP_is {n : Nat} {gs : List Wr} (hg : Gds n gs) : ∀ (m : Nat) (w : List Int), w.length = n → NN w → w.sum.toNat = m → ∀ p o, LP gs w = some (p, o) → ∃ ps, (∀ g ∈ ps, g ∈ gs) ∧ (leftW ps w).sum = 0 ∧ costW ps = p := by
  intro m
  induction m using Nat.strongRecOn with
  | ind m ih =>
    intro w hl hw hm p o h
    rw [LP_eq hg hl hw] at h
    by_cases h0 : w.sum = 0
    · rw [if_pos h0] at h
      cases h
      exact ⟨[], (by simp), h0, rfl⟩
    · rw [if_neg h0] at h
      rcases best_in gs (LP gs) w none p o h with h1 | ⟨g, hgm, _, hne, q, o', e, rfl⟩
      · cases h1
      · have hlt := restL_lt hw (hg.nn g hgm) (by rw [hl, hg.len g hgm]) hne
        have hnn := (nn_sum _ (restL_nn w g.2.1)).1
        obtain ⟨ps, a, b, c⟩ := ih (restL w g.2.1).sum.toNat (by omega) _ (restL_len' hl (hg.len g hgm)) (restL_nn _ _) rfl q o' e
        refine ⟨g :: ps, fun g' hg' => ?_, b, by simp [costW] at c ⊢; omega⟩
        rcases List.mem_cons.mp hg' with rfl | hg'
        · exact hgm
        · exact a g' hg'
def num (r : Res) : Option Int := r.map (·.1)
def sumW (n : Nat) (ps : List Wr) : List Int := ps.foldl (fun f g => sumL f g.2.1) (reps n 0)
theorem leftW_rest : ∀ (ps : List Wr) (w c : List Int), (∀ g ∈ ps, NN g.2.1) → leftW ps (restL w c) = restL w (ps.foldl (fun f g => sumL f g.2.1) c)
  | [], w, c, _ => rfl
  | g :: ps, w, c, h => by
    have hnn := h g (List.mem_cons_self ..)
    show leftW ps (restL (restL w c) g.2.1) = _
    rw [restL_rest w c g.2.1 hnn]
    exact leftW_rest ps w _ (fun g' hg' => h g' (List.mem_cons_of_mem _ hg'))
theorem leftW_sum {n : Nat} {ps : List Wr} {w : List Int} (hw : w.length = n) (hw0 : NN w) (h : ∀ g ∈ ps, NN g.2.1) : leftW ps w = restL w (sumW n ps) := by
  have := leftW_rest ps w (reps n 0) h
  rw [← hw, restL_reps0 w hw0, hw] at this
  exact this
theorem sumW_len {n : Nat} {ps : List Wr} (h : ∀ g ∈ ps, g.2.1.length = n) : (sumW n ps).length = n := by
  unfold sumW
  have : ∀ (ps : List Wr) (f : List Int), (∀ g ∈ ps, g.2.1.length = n) → f.length = n → (ps.foldl (fun f g => sumL f g.2.1) f).length = n := by
    intro ps
    induction ps with
    | nil => intro f _ hf; exact hf
    | cons g ps ih =>
      intro f hp hf
      rw [List.foldl_cons]
      refine ih _ (fun g' hg' => hp g' (List.mem_cons_of_mem _ hg')) ?_
      rw [sumL_len, hf, hp g (List.mem_cons_self ..)]
      omega
  exact this ps _ h (by simp)
theorem cov_iff {n : Nat} {ps : List Wr} {w : List Int} (hw : w.length = n) (hw0 : NN w) (hl : ∀ g ∈ ps, g.2.1.length = n) (h : ∀ g ∈ ps, NN g.2.1) : (leftW ps w).sum = 0 ↔ covB (sumW n ps) w = true := by
  rw [leftW_sum hw hw0 h]
  have h1 := restL_zero w (sumW n ps) (by rw [sumW_len hl, hw])
  have h2 := nn_sum0 (restL w (sumW n ps)) (restL_nn _ _)
  rw [restL_len' hw (sumW_len hl)] at h2
  rw [hw] at h1
  rw [h2, h1]
end Dn
namespace Dn
open PySem L2
def lnD : Option Ln → PyData
  | none => .none
  | some l => lineD l
def resD : Res → PyData
  | none => .none
  | some (p, o) => .tuple [.int p, lnD o]
@[simp] theorem isN_res (r : Res) : isN (resD r) = r.isNone := by
  cases r with
  | none => rfl
  | some x => rfl
theorem ne_rows (a b : List Int) : fNe [rowD a, rowD b] = some (.bool (!decide (a = b))) := fNe_ints a b
theorem best_loop (gs all : List Wr) (sub : ∀ g ∈ gs, g ∈ all) (x0 : Sl) (kvs : List (List Key × PyData)) (tab : List Int → Res) (w : List Int) (hw : w.length ≤ 1000) (ht : ∀ g ∈ all, restL w g.2.1 ≠ w → dval kvs (keyI (restL w g.2.1)) = some (resD (tab (restL w g.2.1)))) :
    forL (.tp [.n 4, .n 5, .n 6]) b_best_of_1 (gs.map fun g => .v (wareD g)) [x0, .pin (.dt kvs), .own (.v (rowD w)), .own (.v .none), .no, .no, .no, .no, .no]
     = some (.nx [x0, .pin (.dt kvs), .own (.v (rowD w)), .own (.v (resD (bestOf gs tab w))), .no, .no, .no, .no, .no]) := by
  obtain ⟨b, h, hI⟩ := for_inv (tg := .tp [.n 4, .n 5, .n 6]) (body := b_best_of_1) (enc := fun (g : Wr) => O.v (wareD g)) (E := fun (b : Res) => [x0, .pin (.dt kvs), .own (.v (rowD w)), .own (.v (resD b)), .no, .no, .no, .no, .no])
    (fun pre b => b = pre.foldl (bestStep tab w) none) (all := gs) gs [] none rfl rfl (by
    intro pre g post b hall hb
    have hgm : g ∈ all := sub g (by rw [hall]; simp)
    have hr := rest_ok w g.2.1 hw
    have hne := ne_rows (restL w g.2.1) w
    have hb1 : (restL w g.2.1).length ≤ 16777216 := by rw [restL_len]; omega
    refine ⟨bestStep tab w b g, [x0, .pin (.dt kvs), .own (.v (rowD w)), .own (.v (resD b)), .own (.v (lineD g.1)), .own (.v (rowD g.2.1)), .own (.v (.int g.2.2)), .no, .no], ?_, ?_, by rw [hb, List.foldl_append]; rfl⟩
    · simp [wareD]
    · by_cases e : restL w g.2.1 = w
      · have : bestStep tab w b g = b := by unfold bestStep; rw [if_pos e]
        rw [this]
        simp [e] at hne
        simp [b_best_of_1, hr, e, hne]
      · have hd := ht g hgm e
        cases htr : tab (restL w g.2.1) with
        | none =>
          rw [htr] at hd
          have : bestStep tab w b g = b := by unfold bestStep; rw [if_neg e, htr]
          rw [this]
          simp [e] at hne
          have hd' : dval kvs (keyI (restL w g.2.1)) = some .none := hd
          simp [b_best_of_1, hr, hne, hb1, hd', e]
        | some x =>
          obtain ⟨q, o'⟩ := x
          rw [htr] at hd
          have hd' : dval kvs (keyI (restL w g.2.1)) = some (.tuple [.int q, lnD o']) := hd
          simp [e] at hne
          cases b with
          | none =>
            have : bestStep tab w none g = some (g.2.2 + q, some g.1) := by unfold bestStep; rw [if_neg e, htr]
            rw [this]
            have r0 : resD none = .none := rfl
            have r1 : resD (some (g.2.2 + q, some g.1)) = .tuple [.int (g.2.2 + q), lineD g.1] := rfl
            simp [b_best_of_1, hr, hne, hb1, hd', e, r0, r1]
          | some y =>
            obtain ⟨b0, l0⟩ := y
            have r0 : resD (some (b0, l0)) = .tuple [.int b0, lnD l0] := rfl
            have r1 : resD (some (g.2.2 + q, some g.1)) = .tuple [.int (g.2.2 + q), lineD g.1] := rfl
            by_cases hlt : g.2.2 + q < b0
            · have : bestStep tab w (some (b0, l0)) g = some (g.2.2 + q, some g.1) := by unfold bestStep; rw [if_neg e, htr]; simp [hlt]
              rw [this, r1, r0]
              simp [b_best_of_1, hr, hne, hb1, hd', e, hlt]
            · have : bestStep tab w (some (b0, l0)) g = some (b0, l0) := by unfold bestStep; rw [if_neg e, htr]; simp [hlt]
              rw [this, r0]
              simp [b_best_of_1, hr, hne, hb1, hd', e, hlt])
  rw [hI] at h
  exact h
theorem best_ok (gs : List Wr) (kvs : List (List Key × PyData)) (tab : List Int → Res) (w : List Int) (hw : w.length ≤ 1000) (ht : ∀ g ∈ gs, restL w g.2.1 ≠ w → dval kvs (keyI (restL w g.2.1)) = some (resD (tab (restL w g.2.1)))) :
    sem_best_of [.v (.list (gs.map wareD)), .dt kvs, .v (rowD w)] = some (.v (resD (bestOf gs tab w)), [.dt kvs]) := by
  have h := best_loop gs gs (fun _ h => h) (.own (.v (.list (gs.map wareD)))) kvs tab w hw ht
  simp [un_best_of, m_best_of, h]
def tabL (gs : List Wr) (rows : List (List Int)) : List (List Int × Res) := rows.map fun r => (r, LP gs r)
theorem tabGet_L (gs : List Wr) : ∀ (rows : List (List Int)) (r : List Int), r ∈ rows → tabGet (tabL gs rows) r = some (LP gs r)
  | [], r, h => by cases h
  | x :: rows, r, h => by
    unfold tabGet tabL
    rw [List.map_cons, List.find?_cons]
    by_cases e : x = r
    · subst e; simp
    · simp only [e, decide_false]
      rcases List.mem_cons.mp h with h | h
      · exact absurd h.symm e
      · exact tabGet_L gs rows r h
theorem dval_L (gs : List Wr) (rows : List (List Int)) {r : List Int} (h : r ∈ rows) : dval (tabD resD (tabL gs rows)) (keyI r) = some (resD (LP gs r)) := by
  rw [dval_tab, tabGet_L gs rows r h]; rfl
theorem les_trans {w r s : List Int} (h1 : r ∈ les w) (h2 : s ∈ les r) : s ∈ les w := by
  rw [les_mem] at h1 h2 ⊢
  refine ⟨by omega, fun p hp => ?_⟩
  obtain ⟨i, hi, rfl⟩ := List.getElem_of_mem hp
  rw [List.length_zip] at hi
  rw [List.getElem_zip]
  simp only
  have a := h2.2 (s[i]'(by omega), r[i]'(by omega)) (by
    rw [← List.getElem_zip (h := by rw [List.length_zip]; omega)]
    exact List.getElem_mem _)
  have b := h1.2 (r[i]'(by omega), w[i]'(by omega)) (by
    rw [← List.getElem_zip (h := by rw [List.length_zip]; omega)]
    exact List.getElem_mem _)
  simp only at a b
  omega
theorem les_nn {w r : List Int} (h : r ∈ les w) : NN r := fun x hx => by
  obtain ⟨hl, hz⟩ := les_mem.mp h
  obtain ⟨i, hi, rfl⟩ := List.getElem_of_mem hx
  have := hz (r[i], w[i]'(by omega)) (by
    rw [← List.getElem_zip (h := by rw [List.length_zip]; omega)]
    exact List.getElem_mem _)
  exact this.1
theorem les_self {w : List Int} (h : NN w) : w ∈ les w := by
  obtain ⟨t, ht⟩ := les_last w h
  rw [ht]; simp
theorem les_lex : ∀ {w r : List Int}, r ∈ les w → r ≠ w → lexI r w = true
  | [], r, h, hne => by
    have := (les_mem.mp h).1
    cases r with
    | nil => exact absurd rfl hne
    | cons _ _ => simp at this
  | x :: w, r, h, hne => by
    obtain ⟨hl, hz⟩ := les_mem.mp h
    cases r with
    | nil => simp at hl
    | cons y r =>
      have h1 := hz (y, x) (by simp)
      simp only at h1
      by_cases e : y = x
      · subst e
        have : r ∈ les w := les_mem.mpr ⟨by simpa using hl, fun p hp => hz p (by rw [List.zip_cons_cons]; exact List.mem_cons_of_mem _ hp)⟩
        have := les_lex this (fun z => hne (by rw [z]))
        simp [lexI, this]
      · have : y < x := by omega
        simp [lexI, e, this]
theorem pre_of_lex {pre post : List (List Int)} {x r : List Int} (hp : (pre ++ x :: post).Pairwise fun a b => lexI a b = true) (hr : r ∈ pre ++ x :: post) (hl : lexI r x = true) : r ∈ pre := by
  rcases List.mem_append.mp hr with h | h
  · exact h
  · exfalso
    rcases List.mem_cons.mp h with rfl | h
    · rw [lexI_irrefl] at hl; cases hl
    · rw [List.pairwise_append] at hp
      have := (List.pairwise_cons.mp hp.2.1).1 r h
      rw [lexI_asymm _ _ this] at hl
      cases hl
theorem les_len9 {w : List Int} (hw : ∀ n ∈ w, 0 ≤ n ∧ n ≤ 9) (hl : w.length ≤ 4) : (les w).length ≤ 10000 := by
  have h1 := les_cases (w := w) fun n hn => (hw n hn).1
  have : ∀ (w : List Int) (a : Int), (∀ n ∈ w, 0 ≤ n ∧ n ≤ 9) → 0 ≤ a → w.foldl (fun a n => a * (n + 1)) a ≤ a * 10 ^ w.length := by
    intro w
    induction w with
    | nil => intro a _ _; simp
    | cons x w ih =>
      intro a hw ha
      obtain ⟨x0, x9⟩ := hw x (List.mem_cons_self ..)
      have := ih (a * (x + 1)) (fun n hn => hw n (List.mem_cons_of_mem _ hn)) (Int.mul_nonneg ha (by omega))
      rw [List.foldl_cons, List.length_cons, Int.pow_succ]
      have h2 : a * (x + 1) ≤ a * 10 := Int.mul_le_mul_of_nonneg_left (by omega) ha
      have h3 : (0 : Int) ≤ 10 ^ w.length := Int.le_of_lt (Int.pow_pos (by decide))
      have h4 := Int.mul_le_mul_of_nonneg_right h2 h3
      have h5 : a * 10 * 10 ^ w.length = a * (10 ^ w.length * 10) := by rw [Int.mul_assoc, Int.mul_comm 10]
      omega
  have h2 := this w 1 hw (by decide)
  have h3 : (10 : Int) ^ w.length ≤ 10000 := by
    have := Nat.pow_le_pow_right (n := 10) (by decide) hl
    have h4 : ((10 ^ w.length : Nat) : Int) ≤ ((10 ^ 4 : Nat) : Int) := by exact_mod_cast this
    simpa using h4
  have h6 : ((les w).length : Int) ≤ 10000 := by rw [← h1]; unfold casesI; omega
  omega
theorem reck_loop (n : Nat) (hn : n ≤ 4) (gs : List Wr) (hg : Gds n gs) (w : List Int) (hw : Want n w) (x0 x1 : Sl) :
    forL (.n 4) b_reckoned_1 ((les w).map fun r => O.v (rowD r)) [x0, x1, .own (.v (.list (gs.map wareD))), .own (.dt []), .no]
     = some (.nx [x0, x1, .own (.v (.list (gs.map wareD))), .own (.dt (tabD resD (tabL gs (les w)))), .no]) := by
  have hlen := les_len9 hw.nine (by rw [hw.len]; exact hn)
  have hpw := les_pair w
  obtain ⟨b, h, hI⟩ := for_inv (tg := .n 4) (body := b_reckoned_1) (enc := fun (r : List Int) => O.v (rowD r)) (E := fun (rows : List (List Int)) => [x0, x1, .own (.v (.list (gs.map wareD))), .own (.dt (tabD resD (tabL gs rows))), .no])
    (fun pre rows => rows = pre) (all := les w) (les w) [] [] rfl rfl (by
    intro pre x post rows hall hr
    subst hr
    have hxm : x ∈ les w := by rw [hall]; simp
    have hxl : x.length = n := by rw [les_len_el hxm]; exact hw.len
    have hxn := les_nn hxm
    have hpl : rows.length < 10000 := by have := congrArg List.length hall; simp at this; omega
    have hb : (tabD resD (tabL gs rows)).length < 16777216 := by simp [tabD, tabL]; omega
    have hnew : ∀ p ∈ tabL gs rows, p.1 ≠ x := fun p hp e => by
      obtain ⟨r, hr, rfl⟩ := List.mem_map.mp hp
      simp only at e
      subst e
      rw [hall, List.pairwise_append] at hpw
      have := hpw.2.2 r hr r (List.mem_cons_self ..)
      rw [lexI_irrefl] at this
      cases this
    have hput := dput_tab resD x (LP gs x) (tabL gs rows) hnew
    have htl : tabL gs rows ++ [(x, LP gs x)] = tabL gs (rows ++ [x]) := by simp [tabL]
    rw [htl] at hput
    refine ⟨rows ++ [x], _, rfl, ?_, rfl⟩
    have hLP := LP_eq hg hxl hxn
    have hb1 : x.length ≤ 16777216 := by omega
    by_cases h0 : x.sum = 0
    · rw [if_pos h0] at hLP
      rw [hLP] at hput
      have r0 : resD (some (0, none)) = .tuple [.int 0, .none] := rfl
      rw [r0] at hput
      simp [b_reckoned_1, h0, hput, hb, hb1]
    · rw [if_neg h0] at hLP
      have hbest := best_ok gs (tabD resD (tabL gs rows)) (LP gs) x (by omega) (fun g hgm hne => by
        refine dval_L gs rows ?_
        have h1 : restL x g.2.1 ∈ les x := restL_les hxn (hg.nn g hgm) (by rw [hg.len g hgm, hxl])
        have h2 : restL x g.2.1 ∈ les w := les_trans hxm h1
        rw [hall] at h2 hpw
        exact pre_of_lex hpw h2 (les_lex h1 hne))
      rw [← hLP] at hbest
      simp [b_reckoned_1, h0, hbest, hput, hb, hb1])
  rw [hI] at h
  exact h
theorem tierP_nn {ts : List (Int × Int)} (h : Tiers ts) (c : Int) : 0 ≤ tierP ts c := by
  rw [tierP_fold]
  have : ∀ (l : List (Int × Int)) (d : Int), (∀ t ∈ l, 0 ≤ t.2) → 0 ≤ d → 0 ≤ l.foldl (fun e t => if t.1 ≤ c then t.2 else e) d := by
    intro l
    induction l with
    | nil => intro d _ hd; exact hd
    | cons t l ih =>
      intro d hl hd
      rw [List.foldl_cons]
      refine ih _ (fun t' ht' => hl t' (List.mem_cons_of_mem _ ht')) ?_
      split
      · exact hl t (List.mem_cons_self ..)
      · exact hd
  exact this ts 0 (fun t ht => (h.price t ht).1) (Int.le_refl 0)
theorem lprice_nn {n : Nat} {sh : List Off} (hg : Good n sh) {l : Ln} (hl : LnOk sh l) : 0 ≤ lprice sh l := by
  obtain ⟨o, ho, hna⟩ := hl.place
  obtain ⟨i, hgo⟩ := hg.at ho
  have hc := hl.count
  unfold lprice
  rw [ho]
  cases o with
  | pack c p =>
    have hk : 0 ≤ p ∧ p < 1000000000000 := hgo.kind
    have : 0 ≤ (l.2.2.map (pAt sh)).sum := (nn_sum _ fun x hx => by
      obtain ⟨a, ha, rfl⟩ := List.mem_map.mp hx
      obtain ⟨c', p', k', h'⟩ := hl.adds a ha
      obtain ⟨j, hj⟩ := hg.at h'
      have hk2 : (0 ≤ p' ∧ p' < 1000000000000) ∧ _ := hj.kind
      unfold pAt
      rw [h']
      exact hk2.1.1).1
    simp only
    omega
  | many c ts =>
    have ht : Tiers ts := hgo.kind
    simp only
    exact Int.mul_nonneg (by omega) (tierP_nn ht _)
  | add c p k => exact Int.le_refl 0
theorem gds_wares {n : Nat} {sh : List Off} (hg : Good n sh) (hs : sh.length ≤ 10) : Gds n (waresL sh) := by
  refine ⟨fun g h => ?_, fun g h => ?_, fun g h => ?_⟩
  · obtain ⟨l, hl, rfl⟩ := List.mem_map.mp h
    exact lcont_len hg (linesL_ok hs hl)
  · obtain ⟨l, hl, rfl⟩ := List.mem_map.mp h
    exact lcont_nn hg (linesL_ok hs hl)
  · obtain ⟨l, hl, rfl⟩ := List.mem_map.mp h
    exact lprice_nn hg (linesL_ok hs hl)
theorem reckoned_ok (n : Nat) (hn : n ≤ 4) (sh : List Off) (hg : Good n sh) (hs : sh.length ≤ 10) (w : List Int) (hw : Want n w) : sem_reckoned [.v (shopD sh), .v (rowD w)] = some (.dt (tabD resD (tabL (waresL sh) (les w))), []) := by
  obtain ⟨x, h1, h2⟩ := goods_ok n hn sh hg hs
  have h3 := lesser_ok w hw.nine (by rw [hw.len]; exact hn)
  have h4 := reck_loop n hn (waresL sh) (gds_wares hg hs) w hw (.own (.v (shopD sh))) (.own (.v (rowD w)))
  simp [un_reckoned, m_reckoned, h1, h2, h3, h4]
end Dn
namespace Dn
open PySem L2
def sortLn (ls : List Ln) : List Ln := ls.mergeSort fun a b => !lnLt b a
theorem srt_lineO (ls : List Ln) : srtO [.l (ls.map lineO)] = some (.l ((sortLn ls).map lineO)) := by
  have e1 : (ls.map lineO).zip (ls.map lineD) = ls.map fun r => (lineO r, lineD r) := by
    induction ls with
    | nil => rfl
    | cons r rows ih => simp [ih]
  have e2 : ((ls.map fun r => (lineO r, lineD r)).mergeSort (PySem.W.dataLe false (·.2))).map (·.1) = (sortLn ls).map lineO := by
    rw [merge_map, List.map_map, sortLn]
    congr 1
    congr 1
    funext a b
    rw [PySem.W.dataLe_eq]
    simp [dataLt_line]
  have hal : allAlikeB (ls.map lineD) = true := by
    unfold allAlikeB
    rw [List.all_eq_true]
    intro d hd
    rw [List.all_eq_true]
    intro d' hd'
    obtain ⟨a, _, rfl⟩ := List.mem_map.mp hd
    obtain ⟨b, _, rfl⟩ := List.mem_map.mp hd'
    simp [lineD, rowD, PySem.W.alike, PySem.W.alikeAll, PySem.W.alike_ints]
  have hso : sortableB (ls.map lineD) = true := by
    unfold sortableB
    rw [Bool.or_eq_true]
    left
    rw [List.all_eq_true]
    intro d hd
    obtain ⟨a, _, rfl⟩ := List.mem_map.mp hd
    rfl
  have hdp : (ls.map lineD).all (fun d => decide (d.depth ≤ 60)) = true := by
    rw [List.all_eq_true]
    intro d hd
    obtain ⟨a, _, rfl⟩ := List.mem_map.mp hd
    simp [lineD, rowD]
  show (match O.toDs (ls.map lineO) with | some ds => if allAlikeB ds && sortableB ds && ds.all (fun d => decide (d.depth ≤ 60)) then some (O.l ((((ls.map lineO).zip ds).mergeSort (PySem.W.dataLe false (fun x : O × PyData => x.2))).map (fun x : O × PyData => x.1))) else none | none => none) = _
  rw [toDs_lines]
  simp only [hal, hso, hdp, Bool.and_self, if_true]
  rw [e1, e2]
theorem own_line_ok (l : Ln) (h : l.2.2.length ≤ 1000) : sem_own_line [.v (lineD l)] = some (lineO l, []) := by
  have hb : l.2.2.length ≤ 16777216 := by omega
  simp [un_own_line, m_own_line, lineD, lineO, hb]
theorem LP_none_line {n : Nat} {gs : List Wr} (hg : Gds n gs) {w : List Int} (hl : w.length = n) (hw : NN w) {p : Int} (h : LP gs w = some (p, none)) : w.sum = 0 ∧ p = 0 := by
  rw [LP_eq hg hl hw] at h
  by_cases h0 : w.sum = 0
  · rw [if_pos h0] at h
    cases h
    exact ⟨h0, rfl⟩
  · rw [if_neg h0] at h
    rcases best_in gs (LP gs) w none p none h with h1 | ⟨g, _, h2, _⟩
    · cases h1
    · cases h2
theorem LP_some_line {n : Nat} {gs : List Wr} (hg : Gds n gs) {w : List Int} (hl : w.length = n) (hw : NN w) {p : Int} {l : Ln} (h : LP gs w = some (p, some l)) : ∃ g ∈ gs, g.1 = l ∧ restL w g.2.1 ≠ w ∧ ∃ q o', LP gs (restL w g.2.1) = some (q, o') ∧ p = g.2.2 + q := by
  rw [LP_eq hg hl hw] at h
  by_cases h0 : w.sum = 0
  · rw [if_pos h0] at h
    cases h
  · rw [if_neg h0] at h
    rcases best_in gs (LP gs) w none p _ h with h1 | ⟨g, hg', h2, h3⟩
    · cases h1
    · cases h2
      exact ⟨g, hg', rfl, h3⟩
structure Buys (n : Nat) (sh : List Off) (w : List Int) (p : Int) (ls : List Ln) : Prop where
  mem : ∀ l ∈ ls, l ∈ linesL sh
  cov : (leftW (ls.map (wareOf sh)) w).sum = 0
  cost : costW (ls.map (wareOf sh)) = p
  few : ls.length ≤ w.sum.toNat
theorem leftW_app (a b : List Wr) (w : List Int) : leftW (a ++ b) w = leftW b (leftW a w) := by unfold leftW; rw [List.foldl_append]
theorem costW_app (a b : List Wr) : costW (a ++ b) = costW a + costW b := by unfold costW; rw [List.map_append, List.sum_append]
theorem least_while (n : Nat) (hn : n ≤ 4) (sh : List Off) (hg : Good n sh) (hs : sh.length ≤ 10) (w : List Int) (hw : Want n w) (p : Int) (o : Option Ln) (hp : LP (waresL sh) w = some (p, o)) : ∃ (ls : List Ln) (v : List Int),
    mWhile t_least_1 b_least_1 [.own (.v (shopD sh)), .own (.v (rowD w)), .own (.dt (tabD resD (tabL (waresL sh) (les w)))), .own (.v (resD (some (p, o)))), .own (.v (.int p)), .own (.l []), .own (.v (rowD w))]
     = some (.nx [.own (.v (shopD sh)), .own (.v (rowD w)), .own (.dt (tabD resD (tabL (waresL sh) (les w)))), .own (.v (resD (some (0, none)))), .own (.v (.int p)), .own (.l (ls.map lineO)), .own (.v (rowD v))]) ∧ Buys n sh w p ls := by
  have hgd := gds_wares hg hs
  have hw0 : NN w := fun x hx => (hw.nine x hx).1
  obtain ⟨⟨ls, v, q, o'⟩, h, hI, hE⟩ := while_inv (mc := t_least_1) (mb := b_least_1) (E := fun s : List Ln × List Int × Int × Option Ln => [.own (.v (shopD sh)), .own (.v (rowD w)), .own (.dt (tabD resD (tabL (waresL sh) (les w)))), .own (.v (resD (some (s.2.2.1, s.2.2.2)))), .own (.v (.int p)), .own (.l (s.1.map lineO)), .own (.v (rowD s.2.1))])
    (fun s => s.2.1 ∈ les w ∧ LP (waresL sh) s.2.1 = some (s.2.2.1, s.2.2.2) ∧ (∀ l ∈ s.1, l ∈ linesL sh) ∧ leftW (s.1.map (wareOf sh)) w = s.2.1 ∧ costW (s.1.map (wareOf sh)) + s.2.2.1 = p ∧ s.1.length + s.2.1.sum.toNat ≤ w.sum.toNat)
    (fun s => s.2.2.2 = none) (fun s => s.2.1.sum.toNat) (by
    rintro ⟨ls, v, q, o'⟩ ⟨hv, hq, hm, hl, hc, hfew⟩
    simp only at hv hq hm hl hc hfew ⊢
    have hvl : v.length = n := by rw [les_len_el hv]; exact hw.len
    have hvn := les_nn hv
    have hws : w.sum.toNat ≤ 36 := by
      have : ∀ (u : List Int), (∀ x ∈ u, 0 ≤ x ∧ x ≤ 9) → u.sum ≤ 9 * u.length := by
        intro u
        induction u with
        | nil => intro _; simp
        | cons x u ih =>
          intro h
          have h1 := h x (List.mem_cons_self ..)
          have h2 := ih fun y hy => h y (List.mem_cons_of_mem _ hy)
          simp; omega
      have h1 := this w hw.nine
      rw [hw.len] at h1
      omega
    cases o' with
    | none =>
      refine .inl ⟨rfl, ?_⟩
      have r0 : resD (some (q, none)) = .tuple [.int q, .none] := rfl
      simp [t_least_1, r0]
    | some l =>
      right
      obtain ⟨g, hgm, rfl, hne, q', o'', hq', hqq⟩ := LP_some_line hgd hvl hvn hq
      obtain ⟨l, hlm, rfl⟩ := List.mem_map.mp hgm
      have hlk := linesL_ok hs hlm
      have c1 := own_line_ok l hlk.few
      have c2 := lcontent_ok n sh hg hn l hlk
      have c3 := rest_ok v (lcont sh l) (by omega)
      have hrl : restL v (lcont sh l) ∈ les v := restL_les hvn (lcont_nn hg hlk) (by rw [lcont_len hg hlk, hvl])
      have hrw := les_trans hv hrl
      have c4 := dval_L (waresL sh) (les w) hrw
      have hq2 : LP (waresL sh) (restL v (lcont sh l)) = some (q', o'') := hq'
      rw [hq2] at c4
      have hlt := restL_lt hvn (lcont_nn hg hlk) (by rw [lcont_len hg hlk, hvl]) hne
      have hnn := (nn_sum _ (restL_nn v (lcont sh l))).1
      refine ⟨(ls ++ [l], restL v (lcont sh l), q', o''), ?_, ?_, ⟨hrw, hq', fun x hx => ?_, ?_, ?_, ?_⟩, ?_⟩
      · have r0 : resD (some (q, some (wareOf sh l).1)) = .tuple [.int q, lineD l] := rfl
        have hnn : isN (lineD l) = false := rfl
        simp [t_least_1, r0, hnn]
      · have r0 : resD (some (q, some (wareOf sh l).1)) = .tuple [.int q, lineD l] := rfl
        have hb : ls.length < 16777216 := by omega
        have hb2 : (restL v (lcont sh l)).length ≤ 16777216 := by rw [restL_len]; omega
        simp [b_least_1, r0, c1, c2, c3, c4, hb, hb2]
      · rcases List.mem_append.mp hx with hx | hx
        · exact hm x hx
        · simp at hx; subst hx; exact hlm
      · rw [List.map_append, leftW_app, hl]; rfl
      · rw [List.map_append, costW_app]
        have : costW ([l].map (wareOf sh)) = (wareOf sh l).2.2 := by simp [costW]
        simp only
        omega
      · have hlt2 : (restL v (lcont sh l)).sum < v.sum := hlt
        simp only [List.length_append, List.length_singleton]
        omega
      · have hlt2 : (restL v (lcont sh l)).sum < v.sum := hlt
        simp only
        omega) _ ([], w, p, o) (Nat.le_refl _) ⟨les_self hw0, hp, by simp, rfl, by simp [costW], by simp⟩
  obtain ⟨hv, hq, hm, hl, hc, hfew⟩ := hI
  simp only at hv hq hm hl hc hfew hE
  subst hE
  have hvl : v.length = n := by rw [les_len_el hv]; exact hw.len
  obtain ⟨h0, rfl⟩ := LP_none_line hgd hvl (les_nn hv) hq
  exact ⟨ls, v, h, hm, by rw [hl]; exact h0, by omega, by omega⟩
theorem sortLn_perm (ls : List Ln) : (sortLn ls).Perm ls := List.mergeSort_perm _ _
theorem least_ok (n : Nat) (hn : n ≤ 4) (sh : List Off) (hg : Good n sh) (hs : sh.length ≤ 10) (w : List Int) (hw : Want n w) :
    (LP (waresL sh) w = none ∧ sem_least [.v (shopD sh), .v (rowD w)] = some (.v .none, [])) ∨
    ∃ p o ls, LP (waresL sh) w = some (p, o) ∧ Buys n sh w p ls ∧ sem_least [.v (shopD sh), .v (rowD w)] = some (.t [oi p, .l ((sortLn ls).map lineO)], []) := by
  have hw0 : NN w := fun x hx => (hw.nine x hx).1
  have h1 := reckoned_ok n hn sh hg hs w hw
  have h2 := dval_L (waresL sh) (les w) (les_self hw0)
  have hb : w.length ≤ 16777216 := by rw [hw.len]; omega
  cases hp : LP (waresL sh) w with
  | none =>
    left
    rw [hp] at h2
    have h2' : dval (tabD resD (tabL (waresL sh) (les w))) (keyI w) = some .none := h2
    refine ⟨rfl, ?_⟩
    simp [un_least, m_least, h1, h2', hb]
  | some x =>
    obtain ⟨p, o⟩ := x
    right
    rw [hp] at h2
    obtain ⟨ls, v, h3, h4⟩ := least_while n hn sh hg hs w hw p o hp
    refine ⟨p, o, ls, rfl, h4, ?_⟩
    have h5 := srt_lineO ls
    have r0 : resD (some (p, o)) = .tuple [.int p, lnD o] := rfl
    rw [r0] at h2 h3
    simp [un_least, m_least, h1, h2, h3, h5, hb]
end Dn
namespace Dn
open PySem L2
def numD : Option Int → PyData
  | none => .none
  | some p => .int p
abbrev Row := List Int × Option Int
def trowD (r : Row) : PyData := .tuple [rowD r.1, numD r.2]
def caseL (gs : List Wr) (w : List Int) : List Row := (les w).map fun r => (r, num (LP gs r))
end Dn
namespace Dn
open PySem L2
theorem fInt_t : fInt [.bool true] = some (.int 1) := id rfl
theorem fInt_f : fInt [.bool false] = some (.int 0) := id rfl
theorem addsL_lt {sh : List Off} {i a : Int} (h : a ∈ addsL sh i) : ∃ k : Nat, a = (k : Int) ∧ k < sh.length := by
  unfold addsL at h
  obtain ⟨p, hp, rfl⟩ := List.mem_map.mp h
  have h1 := zipIdx_get (List.mem_filter.mp hp).1
  exact ⟨p.2, rfl, (List.getElem?_eq_some_iff.mp h1).1⟩
theorem linesL_places {sh : List Off} {l : Ln} (h : l ∈ linesL sh) : (∃ k : Nat, l.1 = (k : Int) ∧ k < sh.length) ∧ ∀ a ∈ l.2.2, ∃ k : Nat, a = (k : Int) ∧ k < sh.length := by
  unfold linesL at h
  obtain ⟨⟨o, i⟩, hp, hl⟩ := List.mem_flatMap.mp h
  have hi := (List.getElem?_eq_some_iff.mp (zipIdx_get hp)).1
  simp only at hl hi
  cases o with
  | pack c p =>
    obtain ⟨a, ha, rfl⟩ := List.mem_map.mp hl
    exact ⟨⟨i, rfl, hi⟩, fun x hx => addsL_lt ((choicesL_mem ha).subset hx)⟩
  | many c ts =>
    obtain ⟨a, ha, rfl⟩ := List.mem_map.mp hl
    exact ⟨⟨i, rfl, hi⟩, fun x hx => by cases hx⟩
  | add c p k => cases hl
@[simp] theorem isN_num (b : Option Int) : isN (numD b) = b.isNone := by cases b <;> rfl
end Dn
namespace Dn
open PySem L2
theorem strOk_iff (x : Str) : PyData.strOk x = true ↔ ∀ c ∈ x.cps.toList, c < 0x110000 := by
  unfold PyData.strOk
  rw [← Array.all_toList, List.all_eq_true]
  simp
theorem strOk_app {a b : Str} (h1 : PyData.strOk a = true) (h2 : PyData.strOk b = true) : PyData.strOk (a ++ b) = true := by
  rw [strOk_iff] at *
  intro c hc
  rw [Str.cps_append, Array.toList_append, List.mem_append] at hc
  rcases hc with hc | hc
  · exact h1 c hc
  · exact h2 c hc
theorem strOk_of (s : String) : PyData.strOk (Str.ofString s) = true := by
  rw [strOk_iff]
  intro c hc
  rw [PyProof.Rows.signs_ofString] at hc
  obtain ⟨ch, _, rfl⟩ := List.mem_map.mp hc
  have := ch.valid
  rcases this with h | ⟨_, h⟩
  · have : ch.val.toNat < 0xd800 := h
    show ch.val.toNat < _
    omega
  · exact h
theorem strOk_from : ∀ (ts : List Str) (k : Nat) (acc : Str), PyData.strOk acc = true → (∀ t ∈ ts, PyData.strOk t = true) → PyData.strOk (textFrom k acc ts) = true
  | [], k, acc, h, _ => h
  | t :: r, k, acc, h, ht => strOk_from r (k + 1) _ (strOk_app (strOk_app h (by split <;> exact strOk_of _)) (ht t (List.mem_cons_self ..))) fun x hx => ht x (List.mem_cons_of_mem _ hx)
theorem strOk_join : ∀ (ts : List Str), (∀ t ∈ ts, PyData.strOk t = true) → PyData.strOk (Str.join ", " ts) = true
  | [], _ => strOk_of ""
  | [x], h => h x (List.mem_cons_self ..)
  | x :: y :: r, h => strOk_app (strOk_app (h x (List.mem_cons_self ..)) (strOk_of _)) (strOk_join (y :: r) fun z hz => h z (List.mem_cons_of_mem _ hz))
theorem strOk_all {ds : List PyData} (h : ∀ d ∈ ds, PyData.strOk d.shown = true) : ∀ t ∈ PyData.shownAll ds, PyData.strOk t = true := by
  induction ds with
  | nil => intro t ht; cases ht
  | cons d ds ih =>
    intro t ht
    rcases List.mem_cons.mp (show t ∈ d.shown :: PyData.shownAll ds from ht) with rfl | ht
    · exact h d (List.mem_cons_self ..)
    · exact ih (fun x hx => h x (List.mem_cons_of_mem _ hx)) t ht
theorem strOk_list {ds : List PyData} (h : ∀ d ∈ ds, PyData.strOk d.shown = true) : PyData.strOk (PyData.shown (.list ds)) = true :=
  strOk_app (strOk_from _ _ _ (strOk_of _) (strOk_all h)) (strOk_of _)
theorem strOk_tuple {ds : List PyData} (h : ∀ d ∈ ds, PyData.strOk d.shown = true) : PyData.strOk (PyData.shown (.tuple ds)) = true :=
  strOk_app (strOk_app (strOk_of _) (strOk_join _ (strOk_all h))) (strOk_of _)
structure Sm (W k : Nat) (d : PyData) : Prop where
  shw : d.showable = true
  nod : d.hasDict = false
  shr : d.leavesShort 20 = true
  wt : d.weight ≤ W
  dp : d.depth ≤ k
  txt : PyData.strOk d.shown = true
theorem Sm.mono {W W' k k' : Nat} {d : PyData} (h : Sm W k d) (h1 : W ≤ W') (h2 : k ≤ k') : Sm W' k' d := ⟨h.shw, h.nod, h.shr, Nat.le_trans h.wt h1, Nat.le_trans h.dp h2, h.txt⟩
theorem sm_int {i : Int} (h : i.natAbs < 10 ^ 18) : Sm 60 0 (.int i) := by
  have hlog : i.natAbs.log2 ≤ 59 := by
    by_cases h0 : i.natAbs = 0
    · rw [h0]; decide
    · have h1 : i.natAbs < 2 ^ 60 := Nat.lt_trans h (by decide)
      have := (Nat.log2_lt h0).mpr h1
      omega
  refine ⟨?_, rfl, ?_, ?_, Nat.le_refl _, strOk_of _⟩
  · show decide (i.natAbs.log2 < 1920) = true
    exact decide_eq_true (by omega)
  · show decide ((PyData.shown (.int i)).length ≤ 20) = true
    have e := int_text_length_le10 (k := 18) (by decide) h
    refine decide_eq_true ?_
    show (Str.ofString (toString i)).length ≤ 20
    rw [ofString_length]
    omega
  · show (if i == 0 then 0 else i.natAbs.log2 + 1) ≤ 60
    split <;> omega
theorem sm_all {W k : Nat} : ∀ {ds : List PyData}, (∀ d ∈ ds, Sm W k d) → PyData.showableAll ds = true ∧ PyData.hasDictAll ds = false ∧ PyData.leavesShortAll 20 ds = true ∧ PyData.weightAll ds ≤ ds.length * (W + 1) ∧ PyData.depthAll ds ≤ k
  | [], _ => ⟨rfl, rfl, rfl, Nat.zero_le _, Nat.zero_le _⟩
  | d :: ds, h => by
    have hd := h d (List.mem_cons_self ..)
    obtain ⟨a, b, c, e, f⟩ := sm_all fun x hx => h x (List.mem_cons_of_mem _ hx)
    refine ⟨?_, ?_, ?_, ?_, ?_⟩
    · show (d.showable && PyData.showableAll ds) = true
      rw [hd.shw, a]; rfl
    · show (d.hasDict || PyData.hasDictAll ds) = false
      rw [hd.nod, b]; rfl
    · show (d.leavesShort 20 && PyData.leavesShortAll 20 ds) = true
      rw [hd.shr, c]; rfl
    · show d.weight + 1 + PyData.weightAll ds ≤ (ds.length + 1) * (W + 1)
      have := hd.wt
      rw [Nat.add_mul]
      omega
    · rw [depthAll_le]
      intro x hx
      exact (h x hx).dp
theorem sm_list {W k : Nat} {ds : List PyData} (h : ∀ d ∈ ds, Sm W k d) {n : Nat} (hn : ds.length ≤ n) : Sm (n * (W + 1)) (k + 1) (.list ds) := by
  obtain ⟨a, b, c, e, f⟩ := sm_all h
  exact ⟨a, b, c, Nat.le_trans e (Nat.mul_le_mul_right _ hn), by rw [depth_list]; exact fun d hd => (h d hd).dp, strOk_list fun d hd => (h d hd).txt⟩
theorem sm_tuple {W k : Nat} {ds : List PyData} (h : ∀ d ∈ ds, Sm W k d) {n : Nat} (hn : ds.length ≤ n) : Sm (n * (W + 1)) (k + 1) (.tuple ds) := by
  obtain ⟨a, b, c, e, f⟩ := sm_all h
  exact ⟨a, b, c, Nat.le_trans e (Nat.mul_le_mul_right _ hn), by rw [depth_tuple]; exact fun d hd => (h d hd).dp, strOk_tuple fun d hd => (h d hd).txt⟩
theorem sm_fit {W k : Nat} {d : PyData} (h : Sm W k d) (hW : W ≤ 700000) (hk : k ≤ 60) : strFit d = true := by
  have h1 := PyData.shown_le 20 (by decide) d h.shr
  have h2 : d.shown.length ≤ 16777216 := by
    have := h.wt
    have : (20 + 2) * d.weight ≤ 22 * 700000 := Nat.mul_le_mul_left _ (by omega)
    omega
  unfold strFit
  rw [h.shw, h.nod]
  simp only [Bool.not_false, Bool.and_self, Bool.true_and, Bool.and_eq_true, decide_eq_true_eq]
  exact ⟨Nat.le_trans h.dp hk, h2⟩
theorem fStrD_l {ds : List PyData} (h : strFit (.list ds) = true) : fStrD [.list ds] = some (.str (PyData.shown (.list ds))) := by
  show (if shut (strFit (.list ds)) = true then some (PyData.str (PyData.shown (.list ds))) else none) = _
  rw [shut_eq, if_pos h]
theorem fStrD_t {ds : List PyData} (h : strFit (.tuple ds) = true) : fStrD [.tuple ds] = some (.str (PyData.shown (.tuple ds))) := by
  show (if shut (strFit (.tuple ds)) = true then some (PyData.str (PyData.shown (.tuple ds))) else none) = _
  rw [shut_eq, if_pos h]
theorem fStrD_i {i : Int} (h : i.natAbs < 10 ^ 18) : fStrD [.int i] = some (.str (toString i)) := by
  show (if shut (decide (i.natAbs.log2 < 1920)) = true then some (PyData.str (toString i)) else none) = _
  rw [shut_eq, if_pos]
  exact decide_eq_true (by
    have := (sm_int h).shw
    exact of_decide_eq_true this)
theorem sm_str {x : Str} {n : Nat} (h : x.cps.toList.all (fun c => decide (c < 16 ^ 8)) = true) (hl : x.cps.size ≤ n) (ht : PyData.strOk (reprText x) = true) : Sm n 0 (.str x) := ⟨rfl, rfl, h, hl, Nat.le_refl _, ht⟩
theorem sm_row {n B : Nat} {r : List Int} (hl : r.length ≤ n) (h : ∀ x ∈ r, x.natAbs < 10 ^ 18) : Sm (n * 61) 1 (rowD r) := by
  refine sm_list (W := 60) (k := 0) (fun d hd => ?_) (by rw [List.length_map]; exact hl)
  obtain ⟨i, hi, rfl⟩ := List.mem_map.mp hd
  exact sm_int (h i hi)
theorem kd_sm (o : Off) : Sm 10 0 (.str o.kd) := by
  cases o
  · exact sm_str (show ("pack" : Str).cps.toList.all (fun c => decide (c < 16 ^ 8)) = true by decide +kernel) (show ("pack" : Str).cps.size ≤ 10 by decide +kernel) (show PyData.strOk (reprText ("pack" : Str)) = true by decide +kernel)
  · exact sm_str (show ("many" : Str).cps.toList.all (fun c => decide (c < 16 ^ 8)) = true by decide +kernel) (show ("many" : Str).cps.size ≤ 10 by decide +kernel) (show PyData.strOk (reprText ("many" : Str)) = true by decide +kernel)
  · exact sm_str (show ("add" : Str).cps.toList.all (fun c => decide (c < 16 ^ 8)) = true by decide +kernel) (show ("add" : Str).cps.size ≤ 10 by decide +kernel) (show PyData.strOk (reprText ("add" : Str)) = true by decide +kernel)
theorem off_sm {n : Nat} {sh : List Off} {i : Nat} {o : Off} (hg : GoodO n sh i o) (hn : n ≤ 4) (hi : i ≤ 100) : Sm 4000 3 o.d := by
  have hk := kd_sm o
  have hc : Sm 244 1 (rowD o.c) := by
    have := sm_row (n := 4) (B := 0) (r := o.c) (by rw [hg.w.len]; exact hn) (fun x hx => by
      have := hg.w.nine x hx
      have h9 : x.natAbs ≤ 9 := by omega
      exact Nat.lt_of_le_of_lt h9 (by decide))
    exact this
  have ip : ∀ p : Int, 0 ≤ p ∧ p < 2000000000000 → Sm 60 0 (.int p) := fun p h => sm_int (by
    have : p.natAbs < 2000000000000 := by omega
    exact Nat.lt_trans this (by decide))
  cases o with
  | pack c p =>
    have hp : 0 ≤ p ∧ p < 1000000000000 := hg.kind
    refine (sm_tuple (W := 244) (k := 1) (n := 4) (ds := [.str "pack", .list (c.map .int), .int p]) (fun d hd => ?_) (by simp)).mono (by decide) (by decide)
    simp only [List.mem_cons, List.not_mem_nil, or_false] at hd
    rcases hd with rfl | rfl | rfl
    · exact hk.mono (by decide) (by decide)
    · exact hc
    · exact (ip p ⟨hp.1, by omega⟩).mono (by decide) (by decide)
  | many c ts =>
    have ht : Tiers ts := hg.kind
    have hts : Sm 500 2 (.list (ts.map tierD)) := by
      refine (sm_list (W := 122) (k := 1) (n := 4) (fun d hd => ?_) (by rw [List.length_map]; exact ht.len.2)).mono (by decide) (by decide)
      obtain ⟨x, hx, rfl⟩ := List.mem_map.mp hd
      refine sm_tuple (W := 60) (k := 0) (n := 2) (ds := [.int x.1, .int x.2]) (fun d hd => ?_) (by simp)
      simp only [List.mem_cons, List.not_mem_nil, or_false] at hd
      rcases hd with rfl | rfl
      · have := ht.most x hx
        exact ip x.1 ⟨by omega, by omega⟩
      · exact ip x.2 (ht.price x hx)
    refine (sm_tuple (W := 500) (k := 2) (n := 4) (ds := [.str "many", .list (c.map .int), .list (ts.map tierD)]) (fun d hd => ?_) (by simp)).mono (by decide) (by decide)
    simp only [List.mem_cons, List.not_mem_nil, or_false] at hd
    rcases hd with rfl | rfl | rfl
    · exact hk.mono (by decide) (by decide)
    · exact hc.mono (by decide) (by decide)
    · exact hts
  | add c p k =>
    obtain ⟨hp, h0, h1, _⟩ := hg.kind
    refine (sm_tuple (W := 244) (k := 1) (n := 4) (ds := [.str "add", .list (c.map .int), .int p, .int k]) (fun d hd => ?_) (by simp)).mono (by decide) (by decide)
    simp only [List.mem_cons, List.not_mem_nil, or_false] at hd
    rcases hd with rfl | rfl | rfl | rfl
    · exact hk.mono (by decide) (by decide)
    · exact hc
    · exact (ip p ⟨hp.1, by omega⟩).mono (by decide) (by decide)
    · exact (ip k ⟨h0, by omega⟩).mono (by decide) (by decide)
theorem shop_sm {n : Nat} {sh : List Off} (hg : Good n sh) (hn : n ≤ 4) (hs : sh.length ≤ 10) : Sm 50000 4 (shopD sh) := by
  refine (sm_list (W := 4000) (k := 3) (n := 10) (fun d hd => ?_) (by rw [List.length_map]; exact hs)).mono (by decide) (by decide)
  obtain ⟨o, ho, rfl⟩ := List.mem_map.mp hd
  obtain ⟨i, hi⟩ := List.getElem?_of_mem ho
  have hl := (List.getElem?_eq_some_iff.mp hi).1
  exact off_sm (hg i o hi) hn (by omega)
theorem want_sm {n : Nat} {w : List Int} (hw : Want n w) (hn : n ≤ 4) : Sm 250 1 (rowD w) :=
  (sm_row (n := 4) (B := 0) (by rw [hw.len]; exact hn) (fun x hx => by
    have := hw.nine x hx
    have h9 : x.natAbs ≤ 9 := by omega
    exact Nat.lt_of_le_of_lt h9 (by decide))).mono (by decide) (by decide)
theorem LP_bound {n : Nat} {gs : List Wr} (hg : Gds n gs) {M : Int} (hM : ∀ g ∈ gs, g.2.2 ≤ M) (hM0 : 0 ≤ M) : ∀ (m : Nat) (w : List Int), w.length = n → NN w → w.sum.toNat = m → ∀ p o, LP gs w = some (p, o) → 0 ≤ p ∧ p ≤ m * M := by
  intro m
  induction m using Nat.strongRecOn with
  | ind m ih =>
    intro w hl hw hm p o h
    rw [LP_eq hg hl hw] at h
    by_cases h0 : w.sum = 0
    · rw [if_pos h0] at h
      cases h
      exact ⟨Int.le_refl _, Int.mul_nonneg (by omega) hM0⟩
    · rw [if_neg h0] at h
      rcases best_in gs (LP gs) w none p o h with h1 | ⟨g, hgm, _, hne, q, o', e, rfl⟩
      · cases h1
      · have hlt := restL_lt hw (hg.nn g hgm) (by rw [hl, hg.len g hgm]) hne
        have hnn := (nn_sum _ (restL_nn w g.2.1)).1
        obtain ⟨a, b⟩ := ih (restL w g.2.1).sum.toNat (by omega) _ (restL_len' hl (hg.len g hgm)) (restL_nn _ _) rfl q o' e
        have h1 := hM g hgm
        have h2 := hg.pos g hgm
        refine ⟨by omega, ?_⟩
        have h3 : ((restL w g.2.1).sum.toNat : Int) + 1 ≤ (m : Int) := by omega
        have h4 : (((restL w g.2.1).sum.toNat : Int) + 1) * M ≤ (m : Int) * M := Int.mul_le_mul_of_nonneg_right h3 hM0
        rw [Int.add_mul] at h4
        omega
theorem lprice_le {n : Nat} {sh : List Off} (hg : Good n sh) (hs : sh.length ≤ 10) {l : Ln} (hl : l ∈ linesL sh) : lprice sh l ≤ 100000000000000 := by
  have hk := linesL_ok hs hl
  obtain ⟨o, ho, hna⟩ := hk.place
  obtain ⟨i, hgo⟩ := hg.at ho
  have hc := hk.count
  unfold lprice
  rw [ho]
  cases o with
  | pack c p =>
    have hkd : 0 ≤ p ∧ p < 1000000000000 := hgo.kind
    have hlen : l.2.2.length ≤ 10 := by
      have h9 : ∀ l ∈ linesL sh, l.2.2.length ≤ 10 := fun l hl => by
        unfold linesL at hl
        obtain ⟨⟨o, j⟩, hp, hm⟩ := List.mem_flatMap.mp hl
        cases o with
        | pack c p =>
          obtain ⟨a, ha, rfl⟩ := List.mem_map.mp hm
          have h7 := (choicesL_mem ha).length_le
          have h8 := addsL_len sh (j : Int)
          simp only at h7 ⊢
          omega
        | many c ts => obtain ⟨a, ha, rfl⟩ := List.mem_map.mp hm; simp
        | add c p k => cases hm
      exact h9 l hl
    have : ∀ (as : List Int), (∀ a ∈ as, ∃ c p k, atI sh a = some (.add c p k)) → (as.map (pAt sh)).sum ≤ as.length * 1000000000000 := by
      intro as
      induction as with
      | nil => intro _; simp
      | cons a as ih =>
        intro h
        obtain ⟨c', p', k', h'⟩ := h a (List.mem_cons_self ..)
        obtain ⟨j, hj⟩ := hg.at h'
        have hk2 : (0 ≤ p' ∧ p' < 1000000000000) ∧ _ := hj.kind
        have hpa : pAt sh a = p' := by unfold pAt; rw [h']
        have := ih fun x hx => h x (List.mem_cons_of_mem _ hx)
        have := hk2.1.2
        simp only [List.map_cons, List.sum_cons, List.length_cons, hpa]
        push_cast
        omega
    have h2 := this l.2.2 hk.adds
    simp only
    omega
  | many c ts =>
    have ht : Tiers ts := hgo.kind
    have : tierP ts l.2.1 ≤ 2000000000000 := by
      rw [tierP_fold]
      have : ∀ (l' : List (Int × Int)) (d : Int), (∀ t ∈ l', t.2 ≤ 2000000000000) → d ≤ 2000000000000 → l'.foldl (fun e t => if t.1 ≤ l.2.1 then t.2 else e) d ≤ 2000000000000 := by
        intro l'
        induction l' with
        | nil => intro d _ hd; exact hd
        | cons t l' ih =>
          intro d hl2 hd
          rw [List.foldl_cons]
          refine ih _ (fun t' ht' => hl2 t' (List.mem_cons_of_mem _ ht')) ?_
          split
          · exact hl2 t (List.mem_cons_self ..)
          · exact hd
      exact this ts 0 (fun t ht' => by have := (ht.price t ht').2; omega) (by decide)
    have h0 := tierP_nn ht l.2.1
    simp only
    have h3 : l.2.1 * tierP ts l.2.1 ≤ 12 * tierP ts l.2.1 := Int.mul_le_mul_of_nonneg_right hc.2 h0
    omega
  | add c p k => simp only; omega
theorem sum36 {n : Nat} {w : List Int} (hw : Want n w) (hn : n ≤ 4) : w.sum.toNat ≤ 36 := by
  have : ∀ (u : List Int), (∀ x ∈ u, 0 ≤ x ∧ x ≤ 9) → u.sum ≤ 9 * u.length := by
    intro u
    induction u with
    | nil => intro _; simp
    | cons x u ih =>
      intro h
      have h1 := h x (List.mem_cons_self ..)
      have h2 := ih fun y hy => h y (List.mem_cons_of_mem _ hy)
      simp; omega
  have h1 := this w hw.nine
  rw [hw.len] at h1
  omega
theorem LP_small {n : Nat} (hn : n ≤ 4) {sh : List Off} (hg : Good n sh) (hs : sh.length ≤ 10) {w : List Int} (hw : Want n w) {p : Int} {o : Option Ln} (h : LP (waresL sh) w = some (p, o)) : 0 ≤ p ∧ p ≤ 10000000000000000 := by
  have hw0 : NN w := fun x hx => (hw.nine x hx).1
  obtain ⟨a, b⟩ := LP_bound (gds_wares hg hs) (M := 100000000000000) (fun g h => by
    obtain ⟨l, hl, rfl⟩ := List.mem_map.mp h
    exact lprice_le hg hs hl) (by decide) _ w hw.len hw0 rfl p o h
  have h36 := sum36 hw hn
  refine ⟨a, ?_⟩
  have : (w.sum.toNat : Int) * 100000000000000 ≤ 36 * 100000000000000 := Int.mul_le_mul_of_nonneg_right (by omega) (by decide)
  omega
end Dn
set_option Elab.async false
set_option linter.all false
namespace Dn
abbrev Bend := (Int × Int) × Int
end Dn
namespace Dn
open PySem L2
def restN (c w : List Int) : Nat → List Int
  | 0 => w
  | k + 1 => restL (restN c w k) c
theorem restL_com2 {w a b : List Int} (ha : NN a) (hb : NN b) : restL (restL w a) b = restL (restL w b) a := by
  rw [restL_rest w a b hb, restL_rest w b a ha]
  exact congrArg _ (sumL_comm b a)
theorem restN_left {c w : List Int} : ∀ k, restN c (restL w c) k = restN c w (k + 1)
  | 0 => rfl
  | k + 1 => by
    show restL (restN c (restL w c) k) c = _
    rw [restN_left k]
    rfl
theorem restN_rest {c w a : List Int} (hc : NN c) (ha : NN a) : ∀ k, restN c (restL w a) k = restL (restN c w k) a
  | 0 => rfl
  | k + 1 => by
    show restL (restN c (restL w a) k) c = _
    rw [restN_rest hc ha k]
    exact restL_com2 ha hc
theorem restN_len {n : Nat} {c w : List Int} (hc : c.length = n) (hw : w.length = n) : ∀ k, (restN c w k).length = n
  | 0 => hw
  | k + 1 => restL_len' (restN_len hc hw k) hc
theorem restN_nn {c w : List Int} (hw : NN w) : ∀ k, NN (restN c w k)
  | 0 => hw
  | k + 1 => restL_nn _ _
theorem LP_step {n : Nat} {gs : List Wr} (hg : Gds n gs) {g : Wr} (hgm : g ∈ gs) {w : List Int} (hl : w.length = n) (hw : NN w) {q : Int} {o : Option Ln} (h : LP gs (restL w g.2.1) = some (q, o)) : ∃ p o', LP gs w = some (p, o') ∧ p ≤ g.2.2 + q := by
  obtain ⟨ps, h1, h2, h3⟩ := LP_is hg _ (restL w g.2.1) (restL_len' hl (hg.len g hgm)) (restL_nn _ _) rfl q o h
  obtain ⟨p, o', e, hp⟩ := LP_le hg (g :: ps) w hl hw (fun x hx => by
    rcases List.mem_cons.mp hx with rfl | hx
    · exact hgm
    · exact h1 x hx) h2
  refine ⟨p, o', e, ?_⟩
  have : costW (g :: ps) = g.2.2 + costW ps := by simp [costW]
  omega
structure More (n : Nat) (gs ga : List Wr) (c : List Int) (t : Int) : Prop where
  gS : Gds n gs
  gA : Gds n ga
  one : ∃ x ∈ ga, x.2 = (c, t)
  sub : ∀ x ∈ gs, ∃ y ∈ ga, y.2 = x.2
  sup : ∀ y ∈ ga, y.2 = (c, t) ∨ ∃ x ∈ gs, x.2 = y.2
theorem LP_sub {n : Nat} {gs ga : List Wr} (hg : Gds n gs) (hga : Gds n ga) (hs : ∀ x ∈ gs, ∃ y ∈ ga, y.2 = x.2) {w : List Int} (hl : w.length = n) (hw : NN w) {p : Int} {o : Option Ln} (h : LP gs w = some (p, o)) : ∃ q o', LP ga w = some (q, o') ∧ q ≤ p := by
  obtain ⟨ps, h1, h2, h3⟩ := LP_is hg _ w hl hw rfl p o h
  have key : ∀ ps : List Wr, (∀ g ∈ ps, g ∈ gs) → ∃ qs : List Wr, (∀ g ∈ qs, g ∈ ga) ∧ costW qs = costW ps ∧ ∀ w, leftW qs w = leftW ps w := by
    intro ps
    induction ps with
    | nil => exact fun _ => ⟨[], ⟨(fun _ h => nomatch h), rfl, fun _ => rfl⟩⟩
    | cons g ps ih =>
      intro hp
      obtain ⟨qs, q1, q2, q3⟩ := ih fun x hx => hp x (List.mem_cons_of_mem _ hx)
      obtain ⟨y, hy, hy2⟩ := hs g (hp g (List.mem_cons_self ..))
      refine ⟨y :: qs, fun x hx => ?_, ?_, fun w => ?_⟩
      · rcases List.mem_cons.mp hx with rfl | hx
        · exact hy
        · exact q1 x hx
      · have e1 : costW (y :: qs) = y.2.2 + costW qs := by simp [costW]
        have e2 : costW (g :: ps) = g.2.2 + costW ps := by simp [costW]
        rw [e1, e2, q2, hy2]
      · show leftW qs (restL w y.2.1) = leftW ps (restL w g.2.1)
        rw [hy2]
        exact q3 _
  obtain ⟨qs, q1, q2, q3⟩ := key ps h1
  obtain ⟨q, o', e, hq⟩ := LP_le hga qs w hl hw q1 (by rw [q3]; exact h2)
  exact ⟨q, o', e, by omega⟩
section
variable {n : Nat} {gs ga : List Wr} {c : List Int} {t : Int}
theorem More.c_len (m : More n gs ga c t) : c.length = n := by
  obtain ⟨x, hx, e⟩ := m.one
  have := m.gA.len x hx
  rw [e] at this
  exact this
theorem More.c_nn (m : More n gs ga c t) : NN c := by
  obtain ⟨x, hx, e⟩ := m.one
  have := m.gA.nn x hx
  rw [e] at this
  exact this
theorem More.le (m : More n gs ga c t) {w : List Int} (hl : w.length = n) (hw : NN w) : ∀ (k : Nat) {p : Int} {o : Option Ln}, LP gs (restN c w k) = some (p, o) → ∃ q o', LP ga w = some (q, o') ∧ q ≤ p + k * t := by
  intro k p o h
  obtain ⟨q, o', e, hq⟩ := LP_sub m.gS m.gA m.sub (restN_len m.c_len hl k) (restN_nn hw k) h
  obtain ⟨x, hx, ex⟩ := m.one
  have gen : ∀ (k : Nat) (r b : Int) (o2 : Option Ln), LP ga (restN c w k) = some (r, o2) → r ≤ b → ∃ q o', LP ga w = some (q, o') ∧ q ≤ b + k * t := by
    intro k
    induction k with
    | zero => exact fun r b o2 h hb => ⟨r, o2, h, by simpa using hb⟩
    | succ k ih2 =>
      intro r b o2 h hb
      have h' : LP ga (restL (restN c w k) x.2.1) = some (r, o2) := by rw [ex]; exact h
      obtain ⟨r', o3, e3, hr3⟩ := LP_step m.gA hx (restN_len m.c_len hl k) (restN_nn hw k) h'
      rw [ex] at hr3
      have hr3' : r' ≤ t + r := hr3
      obtain ⟨q, o4, e4, hq4⟩ := ih2 r' (b + t) o3 e3 (by omega)
      refine ⟨q, o4, e4, ?_⟩
      have : ((k + 1 : Nat) : Int) * t = k * t + t := by rw [Int.natCast_add, Int.add_mul]; simp
      omega
  exact gen k q p o' e hq
theorem More.ge (m : More n gs ga c t) : ∀ (ps : List Wr) (w : List Int), w.length = n → NN w → (∀ g ∈ ps, g ∈ ga) → (leftW ps w).sum = 0 → ∃ (k : Nat) (q : Int) (o : Option Ln), LP gs (restN c w k) = some (q, o) ∧ q + k * t ≤ costW ps
  | [], w, hl, hw, _, hz => by
    obtain ⟨p, o, e, hp⟩ := LP_le m.gS [] w hl hw (fun _ h => nomatch h) hz
    exact ⟨0, p, o, e, by simpa using hp⟩
  | g :: ps, w, hl, hw, hp, hz => by
    have hgm := hp g (List.mem_cons_self ..)
    obtain ⟨k, q, o, e, hq⟩ := More.ge m ps (restL w g.2.1) (restL_len' hl (m.gA.len g hgm)) (restL_nn _ _) (fun x hx => hp x (List.mem_cons_of_mem _ hx)) hz
    have ec : costW (g :: ps) = g.2.2 + costW ps := by simp [costW]
    rcases m.sup g hgm with h | ⟨x, hx, h⟩
    · have h1 : g.2.1 = c := by rw [h]
      have h2 : g.2.2 = t := by rw [h]
      rw [h1, restN_left] at e
      refine ⟨k + 1, q, o, e, ?_⟩
      have : ((k + 1 : Nat) : Int) * t = k * t + t := by rw [Int.natCast_add, Int.add_mul]; simp
      omega
    · have h1 : g.2.1 = x.2.1 := by rw [h]
      have h2 : g.2.2 = x.2.2 := by rw [h]
      rw [h1, restN_rest m.c_nn (m.gS.nn x hx)] at e
      obtain ⟨p, o', e', hp'⟩ := LP_step m.gS hx (restN_len m.c_len hl k) (restN_nn hw k) e
      exact ⟨k, p, o', e', by omega⟩
theorem More.some (m : More n gs ga c t) {w : List Int} (hl : w.length = n) (hw : NN w) {p : Int} {o : Option Ln} (h : LP ga w = some (p, o)) : ∃ (k : Nat) (q : Int) (o' : Option Ln), LP gs (restN c w k) = some (q, o') ∧ q + k * t ≤ p := by
  obtain ⟨ps, h1, h2, h3⟩ := LP_is m.gA _ w hl hw rfl p o h
  obtain ⟨k, q, o', e, hq⟩ := m.ge ps w hl hw h1 h2
  exact ⟨k, q, o', e, by omega⟩
end
end Dn
namespace Dn
open PySem L2
theorem atI_natE {α : Type} (xs : List α) (j : Nat) : atI xs (j : Int) = xs[j]? := by
  cases h : xs[j]? with
  | some x => exact atI_nat rfl h
  | none =>
    have hl : xs.length ≤ j := List.getElem?_eq_none_iff.mp h
    unfold atI ixN
    rw [if_pos (Int.natCast_nonneg j), if_neg (by omega)]
    rfl
end Dn
namespace Dn
open PySem L2
def ptD (x : Int × Int) : PyData := .tuple [.int x.1, .int x.2]
end Dn
namespace Dn
open PySem L2
end Dn
namespace Dn
open PySem L2
end Dn
namespace Dn
open PySem L2
end Dn
namespace Dn
open PySem L2
def hE (x0 x2 : Sl) (t : Int) (cs : List PyData) (bs : List Bend) (top bottom : Int) (x : Int × Int) (s8 s9 s10 s11 : Sl) : En :=
  [x0, .own (oi t), x2, .own (.v (.list cs)), .own (.v (.list (bs.map fun b => ptD b.1))), .own (oi top), .own (oi bottom), .own (.v (ptD x)), s8, s9, s10, s11]
end Dn
namespace Dn
open PySem L2
end Dn
namespace Dn
open PySem L2
end Dn
namespace Dn
open PySem L2
def getT (tab : List Row) (r : List Int) : Option Int := (tabGet tab r).getD none
theorem tabGet_row {tab : List Row} {r : List Int} (h : r ∈ tab.map (·.1)) : dval (tabD numD tab) (keyI r) = some (numD (getT tab r)) := by
  rw [dval_tab]
  obtain ⟨v, h1, _⟩ := tabGet_mem h
  unfold getT
  rw [h1]
  rfl
end Dn
namespace Dn
open PySem L2
theorem lrest_ok (w c : List Int) (hl : w.length ≤ 1000) (hc : c.length = w.length) : sem__law_rest [.v (rowD w), .v (rowD c)] = some (.l ((restL w c).map oi), []) := by
  have h : ∀ e : En, e[0]? = some (.own (.v (rowD w))) → e[1]? = some (.own (.v (rowD c))) → e[2]? = some .no → lcL (.n 2) mYes ce__law_rest_1 [2] ((List.range w.length).map fun (k : Nat) => .v (.int (k : Int))) e = some ((restL w c).map oi, e) := fun e h0 h1 h2 => by
    rw [restL, ← range_zip (fun a b : Int => max 0 (a - b)) w c 0 0 rfl hc, List.map_map]
    refine lc_map1 h2 _ fun k hk e' g1 g2 => ?_
    simp at hk
    have e1 := atI_getD w 0 hk
    have e2 := atI_getD c 0 (show k < c.length by omega)
    have hmx : fMax [.int 0, .int (w.getD k 0 - c.getD k 0)] = some (.int (max 0 (w.getD k 0 - c.getD k 0))) := by
      have : fMax [.int 0, .int (w.getD k 0 - c.getD k 0)] = some (.int (if w.getD k 0 - c.getD k 0 > 0 then w.getD k 0 - c.getD k 0 else 0)) := rfl
      rw [this]
      congr 2
      omega
    simp [ce__law_rest_1, g1, g2, h0, h1, e1, e2, hmx]
    omega
  have hb1 : -4611686018427387904 ≤ (w.length : Int) := by omega
  have hb2 : (w.length : Int) < 4611686018427387904 := by omega
  have hb3 : w.length ≤ 16777216 := by omega
  simp [un__law_rest, m__law_rest, hb1, hb2, hb3, h]
theorem llesser_in (s0 s1 : Sl) (n : Int) (hn : 0 ≤ n ∧ n ≤ 9) (r : List Int) (hr : r.length ≤ 1000) (acc : List (List Int)) (ha : acc.length ≤ 1000000) :
    b__law_lesser_2 [s0, s1, .own (.v (.int n)), .own (.l (acc.map fun r => .v (rowD r))), .own (.v (rowD r)), .no] = some (.nx [s0, s1, .own (.v (.int n)), .own (.l ((acc ++ (upTo n).map fun k => r ++ [k]).map fun r => .v (rowD r))), .no, .no]) := by
  obtain ⟨acc', h, hI⟩ := for_inv (tg := .n 5) (body := b__law_lesser_1) (enc := fun (k : Nat) => O.v (.int (k : Int))) (E := fun (acc : List (List Int)) => [s0, s1, .own (.v (.int n)), .own (.l (acc.map fun r => .v (rowD r))), .own (.v (rowD r)), .no])
    (fun pre a => a = acc ++ pre.map fun (k : Nat) => r ++ [(k : Int)]) (all := List.range (n + 1).toNat) (List.range (n + 1).toNat) [] acc rfl (by simp) (by
    intro pre k post a hall hI
    have hpl : pre.length < 10 := by have := congrArg List.length hall; simp at this; omega
    have hb1 : r.length + 1 ≤ 16777216 := by omega
    have hb2 : a.length < 16777216 := by rw [hI]; simp; omega
    refine ⟨a ++ [r ++ [(k : Int)]], _, rfl, ?_, by rw [hI]; simp⟩
    simp [b__law_lesser_1, hb1, hb2])
  have hb1 : -4611686018427387904 ≤ n + 1 := by omega
  have hb2 : n + 1 < 4611686018427387904 := by omega
  have hup : (upTo n).map (fun k => r ++ [k]) = (List.range (n + 1).toNat).map fun (k : Nat) => r ++ [(k : Int)] := by unfold upTo; rw [List.map_map]; rfl
  rw [hup, ← hI]
  simp [b__law_lesser_2, hb1, hb2, h]
theorem llesser_turn (s0 : Sl) (x : O) (rows : List (List Int)) (hx : x.toD = some (.list (rows.map rowD))) (n : Int) (hn : 0 ≤ n ∧ n ≤ 9) (hr : ∀ r ∈ rows, r.length ≤ 1000) (hl : rows.length ≤ 10000) : ∃ x' : O,
    b__law_lesser_3 [s0, .own x, .own (.v (.int n)), .no, .no, .no] = some (.nx [s0, .own x', .no, .no, .no, .no]) ∧ x'.toD = some (.list ((lesStep rows n).map rowD)) := by
  obtain ⟨acc', h, hI, -⟩ := for_inv (tg := .n 4) (body := b__law_lesser_2) (enc := fun (r : List Int) => O.v (rowD r)) (E := fun (acc : List (List Int)) => [s0, .own (.v (.list (rows.map rowD))), .own (.v (.int n)), .own (.l (acc.map fun r => .v (rowD r))), .no, .no])
    (fun pre a => a = lesStep pre n ∧ a.length ≤ 10 * pre.length) (all := rows) rows [] [] rfl ⟨rfl, by simp⟩ (by
    intro pre r post a hall ⟨h1, h2⟩
    have hpl : pre.length < 10000 := by have := congrArg List.length hall; simp at this; omega
    have hin := llesser_in s0 (.own (.v (.list (rows.map rowD)))) n hn r (hr r (by rw [hall]; simp)) a (by omega)
    refine ⟨a ++ (upTo n).map (fun k => r ++ [k]), _, rfl, hin, ?_, ?_⟩
    · rw [h1]; unfold lesStep; rw [List.flatMap_append]; simp
    · have := upTo_len hn
      rw [List.length_append, List.length_append, List.length_map, List.length_singleton]; omega)
  have hv1 : mVar 1 [s0, .own x, .own (.v (.int n)), .own (.l []), .no, .no] = some (.v (.list (rows.map rowD)), [s0, .own (.v (.list (rows.map rowD))), .own (.v (.int n)), .own (.l []), .no, .no]) := mVar_toD rfl hx
  refine ⟨.v (.list ((lesStep rows n).map rowD)), ?_, rfl⟩
  rw [← hI]
  simp only [List.map_nil] at h
  simp [b__law_lesser_3, hv1, h, -mVar_ap]
  simp
theorem llesser_ok (w : List Int) (hw : ∀ n ∈ w, 0 ≤ n ∧ n ≤ 9) (hlen : w.length ≤ 4) : ∃ x : O, sem__law_lesser [.v (rowD w)] = some (x, []) ∧ x.toD = some (.list ((les w).map rowD)) := by
  obtain ⟨⟨x, rows⟩, h, hI⟩ := for_inv (tg := .n 2) (body := b__law_lesser_3) (enc := fun (n : Int) => O.v (.int n)) (E := fun (s : O × List (List Int)) => [.own (.v (rowD w)), .own s.1, .no, .no, .no, .no])
    (fun pre s => s.1.toD = some (.list (s.2.map rowD)) ∧ s.2 = pre.foldl lesStep [[]] ∧ (∀ r ∈ s.2, r.length ≤ pre.length) ∧ s.2.length ≤ 10 ^ pre.length) (all := w) w [] (.l [.l []], [[]]) rfl ⟨by simp, rfl, by simp, by simp⟩ (by
    intro pre n post ⟨x, rows⟩ hall ⟨h1, h2, h3, h4⟩
    simp only at h1 h2 h3 h4
    have hn := hw n (by rw [hall]; simp)
    have hpl : pre.length < 4 := by have := congrArg List.length hall; simp at this; omega
    have h5 : rows.length ≤ 1000 := Nat.le_trans h4 (Nat.le_trans (Nat.pow_le_pow_right (by decide) (show pre.length ≤ 3 by omega)) (by decide))
    obtain ⟨x', g1, g2⟩ := llesser_turn (.own (.v (rowD w))) x rows h1 n hn (fun r hr => by have := h3 r hr; omega) (by omega)
    refine ⟨(x', lesStep rows n), _, rfl, g1, g2, ?_, ?_, ?_⟩
    · rw [h2, List.foldl_append]; rfl
    · intro r hr
      unfold lesStep at hr
      obtain ⟨r0, hr0, hr1⟩ := List.mem_flatMap.mp hr
      obtain ⟨k, _, rfl⟩ := List.mem_map.mp hr1
      have := h3 r0 hr0
      simp; omega
    · have := lesStep_len rows hn
      simp only
      rw [List.length_append, List.length_singleton, Nat.pow_succ]
      omega)
  simp only at hI
  refine ⟨x, ?_, by rw [hI.1, hI.2.1, les_eq]⟩
  have h0 : [PyData.list []] = ([[]] : List (List Int)).map rowD := rfl
  simp at h
  simp [un__law_lesser, m__law_lesser, h]
end Dn
namespace Dn
open PySem L2
structure RowOk (B : Nat) (r : Row) : Prop where
  len : r.1.length ≤ 5
  sml : ∀ x ∈ r.1, x.natAbs ≤ 100
  num : ∀ k, r.2 = some k → k.natAbs ≤ B
def RowsOk (B : Nat) (ds : List PyData) : Prop := ∀ d ∈ ds, ∃ r : Row, d = trowD r ∧ RowOk B r
theorem RowOk.mono {B B' : Nat} {r : Row} (h : RowOk B r) (hB : B ≤ B') : RowOk B' r := ⟨h.len, h.sml, fun k hk => Nat.le_trans (h.num k hk) hB⟩
theorem RowsOk.mono {B B' : Nat} {ds : List PyData} (h : RowsOk B ds) (hB : B ≤ B') : RowsOk B' ds := fun d hd => by
  obtain ⟨r, e, hr⟩ := h d hd
  exact ⟨r, e, hr.mono hB⟩
theorem RowsOk.tab {B : Nat} : ∀ {ds : List PyData}, RowsOk B ds → ∃ tab : List Row, ds = tab.map trowD ∧ ∀ r ∈ tab, RowOk B r
  | [], _ => ⟨[], rfl, by simp⟩
  | d :: ds, h => by
    obtain ⟨r, e, hr⟩ := h d (List.mem_cons_self ..)
    obtain ⟨tab, e2, h2⟩ := RowsOk.tab fun x hx => h x (List.mem_cons_of_mem _ hx)
    refine ⟨r :: tab, by rw [e, e2]; rfl, fun x hx => ?_⟩
    rcases List.mem_cons.mp hx with rfl | hx
    · exact hr
    · exact h2 x hx
theorem RowsOk.app {B : Nat} {a b : List PyData} (h1 : RowsOk B a) (h2 : RowsOk B b) : RowsOk B (a ++ b) := fun d hd => by
  rcases List.mem_append.mp hd with h | h
  · exact h1 d h
  · exact h2 d h
theorem RowsOk.take {B n : Nat} {a : List PyData} (h1 : RowsOk B a) : RowsOk B (a.take n) := fun d hd => h1 d (List.mem_of_mem_take hd)
theorem RowsOk.drop {B n : Nat} {a : List PyData} (h1 : RowsOk B a) : RowsOk B (a.drop n) := fun d hd => h1 d (List.mem_of_mem_drop hd)
theorem RowsOk.one {B : Nat} {r : Row} (h : RowOk B r) : RowsOk B [trowD r] := fun d hd => by
  rw [List.mem_singleton] at hd
  exact ⟨r, hd, h⟩
structure Row0 (B : Nat) (r : Row) : Prop where
  len : r.1.length ≤ 4
  sml : ∀ x ∈ r.1, 0 ≤ x ∧ x ≤ 9
  num : ∀ k, r.2 = some k → k.natAbs ≤ B
theorem Row0.ok {B : Nat} {r : Row} (h : Row0 B r) : RowOk B r := ⟨by have := h.len; omega, fun x hx => by have := h.sml x hx; omega, h.num⟩
end Dn
namespace Dn
open PySem L2
def tabN (gs : List Wr) (rows : List (List Int)) : List Row := rows.map fun r => (r, num (LP gs r))
theorem tabN_get {gs : List Wr} {rows : List (List Int)} {r : List Int} (h : r ∈ rows) : getT (tabN gs rows) r = num (LP gs r) := by
  have h1 : r ∈ (tabN gs rows).map (·.1) := by
    unfold tabN
    rw [List.map_map]
    exact List.mem_map.mpr ⟨r, h, rfl⟩
  obtain ⟨v, h2, h3⟩ := tabGet_mem h1
  unfold getT
  rw [h2]
  unfold tabN at h3
  obtain ⟨r', _, e⟩ := List.mem_map.mp h3
  simp only [Prod.mk.injEq] at e
  obtain ⟨rfl, rfl⟩ := e
  rfl
theorem tabN_val {gs : List Wr} {rows : List (List Int)} {r : List Int} (h : r ∈ rows) : dval (tabD numD (tabN gs rows)) (keyI r) = some (numD (num (LP gs r))) := by
  have h1 : r ∈ (tabN gs rows).map (·.1) := by
    unfold tabN
    rw [List.map_map]
    exact List.mem_map.mpr ⟨r, h, rfl⟩
  rw [tabGet_row h1, tabN_get h]
theorem minL_in : ∀ (m : Int) (xs : List Int), minL m xs ∈ m :: xs ∧ ∀ x ∈ m :: xs, minL m xs ≤ x
  | m, [] => ⟨by simp [minL], by simp [minL]⟩
  | m, x :: xs => by
    obtain ⟨h1, h2⟩ := minL_in (min m x) xs
    unfold minL
    refine ⟨?_, fun y hy => ?_⟩
    · rcases List.mem_cons.mp h1 with h | h
      · rw [h]
        rcases Int.min_def m x ▸ (show (if m ≤ x then m else x) = m ∨ (if m ≤ x then m else x) = x by split <;> simp) with e | e
        · rw [e]; simp
        · rw [e]; simp
      · simp [h]
    · have h0 := h2 (min m x) (List.mem_cons_self ..)
      rcases List.mem_cons.mp hy with rfl | hy
      · omega
      · rcases List.mem_cons.mp hy with rfl | hy
        · omega
        · exact h2 y (List.mem_cons_of_mem _ hy)
def gPrice (gs : List Wr) (x : List Int) (g : Wr) : Option Int := if restL x g.2.1 = x then none else (num (LP gs (restL x g.2.1))).map (g.2.2 + ·)
def pricesL (gs all : List Wr) (x : List Int) : List Int := (if x.sum = 0 then [0] else []) ++ gs.filterMap (gPrice all x)
def minO : List Int → Option Int
  | [] => none
  | n :: ns => some (minL n ns)
theorem prices_min {n : Nat} {gs : List Wr} (hg : Gds n gs) {x : List Int} (hl : x.length = n) (hx : NN x) : minO (pricesL gs gs x) = num (LP gs x) := by
  have hLP := LP_eq hg hl hx
  by_cases h0 : x.sum = 0
  · have : gs.filterMap (gPrice gs x) = [] := by
      rw [List.filterMap_eq_nil_iff]
      intro g hgm
      unfold gPrice
      rw [if_pos]
      by_cases h : restL x g.2.1 = x
      · exact h
      · have h1 := restL_lt hx (hg.nn g hgm) (by rw [hl, hg.len g hgm]) h
        have h2 := (nn_sum _ (restL_nn x g.2.1)).1
        omega
    unfold pricesL
    rw [if_pos h0, this, hLP, if_pos h0]
    rfl
  · rw [if_neg h0] at hLP
    unfold pricesL
    rw [if_neg h0, hLP, List.nil_append]
    have hin : ∀ p o, bestOf gs (LP gs) x = some (p, o) → p ∈ gs.filterMap (gPrice gs x) := fun p o h => by
      rcases best_in gs (LP gs) x none p o h with h | ⟨g, hgm, _, hne, q, o', e, rfl⟩
      · cases h
      · refine List.mem_filterMap.mpr ⟨g, hgm, ?_⟩
        unfold gPrice
        rw [if_neg hne, e]
        rfl
    have hle : ∀ p ∈ gs.filterMap (gPrice gs x), ∃ p' o, bestOf gs (LP gs) x = some (p', o) ∧ p' ≤ p := fun p hp => by
      obtain ⟨g, hgm, hgp⟩ := List.mem_filterMap.mp hp
      unfold gPrice at hgp
      split at hgp
      · cases hgp
      · rename_i hne
        cases e : LP gs (restL x g.2.1) with
        | none => rw [e] at hgp; cases hgp
        | some z =>
          rw [e] at hgp
          cases hgp
          exact best_le gs (LP gs) x none g hgm hne z.1 z.2 e
    cases hP : gs.filterMap (gPrice gs x) with
    | nil =>
      cases e : bestOf gs (LP gs) x with
      | none => rfl
      | some z =>
        have := hin z.1 z.2 e
        rw [hP] at this
        cases this
    | cons p ps =>
      rw [hP] at hin hle
      obtain ⟨m1, m2⟩ := minL_in p ps
      obtain ⟨p', o, e1, e2⟩ := hle _ m1
      have h3 := m2 _ (hin p' o e1)
      rw [e1]
      show some (minL p ps) = some p'
      congr 1
      omega
theorem dput_last {α : Type} (enc : α → PyData) (k : List Int) (v v' : α) (t : List (List Int × α)) (h : ∀ p ∈ t, p.1 ≠ k) : dput (tabD enc (t ++ [(k, v)])) (keyI k) (enc v') = tabD enc (t ++ [(k, v')]) := by
  have h1 : ((tabD enc (t ++ [(k, v)])).any fun kv => decide (kv.1 = keyI k)) = true := by
    rw [List.any_eq_true]
    exact ⟨(keyI k, enc v), by simp [tabD], by simp⟩
  unfold dput
  rw [h1]
  simp only [if_true]
  unfold tabD
  rw [List.map_append, List.map_append, List.map_append, List.map_map]
  congr 1
  · refine List.map_congr_left fun p hp => ?_
    simp only [Function.comp]
    rw [if_neg]
    exact fun z => h p hp (keyI_inj z)
  · simp
theorem ltable_one (all : List Wr) (rows : List (List Int)) (x : List Int) (hx : x.length ≤ 1000) (hxr : ∀ g ∈ all, restL x g.2.1 ≠ x → restL x g.2.1 ∈ rows) (g : Wr) (hg : g ∈ all) (hgl : g.2.1.length = x.length) (P : List Int) (hP : P.length ≤ 1000000) (x0 x1 x2 s6 : Sl) :
    b__law_table_1 [x0, x1, x2, .own (.dt (tabD numD (tabN all rows))), .own (.v (rowD x)), .own (.l (P.map oi)), s6, .own (.v (rowD g.2.1)), .own (.v (.int g.2.2)), .no]
     = some (.nx [x0, x1, x2, .own (.dt (tabD numD (tabN all rows))), .own (.v (rowD x)), .own (.l ((P ++ (gPrice all x g).toList).map oi)), .no, .no, .no, .no]) := by
  have hr := lrest_ok x g.2.1 (by omega) hgl
  have hb2 : (restL x g.2.1).length ≤ 16777216 := by rw [restL_len]; omega
  have hb3 : P.length < 16777216 := by omega
  have hrd : (O.l ((restL x g.2.1).map oi)).toD = some (rowD (restL x g.2.1)) := by simp [rowD]
  by_cases hne : restL x g.2.1 = x
  · have : gPrice all x g = none := by unfold gPrice; rw [if_pos hne]
    rw [this]
    simp [b__law_table_1, hr, hne]
  · have hv := tabN_val (gs := all) (hxr g hg hne)
    cases e : LP all (restL x g.2.1) with
    | none =>
      rw [e] at hv
      have hv' : dval (tabD numD (tabN all rows)) (keyI (restL x g.2.1)) = some .none := hv
      have : gPrice all x g = none := by unfold gPrice; rw [if_neg hne, e]; rfl
      rw [this]
      generalize restL x g.2.1 = R at *
      simp [b__law_table_1, hr, hne, hv', hb2]
    | some z =>
      rw [e] at hv
      have hv' : dval (tabD numD (tabN all rows)) (keyI (restL x g.2.1)) = some (.int z.1) := hv
      have : gPrice all x g = some (g.2.2 + z.1) := by unfold gPrice; rw [if_neg hne, e]; rfl
      rw [this]
      generalize restL x g.2.1 = R at *
      simp [b__law_table_1, hr, hne, hv', hb2, hb3]
theorem fne_cons (p : Int) (ps : List Int) : fNe [.list (.int p :: ps.map .int), .list []] = some (.bool true) := by
  have := fNe_nil (p :: ps)
  simpa using this
theorem fne_nil : fNe [.list [], .list []] = some (.bool false) := by
  have := fNe_nil []
  simpa using this
theorem fmin_cons (p : Int) (ps : List Int) : fMin [.list (.int p :: ps.map .int)] = some (.int (minL p ps)) := by
  have h : asInts (.int p :: ps.map .int) = some (p :: ps) := asInts_map (p :: ps)
  rw [fMin_l, h]
theorem ltable_turn (n : Nat) (hn : n ≤ 4) (gs : List Wr) (hg : Gds n gs) (hgl : gs.length ≤ 100000) (rows : List (List Int)) (hrl : rows.length < 10000) (x : List Int) (hx : x.length = n) (hx0 : NN x) (hnew : ∀ r ∈ rows, r ≠ x) (hxr : ∀ g ∈ gs, restL x g.2.1 ≠ x → restL x g.2.1 ∈ rows) (x0 x1 : Sl) :
    b__law_table_2 [x0, x1, .own (.v (.list (gs.map wareD))), .own (.dt (tabD numD (tabN gs rows))), .own (.v (rowD x)), .no, .no, .no, .no, .no]
     = some (.nx [x0, x1, .own (.v (.list (gs.map wareD))), .own (.dt (tabD numD (tabN gs (rows ++ [x])))), .no, .no, .no, .no, .no, .no]) := by
  have hmin := prices_min hg hx hx0
  have hnew' : ∀ p ∈ tabN gs rows, p.1 ≠ x := fun p hp => by
    obtain ⟨r, hr, rfl⟩ := List.mem_map.mp hp
    exact hnew r hr
  have hput := dput_tab numD x none (tabN gs rows) hnew'
  have hput2 := dput_last numD x none (num (LP gs x)) (tabN gs rows) hnew'
  have htl : tabN gs rows ++ [(x, num (LP gs x))] = tabN gs (rows ++ [x]) := by simp [tabN]
  rw [htl] at hput2
  have hloop : ∀ (P0 : List Int), P0.length ≤ 1 → forL (.tp [.n 6, .n 7, .n 8]) b__law_table_1 (gs.map fun g => O.v (wareD g)) [x0, x1, .own (.v (.list (gs.map wareD))), .own (.dt (tabD numD (tabN gs rows))), .own (.v (rowD x)), .own (.l (P0.map oi)), .no, .no, .no, .no]
     = some (.nx [x0, x1, .own (.v (.list (gs.map wareD))), .own (.dt (tabD numD (tabN gs rows))), .own (.v (rowD x)), .own (.l ((P0 ++ gs.filterMap (gPrice gs x)).map oi)), .no, .no, .no, .no]) := fun P0 hP0 => by
    obtain ⟨P, h, hI, -⟩ := for_inv (tg := .tp [.n 6, .n 7, .n 8]) (body := b__law_table_1) (enc := fun (g : Wr) => O.v (wareD g)) (E := fun (P : List Int) => [x0, x1, .own (.v (.list (gs.map wareD))), .own (.dt (tabD numD (tabN gs rows))), .own (.v (rowD x)), .own (.l (P.map oi)), .no, .no, .no, .no])
      (fun pre P => P = P0 ++ pre.filterMap (gPrice gs x) ∧ P.length ≤ pre.length + 1) (all := gs) gs [] P0 rfl ⟨by simp, by simpa using hP0⟩ (by
      intro pre g post P hall ⟨i1, i2⟩
      have hgm : g ∈ gs := by rw [hall]; simp
      have hpl : pre.length < 100000 := by have := congrArg List.length hall; simp at this; omega
      refine ⟨P ++ (gPrice gs x g).toList, [x0, x1, .own (.v (.list (gs.map wareD))), .own (.dt (tabD numD (tabN gs rows))), .own (.v (rowD x)), .own (.l (P.map oi)), .own (.v (lineD g.1)), .own (.v (rowD g.2.1)), .own (.v (.int g.2.2)), .no], by simp [wareD], ltable_one gs rows x (by omega) hxr g hgm (by rw [hg.len g hgm, hx]) P (by omega) _ _ _ _, ?_, ?_⟩
      · rw [i1, List.filterMap_append]
        cases e : gPrice gs x g <;> simp [e]
      · rw [List.length_append, List.length_append, List.length_singleton]
        cases e : gPrice gs x g <;> simp <;> omega)
    rw [hI] at h
    exact h
  have hb1 : x.length ≤ 16777216 := by omega
  have hb2 : (tabD numD (tabN gs rows)).length < 16777216 := by simp [tabD, tabN]; omega
  have hb3 : (tabD numD (tabN gs rows ++ [(x, none)])).length < 16777216 := by simp [tabD, tabN]; omega
  have hmv : (gs.map fun g => O.v (wareD g)) = (gs.map wareD).map O.v := by rw [List.map_map]; rfl
  simp only [hmv] at hloop
  have hgl2 : (gs.map wareD).length ≤ 16777216 := by rw [List.length_map]; omega
  have n0 : numD none = .none := rfl
  rw [n0] at hput
  generalize gs.map wareD = GD at *
  generalize hT1 : tabN gs rows ++ [(x, none)] = T1 at *
  generalize hT2 : tabN gs (rows ++ [x]) = T2 at *
  generalize tabN gs rows = T0 at *
  by_cases h0 : x.sum = 0
  · have hlp := hloop [0] (by simp)
    have hP : pricesL gs gs x = [0] ++ gs.filterMap (gPrice gs x) := by unfold pricesL; rw [if_pos h0]
    rw [hP] at hmin
    generalize gs.filterMap (gPrice gs x) = FP at *
    rw [← hmin] at hput2
    have hp2 : dput (tabD numD T1) (keyI x) (.int (minL 0 FP)) = tabD numD T2 := hput2
    have c0 : cutG [O.v (.int 0)] none (some 1) = [O.v (.int 0)] := rfl
    have z1 : ([0] : List Int).map oi = [O.v (.int 0)] := rfl
    have z2 : ([0] ++ FP).map oi = (0 :: FP).map oi := rfl
    rw [z1, z2] at hlp
    have f1 := fne_cons 0 FP
    have f2 := fmin_cons 0 FP
    simp [b__law_table_2, h0, fInt_t, c0, hlp, hput, hp2, hb1, hb2, hb3, hgl2, f1, f2]
  · have hlp := hloop [] (by simp)
    have hP : pricesL gs gs x = gs.filterMap (gPrice gs x) := by unfold pricesL; rw [if_neg h0]; rfl
    rw [hP] at hmin
    rw [List.nil_append] at hlp
    have c0 : cutG [O.v (.int 0)] none (some 0) = [] := rfl
    generalize gs.filterMap (gPrice gs x) = FP at *
    cases FP with
    | nil =>
      rw [← hmin] at hput2
      have z1 : ([] : List Int).map oi = [] := rfl
      rw [z1] at hlp
      have e0 : T2 = T1 := by rw [← htl, ← hT1, ← hmin]; rfl
      rw [e0]
      have f0 : fNe [.list [], .list []] = some (.bool false) := fne_nil
      simp [b__law_table_2, h0, fInt_f, c0, hlp, hput, hb1, hb2, hb3, hgl2, f0]
    | cons p ps =>
      rw [← hmin] at hput2
      have hp2 : dput (tabD numD T1) (keyI x) (.int (minL p ps)) = tabD numD T2 := hput2
      have z1 : ([] : List Int).map oi = [] := rfl
      rw [z1] at hlp
      have f1 := fne_cons p ps
      have f2 := fmin_cons p ps
      simp [b__law_table_2, h0, fInt_f, c0, hlp, hput, hp2, hb1, hb2, hb3, hgl2, f1, f2]
theorem ltable_ok (n : Nat) (hn : n ≤ 4) (sh : List Off) (hg : Good n sh) (hs : sh.length ≤ 10) (w : List Int) (hw : Want n w) : sem__law_table [.v (shopD sh), .v (rowD w)] = some (.dt (tabD numD (caseL (waresL sh) w)), []) := by
  obtain ⟨x, g1, g2⟩ := llesser_ok w hw.nine (by rw [hw.len]; exact hn)
  have h3 := lwares_ok n hn sh hg hs
  have hlen := les_len9 hw.nine (by rw [hw.len]; exact hn)
  have hgd := gds_wares hg hs
  have hpw := les_pair w
  have hwl : (waresL sh).length ≤ 100000 := by
    have := linesL_len sh hs
    unfold waresL; rw [List.length_map]; omega
  have hloop : ∀ x0 x1 : Sl, forL (.n 4) b__law_table_2 ((les w).map fun r => O.v (rowD r)) [x0, x1, .own (.v (.list ((waresL sh).map wareD))), .own (.dt []), .no, .no, .no, .no, .no, .no]
     = some (.nx [x0, x1, .own (.v (.list ((waresL sh).map wareD))), .own (.dt (tabD numD (tabN (waresL sh) (les w)))), .no, .no, .no, .no, .no, .no]) := fun x0 x1 => by
    obtain ⟨b, h, hI⟩ := for_inv (tg := .n 4) (body := b__law_table_2) (enc := fun (r : List Int) => O.v (rowD r)) (E := fun (rows : List (List Int)) => [x0, x1, .own (.v (.list ((waresL sh).map wareD))), .own (.dt (tabD numD (tabN (waresL sh) rows))), .no, .no, .no, .no, .no, .no])
      (fun pre rows => rows = pre) (all := les w) (les w) [] [] rfl rfl (by
      intro pre y post rows hall hr
      subst hr
      have hym : y ∈ les w := by rw [hall]; simp
      have hyl : y.length = n := by rw [les_len_el hym]; exact hw.len
      have hyn := les_nn hym
      have hpl : rows.length < 10000 := by have := congrArg List.length hall; simp at this; omega
      refine ⟨rows ++ [y], _, rfl, ltable_turn n hn (waresL sh) hgd hwl rows hpl y hyl hyn (fun r hr e => ?_) (fun g hgm hne => ?_) _ _, rfl⟩
      · subst e
        rw [hall, List.pairwise_append] at hpw
        have := hpw.2.2 r hr r (List.mem_cons_self ..)
        rw [lexI_irrefl] at this
        cases this
      · have h1 : restL y g.2.1 ∈ les y := restL_les hyn (hgd.nn g hgm) (by rw [hgd.len g hgm, hyl])
        have h2 : restL y g.2.1 ∈ les w := les_trans hym h1
        rw [hall] at h2 hpw
        exact pre_of_lex hpw h2 (les_lex h1 hne))
    rw [hI] at h
    exact h
  have hcase : tabN (waresL sh) (les w) = caseL (waresL sh) w := rfl
  rw [hcase] at hloop
  have hmv : ((les w).map fun r => O.v (rowD r)) = ((les w).map rowD).map O.v := by rw [List.map_map]; rfl
  simp only [hmv] at hloop
  have hb : ((les w).map rowD).length ≤ 16777216 := by rw [List.length_map]; omega
  generalize (les w).map rowD = LD at *
  generalize tabD numD (caseL (waresL sh) w) = TD at *
  simp [un__law_table, m__law_table, h3, g1, g2, hloop, hb]
end Dn
namespace Dn
open PySem L2
end Dn
namespace Dn
open PySem L2
end Dn
namespace Dn
open PySem L2
end Dn
namespace Dn
open PySem L2
end Dn
namespace Dn
open PySem L2
end Dn
namespace Dn
open PySem L2
@[simp] theorem mIso_ap {ks : List Nat} {m : MS} {e : En} : mIso ks m e = (match m (isoIn ks 0 e) with
  | some (.nx e2) => (match isoOut ks 0 e e2 with
    | some e3 => some (.nx e3)
    | none => none)
  | some (.bk e2) => (match isoOut ks 0 e e2 with
    | some e3 => some (.bk e3)
    | none => none)
  | some (.ct e2) => (match isoOut ks 0 e e2 with
    | some e3 => some (.ct e3)
    | none => none)
  | some (.rt x e2) => if x.free = true then (match isoOut ks 0 e e2 with
    | some e3 => some (.rt x e3)
    | none => none) else none
  | none => none) := id rfl
end Dn
namespace Dn
open PySem L2
theorem setK4_t {xs : List O} {k : Nat} {x x' : O} {ks : List Int} {ys : List O} (h : xs[k]? = some x) (h2 : setK x ks ys = some x') : setK (.t xs) ((k : Int) :: ks) ys = some (.t (xs.set k x')) := by
  have hk := (List.getElem?_eq_some_iff.mp h).1
  show (match ixN xs.length (k : Int) with | some j => (match xs[j]? with | some x => (match setK x ks ys with | some x' => some ((O.t xs).withKids (xs.set j x')) | none => none) | none => none) | none => none) = _
  rw [ixN_nat hk]
  simp only [h, h2]
  rfl
def revO : Off → Off
  | .pack c p => .pack c.reverse p
  | .many c ts => .many c.reverse ts
  | .add c p k => .add c.reverse p k
theorem revO_c (o : Off) : (revO o).c = o.c.reverse := by cases o <;> rfl
theorem off_kid (o : Off) : ∃ a rest, offT o = .t (a :: .l (o.c.map oi) :: rest) ∧ offT (revO o) = .t (a :: .l (o.c.reverse.map oi) :: rest) := by
  cases o with
  | pack c p => exact ⟨_, _, rfl, rfl⟩
  | many c ts => exact ⟨_, _, rfl, rfl⟩
  | add c p k => exact ⟨_, _, rfl, rfl⟩
theorem want_rev {n : Nat} {c : List Int} (h : Want n c) : Want n c.reverse := ⟨by rw [List.length_reverse]; exact h.len, fun x hx => h.nine x (List.mem_reverse.mp hx)⟩
theorem sum_rev : ∀ c : List Int, c.reverse.sum = c.sum
  | [] => rfl
  | x :: c => by rw [List.reverse_cons, List.sum_append, sum_rev c]; simp; omega
theorem good_rev {n : Nat} {sh : List Off} (hg : Good n sh) : Good n (sh.map revO) := by
  intro i o' ho'
  rw [List.getElem?_map] at ho'
  obtain ⟨o, ho, rfl⟩ := Option.map_eq_some_iff.mp ho'
  have g := hg _ _ ho
  refine ⟨by rw [revO_c]; exact want_rev g.w, by rw [revO_c, sum_rev]; exact g.sum, ?_⟩
  cases o with
  | pack c p => exact g.kind
  | many c ts => exact g.kind
  | add c p k =>
    obtain ⟨h1, h2, h3, c', p', h4⟩ := g.kind
    exact ⟨h1, h2, h3, c'.reverse, p', by rw [List.getElem?_map, h4]; rfl⟩
end Dn
namespace Dn
open PySem L2
end Dn
namespace Dn
open PySem L2
end Dn
namespace Dn
open PySem L2
def cpl (x : Str) : List Nat := x.cps.toList
theorem cpl_app (a b : Str) : cpl (a ++ b) = cpl a ++ cpl b := by
  unfold cpl
  rw [Str.cps_append, Array.toList_append]
def dgt (n : Int) : List Nat := cpl (PyData.shown (.int n))
theorem dgt_facts : ∀ a : Fin 13, dgt (a.val : Int) ≠ [] ∧ (dgt (a.val : Int)).all (fun c => decide (c ≠ 44) && decide (c ≠ 93)) = true := by decide +kernel
theorem dgt_fin : ∀ a b : Fin 13, dgt (a.val : Int) = dgt (b.val : Int) → a = b := by decide +kernel
theorem dgt_inj {a b : Int} (ha : 0 ≤ a ∧ a < 13) (hb : 0 ≤ b ∧ b < 13) (h : dgt a = dgt b) : a = b := by
  have := dgt_fin ⟨a.toNat, by omega⟩ ⟨b.toNat, by omega⟩ (by
    show dgt (a.toNat : Int) = dgt (b.toNat : Int)
    rw [Int.toNat_of_nonneg ha.1, Int.toNat_of_nonneg hb.1]
    exact h)
  have h2 := congrArg Fin.val this
  simp only at h2
  omega
theorem dgt_no {a : Int} (ha : 0 ≤ a ∧ a < 13) : dgt a ≠ [] ∧ ∀ c ∈ dgt a, c ≠ 44 ∧ c ≠ 93 := by
  have := dgt_facts ⟨a.toNat, by omega⟩
  simp only [Int.toNat_of_nonneg ha.1, List.all_eq_true, Bool.and_eq_true, decide_eq_true_eq] at this
  exact this
def Stop (y : List Nat) : Prop := ∃ s r, y = s :: r ∧ (s = 44 ∨ s = 93)
theorem stop_split : ∀ (x x' y y' : List Nat), (∀ c ∈ x, c ≠ 44 ∧ c ≠ 93) → (∀ c ∈ x', c ≠ 44 ∧ c ≠ 93) → Stop y → Stop y' → x ++ y = x' ++ y' → x = x' ∧ y = y'
  | [], [], y, y', _, _, _, _, h => ⟨rfl, h⟩
  | [], c :: x', y, y', _, h2, ⟨s, r, e, hs⟩, _, h => by
    rw [e, List.nil_append, List.cons_append] at h
    have := h2 c (List.mem_cons_self ..)
    have h3 := (List.cons.inj h).1
    omega
  | c :: x, [], y, y', h1, _, _, ⟨s, r, e, hs⟩, h => by
    rw [e, List.nil_append, List.cons_append] at h
    have := h1 c (List.mem_cons_self ..)
    have h3 := (List.cons.inj h).1
    omega
  | c :: x, d :: x', y, y', h1, h2, hy, hy', h => by
    rw [List.cons_append, List.cons_append] at h
    obtain ⟨e1, e2⟩ := List.cons.inj h
    obtain ⟨e3, e4⟩ := stop_split x x' y y' (fun c hc => h1 c (List.mem_cons_of_mem _ hc)) (fun c hc => h2 c (List.mem_cons_of_mem _ hc)) hy hy' e2
    exact ⟨by rw [e1, e3], e4⟩
def tailD (r : List Int) : List Nat := r.flatMap fun b => 44 :: 32 :: dgt b
def endD (r : List Int) (z : List Nat) : List Nat := tailD r ++ 93 :: z
theorem endD_nil (z : List Nat) : endD [] z = 93 :: z := rfl
theorem endD_cons (b : Int) (r : List Int) (z : List Nat) : endD (b :: r) z = 44 :: 32 :: (dgt b ++ endD r z) := by
  unfold endD tailD
  simp
theorem endD_stop (r : List Int) (z : List Nat) : Stop (endD r z) := by
  cases r with
  | nil => exact ⟨93, z, rfl, .inr rfl⟩
  | cons b r => rw [endD_cons]; exact ⟨44, _, rfl, .inl rfl⟩
theorem endD_inj : ∀ (r r' : List Int) (z : List Nat), (∀ x ∈ r, 0 ≤ x ∧ x < 13) → (∀ x ∈ r', 0 ≤ x ∧ x < 13) → endD r z = endD r' z → r = r'
  | [], [], _, _, _, _ => rfl
  | [], b :: r', z, _, _, h => by rw [endD_nil, endD_cons] at h; have := (List.cons.inj h).1; omega
  | b :: r, [], z, _, _, h => by rw [endD_nil, endD_cons] at h; have := (List.cons.inj h).1; omega
  | a :: r, b :: r', z, h1, h2, h => by
    rw [endD_cons, endD_cons] at h
    have h := (List.cons.inj (List.cons.inj h).2).2
    have ha := h1 a (List.mem_cons_self ..)
    have hb := h2 b (List.mem_cons_self ..)
    obtain ⟨e1, e2⟩ := stop_split _ _ _ _ (dgt_no ha).2 (dgt_no hb).2 (endD_stop r z) (endD_stop r' z) h
    rw [dgt_inj ha hb e1, endD_inj r r' z (fun x hx => h1 x (List.mem_cons_of_mem _ hx)) (fun x hx => h2 x (List.mem_cons_of_mem _ hx)) e2]
def rowC : List Int → List Nat → List Nat
  | [], z => 93 :: z
  | a :: r, z => dgt a ++ endD r z
theorem rowC_inj (r r' : List Int) (z : List Nat) (h1 : ∀ x ∈ r, 0 ≤ x ∧ x < 13) (h2 : ∀ x ∈ r', 0 ≤ x ∧ x < 13) (h : rowC r z = rowC r' z) : r = r' := by
  cases r with
  | nil =>
    cases r' with
    | nil => rfl
    | cons b r' =>
      obtain ⟨n1, n2⟩ := dgt_no (h2 b (List.mem_cons_self ..))
      obtain ⟨e1, _⟩ := stop_split [] (dgt b) (93 :: z) (endD r' z) (fun c hc => nomatch hc) n2 ⟨93, z, rfl, .inr rfl⟩ (endD_stop r' z) h
      exact absurd e1.symm n1
  | cons a r =>
    have ha := h1 a (List.mem_cons_self ..)
    cases r' with
    | nil =>
      obtain ⟨n1, n2⟩ := dgt_no ha
      obtain ⟨e1, _⟩ := stop_split (dgt a) [] (endD r z) (93 :: z) n2 (fun c hc => nomatch hc) (endD_stop r z) ⟨93, z, rfl, .inr rfl⟩ h
      exact absurd e1 n1
    | cons b r' =>
      have hb := h2 b (List.mem_cons_self ..)
      obtain ⟨e1, e2⟩ := stop_split _ _ _ _ (dgt_no ha).2 (dgt_no hb).2 (endD_stop r z) (endD_stop r' z) h
      rw [dgt_inj ha hb e1, endD_inj r r' z (fun x hx => h1 x (List.mem_cons_of_mem _ hx)) (fun x hx => h2 x (List.mem_cons_of_mem _ hx)) e2]
theorem from_cps : ∀ (r : List Int) (k : Nat) (acc : Str), cpl (textFrom (k + 1) acc (PyData.shownAll (r.map .int))) = cpl acc ++ tailD r
  | [], k, acc => by
    show cpl acc = cpl acc ++ []
    rw [List.append_nil]
  | a :: r, k, acc => by
    show cpl (textFrom (k + 1 + 1) (acc ++ (if k + 1 > 0 then ", " else "" : String) ++ PyData.shown (.int a)) (PyData.shownAll (r.map .int))) = _
    rw [from_cps r (k + 1), cpl_app, cpl_app]
    have : cpl ((if k + 1 > 0 then ", " else "" : String) : Str) = [44, 32] := by
      rw [if_pos (Nat.succ_pos k)]
      decide +kernel
    rw [this]
    unfold tailD dgt
    simp
theorem row_cps (r : List Int) (z : List Nat) : cpl (PyData.shown (rowD r)) ++ z = 91 :: rowC r z := by
  have hb : cpl ("]" : Str) = [93] := by decide +kernel
  have ho : cpl ("[" : Str) = [91] := by decide +kernel
  show cpl (textFrom 0 "[" (PyData.shownAll (r.map .int)) ++ "]") ++ z = _
  rw [cpl_app, hb]
  cases r with
  | nil =>
    show cpl ("[" : Str) ++ [93] ++ z = _
    rw [ho]
    rfl
  | cons a r =>
    show cpl (textFrom 1 ("[" ++ (if 0 > 0 then ", " else "" : String) ++ PyData.shown (.int a)) (PyData.shownAll (r.map .int))) ++ [93] ++ z = _
    rw [from_cps r 0, cpl_app, cpl_app, ho]
    have : cpl ((if 0 > 0 then ", " else "" : String) : Str) = [] := by decide +kernel
    rw [this]
    unfold rowC endD dgt
    simp
theorem line_cps (l : Ln) : cpl (PyData.shown (lineD l)) = 40 :: (dgt l.1 ++ 44 :: 32 :: (dgt l.2.1 ++ 44 :: 32 :: 91 :: rowC l.2.2 [41])) := by
  have hc : cpl (", " : Str) = [44, 32] := by decide +kernel
  have ho : cpl ("(" : Str) = [40] := by decide +kernel
  have hq : cpl (")" : Str) = [41] := by decide +kernel
  show cpl ("(" ++ ((PyData.shown (.int l.1) ++ ", ") ++ ((PyData.shown (.int l.2.1) ++ ", ") ++ PyData.shown (rowD l.2.2))) ++ ")") = _
  simp only [cpl_app, hc, ho, hq]
  have hr := row_cps l.2.2 [41]
  simp only [List.append_assoc, List.cons_append, List.nil_append, hr]
  rfl
def LnS (l : Ln) : Prop := (0 ≤ l.1 ∧ l.1 < 13) ∧ (0 ≤ l.2.1 ∧ l.2.1 < 13) ∧ ∀ x ∈ l.2.2, 0 ≤ x ∧ x < 13
theorem line_inj {l l' : Ln} (h : LnS l) (h' : LnS l') (e : PyData.shown (lineD l) = PyData.shown (lineD l')) : l = l' := by
  have e2 := congrArg cpl e
  rw [line_cps, line_cps] at e2
  have e2 := (List.cons.inj e2).2
  have st : ∀ z : List Nat, Stop (44 :: z) := fun z => ⟨44, z, rfl, .inl rfl⟩
  obtain ⟨a1, a2⟩ := stop_split _ _ _ _ (dgt_no h.1).2 (dgt_no h'.1).2 (st _) (st _) e2
  have a2 := (List.cons.inj (List.cons.inj a2).2).2
  obtain ⟨b1, b2⟩ := stop_split _ _ _ _ (dgt_no h.2.1).2 (dgt_no h'.2.1).2 (st _) (st _) a2
  have b2 := (List.cons.inj (List.cons.inj (List.cons.inj b2).2).2).2
  have c := rowC_inj _ _ _ h.2.2 h'.2.2 b2
  obtain ⟨x, y, z⟩ := l
  obtain ⟨x', y', z'⟩ := l'
  simp only at a1 b1 c
  have p1 : x = x' := dgt_inj h.1 h'.1 a1
  have p2 : y = y' := dgt_inj h.2.1 h'.2.1 b1
  rw [p1, p2, c]
theorem lines_S {sh : List Off} (hs : sh.length ≤ 10) {l : Ln} (h : l ∈ linesL sh) : LnS l := by
  obtain ⟨⟨k, h1, h2⟩, h3⟩ := linesL_places h
  have hc := (linesL_ok hs h).count
  refine ⟨by omega, by omega, fun x hx => ?_⟩
  obtain ⟨j, h4, h5⟩ := h3 x hx
  omega
theorem idx_gen {α : Type} (enc : α → PyData) : ∀ (xs : List α) (m k : Nat) (x : α), (∀ a ∈ xs, nb (enc a) 3 = true) → (∀ a ∈ xs, ∀ b ∈ xs, enc a = enc b → a = b) → xs.Nodup → xs[k]? = some x → idxD (enc x) (xs.map enc) m = some (m + k)
  | [], _, _, _, _, _, _, h => by simp at h
  | z :: xs, m, k, x, hn, hi, hd, h => by
    rw [List.map_cons]
    unfold idxD
    obtain ⟨h1, h2⟩ := List.nodup_cons.mp hd
    have hx : x ∈ z :: xs := List.mem_of_getElem? h
    have he := eqv_iff 3 (enc z) (enc x) (hn z (List.mem_cons_self ..)) (hn x hx)
    cases k with
    | zero =>
      simp at h
      rw [if_pos (he.mpr (by rw [h]))]
      rfl
    | succ k =>
      simp at h
      have hzx : ¬ PyData.eqv (enc z) (enc x) = true := fun e => by
        have := hi z (List.mem_cons_self ..) x hx (he.mp e)
        exact h1 (this ▸ List.mem_of_getElem? h)
      rw [if_neg hzx, idx_gen enc xs (m + 1) k x (fun a ha => hn a (List.mem_cons_of_mem _ ha)) (fun a ha b hb => hi a (List.mem_cons_of_mem _ ha) b (List.mem_cons_of_mem _ hb)) h2 h]
      congr 1
      omega
theorem shaped_of {d : PyData} {n : Nat} (hn : n ≤ 20) (h : nb d n = true) : SeqAt.shaped d = true := by
  obtain ⟨a1, a2⟩ := nb_shape n _ h
  rw [shaped_eq, a1, decide_eq_true (Nat.le_trans a2 (Nat.le_trans hn (by decide)))]
  rfl
theorem fIndex_gen {α : Type} (enc : α → PyData) {xs : List α} {k : Nat} {x : α} (hn : ∀ a ∈ xs, nb (enc a) 3 = true) (hi : ∀ a ∈ xs, ∀ b ∈ xs, enc a = enc b → a = b) (hd : xs.Nodup) (h : xs[k]? = some x) :
    fIndex [.list (xs.map enc), enc x] = some (.int (k : Int)) ∧ fNotIn [enc x, .list (xs.map enc)] = some (.bool false) ∧ fIn [enc x, .list (xs.map enc)] = some (.bool true) := by
  have hx : x ∈ xs := List.mem_of_getElem? h
  have s1 := shaped_of (by decide) (hn x hx)
  have s2 : SeqAt.shaped (.list (xs.map enc)) = true := shaped_of (n := 4) (by decide) (by
    rw [nb_list, List.all_eq_true]
    intro d hd
    obtain ⟨y, hy, rfl⟩ := List.mem_map.mp hd
    exact hn y hy)
  have hany : ((xs.map enc).any fun z => PyData.eqv z (enc x)) = true := by
    rw [List.any_eq_true]
    exact ⟨enc x, List.mem_map.mpr ⟨x, hx, rfl⟩, (eqv_iff 3 _ _ (hn x hx) (hn x hx)).mpr rfl⟩
  refine ⟨?_, ?_, ?_⟩
  · show (if SeqAt.shaped (.list (xs.map enc)) && SeqAt.shaped (enc x) then (match idxD (enc x) (xs.map enc) 0 with | some j => some (PyData.int (j : Nat)) | none => none) else none) = _
    rw [s1, s2, idx_gen enc xs 0 k x hn hi hd h, Nat.zero_add]
    rfl
  · generalize enc x = d at *
    unfold fNotIn
    split
    · rename_i e; cases e
    · rename_i e
      cases e
      rw [s1, s2, hany]
      rfl
    · rename_i h1 h2
      exact absurd rfl (h2 _ _)
  · generalize enc x = d at *
    unfold fIn
    split
    · rename_i e; cases e
    · rename_i e
      cases e
      rw [s1, s2, hany]
      rfl
    · rename_i h1 h2
      exact absurd rfl (h2 _ _)
end Dn
namespace Dn
open PySem L2
theorem lnLt_tri (a b : Ln) (h1 : lnLt a b = false) (h2 : lnLt b a = false) : a = b := by
  obtain ⟨x, y, z⟩ := a
  obtain ⟨x', y', z'⟩ := b
  unfold lnLt at h1 h2
  simp only at h1 h2
  by_cases hx : x = x'
  · subst hx
    by_cases hy : y = y'
    · subst hy
      simp only [if_true] at h1 h2
      by_cases hz : z = z'
      · rw [hz]
      · rw [lexI_tri z z' hz h1] at h2
        cases h2
    · rw [if_pos rfl, if_neg hy] at h1
      rw [if_pos rfl, if_neg (Ne.symm hy)] at h2
      simp only [decide_eq_false_iff_not] at h1 h2
      omega
  · rw [if_neg hx] at h1
    rw [if_neg (Ne.symm hx)] at h2
    simp only [decide_eq_false_iff_not] at h1 h2
    omega
theorem lnLt_trans2 (a b c : Ln) (h1 : lnLt a b = true) (h2 : lnLt b c = true) : lnLt a c = true := by
  obtain ⟨x, y, z⟩ := a
  obtain ⟨x', y', z'⟩ := b
  obtain ⟨x'', y'', z''⟩ := c
  unfold lnLt at h1 h2 ⊢
  simp only at h1 h2 ⊢
  by_cases e1 : x = x'
  · subst e1
    rw [if_pos rfl] at h1
    by_cases e2 : x = x''
    · subst e2
      rw [if_pos rfl] at h2 ⊢
      by_cases f1 : y = y'
      · subst f1
        rw [if_pos rfl] at h1
        by_cases f2 : y = y''
        · subst f2
          rw [if_pos rfl] at h2 ⊢
          exact lexI_trans _ _ _ h1 h2
        · rw [if_neg f2] at h2 ⊢
          exact h2
      · rw [if_neg f1] at h1
        simp only [decide_eq_true_eq] at h1
        by_cases f2 : y' = y''
        · subst f2
          rw [if_neg f1]
          exact decide_eq_true h1
        · rw [if_neg f2] at h2
          simp only [decide_eq_true_eq] at h2
          rw [if_neg (by omega)]
          exact decide_eq_true (by omega)
    · rw [if_neg e2] at h2 ⊢
      exact h2
  · rw [if_neg e1] at h1
    simp only [decide_eq_true_eq] at h1
    by_cases e2 : x' = x''
    · subst e2
      rw [if_neg e1]
      exact decide_eq_true h1
    · rw [if_neg e2] at h2
      simp only [decide_eq_true_eq] at h2
      rw [if_neg (by omega)]
      exact decide_eq_true (by omega)
theorem sortLn_up (ls : List Ln) : (sortLn ls).Pairwise fun a b => lnLt b a = false := by
  have := List.pairwise_mergeSort (le := fun a b : Ln => !lnLt b a) (fun a b c h1 h2 => by
    simp only [Bool.not_eq_true'] at h1 h2 ⊢
    cases h : lnLt c a with
    | false => rfl
    | true =>
      cases h3 : lnLt a b with
      | true => rw [lnLt_trans2 c a b h h3] at h2; cases h2
      | false =>
        have := lnLt_tri a b h3 h1
        subst this
        rw [h] at h2
        cases h2) (fun a b => by
    cases h : lnLt b a with
    | false => rfl
    | true => rw [lnLt_asymm _ _ h]; rfl) ls
  exact this.imp fun h => by simpa using h
def lix (sh : List Off) (l : Ln) : Nat := (linesL sh).idxOf l
theorem lix_lt {sh : List Off} {l : Ln} (h : l ∈ linesL sh) : lix sh l < (linesL sh).length := List.idxOf_lt_length_of_mem h
theorem lix_at {sh : List Off} {l : Ln} (h : l ∈ linesL sh) : (linesL sh)[lix sh l]? = some l := by
  rw [List.getElem?_eq_getElem (lix_lt h)]
  exact congrArg some (List.getElem_idxOf (lix_lt h))
theorem lix_le {sh : List Off} {a b : Ln} (ha : a ∈ linesL sh) (hb : b ∈ linesL sh) (h : lnLt b a = false) : lix sh a ≤ lix sh b := by
  by_cases hlt : lix sh b < lix sh a
  · have := List.pairwise_iff_getElem.mp (linesL_strict sh) (lix sh b) (lix sh a) (lix_lt hb) (lix_lt ha) hlt
    have e1 : (linesL sh)[lix sh b]'(lix_lt hb) = b := List.getElem_idxOf (lix_lt hb)
    have e2 : (linesL sh)[lix sh a]'(lix_lt ha) = a := List.getElem_idxOf (lix_lt ha)
    rw [e1, e2, h] at this
    cases this
  · omega
theorem srt_intsv (xs : List Int) (h : xs.Pairwise (· ≤ ·)) : srtO [.v (.list (xs.map .int))] = some (.l (xs.map oi)) := by
  have e0 : (xs.map PyData.int).map O.v = xs.map oi := by rw [List.map_map]; rfl
  have e1 : (xs.map oi).zip (xs.map PyData.int) = xs.map fun r => (oi r, PyData.int r) := by
    clear h e0
    induction xs with
    | nil => rfl
    | cons r rows ih => simp only [List.map_cons, List.zip_cons_cons, ih]
  have e2 : ((xs.map fun r => (oi r, PyData.int r)).mergeSort (PySem.W.dataLe false (·.2))).map (·.1) = xs.map oi := by
    rw [List.mergeSort_of_pairwise, List.map_map]
    · rfl
    · rw [List.pairwise_map]
      refine h.imp fun {a b} hab => ?_
      rw [PySem.W.dataLe_eq]
      simp only [PySem.W.dataLt_int, Bool.false_eq_true, if_false]
      simp
      omega
  have hal : allAlikeB (xs.map PyData.int) = true := by
    unfold allAlikeB
    rw [List.all_eq_true]
    intro d hd
    rw [List.all_eq_true]
    intro d' hd'
    obtain ⟨a, _, rfl⟩ := List.mem_map.mp hd
    obtain ⟨b, _, rfl⟩ := List.mem_map.mp hd'
    simp [PySem.W.alike]
  have hso : sortableB (xs.map PyData.int) = true := by
    unfold sortableB
    rw [Bool.or_eq_true]
    right
    rw [List.all_eq_true]
    intro d hd
    obtain ⟨a, _, rfl⟩ := List.mem_map.mp hd
    rfl
  have hdp : (xs.map PyData.int).all (fun d => decide (d.depth ≤ 60)) = true := by
    rw [List.all_eq_true]
    intro d hd
    obtain ⟨a, _, rfl⟩ := List.mem_map.mp hd
    simp
  show (match O.toDs ((xs.map PyData.int).map O.v) with | some ds => if allAlikeB ds && sortableB ds && ds.all (fun d => decide (d.depth ≤ 60)) then some (O.l (((((xs.map PyData.int).map O.v).zip ds).mergeSort (PySem.W.dataLe false (fun x : O × PyData => x.2))).map (fun x : O × PyData => x.1))) else none | none => none) = _
  have tD : O.toDs (xs.map oi) = some (xs.map PyData.int) := toDs_map (fun q => by simp) xs
  rw [e0, tD]
  simp only [hal, hso, hdp, Bool.and_self, if_true]
  rw [e1, e2]
end Dn
namespace Dn
open PySem L2
def txtL (l : Ln) : PyData := .str (PyData.shown (lineD l))
theorem line_sm {l : Ln} (h : LnS l) (hl : l.2.2.length ≤ 1000) : Sm 200000 2 (lineD l) := by
  have s1 : Sm 60 0 (.int l.1) := sm_int (by have := h.1; omega)
  have s2 : Sm 60 0 (.int l.2.1) := sm_int (by have := h.2.1; omega)
  have s3 : Sm (1000 * 61) 1 (rowD l.2.2) := sm_row (n := 1000) (B := 0) hl (fun x hx => by have := h.2.2 x hx; omega)
  exact (sm_tuple (W := 61000) (k := 1) (n := 3) (fun d hd => by
    simp only [List.mem_cons, List.not_mem_nil, or_false] at hd
    rcases hd with rfl | rfl | rfl
    · exact s1.mono (by decide) (by decide)
    · exact s2.mono (by decide) (by decide)
    · exact s3) (by simp)).mono (by decide) (by decide)
theorem str_line {l : Ln} (h : LnS l) (hl : l.2.2.length ≤ 1000) : fStrD [lineD l] = some (txtL l) := fStrD_t (sm_fit (line_sm h hl) (by decide) (by decide))
theorem txt_nb {l : Ln} (h : LnS l) (hl : l.2.2.length ≤ 1000) : nb (txtL l) 3 = true := by
  unfold txtL
  rw [nb_str]
  exact (line_sm h hl).txt
theorem txt_inj {l l' : Ln} (h : LnS l) (h' : LnS l') (e : txtL l = txtL l') : l = l' := line_inj h h' (PyData.str.inj e)
end Dn
namespace Dn
open PySem L2
structure Pur13 (n : Nat) (sh : List Off) (c : List Int) (q : Int) (ls : List Ln) : Prop where
  mem : ∀ l ∈ ls, l ∈ linesL sh
  up : ls.Pairwise fun a b => lnLt b a = false
  cov : covB (sumW n (ls.map (wareOf sh))) c = true
  cost : costW (ls.map (wareOf sh)) = q
  few : ls.length ≤ 36
  pr : 0 ≤ q ∧ q ≤ 10000000000000000
  z : c.sum = 0 → ls = [] ∧ q = 0
theorem lr13_loop (n : Nat) (hn : n ≤ 4) (sh : List Off) (hg : Good n sh) (hs : sh.length ≤ 10) (x0 x1 x2 x3 x5 x9 : Sl) : ∀ (ls : List Ln) (acc : List Int), acc.length = n → (∀ l ∈ ls, l ∈ linesL sh) →
    forL (.n 12) b__law_right_1657_1 (ls.map fun l => O.v (.int (lix sh l : Int))) [x0, x1, x2, x3, .own (.v (.list ((waresL sh).map wareD))), x5, .no, .no, .no, x9, .own (.v (rowD acc)), .no, .no]
      = some (.nx [x0, x1, x2, x3, .own (.v (.list ((waresL sh).map wareD))), x5, .no, .no, .no, x9, .own (.v (rowD ((ls.map (wareOf sh)).foldl (fun f g => sumL f g.2.1) acc))), .no, .no])
  | [], acc, _, _ => rfl
  | l :: ls, acc, ha, hl => by
    have hm := hl l (List.mem_cons_self ..)
    have hlk := linesL_ok hs hm
    have hcl := lcont_len hg hlk
    have hsum := lsum_ok acc (lcont sh l) (by omega) (by omega)
    have hsl : (sumL acc (lcont sh l)).length = n := by rw [sumL_len, ha, hcl, Nat.min_self]
    have ih := lr13_loop n hn sh hg hs x0 x1 x2 x3 x5 x9 ls (sumL acc (lcont sh l)) hsl fun x hx => hl x (List.mem_cons_of_mem _ hx)
    have hat : ixO [.v (.list ((waresL sh).map wareD)), .v (.int (lix sh l : Int))] = some (.tuple [lineD l, .list ((lcont sh l).map .int), .int (lprice sh l)]) := by
      show atI ((waresL sh).map wareD) (lix sh l : Int) = _
      rw [atI_natE, List.getElem?_map]
      unfold waresL
      rw [List.getElem?_map, lix_at hm]
      rfl
    generalize (waresL sh).map wareD = W at *
    have ht : b__law_right_1657_1 [x0, x1, x2, x3, .own (.v (.list W)), x5, .no, .no, .no, x9, .own (.v (rowD acc)), .no, .own (.v (.int (lix sh l : Int)))]
        = some (.nx [x0, x1, x2, x3, .own (.v (.list W)), x5, .no, .no, .no, x9, .own (.v (rowD (sumL acc (lcont sh l)))), .no, .no]) := by
      simp [b__law_right_1657_1, rowD, hat, hsum]
    rw [List.map_cons, List.map_cons, List.foldl_cons]
    have hA : asg (.n 12) (.v (.int (lix sh l : Int))) [x0, x1, x2, x3, .own (.v (.list W)), x5, .no, .no, .no, x9, .own (.v (rowD acc)), .no, .no] = some [x0, x1, x2, x3, .own (.v (.list W)), x5, .no, .no, .no, x9, .own (.v (rowD acc)), .no, .own (.v (.int (lix sh l : Int)))] := by simp
    simp only [forL, hA, ht]
    exact ih
theorem lright13_ok (n : Nat) (hn : n ≤ 4) (sh : List Off) (hg : Good n sh) (hs : sh.length ≤ 10) (c : List Int) (hc : Want n c) (q : Int) (ls : List Ln) (h : Pur13 n sh c q ls) :
    sem__law_right_1657 [.v (shopD sh), .v (rowD c), .v (.tuple [.int q, .list (ls.map lineD)]), .v (.int q)] = some (.v (.bool true), []) := by
  have hW := lwares_ok n hn sh hg hs
  have hWl := linesL_len sh hs
  obtain ⟨W, hWe⟩ : ∃ W, (waresL sh).map wareD = W := ⟨_, rfl⟩
  have hS : ∀ l ∈ linesL sh, LnS l ∧ l.2.2.length ≤ 1000 := fun l hl => ⟨lines_S hs hl, (linesL_ok hs hl).few⟩
  have hWD : O.toDs ((waresL sh).map fun w => O.v (wareD w)) = some W := by rw [← hWe]; exact toDs_map (fun q => by simp) _
  -- the texts
  have hk1 : ∀ x0 x1 x2 x3 : Sl, lcL (.tp [.n 6, .n 7, .n 8]) mYes ce__law_right_1657_1 [6, 7, 8] (W.map O.v) [x0, x1, x2, x3, .own (.v (.list W)), .no, .no, .no, .no, .no, .no, .no, .no] = some ((linesL sh).map fun l => O.v (txtL l), [x0, x1, x2, x3, .own (.v (.list W)), .no, .no, .no, .no, .no, .no, .no, .no]) := fun x0 x1 x2 x3 => by
    have e1 : W.map O.v = (linesL sh).map fun l => O.v (wareD (wareOf sh l)) := by rw [← hWe]; unfold waresL; rw [List.map_map, List.map_map]; rfl
    rw [e1]
    refine lc_map (enc := fun l => O.v (wareD (wareOf sh l))) (f := fun l => O.v (txtL l)) (linesL sh) fun l hl => ?_
    have hst := str_line (hS l hl).1 (hS l hl).2
    refine ⟨[x0, x1, x2, x3, .own (.v (.list W)), .no, .own (.v (lineD l)), .own (.v (rowD (lcont sh l))), .own (.v (.int (lprice sh l))), .no, .no, .no, .no], _, [x0, x1, x2, x3, .own (.v (.list W)), .no, .own (.v (lineD l)), .own (.v (rowD (lcont sh l))), .own (.v (.int (lprice sh l))), .no, .no, .no, .no], ?_, rfl, ?_, ?_⟩
    · simp [wareD, wareOf]
    · simp [ce__law_right_1657_1, hst]
    · simp
  obtain ⟨Kn, hKn⟩ : ∃ Kn, (linesL sh).map txtL = Kn := ⟨_, rfl⟩
  have hKD : O.toDs ((linesL sh).map fun l => O.v (txtL l)) = some Kn := by rw [← hKn]; exact toDs_map (fun q => by simp) _
  -- the places
  have hix : ∀ l ∈ ls, fIndex [.list Kn, txtL l] = some (.int (lix sh l : Int)) ∧ fIn [txtL l, .list Kn] = some (.bool true) := fun l hl => by
    have := fIndex_gen txtL (fun a ha => txt_nb (hS a ha).1 (hS a ha).2) (fun a ha b hb e => txt_inj (hS a ha).1 (hS b hb).1 e) (linesL_nodup sh) (lix_at (h.mem l hl))
    rw [hKn] at this
    exact ⟨this.1, this.2.2⟩
  have hk2 : ∀ x0 x1 x2 x3 x4 : Sl, lcL (.n 6) ct__law_right_1657_1 ce__law_right_1657_2 [6] (ls.map fun l => O.v (lineD l)) [x0, x1, x2, x3, x4, .own (.v (.list Kn)), .no, .no, .no, .no, .no, .no, .no] = some (ls.map fun l => O.v (.int (lix sh l : Int)), [x0, x1, x2, x3, x4, .own (.v (.list Kn)), .no, .no, .no, .no, .no, .no, .no]) := fun x0 x1 x2 x3 x4 => by
    have := lc_filter1 (i := 6) (mt := ct__law_right_1657_1) (me := ce__law_right_1657_2) (enc := fun l => O.v (lineD l)) (f := fun l => O.v (.int (lix sh l : Int))) (p := fun _ => true) (e := [x0, x1, x2, x3, x4, .own (.v (.list Kn)), .no, .no, .no, .no, .no, .no, .no]) rfl ls fun l hl e' g1 g2 => ?_
    · rw [this, List.filter_eq_self.mpr (fun _ _ => rfl)]
    · have hm := h.mem l hl
      have hst := str_line (hS l hm).1 (hS l hm).2
      obtain ⟨i1, i2⟩ := hix l hl
      have g5 : e'[5]? = some (.own (.v (.list Kn))) := by rw [g2 5 (by decide)]; rfl
      generalize lineD l = D at *
      generalize txtL l = T at *
      refine ⟨?_, fun _ => ?_⟩
      · simp [ct__law_right_1657_1, g1, g5, hst, i2]
      · simp [ce__law_right_1657_2, g1, g5, hst, i1]
  obtain ⟨At, hAt⟩ : ∃ At, ls.map (fun l => ((lix sh l : Nat) : Int)) = At := ⟨_, rfl⟩
  have hAl : At.length = ls.length := by rw [← hAt, List.length_map]
  have hAD : O.toDs (ls.map fun l => O.v (.int (lix sh l : Int))) = some (At.map .int) := by
    rw [← hAt, List.map_map]
    exact toDs_map (fun q => by simp) _
  have hAup : At.Pairwise (· ≤ ·) := by
    rw [← hAt, List.pairwise_map]
    refine (h.up.imp_of_mem fun {a b} ha hb hab => ?_)
    have := lix_le (h.mem a ha) (h.mem b hb) hab
    omega
  have hsrt := srt_intsv At hAup
  have hne1 : fNe [.int (ls.length : Int), .int (ls.length : Int)] = some (.bool false) := by simp
  have hne2 := fNe_ints At At
  simp at hne2
  have hcn : NN c := fun x hx => (hc.nine x hx).1
  have hfew := h.few
  have hk3 : ∀ e : En, e[11]? = some .no → lcL (.n 11) mYes ce__law_right_1657_3 [11] (c.map fun x => O.v (.int x)) e = some ((reps n 0).map oi, e) := fun e h11 => by
    have := lc_map1 (i := 11) (me := ce__law_right_1657_3) (enc := fun x : Int => O.v (.int x)) (f := fun _ => oi 0) h11 c fun x hx e' g1 g2 => by simp [ce__law_right_1657_3]
    rw [this, ← hc.len, ← reps_eq c 0, List.map_map]
    rfl
  have hAv : (ls.map fun l => O.v (.int (lix sh l : Int))) = At.map fun x => O.v (.int x) := by rw [← hAt, List.map_map]; rfl
  have hfor := fun x0 x1 x2 x3 x5 x9 => lr13_loop n hn sh hg hs x0 x1 x2 x3 x5 x9 ls (reps n 0) (by simp) fun l hl => (h.mem l hl)
  rw [hWe] at hfor
  obtain ⟨Sm', hSm⟩ : ∃ S, sumW n (ls.map (wareOf sh)) = S := ⟨_, rfl⟩
  have hSf : (ls.map (wareOf sh)).foldl (fun f g => sumL f g.2.1) (reps n 0) = Sm' := hSm
  have hcov := h.cov
  rw [hSm] at hcov
  have hSl : Sm'.length = n := by
    rw [← hSm]
    refine sumW_len fun g hg' => ?_
    obtain ⟨l, hl, rfl⟩ := List.mem_map.mp hg'
    exact lcont_len hg (linesL_ok hs (h.mem l hl))
  simp only [hAv, hSf] at hfor
  have hk4 : ∀ x0 x2 x3 x4 x5 x9 : Sl, lcL (.n 11) ct__law_right_1657_2 ce__law_right_1657_4 [11] ((List.range c.length).map fun (k : Nat) => O.v (.int (k : Int))) [x0, .own (.v (rowD c)), x2, x3, x4, x5, .no, .no, .no, x9, .own (.v (rowD Sm')), .no, .no] = some ([], [x0, .own (.v (rowD c)), x2, x3, x4, x5, .no, .no, .no, x9, .own (.v (rowD Sm')), .no, .no]) := fun x0 x2 x3 x4 x5 x9 => by
    have := lc_filter1 (i := 11) (mt := ct__law_right_1657_2) (me := ce__law_right_1657_4) (enc := fun (k : Nat) => O.v (.int (k : Int))) (f := fun (k : Nat) => O.v (.int (k : Int))) (p := fun _ => false) (e := [x0, .own (.v (rowD c)), x2, x3, x4, x5, .no, .no, .no, x9, .own (.v (rowD Sm')), .no, .no]) rfl (List.range c.length) fun k hk e' g1 g2 => ?_
    · rw [this, List.filter_eq_nil_iff.mpr (fun _ _ => by simp)]
      rfl
    · have hkl := List.mem_range.mp hk
      have hkS : k < Sm'.length := by have := hc.len; omega
      have g3 : e'[1]? = some (.own (.v (.list (c.map .int)))) := by rw [g2 1 (by decide)]; rfl
      have g10 : e'[10]? = some (.own (.v (.list (Sm'.map .int)))) := by rw [g2 10 (by decide)]; rfl
      have a1 : ixO [.v (.list (c.map .int)), .v (.int (k : Int))] = some (.int c[k]) := by
        show atI (c.map PyData.int) (k : Int) = _
        rw [atI_natE, List.getElem?_map, List.getElem?_eq_getElem hkl]; rfl
      have a2 : ixO [.v (.list (Sm'.map .int)), .v (.int (k : Int))] = some (.int Sm'[k]) := by
        show atI (Sm'.map PyData.int) (k : Int) = _
        rw [atI_natE, List.getElem?_map, List.getElem?_eq_getElem hkS]; rfl
      have hle : c[k] ≤ Sm'[k] := by
        have := (covB_iff Sm' c).mp hcov (c[k], Sm'[k]) (by
          rw [List.mem_iff_getElem]
          exact ⟨k, by rw [List.length_zip]; omega, by rw [List.getElem_zip]⟩)
        exact this
      have hlt : ¬ Sm'[k] < c[k] := by omega
      generalize c[k] = y at *
      generalize Sm'[k] = z at *
      refine ⟨?_, fun z => by cases z⟩
      simp [ct__law_right_1657_2, g1, g3, g10, a1, a2, hlt]
  have hk5 : ∀ x0 x1 x2 x3 x5 x9 x10 : Sl, lcL (.n 12) mYes ce__law_right_1657_5 [12] (At.map fun x => O.v (.int x)) [x0, x1, x2, x3, .own (.v (.list W)), x5, .no, .no, .no, x9, x10, .no, .no] = some ((ls.map (lprice sh)).map oi, [x0, x1, x2, x3, .own (.v (.list W)), x5, .no, .no, .no, x9, x10, .no, .no]) := fun x0 x1 x2 x3 x5 x9 x10 => by
    rw [← hAv, List.map_map]
    refine lc_map1 (i := 12) (me := ce__law_right_1657_5) (enc := fun l => O.v (.int (lix sh l : Int))) (f := oi ∘ lprice sh) rfl ls fun l hl e' g1 g2 => ?_
    have g4 : e'[4]? = some (.own (.v (.list W))) := by rw [g2 4 (by decide)]; rfl
    have hat : ixO [.v (.list W), .v (.int (lix sh l : Int))] = some (.tuple [lineD l, .list ((lcont sh l).map .int), .int (lprice sh l)]) := by
      rw [← hWe]
      show atI ((waresL sh).map wareD) (lix sh l : Int) = _
      rw [atI_natE, List.getElem?_map]
      unfold waresL
      rw [List.getElem?_map, lix_at (h.mem l hl)]
      rfl
    simp [ce__law_right_1657_5, g1, g4, hat]
  have hcost : (ls.map (lprice sh)).sum = q := by
    have := h.cost
    unfold costW at this
    rw [List.map_map] at this
    exact this
  generalize ls.map (lprice sh) = Ps at *
  have hW2 : W.length ≤ 16777216 := by rw [← hWe, List.length_map]; unfold waresL; rw [List.length_map]; omega
  have hb1 : ls.length ≤ 16777216 := by omega
  have hb2 : c.length ≤ 16777216 := by rw [hc.len]; omega
  have hb3 : At.length ≤ 16777216 := by omega
  have hb4 : (c.length : Int) < 4611686018427387904 := by omega
  have he0 : fNe [.list [], .list []] = some (.bool false) := fNe_same 1 (by decide) (by simp)
  have hlv : (ls.map lineD).map O.v = ls.map fun l => O.v (lineD l) := by rw [List.map_map]; rfl
  obtain ⟨T, hT, hTn⟩ : ∃ T : Str, fStrD [.int q] = some (.str T) ∧ fNe [.str T, .str T] = some (.bool false) := by
    refine ⟨_, fStrD_i (by
      have : q.natAbs < 10000000000000001 := by have := h.pr; omega
      exact Nat.lt_of_lt_of_le this (by decide)), fNe_same 1 (by decide) (by rw [nb_str]; exact strOk_of _)⟩
  have hcs : fSum [.list (c.map .int)] = some (.int c.sum) := by simp
  have hnn : 0 ≤ c.sum := by
    have key : ∀ l : List Int, (∀ x ∈ l, 0 ≤ x) → 0 ≤ l.sum := by
      intro l
      induction l with
      | nil => intro _; exact Int.le_refl _
      | cons a l ih =>
        intro hh
        have := ih fun x hx => hh x (List.mem_cons_of_mem _ hx)
        have := hh a (List.mem_cons_self ..)
        rw [List.sum_cons]
        omega
    exact key c hcn
  have hll : ((ls.map lineD).length : Int) = (ls.length : Int) := by rw [List.length_map]
  have hlb : (ls.map lineD).length ≤ 16777216 := by rw [List.length_map]; exact hb1
  by_cases h0 : c.sum = 0
  · obtain ⟨rfl, rfl⟩ := h.z h0
    have he1 : fEq [.tuple [.int 0, .list []], .tuple [.int 0, .list []]] = some (.bool true) := fEq_same 3 (by decide) (by simp)
    simp only [List.map_nil] at hAt
    subst hAt
    simp only [List.map_nil, List.length_nil] at hk2 hAD hsrt hk5 hfor hcost hT
    simp [un__law_right_1657, m__law_right_1657, fIsi, tyN, isiB, hT, hTn, hW, hWD, hk1, hKD, hk2, hAD, hsrt, hne2, hk3, hfor, hk4, hk5, hcost, hW2, hb2, hb4, he0, h0, he1]
  · have hp : 0 < c.sum := by omega
    generalize hLD : ls.map lineD = LD at *
    simp [un__law_right_1657, m__law_right_1657, fIsi, tyN, isiB, hT, hTn, hW, hWD, hk1, hKD, hlv, hk2, hAD, hb1, hb2, hb3, hAl, hsrt, hne2, hk3, hfor, hk4, hk5, hcost, hW2, hb4, he0, hp, hll, hlb]
end Dn
namespace Dn
open PySem L2
theorem sumL_rc : ∀ (z a b : List Int), sumL (sumL z a) b = sumL (sumL z b) a
  | [], a, b => by simp [sumL]
  | x :: z, [], [] => by simp [sumL]
  | x :: z, [], b :: bs => by simp [sumL]
  | x :: z, a :: as, [] => by simp [sumL]
  | x :: z, a :: as, b :: bs => by
    have ih := sumL_rc z as bs
    unfold sumL at *
    simp only [List.zip_cons_cons, List.map_cons] at *
    rw [ih]
    congr 1
    omega
theorem sum_perm {a b : List Int} (h : a.Perm b) : a.sum = b.sum := by
  induction h with
  | nil => rfl
  | cons x _ ih => simp [ih]
  | swap x y l => simp; omega
  | trans _ _ h1 h2 => rw [h1, h2]
end Dn
namespace K13
open PySem L2 Dn
def topS (i : Nat) : Stmt := PySem.Challenge.pw_packwants_k13_least_prices.main.body.getD i (.Pass ⟨0, 0, 0, 0⟩)
structure Bl (mg : Str → Option Value) : Prop where
  z_all : mg "all" = none
  z_enumerate : mg "enumerate" = none
  z_int : mg "int" = none
  z_isinstance : mg "isinstance" = none
  z_len : mg "len" = none
  z_list : mg "list" = none
  z_max : mg "max" = none
  z_min : mg "min" = none
  z_range : mg "range" = none
  z_sorted : mg "sorted" = none
  z_str : mg "str" = none
  z_sum : mg "sum" = none
  z_tuple : mg "tuple" = none
  z_zip : mg "zip" = none
  g_MOST : ∃ t, mg "MOST" = some (.int 12 t)
  g_MOST_TIERS : ∃ t, mg "MOST_TIERS" = some (.int 4 t)
abbrev N__law_mix : List Str := ["_law_cell", "_law_turn", "_law_number"]
theorem sc__law_mix : FnScope N__law_mix ["_law_cell", "_law_turn"] (defScope (topS 25)) := ⟨rfl, rfl, rfl, by decide +kernel, rfl, by decide +kernel, by decide +kernel⟩
abbrev N__law_draws_bf2d : List Str := ["_law_script", "_law_turn", "_law_many", "_law_cells", "_law_lefts", "_law_cell", "_law_found", "_law_k", "_law_at", "_law_number"]
theorem sc__law_draws_bf2d : FnScope N__law_draws_bf2d ["_law_script", "_law_turn", "_law_many"] (defScope (topS 26)) := ⟨rfl, rfl, rfl, by decide +kernel, rfl, by decide +kernel, by decide +kernel⟩
abbrev N__law_pop : List Str := ["_law_draws_here"]
theorem sc__law_pop : FnScope N__law_pop ["_law_draws_here"] (defScope (topS 27)) := ⟨rfl, rfl, rfl, by decide +kernel, rfl, by decide +kernel, by decide +kernel⟩
abbrev N__law_cut : List Str := ["_law_row", "_law_every", "_law_one"]
theorem sc__law_cut : FnScope N__law_cut ["_law_row"] (defScope (topS 28)) := ⟨rfl, rfl, rfl, by decide +kernel, rfl, by decide +kernel, by decide +kernel⟩
abbrev N__law_content_e374 : List Str := ["_law_draws_here", "_law_many", "_law_most", "_law_number", "_law_content_here", "_law_thing"]
theorem sc__law_content_e374 : FnScope N__law_content_e374 ["_law_draws_here", "_law_many", "_law_most"] (defScope (topS 29)) := ⟨rfl, rfl, rfl, by decide +kernel, rfl, by decide +kernel, by decide +kernel⟩
abbrev N__law_price_59e4 : List Str := ["_law_draws_here", "_law_number"]
theorem sc__law_price_59e4 : FnScope N__law_price_59e4 ["_law_draws_here"] (defScope (topS 30)) := ⟨rfl, rfl, rfl, by decide +kernel, rfl, by decide +kernel, by decide +kernel⟩
abbrev N__law_tiers_fe28 : List Str := ["_law_draws_here", "_law_tiers_here", "_law_at", "_law_k"]
theorem sc__law_tiers_fe28 : FnScope N__law_tiers_fe28 ["_law_draws_here"] (defScope (topS 31)) := ⟨rfl, rfl, rfl, by decide +kernel, rfl, by decide +kernel, by decide +kernel⟩
abbrev N__law_shop_7fee : List Str := ["_law_draws_here", "_law_many", "_law_most", "_law_shop_here", "_law_k", "_law_number", "_law_packs", "_law_kind", "_law_content_here", "_law_place", "_law_offer"]
theorem sc__law_shop_7fee : FnScope N__law_shop_7fee ["_law_draws_here", "_law_many", "_law_most"] (defScope (topS 32)) := ⟨rfl, rfl, rfl, by decide +kernel, rfl, by decide +kernel, by decide +kernel⟩
abbrev N__law_want_c9ae : List Str := ["_law_draws_here", "_law_many", "_law_number", "_law_want_here", "_law_thing"]
theorem sc__law_want_c9ae : FnScope N__law_want_c9ae ["_law_draws_here", "_law_many"] (defScope (topS 33)) := ⟨rfl, rfl, rfl, by decide +kernel, rfl, by decide +kernel, by decide +kernel⟩
abbrev N__law_case_2562 : List Str := ["_law_script", "_law_many_draws", "_law_draws_here", "_law_many", "_law_shop_here"]
theorem sc__law_case_2562 : FnScope N__law_case_2562 ["_law_script", "_law_many_draws"] (defScope (topS 40)) := ⟨rfl, rfl, rfl, by decide +kernel, rfl, by decide +kernel, by decide +kernel⟩
abbrev N__law_groups : List Str := ["_law_places", "_law_found", "_law_place", "_law_one"]
theorem sc__law_groups : FnScope N__law_groups ["_law_places"] (defScope (topS 34)) := ⟨rfl, rfl, rfl, by decide +kernel, rfl, by decide +kernel, by decide +kernel⟩
abbrev N__law_sum : List Str := ["_law_one", "_law_other", "_law_k"]
theorem sc__law_sum : FnScope N__law_sum ["_law_one", "_law_other"] (defScope (topS 35)) := ⟨rfl, rfl, rfl, by decide +kernel, rfl, by decide +kernel, by decide +kernel⟩
abbrev N__law_lines_9070 : List Str := ["_law_shop_here", "_law_found", "_law_place", "_law_offer", "_law_own", "_law_adds", "_law_count", "_law_content_here", "_law_price_here", "_law_add", "_law_k", "_law_one", "_law_tier"]
theorem sc__law_lines_9070 : FnScope N__law_lines_9070 ["_law_shop_here"] (defScope (topS 36)) := ⟨rfl, rfl, rfl, by decide +kernel, rfl, by decide +kernel, by decide +kernel⟩
abbrev N__law_lesser : List Str := ["_law_want_here", "_law_found", "_law_number", "_law_wider", "_law_one", "_law_less"]
theorem sc__law_lesser : FnScope N__law_lesser ["_law_want_here"] (defScope (topS 37)) := ⟨rfl, rfl, rfl, by decide +kernel, rfl, by decide +kernel, by decide +kernel⟩
abbrev N__law_rest : List Str := ["_law_want_here", "_law_content_here", "_law_k"]
theorem sc__law_rest : FnScope N__law_rest ["_law_want_here", "_law_content_here"] (defScope (topS 38)) := ⟨rfl, rfl, rfl, by decide +kernel, rfl, by decide +kernel, by decide +kernel⟩
abbrev N__law_table : List Str := ["_law_shop_here", "_law_want_here", "_law_wares", "_law_found", "_law_less", "_law_prices", "_law_line", "_law_content_here", "_law_price_here", "_law_left"]
theorem sc__law_table : FnScope N__law_table ["_law_shop_here", "_law_want_here"] (defScope (topS 39)) := ⟨rfl, rfl, rfl, by decide +kernel, rfl, by decide +kernel, by decide +kernel⟩
abbrev N_tiers_right : List Str := ["tiers", "starts", "start", "price", "k"]
theorem sc_tiers_right : FnScope N_tiers_right ["tiers"] (defScope (topS 6)) := ⟨rfl, rfl, rfl, by decide +kernel, rfl, by decide +kernel, by decide +kernel⟩
abbrev N_look : List Str := ["shop", "place", "offer", "good"]
theorem sc_look : FnScope N_look ["shop"] (defScope (topS 7)) := ⟨rfl, rfl, rfl, by decide +kernel, rfl, by decide +kernel, by decide +kernel⟩
abbrev N_choices : List Str := ["places", "found", "place", "row"]
theorem sc_choices : FnScope N_choices ["places"] (defScope (topS 9)) := ⟨rfl, rfl, rfl, by decide +kernel, rfl, by decide +kernel, by decide +kernel⟩
abbrev N_adds_of : List Str := ["shop", "place", "k", "offer"]
theorem sc_adds_of : FnScope N_adds_of ["shop", "place"] (defScope (topS 8)) := ⟨rfl, rfl, rfl, by decide +kernel, rfl, by decide +kernel, by decide +kernel⟩
abbrev N_lines : List Str := ["shop", "found", "place", "offer", "adds", "count"]
theorem sc_lines : FnScope N_lines ["shop"] (defScope (topS 10)) := ⟨rfl, rfl, rfl, by decide +kernel, rfl, by decide +kernel, by decide +kernel⟩
abbrev N_tier_price : List Str := ["tiers", "count", "start", "price"]
theorem sc_tier_price : FnScope N_tier_price ["tiers", "count"] (defScope (topS 13)) := ⟨rfl, rfl, rfl, by decide +kernel, rfl, by decide +kernel, by decide +kernel⟩
abbrev N_line_price : List Str := ["shop", "line", "place", "count", "adds", "add"]
theorem sc_line_price : FnScope N_line_price ["shop", "line"] (defScope (topS 14)) := ⟨rfl, rfl, rfl, by decide +kernel, rfl, by decide +kernel, by decide +kernel⟩
abbrev N_put_together : List Str := ["one", "other", "a", "b"]
theorem sc_put_together : FnScope N_put_together ["one", "other"] (defScope (topS 11)) := ⟨rfl, rfl, rfl, by decide +kernel, rfl, by decide +kernel, by decide +kernel⟩
abbrev N_line_content : List Str := ["shop", "line", "place", "count", "adds", "found", "number", "add"]
theorem sc_line_content : FnScope N_line_content ["shop", "line"] (defScope (topS 12)) := ⟨rfl, rfl, rfl, by decide +kernel, rfl, by decide +kernel, by decide +kernel⟩
abbrev N_goods : List Str := ["shop", "line"]
theorem sc_goods : FnScope N_goods ["shop"] (defScope (topS 19)) := ⟨rfl, rfl, rfl, by decide +kernel, rfl, by decide +kernel, by decide +kernel⟩
abbrev N_lesser : List Str := ["want", "found", "need", "longer", "row", "number"]
theorem sc_lesser : FnScope N_lesser ["want"] (defScope (topS 17)) := ⟨rfl, rfl, rfl, by decide +kernel, rfl, by decide +kernel, by decide +kernel⟩
abbrev N_rest : List Str := ["want", "content", "need", "have"]
theorem sc_rest : FnScope N_rest ["want", "content"] (defScope (topS 16)) := ⟨rfl, rfl, rfl, by decide +kernel, rfl, by decide +kernel, by decide +kernel⟩
abbrev N_best_of : List Str := ["all_goods", "found", "want", "best", "line", "content", "price", "less", "number"]
theorem sc_best_of : FnScope N_best_of ["all_goods", "found", "want"] (defScope (topS 20)) := ⟨rfl, rfl, rfl, by decide +kernel, rfl, by decide +kernel, by decide +kernel⟩
abbrev N_reckoned : List Str := ["shop", "want", "all_goods", "found", "less"]
theorem sc_reckoned : FnScope N_reckoned ["shop", "want"] (defScope (topS 21)) := ⟨rfl, rfl, rfl, by decide +kernel, rfl, by decide +kernel, by decide +kernel⟩
abbrev N_own_line : List Str := ["line"]
theorem sc_own_line : FnScope N_own_line ["line"] (defScope (topS 22)) := ⟨rfl, rfl, rfl, by decide +kernel, rfl, by decide +kernel, by decide +kernel⟩
abbrev N_least : List Str := ["shop", "want", "found", "told", "price", "purchase", "left"]
theorem sc_least : FnScope N_least ["shop", "want"] (defScope (topS 23)) := ⟨rfl, rfl, rfl, by decide +kernel, rfl, by decide +kernel, by decide +kernel⟩
abbrev N__law_right_1657 : List Str := ["_law_shop_here", "_law_want_here", "_law_found", "_law_number", "_law_wares", "_law_known", "_law_line", "_law_content_here", "_law_price_here", "_law_at", "_law_have", "_law_thing", "_law_k"]
theorem sc__law_right_1657 : FnScope N__law_right_1657 ["_law_shop_here", "_law_want_here", "_law_found", "_law_number"] (defScope (topS 41)) := ⟨rfl, rfl, rfl, by decide +kernel, rfl, by decide +kernel, by decide +kernel⟩
abbrev N__law_behind_a235 : List Str := ["_law_fewer", "_law_shop_here", "_law_want_here", "_law_offer", "_law_number", "_law_found"]
theorem sc__law_behind_a235 : FnScope N__law_behind_a235 ["_law_fewer", "_law_shop_here", "_law_want_here"] (defScope (topS 42)) := ⟨rfl, rfl, rfl, by decide +kernel, rfl, by decide +kernel, by decide +kernel⟩
abbrev N_law_k13 : List Str := ["_law_script", "_law_many", "_law_shop_here", "_law_want_here", "_law_draws_here", "_law_kept", "_law_number", "_law_found", "_law_again", "_law_line", "_law_k", "_law_early"]
theorem sc_law_k13 : FnScope N_law_k13 ["_law_script"] (defScope (topS 43)) := ⟨rfl, rfl, rfl, by decide +kernel, rfl, by decide +kernel, by decide +kernel⟩
section
variable {P : Program} {w : World} {K : PySem.W.Frag} {mg : Str → Option Value} {base : Heap}
structure T__law_mix (P : Program) (w : World) (K : PySem.W.Frag) (mg : Str → Option Value) (base : Heap) : Prop extends Bl mg where
  tr_ : True
structure T__law_draws_bf2d (P : Program) (w : World) (K : PySem.W.Frag) (mg : Str → Option Value) (base : Heap) : Prop extends Bl mg where
  c__law_mix : Cal P w K mg base 1 "_law_mix" ["_law_cell", "_law_turn"] (spOf K (List.replicate 2 false) sem__law_mix)
structure T__law_pop (P : Program) (w : World) (K : PySem.W.Frag) (mg : Str → Option Value) (base : Heap) : Prop extends Bl mg where
  tr_ : True
structure T__law_cut (P : Program) (w : World) (K : PySem.W.Frag) (mg : Str → Option Value) (base : Heap) : Prop extends Bl mg where
  tr_ : True
structure T__law_content_e374 (P : Program) (w : World) (K : PySem.W.Frag) (mg : Str → Option Value) (base : Heap) : Prop extends Bl mg where
  c__law_pop : Cal P w K mg base 1 "_law_pop" ["_law_draws_here"] (spOf K [true] sem__law_pop)
  c__law_cut : Cal P w K mg base 1 "_law_cut" ["_law_row"] (spOf K (List.replicate 1 false) sem__law_cut)
structure T__law_price_59e4 (P : Program) (w : World) (K : PySem.W.Frag) (mg : Str → Option Value) (base : Heap) : Prop extends Bl mg where
  c__law_pop : Cal P w K mg base 1 "_law_pop" ["_law_draws_here"] (spOf K [true] sem__law_pop)
structure T__law_tiers_fe28 (P : Program) (w : World) (K : PySem.W.Frag) (mg : Str → Option Value) (base : Heap) : Prop extends Bl mg where
  c__law_pop : Cal P w K mg base 1 "_law_pop" ["_law_draws_here"] (spOf K [true] sem__law_pop)
  c__law_price : Cal P w K mg base 2 "_law_price" ["_law_draws_here"] (spOf K [true] sem__law_price_59e4)
structure T__law_shop_7fee (P : Program) (w : World) (K : PySem.W.Frag) (mg : Str → Option Value) (base : Heap) : Prop extends Bl mg where
  c__law_pop : Cal P w K mg base 1 "_law_pop" ["_law_draws_here"] (spOf K [true] sem__law_pop)
  c__law_content : Cal P w K mg base 2 "_law_content" ["_law_draws_here", "_law_many", "_law_most"] (spOf K [true, false, false] sem__law_content_e374)
  c__law_tiers : Cal P w K mg base 3 "_law_tiers" ["_law_draws_here"] (spOf K [true] sem__law_tiers_fe28)
  c__law_price : Cal P w K mg base 2 "_law_price" ["_law_draws_here"] (spOf K [true] sem__law_price_59e4)
structure T__law_want_c9ae (P : Program) (w : World) (K : PySem.W.Frag) (mg : Str → Option Value) (base : Heap) : Prop extends Bl mg where
  c__law_pop : Cal P w K mg base 1 "_law_pop" ["_law_draws_here"] (spOf K [true] sem__law_pop)
  c__law_cut : Cal P w K mg base 1 "_law_cut" ["_law_row"] (spOf K (List.replicate 1 false) sem__law_cut)
structure T__law_case_2562 (P : Program) (w : World) (K : PySem.W.Frag) (mg : Str → Option Value) (base : Heap) : Prop extends Bl mg where
  c__law_draws : Cal P w K mg base 2 "_law_draws" ["_law_script", "_law_turn", "_law_many"] (spOf K (List.replicate 3 false) sem__law_draws_bf2d)
  c__law_pop : Cal P w K mg base 1 "_law_pop" ["_law_draws_here"] (spOf K [true] sem__law_pop)
  c__law_shop : Cal P w K mg base 4 "_law_shop" ["_law_draws_here", "_law_many", "_law_most"] (spOf K [true, false, false] sem__law_shop_7fee)
  c__law_want : Cal P w K mg base 2 "_law_want" ["_law_draws_here", "_law_many"] (spOf K [true, false] sem__law_want_c9ae)
structure T__law_groups (P : Program) (w : World) (K : PySem.W.Frag) (mg : Str → Option Value) (base : Heap) : Prop extends Bl mg where
  tr_ : True
structure T__law_sum (P : Program) (w : World) (K : PySem.W.Frag) (mg : Str → Option Value) (base : Heap) : Prop extends Bl mg where
  tr_ : True
structure T__law_lines_9070 (P : Program) (w : World) (K : PySem.W.Frag) (mg : Str → Option Value) (base : Heap) : Prop extends Bl mg where
  c__law_groups : Cal P w K mg base 1 "_law_groups" ["_law_places"] (spOf K (List.replicate 1 false) sem__law_groups)
  c__law_sum : Cal P w K mg base 1 "_law_sum" ["_law_one", "_law_other"] (spOf K (List.replicate 2 false) sem__law_sum)
structure T__law_lesser (P : Program) (w : World) (K : PySem.W.Frag) (mg : Str → Option Value) (base : Heap) : Prop extends Bl mg where
  tr_ : True
structure T__law_rest (P : Program) (w : World) (K : PySem.W.Frag) (mg : Str → Option Value) (base : Heap) : Prop extends Bl mg where
  tr_ : True
structure T__law_table (P : Program) (w : World) (K : PySem.W.Frag) (mg : Str → Option Value) (base : Heap) : Prop extends Bl mg where
  c__law_lines : Cal P w K mg base 2 "_law_lines" ["_law_shop_here"] (spOf K (List.replicate 1 false) sem__law_lines_9070)
  c__law_lesser : Cal P w K mg base 1 "_law_lesser" ["_law_want_here"] (spOf K (List.replicate 1 false) sem__law_lesser)
  c__law_rest : Cal P w K mg base 1 "_law_rest" ["_law_want_here", "_law_content_here"] (spOf K (List.replicate 2 false) sem__law_rest)
structure T_tiers_right (P : Program) (w : World) (K : PySem.W.Frag) (mg : Str → Option Value) (base : Heap) : Prop extends Bl mg where
  tr_ : True
structure T_look (P : Program) (w : World) (K : PySem.W.Frag) (mg : Str → Option Value) (base : Heap) : Prop extends Bl mg where
  c_tiers_right : Cal P w K mg base 1 "tiers_right" ["tiers"] (spOf K (List.replicate 1 false) sem_tiers_right)
structure T_choices (P : Program) (w : World) (K : PySem.W.Frag) (mg : Str → Option Value) (base : Heap) : Prop extends Bl mg where
  tr_ : True
structure T_adds_of (P : Program) (w : World) (K : PySem.W.Frag) (mg : Str → Option Value) (base : Heap) : Prop extends Bl mg where
  tr_ : True
structure T_lines (P : Program) (w : World) (K : PySem.W.Frag) (mg : Str → Option Value) (base : Heap) : Prop extends Bl mg where
  c_look : Cal P w K mg base 2 "look" ["shop"] (spOf K (List.replicate 1 false) sem_look)
  c_choices : Cal P w K mg base 1 "choices" ["places"] (spOf K (List.replicate 1 false) sem_choices)
  c_adds_of : Cal P w K mg base 1 "adds_of" ["shop", "place"] (spOf K (List.replicate 2 false) sem_adds_of)
structure T_tier_price (P : Program) (w : World) (K : PySem.W.Frag) (mg : Str → Option Value) (base : Heap) : Prop extends Bl mg where
  tr_ : True
structure T_line_price (P : Program) (w : World) (K : PySem.W.Frag) (mg : Str → Option Value) (base : Heap) : Prop extends Bl mg where
  c_look : Cal P w K mg base 2 "look" ["shop"] (spOf K (List.replicate 1 false) sem_look)
  c_tier_price : Cal P w K mg base 1 "tier_price" ["tiers", "count"] (spOf K (List.replicate 2 false) sem_tier_price)
structure T_put_together (P : Program) (w : World) (K : PySem.W.Frag) (mg : Str → Option Value) (base : Heap) : Prop extends Bl mg where
  tr_ : True
structure T_line_content (P : Program) (w : World) (K : PySem.W.Frag) (mg : Str → Option Value) (base : Heap) : Prop extends Bl mg where
  c_look : Cal P w K mg base 2 "look" ["shop"] (spOf K (List.replicate 1 false) sem_look)
  c_put_together : Cal P w K mg base 1 "put_together" ["one", "other"] (spOf K (List.replicate 2 false) sem_put_together)
structure T_goods (P : Program) (w : World) (K : PySem.W.Frag) (mg : Str → Option Value) (base : Heap) : Prop extends Bl mg where
  c_lines : Cal P w K mg base 3 "lines" ["shop"] (spOf K (List.replicate 1 false) sem_lines)
  c_line_price : Cal P w K mg base 3 "line_price" ["shop", "line"] (spOf K (List.replicate 2 false) sem_line_price)
  c_line_content : Cal P w K mg base 3 "line_content" ["shop", "line"] (spOf K (List.replicate 2 false) sem_line_content)
structure T_lesser (P : Program) (w : World) (K : PySem.W.Frag) (mg : Str → Option Value) (base : Heap) : Prop extends Bl mg where
  tr_ : True
structure T_rest (P : Program) (w : World) (K : PySem.W.Frag) (mg : Str → Option Value) (base : Heap) : Prop extends Bl mg where
  tr_ : True
structure T_best_of (P : Program) (w : World) (K : PySem.W.Frag) (mg : Str → Option Value) (base : Heap) : Prop extends Bl mg where
  c_rest : Cal P w K mg base 1 "rest" ["want", "content"] (spOf K (List.replicate 2 false) sem_rest)
structure T_reckoned (P : Program) (w : World) (K : PySem.W.Frag) (mg : Str → Option Value) (base : Heap) : Prop extends Bl mg where
  c_goods : Cal P w K mg base 4 "goods" ["shop"] (spOf K (List.replicate 1 false) sem_goods)
  c_lesser : Cal P w K mg base 1 "lesser" ["want"] (spOf K (List.replicate 1 false) sem_lesser)
  c_best_of : Cal P w K mg base 2 "best_of" ["all_goods", "found", "want"] (spOf K [false, true, false] sem_best_of)
structure T_own_line (P : Program) (w : World) (K : PySem.W.Frag) (mg : Str → Option Value) (base : Heap) : Prop extends Bl mg where
  tr_ : True
structure T_least (P : Program) (w : World) (K : PySem.W.Frag) (mg : Str → Option Value) (base : Heap) : Prop extends Bl mg where
  c_reckoned : Cal P w K mg base 5 "reckoned" ["shop", "want"] (spOf K (List.replicate 2 false) sem_reckoned)
  c_own_line : Cal P w K mg base 1 "own_line" ["line"] (spOf K (List.replicate 1 false) sem_own_line)
  c_rest : Cal P w K mg base 1 "rest" ["want", "content"] (spOf K (List.replicate 2 false) sem_rest)
  c_line_content : Cal P w K mg base 3 "line_content" ["shop", "line"] (spOf K (List.replicate 2 false) sem_line_content)
structure T__law_right_1657 (P : Program) (w : World) (K : PySem.W.Frag) (mg : Str → Option Value) (base : Heap) : Prop extends Bl mg where
  c__law_lines : Cal P w K mg base 2 "_law_lines" ["_law_shop_here"] (spOf K (List.replicate 1 false) sem__law_lines_9070)
  c__law_sum : Cal P w K mg base 1 "_law_sum" ["_law_one", "_law_other"] (spOf K (List.replicate 2 false) sem__law_sum)
structure T__law_behind_a235 (P : Program) (w : World) (K : PySem.W.Frag) (mg : Str → Option Value) (base : Heap) : Prop extends Bl mg where
  c__law_table : Cal P w K mg base 3 "_law_table" ["_law_shop_here", "_law_want_here"] (spOf K (List.replicate 2 false) sem__law_table)
  c_least : Cal P w K mg base 6 "least" ["shop", "want"] (spOf K (List.replicate 2 false) sem_least)
structure T_law_k13 (P : Program) (w : World) (K : PySem.W.Frag) (mg : Str → Option Value) (base : Heap) : Prop extends Bl mg where
  c__law_case : Cal P w K mg base 5 "_law_case" ["_law_script", "_law_many_draws"] (spOf K (List.replicate 2 false) sem__law_case_2562)
  c__law_table : Cal P w K mg base 3 "_law_table" ["_law_shop_here", "_law_want_here"] (spOf K (List.replicate 2 false) sem__law_table)
  c_least : Cal P w K mg base 6 "least" ["shop", "want"] (spOf K (List.replicate 2 false) sem_least)
  c__law_right : Cal P w K mg base 3 "_law_right" ["_law_shop_here", "_law_want_here", "_law_found", "_law_number"] (spOf K (List.replicate 4 false) sem__law_right_1657)
  c__law_behind : Cal P w K mg base 7 "_law_behind" ["_law_fewer", "_law_shop_here", "_law_want_here"] (spBeh K sem__law_behind_a235)
theorem ok__law_mix {f : Addr} {fd : FuncData} (F : Fun K "_law_mix" "_law_mix" (topS 25) f fd) (T : T__law_mix P w K mg base) : FnG P w K mg base CX0 1 f fd ["_law_cell", "_law_turn"] (spOf K (List.replicate 2 false) sem__law_mix) :=
  okD F sc__law_mix rfl fun cdv A outer s H E hr =>
    (dss_cons (ds_set (i := 2) sc__law_mix.nd rfl (.inl rfl) (d_op op_mod sc_mod (d_op op_mulA sc_mul (d_add (d_add (d_op op_mod sc_mod (pv 0) d_int (ls_see (ls_cons ls_nil))) (d_op op_mulA sc_mul (d_op op_mulA sc_mul (pv 1) (pv 1) (ls_see (ls_see ls_nil))) d_int (ls_cons (ls_cons ls_nil))) (as_cons (as_cons as_nil))) d_int (as_cons (as_cons as_nil))) d_int (ls_cons (ls_cons ls_nil))) d_int (ls_cons (ls_cons ls_nil)))) (dss_cons (ds_ret (d_op op_mod sc_mod (d_add (d_op op_mulA sc_mul (pv 2) (pv 2) (ls_see (ls_see ls_nil))) (d_op op_mulA sc_mul d_int (pv 1) (ls_cons (ls_see ls_nil))) (as_cons (as_cons as_nil))) d_int (ls_cons (ls_cons ls_nil)))) dss_nil))
theorem ok__law_draws_bf2d {f : Addr} {fd : FuncData} (F : Fun K "_law_draws" "_law_draws" (topS 26) f fd) (T : T__law_draws_bf2d P w K mg base) : FnG P w K mg base CX0 2 f fd ["_law_script", "_law_turn", "_law_many"] (spOf K (List.replicate 3 false) sem__law_draws_bf2d) :=
  okD F sc__law_draws_bf2d rfl fun cdv A outer s H E hr =>
    (dss_cons (ds_set (i := 3) sc__law_draws_bf2d.nd rfl (.inl rfl) (d_fz (d_add (d_sl (d_var 0 (pv 0)) do_none (do_some d_int)) (d_lst (da_cons (d_var 1 (pv 1)) da_nil)) (as_cons (as_cons as_nil))))) (dss_cons (ds_setLc (i := 4) (own := [("_law_cell", 5)]) rfl sc__law_draws_bf2d.nd rfl rfl (sw_true rfl rfl rfl (by decide +kernel)) (di_list (d_var 3 (pv 3))) (blkOk_by (own := [("_law_cell", 5)]) (N := N__law_draws_bf2d) (sc := defScope (topS 26)) (by decide +kernel)) (fun _ _ _ _ _ => (dg_name (i := 5) sc__law_draws_bf2d.nd rfl (.inl rfl))) (fun _ _ _ _ _ => dts_nil) (fun _ _ _ _ _ => (d_op op_fdivW sc_div (pv 5) d_int (ls_see (ls_cons ls_nil))))) (dss_cons (ds_set (i := 6) sc__law_draws_bf2d.nd rfl (.inl rfl) (d_lst da_nil)) (dss_cons (ds_for PassesOwn.never rfl (di_r1 (by rfl) T.z_range (dl_cons (d_add (d_var 1 (pv 1)) (d_var 2 (pv 2)) (as_cons (as_cons as_nil))) dl_nil)) (dg_name (i := 7) sc__law_draws_bf2d.nd rfl (.inl rfl)) (dss_cons (ds_set (i := 8) sc__law_draws_bf2d.nd rfl (.inl rfl) (d_op op_mod sc_mod (pv 7) (d_callB call_len sc_len (by rfl) T.z_len bb_len (dl_see (pv 3) dl_nil)) (ls_see (ls_cons ls_nil)))) (dss_cons (ds_set (i := 9) sc__law_draws_bf2d.nd rfl (.inl rfl) (d_fz (c_callM T.c__law_mix (hr.mono (by decide)) (by rfl) (n_cons (n_cons n_nil)) (da_cons (d_ix (pv 3) (pv 8) (fun _ _ => rfl) (ls_see (ls_see ls_nil))) (da_cons (d_var 7 (pv 7)) da_nil))))) (dss_cons (ds_set (i := 9) sc__law_draws_bf2d.nd rfl (.inl rfl) (d_op op_mod sc_mod (d_add (d_op op_mulA sc_mul (pv 9) (pv 9) (ls_see (ls_see ls_nil))) (d_op op_mulA sc_mul d_int (pv 7) (ls_cons (ls_see ls_nil))) (as_cons (as_cons as_nil))) d_int (ls_cons (ls_cons ls_nil)))) (dss_cons (ds_if (PW.pt (dw_and (dt_cmp op_ge sc_ge (d_ix (pv 3) (pv 8) (fun _ _ => rfl) (ls_see (ls_see ls_nil))) (d_op op_pow sc_pow d_int d_int (ls_cons (ls_cons ls_nil))) (nomark _) (ls_cons (ls_cons ls_nil))) (dw_and1 (dt_cmp op_gt sc_gt (d_ix (pv 4) (pv 8) (fun _ _ => rfl) (ls_see (ls_see ls_nil))) d_int (nomark _) (ls_cons (ls_cons ls_nil)))))) (dss_cons (ds_set (i := 9) sc__law_draws_bf2d.nd rfl (.inl rfl) (d_op op_mod sc_mod (d_ix (pv 4) (pv 8) (fun _ _ => rfl) (ls_see (ls_see ls_nil))) d_int (ls_cons (ls_cons ls_nil)))) (dss_cons (ds_setI (d_op op_fdivW sc_div (d_ix (pv 4) (pv 8) (fun _ _ => rfl) (ls_see (ls_see ls_nil))) d_int (ls_cons (ls_cons ls_nil))) (pv 4) (d_var 8 (pv 8))) dss_nil)) dss_nil) (dss_cons (ds_expr (d_up PySem.F.slot_list_append PySem.F.type_list_append mt_append up_app (pv 6) (da_cons (d_var 9 (pv 9)) da_nil))) (dss_kill dss_nil))))))) (dss_kill (dss_cons (ds_ret (d_sl (d_var 6 (pv 6)) (do_some (d_var 1 (pv 1))) do_none)) dss_nil))))))
theorem ok__law_pop {f : Addr} {fd : FuncData} (F : Fun K "_law_pop" "_law_pop" (topS 27) f fd) (T : T__law_pop P w K mg base) : FnG P w K mg base CX0 1 f fd ["_law_draws_here"] (spOf K [true] sem__law_pop) :=
  okD F sc__law_pop rfl fun cdv A outer s H E hr =>
    (dss_cons (ds_if (dt_cmp (op_eqD hr.units) sc_eq (pv 0) (d_lst da_nil) (nomark _) (ls_see (ls_cons ls_nil))) (dss_cons (ds_ret d_int) dss_nil) dss_nil) (dss_cons (ds_ret (d_up PySem.F.slot_list_pop PySem.F.type_list_pop mt_popAt up_pop0 (pv 0) (da_cons d_int da_nil))) dss_nil))
theorem ok__law_cut {f : Addr} {fd : FuncData} (F : Fun K "_law_cut" "_law_cut" (topS 28) f fd) (T : T__law_cut P w K mg base) : FnG P w K mg base CX0 1 f fd ["_law_row"] (spOf K (List.replicate 1 false) sem__law_cut) :=
  okD F sc__law_cut rfl fun cdv A outer s H E hr =>
    (dss_cons (ds_set (i := 1) sc__law_cut.nd rfl (.inl rfl) d_int) (dss_cons (ds_while PassesOwn.never (dt_cmp op_gt sc_gt (pv 1) d_int (nomark _) (ls_see (ls_cons ls_nil))) (dss_cons (ds_set (i := 1) sc__law_cut.nd rfl (.inl rfl) d_int) (dss_cons (ds_forS PassesOwn.never rfl (pv 0) (dg_name (i := 2) sc__law_cut.nd rfl (.inl rfl)) (dss_cons (ds_set (i := 1) sc__law_cut.nd rfl (.inl rfl) (d_op op_mulA sc_mul (pv 1) (d_add (d_var 2 (pv 2)) d_int (as_cons (as_cons as_nil))) (ls_see (ls_cons ls_nil)))) (dss_kill dss_nil))) (dss_kill (dss_cons (ds_if (dt_cmp op_gt sc_gt (pv 1) d_int (nomark _) (ls_see (ls_cons ls_nil))) (dss_cons (ds_setI (d_op op_sub sc_sub (d_callB (call_maxA rfl) sc_max (by rfl) T.z_max bb_max (dl_see (pv 0) dl_nil)) d_int (ls_cons (ls_cons ls_nil))) (pv 0) (d_lm PySem.F.slot_list_index PySem.F.type_list_index (mt_indexD (hu65 hr)) sc_index (pv 0) (dl_cons (d_callB (call_maxA rfl) sc_max (by rfl) T.z_max bb_max (dl_see (pv 0) dl_nil)) dl_nil))) dss_nil) dss_nil) (dss_kill dss_nil)))))) (dss_kill (dss_cons (ds_ret (d_mv 0 (pv 0))) dss_nil))))
theorem ok__law_content_e374 {f : Addr} {fd : FuncData} (F : Fun K "_law_content" "_law_content" (topS 29) f fd) (T : T__law_content_e374 P w K mg base) : FnG P w K mg base CX0 2 f fd ["_law_draws_here", "_law_many", "_law_most"] (spOf K [true, false, false] sem__law_content_e374) :=
  okD F sc__law_content_e374 rfl fun cdv A outer s H E hr =>
    (dss_cons (ds_set (i := 3) sc__law_content_e374.nd rfl (.inl rfl) (d_fz (c_callR T.c__law_pop (hr.mono (by decide)) (by rfl) (dr_ref (pv 0) dr_nil)))) (dss_cons (ds_set (i := 4) sc__law_content_e374.nd rfl (.inl rfl) (d_lst da_nil)) (dss_cons (ds_for PassesOwn.never rfl (di_r1 (by rfl) T.z_range (dl_see (pv 1) dl_nil)) (dg_name (i := 5) sc__law_content_e374.nd rfl (.inl rfl)) (dss_cons (ds_expr (d_up PySem.F.slot_list_append PySem.F.type_list_append mt_append up_app (pv 4) (da_cons (d_ix (d_lst (da_cons d_int (da_cons d_int (da_cons (d_add d_int (d_op op_mod sc_mod (pv 3) (pv 2) (ls_see (ls_see ls_nil))) (as_cons (as_cons as_nil))) (da_cons d_int da_nil))))) (d_op op_mod sc_mod (d_op op_fdivW sc_div (pv 3) d_int (ls_see (ls_cons ls_nil))) d_int (ls_cons (ls_cons ls_nil))) (fun _ _ => rfl) (ls_cons (ls_cons ls_nil))) da_nil))) (dss_cons (ds_set (i := 3) sc__law_content_e374.nd rfl (.inl rfl) (d_op op_fdivW sc_div (pv 3) d_int (ls_see (ls_cons ls_nil)))) (dss_kill dss_nil)))) (dss_kill (dss_cons (ds_if (dt_cmp (op_eqD hr.units) sc_eq (d_callB (cr_sum rfl) sc_sum (by rfl) T.z_sum bb_sum (dl_see (pv 4) dl_nil)) d_int (nomark _) (ls_cons (ls_cons ls_nil))) (dss_cons (ds_setI d_int (pv 4) (d_op op_mod sc_mod (pv 3) (pv 1) (ls_see (ls_see ls_nil)))) dss_nil) dss_nil) (dss_cons (ds_ret (c_callM T.c__law_cut (hr.mono (by decide)) (by rfl) (n_mv n_nil) (da_mv (pv 4) da_nil))) dss_nil))))))
theorem ok__law_price_59e4 {f : Addr} {fd : FuncData} (F : Fun K "_law_price" "_law_price" (topS 30) f fd) (T : T__law_price_59e4 P w K mg base) : FnG P w K mg base CX0 2 f fd ["_law_draws_here"] (spOf K [true] sem__law_price_59e4) :=
  okD F sc__law_price_59e4 rfl fun cdv A outer s H E hr =>
    (dss_cons (ds_set (i := 1) sc__law_price_59e4.nd rfl (.inl rfl) (d_fz (c_callR T.c__law_pop (hr.mono (by decide)) (by rfl) (dr_ref (pv 0) dr_nil)))) (dss_cons (ds_ret (d_ix (d_lst (da_cons (d_op op_mod sc_mod (pv 1) d_int (ls_see (ls_cons ls_nil))) (da_cons (d_add d_int (d_op op_mod sc_mod (pv 1) d_int (ls_see (ls_cons ls_nil))) (as_cons (as_cons as_nil))) (da_cons (d_op op_mod sc_mod (pv 1) d_int (ls_see (ls_cons ls_nil))) (da_cons (d_op op_mod sc_mod (d_op op_mulA sc_mul (pv 1) d_int (ls_see (ls_cons ls_nil))) (d_op op_pow sc_pow d_int d_int (ls_cons (ls_cons ls_nil))) (ls_cons (ls_cons ls_nil))) (da_cons d_int da_nil)))))) (d_op op_mod sc_mod (d_op op_fdivW sc_div (pv 1) d_int (ls_see (ls_cons ls_nil))) d_int (ls_cons (ls_cons ls_nil))) (fun _ _ => rfl) (ls_cons (ls_cons ls_nil)))) dss_nil))
theorem ok__law_tiers_fe28 {f : Addr} {fd : FuncData} (F : Fun K "_law_tiers" "_law_tiers" (topS 31) f fd) (T : T__law_tiers_fe28 P w K mg base) : FnG P w K mg base CX0 3 f fd ["_law_draws_here"] (spOf K [true] sem__law_tiers_fe28) :=
  okD F sc__law_tiers_fe28 rfl fun cdv A outer s H E hr =>
    (dss_cons (ds_set (i := 1) sc__law_tiers_fe28.nd rfl (.inl rfl) (d_lst da_nil)) (dss_cons (ds_set (i := 2) sc__law_tiers_fe28.nd rfl (.inl rfl) d_int) (dss_cons (ds_for PassesOwn.never rfl (di_r1 (by rfl) T.z_range (dl_cons (d_add d_int (d_op op_mod sc_mod (c_callR T.c__law_pop (hr.mono (by decide)) (by rfl) (dr_ref (pv 0) dr_nil)) d_int (ls_cons (ls_cons ls_nil))) (as_cons (as_cons as_nil))) dl_nil)) (dg_name (i := 3) sc__law_tiers_fe28.nd rfl (.inl rfl)) (dss_cons (ds_if (dt_cmp op_lt sc_lt (pv 2) d_int (nomark _) (ls_see (ls_cons ls_nil))) (dss_cons (ds_expr (d_up PySem.F.slot_list_append PySem.F.type_list_append mt_append up_app (pv 1) (da_cons (d_fz (d_tup (da_cons (d_var 2 (pv 2)) (da_cons (c_callR T.c__law_price (hr.mono (by decide)) (by rfl) (dr_ref (pv 0) dr_nil)) da_nil)))) da_nil))) dss_nil) dss_nil) (dss_cons (ds_set (i := 2) sc__law_tiers_fe28.nd rfl (.inl rfl) (d_fz (d_add (d_add (d_var 2 (pv 2)) d_int (as_cons (as_cons as_nil))) (d_op op_mod sc_mod (c_callR T.c__law_pop (hr.mono (by decide)) (by rfl) (dr_ref (pv 0) dr_nil)) d_int (ls_cons (ls_cons ls_nil))) (as_cons (as_cons as_nil))))) (dss_kill dss_nil)))) (dss_kill (dss_cons (ds_ret (d_mv 1 (pv 1))) dss_nil)))))
theorem ok__law_shop_7fee {f : Addr} {fd : FuncData} (F : Fun K "_law_shop" "_law_shop" (topS 32) f fd) (T : T__law_shop_7fee P w K mg base) : FnG P w K mg base CX0 4 f fd ["_law_draws_here", "_law_many", "_law_most"] (spOf K [true, false, false] sem__law_shop_7fee) :=
  okD F sc__law_shop_7fee rfl fun cdv A outer s H E hr =>
    (dss_cons (ds_set (i := 3) sc__law_shop_7fee.nd rfl (.inl rfl) (d_lst da_nil)) (dss_cons (ds_for PassesOwn.never rfl (di_frz (di_r1 (by rfl) T.z_range (dl_cons (d_op op_mod sc_mod (c_callR T.c__law_pop (hr.mono (by decide)) (by rfl) (dr_ref (pv 0) dr_nil)) (d_add (d_var 2 (pv 2)) d_int (as_cons (as_cons as_nil))) (ls_cons (ls_cons ls_nil))) dl_nil))) (dg_name (i := 4) sc__law_shop_7fee.nd rfl (.inl rfl)) (dss_cons (ds_set (i := 5) sc__law_shop_7fee.nd rfl (.inl rfl) (d_fz (c_callR T.c__law_pop (hr.mono (by decide)) (by rfl) (dr_ref (pv 0) dr_nil)))) (dss_cons (ds_setLcPkF (i := 6) (own := [("_law_place", 9), ("_law_offer", 10)]) rfl sc__law_shop_7fee.nd rfl rfl (sw_true rfl rfl rfl (by decide +kernel)) (di_enum (by rfl) T.z_enumerate (da_cons (d_var 3 (pv 3)) da_nil)) (blkOk_by (own := [("_law_place", 9), ("_law_offer", 10)]) (N := N__law_shop_7fee) (sc := defScope (topS 32)) (by decide +kernel)) (fun _ _ _ _ _ => (dg_tup rfl (dgs_cons (dg_name (i := 9) sc__law_shop_7fee.nd rfl (.inl rfl)) (dgs_cons (dg_name (i := 10) sc__law_shop_7fee.nd rfl (.inl rfl)) dgs_nil)))) (fun _ _ _ _ _ => (dts_one (dt_cmp (op_eqD hr.units) sc_eq (d_ix (pv 10) d_int (fun _ _ => rfl) (ls_see (ls_cons ls_nil))) d_str (nomark _) (ls_cons (ls_cons ls_nil))))) (fun _ _ _ _ _ => (d_var 9 (pv 9)))) (dss_cons (ds_set (i := 7) sc__law_shop_7fee.nd rfl (.inl rfl) (d_op op_mod sc_mod (pv 5) d_int (ls_see (ls_cons ls_nil)))) (dss_cons (ds_set (i := 8) sc__law_shop_7fee.nd rfl (.inl rfl) (c_callR T.c__law_content (hr.mono (by decide)) (by rfl) (dr_ref (pv 0) (dr_cons (d_var 1 (pv 1)) (dr_cons d_int dr_nil))))) (dss_cons (ds_if (dt_cmp op_lt sc_lt (pv 7) d_int (nomark _) (ls_see (ls_cons ls_nil))) (dss_cons (ds_expr (d_up PySem.F.slot_list_append PySem.F.type_list_append mt_append up_app (pv 3) (da_cons (d_tup (da_cons d_str (da_mv (pv 8) (da_cons (c_callR T.c__law_tiers (hr.mono (by decide)) (by rfl) (dr_ref (pv 0) dr_nil)) da_nil)))) da_nil))) dss_nil) (dss_cons (ds_if (PW.pt (dw_and (dt_cmp op_lt sc_lt (pv 7) d_int (nomark _) (ls_see (ls_cons ls_nil))) (dw_and1 (dt_cmp (op_neD hr.units) sc_ne (pv 6) (d_lst da_nil) (nomark _) (ls_see (ls_cons ls_nil)))))) (dss_cons (ds_expr (d_up PySem.F.slot_list_append PySem.F.type_list_append mt_append up_app (pv 3) (da_cons (d_tup (da_cons d_str (da_mv (pv 8) (da_cons (c_callR T.c__law_price (hr.mono (by decide)) (by rfl) (dr_ref (pv 0) dr_nil)) (da_cons (d_ix (pv 6) (d_op op_mod sc_mod (d_op op_fdivW sc_div (pv 5) d_int (ls_see (ls_cons ls_nil))) (d_callB call_len sc_len (by rfl) T.z_len bb_len (dl_see (pv 6) dl_nil)) (ls_cons (ls_cons ls_nil))) (fun _ _ => rfl) (ls_see (ls_cons ls_nil))) da_nil))))) da_nil))) dss_nil) (dss_cons (ds_expr (d_up PySem.F.slot_list_append PySem.F.type_list_append mt_append up_app (pv 3) (da_cons (d_tup (da_cons d_str (da_mv (pv 8) (da_cons (c_callR T.c__law_price (hr.mono (by decide)) (by rfl) (dr_ref (pv 0) dr_nil)) da_nil)))) da_nil))) dss_nil)) dss_nil)) (dss_kill dss_nil))))))) (dss_kill (dss_cons (ds_ret (d_mv 3 (pv 3))) dss_nil))))
theorem ok__law_want_c9ae {f : Addr} {fd : FuncData} (F : Fun K "_law_want" "_law_want" (topS 33) f fd) (T : T__law_want_c9ae P w K mg base) : FnG P w K mg base CX0 2 f fd ["_law_draws_here", "_law_many"] (spOf K [true, false] sem__law_want_c9ae) :=
  okD F sc__law_want_c9ae rfl fun cdv A outer s H E hr =>
    (dss_cons (ds_set (i := 2) sc__law_want_c9ae.nd rfl (.inl rfl) (d_fz (c_callR T.c__law_pop (hr.mono (by decide)) (by rfl) (dr_ref (pv 0) dr_nil)))) (dss_cons (ds_set (i := 3) sc__law_want_c9ae.nd rfl (.inl rfl) (d_lst da_nil)) (dss_cons (ds_for PassesOwn.never rfl (di_r1 (by rfl) T.z_range (dl_see (pv 1) dl_nil)) (dg_name (i := 4) sc__law_want_c9ae.nd rfl (.inl rfl)) (dss_cons (ds_expr (d_up PySem.F.slot_list_append PySem.F.type_list_append mt_append up_app (pv 3) (da_cons (d_op op_mod sc_mod (pv 2) d_int (ls_see (ls_cons ls_nil))) da_nil))) (dss_cons (ds_set (i := 2) sc__law_want_c9ae.nd rfl (.inl rfl) (d_op op_fdivW sc_div (pv 2) d_int (ls_see (ls_cons ls_nil)))) (dss_kill dss_nil)))) (dss_kill (dss_cons (ds_ret (c_callM T.c__law_cut (hr.mono (by decide)) (by rfl) (n_mv n_nil) (da_mv (pv 3) da_nil))) dss_nil)))))
theorem ok__law_case_2562 {f : Addr} {fd : FuncData} (F : Fun K "_law_case" "_law_case" (topS 40) f fd) (T : T__law_case_2562 P w K mg base) : FnG P w K mg base CX0 5 f fd ["_law_script", "_law_many_draws"] (spOf K (List.replicate 2 false) sem__law_case_2562) :=
  okD F sc__law_case_2562 rfl fun cdv A outer s H E hr =>
    (dss_cons (ds_set (i := 2) sc__law_case_2562.nd rfl (.inl rfl) (c_callM T.c__law_draws (hr.mono (by decide)) (by rfl) (n_cons (n_cons (n_cons n_nil))) (da_cons (d_var 0 (pv 0)) (da_cons d_int (da_cons (d_var 1 (pv 1)) da_nil))))) (dss_cons (ds_set (i := 3) sc__law_case_2562.nd rfl (.inl rfl) (d_ix (d_lst (da_cons d_int (da_cons d_int (da_cons d_int (da_cons d_int (da_cons d_int (da_cons d_int (da_cons d_int (da_cons d_int da_nil))))))))) (d_op op_mod sc_mod (c_callR T.c__law_pop (hr.mono (by decide)) (by rfl) (dr_ref (pv 2) dr_nil)) d_int (ls_cons (ls_cons ls_nil))) (fun _ _ => rfl) (ls_cons (ls_cons ls_nil)))) (dss_cons (ds_set (i := 4) sc__law_case_2562.nd rfl (.inl rfl) (c_callR T.c__law_shop (hr.mono (by decide)) (by rfl) (dr_ref (pv 2) (dr_cons (d_var 3 (pv 3)) (dr_cons d_int dr_nil))))) (dss_cons (ds_ret (d_tup (da_cons (d_var 3 (pv 3)) (da_mv (pv 4) (da_cons (c_callR T.c__law_want (hr.mono (by decide)) (by rfl) (dr_ref (pv 2) (dr_cons (d_var 3 (pv 3)) dr_nil))) (da_mv (pv 2) da_nil)))))) dss_nil))))
theorem ok__law_groups {f : Addr} {fd : FuncData} (F : Fun K "_law_groups" "_law_groups" (topS 34) f fd) (T : T__law_groups P w K mg base) : FnG P w K mg base CX0 1 f fd ["_law_places"] (spOf K (List.replicate 1 false) sem__law_groups) :=
  okD F sc__law_groups rfl fun cdv A outer s H E hr =>
    (dss_cons (ds_set (i := 1) sc__law_groups.nd rfl (.inl rfl) (d_lst (da_cons (d_lst da_nil) da_nil))) (dss_cons (ds_for PassesOwn.never rfl (di_list (d_revL (d_var 0 (pv 0)))) (dg_name (i := 2) sc__law_groups.nd rfl (.inr rfl)) (dss_cons (ds_set (i := 1) sc__law_groups.nd rfl (.inl rfl) (d_add (d_add (d_sl (d_var 1 (pv 1)) do_none (do_some d_int)) (d_lc (own := [("_law_one", 3)]) rfl sc__law_groups.nd (di_frz (di_list (d_var 1 (pv 1)))) (blkOk_by (own := [("_law_one", 3)]) (N := N__law_groups) (sc := defScope (topS 34)) (by decide +kernel)) (fun _ _ _ _ _ => (dg_name (i := 3) sc__law_groups.nd rfl (.inl rfl))) (fun _ _ _ _ _ => dts_nil) (fun _ _ _ _ _ => (d_add (d_lst (da_cons (d_var 2 (pv 2)) da_nil)) (d_var 3 (pv 3)) (as_cons (as_cons as_nil))))) (as_cons (as_cons as_nil))) (d_sl (d_var 1 (pv 1)) (do_some d_int) do_none) (as_cons (as_cons as_nil)))) (dss_kill dss_nil))) (dss_kill (dss_cons (ds_ret (d_mv 1 (pv 1))) dss_nil))))
theorem ok__law_sum {f : Addr} {fd : FuncData} (F : Fun K "_law_sum" "_law_sum" (topS 35) f fd) (T : T__law_sum P w K mg base) : FnG P w K mg base CX0 1 f fd ["_law_one", "_law_other"] (spOf K (List.replicate 2 false) sem__law_sum) :=
  okD F sc__law_sum rfl fun cdv A outer s H E hr =>
    (dss_cons (ds_ret (d_lc (own := [("_law_k", 2)]) rfl sc__law_sum.nd (di_r1 (by rfl) T.z_range (dl_cons (d_callB call_len sc_len (by rfl) T.z_len bb_len (dl_see (pv 0) dl_nil)) dl_nil)) (blkOk_by (own := [("_law_k", 2)]) (N := N__law_sum) (sc := defScope (topS 35)) (by decide +kernel)) (fun _ _ _ _ _ => (dg_name (i := 2) sc__law_sum.nd rfl (.inl rfl))) (fun _ _ _ _ _ => dts_nil) (fun _ _ _ _ _ => (d_add (d_ix (pv 0) (pv 2) (fun _ _ => rfl) (ls_see (ls_see ls_nil))) (d_ix (pv 1) (pv 2) (fun _ _ => rfl) (ls_see (ls_see ls_nil))) (as_cons (as_cons as_nil)))))) dss_nil)
theorem ok__law_lines_9070 {f : Addr} {fd : FuncData} (F : Fun K "_law_lines" "_law_lines" (topS 36) f fd) (T : T__law_lines_9070 P w K mg base) : FnG P w K mg base CX0 2 f fd ["_law_shop_here"] (spOf K (List.replicate 1 false) sem__law_lines_9070) :=
  okD F sc__law_lines_9070 rfl fun cdv A outer s H E hr =>
    (dss_cons (ds_set (i := 1) sc__law_lines_9070.nd rfl (.inl rfl) (d_lst da_nil)) (dss_cons (ds_for PassesOwn.never rfl (di_frz (di_enum (by rfl) T.z_enumerate (da_cons (d_var 0 (pv 0)) da_nil))) (dg_tup rfl (dgs_cons (dg_name (i := 2) sc__law_lines_9070.nd rfl (.inr rfl)) (dgs_cons (dg_name (i := 3) sc__law_lines_9070.nd rfl (.inl rfl)) dgs_nil))) (dss_cons (ds_if (dt_cmp (op_eqD hr.units) sc_eq (d_ix (pv 3) d_int (fun _ _ => rfl) (ls_see (ls_cons ls_nil))) d_str (nomark _) (ls_cons (ls_cons ls_nil))) (dss_cons (ds_setLcF (i := 4) (own := [("_law_k", 10), ("_law_one", 11)]) rfl sc__law_lines_9070.nd rfl rfl (sw_true rfl rfl rfl (by decide +kernel)) (di_enum (by rfl) T.z_enumerate (da_cons (d_var 0 (pv 0)) da_nil)) (blkOk_by (own := [("_law_k", 10), ("_law_one", 11)]) (N := N__law_lines_9070) (sc := defScope (topS 36)) (by decide +kernel)) (fun _ _ _ _ _ => (dg_tup rfl (dgs_cons (dg_name (i := 10) sc__law_lines_9070.nd rfl (.inl rfl)) (dgs_cons (dg_name (i := 11) sc__law_lines_9070.nd rfl (.inl rfl)) dgs_nil)))) (fun _ _ _ _ _ => (dts_one (PW.pt (dw_and (dt_cmp (op_eqD hr.units) sc_eq (d_ix (pv 11) d_int (fun _ _ => rfl) (ls_see (ls_cons ls_nil))) d_str (nomark _) (ls_cons (ls_cons ls_nil))) (dw_and1 (dt_cmp (op_eqD hr.units) sc_eq (d_ix (pv 11) d_int (fun _ _ => rfl) (ls_see (ls_cons ls_nil))) (pv 2) (nomark _) (ls_cons (ls_see ls_nil)))))))) (fun _ _ _ _ _ => (d_var 10 (pv 10)))) (dss_cons (ds_for PassesOwn.never rfl (di_frz (di_list (d_fz (c_callM T.c__law_groups (hr.mono (by decide)) (by rfl) (n_cons n_nil) (da_cons (d_var 4 (pv 4)) da_nil))))) (dg_name (i := 5) sc__law_lines_9070.nd rfl (.inl rfl)) (dss_cons (ds_set (i := 7) sc__law_lines_9070.nd rfl (.inl rfl) (d_ix (pv 3) d_int (fun _ _ => rfl) (ls_see (ls_cons ls_nil)))) (dss_cons (ds_set (i := 8) sc__law_lines_9070.nd rfl (.inl rfl) (d_ix (pv 3) d_int (fun _ _ => rfl) (ls_see (ls_cons ls_nil)))) (dss_cons (ds_for PassesOwn.never rfl (di_list (d_var 5 (pv 5))) (dg_name (i := 9) sc__law_lines_9070.nd rfl (.inl rfl)) (dss_cons (ds_set (i := 7) sc__law_lines_9070.nd rfl (.inl rfl) (d_fz (c_callM T.c__law_sum (hr.mono (by decide)) (by rfl) (n_cons (n_cons n_nil)) (da_cons (d_var 7 (pv 7)) (da_cons (d_ix (d_ix (pv 0) (pv 9) (fun _ _ => rfl) (ls_see (ls_see ls_nil))) d_int (fun _ _ => rfl) (ls_cons (ls_cons ls_nil))) da_nil))))) (dss_cons (ds_set (i := 8) sc__law_lines_9070.nd rfl (.inl rfl) (d_fz (d_add (d_var 8 (pv 8)) (d_ix (d_ix (pv 0) (pv 9) (fun _ _ => rfl) (ls_see (ls_see ls_nil))) d_int (fun _ _ => rfl) (ls_cons (ls_cons ls_nil))) (as_cons (as_cons as_nil))))) (dss_kill dss_nil)))) (dss_kill (dss_cons (ds_expr (d_up PySem.F.slot_list_append PySem.F.type_list_append mt_append up_app (pv 1) (da_cons (d_fz (d_tup (da_cons (d_tup (da_cons (d_var 2 (pv 2)) (da_cons d_int (da_cons (d_var 5 (pv 5)) da_nil)))) (da_cons (d_var 7 (pv 7)) (da_cons (d_var 8 (pv 8)) da_nil))))) da_nil))) (dss_kill dss_nil))))))) (dss_kill dss_nil))) dss_nil) (dss_kill (dss_cons (ds_if (dt_cmp (op_eqD hr.units) sc_eq (d_ix (pv 3) d_int (fun _ _ => rfl) (ls_see (ls_cons ls_nil))) d_str (nomark _) (ls_cons (ls_cons ls_nil))) (dss_cons (ds_for PassesOwn.never rfl (di_frz (di_r2 (by rfl) T.z_range (dl_cons d_int (dl_cons d_int dl_nil)))) (dg_name (i := 6) sc__law_lines_9070.nd rfl (.inr rfl)) (dss_cons (ds_set (i := 8) sc__law_lines_9070.nd rfl (.inl rfl) (d_ix (d_lc (own := [("_law_tier", 12)]) rfl sc__law_lines_9070.nd (di_list (d_ix (pv 3) d_int (fun _ _ => rfl) (ls_see (ls_cons ls_nil)))) (blkOk_by (own := [("_law_tier", 12)]) (N := N__law_lines_9070) (sc := defScope (topS 36)) (by decide +kernel)) (fun _ _ _ _ _ => (dg_name (i := 12) sc__law_lines_9070.nd rfl (.inl rfl))) (fun _ _ _ _ _ => (dts_one (dt_cmp op_le sc_le (d_ix (pv 12) d_int (fun _ _ => rfl) (ls_see (ls_cons ls_nil))) (pv 6) (nomark _) (ls_cons (ls_see ls_nil))))) (fun _ _ _ _ _ => (d_ix (pv 12) d_int (fun _ _ => rfl) (ls_see (ls_cons ls_nil))))) (d_un un_neg sc_neg d_int (ls_cons ls_nil)) (fun _ _ => rfl) (ls_cons (ls_cons ls_nil)))) (dss_cons (ds_expr (d_up PySem.F.slot_list_append PySem.F.type_list_append mt_append up_app (pv 1) (da_cons (d_fz (d_tup (da_cons (d_tup (da_cons (d_var 2 (pv 2)) (da_cons (d_var 6 (pv 6)) (da_cons (d_lst da_nil) da_nil)))) (da_cons (d_lc (own := [("_law_one", 11)]) rfl sc__law_lines_9070.nd (di_list (d_ix (pv 3) d_int (fun _ _ => rfl) (ls_see (ls_cons ls_nil)))) (blkOk_by (own := [("_law_one", 11)]) (N := N__law_lines_9070) (sc := defScope (topS 36)) (by decide +kernel)) (fun _ _ _ _ _ => (dg_name (i := 11) sc__law_lines_9070.nd rfl (.inl rfl))) (fun _ _ _ _ _ => dts_nil) (fun _ _ _ _ _ => (d_op op_mulA sc_mul (pv 6) (pv 11) (ls_see (ls_see ls_nil))))) (da_cons (d_op op_mulA sc_mul (pv 6) (pv 8) (ls_see (ls_see ls_nil))) da_nil))))) da_nil))) (dss_kill dss_nil)))) (dss_kill dss_nil)) dss_nil) (dss_kill dss_nil))))) (dss_kill (dss_cons (ds_ret (d_mv 1 (pv 1))) dss_nil))))
theorem ok__law_lesser {f : Addr} {fd : FuncData} (F : Fun K "_law_lesser" "_law_lesser" (topS 37) f fd) (T : T__law_lesser P w K mg base) : FnG P w K mg base CX0 1 f fd ["_law_want_here"] (spOf K (List.replicate 1 false) sem__law_lesser) :=
  okD F sc__law_lesser rfl fun cdv A outer s H E hr =>
    (dss_cons (ds_set (i := 1) sc__law_lesser.nd rfl (.inl rfl) (d_lst (da_cons (d_lst da_nil) da_nil))) (dss_cons (ds_for PassesOwn.never rfl (di_list (d_var 0 (pv 0))) (dg_name (i := 2) sc__law_lesser.nd rfl (.inl rfl)) (dss_cons (ds_set (i := 3) sc__law_lesser.nd rfl (.inl rfl) (d_lst da_nil)) (dss_cons (ds_for PassesOwn.never rfl (di_frz (di_list (d_var 1 (pv 1)))) (dg_name (i := 4) sc__law_lesser.nd rfl (.inl rfl)) (dss_cons (ds_for PassesOwn.never rfl (di_frz (di_r1 (by rfl) T.z_range (dl_cons (d_add (d_var 2 (pv 2)) d_int (as_cons (as_cons as_nil))) dl_nil))) (dg_name (i := 5) sc__law_lesser.nd rfl (.inl rfl)) (dss_cons (ds_expr (d_up PySem.F.slot_list_append PySem.F.type_list_append mt_append up_app (pv 3) (da_cons (d_fz (d_add (d_var 4 (pv 4)) (d_lst (da_cons (d_var 5 (pv 5)) da_nil)) (as_cons (as_cons as_nil)))) da_nil))) (dss_kill dss_nil))) (dss_kill dss_nil))) (dss_kill (dss_cons (ds_set (i := 1) sc__law_lesser.nd rfl (.inl rfl) (d_var 3 (pv 3))) (dss_kill dss_nil)))))) (dss_kill (dss_cons (ds_ret (d_mv 1 (pv 1))) dss_nil))))
theorem ok__law_rest {f : Addr} {fd : FuncData} (F : Fun K "_law_rest" "_law_rest" (topS 38) f fd) (T : T__law_rest P w K mg base) : FnG P w K mg base CX0 1 f fd ["_law_want_here", "_law_content_here"] (spOf K (List.replicate 2 false) sem__law_rest) :=
  okD F sc__law_rest rfl fun cdv A outer s H E hr =>
    (dss_cons (ds_ret (d_lc (own := [("_law_k", 2)]) rfl sc__law_rest.nd (di_r1 (by rfl) T.z_range (dl_cons (d_callB call_len sc_len (by rfl) T.z_len bb_len (dl_see (pv 0) dl_nil)) dl_nil)) (blkOk_by (own := [("_law_k", 2)]) (N := N__law_rest) (sc := defScope (topS 38)) (by decide +kernel)) (fun _ _ _ _ _ => (dg_name (i := 2) sc__law_rest.nd rfl (.inl rfl))) (fun _ _ _ _ _ => dts_nil) (fun _ _ _ _ _ => (d_callB (call_maxA rfl) sc_max (by rfl) T.z_max bb_max (dl_cons d_int (dl_cons (d_op op_sub sc_sub (d_ix (pv 0) (pv 2) (fun _ _ => rfl) (ls_see (ls_see ls_nil))) (d_ix (pv 1) (pv 2) (fun _ _ => rfl) (ls_see (ls_see ls_nil))) (ls_cons (ls_cons ls_nil))) dl_nil)))))) dss_nil)
theorem ok__law_table {f : Addr} {fd : FuncData} (F : Fun K "_law_table" "_law_table" (topS 39) f fd) (T : T__law_table P w K mg base) : FnG P w K mg base CX0 3 f fd ["_law_shop_here", "_law_want_here"] (spOf K (List.replicate 2 false) sem__law_table) :=
  okD F sc__law_table rfl fun cdv A outer s H E hr =>
    (dss_cons (ds_set (i := 2) sc__law_table.nd rfl (.inl rfl) (d_fz (c_callM T.c__law_lines (hr.mono (by decide)) (by rfl) (n_cons n_nil) (da_cons (d_var 0 (pv 0)) da_nil)))) (dss_cons (ds_set (i := 3) sc__law_table.nd rfl (.inl rfl) (d_dnT)) (dss_cons (ds_for PassesOwn.never rfl (di_frz (di_list (d_fz (c_callM T.c__law_lesser (hr.mono (by decide)) (by rfl) (n_cons n_nil) (da_cons (d_var 1 (pv 1)) da_nil))))) (dg_name (i := 4) sc__law_table.nd rfl (.inl rfl)) (dss_cons (ds_set (i := 5) sc__law_table.nd rfl (.inl rfl) (d_sl (d_lst (da_cons d_int da_nil)) do_none (do_some (d_callTy call_intA sc_int (by rfl) T.z_int bb_int (dl_cons (d_cmp (op_eqD hr.units) sc_eq (d_callB (cr_sum rfl) sc_sum (by rfl) T.z_sum bb_sum (dl_see (pv 4) dl_nil)) d_int (nomark _) (ls_cons (ls_cons ls_nil))) dl_nil))))) (dss_cons (ds_for PassesOwn.never rfl (di_frz (di_list (d_var 2 (pv 2)))) (dg_tup rfl (dgs_cons (dg_name (i := 6) sc__law_table.nd rfl (.inl rfl)) (dgs_cons (dg_name (i := 7) sc__law_table.nd rfl (.inl rfl)) (dgs_cons (dg_name (i := 8) sc__law_table.nd rfl (.inl rfl)) dgs_nil)))) (dss_cons (ds_set (i := 9) sc__law_table.nd rfl (.inl rfl) (d_fz (c_callM T.c__law_rest (hr.mono (by decide)) (by rfl) (n_cons (n_cons n_nil)) (da_cons (d_var 4 (pv 4)) (da_cons (d_var 7 (pv 7)) da_nil))))) (dss_cons (ds_if (PW.pt (dw_and (dt_cmp (op_neD hr.units) sc_ne (pv 9) (pv 4) (nomark _) (ls_see (ls_see ls_nil))) (dw_and1 (dt_cmp op_notN sc_notN (d_dget (hu65 hr) (pv 3) (d_callTyA call_tuple_of al_tuple (by rfl) T.z_tuple bb_tuple (da_cons (d_var 9 (pv 9)) da_nil)) (fun _ _ => rfl)) d_non (nomark _) (ls_cons (ls_cons ls_nil)))))) (dss_cons (ds_expr (d_up PySem.F.slot_list_append PySem.F.type_list_append mt_append up_app (pv 5) (da_cons (d_fz (d_add (d_var 8 (pv 8)) (d_dget (hu65 hr) (pv 3) (d_callTyA call_tuple_of al_tuple (by rfl) T.z_tuple bb_tuple (da_cons (d_var 9 (pv 9)) da_nil)) (fun _ _ => rfl)) (as_cons (as_cons as_nil)))) da_nil))) dss_nil) dss_nil) (dss_kill dss_nil)))) (dss_kill (dss_cons (ds_dput (hu65 hr) d_non (pv 3) (d_callTyA call_tuple_of al_tuple (by rfl) T.z_tuple bb_tuple (da_cons (d_var 4 (pv 4)) da_nil))) (dss_cons (ds_if (dt_cmp (op_neD hr.units) sc_ne (pv 5) (d_lst da_nil) (nomark _) (ls_see (ls_cons ls_nil))) (dss_cons (ds_dput (hu65 hr) (d_fz (d_callB (call_minA rfl) sc_min (by rfl) T.z_min bb_min (dl_see (pv 5) dl_nil))) (pv 3) (d_callTyA call_tuple_of al_tuple (by rfl) T.z_tuple bb_tuple (da_cons (d_var 4 (pv 4)) da_nil))) dss_nil) dss_nil) (dss_kill dss_nil))))))) (dss_kill (dss_cons (ds_ret (d_mv 3 (pv 3))) dss_nil)))))
theorem ok_tiers_right {f : Addr} {fd : FuncData} (F : Fun K "tiers_right" "tiers_right" (topS 6) f fd) (T : T_tiers_right P w K mg base) : FnG P w K mg base CX0 1 f fd ["tiers"] (spOf K (List.replicate 1 false) sem_tiers_right) :=
  okD F sc_tiers_right rfl fun cdv A outer s H E hr =>
    (dss_cons (ds_set (i := 1) sc_tiers_right.nd rfl (.inr rfl) (d_fz (d_lc (own := [("start", 2), ("price", 3)]) rfl sc_tiers_right.nd (di_list (d_var 0 (pv 0))) (blkOk_by (own := [("start", 2), ("price", 3)]) (N := N_tiers_right) (sc := defScope (topS 6)) (by decide +kernel)) (fun _ _ _ _ _ => (dg_tup rfl (dgs_cons (dg_name (i := 2) sc_tiers_right.nd rfl (.inl rfl)) (dgs_cons (dg_name (i := 3) sc_tiers_right.nd rfl (.inl rfl)) dgs_nil)))) (fun _ _ _ _ _ => dts_nil) (fun _ _ _ _ _ => (d_var 2 (pv 2)))))) (dss_cons (ds_if (PW.pt (dw_or (dt_cmp (op_neD hr.units) sc_ne (d_sl (d_var 1 (pv 1)) do_none (do_some d_int)) (d_lst (da_cons d_int da_nil)) (nomark _) (ls_cons (ls_cons ls_nil))) (dw_or (dt_cmp op_gt sc_gt (d_callB call_len sc_len (by rfl) T.z_len bb_len (dl_see (pv 1) dl_nil)) (d_globI (by rfl) T.g_MOST_TIERS) (nomark _) (ls_cons (ls_cons ls_nil))) (dw_or1 (dt_cmp op_gt sc_gt (d_ix (pv 1) (d_un un_neg sc_neg d_int (ls_cons ls_nil)) (fun _ _ => rfl) (ls_see (ls_cons ls_nil))) (d_globI (by rfl) T.g_MOST) (nomark _) (ls_cons (ls_cons ls_nil))))))) (dss_cons (ds_ret d_bl) dss_nil) dss_nil) (dss_cons (ds_ret (d_callB (cr_all rfl) sc_all (by rfl) T.z_all bb_all (dl_cons (d_lc (own := [("k", 4)]) rfl sc_tiers_right.nd (di_r1 (by rfl) T.z_range (dl_cons (d_op op_sub sc_sub (d_callB call_len sc_len (by rfl) T.z_len bb_len (dl_see (pv 1) dl_nil)) d_int (ls_cons (ls_cons ls_nil))) dl_nil)) (blkOk_by (own := [("k", 4)]) (N := N_tiers_right) (sc := defScope (topS 6)) (by decide +kernel)) (fun _ _ _ _ _ => (dg_name (i := 4) sc_tiers_right.nd rfl (.inl rfl))) (fun _ _ _ _ _ => dts_nil) (fun _ _ _ _ _ => (d_cmp op_lt sc_lt (d_ix (pv 1) (pv 4) (fun _ _ => rfl) (ls_see (ls_see ls_nil))) (d_ix (pv 1) (d_add (d_var 4 (pv 4)) d_int (as_cons (as_cons as_nil))) (fun _ _ => rfl) (ls_see (ls_cons ls_nil))) (nomark _) (ls_cons (ls_cons ls_nil))))) dl_nil))) dss_nil)))
theorem ok_look {f : Addr} {fd : FuncData} (F : Fun K "look" "look" (topS 7) f fd) (T : T_look P w K mg base) : FnG P w K mg base CX0 2 f fd ["shop"] (spOf K (List.replicate 1 false) sem_look) :=
  okD F sc_look rfl fun cdv A outer s H E hr =>
    (dss_cons (ds_for PassesOwn.never rfl (di_enum (by rfl) T.z_enumerate (da_cons (d_var 0 (pv 0)) da_nil)) (dg_tup rfl (dgs_cons (dg_name (i := 1) sc_look.nd rfl (.inl rfl)) (dgs_cons (dg_name (i := 2) sc_look.nd rfl (.inl rfl)) dgs_nil))) (dss_cons (ds_set (i := 3) sc_look.nd rfl (.inl rfl) d_bl) (dss_cons (ds_if (dt_cmp (op_eqD hr.units) sc_eq (d_ix (pv 2) d_int (fun _ _ => rfl) (ls_see (ls_cons ls_nil))) d_str (nomark _) (ls_cons (ls_cons ls_nil))) (dss_cons (ds_set (i := 3) sc_look.nd rfl (.inl rfl) (d_and (d_chain op_le op_lt sc_le sc_lt d_int (d_ix (pv 2) d_int (fun _ _ => rfl) (ls_see (ls_cons ls_nil))) (d_var 1 (pv 1)) (ls_cons (ls_cons ls_nil))) (d_one (d_cmp (op_eqD hr.units) sc_eq (d_ix (d_ix (pv 0) (d_ix (pv 2) d_int (fun _ _ => rfl) (ls_see (ls_cons ls_nil))) (fun _ _ => rfl) (ls_see (ls_cons ls_nil))) d_int (fun _ _ => rfl) (ls_cons (ls_cons ls_nil))) d_str (nomark _) (ls_cons (ls_cons ls_nil)))))) dss_nil) dss_nil) (dss_cons (ds_if (dt_cmp (op_eqD hr.units) sc_eq (d_ix (pv 2) d_int (fun _ _ => rfl) (ls_see (ls_cons ls_nil))) d_str (nomark _) (ls_cons (ls_cons ls_nil))) (dss_cons (ds_set (i := 3) sc_look.nd rfl (.inl rfl) (d_fz (c_callM T.c_tiers_right (hr.mono (by decide)) (by rfl) (n_cons n_nil) (da_cons (d_ix (pv 2) d_int (fun _ _ => rfl) (ls_see (ls_cons ls_nil))) da_nil)))) dss_nil) dss_nil) (dss_cons (ds_if (dt_not (dt_val (d_var 3 (pv 3)))) (dss_cons ds_never dss_nil) dss_nil) (dss_kill dss_nil)))))) (dss_kill dss_nil))
theorem ok_choices {f : Addr} {fd : FuncData} (F : Fun K "choices" "choices" (topS 9) f fd) (T : T_choices P w K mg base) : FnG P w K mg base CX0 1 f fd ["places"] (spOf K (List.replicate 1 false) sem_choices) :=
  okD F sc_choices rfl fun cdv A outer s H E hr =>
    (dss_cons (ds_set (i := 1) sc_choices.nd rfl (.inl rfl) (d_lst (da_cons (d_lst da_nil) da_nil))) (dss_cons (ds_for PassesOwn.never rfl (di_list (d_var 0 (pv 0))) (dg_name (i := 2) sc_choices.nd rfl (.inr rfl)) (dss_cons (ds_dbl (i := 1) (r := 3) (y := 2) sc_choices.nd rfl (.inl rfl) (pe_op op_addA (pv 1) (pe_lc (own := [("row", 3)]) (g := gName 3) (tt := tYes) rfl sc_choices.nd (pi_list (pv 1)) (blkOk_by (own := [("row", 3)]) (N := N_choices) (sc := defScope (topS 9)) (by decide +kernel)) (fun _ _ _ _ _ => pg_name (i := 3) sc_choices.nd rfl (.inl rfl)) (fun _ _ _ _ _ => pts_nil) (fun _ _ _ _ _ => pe_op op_cat (pv 3) (pe_lst (pa_cons (pv 2) pa_nil)))))) (dss_kill dss_nil))) (dss_kill (dss_cons (ds_ret (d_callBA (cr_sortD (hu65 hr)) al_srt (by rfl) T.z_sorted bb_sorted (da_mv (pv 1) da_nil))) dss_nil))))
theorem ok_adds_of {f : Addr} {fd : FuncData} (F : Fun K "adds_of" "adds_of" (topS 8) f fd) (T : T_adds_of P w K mg base) : FnG P w K mg base CX0 1 f fd ["shop", "place"] (spOf K (List.replicate 2 false) sem_adds_of) :=
  okD F sc_adds_of rfl fun cdv A outer s H E hr =>
    (dss_cons (ds_ret (d_lc (own := [("k", 2), ("offer", 3)]) rfl sc_adds_of.nd (di_enum (by rfl) T.z_enumerate (da_cons (d_var 0 (pv 0)) da_nil)) (blkOk_by (own := [("k", 2), ("offer", 3)]) (N := N_adds_of) (sc := defScope (topS 8)) (by decide +kernel)) (fun _ _ _ _ _ => (dg_tup rfl (dgs_cons (dg_name (i := 2) sc_adds_of.nd rfl (.inl rfl)) (dgs_cons (dg_name (i := 3) sc_adds_of.nd rfl (.inl rfl)) dgs_nil)))) (fun _ _ _ _ _ => (dts_one (PW.pt (dw_and (dt_cmp (op_eqD hr.units) sc_eq (d_ix (pv 3) d_int (fun _ _ => rfl) (ls_see (ls_cons ls_nil))) d_str (nomark _) (ls_cons (ls_cons ls_nil))) (dw_and1 (dt_cmp (op_eqD hr.units) sc_eq (d_ix (pv 3) d_int (fun _ _ => rfl) (ls_see (ls_cons ls_nil))) (pv 1) (nomark _) (ls_cons (ls_see ls_nil)))))))) (fun _ _ _ _ _ => (d_var 2 (pv 2))))) dss_nil)
theorem ok_lines {f : Addr} {fd : FuncData} (F : Fun K "lines" "lines" (topS 10) f fd) (T : T_lines P w K mg base) : FnG P w K mg base CX0 3 f fd ["shop"] (spOf K (List.replicate 1 false) sem_lines) :=
  okD F sc_lines rfl fun cdv A outer s H E hr =>
    (dss_cons (ds_expr (c_callM T.c_look (hr.mono (by decide)) (by rfl) (n_cons n_nil) (da_cons (d_var 0 (pv 0)) da_nil))) (dss_cons (ds_set (i := 1) sc_lines.nd rfl (.inl rfl) (d_lst da_nil)) (dss_cons (ds_for PassesOwn.never rfl (di_frz (di_enum (by rfl) T.z_enumerate (da_cons (d_var 0 (pv 0)) da_nil))) (dg_tup rfl (dgs_cons (dg_name (i := 2) sc_lines.nd rfl (.inr rfl)) (dgs_cons (dg_name (i := 3) sc_lines.nd rfl (.inl rfl)) dgs_nil))) (dss_cons (ds_if (dt_cmp (op_eqD hr.units) sc_eq (d_ix (pv 3) d_int (fun _ _ => rfl) (ls_see (ls_cons ls_nil))) d_str (nomark _) (ls_cons (ls_cons ls_nil))) (dss_cons (ds_expr (d_up PySem.F.slot_list_extend PySem.F.type_list_extend mt_extend up_ext (pv 1) (da_cons (d_lc (own := [("adds", 4)]) rfl sc_lines.nd (di_frz (di_list (c_callM T.c_choices (hr.mono (by decide)) (by rfl) (n_cons n_nil) (da_cons (d_fz (c_callM T.c_adds_of (hr.mono (by decide)) (by rfl) (n_cons (n_cons n_nil)) (da_cons (d_var 0 (pv 0)) (da_cons (d_var 2 (pv 2)) da_nil)))) da_nil)))) (blkOk_by (own := [("adds", 4)]) (N := N_lines) (sc := defScope (topS 10)) (by decide +kernel)) (fun _ _ _ _ _ => (dg_name (i := 4) sc_lines.nd rfl (.inl rfl))) (fun _ _ _ _ _ => dts_nil) (fun _ _ _ _ _ => (d_tup (da_cons (d_var 2 (pv 2)) (da_cons d_int (da_mv (pv 4) da_nil)))))) da_nil))) dss_nil) dss_nil) (dss_cons (ds_if (dt_cmp (op_eqD hr.units) sc_eq (d_ix (pv 3) d_int (fun _ _ => rfl) (ls_see (ls_cons ls_nil))) d_str (nomark _) (ls_cons (ls_cons ls_nil))) (dss_cons (ds_expr (d_up PySem.F.slot_list_extend PySem.F.type_list_extend mt_extend up_ext (pv 1) (da_cons (d_lc (own := [("count", 5)]) rfl sc_lines.nd (di_frz (di_r2 (by rfl) T.z_range (dl_cons d_int (dl_cons (d_add (d_globI (by rfl) T.g_MOST) d_int (as_cons (as_cons as_nil))) dl_nil)))) (blkOk_by (own := [("count", 5)]) (N := N_lines) (sc := defScope (topS 10)) (by decide +kernel)) (fun _ _ _ _ _ => (dg_name (i := 5) sc_lines.nd rfl (.inl rfl))) (fun _ _ _ _ _ => dts_nil) (fun _ _ _ _ _ => (d_tup (da_cons (d_var 2 (pv 2)) (da_cons (d_var 5 (pv 5)) (da_cons (d_lst da_nil) da_nil)))))) da_nil))) dss_nil) dss_nil) (dss_kill dss_nil)))) (dss_kill (dss_cons (ds_ret (d_mv 1 (pv 1))) dss_nil)))))
theorem ok_tier_price {f : Addr} {fd : FuncData} (F : Fun K "tier_price" "tier_price" (topS 13) f fd) (T : T_tier_price P w K mg base) : FnG P w K mg base CX0 1 f fd ["tiers", "count"] (spOf K (List.replicate 2 false) sem_tier_price) :=
  okD F sc_tier_price rfl fun cdv A outer s H E hr =>
    (dss_cons (ds_ret (d_ix (d_lc (own := [("start", 2), ("price", 3)]) rfl sc_tier_price.nd (di_list (d_var 0 (pv 0))) (blkOk_by (own := [("start", 2), ("price", 3)]) (N := N_tier_price) (sc := defScope (topS 13)) (by decide +kernel)) (fun _ _ _ _ _ => (dg_tup rfl (dgs_cons (dg_name (i := 2) sc_tier_price.nd rfl (.inl rfl)) (dgs_cons (dg_name (i := 3) sc_tier_price.nd rfl (.inl rfl)) dgs_nil)))) (fun _ _ _ _ _ => (dts_one (dt_cmp op_le sc_le (pv 2) (pv 1) (nomark _) (ls_see (ls_see ls_nil))))) (fun _ _ _ _ _ => (d_var 3 (pv 3)))) (d_un un_neg sc_neg d_int (ls_cons ls_nil)) (fun _ _ => rfl) (ls_cons (ls_cons ls_nil)))) dss_nil)
theorem ok_line_price {f : Addr} {fd : FuncData} (F : Fun K "line_price" "line_price" (topS 14) f fd) (T : T_line_price P w K mg base) : FnG P w K mg base CX0 3 f fd ["shop", "line"] (spOf K (List.replicate 2 false) sem_line_price) :=
  okD F sc_line_price rfl fun cdv A outer s H E hr =>
    (dss_cons (ds_expr (c_callM T.c_look (hr.mono (by decide)) (by rfl) (n_cons n_nil) (da_cons (d_var 0 (pv 0)) da_nil))) (dss_cons (ds_asg (d_var 1 (pv 1)) (dg_tup rfl (dgs_cons (dg_name (i := 2) sc_line_price.nd rfl (.inl rfl)) (dgs_cons (dg_name (i := 3) sc_line_price.nd rfl (.inl rfl)) (dgs_cons (dg_name (i := 4) sc_line_price.nd rfl (.inl rfl)) dgs_nil))))) (dss_cons (ds_if (dt_cmp (op_eqD hr.units) sc_eq (d_ix (d_ix (pv 0) (pv 2) (fun _ _ => rfl) (ls_see (ls_see ls_nil))) d_int (fun _ _ => rfl) (ls_cons (ls_cons ls_nil))) d_str (nomark _) (ls_cons (ls_cons ls_nil))) (dss_cons (ds_ret (d_op op_mulA sc_mul (pv 3) (c_callM T.c_tier_price (hr.mono (by decide)) (by rfl) (n_cons (n_cons n_nil)) (da_cons (d_ix (d_ix (pv 0) (pv 2) (fun _ _ => rfl) (ls_see (ls_see ls_nil))) d_int (fun _ _ => rfl) (ls_cons (ls_cons ls_nil))) (da_cons (d_var 3 (pv 3)) da_nil))) (ls_see (ls_cons ls_nil)))) dss_nil) dss_nil) (dss_cons (ds_ret (d_add (d_ix (d_ix (pv 0) (pv 2) (fun _ _ => rfl) (ls_see (ls_see ls_nil))) d_int (fun _ _ => rfl) (ls_cons (ls_cons ls_nil))) (d_callB (cr_sum rfl) sc_sum (by rfl) T.z_sum bb_sum (dl_cons (d_lc (own := [("add", 5)]) rfl sc_line_price.nd (di_list (d_var 4 (pv 4))) (blkOk_by (own := [("add", 5)]) (N := N_line_price) (sc := defScope (topS 14)) (by decide +kernel)) (fun _ _ _ _ _ => (dg_name (i := 5) sc_line_price.nd rfl (.inl rfl))) (fun _ _ _ _ _ => dts_nil) (fun _ _ _ _ _ => (d_ix (d_ix (pv 0) (pv 5) (fun _ _ => rfl) (ls_see (ls_see ls_nil))) d_int (fun _ _ => rfl) (ls_cons (ls_cons ls_nil))))) dl_nil)) (as_cons (as_cons as_nil)))) dss_nil))))
theorem ok_put_together {f : Addr} {fd : FuncData} (F : Fun K "put_together" "put_together" (topS 11) f fd) (T : T_put_together P w K mg base) : FnG P w K mg base CX0 1 f fd ["one", "other"] (spOf K (List.replicate 2 false) sem_put_together) :=
  okD F sc_put_together rfl fun cdv A outer s H E hr =>
    (dss_cons (ds_ret (d_lc (own := [("a", 2), ("b", 3)]) rfl sc_put_together.nd (di_zip (by rfl) T.z_zip (da_cons (d_var 0 (pv 0)) (da_cons (d_var 1 (pv 1)) da_nil))) (blkOk_by (own := [("a", 2), ("b", 3)]) (N := N_put_together) (sc := defScope (topS 11)) (by decide +kernel)) (fun _ _ _ _ _ => (dg_tup rfl (dgs_cons (dg_name (i := 2) sc_put_together.nd rfl (.inl rfl)) (dgs_cons (dg_name (i := 3) sc_put_together.nd rfl (.inl rfl)) dgs_nil)))) (fun _ _ _ _ _ => dts_nil) (fun _ _ _ _ _ => (d_add (d_var 2 (pv 2)) (d_var 3 (pv 3)) (as_cons (as_cons as_nil)))))) dss_nil)
theorem ok_line_content {f : Addr} {fd : FuncData} (F : Fun K "line_content" "line_content" (topS 12) f fd) (T : T_line_content P w K mg base) : FnG P w K mg base CX0 3 f fd ["shop", "line"] (spOf K (List.replicate 2 false) sem_line_content) :=
  okD F sc_line_content rfl fun cdv A outer s H E hr =>
    (dss_cons (ds_expr (c_callM T.c_look (hr.mono (by decide)) (by rfl) (n_cons n_nil) (da_cons (d_var 0 (pv 0)) da_nil))) (dss_cons (ds_asg (d_var 1 (pv 1)) (dg_tup rfl (dgs_cons (dg_name (i := 2) sc_line_content.nd rfl (.inl rfl)) (dgs_cons (dg_name (i := 3) sc_line_content.nd rfl (.inr rfl)) (dgs_cons (dg_name (i := 4) sc_line_content.nd rfl (.inl rfl)) dgs_nil))))) (dss_cons (ds_setLc (i := 5) (own := [("number", 6)]) rfl sc_line_content.nd rfl rfl (sw_true rfl rfl rfl (by decide +kernel)) (di_list (d_ix (d_ix (pv 0) (pv 2) (fun _ _ => rfl) (ls_see (ls_see ls_nil))) d_int (fun _ _ => rfl) (ls_cons (ls_cons ls_nil)))) (blkOk_by (own := [("number", 6)]) (N := N_line_content) (sc := defScope (topS 12)) (by decide +kernel)) (fun _ _ _ _ _ => (dg_name (i := 6) sc_line_content.nd rfl (.inl rfl))) (fun _ _ _ _ _ => dts_nil) (fun _ _ _ _ _ => (d_op op_mulA sc_mul (pv 3) (pv 6) (ls_see (ls_see ls_nil))))) (dss_cons (ds_for PassesOwn.never rfl (di_list (d_var 4 (pv 4))) (dg_name (i := 7) sc_line_content.nd rfl (.inl rfl)) (dss_cons (ds_set (i := 5) sc_line_content.nd rfl (.inl rfl) (c_callM T.c_put_together (hr.mono (by decide)) (by rfl) (n_cons (n_cons n_nil)) (da_cons (d_var 5 (pv 5)) (da_cons (d_ix (d_ix (pv 0) (pv 7) (fun _ _ => rfl) (ls_see (ls_see ls_nil))) d_int (fun _ _ => rfl) (ls_cons (ls_cons ls_nil))) da_nil)))) (dss_kill dss_nil))) (dss_kill (dss_cons (ds_ret (d_mv 5 (pv 5))) dss_nil))))))
theorem ok_goods {f : Addr} {fd : FuncData} (F : Fun K "goods" "goods" (topS 19) f fd) (T : T_goods P w K mg base) : FnG P w K mg base CX0 4 f fd ["shop"] (spOf K (List.replicate 1 false) sem_goods) :=
  okD F sc_goods rfl fun cdv A outer s H E hr =>
    (dss_cons (ds_ret (d_lc (own := [("line", 1)]) rfl sc_goods.nd (di_frz (di_list (d_fz (c_callM T.c_lines (hr.mono (by decide)) (by rfl) (n_cons n_nil) (da_cons (d_var 0 (pv 0)) da_nil))))) (blkOk_by (own := [("line", 1)]) (N := N_goods) (sc := defScope (topS 19)) (by decide +kernel)) (fun _ _ _ _ _ => (dg_name (i := 1) sc_goods.nd rfl (.inl rfl))) (fun _ _ _ _ _ => dts_nil) (fun _ _ _ _ _ => (d_tup (da_cons (d_var 1 (pv 1)) (da_cons (c_callM T.c_line_content (hr.mono (by decide)) (by rfl) (n_cons (n_cons n_nil)) (da_cons (d_var 0 (pv 0)) (da_cons (d_var 1 (pv 1)) da_nil))) (da_cons (c_callM T.c_line_price (hr.mono (by decide)) (by rfl) (n_cons (n_cons n_nil)) (da_cons (d_var 0 (pv 0)) (da_cons (d_var 1 (pv 1)) da_nil))) da_nil))))))) dss_nil)
theorem ok_lesser {f : Addr} {fd : FuncData} (F : Fun K "lesser" "lesser" (topS 17) f fd) (T : T_lesser P w K mg base) : FnG P w K mg base CX0 1 f fd ["want"] (spOf K (List.replicate 1 false) sem_lesser) :=
  okD F sc_lesser rfl fun cdv A outer s H E hr =>
    (dss_cons (ds_set (i := 1) sc_lesser.nd rfl (.inl rfl) (d_lst (da_cons (d_lst da_nil) da_nil))) (dss_cons (ds_for PassesOwn.never rfl (di_list (d_var 0 (pv 0))) (dg_name (i := 2) sc_lesser.nd rfl (.inl rfl)) (dss_cons (ds_set (i := 3) sc_lesser.nd rfl (.inl rfl) (d_lst da_nil)) (dss_cons (ds_for PassesOwn.never rfl (di_frz (di_list (d_var 1 (pv 1)))) (dg_name (i := 4) sc_lesser.nd rfl (.inr rfl)) (dss_cons (ds_expr (d_up PySem.F.slot_list_extend PySem.F.type_list_extend mt_extend up_ext (pv 3) (da_cons (d_lc (own := [("number", 5)]) rfl sc_lesser.nd (di_frz (di_r1 (by rfl) T.z_range (dl_cons (d_add (d_var 2 (pv 2)) d_int (as_cons (as_cons as_nil))) dl_nil))) (blkOk_by (own := [("number", 5)]) (N := N_lesser) (sc := defScope (topS 17)) (by decide +kernel)) (fun _ _ _ _ _ => (dg_name (i := 5) sc_lesser.nd rfl (.inl rfl))) (fun _ _ _ _ _ => dts_nil) (fun _ _ _ _ _ => (d_add (d_var 4 (pv 4)) (d_lst (da_cons (d_var 5 (pv 5)) da_nil)) (as_cons (as_cons as_nil))))) da_nil))) (dss_kill dss_nil))) (dss_kill (dss_cons (ds_set (i := 1) sc_lesser.nd rfl (.inl rfl) (d_mv 3 (pv 3))) (dss_kill dss_nil)))))) (dss_kill (dss_cons (ds_ret (d_mv 1 (pv 1))) dss_nil))))
theorem ok_rest {f : Addr} {fd : FuncData} (F : Fun K "rest" "rest" (topS 16) f fd) (T : T_rest P w K mg base) : FnG P w K mg base CX0 1 f fd ["want", "content"] (spOf K (List.replicate 2 false) sem_rest) :=
  okD F sc_rest rfl fun cdv A outer s H E hr =>
    (dss_cons (ds_ret (d_lc (own := [("need", 2), ("have", 3)]) rfl sc_rest.nd (di_zip (by rfl) T.z_zip (da_cons (d_var 0 (pv 0)) (da_cons (d_var 1 (pv 1)) da_nil))) (blkOk_by (own := [("need", 2), ("have", 3)]) (N := N_rest) (sc := defScope (topS 16)) (by decide +kernel)) (fun _ _ _ _ _ => (dg_tup rfl (dgs_cons (dg_name (i := 2) sc_rest.nd rfl (.inl rfl)) (dgs_cons (dg_name (i := 3) sc_rest.nd rfl (.inl rfl)) dgs_nil)))) (fun _ _ _ _ _ => dts_nil) (fun _ _ _ _ _ => (d_callB (call_maxA rfl) sc_max (by rfl) T.z_max bb_max (dl_cons d_int (dl_cons (d_op op_sub sc_sub (pv 2) (pv 3) (ls_see (ls_see ls_nil))) dl_nil)))))) dss_nil)
theorem ok_best_of {f : Addr} {fd : FuncData} (F : Fun K "best_of" "best_of" (topS 20) f fd) (T : T_best_of P w K mg base) : FnG P w K mg base CX0 2 f fd ["all_goods", "found", "want"] (spOf K [false, true, false] sem_best_of) :=
  okD F sc_best_of rfl fun cdv A outer s H E hr =>
    (dss_cons (ds_set (i := 3) sc_best_of.nd rfl (.inl rfl) d_non) (dss_cons (ds_for PassesOwn.never rfl (di_frz (di_list (d_var 0 (pv 0)))) (dg_tup rfl (dgs_cons (dg_name (i := 4) sc_best_of.nd rfl (.inl rfl)) (dgs_cons (dg_name (i := 5) sc_best_of.nd rfl (.inl rfl)) (dgs_cons (dg_name (i := 6) sc_best_of.nd rfl (.inl rfl)) dgs_nil)))) (dss_cons (ds_set (i := 7) sc_best_of.nd rfl (.inl rfl) (d_fz (c_callM T.c_rest (hr.mono (by decide)) (by rfl) (n_cons (n_cons n_nil)) (da_cons (d_var 2 (pv 2)) (da_cons (d_var 5 (pv 5)) da_nil))))) (dss_cons (ds_if (PW.pt (dw_and (dt_cmp (op_neD hr.units) sc_ne (pv 7) (pv 2) (nomark _) (ls_see (ls_see ls_nil))) (dw_and1 (dt_cmp op_notN sc_notN (d_dget (hu65 hr) (pv 1) (d_callTyA call_tuple_of al_tuple (by rfl) T.z_tuple bb_tuple (da_cons (d_var 7 (pv 7)) da_nil)) (fun _ _ => rfl)) d_non (nomark _) (ls_cons (ls_cons ls_nil)))))) (dss_cons (ds_set (i := 8) sc_best_of.nd rfl (.inl rfl) (d_fz (d_add (d_var 6 (pv 6)) (d_ix (d_dget (hu65 hr) (pv 1) (d_callTyA call_tuple_of al_tuple (by rfl) T.z_tuple bb_tuple (da_cons (d_var 7 (pv 7)) da_nil)) (fun _ _ => rfl)) d_int (fun _ _ => rfl) (ls_cons (ls_cons ls_nil))) (as_cons (as_cons as_nil))))) (dss_cons (ds_if (PW.pt (dw_or (dt_cmp op_isN sc_isN (pv 3) d_non (nomark _) (ls_see (ls_cons ls_nil))) (dw_or1 (dt_cmp op_lt sc_lt (pv 8) (d_ix (pv 3) d_int (fun _ _ => rfl) (ls_see (ls_cons ls_nil))) (nomark _) (ls_see (ls_cons ls_nil)))))) (dss_cons (ds_set (i := 3) sc_best_of.nd rfl (.inl rfl) (d_tup (da_cons (d_var 8 (pv 8)) (da_cons (d_var 4 (pv 4)) da_nil)))) dss_nil) dss_nil) dss_nil)) dss_nil) (dss_kill dss_nil)))) (dss_kill (dss_cons (ds_ret (d_mv 3 (pv 3))) dss_nil))))
theorem ok_reckoned {f : Addr} {fd : FuncData} (F : Fun K "reckoned" "reckoned" (topS 21) f fd) (T : T_reckoned P w K mg base) : FnG P w K mg base CX0 5 f fd ["shop", "want"] (spOf K (List.replicate 2 false) sem_reckoned) :=
  okD F sc_reckoned rfl fun cdv A outer s H E hr =>
    (dss_cons (ds_set (i := 2) sc_reckoned.nd rfl (.inl rfl) (d_fz (c_callM T.c_goods (hr.mono (by decide)) (by rfl) (n_cons n_nil) (da_cons (d_var 0 (pv 0)) da_nil)))) (dss_cons (ds_set (i := 3) sc_reckoned.nd rfl (.inl rfl) (d_dnT)) (dss_cons (ds_for PassesOwn.never rfl (di_frz (di_list (d_fz (c_callM T.c_lesser (hr.mono (by decide)) (by rfl) (n_cons n_nil) (da_cons (d_var 1 (pv 1)) da_nil))))) (dg_name (i := 4) sc_reckoned.nd rfl (.inl rfl)) (dss_cons (ds_if (dt_cmp (op_eqD hr.units) sc_eq (d_callB (cr_sum rfl) sc_sum (by rfl) T.z_sum bb_sum (dl_see (pv 4) dl_nil)) d_int (nomark _) (ls_cons (ls_cons ls_nil))) (dss_cons (ds_dput (hu65 hr) (d_fz (d_tup (da_cons d_int (da_cons d_non da_nil)))) (pv 3) (d_callTyA call_tuple_of al_tuple (by rfl) T.z_tuple bb_tuple (da_cons (d_var 4 (pv 4)) da_nil))) dss_nil) (dss_cons (ds_dput (hu65 hr) (d_fz (c_callR T.c_best_of (hr.mono (by decide)) (by rfl) (dr_cons (d_var 2 (pv 2)) (dr_ref (pv 3) (dr_cons (d_var 4 (pv 4)) dr_nil))))) (pv 3) (d_callTyA call_tuple_of al_tuple (by rfl) T.z_tuple bb_tuple (da_cons (d_var 4 (pv 4)) da_nil))) dss_nil)) (dss_kill dss_nil))) (dss_kill (dss_cons (ds_ret (d_mv 3 (pv 3))) dss_nil)))))
theorem ok_own_line {f : Addr} {fd : FuncData} (F : Fun K "own_line" "own_line" (topS 22) f fd) (T : T_own_line P w K mg base) : FnG P w K mg base CX0 1 f fd ["line"] (spOf K (List.replicate 1 false) sem_own_line) :=
  okD F sc_own_line rfl fun cdv A outer s H E hr =>
    (dss_cons (ds_ret (d_tup (da_cons (d_ix (pv 0) d_int (fun _ _ => rfl) (ls_see (ls_cons ls_nil))) (da_cons (d_ix (pv 0) d_int (fun _ _ => rfl) (ls_see (ls_cons ls_nil))) (da_cons (d_callTyA call_list_of al_list (by rfl) T.z_list bb_list (da_cons (d_ix (pv 0) d_int (fun _ _ => rfl) (ls_see (ls_cons ls_nil))) da_nil)) da_nil))))) dss_nil)
theorem ok_least {f : Addr} {fd : FuncData} (F : Fun K "least" "least" (topS 23) f fd) (T : T_least P w K mg base) : FnG P w K mg base CX0 6 f fd ["shop", "want"] (spOf K (List.replicate 2 false) sem_least) :=
  okD F sc_least rfl fun cdv A outer s H E hr =>
    (dss_cons (ds_set (i := 2) sc_least.nd rfl (.inl rfl) (c_callM T.c_reckoned (hr.mono (by decide)) (by rfl) (n_cons (n_cons n_nil)) (da_cons (d_var 0 (pv 0)) (da_cons (d_var 1 (pv 1)) da_nil)))) (dss_cons (ds_set (i := 3) sc_least.nd rfl (.inl rfl) (d_dget (hu65 hr) (pv 2) (d_callTyA call_tuple_of al_tuple (by rfl) T.z_tuple bb_tuple (da_cons (d_var 1 (pv 1)) da_nil)) (fun _ _ => rfl))) (dss_cons (ds_if (dt_cmp op_isN sc_isN (pv 3) d_non (nomark _) (ls_see (ls_cons ls_nil))) (dss_cons (ds_ret d_non) dss_nil) dss_nil) (dss_cons (ds_set (i := 4) sc_least.nd rfl (.inl rfl) (d_ix (pv 3) d_int (fun _ _ => rfl) (ls_see (ls_cons ls_nil)))) (dss_cons (ds_set (i := 5) sc_least.nd rfl (.inl rfl) (d_lst da_nil)) (dss_cons (ds_set (i := 6) sc_least.nd rfl (.inl rfl) (d_fz (d_callTyA call_list_of al_list (by rfl) T.z_list bb_list (da_cons (d_var 1 (pv 1)) da_nil)))) (dss_frz (dss_cons (ds_while PassesOwn.never (dt_cmp op_notN sc_notN (d_ix (pv 3) d_int (fun _ _ => rfl) (ls_see (ls_cons ls_nil))) d_non (nomark _) (ls_cons (ls_cons ls_nil))) (dss_cons (ds_expr (d_up PySem.F.slot_list_append PySem.F.type_list_append mt_append up_app (pv 5) (da_cons (c_callM T.c_own_line (hr.mono (by decide)) (by rfl) (n_cons n_nil) (da_cons (d_ix (pv 3) d_int (fun _ _ => rfl) (ls_see (ls_cons ls_nil))) da_nil)) da_nil))) (dss_cons (ds_set (i := 6) sc_least.nd rfl (.inl rfl) (d_fz (c_callM T.c_rest (hr.mono (by decide)) (by rfl) (n_cons (n_cons n_nil)) (da_cons (d_var 6 (pv 6)) (da_cons (d_fz (c_callM T.c_line_content (hr.mono (by decide)) (by rfl) (n_cons (n_cons n_nil)) (da_cons (d_var 0 (pv 0)) (da_cons (d_ix (pv 3) d_int (fun _ _ => rfl) (ls_see (ls_cons ls_nil))) da_nil)))) da_nil))))) (dss_cons (ds_set (i := 3) sc_least.nd rfl (.inl rfl) (d_dget (hu65 hr) (pv 2) (d_callTyA call_tuple_of al_tuple (by rfl) T.z_tuple bb_tuple (da_cons (d_var 6 (pv 6)) da_nil)) (fun _ _ => rfl))) dss_nil)))) (dss_kill (dss_cons (ds_ret (d_tup (da_cons (d_var 4 (pv 4)) (da_cons (d_callBA (cr_sortD (hu65 hr)) al_srt (by rfl) T.z_sorted bb_sorted (da_mv (pv 5) da_nil)) da_nil)))) dss_nil))))))))))
theorem ok__law_right_1657 {f : Addr} {fd : FuncData} (F : Fun K "_law_right" "_law_right" (topS 41) f fd) (T : T__law_right_1657 P w K mg base) : FnG P w K mg base CX0 3 f fd ["_law_shop_here", "_law_want_here", "_law_found", "_law_number"] (spOf K (List.replicate 4 false) sem__law_right_1657) :=
  okD F sc__law_right_1657 rfl fun cdv A outer s H E hr =>
    (dss_cons (ds_if (PW.pt (dw_or (dt_not (dt_val (d_isi isi_tuple (by rfl) T.z_isinstance (d_ty (by rfl) T.z_tuple bb_tuple) (pv 2) (ls_see ls_nil)))) (dw_or (dt_cmp (op_neD hr.units) sc_ne (d_callB call_len sc_len (by rfl) T.z_len bb_len (dl_see (pv 2) dl_nil)) d_int (nomark _) (ls_cons (ls_cons ls_nil))) (dw_or1 (dt_not (dt_val (d_isi isi_list (by rfl) T.z_isinstance (d_ty (by rfl) T.z_list bb_list) (d_ix (pv 2) d_int (fun _ _ => rfl) (ls_see (ls_cons ls_nil))) (ls_cons ls_nil)))))))) (dss_cons (ds_ret d_bl) dss_nil) dss_nil) (dss_cons (ds_if (dt_cmp (op_neD hr.units) sc_ne (d_callTy (call_strA (hu65 hr) hr.gd) sc_strD (by rfl) T.z_str bb_str (dl_cons (d_ix (pv 2) d_int (fun _ _ => rfl) (ls_see (ls_cons ls_nil))) dl_nil)) (d_callTy (call_strA (hu65 hr) hr.gd) sc_strD (by rfl) T.z_str bb_str (dl_see (pv 3) dl_nil)) (nomark _) (ls_cons (ls_cons ls_nil))) (dss_cons (ds_ret d_bl) dss_nil) dss_nil) (dss_cons (ds_set (i := 4) sc__law_right_1657.nd rfl (.inr rfl) (d_fz (c_callM T.c__law_lines (hr.mono (by decide)) (by rfl) (n_cons n_nil) (da_cons (d_var 0 (pv 0)) da_nil)))) (dss_cons (ds_set (i := 5) sc__law_right_1657.nd rfl (.inr rfl) (d_fz (d_lc (own := [("_law_line", 6), ("_law_content_here", 7), ("_law_price_here", 8)]) rfl sc__law_right_1657.nd (di_list (d_var 4 (pv 4))) (blkOk_by (own := [("_law_line", 6), ("_law_content_here", 7), ("_law_price_here", 8)]) (N := N__law_right_1657) (sc := defScope (topS 41)) (by decide +kernel)) (fun _ _ _ _ _ => (dg_tup rfl (dgs_cons (dg_name (i := 6) sc__law_right_1657.nd rfl (.inl rfl)) (dgs_cons (dg_name (i := 7) sc__law_right_1657.nd rfl (.inl rfl)) (dgs_cons (dg_name (i := 8) sc__law_right_1657.nd rfl (.inl rfl)) dgs_nil))))) (fun _ _ _ _ _ => dts_nil) (fun _ _ _ _ _ => (d_callTy (call_strA (hu65 hr) hr.gd) sc_strD (by rfl) T.z_str bb_str (dl_see (pv 6) dl_nil)))))) (dss_cons (ds_setLcF (i := 9) (own := [("_law_line", 6)]) rfl sc__law_right_1657.nd rfl rfl (sw_true rfl rfl rfl (by decide +kernel)) (di_list (d_ix (pv 2) d_int (fun _ _ => rfl) (ls_see (ls_cons ls_nil)))) (blkOk_by (own := [("_law_line", 6)]) (N := N__law_right_1657) (sc := defScope (topS 41)) (by decide +kernel)) (fun _ _ _ _ _ => (dg_name (i := 6) sc__law_right_1657.nd rfl (.inl rfl))) (fun _ _ _ _ _ => (dts_one (dt_cmp (op_inA (hu65 hr)) sc_in (d_callTy (call_strA (hu65 hr) hr.gd) sc_strD (by rfl) T.z_str bb_str (dl_see (pv 6) dl_nil)) (pv 5) (by rfl) (ls_cons (ls_see ls_nil))))) (fun _ _ _ _ _ => (d_lm PySem.F.slot_list_index PySem.F.type_list_index (mt_indexD (hu65 hr)) sc_index (pv 5) (dl_cons (d_callTy (call_strA (hu65 hr) hr.gd) sc_strD (by rfl) T.z_str bb_str (dl_see (pv 6) dl_nil)) dl_nil)))) (dss_cons (ds_if (PW.pt (dw_or (dt_cmp (op_neD hr.units) sc_ne (d_callB call_len sc_len (by rfl) T.z_len bb_len (dl_see (pv 9) dl_nil)) (d_callB call_len sc_len (by rfl) T.z_len bb_len (dl_cons (d_ix (pv 2) d_int (fun _ _ => rfl) (ls_see (ls_cons ls_nil))) dl_nil)) (nomark _) (ls_cons (ls_cons ls_nil))) (dw_or1 (dt_cmp (op_neD hr.units) sc_ne (pv 9) (d_callBA (cr_sortD (hu65 hr)) al_srt (by rfl) T.z_sorted bb_sorted (da_cons (d_var 9 (pv 9)) da_nil)) (nomark _) (ls_see (ls_cons ls_nil)))))) (dss_cons (ds_ret d_bl) dss_nil) dss_nil) (dss_cons (ds_set (i := 10) sc__law_right_1657.nd rfl (.inr rfl) (d_fz (d_lc (own := [("_law_thing", 11)]) rfl sc__law_right_1657.nd (di_list (d_var 1 (pv 1))) (blkOk_by (own := [("_law_thing", 11)]) (N := N__law_right_1657) (sc := defScope (topS 41)) (by decide +kernel)) (fun _ _ _ _ _ => (dg_name (i := 11) sc__law_right_1657.nd rfl (.inl rfl))) (fun _ _ _ _ _ => dts_nil) (fun _ _ _ _ _ => d_int)))) (dss_cons (ds_for PassesOwn.never rfl (di_list (d_var 9 (pv 9))) (dg_name (i := 12) sc__law_right_1657.nd rfl (.inl rfl)) (dss_cons (ds_set (i := 10) sc__law_right_1657.nd rfl (.inr rfl) (d_fz (c_callM T.c__law_sum (hr.mono (by decide)) (by rfl) (n_cons (n_cons n_nil)) (da_cons (d_var 10 (pv 10)) (da_cons (d_ix (d_ix (pv 4) (pv 12) (fun _ _ => rfl) (ls_see (ls_see ls_nil))) d_int (fun _ _ => rfl) (ls_cons (ls_cons ls_nil))) da_nil))))) (dss_kill dss_nil))) (dss_kill (dss_cons (ds_if (dt_cmp (op_neD hr.units) sc_ne (d_lc (own := [("_law_thing", 11)]) rfl sc__law_right_1657.nd (di_r1 (by rfl) T.z_range (dl_cons (d_callB call_len sc_len (by rfl) T.z_len bb_len (dl_see (pv 1) dl_nil)) dl_nil)) (blkOk_by (own := [("_law_thing", 11)]) (N := N__law_right_1657) (sc := defScope (topS 41)) (by decide +kernel)) (fun _ _ _ _ _ => (dg_name (i := 11) sc__law_right_1657.nd rfl (.inl rfl))) (fun _ _ _ _ _ => (dts_one (dt_cmp op_lt sc_lt (d_ix (pv 10) (pv 11) (fun _ _ => rfl) (ls_see (ls_see ls_nil))) (d_ix (pv 1) (pv 11) (fun _ _ => rfl) (ls_see (ls_see ls_nil))) (nomark _) (ls_cons (ls_cons ls_nil))))) (fun _ _ _ _ _ => (d_var 11 (pv 11)))) (d_lst da_nil) (nomark _) (ls_cons (ls_cons ls_nil))) (dss_cons (ds_ret d_bl) dss_nil) dss_nil) (dss_cons (ds_ret (d_and (d_cmp (op_eqD hr.units) sc_eq (d_callB (cr_sum rfl) sc_sum (by rfl) T.z_sum bb_sum (dl_cons (d_lc (own := [("_law_k", 12)]) rfl sc__law_right_1657.nd (di_list (d_var 9 (pv 9))) (blkOk_by (own := [("_law_k", 12)]) (N := N__law_right_1657) (sc := defScope (topS 41)) (by decide +kernel)) (fun _ _ _ _ _ => (dg_name (i := 12) sc__law_right_1657.nd rfl (.inl rfl))) (fun _ _ _ _ _ => dts_nil) (fun _ _ _ _ _ => (d_ix (d_ix (pv 4) (pv 12) (fun _ _ => rfl) (ls_see (ls_see ls_nil))) d_int (fun _ _ => rfl) (ls_cons (ls_cons ls_nil))))) dl_nil)) (pv 3) (nomark _) (ls_cons (ls_see ls_nil))) (d_one (d_or (d_cmp op_gt sc_gt (d_callB (cr_sum rfl) sc_sum (by rfl) T.z_sum bb_sum (dl_see (pv 1) dl_nil)) d_int (nomark _) (ls_cons (ls_cons ls_nil))) (d_one (d_cmp (op_eqD hr.units) sc_eq (pv 2) (d_tup (da_cons d_int (da_cons (d_lst da_nil) da_nil))) (nomark _) (ls_see (ls_cons ls_nil)))))))) dss_nil)))))))))))
theorem ok__law_behind_a235 {f : Addr} {fd : FuncData} (F : Fun K "_law_behind" "_law_behind" (topS 42) f fd) (T : T__law_behind_a235 P w K mg base) : FnG P w K mg base CX0 7 f fd ["_law_fewer", "_law_shop_here", "_law_want_here"] (spBeh K sem__law_behind_a235) :=
  okBeh F sc__law_behind_a235 rfl rfl rfl fun cdv A outer s H E hr =>
    ⟨(ds_forA (ks := [1]) PassesOwn.never rfl (pv 1) (dg_name (i := 3) sc__law_behind_a235.nd rfl (.inl rfl)) upk_rev recv1 (fun _ => rfl) (pss_upK0 PySem.F.slot_list_reverse PySem.F.type_list_reverse mt_reverse (px1 (pv 3) db_int (fun _ _ => rfl)))),
    (ds_forB PassesOwn.never rfl (pv 1) pe_int (dg_name (i := 3) sc__law_behind_a235.nd rfl (.inl rfl)) (pss_upK0 PySem.F.slot_list_pop PySem.F.type_list_pop mt_pop (pv 1))),
    (dss_cons (ds_if (dt_cmp (op_neD hr.units) sc_ne (pv 1) (pv 0) (nomark _) (ls_see (ls_see ls_nil))) (dss_cons (ds_ret d_bl) dss_nil) dss_nil) (dss_cons (ds_set (i := 4) sc__law_behind_a235.nd rfl (.inl rfl) (d_dgetE (hu65 hr) (c_callM T.c__law_table (hr.mono (by decide)) (by rfl) (n_cons (n_cons n_nil)) (da_cons (d_var 1 (pv 1)) (da_cons (d_var 2 (pv 2)) da_nil))) (d_callTyA call_tuple_of al_tuple (by rfl) T.z_tuple bb_tuple (da_cons (d_var 2 (pv 2)) da_nil)) (fun _ _ => rfl))) (dss_cons (ds_set (i := 5) sc__law_behind_a235.nd rfl (.inl rfl) (d_fz (c_callM T.c_least (hr.mono (by decide)) (by rfl) (n_cons (n_cons n_nil)) (da_cons (d_var 1 (pv 1)) (da_cons (d_var 2 (pv 2)) da_nil))))) (dss_cons (ds_if (dt_cmp op_isN sc_isN (pv 4) d_non (nomark _) (ls_see (ls_cons ls_nil))) (dss_cons (ds_ret (d_cmp op_isN sc_isN (pv 5) d_non (nomark _) (ls_see (ls_cons ls_nil)))) dss_nil) dss_nil) (dss_cons (ds_ret (d_and (d_cmp op_notN sc_notN (pv 5) d_non (nomark _) (ls_see (ls_cons ls_nil))) (d_one (d_cmp (op_eqD hr.units) sc_eq (d_ix (pv 5) d_int (fun _ _ => rfl) (ls_see (ls_cons ls_nil))) (pv 4) (nomark _) (ls_cons (ls_see ls_nil)))))) dss_nil)))))⟩
theorem ok_law_k13 {f : Addr} {fd : FuncData} (F : Fun K "law" "law" (topS 43) f fd) (T : T_law_k13 P w K mg base) : FnG P w K mg base CX0 8 f fd ["_law_script"] (spOf K (List.replicate 1 false) sem_law_k13) :=
  okD F sc_law_k13 rfl fun cdv A outer s H E hr =>
    (dss_cons (ds_asg (c_callM T.c__law_case (hr.mono (by decide)) (by rfl) (n_cons (n_cons n_nil)) (da_cons (d_var 0 (pv 0)) (da_cons d_int da_nil))) (dg_tup rfl (dgs_cons (dg_name (i := 1) sc_law_k13.nd rfl (.inl rfl)) (dgs_cons (dg_name (i := 2) sc_law_k13.nd rfl (.inl rfl)) (dgs_cons (dg_name (i := 3) sc_law_k13.nd rfl (.inl rfl)) (dgs_cons (dg_name (i := 4) sc_law_k13.nd rfl (.inl rfl)) dgs_nil)))))) (dss_iso (sg_cons (ds_set (i := 5) sc_law_k13.nd rfl (.inl rfl) (d_fz (d_callTy (call_strA (hu65 hr) hr.gd) sc_strD (by rfl) T.z_str bb_str (dl_cons (d_lst (da_cons (d_var 2 (pv 2)) (da_cons (d_var 3 (pv 3)) da_nil))) dl_nil)))) (sg_cons (ds_set (i := 6) sc_law_k13.nd rfl (.inl rfl) (d_dgetE (hu65 hr) (c_callM T.c__law_table (hr.mono (by decide)) (by rfl) (n_cons (n_cons n_nil)) (da_cons (d_var 2 (pv 2)) (da_cons (d_var 3 (pv 3)) da_nil))) (d_callTyA call_tuple_of al_tuple (by rfl) T.z_tuple bb_tuple (da_cons (d_var 3 (pv 3)) da_nil)) (fun _ _ => rfl))) (sg_cons (ds_set (i := 7) sc_law_k13.nd rfl (.inr rfl) (d_fz (c_callM T.c_least (hr.mono (by decide)) (by rfl) (n_cons (n_cons n_nil)) (da_cons (d_var 2 (pv 2)) (da_cons (d_var 3 (pv 3)) da_nil))))) (sg_cons (ds_if (dt_cmp op_isN sc_isN (pv 6) d_non (nomark _) (ls_see (ls_cons ls_nil))) (dss_cons (ds_ret (d_and (d_cmp op_isN sc_isN (pv 7) d_non (nomark _) (ls_see (ls_cons ls_nil))) (d_one (d_cmp (op_eqD hr.units) sc_eq (d_callTy (call_strA (hu65 hr) hr.gd) sc_strD (by rfl) T.z_str bb_str (dl_cons (d_lst (da_cons (d_var 2 (pv 2)) (da_cons (d_var 3 (pv 3)) da_nil))) dl_nil)) (pv 5) (nomark _) (ls_cons (ls_see ls_nil)))))) dss_nil) dss_nil) (sg_cons (ds_if (PW.pt (dw_or (dt_not (dt_val (c_callM T.c__law_right (hr.mono (by decide)) (by rfl) (n_cons (n_cons (n_cons (n_cons n_nil)))) (da_cons (d_var 2 (pv 2)) (da_cons (d_var 3 (pv 3)) (da_cons (d_var 7 (pv 7)) (da_cons (d_var 6 (pv 6)) da_nil))))))) (dw_or1 (dt_cmp (op_neD hr.units) sc_ne (d_callTy (call_strA (hu65 hr) hr.gd) sc_strD (by rfl) T.z_str bb_str (dl_cons (d_lst (da_cons (d_var 2 (pv 2)) (da_cons (d_var 3 (pv 3)) da_nil))) dl_nil)) (pv 5) (nomark _) (ls_cons (ls_see ls_nil)))))) (dss_cons (ds_ret d_bl) dss_nil) dss_nil) (sg_cons (ds_set (i := 8) sc_law_k13.nd rfl (.inl rfl) (c_callM T.c_least (hr.mono (by decide)) (by rfl) (n_cons (n_cons n_nil)) (da_cons (d_var 2 (pv 2)) (da_cons (d_var 3 (pv 3)) da_nil)))) (sg_cons (ds_if (dt_peek (dt_cmp (op_neD hr.units) sc_ne (pv 7) (pv 8) (nomark _) (ls_see (ls_see ls_nil)))) (dss_cons (ds_ret d_bl) dss_nil) dss_nil) (sg_cons (ds_forY PassesOwn.never rfl (px1 (pv 8) db_int (fun _ _ => rfl)) recv1 (dg_name (i := 9) sc_law_k13.nd rfl (.inl rfl)) (dss_cons (ds_expr (d_upK PySem.F.slot_list_append PySem.F.type_list_append mt_append upk_app recv1 (px1 (pv 9) db_int (fun _ _ => rfl)) (pure_cons pure_c pure_nil) (da_cons d_int da_nil))) dss_nil)) (sg_cons (ds_if (dt_peek (dt_cmp (op_neD hr.units) sc_ne (d_lc (own := [("_law_k", 10), ("_law_line", 9)]) rfl sc_law_k13.nd (di_enum (by rfl) T.z_enumerate (da_cons (d_ix (pv 8) d_int (fun _ _ => rfl) (ls_see (ls_cons ls_nil))) da_nil)) (blkOk_by (own := [("_law_k", 10), ("_law_line", 9)]) (N := N_law_k13) (sc := defScope (topS 43)) (by decide +kernel)) (fun _ _ _ _ _ => (dg_tup rfl (dgs_cons (dg_name (i := 10) sc_law_k13.nd rfl (.inl rfl)) (dgs_cons (dg_name (i := 9) sc_law_k13.nd rfl (.inl rfl)) dgs_nil)))) (fun _ _ _ _ _ => (dts_one (dt_cmp (op_neD hr.units) sc_ne (d_ix (pv 9) d_int (fun _ _ => rfl) (ls_see (ls_cons ls_nil))) (d_add (d_ix (d_ix (d_ix (pv 7) d_int (fun _ _ => rfl) (ls_see (ls_cons ls_nil))) (pv 10) (fun _ _ => rfl) (ls_cons (ls_see ls_nil))) d_int (fun _ _ => rfl) (ls_cons (ls_cons ls_nil))) (d_lst (da_cons d_int da_nil)) (as_cons (as_cons as_nil))) (nomark _) (ls_cons (ls_cons ls_nil))))) (fun _ _ _ _ _ => (d_var 10 (pv 10)))) (d_lst da_nil) (nomark _) (ls_cons (ls_cons ls_nil)))) (dss_cons (ds_ret d_bl) dss_nil) dss_nil) (sg_cons (ds_expr (d_upK0 PySem.F.slot_list_clear PySem.F.type_list_clear mt_clear upk_clear recv1 (px1 (pv 8) db_int (fun _ _ => rfl)))) (sg_cons (ds_set (i := 11) sc_law_k13.nd rfl (.inl rfl) (d_fz (c_callM T.c_least (hr.mono (by decide)) (by rfl) (n_cons (n_cons n_nil)) (da_cons (d_var 2 (pv 2)) (da_cons (d_var 3 (pv 3)) da_nil))))) (sg_cons (ds_expr (c_callM T.c_least (hr.mono (by decide)) (by rfl) (n_cons (n_cons n_nil)) (da_cons (d_var 2 (pv 2)) (da_cons (d_fz (d_rep (d_lst (da_cons d_int da_nil)) (d_var 1 (pv 1)) (as_cons (as_cons as_nil)))) da_nil)))) (sg_cons (ds_if (dt_cmp (op_neD hr.units) sc_ne (pv 11) (pv 7) (nomark _) (ls_see (ls_see ls_nil))) (dss_cons (ds_ret d_bl) dss_nil) dss_nil) sg_nil))))))))))))) (dss_frz (dss_cons (ds_ret (c_callBeh T.c__law_behind (hr.mono (by decide)) (by rfl) (pv 2) pe_int (pv 2) (pv 3))) dss_nil))))
end
def LawTrue : Prop := ∀ ns : List Int, ns.length ≤ 63 → sem_law_k13 [.s ns] = some (.v (.bool true), [])
theorem all_mk {l : PySem.W.OpenLaw} {w : World} {K : PySem.W.Frag} {h : Heap} {mg : Str → Option Value} {fa f0 f1 f2 f3 f4 f5 f6 f7 f8 f9 f10 f11 f12 f13 f14 f15 f16 f17 f18 f19 f20 f21 f22 f23 f24 f25 f26 f27 f28 f29 f30 f31 f32 f33 f34 : Addr} (X : K.In h) (G : h.Ns mainGlobals mg) (hfa : mg "law" = some (.ref fa))
    {od0 an0 od1 an1 od2 an2 od3 an3 od4 an4 od5 an5 od6 an6 od7 an7 od8 an8 od9 an9 od10 an10 od11 an11 od12 an12 od13 an13 od14 an14 od15 an15 od16 an16 od17 an17 od18 an18 od19 an19 od20 an20 od21 an21 od22 an22 od23 an23 od24 an24 od25 an25 od26 an26 od27 an27 od28 an28 od29 an29 od30 an30 od31 an31 od32 an32 od33 an33 od34 an34 : Option Addr} {sl0 sl1 sl2 sl3 sl4 sl5 sl6 sl7 sl8 sl9 sl10 sl11 sl12 sl13 sl14 sl15 sl16 sl17 sl18 sl19 sl20 sl21 sl22 sl23 sl24 sl25 sl26 sl27 sl28 sl29 sl30 sl31 sl32 sl33 sl34 : Array (Option Value)} {oc0 kV0 dc0 pm0 cd0 ct0 oc1 kV1 dc1 pm1 cd1 ct1 oc2 kV2 dc2 pm2 cd2 ct2 oc3 kV3 dc3 pm3 cd3 ct3 oc4 kV4 dc4 pm4 cd4 ct4 oc5 kV5 dc5 pm5 cd5 ct5 oc6 kV6 dc6 pm6 cd6 ct6 oc7 kV7 dc7 pm7 cd7 ct7 oc8 kV8 dc8 pm8 cd8 ct8 oc9 kV9 dc9 pm9 cd9 ct9 oc10 kV10 dc10 pm10 cd10 ct10 oc11 kV11 dc11 pm11 cd11 ct11 oc12 kV12 dc12 pm12 cd12 ct12 oc13 kV13 dc13 pm13 cd13 ct13 oc14 kV14 dc14 pm14 cd14 ct14 oc15 kV15 dc15 pm15 cd15 ct15 oc16 kV16 dc16 pm16 cd16 ct16 oc17 kV17 dc17 pm17 cd17 ct17 oc18 kV18 dc18 pm18 cd18 ct18 oc19 kV19 dc19 pm19 cd19 ct19 oc20 kV20 dc20 pm20 cd20 ct20 oc21 kV21 dc21 pm21 cd21 ct21 oc22 kV22 dc22 pm22 cd22 ct22 oc23 kV23 dc23 pm23 cd23 ct23 oc24 kV24 dc24 pm24 cd24 ct24 oc25 kV25 dc25 pm25 cd25 ct25 oc26 kV26 dc26 pm26 cd26 ct26 oc27 kV27 dc27 pm27 cd27 ct27 oc28 kV28 dc28 pm28 cd28 ct28 oc29 kV29 dc29 pm29 cd29 ct29 oc30 kV30 dc30 pm30 cd30 ct30 oc31 kV31 dc31 pm31 cd31 ct31 oc32 kV32 dc32 pm32 cd32 ct32 oc33 kV33 dc33 pm33 cd33 ct33 oc34 kV34 dc34 pm34 cd34 ct34 : Value}
    (a0 : PySem.W.nsIn K mainGlobals "_law_mix" = some (some (.ref f0))) (l0 : K.lookup f0 = some ⟨oc0, od0, .func (PySem.W.fnOf "_law_mix" "_law_mix" (defArgs (topS 25)) (defBody (topS 25)) (defScope (topS 25)) .none kV0 dc0 pm0 an0 cd0 ct0), sl0⟩) (c0 : PySem.W.codeIn K cd0 "_law_mix" = true) (k0 : PySem.W.keepIn K (.ref f0) = true)
    (a1 : PySem.W.nsIn K mainGlobals "_law_draws" = some (some (.ref f1))) (l1 : K.lookup f1 = some ⟨oc1, od1, .func (PySem.W.fnOf "_law_draws" "_law_draws" (defArgs (topS 26)) (defBody (topS 26)) (defScope (topS 26)) .none kV1 dc1 pm1 an1 cd1 ct1), sl1⟩) (c1 : PySem.W.codeIn K cd1 "_law_draws" = true) (k1 : PySem.W.keepIn K (.ref f1) = true)
    (a2 : PySem.W.nsIn K mainGlobals "_law_pop" = some (some (.ref f2))) (l2 : K.lookup f2 = some ⟨oc2, od2, .func (PySem.W.fnOf "_law_pop" "_law_pop" (defArgs (topS 27)) (defBody (topS 27)) (defScope (topS 27)) .none kV2 dc2 pm2 an2 cd2 ct2), sl2⟩) (c2 : PySem.W.codeIn K cd2 "_law_pop" = true) (k2 : PySem.W.keepIn K (.ref f2) = true)
    (a3 : PySem.W.nsIn K mainGlobals "_law_cut" = some (some (.ref f3))) (l3 : K.lookup f3 = some ⟨oc3, od3, .func (PySem.W.fnOf "_law_cut" "_law_cut" (defArgs (topS 28)) (defBody (topS 28)) (defScope (topS 28)) .none kV3 dc3 pm3 an3 cd3 ct3), sl3⟩) (c3 : PySem.W.codeIn K cd3 "_law_cut" = true) (k3 : PySem.W.keepIn K (.ref f3) = true)
    (a4 : PySem.W.nsIn K mainGlobals "_law_content" = some (some (.ref f4))) (l4 : K.lookup f4 = some ⟨oc4, od4, .func (PySem.W.fnOf "_law_content" "_law_content" (defArgs (topS 29)) (defBody (topS 29)) (defScope (topS 29)) .none kV4 dc4 pm4 an4 cd4 ct4), sl4⟩) (c4 : PySem.W.codeIn K cd4 "_law_content" = true) (k4 : PySem.W.keepIn K (.ref f4) = true)
    (a5 : PySem.W.nsIn K mainGlobals "_law_price" = some (some (.ref f5))) (l5 : K.lookup f5 = some ⟨oc5, od5, .func (PySem.W.fnOf "_law_price" "_law_price" (defArgs (topS 30)) (defBody (topS 30)) (defScope (topS 30)) .none kV5 dc5 pm5 an5 cd5 ct5), sl5⟩) (c5 : PySem.W.codeIn K cd5 "_law_price" = true) (k5 : PySem.W.keepIn K (.ref f5) = true)
    (a6 : PySem.W.nsIn K mainGlobals "_law_tiers" = some (some (.ref f6))) (l6 : K.lookup f6 = some ⟨oc6, od6, .func (PySem.W.fnOf "_law_tiers" "_law_tiers" (defArgs (topS 31)) (defBody (topS 31)) (defScope (topS 31)) .none kV6 dc6 pm6 an6 cd6 ct6), sl6⟩) (c6 : PySem.W.codeIn K cd6 "_law_tiers" = true) (k6 : PySem.W.keepIn K (.ref f6) = true)
    (a7 : PySem.W.nsIn K mainGlobals "_law_shop" = some (some (.ref f7))) (l7 : K.lookup f7 = some ⟨oc7, od7, .func (PySem.W.fnOf "_law_shop" "_law_shop" (defArgs (topS 32)) (defBody (topS 32)) (defScope (topS 32)) .none kV7 dc7 pm7 an7 cd7 ct7), sl7⟩) (c7 : PySem.W.codeIn K cd7 "_law_shop" = true) (k7 : PySem.W.keepIn K (.ref f7) = true)
    (a8 : PySem.W.nsIn K mainGlobals "_law_want" = some (some (.ref f8))) (l8 : K.lookup f8 = some ⟨oc8, od8, .func (PySem.W.fnOf "_law_want" "_law_want" (defArgs (topS 33)) (defBody (topS 33)) (defScope (topS 33)) .none kV8 dc8 pm8 an8 cd8 ct8), sl8⟩) (c8 : PySem.W.codeIn K cd8 "_law_want" = true) (k8 : PySem.W.keepIn K (.ref f8) = true)
    (a9 : PySem.W.nsIn K mainGlobals "_law_case" = some (some (.ref f9))) (l9 : K.lookup f9 = some ⟨oc9, od9, .func (PySem.W.fnOf "_law_case" "_law_case" (defArgs (topS 40)) (defBody (topS 40)) (defScope (topS 40)) .none kV9 dc9 pm9 an9 cd9 ct9), sl9⟩) (c9 : PySem.W.codeIn K cd9 "_law_case" = true) (k9 : PySem.W.keepIn K (.ref f9) = true)
    (a10 : PySem.W.nsIn K mainGlobals "_law_groups" = some (some (.ref f10))) (l10 : K.lookup f10 = some ⟨oc10, od10, .func (PySem.W.fnOf "_law_groups" "_law_groups" (defArgs (topS 34)) (defBody (topS 34)) (defScope (topS 34)) .none kV10 dc10 pm10 an10 cd10 ct10), sl10⟩) (c10 : PySem.W.codeIn K cd10 "_law_groups" = true) (k10 : PySem.W.keepIn K (.ref f10) = true)
    (a11 : PySem.W.nsIn K mainGlobals "_law_sum" = some (some (.ref f11))) (l11 : K.lookup f11 = some ⟨oc11, od11, .func (PySem.W.fnOf "_law_sum" "_law_sum" (defArgs (topS 35)) (defBody (topS 35)) (defScope (topS 35)) .none kV11 dc11 pm11 an11 cd11 ct11), sl11⟩) (c11 : PySem.W.codeIn K cd11 "_law_sum" = true) (k11 : PySem.W.keepIn K (.ref f11) = true)
    (a12 : PySem.W.nsIn K mainGlobals "_law_lines" = some (some (.ref f12))) (l12 : K.lookup f12 = some ⟨oc12, od12, .func (PySem.W.fnOf "_law_lines" "_law_lines" (defArgs (topS 36)) (defBody (topS 36)) (defScope (topS 36)) .none kV12 dc12 pm12 an12 cd12 ct12), sl12⟩) (c12 : PySem.W.codeIn K cd12 "_law_lines" = true) (k12 : PySem.W.keepIn K (.ref f12) = true)
    (a13 : PySem.W.nsIn K mainGlobals "_law_lesser" = some (some (.ref f13))) (l13 : K.lookup f13 = some ⟨oc13, od13, .func (PySem.W.fnOf "_law_lesser" "_law_lesser" (defArgs (topS 37)) (defBody (topS 37)) (defScope (topS 37)) .none kV13 dc13 pm13 an13 cd13 ct13), sl13⟩) (c13 : PySem.W.codeIn K cd13 "_law_lesser" = true) (k13 : PySem.W.keepIn K (.ref f13) = true)
    (a14 : PySem.W.nsIn K mainGlobals "_law_rest" = some (some (.ref f14))) (l14 : K.lookup f14 = some ⟨oc14, od14, .func (PySem.W.fnOf "_law_rest" "_law_rest" (defArgs (topS 38)) (defBody (topS 38)) (defScope (topS 38)) .none kV14 dc14 pm14 an14 cd14 ct14), sl14⟩) (c14 : PySem.W.codeIn K cd14 "_law_rest" = true) (k14 : PySem.W.keepIn K (.ref f14) = true)
    (a15 : PySem.W.nsIn K mainGlobals "_law_table" = some (some (.ref f15))) (l15 : K.lookup f15 = some ⟨oc15, od15, .func (PySem.W.fnOf "_law_table" "_law_table" (defArgs (topS 39)) (defBody (topS 39)) (defScope (topS 39)) .none kV15 dc15 pm15 an15 cd15 ct15), sl15⟩) (c15 : PySem.W.codeIn K cd15 "_law_table" = true) (k15 : PySem.W.keepIn K (.ref f15) = true)
    (a16 : PySem.W.nsIn K mainGlobals "tiers_right" = some (some (.ref f16))) (l16 : K.lookup f16 = some ⟨oc16, od16, .func (PySem.W.fnOf "tiers_right" "tiers_right" (defArgs (topS 6)) (defBody (topS 6)) (defScope (topS 6)) .none kV16 dc16 pm16 an16 cd16 ct16), sl16⟩) (c16 : PySem.W.codeIn K cd16 "tiers_right" = true) (k16 : PySem.W.keepIn K (.ref f16) = true)
    (a17 : PySem.W.nsIn K mainGlobals "look" = some (some (.ref f17))) (l17 : K.lookup f17 = some ⟨oc17, od17, .func (PySem.W.fnOf "look" "look" (defArgs (topS 7)) (defBody (topS 7)) (defScope (topS 7)) .none kV17 dc17 pm17 an17 cd17 ct17), sl17⟩) (c17 : PySem.W.codeIn K cd17 "look" = true) (k17 : PySem.W.keepIn K (.ref f17) = true)
    (a18 : PySem.W.nsIn K mainGlobals "choices" = some (some (.ref f18))) (l18 : K.lookup f18 = some ⟨oc18, od18, .func (PySem.W.fnOf "choices" "choices" (defArgs (topS 9)) (defBody (topS 9)) (defScope (topS 9)) .none kV18 dc18 pm18 an18 cd18 ct18), sl18⟩) (c18 : PySem.W.codeIn K cd18 "choices" = true) (k18 : PySem.W.keepIn K (.ref f18) = true)
    (a19 : PySem.W.nsIn K mainGlobals "adds_of" = some (some (.ref f19))) (l19 : K.lookup f19 = some ⟨oc19, od19, .func (PySem.W.fnOf "adds_of" "adds_of" (defArgs (topS 8)) (defBody (topS 8)) (defScope (topS 8)) .none kV19 dc19 pm19 an19 cd19 ct19), sl19⟩) (c19 : PySem.W.codeIn K cd19 "adds_of" = true) (k19 : PySem.W.keepIn K (.ref f19) = true)
    (a20 : PySem.W.nsIn K mainGlobals "lines" = some (some (.ref f20))) (l20 : K.lookup f20 = some ⟨oc20, od20, .func (PySem.W.fnOf "lines" "lines" (defArgs (topS 10)) (defBody (topS 10)) (defScope (topS 10)) .none kV20 dc20 pm20 an20 cd20 ct20), sl20⟩) (c20 : PySem.W.codeIn K cd20 "lines" = true) (k20 : PySem.W.keepIn K (.ref f20) = true)
    (a21 : PySem.W.nsIn K mainGlobals "tier_price" = some (some (.ref f21))) (l21 : K.lookup f21 = some ⟨oc21, od21, .func (PySem.W.fnOf "tier_price" "tier_price" (defArgs (topS 13)) (defBody (topS 13)) (defScope (topS 13)) .none kV21 dc21 pm21 an21 cd21 ct21), sl21⟩) (c21 : PySem.W.codeIn K cd21 "tier_price" = true) (k21 : PySem.W.keepIn K (.ref f21) = true)
    (a22 : PySem.W.nsIn K mainGlobals "line_price" = some (some (.ref f22))) (l22 : K.lookup f22 = some ⟨oc22, od22, .func (PySem.W.fnOf "line_price" "line_price" (defArgs (topS 14)) (defBody (topS 14)) (defScope (topS 14)) .none kV22 dc22 pm22 an22 cd22 ct22), sl22⟩) (c22 : PySem.W.codeIn K cd22 "line_price" = true) (k22 : PySem.W.keepIn K (.ref f22) = true)
    (a23 : PySem.W.nsIn K mainGlobals "put_together" = some (some (.ref f23))) (l23 : K.lookup f23 = some ⟨oc23, od23, .func (PySem.W.fnOf "put_together" "put_together" (defArgs (topS 11)) (defBody (topS 11)) (defScope (topS 11)) .none kV23 dc23 pm23 an23 cd23 ct23), sl23⟩) (c23 : PySem.W.codeIn K cd23 "put_together" = true) (k23 : PySem.W.keepIn K (.ref f23) = true)
    (a24 : PySem.W.nsIn K mainGlobals "line_content" = some (some (.ref f24))) (l24 : K.lookup f24 = some ⟨oc24, od24, .func (PySem.W.fnOf "line_content" "line_content" (defArgs (topS 12)) (defBody (topS 12)) (defScope (topS 12)) .none kV24 dc24 pm24 an24 cd24 ct24), sl24⟩) (c24 : PySem.W.codeIn K cd24 "line_content" = true) (k24 : PySem.W.keepIn K (.ref f24) = true)
    (a25 : PySem.W.nsIn K mainGlobals "goods" = some (some (.ref f25))) (l25 : K.lookup f25 = some ⟨oc25, od25, .func (PySem.W.fnOf "goods" "goods" (defArgs (topS 19)) (defBody (topS 19)) (defScope (topS 19)) .none kV25 dc25 pm25 an25 cd25 ct25), sl25⟩) (c25 : PySem.W.codeIn K cd25 "goods" = true) (k25 : PySem.W.keepIn K (.ref f25) = true)
    (a26 : PySem.W.nsIn K mainGlobals "lesser" = some (some (.ref f26))) (l26 : K.lookup f26 = some ⟨oc26, od26, .func (PySem.W.fnOf "lesser" "lesser" (defArgs (topS 17)) (defBody (topS 17)) (defScope (topS 17)) .none kV26 dc26 pm26 an26 cd26 ct26), sl26⟩) (c26 : PySem.W.codeIn K cd26 "lesser" = true) (k26 : PySem.W.keepIn K (.ref f26) = true)
    (a27 : PySem.W.nsIn K mainGlobals "rest" = some (some (.ref f27))) (l27 : K.lookup f27 = some ⟨oc27, od27, .func (PySem.W.fnOf "rest" "rest" (defArgs (topS 16)) (defBody (topS 16)) (defScope (topS 16)) .none kV27 dc27 pm27 an27 cd27 ct27), sl27⟩) (c27 : PySem.W.codeIn K cd27 "rest" = true) (k27 : PySem.W.keepIn K (.ref f27) = true)
    (a28 : PySem.W.nsIn K mainGlobals "best_of" = some (some (.ref f28))) (l28 : K.lookup f28 = some ⟨oc28, od28, .func (PySem.W.fnOf "best_of" "best_of" (defArgs (topS 20)) (defBody (topS 20)) (defScope (topS 20)) .none kV28 dc28 pm28 an28 cd28 ct28), sl28⟩) (c28 : PySem.W.codeIn K cd28 "best_of" = true) (k28 : PySem.W.keepIn K (.ref f28) = true)
    (a29 : PySem.W.nsIn K mainGlobals "reckoned" = some (some (.ref f29))) (l29 : K.lookup f29 = some ⟨oc29, od29, .func (PySem.W.fnOf "reckoned" "reckoned" (defArgs (topS 21)) (defBody (topS 21)) (defScope (topS 21)) .none kV29 dc29 pm29 an29 cd29 ct29), sl29⟩) (c29 : PySem.W.codeIn K cd29 "reckoned" = true) (k29 : PySem.W.keepIn K (.ref f29) = true)
    (a30 : PySem.W.nsIn K mainGlobals "own_line" = some (some (.ref f30))) (l30 : K.lookup f30 = some ⟨oc30, od30, .func (PySem.W.fnOf "own_line" "own_line" (defArgs (topS 22)) (defBody (topS 22)) (defScope (topS 22)) .none kV30 dc30 pm30 an30 cd30 ct30), sl30⟩) (c30 : PySem.W.codeIn K cd30 "own_line" = true) (k30 : PySem.W.keepIn K (.ref f30) = true)
    (a31 : PySem.W.nsIn K mainGlobals "least" = some (some (.ref f31))) (l31 : K.lookup f31 = some ⟨oc31, od31, .func (PySem.W.fnOf "least" "least" (defArgs (topS 23)) (defBody (topS 23)) (defScope (topS 23)) .none kV31 dc31 pm31 an31 cd31 ct31), sl31⟩) (c31 : PySem.W.codeIn K cd31 "least" = true) (k31 : PySem.W.keepIn K (.ref f31) = true)
    (a32 : PySem.W.nsIn K mainGlobals "_law_right" = some (some (.ref f32))) (l32 : K.lookup f32 = some ⟨oc32, od32, .func (PySem.W.fnOf "_law_right" "_law_right" (defArgs (topS 41)) (defBody (topS 41)) (defScope (topS 41)) .none kV32 dc32 pm32 an32 cd32 ct32), sl32⟩) (c32 : PySem.W.codeIn K cd32 "_law_right" = true) (k32 : PySem.W.keepIn K (.ref f32) = true)
    (a33 : PySem.W.nsIn K mainGlobals "_law_behind" = some (some (.ref f33))) (l33 : K.lookup f33 = some ⟨oc33, od33, .func (PySem.W.fnOf "_law_behind" "_law_behind" (defArgs (topS 42)) (defBody (topS 42)) (defScope (topS 42)) .none kV33 dc33 pm33 an33 cd33 ct33), sl33⟩) (c33 : PySem.W.codeIn K cd33 "_law_behind" = true) (k33 : PySem.W.keepIn K (.ref f33) = true)
    (a34 : PySem.W.nsIn K mainGlobals "law" = some (some (.ref f34))) (l34 : K.lookup f34 = some ⟨oc34, od34, .func (PySem.W.fnOf "law" "law" (defArgs (topS 43)) (defBody (topS 43)) (defScope (topS 43)) .none kV34 dc34 pm34 an34 cd34 ct34), sl34⟩) (c34 : PySem.W.codeIn K cd34 "law" = true) (k34 : PySem.W.keepIn K (.ref f34) = true)
    (z_all : PySem.W.nsIn K mainGlobals "all" = some none)
    (z_enumerate : PySem.W.nsIn K mainGlobals "enumerate" = some none)
    (z_int : PySem.W.nsIn K mainGlobals "int" = some none)
    (z_isinstance : PySem.W.nsIn K mainGlobals "isinstance" = some none)
    (z_len : PySem.W.nsIn K mainGlobals "len" = some none)
    (z_list : PySem.W.nsIn K mainGlobals "list" = some none)
    (z_max : PySem.W.nsIn K mainGlobals "max" = some none)
    (z_min : PySem.W.nsIn K mainGlobals "min" = some none)
    (z_range : PySem.W.nsIn K mainGlobals "range" = some none)
    (z_sorted : PySem.W.nsIn K mainGlobals "sorted" = some none)
    (z_str : PySem.W.nsIn K mainGlobals "str" = some none)
    (z_sum : PySem.W.nsIn K mainGlobals "sum" = some none)
    (z_tuple : PySem.W.nsIn K mainGlobals "tuple" = some none)
    (z_zip : PySem.W.nsIn K mainGlobals "zip" = some none)
    {t_MOST : Tok} (g_MOST : PySem.W.nsIn K mainGlobals "MOST" = some (some (.int 12 t_MOST)))
    {t_MOST_TIERS : Tok} (g_MOST_TIERS : PySem.W.nsIn K mainGlobals "MOST_TIERS" = some (some (.int 4 t_MOST_TIERS))) :
    ∃ fd : FuncData, (∀ (s : Shared) (v : Value), BindsTo s fd ⟨[v], []⟩ [("_law_script", v)]) ∧ ∀ base : Heap, K.In base → base.Ns mainGlobals mg → FnG l.prog w K mg base CX0 8 fa fd ["_law_script"] (spOf K (List.replicate 1 false) sem_law_k13) := by
  have e := hfa.symm.trans (PySem.W.mg_of X G a34)
  cases e
  have B : Bl mg := ⟨PySem.W.mg_none_of X G z_all, PySem.W.mg_none_of X G z_enumerate, PySem.W.mg_none_of X G z_int, PySem.W.mg_none_of X G z_isinstance, PySem.W.mg_none_of X G z_len, PySem.W.mg_none_of X G z_list, PySem.W.mg_none_of X G z_max, PySem.W.mg_none_of X G z_min, PySem.W.mg_none_of X G z_range, PySem.W.mg_none_of X G z_sorted, PySem.W.mg_none_of X G z_str, PySem.W.mg_none_of X G z_sum, PySem.W.mg_none_of X G z_tuple, PySem.W.mg_none_of X G z_zip, ⟨_, PySem.W.mg_of X G g_MOST⟩, ⟨_, PySem.W.mg_of X G g_MOST_TIERS⟩⟩
  have F0 := fun_mk (st := (topS 25)) l0 c0 k0
  have b0 := F0.binds (ps := ["_law_cell", "_law_turn"]) fun _ _ _ _ _ _ us hl => match us, hl with | [_, _], _ => rfl
  have F1 := fun_mk (st := (topS 26)) l1 c1 k1
  have b1 := F1.binds (ps := ["_law_script", "_law_turn", "_law_many"]) fun _ _ _ _ _ _ us hl => match us, hl with | [_, _, _], _ => rfl
  have F2 := fun_mk (st := (topS 27)) l2 c2 k2
  have b2 := F2.binds (ps := ["_law_draws_here"]) fun _ _ _ _ _ _ us hl => match us, hl with | [_], _ => rfl
  have F3 := fun_mk (st := (topS 28)) l3 c3 k3
  have b3 := F3.binds (ps := ["_law_row"]) fun _ _ _ _ _ _ us hl => match us, hl with | [_], _ => rfl
  have F4 := fun_mk (st := (topS 29)) l4 c4 k4
  have b4 := F4.binds (ps := ["_law_draws_here", "_law_many", "_law_most"]) fun _ _ _ _ _ _ us hl => match us, hl with | [_, _, _], _ => rfl
  have F5 := fun_mk (st := (topS 30)) l5 c5 k5
  have b5 := F5.binds (ps := ["_law_draws_here"]) fun _ _ _ _ _ _ us hl => match us, hl with | [_], _ => rfl
  have F6 := fun_mk (st := (topS 31)) l6 c6 k6
  have b6 := F6.binds (ps := ["_law_draws_here"]) fun _ _ _ _ _ _ us hl => match us, hl with | [_], _ => rfl
  have F7 := fun_mk (st := (topS 32)) l7 c7 k7
  have b7 := F7.binds (ps := ["_law_draws_here", "_law_many", "_law_most"]) fun _ _ _ _ _ _ us hl => match us, hl with | [_, _, _], _ => rfl
  have F8 := fun_mk (st := (topS 33)) l8 c8 k8
  have b8 := F8.binds (ps := ["_law_draws_here", "_law_many"]) fun _ _ _ _ _ _ us hl => match us, hl with | [_, _], _ => rfl
  have F9 := fun_mk (st := (topS 40)) l9 c9 k9
  have b9 := F9.binds (ps := ["_law_script", "_law_many_draws"]) fun _ _ _ _ _ _ us hl => match us, hl with | [_, _], _ => rfl
  have F10 := fun_mk (st := (topS 34)) l10 c10 k10
  have b10 := F10.binds (ps := ["_law_places"]) fun _ _ _ _ _ _ us hl => match us, hl with | [_], _ => rfl
  have F11 := fun_mk (st := (topS 35)) l11 c11 k11
  have b11 := F11.binds (ps := ["_law_one", "_law_other"]) fun _ _ _ _ _ _ us hl => match us, hl with | [_, _], _ => rfl
  have F12 := fun_mk (st := (topS 36)) l12 c12 k12
  have b12 := F12.binds (ps := ["_law_shop_here"]) fun _ _ _ _ _ _ us hl => match us, hl with | [_], _ => rfl
  have F13 := fun_mk (st := (topS 37)) l13 c13 k13
  have b13 := F13.binds (ps := ["_law_want_here"]) fun _ _ _ _ _ _ us hl => match us, hl with | [_], _ => rfl
  have F14 := fun_mk (st := (topS 38)) l14 c14 k14
  have b14 := F14.binds (ps := ["_law_want_here", "_law_content_here"]) fun _ _ _ _ _ _ us hl => match us, hl with | [_, _], _ => rfl
  have F15 := fun_mk (st := (topS 39)) l15 c15 k15
  have b15 := F15.binds (ps := ["_law_shop_here", "_law_want_here"]) fun _ _ _ _ _ _ us hl => match us, hl with | [_, _], _ => rfl
  have F16 := fun_mk (st := (topS 6)) l16 c16 k16
  have b16 := F16.binds (ps := ["tiers"]) fun _ _ _ _ _ _ us hl => match us, hl with | [_], _ => rfl
  have F17 := fun_mk (st := (topS 7)) l17 c17 k17
  have b17 := F17.binds (ps := ["shop"]) fun _ _ _ _ _ _ us hl => match us, hl with | [_], _ => rfl
  have F18 := fun_mk (st := (topS 9)) l18 c18 k18
  have b18 := F18.binds (ps := ["places"]) fun _ _ _ _ _ _ us hl => match us, hl with | [_], _ => rfl
  have F19 := fun_mk (st := (topS 8)) l19 c19 k19
  have b19 := F19.binds (ps := ["shop", "place"]) fun _ _ _ _ _ _ us hl => match us, hl with | [_, _], _ => rfl
  have F20 := fun_mk (st := (topS 10)) l20 c20 k20
  have b20 := F20.binds (ps := ["shop"]) fun _ _ _ _ _ _ us hl => match us, hl with | [_], _ => rfl
  have F21 := fun_mk (st := (topS 13)) l21 c21 k21
  have b21 := F21.binds (ps := ["tiers", "count"]) fun _ _ _ _ _ _ us hl => match us, hl with | [_, _], _ => rfl
  have F22 := fun_mk (st := (topS 14)) l22 c22 k22
  have b22 := F22.binds (ps := ["shop", "line"]) fun _ _ _ _ _ _ us hl => match us, hl with | [_, _], _ => rfl
  have F23 := fun_mk (st := (topS 11)) l23 c23 k23
  have b23 := F23.binds (ps := ["one", "other"]) fun _ _ _ _ _ _ us hl => match us, hl with | [_, _], _ => rfl
  have F24 := fun_mk (st := (topS 12)) l24 c24 k24
  have b24 := F24.binds (ps := ["shop", "line"]) fun _ _ _ _ _ _ us hl => match us, hl with | [_, _], _ => rfl
  have F25 := fun_mk (st := (topS 19)) l25 c25 k25
  have b25 := F25.binds (ps := ["shop"]) fun _ _ _ _ _ _ us hl => match us, hl with | [_], _ => rfl
  have F26 := fun_mk (st := (topS 17)) l26 c26 k26
  have b26 := F26.binds (ps := ["want"]) fun _ _ _ _ _ _ us hl => match us, hl with | [_], _ => rfl
  have F27 := fun_mk (st := (topS 16)) l27 c27 k27
  have b27 := F27.binds (ps := ["want", "content"]) fun _ _ _ _ _ _ us hl => match us, hl with | [_, _], _ => rfl
  have F28 := fun_mk (st := (topS 20)) l28 c28 k28
  have b28 := F28.binds (ps := ["all_goods", "found", "want"]) fun _ _ _ _ _ _ us hl => match us, hl with | [_, _, _], _ => rfl
  have F29 := fun_mk (st := (topS 21)) l29 c29 k29
  have b29 := F29.binds (ps := ["shop", "want"]) fun _ _ _ _ _ _ us hl => match us, hl with | [_, _], _ => rfl
  have F30 := fun_mk (st := (topS 22)) l30 c30 k30
  have b30 := F30.binds (ps := ["line"]) fun _ _ _ _ _ _ us hl => match us, hl with | [_], _ => rfl
  have F31 := fun_mk (st := (topS 23)) l31 c31 k31
  have b31 := F31.binds (ps := ["shop", "want"]) fun _ _ _ _ _ _ us hl => match us, hl with | [_, _], _ => rfl
  have F32 := fun_mk (st := (topS 41)) l32 c32 k32
  have b32 := F32.binds (ps := ["_law_shop_here", "_law_want_here", "_law_found", "_law_number"]) fun _ _ _ _ _ _ us hl => match us, hl with | [_, _, _, _], _ => rfl
  have F33 := fun_mk (st := (topS 42)) l33 c33 k33
  have b33 := F33.binds (ps := ["_law_fewer", "_law_shop_here", "_law_want_here"]) fun _ _ _ _ _ _ us hl => match us, hl with | [_, _, _], _ => rfl
  refine ⟨PySem.W.fnOf "law" "law" (defArgs (topS 43)) (defBody (topS 43)) (defScope (topS 43)) .none kV34 dc34 pm34 an34 cd34 ct34, fun s v => .of_eq rfl, fun base _ _ => ?_⟩
  have c__law_mix : Cal l.prog w K mg base 1 "_law_mix" ["_law_cell", "_law_turn"] (spOf K (List.replicate 2 false) sem__law_mix) := .mk' (ok__law_mix F0 ⟨B, trivial⟩) (PySem.W.mg_of X G a0) k0 b0
  have c__law_draws : Cal l.prog w K mg base 2 "_law_draws" ["_law_script", "_law_turn", "_law_many"] (spOf K (List.replicate 3 false) sem__law_draws_bf2d) := .mk' (ok__law_draws_bf2d F1 ⟨B, c__law_mix⟩) (PySem.W.mg_of X G a1) k1 b1
  have c__law_pop : Cal l.prog w K mg base 1 "_law_pop" ["_law_draws_here"] (spOf K [true] sem__law_pop) := .mk' (ok__law_pop F2 ⟨B, trivial⟩) (PySem.W.mg_of X G a2) k2 b2
  have c__law_cut : Cal l.prog w K mg base 1 "_law_cut" ["_law_row"] (spOf K (List.replicate 1 false) sem__law_cut) := .mk' (ok__law_cut F3 ⟨B, trivial⟩) (PySem.W.mg_of X G a3) k3 b3
  have c__law_content : Cal l.prog w K mg base 2 "_law_content" ["_law_draws_here", "_law_many", "_law_most"] (spOf K [true, false, false] sem__law_content_e374) := .mk' (ok__law_content_e374 F4 ⟨B, c__law_pop, c__law_cut⟩) (PySem.W.mg_of X G a4) k4 b4
  have c__law_price : Cal l.prog w K mg base 2 "_law_price" ["_law_draws_here"] (spOf K [true] sem__law_price_59e4) := .mk' (ok__law_price_59e4 F5 ⟨B, c__law_pop⟩) (PySem.W.mg_of X G a5) k5 b5
  have c__law_tiers : Cal l.prog w K mg base 3 "_law_tiers" ["_law_draws_here"] (spOf K [true] sem__law_tiers_fe28) := .mk' (ok__law_tiers_fe28 F6 ⟨B, c__law_pop, c__law_price⟩) (PySem.W.mg_of X G a6) k6 b6
  have c__law_shop : Cal l.prog w K mg base 4 "_law_shop" ["_law_draws_here", "_law_many", "_law_most"] (spOf K [true, false, false] sem__law_shop_7fee) := .mk' (ok__law_shop_7fee F7 ⟨B, c__law_pop, c__law_content, c__law_tiers, c__law_price⟩) (PySem.W.mg_of X G a7) k7 b7
  have c__law_want : Cal l.prog w K mg base 2 "_law_want" ["_law_draws_here", "_law_many"] (spOf K [true, false] sem__law_want_c9ae) := .mk' (ok__law_want_c9ae F8 ⟨B, c__law_pop, c__law_cut⟩) (PySem.W.mg_of X G a8) k8 b8
  have c__law_case : Cal l.prog w K mg base 5 "_law_case" ["_law_script", "_law_many_draws"] (spOf K (List.replicate 2 false) sem__law_case_2562) := .mk' (ok__law_case_2562 F9 ⟨B, c__law_draws, c__law_pop, c__law_shop, c__law_want⟩) (PySem.W.mg_of X G a9) k9 b9
  have c__law_groups : Cal l.prog w K mg base 1 "_law_groups" ["_law_places"] (spOf K (List.replicate 1 false) sem__law_groups) := .mk' (ok__law_groups F10 ⟨B, trivial⟩) (PySem.W.mg_of X G a10) k10 b10
  have c__law_sum : Cal l.prog w K mg base 1 "_law_sum" ["_law_one", "_law_other"] (spOf K (List.replicate 2 false) sem__law_sum) := .mk' (ok__law_sum F11 ⟨B, trivial⟩) (PySem.W.mg_of X G a11) k11 b11
  have c__law_lines : Cal l.prog w K mg base 2 "_law_lines" ["_law_shop_here"] (spOf K (List.replicate 1 false) sem__law_lines_9070) := .mk' (ok__law_lines_9070 F12 ⟨B, c__law_groups, c__law_sum⟩) (PySem.W.mg_of X G a12) k12 b12
  have c__law_lesser : Cal l.prog w K mg base 1 "_law_lesser" ["_law_want_here"] (spOf K (List.replicate 1 false) sem__law_lesser) := .mk' (ok__law_lesser F13 ⟨B, trivial⟩) (PySem.W.mg_of X G a13) k13 b13
  have c__law_rest : Cal l.prog w K mg base 1 "_law_rest" ["_law_want_here", "_law_content_here"] (spOf K (List.replicate 2 false) sem__law_rest) := .mk' (ok__law_rest F14 ⟨B, trivial⟩) (PySem.W.mg_of X G a14) k14 b14
  have c__law_table : Cal l.prog w K mg base 3 "_law_table" ["_law_shop_here", "_law_want_here"] (spOf K (List.replicate 2 false) sem__law_table) := .mk' (ok__law_table F15 ⟨B, c__law_lines, c__law_lesser, c__law_rest⟩) (PySem.W.mg_of X G a15) k15 b15
  have c_tiers_right : Cal l.prog w K mg base 1 "tiers_right" ["tiers"] (spOf K (List.replicate 1 false) sem_tiers_right) := .mk' (ok_tiers_right F16 ⟨B, trivial⟩) (PySem.W.mg_of X G a16) k16 b16
  have c_look : Cal l.prog w K mg base 2 "look" ["shop"] (spOf K (List.replicate 1 false) sem_look) := .mk' (ok_look F17 ⟨B, c_tiers_right⟩) (PySem.W.mg_of X G a17) k17 b17
  have c_choices : Cal l.prog w K mg base 1 "choices" ["places"] (spOf K (List.replicate 1 false) sem_choices) := .mk' (ok_choices F18 ⟨B, trivial⟩) (PySem.W.mg_of X G a18) k18 b18
  have c_adds_of : Cal l.prog w K mg base 1 "adds_of" ["shop", "place"] (spOf K (List.replicate 2 false) sem_adds_of) := .mk' (ok_adds_of F19 ⟨B, trivial⟩) (PySem.W.mg_of X G a19) k19 b19
  have c_lines : Cal l.prog w K mg base 3 "lines" ["shop"] (spOf K (List.replicate 1 false) sem_lines) := .mk' (ok_lines F20 ⟨B, c_look, c_choices, c_adds_of⟩) (PySem.W.mg_of X G a20) k20 b20
  have c_tier_price : Cal l.prog w K mg base 1 "tier_price" ["tiers", "count"] (spOf K (List.replicate 2 false) sem_tier_price) := .mk' (ok_tier_price F21 ⟨B, trivial⟩) (PySem.W.mg_of X G a21) k21 b21
  have c_line_price : Cal l.prog w K mg base 3 "line_price" ["shop", "line"] (spOf K (List.replicate 2 false) sem_line_price) := .mk' (ok_line_price F22 ⟨B, c_look, c_tier_price⟩) (PySem.W.mg_of X G a22) k22 b22
  have c_put_together : Cal l.prog w K mg base 1 "put_together" ["one", "other"] (spOf K (List.replicate 2 false) sem_put_together) := .mk' (ok_put_together F23 ⟨B, trivial⟩) (PySem.W.mg_of X G a23) k23 b23
  have c_line_content : Cal l.prog w K mg base 3 "line_content" ["shop", "line"] (spOf K (List.replicate 2 false) sem_line_content) := .mk' (ok_line_content F24 ⟨B, c_look, c_put_together⟩) (PySem.W.mg_of X G a24) k24 b24
  have c_goods : Cal l.prog w K mg base 4 "goods" ["shop"] (spOf K (List.replicate 1 false) sem_goods) := .mk' (ok_goods F25 ⟨B, c_lines, c_line_price, c_line_content⟩) (PySem.W.mg_of X G a25) k25 b25
  have c_lesser : Cal l.prog w K mg base 1 "lesser" ["want"] (spOf K (List.replicate 1 false) sem_lesser) := .mk' (ok_lesser F26 ⟨B, trivial⟩) (PySem.W.mg_of X G a26) k26 b26
  have c_rest : Cal l.prog w K mg base 1 "rest" ["want", "content"] (spOf K (List.replicate 2 false) sem_rest) := .mk' (ok_rest F27 ⟨B, trivial⟩) (PySem.W.mg_of X G a27) k27 b27
  have c_best_of : Cal l.prog w K mg base 2 "best_of" ["all_goods", "found", "want"] (spOf K [false, true, false] sem_best_of) := .mk' (ok_best_of F28 ⟨B, c_rest⟩) (PySem.W.mg_of X G a28) k28 b28
  have c_reckoned : Cal l.prog w K mg base 5 "reckoned" ["shop", "want"] (spOf K (List.replicate 2 false) sem_reckoned) := .mk' (ok_reckoned F29 ⟨B, c_goods, c_lesser, c_best_of⟩) (PySem.W.mg_of X G a29) k29 b29
  have c_own_line : Cal l.prog w K mg base 1 "own_line" ["line"] (spOf K (List.replicate 1 false) sem_own_line) := .mk' (ok_own_line F30 ⟨B, trivial⟩) (PySem.W.mg_of X G a30) k30 b30
  have c_least : Cal l.prog w K mg base 6 "least" ["shop", "want"] (spOf K (List.replicate 2 false) sem_least) := .mk' (ok_least F31 ⟨B, c_reckoned, c_own_line, c_rest, c_line_content⟩) (PySem.W.mg_of X G a31) k31 b31
  have c__law_right : Cal l.prog w K mg base 3 "_law_right" ["_law_shop_here", "_law_want_here", "_law_found", "_law_number"] (spOf K (List.replicate 4 false) sem__law_right_1657) := .mk' (ok__law_right_1657 F32 ⟨B, c__law_lines, c__law_sum⟩) (PySem.W.mg_of X G a32) k32 b32
  have c__law_behind : Cal l.prog w K mg base 7 "_law_behind" ["_law_fewer", "_law_shop_here", "_law_want_here"] (spBeh K sem__law_behind_a235) := .mk' (ok__law_behind_a235 F33 ⟨B, c__law_table, c_least⟩) (PySem.W.mg_of X G a33) k33 b33
  exact ok_law_k13 (fun_mk (st := topS 43) l34 c34 k34) ⟨B, c__law_case, c__law_table, c_least, c__law_right, c__law_behind⟩
theorem law_sp {K : PySem.W.Frag} (hL : LawTrue) (a : Addr) (ns : List Int) (hl : ns.length ≤ 63) (H : Hp) (hS : SqL K H a (ns.map V.int)) (Q : VK) (E : XK) (hQ : ∀ H', Q (.bl true) H') : spOf K (List.replicate 1 false) sem_law_k13 [.ref a] H Q E := by
  refine ⟨H, H, [.s ns], _, [], rfl, rfl, ⟨.refl _, .refl _, fun p o e => .inl e, .refl _, [], .cons (T1 := []) (.s hS) .nil, .nil, fun p hp => nomatch hp⟩, hL ns hl, fun F' H' v r => ?_⟩
  obtain rfl := df_bool (Rel.dp r)
  exact hQ H'
end K13
namespace K13
open Dn PySem L2
def lineO0 (l : Ln) : O := .t [oi l.1, oi l.2.1, .l (l.2.2.map oi ++ [oi 0])]
def lineD0 (l : Ln) : PyData := .tuple [.int l.1, .int l.2.1, .list (l.2.2.map .int ++ [PyData.int 0])]
theorem good_oi (ns : List Int) : O.goodAll (ns.map oi) = true := by
  induction ns with
  | nil => rfl
  | cons n ns ih => rw [List.map_cons]; unfold O.goodAll; rw [ih]; rfl
theorem good_app : ∀ (a b : List O), O.goodAll a = true → O.goodAll b = true → O.goodAll (a ++ b) = true
  | [], b, _, h => h
  | x :: a, b, ha, hb => by
    unfold O.goodAll at ha
    rw [Bool.and_eq_true] at ha
    rw [List.cons_append]
    unfold O.goodAll
    rw [ha.1, good_app a b ha.2 hb]
    rfl
theorem lineO0_good (l : Ln) : (lineO0 l).good = true := by
  have h7 : O.good (.l (l.2.2.map oi ++ [oi 0])) = true := by
    unfold O.good
    exact good_app _ _ (good_oi _) rfl
  unfold lineO0 O.good O.goodAll
  rw [show O.good (oi l.1) = true from rfl]
  unfold O.goodAll
  rw [show O.good (oi l.2.1) = true from rfl]
  unfold O.goodAll
  rw [h7]
  rfl
theorem item_turn (e0 e1 e2 e3 e4 e5 e6 e7 e10 e11 : Sl) (u : HO) (l : Ln) (hl : l.2.2.length ≤ 1000) :
    b_law_k13_1 [e0, e1, e2, e3, e4, e5, e6, e7, .pin (.fx u), .pin (lineO l), e10, e11] = some (.nx [e0, e1, e2, e3, e4, e5, e6, e7, .pin (.fx u), .pin (lineO0 l), e10, e11]) := by
  have hp : ∀ e : En, pathK e [bC (.int 2)] = some [2] := fun _ => rfl
  have ka : atK (lineO l) [2] = some (.l (l.2.2.map oi)) := atK_t (k := 2) rfl
  have kb : setK (lineO l) [2] (l.2.2.map oi ++ [oi 0]) = some (lineO0 l) := setK4_t (k := 2) (x := .l (l.2.2.map oi)) rfl rfl
  have hu : uApp (l.2.2.map oi) [oi 0] = some (l.2.2.map oi ++ [oi 0], .v .none) := by unfold uApp; simp; omega
  generalize lineO l = A at *
  generalize lineO0 l = C at *
  simp [b_law_k13_1, hp, ka, kb, hu]
theorem al13 (e0 e1 e2 e3 e4 e5 e6 e7 e8 e10 e11 : Sl) : ∀ (ls : List Ln), (∀ l ∈ ls, l.2.2.length ≤ 1000) →
    alY b_law_k13_1 [e0, e1, e2, e3, e4, e5, e6, e7, e8, .no, e10, e11] 8 9 (ls.map lineO) = some (ls.map lineO0)
  | [], _ => by unfold alY; rfl
  | l :: ls, h => by
    have h0 := h l (List.mem_cons_self ..)
    have ih := al13 e0 e1 e2 e3 e4 e5 e6 e7 e8 e10 e11 ls fun y hy => h y (List.mem_cons_of_mem _ hy)
    have ht : turnY b_law_k13_1 [e0, e1, e2, e3, e4, e5, e6, e7, e8, .no, e10, e11] 8 9 (lineO l) = some (lineO0 l) := turnY_of (by simp) (lineO0_good l) fun u => item_turn e0 e1 e2 e3 e4 e5 e6 e7 e10 e11 u l h0
    rw [List.map_cons, List.map_cons]
    unfold alY
    rw [ht, ih]
theorem mForY_ap {i j : Nat} {bs : List (En → Option O)} {body : MS} {e : En} : mForY i bs j body e = (match e[i]?, e[j]?, pathK e bs with
  | some (.own o), some .no, some (k :: ks) => (match atK o (k :: ks) with
    | some (.l xs) => (match alY body e i j xs with
      | some ys => (match setK o (k :: ks) ys with
        | some o' => some (.nx ((e.map goodS).set i (.own o')))
        | none => none)
      | none => none)
    | _ => none)
  | _, _, _ => none) := id rfl
theorem lineO0_d (l : Ln) : (lineO0 l).toD = some (lineD0 l) := by
  have h1 : ∀ c : List Int, O.toDs (c.map oi ++ [oi 0]) = some (c.map PyData.int ++ [PyData.int 0]) := fun c => by
    rw [toDs_append]
    simp
  simp [lineO0, lineD0, h1]
theorem rows13 (ls : List Ln) (hl : ∀ l ∈ ls, l.2.2.length ≤ 1000) (v : PyData) (e0 e1 e2 e3 e4 e5 e6 e8 e11 : Sl) :
    lcL (.tp [.n 10, .n 9]) ct_law_k13_1 ce_law_k13_1 [10, 9] (enuO 0 ((ls.map lineD0).map O.v)) [e0, e1, e2, e3, e4, e5, e6, .own (.v (.tuple [v, .list (ls.map lineD)])), e8, .no, .no, e11]
     = some ([], [e0, e1, e2, e3, e4, e5, e6, .own (.v (.tuple [v, .list (ls.map lineD)])), e8, .no, .no, e11]) := by
  have hen : enuO 0 ((ls.map lineD0).map O.v) = (ls.zipIdx 0).map fun q => .t [oi (q.2 : Nat), .v (lineD0 q.1)] := by
    rw [List.map_map, enuO_map]
    rfl
  rw [hen]
  have := lc_filter (tg := .tp [.n 10, .n 9]) (mt := ct_law_k13_1) (me := ce_law_k13_1) (vs := [10, 9]) (enc := fun q : Ln × Nat => O.t [oi (q.2 : Nat), .v (lineD0 q.1)]) (f := fun q => oi (q.2 : Nat)) (p := fun _ => false) (e := [e0, e1, e2, e3, e4, e5, e6, .own (.v (.tuple [v, .list (ls.map lineD)])), e8, .no, .no, e11]) (ls.zipIdx 0) fun q hq => ?_
  · rw [this]
    simp
  · obtain ⟨x, k⟩ := q
    have hk := List.mem_zipIdx_iff_getElem?.mp hq
    simp only at hk
    have hx := hl x (List.mem_of_getElem? hk)
    refine ⟨[e0, e1, e2, e3, e4, e5, e6, .own (.v (.tuple [v, .list (ls.map lineD)])), e8, .own (.v (lineD0 x)), .own (oi (k : Int)), e11], [e0, e1, e2, e3, e4, e5, e6, .own (.v (.tuple [v, .list (ls.map lineD)])), e8, .own (.v (lineD0 x)), .own (oi (k : Int)), e11], [], rfl, ?_, (fun z => nomatch z), fun _ => rfl⟩
    have hat : atI (ls.map lineD) (k : Int) = some (lineD x) := atI_nat rfl (by rw [List.getElem?_map, hk]; rfl)
    have hadd : addO [.v (.list (x.2.2.map .int)), .l [.v (.int 0)]] = some (.l (x.2.2.map oi ++ [oi 0])) := by
      rw [addO_vl, if_pos (by rw [Dn.sizeLine_eq]; simp; omega), List.map_map]
      rfl
    have htd : O.toDs (x.2.2.map oi ++ [oi 0]) = some (x.2.2.map PyData.int ++ [PyData.int 0]) := by rw [toDs_append]; simp
    have hne : fNe [.list (x.2.2.map PyData.int ++ [PyData.int 0]), .list (x.2.2.map PyData.int ++ [PyData.int 0])] = some (.bool false) := fNe_same 2 (by decide) (by simp)
    have hsd : lineD x = .tuple [.int x.1, .int x.2.1, .list (x.2.2.map .int)] := rfl
    rw [hsd] at hat
    unfold lineD0
    generalize ls.map lineD = SS at *
    generalize x.2.2.map oi ++ [oi 0] = A7 at *
    generalize x.2.2.map PyData.int ++ [PyData.int 0] = D7 at *
    generalize x.2.2.map PyData.int = D0 at *
    simp [ct_law_k13_1, hat, hadd, htd, hne, -addO_vl]
theorem number13 (n : Nat) (hn : n ≤ 4) (sh : List Off) (hg : Good n sh) (hs : sh.length ≤ 10) (w : List Int) (hw : Want n w) :
    ∃ tb, sem__law_table [.v (.list (sh.map Off.d)), .v (.list (w.map .int))] = some (.dt tb, []) ∧ dval tb (keyI w) = some (numD (num (LP (waresL sh) w))) :=
  ⟨_, ltable_ok n hn sh hg hs w hw, tabN_val (les_self fun x hx => (hw.nine x hx).1)⟩
theorem tup_ints (w : List Int) (h : w.length ≤ 1000) : tupleO [.v (.list (w.map .int))] = some (.v (.tuple (w.map .int))) := by
  rw [tupleO_v, tupO_ap, if_pos (by rw [Dn.sizeLine_eq]; simp; omega)]
  rw [show (w.map PyData.int).map O.v = w.map fun x => O.v (.int x) from by rw [List.map_map]; rfl, allV_map]
theorem pur13 {n : Nat} (hn : n ≤ 4) {sh : List Off} (hg : Good n sh) (hs : sh.length ≤ 10) {w : List Int} (hw : Want n w) {p : Int} {o : Option Ln} (hp : LP (waresL sh) w = some (p, o)) {ls : List Ln} (hb : Buys n sh w p ls) : Pur13 n sh w p (sortLn ls) := by
  have hw0 : NN w := fun x hx => (hw.nine x hx).1
  have hpm := sortLn_perm ls
  have hm : ∀ l ∈ sortLn ls, l ∈ linesL sh := fun l hl => hb.mem l (hpm.mem_iff.mp hl)
  have hwl : ∀ g ∈ ls.map (wareOf sh), g.2.1.length = n := fun g hg' => by
    obtain ⟨l, hl, rfl⟩ := List.mem_map.mp hg'
    exact lcont_len hg (linesL_ok hs (hb.mem l hl))
  have hwn : ∀ g ∈ ls.map (wareOf sh), NN g.2.1 := fun g hg' => by
    obtain ⟨l, hl, rfl⟩ := List.mem_map.mp hg'
    exact lcont_nn hg (linesL_ok hs (hb.mem l hl))
  have hpw : ((sortLn ls).map (wareOf sh)).Perm (ls.map (wareOf sh)) := hpm.map _
  have hcost : costW ((sortLn ls).map (wareOf sh)) = p := by
    have e2 : costW ((sortLn ls).map (wareOf sh)) = costW (ls.map (wareOf sh)) := sum_perm (hpw.map _)
    rw [e2]
    exact hb.cost
  have hfew := hb.few
  refine ⟨hm, sortLn_up ls, ?_, hcost, ?_, LP_small hn hg hs hw hp, fun h0 => ?_⟩
  · have hcov := (cov_iff hw.len hw0 hwl hwn).mp hb.cov
    have e2 : sumW n ((sortLn ls).map (wareOf sh)) = sumW n (ls.map (wareOf sh)) := List.Perm.foldl_eq' hpw (fun x _ y _ z => sumL_rc z x.2.1 y.2.1) _
    rw [e2]
    exact hcov
  · rw [hpm.length_eq]
    have h2 := sum36 hw hn
    omega
  · have hl : sortLn ls = [] := by
      have := hpm.length_eq
      exact List.length_eq_zero_iff.mp (by omega)
    refine ⟨hl, ?_⟩
    rw [← hcost, hl]
    rfl
theorem kept13 {n : Nat} (hn : n ≤ 4) {sh : List Off} (hg : Good n sh) (hs : sh.length ≤ 10) {w : List Int} (hw : Want n w) : ∃ S : Str, fStrD [.list [.list (sh.map Off.d), .list (w.map .int)]] = some (.str S) ∧ fEq [.str S, .str S] = some (.bool true) ∧ fNe [.str S, .str S] = some (.bool false) := by
  have h1 := shop_sm hg hn hs
  have h2 := (want_sm hw hn).mono (Nat.le_refl _) (show 1 ≤ 4 by decide)
  have s : Sm (2 * (50000 + 250 + 1)) 5 (.list [shopD sh, rowD w]) := sm_list (W := 50000 + 250) (k := 4) (ds := [shopD sh, rowD w]) (n := 2) (fun d hd => by
    simp only [List.mem_cons, List.not_mem_nil, or_false] at hd
    rcases hd with rfl | rfl
    · exact h1.mono (by omega) (by omega)
    · exact h2.mono (by omega) (by omega)) (by simp)
  exact ⟨_, fStrD_l (sm_fit s (by decide) (by decide)), fEq_same 1 (by decide) (by simpa using s.txt), fNe_same 1 (by decide) (by simpa using s.txt)⟩
section
variable {n : Nat} (hn : n ≤ 4) {sh : List Off} (hg : Good n sh) (hs : sh.length ≤ 10) {w : List Int} (hw : Want n w)
include hn hg hs hw
theorem iso_none (hq : LP (waresL sh) w = none) (hl : sem_least [.v (shopD sh), .v (rowD w)] = some (.v .none, [])) (ns ds : List Int) (m : Int) :
    ∃ x4 x5 x6 x7 : Sl, mIso [2, 3, 1] g_law_k13_1 [.own (.s ns), .own (.v (.int m)), .own (.l (sh.map offT)), .own (.l (w.map oi)), .own (.l (ds.map oi)), .no, .no, .no, .no, .no, .no, .no]
      = some (.rt (.v (.bool true)) [.no, .own (.v (.int m)), .own (.l (sh.map offT)), .own (.l (w.map oi)), x4, x5, x6, x7, .no, .no, .no, .no]) := by
  obtain ⟨S, k1, k2, k3⟩ := kept13 hn hg hs hw
  have hl' : sem_least [.v (.list (sh.map Off.d)), .v (.list (w.map .int))] = some (.v .none, []) := hl
  obtain ⟨tb, t1, t2⟩ := number13 n hn sh hg hs w hw
  rw [hq] at t2
  have t2 : dval tb (keyI w) = some .none := t2
  have htu := tup_ints w (by rw [hw.len]; omega)
  obtain ⟨fr, hfr⟩ : ∃ fr : O → Sl, ∀ x : O, fr x = if x.free = true then .own x else .no := ⟨fun x => if x.free = true then .own x else .no, fun _ => rfl⟩
  refine ⟨fr (.l (ds.map oi)), fr (.v (.str S)), fr (.v .none), fr (.v .none), ?_⟩
  have b1 : ∀ x : O, backS .no (.own x) false = some (fr x) := fun x => by rw [hfr]; rfl
  have b0 : backS .no .no false = some .no := rfl
  have bs : backS (.own (.s ns)) (.own (.s ns)) false = some .no := rfl
  have b2 : backS (.own (.v (.int m))) (.pin (.v (.int m))) true = some (.own (.v (.int m))) := rfl
  have b3 : ∀ d, backS (.own (.l (sh.map offT))) (.pin d) true = some (.own (.l (sh.map offT))) := fun _ => rfl
  have b4 : ∀ d, backS (.own (.l (w.map oi))) (.pin d) true = some (.own (.l (w.map oi))) := fun _ => rfl
  have b5 : backS (.own (.l (ds.map oi))) (.own (.l (ds.map oi))) false = some (fr (.l (ds.map oi))) := by rw [hfr]; rfl
  have hft : O.free (.v (.bool true)) = true := rfl
  have hdg := dgetO_t tb w
  rw [t2] at hdg
  generalize O.dt tb = DT at *
  simp [isoIn, pinF, O.look, Sl.o?, g_law_k13_1, k1, t1, htu, hdg, hl', k2, isoOut, b0, b1, bs, b2, b3, b4, b5, hft, -tupleO_v]
theorem iso_ok {p : Int} {o : Option Ln} (hq : LP (waresL sh) w = some (p, o)) {ls : List Ln} (hP : Pur13 n sh w p ls) (hl : sem_least [.v (shopD sh), .v (rowD w)] = some (.t [oi p, .l (ls.map lineO)], [])) (ns ds : List Int) (m : Int) (hm : 1 ≤ m ∧ m ≤ 4) (hmn : n = m.toNat) :
    ∃ x4 x5 x6 x7 x8 x11 : Sl, mIso [2, 3, 1] g_law_k13_1 [.own (.s ns), .own (.v (.int m)), .own (.l (sh.map offT)), .own (.l (w.map oi)), .own (.l (ds.map oi)), .no, .no, .no, .no, .no, .no, .no]
      = some (.nx [.no, .own (.v (.int m)), .own (.l (sh.map offT)), .own (.l (w.map oi)), x4, x5, x6, x7, x8, .no, .no, x11]) := by
  subst hmn
  obtain ⟨S, k1, k2, k3⟩ := kept13 hn hg hs hw
  have hl' : sem_least [.v (.list (sh.map Off.d)), .v (.list (w.map .int))] = some (.t [oi p, .l (ls.map lineO)], []) := hl
  obtain ⟨tb, t1, t2⟩ := number13 m.toNat hn sh hg hs w hw
  rw [hq] at t2
  have t2 : dval tb (keyI w) = some (.int p) := t2
  have htu := tup_ints w (by rw [hw.len]; omega)
  have hdg := dgetO_t tb w
  rw [t2] at hdg
  have hri : sem__law_right_1657 [.v (.list (sh.map Off.d)), .v (.list (w.map .int)), .v (.tuple [.int p, .list (ls.map lineD)]), .v (.int p)] = some (.v (.bool true), []) := lright13_ok m.toNat hn sh hg hs w hw p ls hP
  have hw0 : Want m.toNat (reps m.toNat 0) := ⟨by simp, fun x hx => by have := List.eq_of_mem_replicate hx; omega⟩
  obtain ⟨z, hz⟩ : ∃ z, sem_least [.v (shopD sh), .v (rowD (reps m.toNat 0))] = some (z, []) := by
    rcases least_ok m.toNat hn sh hg hs _ hw0 with ⟨_, h⟩ | ⟨_, _, _, _, _, h⟩
    · exact ⟨_, h⟩
    · exact ⟨_, h⟩
  have hz' : sem_least [.v (.list (sh.map Off.d)), .v (.list ((reps m.toNat 0).map .int))] = some (z, []) := hz
  have hrep : repO [.l [.v (.int 0)], .v (.int m)] = some (.l ((reps m.toNat 0).map oi)) := rep_oi (by omega) (by omega)
  have hrd : O.toDs ((reps m.toNat 0).map oi) = some ((reps m.toNat 0).map .int) := toDs_oi _
  have hfewL : ∀ l ∈ ls, l.2.2.length ≤ 1000 := fun l hl => (linesL_ok hs (hP.mem l hl)).few
  have hld : O.toDs (ls.map lineO) = some (ls.map lineD) := toDs_map (fun l => by simp) _
  have hpn : fNe [.tuple [.int p, .list (ls.map lineD)], .tuple [.int p, .list (ls.map lineD)]] = some (.bool false) := fNe_same 8 (by decide) (by
    have h2 : nb (.list (ls.map lineD)) 7 = true := by
      rw [nb_list, List.all_eq_true]
      intro d hd
      obtain ⟨l, _, rfl⟩ := List.mem_map.mp hd
      simp [lineD, rowD]
    rw [nb_tuple]
    simp only [List.all_cons, List.all_nil, h2, nb_int, Bool.and_true])
  have hp1 : ∀ e : En, pathK e [bC (.int 1)] = some [1] := fun _ => rfl
  have ka1 : atK (.t [oi p, .l (ls.map lineO)]) [1] = some (.l (ls.map lineO)) := atK_t (k := 1) rfl
  have kb1 : setK (.t [oi p, .l (ls.map lineO)]) [1] (ls.map lineO0) = some (.t [oi p, .l (ls.map lineO0)]) := setK4_t (k := 1) (x := .l (ls.map lineO)) rfl rfl
  have ka2 : atK (.t [oi p, .l (ls.map lineO0)]) [1] = some (.l (ls.map lineO0)) := atK_t (k := 1) rfl
  have kb2 : setK (.t [oi p, .l (ls.map lineO0)]) [1] [] = some (.t [oi p, .l []]) := setK4_t (k := 1) (x := .l (ls.map lineO0)) rfl rfl
  have hcl : ∀ xs, uClear xs [] = some ([], .v .none) := fun _ => rfl
  have hal := fun e0 e1 e2 e3 e4 e5 e6 e7 e8 e10 e11 => al13 e0 e1 e2 e3 e4 e5 e6 e7 e8 e10 e11 ls hfewL
  have h0d : O.toDs (ls.map lineO0) = some (ls.map lineD0) := toDs_map lineO0_d _
  have hrw := fun e0 e1 e2 e3 e4 e5 e6 e8 e11 => rows13 ls hfewL (.int p) e0 e1 e2 e3 e4 e5 e6 e8 e11
  have henl : (enuO 0 ((ls.map lineD0).map O.v)).length ≤ 16777216 := by
    have e : enuO 0 ((ls.map lineD0).map O.v) = (ls.zipIdx 0).map fun q => .t [oi (q.2 : Nat), .v (lineD0 q.1)] := by
      rw [List.map_map, enuO_map]
      rfl
    rw [e, List.length_map, List.length_zipIdx]
    have := hP.few
    omega
  have hn0 : fNe [.list [], .list []] = some (.bool false) := fNe_same 1 (by decide) (by simp)
  have g_s : goodS (.own (.s ns)) = .no := rfl
  have g_v : ∀ d, goodS (.own (.v d)) = .own (.v d) := fun _ => rfl
  have g_p : ∀ d, goodS (.pin (.v d)) = .pin (.v d) := fun _ => rfl
  have g_n : goodS .no = .no := rfl
  have g_d : goodS (.own (.l (ds.map oi))) = .own (.l (ds.map oi)) := by
    unfold goodS
    have : O.good (.l (ds.map oi)) = true := by unfold O.good; exact good_oi ds
    simp [Sl.o?, this]
  obtain ⟨fr, hfr⟩ : ∃ fr : O → Sl, ∀ x : O, fr x = if x.free = true then .own x else .no := ⟨fun x => if x.free = true then .own x else .no, fun _ => rfl⟩
  refine ⟨fr (.l (ds.map oi)), fr (.v (.str S)), fr (.v (.int p)), fr (.v (.tuple [.int p, .list (ls.map lineD)])), fr (.t [oi p, .l []]), fr (.v (.tuple [.int p, .list (ls.map lineD)])), ?_⟩
  have b1 : ∀ x : O, backS .no (.own x) false = some (fr x) := fun x => by rw [hfr]; rfl
  have b0 : backS .no .no false = some .no := rfl
  have bs : backS (.own (.s ns)) .no false = some .no := rfl
  have b2 : backS (.own (.v (.int m))) (.pin (.v (.int m))) true = some (.own (.v (.int m))) := rfl
  have b3 : ∀ d, backS (.own (.l (sh.map offT))) (.pin d) true = some (.own (.l (sh.map offT))) := fun _ => rfl
  have b4 : ∀ d, backS (.own (.l (w.map oi))) (.pin d) true = some (.own (.l (w.map oi))) := fun _ => rfl
  have b5 : backS (.own (.l (ds.map oi))) (.own (.l (ds.map oi))) false = some (fr (.l (ds.map oi))) := by rw [hfr]; rfl
  clear hP hfewL hl hz
  generalize O.dt tb = DT at *
  generalize ls.map lineO0 = L0 at *
  generalize ls.map lineD0 = D0 at *
  generalize ls.map lineO = LO at *
  generalize ls.map lineD = LD at *
  generalize (reps m.toNat 0).map oi = ZO at *
  generalize (reps m.toNat 0).map PyData.int = ZD at *
  simp [isoIn, pinF, O.look, Sl.o?, g_law_k13_1, k1, k2, k3, t1, htu, hdg, hl', hld, hri, hpn, pkIn_eq, hp1, mForY_ap, ka1, kb1, hal, ka2, kb2, hcl, g_s, g_v, g_p, g_n, g_d, h0d, henl, hrw, hn0, hrep, hrd, hz', isoOut, b0, b1, bs, b2, b3, b4, b5, -tupleO_v]
end
theorem good_drop {n : Nat} {sh : List Off} (hg : Good n sh) : Good n sh.dropLast := by
  intro i o ho
  have hi := (List.getElem?_eq_some_iff.mp ho).1
  rw [List.length_dropLast] at hi
  have ho' : sh[i]? = some o := by
    rw [List.getElem?_dropLast, if_pos hi] at ho
    exact ho
  have g := hg i o ho'
  refine ⟨g.w, g.sum, ?_⟩
  have k := g.kind
  cases o with
  | pack c p => exact k
  | many c ts => exact k
  | add c p q =>
    obtain ⟨h1, h2, h3, c', p', h4⟩ := k
    refine ⟨h1, h2, h3, c', p', ?_⟩
    rw [List.getElem?_dropLast, if_pos (by omega)]
    exact h4
theorem alA_rev : ∀ sh : List Off, alA [1] uRev (sh.map offT) = some ((sh.map revO).map offT)
  | [] => rfl
  | o :: sh => by
    obtain ⟨a, rest, k1, k2⟩ := off_kid o
    have h1 : atK (offT o) [1] = some (.l (o.c.map oi)) := by
      rw [k1]
      exact atK_t (k := 1) (x := .l (o.c.map oi)) rfl
    have h2 : setK (offT o) [1] ((o.c.map oi).reverse) = some (offT (revO o)) := by
      rw [k1]
      have := setK4_t (k := 1) (xs := a :: .l (o.c.map oi) :: rest) (x := .l (o.c.map oi)) (x' := .l ((o.c.map oi).reverse)) (ks := []) (ys := (o.c.map oi).reverse) rfl rfl
      rw [show [(1 : Int)] = ((1 : Nat) : Int) :: [] from rfl, this, k2, List.map_reverse]
      rfl
    have h3 : uRev (o.c.map oi) [] = some ((o.c.map oi).reverse, .v .none) := rfl
    have ih := alA_rev sh
    rw [List.map_cons, List.map_cons, List.map_cons]
    unfold alA
    rw [h1]
    simp only [h3, h2, ih]
theorem behind13 {n : Nat} (hn : n ≤ 4) {sh : List Off} (hg : Good n sh) (hs : sh.length ≤ 10) {w : List Int} (hw : Want n w) : sem__law_behind_a235 [.l (sh.map offT), .v (.list (w.map .int))] = some (.v (.bool true), []) := by
  have hal := alA_rev sh
  have hgr := good_rev hg
  have hlr : (sh.map revO).length = sh.length := List.length_map ..
  generalize sh.map revO = sr at *
  have hgd := good_drop hgr
  have hld : sr.dropLast.length ≤ 10 := by rw [List.length_dropLast]; omega
  have hdl : (sr.map offT).dropLast = sr.dropLast.map offT := by rw [List.map_dropLast]
  have htd : (O.l ((sr.map offT).dropLast)).toD = some (.list (sr.dropLast.map Off.d)) := by
    show (O.toDs (sr.map offT).dropLast).map PyData.list = _
    rw [hdl, toDs_offT]
    rfl
  generalize sr.dropLast = sd at *
  clear hdl
  have hnb : fNe [.list (sd.map Off.d), .list (sd.map Off.d)] = some (.bool false) := by
    refine fNe_same 5 (by decide) ?_
    have : nb (shopD sd) 5 = true := by
      show nb (.list (sd.map Off.d)) 5 = true
      rw [nb_list, List.all_eq_true]
      intro d hd
      obtain ⟨o, _, rfl⟩ := List.mem_map.mp hd
      cases o with
      | pack c p => simp [Off.d, rowD]; exact strOk_of _
      | many c ts => simp [Off.d, rowD, tierD]; exact strOk_of _
      | add c p k => simp [Off.d, rowD]; exact strOk_of _
    exact this
  obtain ⟨tb, t1, t2⟩ := number13 n hn sd hgd hld w hw
  have htu := tup_ints w (by rw [hw.len]; omega)
  have hdg := dgetO_t tb w
  rw [t2] at hdg
  obtain ⟨e9, hrun⟩ : ∃ e9, m__law_behind_a235 (.own (.v (.list (sd.map Off.d))) :: .own (.v (.list (sd.map Off.d))) :: .own (.v (.list (w.map .int))) :: List.replicate (6 - 3) .no) = some (.rt (.v (.bool true)) e9) := by
    show ∃ e9, m__law_behind_a235 [.own (.v (.list (sd.map Off.d))), .own (.v (.list (sd.map Off.d))), .own (.v (.list (w.map .int))), .no, .no, .no] = some (.rt (.v (.bool true)) e9)
    clear hal htd t2
    rcases least_ok n hn sd hgd hld w hw with ⟨hq, hl⟩ | ⟨p, o, ls, hq, hb, hl⟩
    · have hl' : sem_least [.v (.list (sd.map Off.d)), .v (.list (w.map .int))] = some (.v .none, []) := hl
      rw [hq] at hdg
      have hdg : dgetO (.dt tb) (.tuple (w.map .int)) = some (some .none) := hdg
      generalize O.dt tb = DT at *
      generalize sd.map Off.d = SD at *
      exact ⟨_, by simp [m__law_behind_a235, hnb, t1, htu, hdg, hl', -tupleO_v, -dgetO_t]; rfl⟩
    · have hl' : sem_least [.v (.list (sd.map Off.d)), .v (.list (w.map .int))] = some (.t [oi p, .l ((sortLn ls).map lineO)], []) := hl
      have hld2 : O.toDs ((sortLn ls).map lineO) = some ((sortLn ls).map lineD) := toDs_map (fun l => by simp) _
      rw [hq] at hdg
      have hdg : dgetO (.dt tb) (.tuple (w.map .int)) = some (some (.int p)) := hdg
      generalize (sortLn ls).map lineO = LO at *
      generalize (sortLn ls).map lineD = LD at *
      generalize O.dt tb = DT at *
      generalize sd.map Off.d = SD at *
      exact ⟨_, by simp [m__law_behind_a235, hnb, t1, htu, hdg, hl', hld2, -tupleO_v, -dgetO_t]; rfl⟩
  show semBeh 6 [1] uRev m__law_behind_a235 _ = _
  unfold semBeh
  simp only [hal, htd, hrun]
@[simp] theorem mBeh_ap {sem : List O → Option (O × List O)} {i l : Nat} {e : En} : mBeh sem i l e = (match e[i]?, e[l]? with
  | some (.own (.l xs)), some (.own (.v wd)) => (match sem [.l xs, .v wd] with
    | some (x, []) => some (x, e.set i .no)
    | _ => none)
  | _, _ => none) := id rfl
theorem law_true : LawTrue := by
  intro ns hl
  obtain ⟨m, sh, w, ds, h0, hm1, hm2, hg, hs, hw, _⟩ := case2_ok ns hl 130 (by omega)
  have hn : m.toNat ≤ 4 := by omega
  have hs10 : sh.length ≤ 10 := by omega
  have hb := behind13 hn hg hs10 hw
  have hwd : O.toDs (w.map oi) = some (w.map .int) := toDs_oi _
  rcases least_ok m.toNat hn sh hg hs10 w hw with ⟨hq, hl⟩ | ⟨p, o, ls, hq, hbuy, hl⟩
  · obtain ⟨x4, x5, x6, x7, hi⟩ := iso_none hn hg hs10 hw hq hl ns ds m
    simp [-mIso_ap, un_law_k13, m_law_k13, h0, hi]
  · obtain ⟨x4, x5, x6, x7, x8, x11, hi⟩ := iso_ok hn hg hs10 hw hq (pur13 hn hg hs10 hw hq hbuy) hl ns ds m ⟨hm1, hm2⟩ rfl
    generalize sh.map offT = SO at *
    generalize w.map oi = WO at *
    generalize w.map PyData.int = WD at *
    simp [-mIso_ap, un_law_k13, m_law_k13, h0, hi, hwd, hb]
end K13
set_option Elab.async false
set_option linter.all false
set_option maxRecDepth 100000
open PySem PySem.W PyProof.Rows
set_option maxHeartbeats 0 in
theorem PySem.Challenge.cw_packwants_k13_least_prices_holds : PySem.Challenge.rw_packwants_k13_least_prices.Holds := by
  w_on; o_law; k_head; (case hw => w_witness2)
  k_fill
  refine Dn.walkG (l := PySem.Challenge.rw_packwants_k13_least_prices) (n := 63) (k := 8) (x := "_law_script") (C := fun _ => L2.CX0) (sp := fun w => Dn.spOf _ (List.replicate 1 false) Dn.sem_law_k13) rfl (by decide) rfl ⟨rfl, by decide, by decide⟩ (fun w h Y => PySem.W.kIn_of Y) ?F (fun _ _ a ns hl _ hS => K13.law_sp K13.law_true a ns hl _ hS _ _ fun _ => rfl) (fun _ _ _ _ _ h => h)
  case F =>
    intro w mg fa h KX G hmg
    refine' K13.all_mk KX G hmg ?a0 ?l0 ?c0 ?k0 ?a1 ?l1 ?c1 ?k1 ?a2 ?l2 ?c2 ?k2 ?a3 ?l3 ?c3 ?k3 ?a4 ?l4 ?c4 ?k4 ?a5 ?l5 ?c5 ?k5 ?a6 ?l6 ?c6 ?k6 ?a7 ?l7 ?c7 ?k7 ?a8 ?l8 ?c8 ?k8 ?a9 ?l9 ?c9 ?k9 ?a10 ?l10 ?c10 ?k10 ?a11 ?l11 ?c11 ?k11 ?a12 ?l12 ?c12 ?k12 ?a13 ?l13 ?c13 ?k13 ?a14 ?l14 ?c14 ?k14 ?a15 ?l15 ?c15 ?k15 ?a16 ?l16 ?c16 ?k16 ?a17 ?l17 ?c17 ?k17 ?a18 ?l18 ?c18 ?k18 ?a19 ?l19 ?c19 ?k19 ?a20 ?l20 ?c20 ?k20 ?a21 ?l21 ?c21 ?k21 ?a22 ?l22 ?c22 ?k22 ?a23 ?l23 ?c23 ?k23 ?a24 ?l24 ?c24 ?k24 ?a25 ?l25 ?c25 ?k25 ?a26 ?l26 ?c26 ?k26 ?a27 ?l27 ?c27 ?k27 ?a28 ?l28 ?c28 ?k28 ?a29 ?l29 ?c29 ?k29 ?a30 ?l30 ?c30 ?k30 ?a31 ?l31 ?c31 ?k31 ?a32 ?l32 ?c32 ?k32 ?a33 ?l33 ?c33 ?k33 ?a34 ?l34 ?c34 ?k34 ?z_all ?z_enumerate ?z_int ?z_isinstance ?z_len ?z_list ?z_max ?z_min ?z_range ?z_sorted ?z_str ?z_sum ?z_tuple ?z_zip ?g_MOST ?g_MOST_TIERS
    (case a0 => k_is)
    (case l0 => k_is)
    (case c0 => k_is)
    (case k0 => k_is)
    (case a1 => k_is)
    (case l1 => k_is)
    (case c1 => k_is)
    (case k1 => k_is)
    (case a2 => k_is)
    (case l2 => k_is)
    (case c2 => k_is)
    (case k2 => k_is)
    (case a3 => k_is)
    (case l3 => k_is)
    (case c3 => k_is)
    (case k3 => k_is)
    (case a4 => k_is)
    (case l4 => k_is)
    (case c4 => k_is)
    (case k4 => k_is)
    (case a5 => k_is)
    (case l5 => k_is)
    (case c5 => k_is)
    (case k5 => k_is)
    (case a6 => k_is)
    (case l6 => k_is)
    (case c6 => k_is)
    (case k6 => k_is)
    (case a7 => k_is)
    (case l7 => k_is)
    (case c7 => k_is)
    (case k7 => k_is)
    (case a8 => k_is)
    (case l8 => k_is)
    (case c8 => k_is)
    (case k8 => k_is)
    (case a9 => k_is)
    (case l9 => k_is)
    (case c9 => k_is)
    (case k9 => k_is)
    (case a10 => k_is)
    (case l10 => k_is)
    (case c10 => k_is)
    (case k10 => k_is)
    (case a11 => k_is)
    (case l11 => k_is)
    (case c11 => k_is)
    (case k11 => k_is)
    (case a12 => k_is)
    (case l12 => k_is)
    (case c12 => k_is)
    (case k12 => k_is)
    (case a13 => k_is)
    (case l13 => k_is)
    (case c13 => k_is)
    (case k13 => k_is)
    (case a14 => k_is)
    (case l14 => k_is)
    (case c14 => k_is)
    (case k14 => k_is)
    (case a15 => k_is)
    (case l15 => k_is)
    (case c15 => k_is)
    (case k15 => k_is)
    (case a16 => k_is)
    (case l16 => k_is)
    (case c16 => k_is)
    (case k16 => k_is)
    (case a17 => k_is)
    (case l17 => k_is)
    (case c17 => k_is)
    (case k17 => k_is)
    (case a18 => k_is)
    (case l18 => k_is)
    (case c18 => k_is)
    (case k18 => k_is)
    (case a19 => k_is)
    (case l19 => k_is)
    (case c19 => k_is)
    (case k19 => k_is)
    (case a20 => k_is)
    (case l20 => k_is)
    (case c20 => k_is)
    (case k20 => k_is)
    (case a21 => k_is)
    (case l21 => k_is)
    (case c21 => k_is)
    (case k21 => k_is)
    (case a22 => k_is)
    (case l22 => k_is)
    (case c22 => k_is)
    (case k22 => k_is)
    (case a23 => k_is)
    (case l23 => k_is)
    (case c23 => k_is)
    (case k23 => k_is)
    (case a24 => k_is)
    (case l24 => k_is)
    (case c24 => k_is)
    (case k24 => k_is)
    (case a25 => k_is)
    (case l25 => k_is)
    (case c25 => k_is)
    (case k25 => k_is)
    (case a26 => k_is)
    (case l26 => k_is)
    (case c26 => k_is)
    (case k26 => k_is)
    (case a27 => k_is)
    (case l27 => k_is)
    (case c27 => k_is)
    (case k27 => k_is)
    (case a28 => k_is)
    (case l28 => k_is)
    (case c28 => k_is)
    (case k28 => k_is)
    (case a29 => k_is)
    (case l29 => k_is)
    (case c29 => k_is)
    (case k29 => k_is)
    (case a30 => k_is)
    (case l30 => k_is)
    (case c30 => k_is)
    (case k30 => k_is)
    (case a31 => k_is)
    (case l31 => k_is)
    (case c31 => k_is)
    (case k31 => k_is)
    (case a32 => k_is)
    (case l32 => k_is)
    (case c32 => k_is)
    (case k32 => k_is)
    (case a33 => k_is)
    (case l33 => k_is)
    (case c33 => k_is)
    (case k33 => k_is)
    (case a34 => k_is)
    (case l34 => k_is)
    (case c34 => k_is)
    (case k34 => k_is)
    (case z_all => k_is)
    (case z_enumerate => k_is)
    (case z_int => k_is)
    (case z_isinstance => k_is)
    (case z_len => k_is)
    (case z_list => k_is)
    (case z_max => k_is)
    (case z_min => k_is)
    (case z_range => k_is)
    (case z_sorted => k_is)
    (case z_str => k_is)
    (case z_sum => k_is)
    (case z_tuple => k_is)
    (case z_zip => k_is)
    (case g_MOST => k_is)
    (case g_MOST_TIERS => k_is)
