import PyProof.Rows.All
import Wide.All
import OpenK.AllK
import Wide.FinOn
import HandS.ForMost
import HandS.Wide
import HandS.WideMore
import HandS.Exc
import HandS.WordsExc
import HandS.Deep
import HandS.Conv
import HandS.IsInst
import HandS.Style
import HandS.SortInts
import HandS.Strs
import HandS.RevRange
import HandS.Flow
import KE.SortData
import KE.DataCmp
import HandS.RaiseMore
import PyProof.ReprLen
import HandS.Text
import PyProof.StrOps2
import PyProof.StrLawsChain
import PySem.Challenge.RW_packwants_k36_contents_as_texts
set_option Elab.async false
set_option linter.all false
set_option maxRecDepth 100000
set_option maxHeartbeats 4000000
/-! Promises of defs that are called where no text of a list is being made (guards). -/
namespace Dn
open PySem PySem.Spec PyProof.Rows L2
structure RoomG (k : Nat) (A : Around) : Prop extends Room k A where
  gd : A.guards = some []
theorem RoomG.mono {j k : Nat} {A : Around} (r : RoomG k A) (h : j ≤ k) : RoomG j A := ⟨r.toRoom.mono h, r.gd⟩
theorem RoomG.deeper {k : Nat} {A : Around} (r : RoomG (k + 1) A) (env : Env) : RoomG k (A.deeper env) := ⟨r.toRoom.deeper env, r.gd⟩
/-- the def at f keeps its promise wherever nothing is being shown -/
structure FnG (P : Program) (w : World) (K : PySem.W.Frag) (mg : Str → Option Value) (base : Heap) (CX : CXT) (k : Nat) (f : Addr) (fd : FuncData) (ps : List Str) (sp : Sp) : Prop where
  len : ∀ vs H Q E, sp vs H Q E → vs.length = ps.length
  go : ∀ (A : Around) (out : List Env) (t : Shared) (H : Hp) (as : Args) (zs : List Value) (xs : List V) (Q : VK) (E : XK), RoomG k A → Env0 P w K mg base A out t H → BindsTo t fd as (ps.zip zs) → Vals xs zs → sp xs H Q E → codeAny (model P w) A (.call (.ref f) as) (CR CX out P w H t Q E) t
section
variable {P : Program} {w : World} {K : PySem.W.Frag} {mg : Str → Option Value} {base : Heap} {C : CXT}
theorem FnG.or {k : Nat} {f : Addr} {fd : FuncData} {ps : List Str} {sp sp' : Sp} (F : FnG P w K mg base C k f fd ps sp) (G : FnG P w K mg base C k f fd ps sp') : FnG P w K mg base C k f fd ps (fun vs H Q E => sp vs H Q E ∨ sp' vs H Q E) :=
  ⟨fun vs H Q E h => h.elim (F.len vs H Q E) (G.len vs H Q E), fun A out t H as zs xs Q E r e b v h => h.elim (F.go A out t H as zs xs Q E r e b v) (G.go A out t H as zs xs Q E r e b v)⟩
/-- a def by its body -/
theorem Fun.okG {x q : Str} {st : Stmt} {f : Addr} {fd : FuncData} {N ps : List Str} {k : Nat} {sp : Sp} (D : Fun K x q st f fd) (S : FnScope N ps (defScope st)) (len : ∀ vs H Q E, sp vs H Q E → vs.length = ps.length)
    (walk : ∀ (cv : Value) (A : Around) (out : List Env) (t : Shared) (H : Hp) (xs : List V) (Q : VK) (E : XK), RoomG k (A.deeper (envOfC q (defScope st) t.heap.objs.size f cv)) → sp xs H Q E →
      ∃ r, PSs (cxOf C P w K mg base N q (defScope st) f cv A out t H E) (defBody st) r ∧ r { nx := fun _ H' => Q .non H', rt := Q } (L2.start N xs) H) : FnG P w K mg base C (k + 1) f fd ps sp := by
  obtain ⟨oc, od, kV, dc, pm, an, cv, ct, os, rfl, look, code⟩ := D.ex
  constructor
  · exact len
  intro A out t H as zs xs Q E room e0 bind rel ask
  have inK : K.In t.heap := e0.mod.kin.keeps fun b o h => (e0.bs b o h).1
  have noLim : t.heap.NoLimit := e0.mod.nolimit.keeps fun b o h => (e0.bs b o h).1
  refine codeAny_call_function room.toRoom.depth (inK _ _ look) rfl S.co S.gen rfl (PySem.W.codeRec_of inK code) (bind _ _ _ _ ?_)
  refine wpAny_newFunctionEnv_cells S.kind (fun ⟨n, z⟩ hz => ?_) fun env henv t1 X1 => ?_
  · rcases S.par n (List.of_mem_zip hz).1 with h | h
    · exact .inl h
    · exact .inr ⟨h, PySem.W.cellsFrom_some _ _ _ (.inl h)⟩
  subst henv
  obtain ⟨r, hr, ask2⟩ := walk cv A out t H xs Q E (room.deeper _) ask
  have J0 := inv_start (CX := C) (E := E) S room.toRoom.hd e0 (len _ _ _ _ ask) rel X1
  refine ⟨noLim.keeps X1.toInCall.keep, codeAny_func (wpAny_mono (hr.run [] t1 (L2.start N xs) H _ J0 ask2) (fun fl t2 h2 => ?_) fun _ _ h => h)⟩
  match fl, h2 with
  | .ret u, ⟨v, _, H', J, rv, q⟩ => exact ⟨v, H', J.os, J.bare, J.base, J.hok, rv, q⟩
  | .next, ⟨_, H', J, q⟩ => exact ⟨V.non, H', J.os, J.bare, J.base, J.hok, rfl, q⟩
  | .brk, ⟨_, _, _, q⟩ => exact False.elim q
  | .cont, ⟨_, _, _, q⟩ => exact False.elim q
end
section
variable {X : Cx} {C : CXT} {k : Nat} {f : Addr} {fd : FuncData} {ps : List Str} {sp : Sp} {dvs : List V} {ds : List Value} {E : XK} {x : Str} {p pos : Pos} {e : Expr} {es : List Expr} {t : TA}
theorem FnG.at {pins : List (Addr × Obj)} {σ : L2.St} {H : Hp} {s : Shared} {Q : VK} {us : List Value} {vs : List V} (F : FnG X.prog X.w X.K X.mg X.base C k f fd ps sp) (room : RoomG k X.A) (hb : Binds X.K fd ps ds) (hd : Vals dvs ds) (hx : Passes C X E)
    (I : Inv X pins σ H s) (r : Vals vs us) (h : sp (vs ++ dvs) H Q E) : wpAny (model X.prog X.w) X.A (call (.ref f) us) (EP X pins σ Q) X.xe s := by
  have rr : Vals (vs ++ dvs) (us ++ ds) := r.append hd
  have ll : (us ++ ds).length = ps.length := rr.length ▸ F.len _ _ _ _ h
  refine wpAny_call (codeAny_mono (F.go X.A X.stack s H ⟨us, []⟩ _ _ Q E room I.env0 (hb s us I.kIn ll) rr h) fun res s2 hq => ?_)
  match res, hq with
  | .error er, hq => exact hx pins σ H s er s2 I hq
  | .ok (.ret u), hq => exact I.after hq
  | .ok .next, hq => exact hq.elim
  | .ok .brk, hq => exact hq.elim
  | .ok .cont, hq => exact hq.elim
theorem pe_callG (F : FnG X.prog X.w X.K X.mg X.base C k f fd ps sp) (room : RoomG k X.A) (hg : Gl X x) (hm : X.mg x = some (.ref f)) (hk : PySem.W.keepIn X.K (.ref f) = true) (hb : Binds X.K fd ps ds) (hd : Vals dvs ds) (hx : Passes C X E) (ha : PA X (e :: es) t)
    (hdb : (x == ("__debug__" : Str)) = false := by decide) (he : starEach (e :: es) X.env = (false, eval e X.env) :: starEach es X.env := by rfl) (hpl : (backTo pos (starEach es X.env)).any (·.1) = false := by rfl) :
    PE X (.Call (.Name x p) (e :: es) [] pos) (tCall sp dvs E t) :=
  ⟨fun pins s σ H Q I h => wpAny_Call_Name_kw (ld_glob I hg hm (PySem.W.callWith_K (h₀ := X.base) I.ok.mod.kin hk (thn (ha.run pos pins s σ H _ I h) fun us s1 ⟨vs, H1, I1, r, q⟩ => ⟨I1.kIn, F.at room hb hd hx I1 r q⟩) he hpl) hdb)⟩
theorem pe_callG0 (F : FnG X.prog X.w X.K X.mg X.base C k f fd ps sp) (room : RoomG k X.A) (hg : Gl X x) (hm : X.mg x = some (.ref f)) (hk : PySem.W.keepIn X.K (.ref f) = true) (hb : Binds X.K fd ps ds) (hd : Vals dvs ds) (hx : Passes C X E)
    (hdb : (x == ("__debug__" : Str)) = false := by decide) : PE X (.Call (.Name x p) [] [] pos) (tCall sp dvs E tNil) :=
  ⟨fun pins s σ H Q I h => wpAny_Call_Name_kw (ld_glob I hg hm (PySem.W.callWith_K0 I.kIn hk (F.at (us := []) room hb hd hx I .nil h)) hdb)⟩
end
/-- the law's call, where the script alone is tracked -/
theorem lawG {P : Program} {w : World} {K : PySem.W.Frag} {mg mb : Str → Option Value} {C : CXT} {k : Nat} {fa a : Addr} {fd : FuncData} {x : Str} {sp : Sp} {t : Shared} {vs : List Value} {ns : List Int}
    (inK : K.In t.heap) (hns : t.heap.Ns mainGlobals mg) (hb : t.heap.Ns builtinsNs mb) (hbb : ∀ x : Str, x ≠ "__name__" → mb x = bootBuiltins x) (lim : t.heap.NoLimit) (hg : t.gens = #[])
    (ha : t.heap.get? a = some { cls := .type "list", data := .seq vs.toArray }) (hi : IntsAre vs ns) (hl : ns.length ≤ sizeLine) (room : Room k callerA)
    (F : ∀ base : Heap, K.In base → base.Ns mainGlobals mg → FnG P w K mg base C k fa fd [x] sp) (bind : ∀ (s : Shared) (u : Value), BindsTo s fd ⟨[u], []⟩ [(x, u)])
    (hsp : ∀ H : Hp, Only H → SqL K H a (ns.map V.int) → sp [.ref a] H (fun v _ => v = .bl true) fun _ _ _ => False) (hC : ∀ H e s', C [] H t (fun _ _ _ => False) e s' → False) :
    codeAny (model P w) callerA (.call (.ref fa) ⟨[.ref a], []⟩) (fun r s' => r = .ok (.ret (.bool true)) ∧ OldK t.heap s'.heap ∧ s'.os = t.os ∧ AllBare s'.gens) t := by
  have main : ∀ H : Hp, Only H → SqL K H a (ns.map V.int) → HOk P w H t.heap → (∀ b, H b ≠ none → b = a ∧ K.lookup b = none) → codeAny (model P w) callerA (.call (.ref fa) ⟨[.ref a], []⟩) (fun r s' => r = .ok (.ret (.bool true)) ∧ OldK t.heap s'.heap ∧ s'.os = t.os ∧ AllBare s'.gens) t := by
    intro H only seq ok alone
    have free : ∀ (b : Addr) (o : Obj), t.heap.get? b = some o → (b = a → False) → (hidT t.heap H).get? b = some o := fun b o e n => hidT_get e (Classical.byContradiction fun z => n (alone b z).1)
    have ns' : ∀ {b : Addr} {m : Str → Option Value}, t.heap.Ns b m → (hidT t.heap H).Ns b m := by
      rintro b m ⟨o, es, ep, e, d, r⟩
      refine ⟨o, es, ep, free b o e fun z => ?_, d, r⟩
      subst z
      rw [ha] at e
      cases e
      exact nomatch d
    have kb : K.In (hidT t.heap H) := fun b o e => hidT_get (inK b o e) (Classical.byContradiction fun z => by rw [(alone b z).2] at e; cases e)
    have lim' : (hidT t.heap H).NoLimit := by
      obtain ⟨mc, l1, l2⟩ := lim
      exact ⟨mc, ns' l1, l2⟩
    have e0 : Env0 P w K mg (hidT t.heap H) callerA [] t H := ⟨rfl, ⟨kb, ns' hns, ⟨mb, ns' hb, hbb⟩, lim'⟩, fun b o e => of_hidT e, Nat.le_of_eq (hidT_size _ _), trivial, fun b hb => absurd (show b ∈ ([] : List Addr) from hb) (by simp), ok, .of_eq hg⟩
    refine codeAny_mono ((F _ kb (ns' hns)).go callerA [] t H ⟨[.ref a], []⟩ [.ref a] [.ref a] _ _ ⟨room, rfl⟩ e0 (bind t (.ref a)) (.cons rfl .nil) (hsp H only seq)) fun r s' h => ?_
    match r, h with
    | .error e, h => exact (hC H e s' h).elim
    | .ok .next, h => exact h.elim
    | .ok .brk, h => exact h.elim
    | .ok .cont, h => exact h.elim
    | .ok (.ret u), ⟨v, H', os, bare, un, ok', rv, q⟩ =>
      obtain rfl : v = .bl true := q
      obtain rfl : u = Value.bool true := rv
      refine ⟨rfl, OldK.of_keep fun b o e => ?_, os, bare⟩
      rcases only b with z | ⟨ob, xs, z⟩
      · exact un.keep b o e z (fun y => absurd (show b ∈ ([] : List Addr) from y) (by simp)) (by simp)
      · have h1 := (ok b _ z).1
        rw [e] at h1
        cases h1
        exact (ok' b _ (un.frzs b o _ z)).1
  have rv := vals_ints hi
  cases hk : K.lookup a with
  | some o =>
    have e := inK a o hk
    rw [ha] at e
    cases e
    exact main (fun _ => none) (fun _ => .inl rfl) (.inr ⟨_, vs.toArray, _, hk, rfl, rfl, rfl, by rw [List.size_toArray, hi.length]; exact hl, by simpa using rv⟩) (fun b u z => by cases z) fun b z => absurd rfl z
  | none =>
    have at1 : ∀ (b : Addr) (u : HO), (if b = a then some (HO.frz { cls := .type "list", data := .seq vs.toArray } (.lst (ns.map V.int))) else none) = some u → b = a ∧ u = HO.frz { cls := .type "list", data := .seq vs.toArray } (.lst (ns.map V.int)) := fun b u z => by
      split at z
      · rename_i hb
        cases z
        exact ⟨hb, rfl⟩
      · cases z
    refine main (fun b => if b = a then some (.frz { cls := .type "list", data := .seq vs.toArray } (.lst (ns.map V.int))) else none) (fun b => ?_) (.inl (.inr ⟨_, if_pos rfl⟩)) (fun b u z => ?_) fun b z => ?_
    · show (if b = a then some _ else none) = none ∨ ∃ o xs, (if b = a then some _ else none) = some (HO.frz o (.lst xs))
      split
      · exact .inr ⟨_, _, rfl⟩
      · exact .inl rfl
    · obtain ⟨rfl, rfl⟩ := at1 b u z
      exact ⟨ha, by rw [List.length_map]; exact hl, vs, _, rv, ha⟩
    · have : b = a := Classical.byContradiction fun n => z (if_neg n)
      exact ⟨this, this ▸ hk⟩
theorem walkG {l : PySem.W.OpenLaw} {n k : Nat} {q : Program} {loose : List Str} {XP : (Str → Option Value) → Heap → Prop} {YP : World → Heap → Prop} {d : DefRec} {K : Params → PySem.W.Frag} {C : World → CXT} {sp : World → Sp} {x : Str}
    (hn : l.most = some n) (hn2 : n ≤ sizeLine) (hdf : d.params.defaults = []) (room : Room k callerA) (hY : ∀ (w : World) (h : Heap), YP w h → (K w.params).In h)
    (F : ∀ (w : World) (mg : Str → Option Value) (fa : Addr) (h : Heap), (K w.params).In h → h.Ns mainGlobals mg → mg d.name = some (.ref fa) →
      ∃ fd : FuncData, (∀ (s : Shared) (u : Value), BindsTo s fd ⟨[u], []⟩ [(x, u)]) ∧ ∀ base : Heap, (K w.params).In base → base.Ns mainGlobals mg → FnG l.prog w (K w.params) mg base (C w) k fa fd [x] (sp w))
    (hsp : ∀ (w : World) (H : Hp) (a : Addr) (ns : List Int), ns.length ≤ n → Only H → SqL (K w.params) H a (ns.map V.int) → sp w [.ref a] H (fun v _ => v = .bl true) fun _ _ _ => False)
    (hC : ∀ (w : World) (H : Hp) (s : Shared) (e : Value) (s' : Shared), C w [] H s (fun _ _ _ => False) e s' → False) : PySem.W.WalkO q loose XP YP l.row.toRowW d [] (fun f vs => PySem.call f vs) :=
  Att.attach_call hn hdf fun w s0 s1 mg mb fa o pm cd doc a vs ns G Y ho hd hcd hmg hobj hints hlen hg => by
    have inK := hY w _ Y
    obtain ⟨fd, hb, hF⟩ := F w mg fa _ inK G.T.g hmg
    exact lawG inK G.T.g G.T.b G.T.builtins G.T.nolimit hg hobj hints (Nat.le_trans hlen hn2) room hF hb (fun H hO hS => hsp w H a ns hlen hO hS) fun H e s' => hC w H s1 e s'
end Dn

set_option Elab.async false
set_option linter.all false
set_option maxRecDepth 100000
set_option maxHeartbeats 4000000
/-! Denotations: resources, what stands in the heap, by trees of data. -/
namespace Dn
open PySem L2

/-- a thing that lives: frozen data, or a tree of which the one who holds it is the only holder -/
inductive O where
  | v (d : PyData)
  | s (ns : List Int)
  | fx (u : HO)
  | l (xs : List O)
  | t (xs : List O)
  | dk (kvs : List (Key × PyData))
  | dt (kvs : List (List Key × PyData))
  | ob (C : Addr) (ns : List Str) (xs : List O)

mutual
def O.toD : O → Option PyData
  | .v d => some d
  | .l xs => (O.toDs xs).map .list
  | .t xs => (O.toDs xs).map .tuple
  | _ => none
def O.toDs : List O → Option (List PyData)
  | [] => some []
  | x :: xs => match O.toD x, O.toDs xs with
    | some d, some ds => some (d :: ds)
    | _, _ => none
end

section
variable {K : PySem.W.Frag}
theorem rd_mono {H H' : Hp} {a : Addr} {u : HO} (e : Same H H') (h : Rd H a u) : Rd H' a u := by
  rcases h with h | ⟨o, h⟩
  · exact .inl (e _ _ h)
  · exact .inr ⟨o, e _ _ h⟩
theorem sqt_mono {H H' : Hp} {a : Addr} {xs : List V} (e : Same H H') (h : SqT K H a xs) : SqT K H' a xs := by
  rcases h with h | h
  · exact .inl (rd_mono e h)
  · exact .inr h
theorem sql_mono {H H' : Hp} {a : Addr} {xs : List V} (e : Same H H') (h : SqL K H a xs) : SqL K H' a xs := e.seq h
mutual
/-- frozen data: its lists stand as lists -/
inductive Df (K : PySem.W.Frag) (F : Hp) : V → PyData → Prop
  | non : Df K F .non .none
  | bl (b : Bool) : Df K F (.bl b) (.bool b)
  | int (i : Int) : Df K F (.int i) (.int i)
  | str (x : Str) : Df K F (.str x) (.str x)
  | lst {a : Addr} {xs : List V} {ds : List PyData} : F a = some (.lst xs) → DfAll K F xs ds → Df K F (.ref a) (.list ds)
  | tup {a : Addr} {xs : List V} {ds : List PyData} : F a = some (.tup xs) → DfAll K F xs ds → Df K F (.ref a) (.tuple ds)
inductive DfAll (K : PySem.W.Frag) (F : Hp) : List V → List PyData → Prop
  | nil : DfAll K F [] []
  | cons {v : V} {vs : List V} {d : PyData} {ds : List PyData} : Df K F v d → DfAll K F vs ds → DfAll K F (v :: vs) (d :: ds)
end
mutual
theorem Df.dp {F H : Hp} (e : Same F H) : ∀ {v : V} {d : PyData}, Df K F v d → Dp K H v d
  | _, _, .non => .non
  | _, _, .bl b => .bl b
  | _, _, .int i => .int i
  | _, _, .str x => .str x
  | _, _, .lst h a => .lst (.of (e _ _ h)) (DfAll.dp e a)
  | _, _, .tup h a => .tup (.of (e _ _ h)) (DfAll.dp e a)
theorem DfAll.dp {F H : Hp} (e : Same F H) : ∀ {vs : List V} {ds : List PyData}, DfAll K F vs ds → DpAll K H vs ds
  | _, _, .nil => .nil
  | _, _, .cons h t => .cons (Df.dp e h) (DfAll.dp e t)
end
mutual
theorem dp_mono {F F' : Hp} (e : Same F F') : ∀ {v : V} {d : PyData}, Df K F v d → Df K F' v d
  | _, _, .non => .non
  | _, _, .bl b => .bl b
  | _, _, .int i => .int i
  | _, _, .str x => .str x
  | _, _, .lst h a => .lst (e _ _ h) (dpa_mono e a)
  | _, _, .tup h a => .tup (e _ _ h) (dpa_mono e a)
theorem dpa_mono {F F' : Hp} (e : Same F F') : ∀ {vs : List V} {ds : List PyData}, DfAll K F vs ds → DfAll K F' vs ds
  | _, _, .nil => .nil
  | _, _, .cons h t => .cons (dp_mono e h) (dpa_mono e t)
end
end

abbrev Ws := List (V × O)
mutual
inductive Rp (K : PySem.W.Frag) (F H : Hp) : V → O → List Addr → Prop
  | v {x : V} {d : PyData} : Df K F x d → Rp K F H x (.v d) []
  | s {a : Addr} {ns : List Int} : SqL K F a (ns.map V.int) → Rp K F H (.ref a) (.s ns) []
  | fx {a : Addr} {u : HO} : F a = some u → Rp K F H (.ref a) (.fx u) []
  | l {p : Addr} {vs : List V} {xs : List O} {ws : Ws} {T : List Addr} : H p = some (.lst vs) → vs = ws.map (·.1) → xs = ws.map (·.2) → RpL K F H ws T → Rp K F H (.ref p) (.l xs) (p :: T)
  | t {p : Addr} {vs : List V} {xs : List O} {ws : Ws} {T : List Addr} : H p = some (.tup vs) → vs = ws.map (·.1) → xs = ws.map (·.2) → RpL K F H ws T → Rp K F H (.ref p) (.t xs) (p :: T)
  | dk {p : Addr} {kvs : List (Key × V)} {ks : List (Key × PyData)} : H p = some (.dK kvs) → kvs.map (·.1) = ks.map (·.1) → DfAll K F (kvs.map (·.2)) (ks.map (·.2)) → Rp K F H (.ref p) (.dk ks) [p]
  | dt {p : Addr} {kvs : List (List Key × V)} {ks : List (List Key × PyData)} : H p = some (.dT kvs) → kvs.map (·.1) = ks.map (·.1) → DfAll K F (kvs.map (·.2)) (ks.map (·.2)) → Rp K F H (.ref p) (.dt ks) [p]
  | ob {p dx C : Addr} {fs : List (Str × V)} {ns : List Str} {xs : List O} {ws : Ws} {T : List Addr} : H p = some (.ins C dx fs) → H dx = some (.own p) → fs.map (·.1) = ns → fs.map (·.2) = ws.map (·.1) → xs = ws.map (·.2) → RpL K F H ws T → Rp K F H (.ref p) (.ob C ns xs) (p :: dx :: T)
inductive RpL (K : PySem.W.Frag) (F H : Hp) : Ws → List Addr → Prop
  | nil : RpL K F H [] []
  | cons {x : V} {o : O} {ws : Ws} {T1 T2 : List Addr} : Rp K F H x o T1 → RpL K F H ws T2 → RpL K F H ((x, o) :: ws) (T1 ++ T2)
end

section
variable {K : PySem.W.Frag}
mutual
theorem rp_mono {F F' H H' : Hp} (e : Same F F') : ∀ {v : V} {o : O} {T : List Addr}, Rp K F H v o T → (∀ p ∈ T, H' p = H p) → Rp K F' H' v o T
  | _, _, _, .v h, _ => .v (dp_mono e h)
  | _, _, _, .s h, _ => .s (sql_mono e h)
  | _, _, _, .fx h, _ => .fx (e _ _ h)
  | _, _, _, .l h e1 e2 r, k => .l ((k _ (List.mem_cons_self ..)).trans h) e1 e2 (rpl_mono e r fun p hp => k p (List.mem_cons_of_mem _ hp))
  | _, _, _, .t h e1 e2 r, k => .t ((k _ (List.mem_cons_self ..)).trans h) e1 e2 (rpl_mono e r fun p hp => k p (List.mem_cons_of_mem _ hp))
  | _, _, _, .dk h e1 a, k => .dk ((k _ (List.mem_cons_self ..)).trans h) e1 (dpa_mono e a)
  | _, _, _, .dt h e1 a, k => .dt ((k _ (List.mem_cons_self ..)).trans h) e1 (dpa_mono e a)
  | _, _, _, .ob h h' e0 e1 e2 r, k => .ob ((k _ (List.mem_cons_self ..)).trans h) ((k _ (List.mem_cons_of_mem _ (List.mem_cons_self ..))).trans h') e0 e1 e2 (rpl_mono e r fun p hp => k p (List.mem_cons_of_mem _ (List.mem_cons_of_mem _ hp)))
theorem rpl_mono {F F' H H' : Hp} (e : Same F F') : ∀ {ws : Ws} {T : List Addr}, RpL K F H ws T → (∀ p ∈ T, H' p = H p) → RpL K F' H' ws T
  | _, _, .nil, _ => .nil
  | _, _, .cons h t, k => .cons (rp_mono e h fun p hp => k p (List.mem_append_left _ hp)) (rpl_mono e t fun p hp => k p (List.mem_append_right _ hp))
end
mutual
theorem rp_dom {F H : Hp} : ∀ {v : V} {o : O} {T : List Addr}, Rp K F H v o T → ∀ p ∈ T, H p ≠ none
  | _, _, _, .v h, p, hp => by cases hp
  | _, _, _, .s h, p, hp => by cases hp
  | _, _, _, .fx h, p, hp => by cases hp
  | _, _, _, .l h _ _ r, p, hp => by
    rcases List.mem_cons.mp hp with e | hp
    · rw [e, h]; exact nofun
    · exact rpl_dom r p hp
  | _, _, _, .t h _ _ r, p, hp => by
    rcases List.mem_cons.mp hp with e | hp
    · rw [e, h]; exact nofun
    · exact rpl_dom r p hp
  | _, _, _, .dk h _ _, p, hp => by
    rcases List.mem_cons.mp hp with e | hp
    · rw [e, h]; exact nofun
    · cases hp
  | _, _, _, .dt h _ _, p, hp => by
    rcases List.mem_cons.mp hp with e | hp
    · rw [e, h]; exact nofun
    · cases hp
  | _, _, _, .ob h h' _ _ _ r, p, hp => by
    rcases List.mem_cons.mp hp with e | hp
    · rw [e, h]; exact nofun
    · rcases List.mem_cons.mp hp with e | hp
      · rw [e, h']; exact nofun
      · exact rpl_dom r p hp
theorem rpl_dom {F H : Hp} : ∀ {ws : Ws} {T : List Addr}, RpL K F H ws T → ∀ p ∈ T, H p ≠ none
  | _, _, .nil, p, hp => by cases hp
  | _, _, .cons h t, p, hp => by
    rcases List.mem_append.mp hp with hp | hp
    · exact rp_dom h p hp
    · exact rpl_dom t p hp
end
mutual
theorem rp_freeze {F F' H : Hp} (e : Same F F') : ∀ {v : V} {o : O} {T : List Addr} {d : PyData}, Rp K F H v o T → o.toD = some d → (∀ p ∈ T, F' p = H p) → Df K F' v d
  | _, _, _, _, .v h, z, _ => by
    unfold O.toD at z
    cases z
    exact dp_mono e h
  | _, _, _, _, .l (xs := xs) h e1 e2 r, z, k => by
    unfold O.toD at z
    obtain ⟨ds, hd, rfl⟩ := Option.map_eq_some_iff.mp z
    subst e2
    subst e1
    exact .lst ((k _ (List.mem_cons_self ..)).trans h) (rpl_freeze e r hd fun p hp => k p (List.mem_cons_of_mem _ hp))
  | _, _, _, _, .t (xs := xs) h e1 e2 r, z, k => by
    unfold O.toD at z
    obtain ⟨ds, hd, rfl⟩ := Option.map_eq_some_iff.mp z
    subst e2
    subst e1
    exact .tup ((k _ (List.mem_cons_self ..)).trans h) (rpl_freeze e r hd fun p hp => k p (List.mem_cons_of_mem _ hp))
  | _, _, _, _, .s h, z, _ => by unfold O.toD at z; cases z
  | _, _, _, _, .fx h, z, _ => by unfold O.toD at z; cases z
  | _, _, _, _, .dk h e1 a, z, _ => by unfold O.toD at z; cases z
  | _, _, _, _, .dt h e1 a, z, _ => by unfold O.toD at z; cases z
  | _, _, _, _, .ob h h' e0 e1 e2 r, z, _ => by unfold O.toD at z; cases z
theorem rpl_freeze {F F' H : Hp} (e : Same F F') : ∀ {ws : Ws} {T : List Addr} {ds : List PyData}, RpL K F H ws T → O.toDs (ws.map (·.2)) = some ds → (∀ p ∈ T, F' p = H p) → DfAll K F' (ws.map (·.1)) ds
  | _, _, _, .nil, z, _ => by
    unfold O.toDs at z
    cases z
    exact .nil
  | _, _, _, .cons (x := x) (o := o) (ws := ws) h t, z, k => by
    simp only [List.map_cons] at z ⊢
    unfold O.toDs at z
    split at z
    · rename_i d ds h1 h2
      cases z
      exact .cons (rp_freeze e h h1 fun p hp => k p (List.mem_append_left _ hp)) (rpl_freeze e t h2 fun p hp => k p (List.mem_append_right _ hp))
    · cases z
end
theorem rpl_perm {F H : Hp} {ws ws' : Ws} (h : ws.Perm ws') : ∀ {T : List Addr}, RpL K F H ws T → ∃ T', T.Perm T' ∧ RpL K F H ws' T' := by
  induction h with
  | nil => intro T r; exact ⟨T, .refl _, r⟩
  | cons x _ ih =>
    intro T r
    cases r with
    | cons a t =>
      obtain ⟨T', p, r'⟩ := ih t
      exact ⟨_, List.Perm.append_left _ p, .cons a r'⟩
  | swap x y l =>
    intro T r
    cases r with
    | cons a t =>
      cases t with
      | cons b t =>
        refine ⟨_, ?_, .cons b (.cons a t)⟩
        rw [← List.append_assoc, ← List.append_assoc]
        exact List.Perm.append_right _ List.perm_append_comm
  | trans _ _ ih1 ih2 =>
    intro T r
    obtain ⟨T1, p1, r1⟩ := ih1 r
    obtain ⟨T2, p2, r2⟩ := ih2 r1
    exact ⟨T2, p1.trans p2, r2⟩
theorem rpl_append {F H : Hp} : ∀ {w1 w2 : Ws} {T1 T2 : List Addr}, RpL K F H w1 T1 → RpL K F H w2 T2 → RpL K F H (w1 ++ w2) (T1 ++ T2)
  | _, _, _, _, .nil, r => r
  | _, _, _, _, .cons a t, r => by
    rw [List.append_assoc]
    exact .cons a (rpl_append t r)
theorem rpl_split {F H : Hp} : ∀ {w1 w2 : Ws} {T : List Addr}, RpL K F H (w1 ++ w2) T → ∃ T1 T2, T = T1 ++ T2 ∧ RpL K F H w1 T1 ∧ RpL K F H w2 T2
  | [], _, T, r => ⟨[], T, rfl, .nil, r⟩
  | (x, o) :: w1, w2, _, .cons a t => by
    obtain ⟨T1, T2, rfl, r1, r2⟩ := rpl_split (w1 := w1) t
    exact ⟨_, T2, (List.append_assoc _ _ _).symm, .cons a r1, r2⟩

/-- what stands: the entry's heap H0 (kept), the frozen part at the entry F0, now F, the heap H, all live things ws -/
structure Rel (K : PySem.W.Frag) (H0 F0 F H : Hp) (ws : Ws) : Prop where
  h0 : Same H0 H
  f0 : Same F0 F
  fn : ∀ p o, F p = some o → F0 p = some o ∨ H0 p = none
  fh : Same F H
  res : ∃ T, RpL K F H ws T ∧ T.Nodup ∧ ∀ p ∈ T, F p = none ∧ H0 p = none

variable {H0 F0 F H : Hp} {ws ws' : Ws}
theorem Rel.perm (r : Rel K H0 F0 F H ws) (h : ws.Perm ws') : Rel K H0 F0 F H ws' := by
  obtain ⟨T, rl, nd, hp⟩ := r.res
  obtain ⟨T', p, rl'⟩ := rpl_perm h rl
  exact ⟨r.h0, r.f0, r.fn, r.fh, T', rl', p.nodup_iff.mp nd, fun q hq => hp q (p.mem_iff.mpr hq)⟩
theorem Rel.drop {w : Ws} (r : Rel K H0 F0 F H (w ++ ws)) : Rel K H0 F0 F H ws := by
  obtain ⟨T, rl, nd, hp⟩ := r.res
  obtain ⟨T1, T2, rfl, r1, r2⟩ := rpl_split rl
  exact ⟨r.h0, r.f0, r.fn, r.fh, T2, r2, (List.nodup_append.mp nd).2.1, fun q hq => hp q (List.mem_append_right _ hq)⟩
theorem Rel.tail {w : V × O} (r : Rel K H0 F0 F H (w :: ws)) : Rel K H0 F0 F H ws := Rel.drop (w := [w]) r
/-- frozen things may be told twice -/
theorem Rel.dp {x : V} {d : PyData} (r : Rel K H0 F0 F H ((x, .v d) :: ws)) : Df K F x d := by
  obtain ⟨T, rl, nd, hp⟩ := r.res
  cases rl with
  | cons a t =>
    cases a with
    | v h => exact h
theorem Rel.add {x : V} {d : PyData} (r : Rel K H0 F0 F H ws) (h : Df K F x d) : Rel K H0 F0 F H ((x, .v d) :: ws) := by
  obtain ⟨T, rl, nd, hp⟩ := r.res
  exact ⟨r.h0, r.f0, r.fn, r.fh, T, .cons (.v h) rl, nd, hp⟩
theorem mem_perm {w : V × O} (h : w ∈ ws) : ∃ w', ws.Perm (w :: w') := by
  obtain ⟨a, b, rfl⟩ := List.append_of_mem h
  exact ⟨a ++ b, List.perm_middle⟩
theorem Rel.mem {x : V} {d : PyData} (r : Rel K H0 F0 F H ws) (h : (x, O.v d) ∈ ws) : Df K F x d :=
  let ⟨_, p⟩ := mem_perm h
  (r.perm p).dp
/-- a thing's standing -/
theorem Rel.at {x : V} {o : O} (r : Rel K H0 F0 F H ((x, o) :: ws)) : ∃ T, Rp K F H x o T := by
  obtain ⟨T, rl, nd, hp⟩ := r.res
  cases rl with
  | cons a t => exact ⟨_, a⟩
theorem Rel.memAt {x : V} {o : O} (r : Rel K H0 F0 F H ws) (h : (x, o) ∈ ws) : ∃ T, Rp K F H x o T :=
  let ⟨_, p⟩ := mem_perm h
  (r.perm p).at
/-- to freeze -/
theorem Rel.freeze {x : V} {o : O} {d : PyData} (r : Rel K H0 F0 F H ((x, o) :: ws)) (h : o.toD = some d) : ∃ F', Rel K H0 F0 F' H ((x, .v d) :: ws) := by
  obtain ⟨T, rl, nd, hp⟩ := r.res
  cases rl with
  | cons a t =>
    rename_i T1 T2
    obtain ⟨n1, n2, n3⟩ := List.nodup_append.mp nd
    have s1 : Same F (fun p => if p ∈ T1 then H p else F p) := fun b o e => by
      have nb : b ∉ T1 := fun hb => by
        rw [(hp b (List.mem_append_left _ hb)).1] at e
        cases e
      show (if b ∈ T1 then H b else F b) = some o
      rw [if_neg nb]
      exact e
    refine ⟨fun p => if p ∈ T1 then H p else F p, r.h0, r.f0.trans s1, fun p u e => ?_, fun p u e => ?_, T2, ?_, n2, fun p q => ⟨?_, (hp p (List.mem_append_right _ q)).2⟩⟩
    · by_cases hb : p ∈ T1
      · exact .inr (hp p (List.mem_append_left _ hb)).2
      · simp only [if_neg hb] at e
        exact r.fn p u e
    · by_cases hb : p ∈ T1
      · simp only [if_pos hb] at e
        exact e
      · simp only [if_neg hb] at e
        exact r.fh p u e
    · refine .cons (T1 := []) (.v (rp_freeze s1 a h fun p hp => if_pos hp)) (rpl_mono s1 t fun _ _ => rfl)
    · show (if p ∈ T1 then H p else F p) = none
      rw [if_neg fun z => n3 p z p q rfl]
      exact (hp p (List.mem_append_right _ q)).1
/-- an address that is not tracked is new to all -/
theorem Rel.f_none (r : Rel K H0 F0 F H ws) {p : Addr} (h : H p = none) : F p = none := r.fh.free h
theorem Rel.h_none (r : Rel K H0 F0 F H ws) {p : Addr} (h : H p = none) : H0 p = none := r.h0.free h
theorem same_upd {H : Hp} {p : Addr} {o : HO} (h : H p = none) : Same H (upd H p o) := fun b x e => by
  rw [upd_ne (ne_of_none e h)]
  exact e
/-- a new object that holds the things w -/
theorem Rel.newWith {p : Addr} {w : Ws} {u : HO} {x : O} (r : Rel K H0 F0 F H (w ++ ws)) (h : H p = none)
    (hx : ∀ T, RpL K F (upd H p u) w T → Rp K F (upd H p u) (.ref p) x (p :: T)) : Rel K H0 F0 F (upd H p u) ((.ref p, x) :: ws) := by
  obtain ⟨T, rl, nd, hp⟩ := r.res
  obtain ⟨T1, T2, rfl, r1, r2⟩ := rpl_split rl
  have nT : ∀ q ∈ T1 ++ T2, q ≠ p := fun q hq e => by
    have := rpl_dom rl q hq
    rw [e, h] at this
    exact this rfl
  have m1 : RpL K F (upd H p u) w T1 := rpl_mono (Same.refl F) r1 fun q hq => upd_ne (nT q (List.mem_append_left _ hq))
  have m2 : RpL K F (upd H p u) ws T2 := rpl_mono (Same.refl F) r2 fun q hq => upd_ne (nT q (List.mem_append_right _ hq))
  have s1 := same_upd (o := u) h
  refine ⟨r.h0.trans s1, r.f0, r.fn, r.fh.trans s1, (p :: T1) ++ T2, .cons (hx T1 m1) m2, ?_, fun q hq => ?_⟩
  · rw [List.cons_append]
    exact List.nodup_cons.mpr ⟨fun z => nT p z rfl, nd⟩
  · rcases List.mem_cons.mp hq with e | hq
    · rw [e]; exact ⟨r.f_none h, r.h_none h⟩
    · exact hp q hq
theorem Rel.newL {p : Addr} {w : Ws} (r : Rel K H0 F0 F H (w ++ ws)) (h : H p = none) : Rel K H0 F0 F (upd H p (.lst (w.map (·.1)))) ((.ref p, .l (w.map (·.2))) :: ws) :=
  r.newWith h fun _ m => .l upd_same rfl rfl m
theorem Rel.newT {p : Addr} {w : Ws} (r : Rel K H0 F0 F H (w ++ ws)) (h : H p = none) : Rel K H0 F0 F (upd H p (.tup (w.map (·.1)))) ((.ref p, .t (w.map (·.2))) :: ws) :=
  r.newWith h fun _ m => .t upd_same rfl rfl m

def O.fz : O → Bool
  | .v _ => true
  | .s _ => true
  | .fx _ => true
  | _ => false
theorem rpl_frozen {F H : Hp} : ∀ {w : Ws} {T : List Addr}, RpL K F H w T → (∀ x ∈ w, x.2.fz = true) → T = []
  | _, _, .nil, _ => rfl
  | _, _, .cons (x := x) (o := o) a t, h => by
    have e : o.fz = true := h _ (List.mem_cons_self ..)
    rw [rpl_frozen t fun y hy => h y (List.mem_cons_of_mem _ hy)]
    cases a <;> first | rfl | cases e
/-- a part of the things is handed on; the rest stands behind as it stood -/
theorem Rel.hand {w : Ws} (r : Rel K H0 F0 F H (w ++ ws)) : ∃ H1, Rel K H1 F F H w ∧ (∀ F' H' w', Rel K H1 F F' H' w' → Rel K H0 F0 F' H' (w' ++ ws)) ∧ ((∀ x ∈ w, x.2.fz = true) → H1 = H) := by
  obtain ⟨T, rl, nd, hp⟩ := r.res
  obtain ⟨T1, T2, rfl, r1, r2⟩ := rpl_split rl
  obtain ⟨n1, n2, n3⟩ := List.nodup_append.mp nd
  refine ⟨fun p => if p ∈ T1 then none else H p, ⟨fun p o e => ?_, Same.refl F, fun p o e => .inl e, r.fh, T1, r1, n1, fun p q => ⟨(hp p (List.mem_append_left _ q)).1, if_pos q⟩⟩, fun F' H' w' r' => ?_, fun hw => ?_⟩
  · by_cases hq : p ∈ T1
    · simp only [if_pos hq] at e
      cases e
    · simp only [if_neg hq] at e
      exact e
  · have k0 : ∀ p o, H0 p = some o → (if p ∈ T1 then none else H p) = some o := fun p o e => by
      have nq : p ∉ T1 := fun q => by
        rw [(hp p (List.mem_append_left _ q)).2] at e
        cases e
      rw [if_neg nq]
      exact r.h0 p o e
    have k1 : ∀ p, (if p ∈ T1 then none else H p) = none → H0 p = none := fun p e => by
      cases q : H0 p with
      | none => rfl
      | some o =>
        rw [k0 p o q] at e
        cases e
    have kT : ∀ p ∈ T2, ∃ o, H p = some o ∧ (if p ∈ T1 then none else H p) = some o := fun p q => by
      cases e : H p with
      | none => exact absurd e (rpl_dom r2 p q)
      | some o =>
        refine ⟨o, rfl, ?_⟩
        rw [if_neg fun z => n3 p z p q rfl]
    obtain ⟨T', rl', nd', hp'⟩ := r'.res
    refine ⟨fun p o e => r'.h0 p o (k0 p o e), r.f0.trans r'.f0, fun p o e => ?_, r'.fh, T' ++ T2, rpl_append rl' (rpl_mono r'.f0 r2 fun p q => ?_), List.nodup_append.mpr ⟨nd', n2, fun p q p2 q2 z => ?_⟩, fun p q => ?_⟩
    · rcases r'.fn p o e with e | e
      · exact r.fn p o e
      · exact .inr (k1 p e)
    · obtain ⟨o, e1, e2⟩ := kT p q
      rw [e1]
      exact r'.h0 p o e2
    · subst z
      obtain ⟨o, _, e2⟩ := kT p q2
      have := (hp' p q).2
      rw [e2] at this
      cases this
    · rcases List.mem_append.mp q with q | q
      · exact ⟨(hp' p q).1, k1 p (hp' p q).2⟩
      · refine ⟨?_, (hp p (List.mem_append_right _ q)).2⟩
        cases e : F' p with
        | none => rfl
        | some o =>
          rcases r'.fn p o e with e1 | e1
          · rw [(hp p (List.mem_append_right _ q)).1] at e1
            cases e1
          · obtain ⟨o', _, e2⟩ := kT p q
            rw [e2] at e1
            cases e1
  · have e := rpl_frozen r1 hw
    subst e
    funext p
    exact if_neg (by simp)
end
end Dn

set_option Elab.async false
set_option linter.all false
set_option maxRecDepth 100000
set_option maxHeartbeats 4000000
namespace Dn
open PySem L2

/-- a slot: nothing, a thing of one's own, a thing that the caller lent -/
inductive Sl where
  | no
  | own (o : O)
  | pin (o : O)
abbrev En := List Sl

def slots : St → En → Ws
  | some v :: σ, .own o :: e => (v, o) :: slots σ e
  | some v :: σ, .pin o :: e => (v, o) :: slots σ e
  | _ :: σ, _ :: e => slots σ e
  | _, _ => []
def Sl.ok (v0 : Option V) : Option V → Sl → Prop
  | _, .no => True
  | x, .own _ => ∃ v, x = some v
  | x, .pin _ => ∃ v, x = some v ∧ v0 = some v
/-- the slots hold what the environment tells; lent things stay in their slots -/
structure SlOk (vs : List V) (σ : St) (e : En) : Prop where
  len : σ.length = e.length
  sl : ∀ (i : Nat) (s : Sl), e[i]? = some s → ∃ x, σ[i]? = some x ∧ s.ok vs[i]? x

def Sl.o? : Sl → Option O
  | .no => none
  | .own o => some o
  | .pin o => some o
/-- what a slot holds, ahead of the others -/
theorem slots_take {v : V} {s : Sl} {o : O} (hs : s.o? = some o) : ∀ {σ : St} {e : En} {i : Nat}, σ[i]? = some (some v) → e[i]? = some s → (slots σ e).Perm ((v, o) :: slots σ (e.set i .no))
  | [], _, _, h, _ => by simp at h
  | _ :: _, [], _, _, h => by simp at h
  | x :: σ, y :: e, 0, h1, h2 => by
    simp only [List.getElem?_cons_zero, Option.some.injEq] at h1 h2
    subst h1; subst h2
    cases y with
    | no => cases hs
    | own o' => cases hs; exact .refl _
    | pin o' => cases hs; exact .refl _
  | x :: σ, y :: e, i + 1, h1, h2 => by
    simp only [List.getElem?_cons_succ] at h1 h2
    have ih := slots_take hs h1 h2
    simp only [List.set_cons_succ]
    cases x with
    | none => exact ih
    | some x =>
      cases y with
      | no => exact ih
      | own z => exact (List.Perm.cons _ ih).trans (.swap _ _ _)
      | pin z => exact (List.Perm.cons _ ih).trans (.swap _ _ _)
theorem slots_no {x : Option V} : ∀ {σ : St} {e : En} {i : Nat}, slots (σ.set i x) (e.set i .no) = slots σ (e.set i .no)
  | [], _, _ => rfl
  | _ :: _, [], i => by cases i <;> simp [slots]
  | y :: σ, z :: e, 0 => by
    simp only [List.set_cons_zero]
    cases x <;> cases y <;> rfl
  | y :: σ, z :: e, i + 1 => by
    simp only [List.set_cons_succ]
    have ih := slots_no (x := x) (σ := σ) (e := e) (i := i)
    cases y <;> cases z <;> simp only [slots, ih]
theorem slots_put {v : V} {s : Sl} {o : O} (hs : s.o? = some o) {σ : St} {e : En} {i : Nat} (hi : i < e.length) (hσ : σ[i]? = some (some v)) : (slots σ (e.set i s)).Perm ((v, o) :: slots σ (e.set i .no)) := by
  have h := slots_take hs hσ (e := e.set i s) (by rw [List.getElem?_set_self hi])
  rw [List.set_set] at h
  exact h
theorem slots_less {σ : St} {e : En} {i : Nat} {x : Option V} {s : Sl} (h1 : σ[i]? = some x) (h2 : e[i]? = some s) : ∃ w, (slots σ e).Perm (w ++ slots σ (e.set i .no)) := by
  cases hs : s.o? with
  | none =>
    cases s with
    | no =>
      have : e.set i .no = e := by
        apply List.ext_getElem?
        intro j
        by_cases hj : i = j
        · subst hj
          rw [List.getElem?_set_self (List.getElem?_eq_some_iff.mp h2).1, h2]
        · rw [List.getElem?_set_ne hj]
      rw [this]
      exact ⟨[], .refl _⟩
    | own o => cases hs
    | pin o => cases hs
  | some o =>
    cases x with
    | some v => exact ⟨[(v, o)], slots_take hs h1 h2⟩
    | none =>
      refine ⟨[], ?_⟩
      have : slots σ e = slots σ (e.set i .no) := by
        clear hs
        induction σ generalizing e i with
        | nil => simp at h1
        | cons y σ ih =>
          cases e with
          | nil => simp at h2
          | cons z e =>
            cases i with
            | zero =>
              simp only [List.getElem?_cons_zero, Option.some.injEq] at h1
              subst h1
              rfl
            | succ i =>
              simp only [List.getElem?_cons_succ] at h1 h2
              simp only [List.set_cons_succ]
              cases y <;> cases z <;> simp only [slots, ih h2 h1]
      rw [this]
      exact .refl _

theorem SlOk.set {vs : List V} {σ : St} {e : En} {i : Nat} {v : V} {o : O} (h : SlOk vs σ e) : SlOk vs (σ.set i (some v)) (e.set i (.own o)) := by
  refine ⟨by rw [List.length_set, List.length_set]; exact h.len, fun j s hj => ?_⟩
  by_cases hij : i = j
  · subst hij
    have hi : i < e.length := by
      have := (List.getElem?_eq_some_iff.mp hj).1
      rw [List.length_set] at this
      exact this
    rw [List.getElem?_set_self hi] at hj
    cases hj
    exact ⟨some v, by rw [List.getElem?_set_self (by rw [h.len]; exact hi)], v, rfl⟩
  · rw [List.getElem?_set_ne hij] at hj ⊢
    exact h.sl j s hj
theorem SlOk.no {vs : List V} {σ : St} {e : En} {i : Nat} (h : SlOk vs σ e) : SlOk vs σ (e.set i .no) := by
  refine ⟨by rw [List.length_set]; exact h.len, fun j s hj => ?_⟩
  by_cases hij : i = j
  · subst hij
    have hi : i < e.length := by
      have := (List.getElem?_eq_some_iff.mp hj).1
      rw [List.length_set] at this
      exact this
    rw [List.getElem?_set_self hi] at hj
    cases hj
    have : i < σ.length := by rw [h.len]; exact hi
    exact ⟨σ[i], by rw [List.getElem?_eq_getElem this], trivial⟩
  · rw [List.getElem?_set_ne hij] at hj
    exact h.sl j s hj
theorem SlOk.own {vs : List V} {σ : St} {e : En} {i : Nat} {o o' : O} (h : SlOk vs σ e) (hi : e[i]? = some (.own o)) : SlOk vs σ (e.set i (.own o')) := by
  refine ⟨by rw [List.length_set]; exact h.len, fun j s hj => ?_⟩
  by_cases hij : i = j
  · subst hij
    rw [List.getElem?_set_self (List.getElem?_eq_some_iff.mp hi).1] at hj
    cases hj
    obtain ⟨x, hx, q⟩ := h.sl i _ hi
    exact ⟨x, hx, q⟩
  · rw [List.getElem?_set_ne hij] at hj
    exact h.sl j s hj
theorem SlOk.pin {vs : List V} {σ : St} {e : En} {i : Nat} {o o' : O} (h : SlOk vs σ e) (hi : e[i]? = some (.pin o)) : SlOk vs σ (e.set i (.pin o')) := by
  refine ⟨by rw [List.length_set]; exact h.len, fun j s hj => ?_⟩
  by_cases hij : i = j
  · subst hij
    rw [List.getElem?_set_self (List.getElem?_eq_some_iff.mp hi).1] at hj
    cases hj
    obtain ⟨x, hx, q⟩ := h.sl i _ hi
    exact ⟨x, hx, q⟩
  · rw [List.getElem?_set_ne hij] at hj
    exact h.sl j s hj

/-- the entry of a def: its heap, what was frozen then, its arguments -/
structure Bs where
  H0 : Hp
  F0 : Hp
  vs : List V
/-- where one stands: the slots' things and G, the things at hand -/
structure Sta (K : PySem.W.Frag) (B : Bs) (F H : Hp) (σ : St) (e : En) (G : Ws) : Prop where
  ok : SlOk B.vs σ e
  rel : Rel K B.H0 B.F0 F H (slots σ e ++ G)

section
variable {K : PySem.W.Frag} {B : Bs} {F H : Hp} {σ : St} {e : En} {G : Ws} {x : V} {o : O}
theorem Sta.perm {G' : Ws} (s : Sta K B F H σ e G) (h : G.Perm G') : Sta K B F H σ e G' := ⟨s.ok, s.rel.perm (List.Perm.append_left _ h)⟩
theorem mid {α : Type} (a : α) (l m : List α) : (l ++ a :: m).Perm (a :: (l ++ m)) := List.perm_middle
theorem Sta.pop (s : Sta K B F H σ e ((x, o) :: G)) : Sta K B F H σ e G := ⟨s.ok, (s.rel.perm (mid _ _ _)).tail⟩
theorem Sta.at (s : Sta K B F H σ e ((x, o) :: G)) : ∃ T, Rp K F H x o T := (s.rel.perm (mid _ _ _)).at
theorem Sta.push {d : PyData} (s : Sta K B F H σ e G) (h : Df K F x d) : Sta K B F H σ e ((x, .v d) :: G) := ⟨s.ok, (s.rel.add h).perm (mid _ _ _).symm⟩
theorem Sta.freeze {d : PyData} (s : Sta K B F H σ e ((x, o) :: G)) (h : o.toD = some d) : ∃ F', Sta K B F' H σ e ((x, .v d) :: G) := by
  obtain ⟨F', r⟩ := (s.rel.perm (mid _ _ _)).freeze h
  exact ⟨F', s.ok, r.perm (mid _ _ _).symm⟩
theorem Sta.fh (s : Sta K B F H σ e G) : Same F H := s.rel.fh
/-- as data in the heap as it stands -/
theorem rp_dp {T : List Addr} {d : PyData} (fh : Same F H) (r : Rp K F H x o T) (h : o.toD = some d) : Df K H x d := rp_freeze fh r h fun _ _ => rfl
theorem Sta.df {d : PyData} (s : Sta K B F H σ e ((x, o) :: G)) (h : o.toD = some d) : Df K H x d := by
  obtain ⟨T, r⟩ := s.at
  exact rp_dp s.fh r h
/-- out of a slot -/
theorem Sta.out {i : Nat} {sl : Sl} (s : Sta K B F H σ e G) (hi : e[i]? = some sl) (ho : sl.o? = some o) : ∃ v, σ[i]? = some (some v) ∧ Sta K B F H σ (e.set i .no) ((v, o) :: G) := by
  obtain ⟨x, hx, h⟩ := s.ok.sl i sl hi
  have : ∃ v, x = some v := by
    cases sl with
    | no => cases ho
    | own _ => exact h
    | pin _ => obtain ⟨v, e, _⟩ := h; exact ⟨v, e⟩
  obtain ⟨v, rfl⟩ := this
  refine ⟨v, hx, s.ok.no, ?_⟩
  have p := (slots_take ho hx hi).append_right G
  exact (s.rel.perm p).perm (mid _ _ _).symm
/-- into a slot, by a store -/
theorem Sta.store {i : Nat} {v : V} (s : Sta K B F H σ e ((v, o) :: G)) (hi : i < e.length) : Sta K B F H (σ.set i (some v)) (e.set i (.own o)) G := by
  refine ⟨s.ok.set, ?_⟩
  have hσ : i < σ.length := by rw [s.ok.len]; exact hi
  have r := s.rel.perm (mid _ _ _)
  obtain ⟨w, pw⟩ := slots_less (σ := σ) (e := e) (i := i) (List.getElem?_eq_getElem hσ) (List.getElem?_eq_getElem hi)
  have p2 : (slots (σ.set i (some v)) (e.set i (.own o))).Perm ((v, o) :: slots σ (e.set i .no)) := by
    have q := slots_put (s := Sl.own o) rfl (σ := σ.set i (some v)) (e := e) hi (by rw [List.getElem?_set_self hσ])
    rw [slots_no] at q
    exact q
  have p3 : ((v, o) :: (slots σ e ++ G)).Perm (w ++ ((v, o) :: (slots σ (e.set i .no) ++ G))) := by
    refine ((pw.append_right G).cons (v, o)).trans ?_
    rw [List.append_assoc]
    exact (mid _ _ _).symm
  exact ((r.perm p3).drop).perm (p2.append_right G).symm
/-- back into its slot -/
theorem Sta.back {i : Nat} {v : V} {sl : Sl} (s : Sta K B F H σ (e.set i .no) ((v, o) :: G)) (hσ : σ[i]? = some (some v)) (hi : i < e.length) (ho : sl.o? = some o) (ok : SlOk B.vs σ (e.set i sl)) : Sta K B F H σ (e.set i sl) G :=
  ⟨ok, (s.rel.perm (mid _ _ _)).perm ((slots_put ho hi hσ).append_right G).symm⟩
/-- new objects -/
theorem Sta.newL {p : Addr} {w : Ws} (s : Sta K B F H σ e (w ++ G)) (h : H p = none) : Sta K B F (upd H p (.lst (w.map (·.1)))) σ e ((.ref p, .l (w.map (·.2))) :: G) := by
  refine ⟨s.ok, ?_⟩
  have q : (slots σ e ++ (w ++ G)).Perm (w ++ (slots σ e ++ G)) := by
    rw [← List.append_assoc, ← List.append_assoc]
    exact List.perm_append_comm.append_right G
  exact ((s.rel.perm q).newL h).perm (mid _ _ _).symm
theorem Sta.newT {p : Addr} {w : Ws} (s : Sta K B F H σ e (w ++ G)) (h : H p = none) : Sta K B F (upd H p (.tup (w.map (·.1)))) σ e ((.ref p, .t (w.map (·.2))) :: G) := by
  refine ⟨s.ok, ?_⟩
  have q : (slots σ e ++ (w ++ G)).Perm (w ++ (slots σ e ++ G)) := by
    rw [← List.append_assoc, ← List.append_assoc]
    exact List.perm_append_comm.append_right G
  exact ((s.rel.perm q).newT h).perm (mid _ _ _).symm
end

/-! ### denotations -/
abbrev MD (α : Type) := En → Option (α × En)
/-- an expression; a (true): nothing that stood is changed -/
def den (K : PySem.W.Frag) (a : Bool) (m : MD O) : TE := fun σ H Q => ∃ B F e G x e', Sta K B F H σ e G ∧ m e = some (x, e') ∧ ∀ F' H' v, Sta K B F' H' σ e' ((v, x) :: G) → (a = true → Same H H') → Q v H'
/-- an expression that is only looked at -/
def denB (K : PySem.W.Frag) (m : En → Option O) : TE := fun σ H Q => ∃ B F e G x, Sta K B F H σ e G ∧ m e = some x ∧ ∀ v T, Rp K F H v x T → Q v H
/-- a test -/
def denT (K : PySem.W.Frag) (a : Bool) (m : MD Bool) : TT := fun σ H Q => ∃ B F e G b e', Sta K B F H σ e G ∧ m e = some (b, e') ∧ ∀ F' H', Sta K B F' H' σ e' G → (a = true → Same H H') → Q b H'
/-- arguments: the last one lies on top -/
def denA (K : PySem.W.Frag) (a : Bool) (m : MD (List O)) : TA := fun σ H Q => ∃ B F e G xs e', Sta K B F H σ e G ∧ m e = some (xs, e') ∧ ∀ F' H' ws, Sta K B F' H' σ e' (ws ++ G) → ws.map (·.2) = xs → (a = true → Same H H') → Q (ws.map (·.1)) H'

inductive Oc where
  | nx (e : En) | rt (x : O) (e : En) | bk (e : En) | ct (e : En)
abbrev MS := En → Option Oc
def Oc.end (K : PySem.W.Frag) (B : Bs) (G : Ws) (D : Ends) : Oc → Prop
  | .nx e => ∀ F H σ, Sta K B F H σ e G → D.nx σ H
  | .bk e => ∀ F H σ, Sta K B F H σ e G → D.bk σ H
  | .ct e => ∀ F H σ, Sta K B F H σ e G → D.ct σ H
  | .rt x e => ∀ F H σ v, Sta K B F H σ e ((v, x) :: G) → D.rt v H
def denS (K : PySem.W.Frag) (m : MS) : TS := fun D σ H => ∃ B F e G oc, Sta K B F H σ e G ∧ m e = some oc ∧ oc.end K B G D

/-! ### a smaller reading serves -/
section
variable {X : Cx}
theorem pe_imp {e : Expr} {t u : TE} (h : PE X e t) (k : ∀ σ H Q, u σ H Q → t σ H Q) : PE X e u := ⟨fun pins s σ H Q I q => h.run pins s σ H Q I (k _ _ _ q)⟩
theorem pt_imp {e : Expr} {t u : TT} (h : PT X e t) (k : ∀ σ H Q, u σ H Q → t σ H Q) : PT X e u := ⟨fun pins s σ H Q I q => h.run pins s σ H Q I (k _ _ _ q)⟩
theorem pw_imp {e : Expr} {t u : TT} (h : PW X e t) (k : ∀ σ H Q, u σ H Q → t σ H Q) : PW X e u := ⟨fun wh pins s σ H Q I q => h.run wh pins s σ H Q I (k _ _ _ q)⟩
theorem pa_imp {es : List Expr} {t u : TA} (h : PA X es t) (k : ∀ σ H Q, u σ H Q → t σ H Q) : PA X es u := ⟨fun pos pins s σ H Q I q => h.run pos pins s σ H Q I (k _ _ _ q)⟩
theorem ps_imp {st : Stmt} {t u : TS} (h : PS X st t) (k : ∀ D σ H, u D σ H → t D σ H) : PS X st u := ⟨fun pins s σ H D I q => h.run pins s σ H D I (k _ _ _ q)⟩
theorem pss_imp {st : List Stmt} {t u : TS} (h : PSs X st t) (k : ∀ D σ H, u D σ H → t D σ H) : PSs X st u := ⟨fun pins s σ H D I q => h.run pins s σ H D I (k _ _ _ q)⟩
theorem opr_or {f : Value → Value → Sem Value} {r r' : R2} (h : OpR X f r) (h' : OpR X f r') : OpR X f (fun x y H Q => r x y H Q ∨ r' x y H Q) := by
  intro pins s σ H x y v u Q I rx ry q
  rcases q with q | q
  · exact h pins s σ H x y v u Q I rx ry q
  · exact h' pins s σ H x y v u Q I rx ry q
end
end Dn

set_option Elab.async false
set_option linter.all false
set_option maxRecDepth 100000
set_option maxHeartbeats 4000000
namespace Dn
open PySem L2

theorem shut_ex {α : Type} (a : α) : ∃ x : α, x = a := ⟨a, rfl⟩
/-- sealed: the kernel does not look into it -/
noncomputable def shut {α : Type} (a : α) : α := Classical.choose (shut_ex a)
theorem shut_eq {α : Type} (a : α) : shut a = a := Classical.choose_spec (shut_ex a)
theorem so {α β : Type} {a c : α} {b d : β} (h : some (a, b) = some (c, d)) : a = c ∧ b = d := by cases h; exact ⟨rfl, rfl⟩
/-! ### scalars -/
def sV : PyData → Option V
  | .none => some .non
  | .bool b => some (.bl b)
  | .int i => some (.int i)
  | .str x => some (.str x)
  | _ => none
theorem sV_df {K : PySem.W.Frag} {F : Hp} {d : PyData} {v : V} (h : sV d = some v) : Df K F v d := by
  cases d <;> simp only [sV, Option.some.injEq, reduceCtorEq] at h
  all_goals subst h; constructor
theorem df_sV {K : PySem.W.Frag} {F : Hp} {d : PyData} {v u : V} (h : sV d = some v) (k : Df K F u d) : u = v := by
  cases d <;> simp only [sV, Option.some.injEq, reduceCtorEq] at h
  all_goals subst h; cases k; rfl

/-! ### names, constants -/
def mC (d : PyData) : MD O := fun e => some (.v d, e)
def mVar (i : Nat) : MD O := fun e => match e[i]? with
  | some (.own (.v d)) => some (.v d, e)
  | some (.own (.s ns)) => some (.s ns, e)
  | some (.own o) => (match o.toD with | some d => some (.v d, e.set i (.own (.v d))) | none => none)
  | some (.pin (.v d)) => some (.v d, e)
  | some (.pin (.s ns)) => some (.s ns, e)
  | _ => none
def mMv (i : Nat) : MD O := fun e => match e[i]? with
  | some (.own o) => some (o, e.set i .no)
  | _ => none
def bVar (i : Nat) : En → Option O := fun e => (e[i]?).bind Sl.o?
section
variable {K : PySem.W.Frag} {B : Bs} {F H : Hp} {σ : St} {e : En} {G : Ws}
theorem Sta.seeO {i : Nat} {sl : Sl} {o : O} (s : Sta K B F H σ e G) (hi : e[i]? = some sl) (ho : sl.o? = some o) : ∃ v, σ[i]? = some (some v) ∧ ∃ T, Rp K F H v o T := by
  obtain ⟨v, hv, s'⟩ := s.out hi ho
  exact ⟨v, hv, s'.at⟩
theorem Sta.pushS {a : Addr} {ns : List Int} (s : Sta K B F H σ e G) (h : SqL K F a (ns.map V.int)) : Sta K B F H σ e ((.ref a, .s ns) :: G) := by
  refine ⟨s.ok, ?_⟩
  obtain ⟨T, rl, nd, hp⟩ := s.rel.res
  have q : Rel K B.H0 B.F0 F H ((.ref a, .s ns) :: (slots σ e ++ G)) := ⟨s.rel.h0, s.rel.f0, s.rel.fn, s.rel.fh, T, .cons (T1 := []) (.s h) rl, nd, hp⟩
  exact q.perm (mid _ _ _).symm
theorem set_self {i : Nat} {s : Sl} {e : En} (h : e[i]? = some s) : e.set i s = e := by
  apply List.ext_getElem?
  intro j
  by_cases hj : i = j
  · subst hj
    rw [List.getElem?_set_self (List.getElem?_eq_some_iff.mp h).1, h]
  · rw [List.getElem?_set_ne hj]
theorem var_see {i : Nat} {x : O} {e' : En} (s : Sta K B F H σ e G) (hm : mVar i e = some (x, e')) : ∃ v, σ[i]? = some (some v) ∧ ∃ F', Sta K B F' H σ e' ((v, x) :: G) := by
  have fr : ∀ {sl : Sl} {d : PyData}, e[i]? = some sl → sl.o? = some (.v d) → ∃ v, σ[i]? = some (some v) ∧ ∃ F', Sta K B F' H σ e ((v, .v d) :: G) := fun hi ho => by
    obtain ⟨v, hv, T, r⟩ := s.seeO hi ho
    cases r with
    | v h => exact ⟨v, hv, F, s.push h⟩
  have fs : ∀ {sl : Sl} {ns : List Int}, e[i]? = some sl → sl.o? = some (.s ns) → ∃ v, σ[i]? = some (some v) ∧ ∃ F', Sta K B F' H σ e ((v, .s ns) :: G) := fun hi ho => by
    obtain ⟨v, hv, T, r⟩ := s.seeO hi ho
    cases r with
    | s h => exact ⟨_, hv, F, s.pushS h⟩
  have fo : ∀ {o : O} {d : PyData}, e[i]? = some (.own o) → o.toD = some d → ∃ v, σ[i]? = some (some v) ∧ ∃ F', Sta K B F' H σ (e.set i (.own (.v d))) ((v, .v d) :: G) := fun {o d} hi ho => by
    obtain ⟨v, hv, s1⟩ := s.out hi (show (Sl.own o).o? = some o from rfl)
    obtain ⟨F', s2⟩ := s1.freeze ho
    obtain ⟨T, r⟩ := s2.at
    cases r with
    | v h =>
      have hl : i < e.length := (List.getElem?_eq_some_iff.mp hi).1
      have s3 : Sta K B F' H σ (e.set i (.own (.v d))) G := Sta.back (e := e) s2 hv hl (show (Sl.own (.v d)).o? = some (.v d) from rfl) (s.ok.own hi)
      exact ⟨v, hv, F', s3.push h⟩
  unfold mVar at hm
  split at hm
  · rename_i d hi; cases hm; exact fr hi rfl
  · rename_i ns hi; cases hm; exact fs hi rfl
  · rename_i o hi
    split at hm
    · rename_i d hd; cases hm; exact fo hi hd
    · cases hm
  · rename_i d hi; cases hm; exact fr hi rfl
  · rename_i ns hi; cases hm; exact fs hi rfl
  · cases hm
end

section
variable {X : Cx}
theorem d_int {i j pos} : PE X (.Constant (.int i) j pos) (den X.K true (mC (.int i))) := pe_imp pe_int fun σ H Q ⟨B, F, e, G, x, e', s, hm, k⟩ => by
  cases hm
  exact k F H _ (s.push (.int i)) fun _ => .refl _
theorem d_bl {b j pos} : PE X (.Constant (.bool b) j pos) (den X.K true (mC (.bool b))) := pe_imp pe_bl fun σ H Q ⟨B, F, e, G, x, e', s, hm, k⟩ => by
  cases hm
  exact k F H _ (s.push (.bl b)) fun _ => .refl _
theorem d_non {j pos} : PE X (.Constant .none j pos) (den X.K true (mC .none)) := pe_imp pe_non fun σ H Q ⟨B, F, e, G, x, e', s, hm, k⟩ => by
  cases hm
  exact k F H _ (s.push .non) fun _ => .refl _
theorem d_str {x j pos} : PE X (.Constant (.str x) j pos) (den X.K true (mC (.str x))) := pe_imp pe_str fun σ H Q ⟨B, F, e, G, y, e', s, hm, k⟩ => by
  cases hm
  exact k F H _ (s.push (.str x)) fun _ => .refl _
theorem d_var (i : Nat) {x : Str} {pos : Pos} (h : PE X (.Name x pos) (tVar i)) : PE X (.Name x pos) (den X.K true (mVar i)) := pe_imp h fun σ H Q ⟨B, F, e, G, y, e', s, hm, k⟩ => by
  obtain ⟨v, hv, F', s'⟩ := var_see s hm
  exact ⟨v, hv, k F' H v s' fun _ => .refl _⟩
theorem d_mv (i : Nat) {x : Str} {pos : Pos} (h : PE X (.Name x pos) (tVar i)) : PE X (.Name x pos) (den X.K true (mMv i)) := pe_imp h fun σ H Q ⟨B, F, e, G, y, e', s, hm, k⟩ => by
  unfold mMv at hm
  split at hm
  · rename_i o hi
    obtain ⟨rfl, rfl⟩ := so hm
    obtain ⟨v, hv, s'⟩ := s.out hi (show (Sl.own o).o? = some o from rfl)
    exact ⟨v, hv, k F H v s' fun _ => .refl _⟩
  · cases hm
theorem d_weak {e : Expr} {m : MD O} {p : Bool} (h : PE X e (den X.K true m)) : PE X e (den X.K p m) := pe_imp h fun σ H Q ⟨B, F, e, G, y, e', s, hm, k⟩ => ⟨B, F, e, G, y, e', s, hm, fun F' H' v s' q => k F' H' v s' fun _ => q rfl⟩
theorem db_var (i : Nat) {x : Str} {pos : Pos} (h : PE X (.Name x pos) (tVar i)) : PE X (.Name x pos) (denB X.K (bVar i)) := pe_imp h fun σ H Q ⟨B, F, e, G, y, s, hm, k⟩ => by
  obtain ⟨sl, hi, ho⟩ := Option.bind_eq_some_iff.mp hm
  obtain ⟨v, hv, T, r⟩ := s.seeO hi ho
  exact ⟨v, hv, k v T r⟩
def bC (d : PyData) : En → Option O := fun _ => some (.v d)
theorem db_int {i j pos} : PE X (.Constant (.int i) j pos) (denB X.K (bC (.int i))) := pe_imp pe_int fun σ H Q ⟨B, F, e, G, y, s, hm, k⟩ => by
  cases hm
  exact k _ [] (.v (.int i))
/-- a look that comes to frozen things -/
def mB (m : En → Option O) : MD O := fun e => match m e with
  | some (.v d) => some (.v d, e)
  | _ => none
theorem d_B {e : Expr} {m : En → Option O} (h : PE X e (denB X.K m)) : PE X e (den X.K true (mB m)) := pe_imp h fun σ H Q ⟨B, F, e, G, y, e', s, hm, k⟩ => by
  unfold mB at hm
  split at hm
  · rename_i d hd
    cases hm
    refine ⟨B, F, e, G, .v d, s, hd, fun v T r => ?_⟩
    cases r with
    | v h => exact k F H v (s.push h) fun _ => .refl _
  · cases hm
end

/-! ### arguments that are looked at -/
inductive RpA (K : PySem.W.Frag) (F H : Hp) : List V → List O → Prop
  | nil : RpA K F H [] []
  | cons {v : V} {o : O} {vs : List V} {os : List O} {T : List Addr} : Rp K F H v o T → RpA K F H vs os → RpA K F H (v :: vs) (o :: os)
theorem RpA.df {K : PySem.W.Frag} {F H : Hp} (fh : Same F H) : ∀ {vs : List V} {os : List O} {ds : List PyData}, RpA K F H vs os → O.toDs os = some ds → DfAll K H vs ds
  | _, _, _, .nil, h => by
    unfold O.toDs at h
    cases h
    exact .nil
  | _, _, _, .cons r t, h => by
    unfold O.toDs at h
    split at h
    · rename_i d ds h1 h2
      cases h
      exact .cons (rp_dp fh r h1) (t.df fh h2)
    · cases h
/-- what is looked at is not kept -/
def denL (K : PySem.W.Frag) (a : Bool) (m : MD (List O)) : TA := fun σ H Q => ∃ B F e G xs e', Sta K B F H σ e G ∧ m e = some (xs, e') ∧ ∀ F' H' vs, Sta K B F' H' σ e' G → RpA K F' H' vs xs → (a = true → Same H H') → Q vs H'
def lNil : MD (List O) := fun e => some ([], e)
def lCons (m : MD O) (ms : MD (List O)) : MD (List O) := fun e => match m e with
  | some (x, e1) => (match ms e1 with
    | some (xs, e2) => some (x :: xs, e2)
    | none => none)
  | none => none
/-- a slot that is looked at when all is reckoned -/
def lSee (i : Nat) (ms : MD (List O)) : MD (List O) := fun e => match bVar i e with
  | some _ => (match ms e with
    | some (xs, e1) => (match bVar i e1 with
      | some x => some (x :: xs, e1)
      | none => none)
    | none => none)
  | none => none
def lB (m : En → Option O) : MD (List O) := fun e => match m e with
  | some x => some ([x], e)
  | none => none
def LS (K : PySem.W.Frag) (p : Bool) (m : MD (List O)) (t : TA) : Prop := ∀ σ H Q, denL K p m σ H Q → t σ H Q
section
variable {K : PySem.W.Frag}
theorem ls_nil : LS K true lNil tNil := fun σ H Q ⟨B, F, e, G, y, e', s, hm, k⟩ => by
  cases hm
  exact k F H [] s .nil fun _ => .refl _
theorem ls_cons {p q : Bool} {m : MD O} {ms : MD (List O)} {t : TA} (h : LS K q ms t) : LS K (p && q) (lCons m ms) (tCons (den K p m) t) := fun σ H Q ⟨B, F, e, G, y, e', s, hm, k⟩ => by
  unfold lCons at hm
  split at hm
  · rename_i x e1 h1
    split at hm
    · rename_i xs e2 h2
      obtain ⟨rfl, rfl⟩ := so hm
      refine ⟨B, F, e, G, x, e1, s, h1, fun F1 H1 v s1 sm1 => h σ H1 _ ⟨B, F1, e1, (v, x) :: G, xs, e2, s1, h2, fun F2 H2 vs s2 r2 sm2 => ?_⟩⟩
      obtain ⟨T, r⟩ := s2.at
      refine k F2 H2 (v :: vs) s2.pop (.cons r r2) fun z => ?_
      cases p
      · cases z
      · cases q
        · cases z
        · exact (sm1 rfl).trans (sm2 rfl)
    · cases hm
  · cases hm
theorem ls_see {q : Bool} {i : Nat} {ms : MD (List O)} {t : TA} (h : LS K q ms t) : LS K q (lSee i ms) (tCons (tVar i) t) := fun σ H Q ⟨B, F, e, G, y, e', s, hm, k⟩ => by
  unfold lSee at hm
  split at hm
  · rename_i x0 h0
    split at hm
    · rename_i xs e1 h1
      split at hm
      · rename_i x h2
        obtain ⟨rfl, rfl⟩ := so hm
        obtain ⟨sl0, hi0, ho0⟩ := Option.bind_eq_some_iff.mp h0
        obtain ⟨v, hv, _⟩ := s.seeO hi0 ho0
        refine ⟨v, hv, h σ H _ ⟨B, F, e, G, xs, e1, s, h1, fun F1 H1 vs s1 r1 sm1 => ?_⟩⟩
        obtain ⟨sl, hi, ho⟩ := Option.bind_eq_some_iff.mp h2
        obtain ⟨v', hv', T, r⟩ := s1.seeO hi ho
        obtain rfl : v' = v := by rw [hv] at hv'; cases hv'; rfl
        exact k F1 H1 (v' :: vs) s1 (.cons r r1) sm1
      · cases hm
    · cases hm
  · cases hm
theorem ls_B {m : En → Option O} : LS K true (lB m) (tCons (denB K m) tNil) := fun σ H Q ⟨B, F, e, G, y, e', s, hm, k⟩ => by
  unfold lB at hm
  split at hm
  · rename_i x h1
    obtain ⟨rfl, rfl⟩ := so hm
    exact ⟨B, F, e, G, x, s, h1, fun v T r => k F H [v] s (.cons r .nil) fun _ => .refl _⟩
  · cases hm

/-! ### what is reckoned from data to a scalar -/
def mL (f : List PyData → Option PyData) (ms : MD (List O)) : MD O := fun e => match ms e with
  | some (xs, e1) => (match O.toDs xs with
    | some ds => (match f ds with
      | some z => some (.v z, e1)
      | none => none)
    | none => none)
  | none => none
/-- r, asked of data, tells f's scalar and leaves the heap -/
def Sc (K : PySem.W.Frag) (f : List PyData → Option PyData) (r : List V → Hp → VK → Prop) : Prop :=
  ∀ H vs ds z, DfAll K H vs ds → f ds = some z → ∃ v, sV z = some v ∧ ∀ Q : VK, Q v H → r vs H Q
theorem mL_den {p : Bool} {f : List PyData → Option PyData} {ms : MD (List O)} {r : List V → Hp → VK → Prop} {t : TA} (hr : Sc K f r) (hl : LS K p ms t) : ∀ σ H Q, den K p (mL f ms) σ H Q → tCB r t σ H Q := fun σ H Q ⟨B, F, e, G, y, e', s, hm, k⟩ => by
  unfold mL at hm
  split at hm
  · rename_i xs e1 h1
    split at hm
    · rename_i ds h2
      split at hm
      · rename_i z h3
        obtain ⟨rfl, rfl⟩ := so hm
        refine hl σ H _ ⟨B, F, e, G, xs, e1, s, h1, fun F1 H1 vs s1 r1 sm1 => ?_⟩
        obtain ⟨v, hz, q⟩ := hr H1 vs ds z (r1.df s1.fh h2) h3
        exact q Q (k F1 H1 v (s1.push (sV_df hz)) sm1)
      · cases hm
    · cases hm
  · cases hm
/-- the same as a look -/
def bL (f : List PyData → Option PyData) (ms : En → Option (List O)) : En → Option O := fun e => match ms e with
  | some xs => (match O.toDs xs with
    | some ds => (match f ds with
      | some z => some (.v z)
      | none => none)
    | none => none)
  | none => none
end

/-! ### operators -/
def r2 (r : R2) : List V → Hp → VK → Prop := fun vs H Q => match vs with
  | [x, y] => r x y H Q
  | _ => False
def r1 (r : V → Hp → VK → Prop) : List V → Hp → VK → Prop := fun vs H Q => match vs with
  | [x] => r x H Q
  | _ => False
section
variable {X : Cx} {a b c : Expr} {ta tb tc : TE} {p : Bool} {ms : MD (List O)} {f : List PyData → Option PyData} {pos : Pos}
theorem d_op {op : Operator} {r : R2} (ho : OpR X (binaryOp op) r) (hs : Sc X.K f (r2 r)) (ha : PE X a ta) (hb : PE X b tb) (hl : LS X.K p ms (tCons ta (tCons tb tNil))) : PE X (.BinOp a op b pos) (den X.K p (mL f ms)) :=
  pe_imp (pe_op ho ha hb) (mL_den (r := r2 r) hs hl)
theorem d_un {op : UnaryOp} {r : V → Hp → VK → Prop} (ho : UnR X (unaryOp op) r) (hs : Sc X.K f (r1 r)) (ha : PE X a ta) (hl : LS X.K p ms (tCons ta tNil)) : PE X (.UnaryOp op a pos) (den X.K p (mL f ms)) :=
  pe_imp (pe_un ho ha) (mL_den (r := r1 r) hs hl)
theorem d_cmp {op : CmpOp} {r : R2} (ho : OpR X (compareOp op) r) (hs : Sc X.K f (r2 r)) (ha : PE X a ta) (hb : PE X b tb) (hm : behindInMarks op b = false) (hl : LS X.K p ms (tCons ta (tCons tb tNil))) : PE X (.Compare a [op] [b] pos) (den X.K p (mL f ms)) :=
  pe_imp (pe_cmpR ho ha hb hm) (mL_den (r := r2 r) hs hl)
/-- a value as a test -/
def mT (m : MD O) : MD Bool := fun e => match m e with
  | some (.v (.bool b), e1) => some (b, e1)
  | _ => none
theorem mT_den {K : PySem.W.Frag} {m : MD O} {t : TE} (h : ∀ σ H Q, den K p m σ H Q → t σ H Q) : ∀ σ H Q, denT K p (mT m) σ H Q → tTest t σ H Q := fun σ H Q ⟨B, F, e, G, y, e', s, hm, k⟩ => by
  unfold mT at hm
  split at hm
  · rename_i b e1 h1
    obtain ⟨rfl, rfl⟩ := so hm
    refine h σ H _ ⟨B, F, e, G, _, e1, s, h1, fun F1 H1 v s1 sm => ?_⟩
    obtain ⟨T, r⟩ := s1.at
    cases r with
    | v h =>
      cases h
      exact ⟨b, rfl, k F1 H1 s1.pop sm⟩
  · cases hm
theorem dt_cmp {op : CmpOp} {r : R2} (ho : OpR X (compareOp op) r) (hs : Sc X.K f (r2 r)) (ha : PE X a ta) (hb : PE X b tb) (hm : behindInMarks op b = false) (hl : LS X.K p ms (tCons ta (tCons tb tNil))) : PT X (.Compare a [op] [b] pos) (denT X.K p (mT (mL f ms))) :=
  pt_imp (pt_cmpR ho ha hb hm) (mT_den (t := tOp r ta tb) (mL_den (r := r2 r) hs hl))
/-- an expression of truth as a test -/
theorem dt_val {m : MD O} (h : PE X a (den X.K p m)) (he : ∀ whole, isTrue a X.env whole = (do let v ← whole; standAt a.pos; holding [v] (truthy v)) := by intro _; rfl) : PT X a (denT X.K p (mT m)) :=
  pt_imp (pt_val h he) (mT_den (t := den X.K p m) fun _ _ _ h => h)
end
end Dn

set_option Elab.async false
set_option linter.all false
set_option maxRecDepth 100000
set_option maxHeartbeats 4000000
namespace Dn
open PySem L2

/-! ### a list's, a tuple's parts -/
def O.lparts : O → Option (List O)
  | .l xs => some xs
  | .v (.list ds) => some (ds.map .v)
  | _ => none
def O.tparts : O → Option (List O)
  | .t xs => some xs
  | .v (.tuple ds) => some (ds.map .v)
  | _ => none
section
variable {K : PySem.W.Frag} {H0 F0 F H : Hp} {ws : Ws} {B : Bs} {σ : St} {e : En} {G : Ws}
theorem Rel.addAll (r : Rel K H0 F0 F H ws) : ∀ {vs : List V} {ds : List PyData}, DfAll K F vs ds → Rel K H0 F0 F H (vs.zip (ds.map O.v) ++ ws)
  | _, _, .nil => r
  | _, _, .cons h t => (r.addAll t).add h
theorem dfa_len {F : Hp} : ∀ {vs : List V} {ds : List PyData}, DfAll K F vs ds → vs.length = ds.length
  | _, _, .nil => rfl
  | _, _, .cons _ t => by rw [List.length_cons, List.length_cons, dfa_len t]
theorem zip_fst {α β : Type} : ∀ {a : List α} {b : List β}, a.length = b.length → (a.zip b).map (·.1) = a
  | [], [], _ => rfl
  | x :: a, y :: b, h => by
    simp only [List.length_cons, Nat.add_right_cancel_iff] at h
    simp only [List.zip_cons_cons, List.map_cons, zip_fst h]
  | [], _ :: _, h => by simp at h
  | _ :: _, [], h => by simp at h
theorem zip_snd {α β : Type} : ∀ {a : List α} {b : List β}, a.length = b.length → (a.zip b).map (·.2) = b
  | [], [], _ => rfl
  | x :: a, y :: b, h => by
    simp only [List.length_cons, Nat.add_right_cancel_iff] at h
    simp only [List.zip_cons_cons, List.map_cons, zip_snd h]
  | [], _ :: _, h => by simp at h
  | _ :: _, [], h => by simp at h
theorem zip_self {α β : Type} : ∀ (w : List (α × β)), w = (w.map (·.1)).zip (w.map (·.2))
  | [] => rfl
  | (x, y) :: w => by
    simp only [List.map_cons, List.zip_cons_cons]
    rw [← zip_self w]
/-- a container's node frozen, its parts at hand -/
theorem Rel.openN {p : Addr} {x : O} {u : HO} {w : Ws} (r : Rel K H0 F0 F H ((.ref p, x) :: ws)) (hp : H p = some u)
    (hx : ∀ T, Rp K F H (.ref p) x T → ∃ T', T = p :: T' ∧ RpL K F H w T') : Rel K H0 F0 (upd F p u) H (w ++ ws) := by
  obtain ⟨T, rl, nd, hT⟩ := r.res
  cases rl with
  | cons a t =>
    rename_i T1 T2
    obtain ⟨T', rfl, rw⟩ := hx _ a
    have hpn := hT p (List.mem_append_left _ (List.mem_cons_self ..))
    have nd1 := nd
    rw [List.cons_append] at nd1
    obtain ⟨np, nd2⟩ := List.nodup_cons.mp nd1
    have sF : Same F (upd F p u) := same_upd hpn.1
    refine ⟨r.h0, r.f0.trans sF, fun q o e => ?_, fun q o e => ?_, T' ++ T2, rpl_append (rpl_mono sF rw fun _ _ => rfl) (rpl_mono sF t fun _ _ => rfl), nd2, fun q hq => ?_⟩
    · by_cases hqp : q = p
      · rw [hqp]; exact .inr hpn.2
      · rw [upd_ne hqp] at e
        exact r.fn q o e
    · by_cases hqp : q = p
      · rw [hqp] at e ⊢
        rw [upd_same] at e
        rw [hp]
        exact e
      · rw [upd_ne hqp] at e
        exact r.fh q o e
    · have hqp : q ≠ p := fun z => np (z ▸ hq)
      have := hT q (by rw [List.cons_append]; exact List.mem_cons_of_mem _ hq)
      rw [upd_ne hqp]
      exact this
theorem Rel.openL {v : V} {x : O} {os : List O} (r : Rel K H0 F0 F H ((v, x) :: ws)) (h : x.lparts = some os) :
    ∃ p w F', v = .ref p ∧ F' p = some (.lst (w.map (·.1))) ∧ w.map (·.2) = os ∧ Same F F' ∧ Rel K H0 F0 F' H (w ++ ws) := by
  obtain ⟨T, a⟩ := r.at
  cases x with
  | v d =>
    cases d with
    | list ds =>
      cases h
      cases a with
      | v hd =>
        cases hd with
        | lst hp ha =>
          rename_i p vs
          have hl : vs.length = (ds.map O.v).length := by rw [List.length_map]; exact dfa_len ha
          refine ⟨p, vs.zip (ds.map O.v), F, rfl, ?_, zip_snd hl, Same.refl F, r.tail.addAll ha⟩
          rw [zip_fst hl]
          exact hp
    | _ => cases h
  | l xs =>
    cases h
    cases a with
    | l hp e1 e2 rl =>
      rename_i p vs w T'
      refine ⟨p, w, upd F p (.lst vs), rfl, ?_, e2.symm, ?_, r.openN hp fun T2 r2 => ?_⟩
      · rw [upd_same, e1]
      · refine same_upd ?_
        obtain ⟨T, rl, nd, hT⟩ := r.res
        cases rl with
        | cons a t =>
          cases a with
          | l _ _ _ _ => exact (hT p (List.mem_append_left _ (List.mem_cons_self ..))).1
      · cases r2 with
        | l hp' e1' e2' rl' =>
          rename_i vs' ws' T''
          rw [hp] at hp'
          cases hp'
          have : ws' = w := by
            have h1 : ws'.map (·.1) = w.map (·.1) := by rw [← e1', e1]
            have h2 : ws'.map (·.2) = w.map (·.2) := by rw [← e2', e2]
            rw [zip_self ws', zip_self w, h1, h2]
          subst this
          exact ⟨_, rfl, rl'⟩
  | _ => cases h
theorem Rel.openT {v : V} {x : O} {os : List O} (r : Rel K H0 F0 F H ((v, x) :: ws)) (h : x.tparts = some os) :
    ∃ p w F', v = .ref p ∧ F' p = some (.tup (w.map (·.1))) ∧ w.map (·.2) = os ∧ Same F F' ∧ Rel K H0 F0 F' H (w ++ ws) := by
  obtain ⟨T, a⟩ := r.at
  cases x with
  | v d =>
    cases d with
    | tuple ds =>
      cases h
      cases a with
      | v hd =>
        cases hd with
        | tup hp ha =>
          rename_i p vs
          have hl : vs.length = (ds.map O.v).length := by rw [List.length_map]; exact dfa_len ha
          refine ⟨p, vs.zip (ds.map O.v), F, rfl, ?_, zip_snd hl, Same.refl F, r.tail.addAll ha⟩
          rw [zip_fst hl]
          exact hp
    | _ => cases h
  | t xs =>
    cases h
    cases a with
    | t hp e1 e2 rl =>
      rename_i p vs w T'
      refine ⟨p, w, upd F p (.tup vs), rfl, ?_, e2.symm, ?_, r.openN hp fun T2 r2 => ?_⟩
      · rw [upd_same, e1]
      · refine same_upd ?_
        obtain ⟨T, rl, nd, hT⟩ := r.res
        cases rl with
        | cons a t =>
          cases a with
          | t _ _ _ _ => exact (hT p (List.mem_append_left _ (List.mem_cons_self ..))).1
      · cases r2 with
        | t hp' e1' e2' rl' =>
          rename_i vs' ws' T''
          rw [hp] at hp'
          cases hp'
          have : ws' = w := by
            have h1 : ws'.map (·.1) = w.map (·.1) := by rw [← e1', e1]
            have h2 : ws'.map (·.2) = w.map (·.2) := by rw [← e2', e2]
            rw [zip_self ws', zip_self w, h1, h2]
          subst this
          exact ⟨_, rfl, rl'⟩
  | _ => cases h
theorem pmid {α : Type} (w l m : List α) : (l ++ (w ++ m)).Perm (w ++ (l ++ m)) := by
  rw [← List.append_assoc, ← List.append_assoc]
  exact List.perm_append_comm.append_right m
theorem Sta.openL {v : V} {x : O} {os : List O} (s : Sta K B F H σ e ((v, x) :: G)) (h : x.lparts = some os) :
    ∃ p w F', v = .ref p ∧ F' p = some (.lst (w.map (·.1))) ∧ w.map (·.2) = os ∧ Same F F' ∧ Sta K B F' H σ e (w ++ G) := by
  obtain ⟨p, w, F', e1, e2, e3, e4, r⟩ := (s.rel.perm (mid _ _ _)).openL h
  exact ⟨p, w, F', e1, e2, e3, e4, s.ok, r.perm (pmid _ _ _).symm⟩
theorem Sta.openT {v : V} {x : O} {os : List O} (s : Sta K B F H σ e ((v, x) :: G)) (h : x.tparts = some os) :
    ∃ p w F', v = .ref p ∧ F' p = some (.tup (w.map (·.1))) ∧ w.map (·.2) = os ∧ Same F F' ∧ Sta K B F' H σ e (w ++ G) := by
  obtain ⟨p, w, F', e1, e2, e3, e4, r⟩ := (s.rel.perm (mid _ _ _)).openT h
  exact ⟨p, w, F', e1, e2, e3, e4, s.ok, r.perm (pmid _ _ _).symm⟩
end

/-! ### arguments that are handed on -/
def aNil : MD (List O) := lNil
def aCons (m : MD O) (ms : MD (List O)) : MD (List O) := lCons m ms
/-- a slot that is emptied when all is reckoned -/
def aMv (i : Nat) (ms : MD (List O)) : MD (List O) := fun e => match bVar i e with
  | some _ => (match ms e with
    | some (xs, e1) => (match mMv i e1 with
      | some (x, e2) => some (x :: xs, e2)
      | none => none)
    | none => none)
  | none => none
def AS (K : PySem.W.Frag) (p : Bool) (m : MD (List O)) (t : TA) : Prop := ∀ σ H Q, denA K p m σ H Q → t σ H Q
section
variable {K : PySem.W.Frag}
theorem as_nil : AS K true aNil tNil := fun σ H Q ⟨B, F, e, G, y, e', s, hm, k⟩ => by
  cases hm
  exact k F H [] s rfl fun _ => .refl _
theorem as_cons {p q : Bool} {m : MD O} {ms : MD (List O)} {t : TA} (h : AS K q ms t) : AS K (p && q) (aCons m ms) (tCons (den K p m) t) := fun σ H Q ⟨B, F, e, G, y, e', s, hm, k⟩ => by
  unfold aCons lCons at hm
  split at hm
  · rename_i x e1 h1
    split at hm
    · rename_i xs e2 h2
      obtain ⟨rfl, rfl⟩ := so hm
      refine ⟨B, F, e, G, x, e1, s, h1, fun F1 H1 v s1 sm1 => h σ H1 _ ⟨B, F1, e1, (v, x) :: G, xs, e2, s1, h2, fun F2 H2 ws s2 r2 sm2 => ?_⟩⟩
      refine k F2 H2 ((v, x) :: ws) (s2.perm (mid _ _ _)) (by rw [List.map_cons, r2]) fun z => ?_
      cases p
      · cases z
      · cases q
        · cases z
        · exact (sm1 rfl).trans (sm2 rfl)
    · cases hm
  · cases hm
theorem as_mv {q : Bool} {i : Nat} {ms : MD (List O)} {t : TA} (h : AS K q ms t) : AS K q (aMv i ms) (tCons (tVar i) t) := fun σ H Q ⟨B, F, e, G, y, e', s, hm, k⟩ => by
  unfold aMv at hm
  split at hm
  · rename_i x0 h0
    split at hm
    · rename_i xs e1 h1
      split at hm
      · rename_i x e2 h2
        obtain ⟨rfl, rfl⟩ := so hm
        obtain ⟨sl0, hi0, ho0⟩ := Option.bind_eq_some_iff.mp h0
        obtain ⟨v, hv, _⟩ := s.seeO hi0 ho0
        refine ⟨v, hv, h σ H _ ⟨B, F, e, G, xs, e1, s, h1, fun F1 H1 ws s1 r1 sm1 => ?_⟩⟩
        unfold mMv at h2
        split at h2
        · rename_i o hi
          obtain ⟨rfl, rfl⟩ := so h2
          obtain ⟨v', hv', s2⟩ := s1.out hi (show (Sl.own o).o? = some o from rfl)
          obtain rfl : v' = v := by rw [hv] at hv'; cases hv'; rfl
          exact k F1 H1 ((v', o) :: ws) s2 (by rw [List.map_cons, r1]) sm1
        · cases h2
      · cases hm
    · cases hm
  · cases hm
end
section
variable {X : Cx} {p q : Bool}
theorem da_nil : PA X [] (denA X.K true aNil) := pa_imp pa_nil as_nil
theorem da_cons {e : Expr} {es : List Expr} {m : MD O} {ms : MD (List O)} (ha : PE X e (den X.K p m)) (hr : PA X es (denA X.K q ms)) (hs : starEach (e :: es) X.env = (false, eval e X.env) :: starEach es X.env := by rfl) :
    PA X (e :: es) (denA X.K (p && q) (aCons m ms)) := pa_imp (pa_cons ha hr hs) (as_cons fun _ _ _ h => h)
theorem da_mv {i : Nat} {e : Expr} {es : List Expr} {ms : MD (List O)} (ha : PE X e (tVar i)) (hr : PA X es (denA X.K q ms)) (hs : starEach (e :: es) X.env = (false, eval e X.env) :: starEach es X.env := by rfl) :
    PA X (e :: es) (denA X.K q (aMv i ms)) := pa_imp (pa_cons ha hr hs) (as_mv fun _ _ _ h => h)
theorem dl_nil : PA X [] (denL X.K true lNil) := pa_imp pa_nil ls_nil
theorem dl_cons {e : Expr} {es : List Expr} {m : MD O} {ms : MD (List O)} (ha : PE X e (den X.K p m)) (hr : PA X es (denL X.K q ms)) (hs : starEach (e :: es) X.env = (false, eval e X.env) :: starEach es X.env := by rfl) :
    PA X (e :: es) (denL X.K (p && q) (lCons m ms)) := pa_imp (pa_cons ha hr hs) (ls_cons fun _ _ _ h => h)
theorem dl_see {i : Nat} {e : Expr} {es : List Expr} {ms : MD (List O)} (ha : PE X e (tVar i)) (hr : PA X es (denL X.K q ms)) (hs : starEach (e :: es) X.env = (false, eval e X.env) :: starEach es X.env := by rfl) :
    PA X (e :: es) (denL X.K q (lSee i ms)) := pa_imp (pa_cons ha hr hs) (ls_see fun _ _ _ h => h)
theorem dl_B {e : Expr} {m : En → Option O} (ha : PE X e (denB X.K m)) (hs : starEach [e] X.env = (false, eval e X.env) :: starEach [] X.env := by rfl) :
    PA X [e] (denL X.K true (lB m)) := pa_imp (pa_cons ha pa_nil hs) ls_B
end

/-! ### what takes the things handed on and tells a thing -/
def mA (f : List O → Option O) (ms : MD (List O)) : MD O := fun e => match ms e with
  | some (xs, e1) => (match f xs with
    | some x => some (x, e1)
    | none => none)
  | none => none
def Al (K : PySem.W.Frag) (f : List O → Option O) (r : List V → Hp → VK → Prop) : Prop :=
  ∀ (B : Bs) (F H : Hp) (σ : St) (e : En) (G ws : Ws) (x : O) (Q : VK), Sta K B F H σ e (ws ++ G) → f (ws.map (·.2)) = some x →
    (∀ F' H' v, Sta K B F' H' σ e ((v, x) :: G) → Same H H' → Q v H') → r (ws.map (·.1)) H Q
theorem mA_den {K : PySem.W.Frag} {p : Bool} {f : List O → Option O} {ms : MD (List O)} {r : List V → Hp → VK → Prop} {t : TA} (hr : Al K f r) (hl : AS K p ms t) : ∀ σ H Q, den K p (mA f ms) σ H Q → tCB r t σ H Q := fun σ H Q ⟨B, F, e, G, y, e', s, hm, k⟩ => by
  unfold mA at hm
  split at hm
  · rename_i xs e1 h1
    split at hm
    · rename_i x h2
      obtain ⟨rfl, rfl⟩ := so hm
      refine hl σ H _ ⟨B, F, e, G, xs, e1, s, h1, fun F1 H1 ws s1 r1 sm1 => ?_⟩
      exact hr B F1 H1 σ e1 G ws x Q s1 (by rw [r1]; exact h2) fun F2 H2 v s2 sm2 => k F2 H2 v s2 fun z => (sm1 z).trans sm2
    · cases hm
  · cases hm
/-- a tuple of frozen things is frozen -/
def O.allV : List O → Option (List PyData)
  | [] => some []
  | .v d :: xs => (match O.allV xs with
    | some ds => some (d :: ds)
    | none => none)
  | _ => none
def tupO (xs : List O) : Option O := if xs.length ≤ sizeLine then (match O.allV xs with
  | some ds => some (.v (.tuple ds))
  | none => some (.t xs)) else none
def lstO (xs : List O) : Option O := if xs.length ≤ sizeLine then some (.l xs) else none
theorem allV_toDs : ∀ {xs : List O} {ds : List PyData}, O.allV xs = some ds → O.toDs xs = some ds
  | [], _, h => by cases h; rfl
  | .v d :: xs, ds, h => by
    unfold O.allV at h
    split at h
    · rename_i ds' h'
      cases h
      unfold O.toDs O.toD
      rw [allV_toDs h']
    · cases h
  | .l _ :: _, _, h => by cases h
  | .t _ :: _, _, h => by cases h
  | .s _ :: _, _, h => by cases h
  | .fx _ :: _, _, h => by cases h
  | .dk _ :: _, _, h => by cases h
  | .dt _ :: _, _, h => by cases h
  | .ob _ _ _ :: _, _, h => by cases h
section
variable {K : PySem.W.Frag}
def rTup : List V → Hp → VK → Prop := fun xs H Q => xs.length ≤ sizeLine ∧ ∀ p, H p = none → Q (.ref p) (upd H p (.tup xs))
def rLst : List V → Hp → VK → Prop := fun xs H Q => xs.length ≤ sizeLine ∧ ∀ p, H p = none → Q (.ref p) (upd H p (.lst xs))
theorem al_lst : Al K lstO rLst := fun B F H σ e G ws x Q s hx k => by
  unfold lstO at hx
  split at hx
  · rename_i hl
    cases hx
    rw [List.length_map] at hl
    exact ⟨by rw [List.length_map]; exact hl, fun p hp => k F _ _ (s.newL hp) (same_upd hp)⟩
  · cases hx
theorem al_tup : Al K tupO rTup := fun B F H σ e G ws x Q s hx k => by
  unfold tupO at hx
  split at hx
  · rename_i hl
    rw [List.length_map] at hl
    refine ⟨by rw [List.length_map]; exact hl, fun p hp => ?_⟩
    have s1 := s.newT hp
    split at hx
    · rename_i ds hd
      cases hx
      obtain ⟨F', s2⟩ := s1.freeze (show (O.t (ws.map (·.2))).toD = some (.tuple ds) by unfold O.toD; rw [allV_toDs hd]; rfl)
      exact k F' _ _ s2 (same_upd hp)
    · cases hx
      exact k F _ _ s1 (same_upd hp)
  · cases hx
end
section
variable {X : Cx} {es : List Expr} {p : Bool} {ms : MD (List O)} {pos : Pos}
theorem d_lst (h : PA X es (denA X.K p ms)) : PE X (.List es pos) (den X.K p (mA lstO ms)) := pe_imp (pe_lst h) (mA_den al_lst fun _ _ _ h => h)
theorem d_tup {x1} (h : PA X es (denA X.K p ms)) : PE X (.Tuple es x1 pos) (den X.K p (mA tupO ms)) := pe_imp (pe_tup h) (mA_den al_tup fun _ _ _ h => h)
end
end Dn

set_option Elab.async false
set_option linter.all false
set_option maxRecDepth 100000
set_option maxHeartbeats 4000000
namespace Dn
open PySem L2

/-! ### scalars by data -/
def fI2 (g : Int → Int → Option PyData) : List PyData → Option PyData
  | [.int i, .int j] => g i j
  | _ => none
def fI1 (g : Int → Option PyData) : List PyData → Option PyData
  | [.int i] => g i
  | _ => none
section
variable {K : PySem.W.Frag} {X : Cx}
theorem fI2_some {g : Int → Int → Option PyData} {ds : List PyData} {z : PyData} (h : fI2 g ds = some z) : ∃ i j, ds = [.int i, .int j] ∧ g i j = some z := by
  unfold fI2 at h
  split at h
  · exact ⟨_, _, rfl, h⟩
  · cases h
theorem fI1_some {g : Int → Option PyData} {ds : List PyData} {z : PyData} (h : fI1 g ds = some z) : ∃ i, ds = [.int i] ∧ g i = some z := by
  unfold fI1 at h
  split at h
  · exact ⟨_, rfl, h⟩
  · cases h
theorem df_int {H : Hp} {v : V} {i : Int} (h : Df K H v (.int i)) : v = .int i := by cases h; rfl
theorem df_str {H : Hp} {v : V} {x : Str} (h : Df K H v (.str x)) : v = .str x := by cases h; rfl
theorem df_bool {H : Hp} {v : V} {b : Bool} (h : Df K H v (.bool b)) : v = .bl b := by cases h; rfl
theorem dfa1 {H : Hp} {vs : List V} {d : PyData} (h : DfAll K H vs [d]) : ∃ v, vs = [v] ∧ Df K H v d := by
  cases h with
  | cons a t => cases t; exact ⟨_, rfl, a⟩
theorem dfa2 {H : Hp} {vs : List V} {d d' : PyData} (h : DfAll K H vs [d, d']) : ∃ v u, vs = [v, u] ∧ Df K H v d ∧ Df K H u d' := by
  cases h with
  | cons a t =>
    obtain ⟨u, rfl, b⟩ := dfa1 t
    exact ⟨_, _, rfl, a, b⟩
theorem sc_I0 {g : Int → Int → PyData} {g' : Int → Int → V} (h : ∀ i j, sV (g i j) = some (g' i j)) : Sc K (fI2 fun i j => some (g i j)) (r2 (rI0 g')) := fun H vs ds z a hf => by
  obtain ⟨i, j, rfl, hz⟩ := fI2_some hf
  cases hz
  obtain ⟨v, u, rfl, b, c⟩ := dfa2 a
  obtain rfl := df_int b
  obtain rfl := df_int c
  exact ⟨g' i j, h i j, fun Q q => ⟨i, j, rfl, rfl, q⟩⟩
theorem sc_I {C : Int → Int → Prop} {D : Int → Int → Prop} [∀ i j, Decidable (D i j)] {g : Int → Int → PyData} {g' : Int → Int → V} (hC : ∀ i j, D i j → C i j) (h : ∀ i j, sV (g i j) = some (g' i j)) :
    Sc K (fI2 fun i j => if shut (decide (D i j)) = true then some (g i j) else none) (r2 (rI C g')) := fun H vs ds z a hf => by
  obtain ⟨i, j, rfl, hz⟩ := fI2_some hf
  split at hz
  · rename_i hd
    rw [shut_eq, decide_eq_true_eq] at hd
    cases hz
    obtain ⟨v, u, rfl, b, c⟩ := dfa2 a
    obtain rfl := df_int b
    obtain rfl := df_int c
    exact ⟨g' i j, h i j, fun Q q => ⟨i, j, rfl, rfl, hC i j hd, q⟩⟩
  · cases hz
def fSub := fI2 fun i j => some (.int (i - j))
noncomputable def fMod := fI2 fun i j => if shut (decide (0 < j)) = true then some (.int (i % j)) else none
instance (i j : Int) : Decidable (CDivW i j) := inferInstanceAs (Decidable (0 < j ∧ j.natAbs.log2 < 9000))
noncomputable def fDiv := fI2 fun i j => if shut (decide (CDivW i j)) = true then some (.int (i / j)) else none
instance (i j : Int) : Decidable (CPow i j) := inferInstanceAs (Decidable (0 ≤ j ∧ j ≤ 1000000 ∧ i.natAbs < 2 ^ 64))
instance (i j : Int) : Decidable (CMul i j) := inferInstanceAs (Decidable ((-(2 ^ 64) < i ∧ i < 2 ^ 64) ∨ (-(2 ^ 64) < j ∧ j < 2 ^ 64)))
instance (i j : Int) : Decidable (CMulW i j) := inferInstanceAs (Decidable (i.natAbs.log2 + j.natAbs.log2 < 1000000))
noncomputable def fPow := fI2 fun i j => if shut (decide (CPow i j)) = true then some (.int (i ^ j.toNat)) else none
noncomputable def fShl := fI2 fun i j => if shut (decide (CPow i j)) = true then some (.int (i * 2 ^ j.toNat)) else none
noncomputable def fShr := fI2 fun i j => if shut (decide (0 ≤ j)) = true then some (.int (i / 2 ^ j.toNat)) else none
def fAnd := fI2 fun i j => some (.int (Builtin.bitAnd i j))
noncomputable def fMul := fI2 fun i j => if shut (decide (CMul i j ∨ CMulW i j)) = true then some (.int (i * j)) else none
def fLt := fI2 fun i j => some (.bool (decide (i < j)))
def fLe := fI2 fun i j => some (.bool (decide (i ≤ j)))
def fGt := fI2 fun i j => some (.bool (decide (j < i)))
def fGe := fI2 fun i j => some (.bool (decide (j ≤ i)))
def fNeg := fI1 fun i => some (.int (-i))
theorem sc_sub : Sc K fSub (r2 (rI0 fun i j => .int (i - j))) := sc_I0 fun _ _ => rfl
theorem sc_mod : Sc K fMod (r2 (rI (fun _ j => 0 < j) fun i j => .int (i % j))) := sc_I (fun _ _ h => h) fun _ _ => rfl
theorem sc_div : Sc K fDiv (r2 (rI CDivW fun i j => .int (i / j))) := sc_I (fun _ _ h => h) fun _ _ => rfl
theorem sc_pow : Sc K fPow (r2 (rI CPow fun i j => .int (i ^ j.toNat))) := sc_I (fun _ _ h => h) fun _ _ => rfl
theorem sc_shl : Sc K fShl (r2 (rI CPow fun i j => .int (i * 2 ^ j.toNat))) := sc_I (fun _ _ h => h) fun _ _ => rfl
theorem sc_shr : Sc K fShr (r2 (rI (fun _ j => 0 ≤ j) fun i j => .int (i / 2 ^ j.toNat))) := sc_I (fun _ _ h => h) fun _ _ => rfl
theorem sc_and : Sc K fAnd (r2 (rI0 fun i j => .int (Builtin.bitAnd i j))) := sc_I0 fun _ _ => rfl
theorem sc_mul : Sc K fMul (r2 (rI (fun i j => CMul i j ∨ CMulW i j) fun i j => .int (i * j))) := sc_I (fun _ _ h => h) fun _ _ => rfl
theorem op_mulA : OpR X (binaryOp .Mult) (rI (fun i j => CMul i j ∨ CMulW i j) fun i j => .int (i * j)) := by
  intro pins s σ H x y v u Q I rx ry h
  obtain ⟨i, j, e1, e2, hc, q⟩ := h
  rcases hc with hc | hc
  · exact op_mul pins s σ H x y v u Q I rx ry ⟨i, j, e1, e2, hc, q⟩
  · exact op_mulW pins s σ H x y v u Q I rx ry ⟨i, j, e1, e2, hc, q⟩
theorem sc_lt : Sc K fLt (r2 (rI0 fun i j => .bl (decide (i < j)))) := sc_I0 fun _ _ => rfl
theorem sc_le : Sc K fLe (r2 (rI0 fun i j => .bl (decide (i ≤ j)))) := sc_I0 fun _ _ => rfl
theorem sc_gt : Sc K fGt (r2 (rI0 fun i j => .bl (decide (j < i)))) := sc_I0 fun _ _ => rfl
theorem sc_ge : Sc K fGe (r2 (rI0 fun i j => .bl (decide (j ≤ i)))) := sc_I0 fun _ _ => rfl
theorem sc_neg : Sc K fNeg (r1 (rU fun i => .int (-i))) := fun H vs ds z a hf => by
  obtain ⟨i, rfl, hz⟩ := fI1_some hf
  cases hz
  obtain ⟨v, rfl, b⟩ := dfa1 a
  obtain rfl := df_int b
  exact ⟨_, rfl, fun Q q => ⟨i, rfl, q⟩⟩
/-- == -/
def fEq : List PyData → Option PyData
  | [d, e] => if SeqAt.shaped d && SeqAt.shaped e then some (.bool (PyData.eqv d e)) else none
  | _ => none
def fNe : List PyData → Option PyData
  | [d, e] => if SeqAt.shaped d && SeqAt.shaped e then some (.bool (!PyData.eqv d e)) else none
  | _ => none
theorem sc_eq : Sc K fEq (r2 (rEqD K)) := fun H vs ds z a hf => by
  unfold fEq at hf
  split at hf
  · split at hf
    · rename_i d e hs
      cases hf
      simp only [Bool.and_eq_true] at hs
      obtain ⟨v, u, rfl, b, c⟩ := dfa2 a
      exact ⟨_, rfl, fun Q q => ⟨d, e, b.dp (Same.refl H), c.dp (Same.refl H), hs.1, hs.2, q⟩⟩
    · cases hf
  · cases hf
theorem sc_ne : Sc K fNe (r2 (rNeD K)) := fun H vs ds z a hf => by
  unfold fNe at hf
  split at hf
  · split at hf
    · rename_i d e hs
      cases hf
      simp only [Bool.and_eq_true] at hs
      obtain ⟨v, u, rfl, b, c⟩ := dfa2 a
      exact ⟨_, rfl, fun Q q => ⟨d, e, b.dp (Same.refl H), c.dp (Same.refl H), hs.1, hs.2, q⟩⟩
    · cases hf
  · cases hf
/-- is None -/
def isN : PyData → Bool
  | .none => true
  | _ => false
def fIsN : List PyData → Option PyData
  | [d, .none] => some (.bool (isN d))
  | _ => none
def fNotN : List PyData → Option PyData
  | [d, .none] => some (.bool (!isN d))
  | _ => none
theorem df_isN {H : Hp} {v : V} {d : PyData} (h : Df K H v d) : decide (v = .non) = isN d := by
  cases h <;> first | rfl | exact decide_eq_false (fun z => by cases z)
theorem sc_isN : Sc K fIsN (r2 fun x y H Q => y = .non ∧ Q (.bl (decide (x = .non))) H) := fun H vs ds z a hf => by
  unfold fIsN at hf
  split at hf
  · cases hf
    obtain ⟨v, u, rfl, b, c⟩ := dfa2 a
    cases c
    exact ⟨_, rfl, fun Q q => ⟨rfl, by rw [df_isN b]; exact q⟩⟩
  · cases hf
theorem sc_notN : Sc K fNotN (r2 fun x y H Q => y = .non ∧ Q (.bl (!decide (x = .non))) H) := fun H vs ds z a hf => by
  unfold fNotN at hf
  split at hf
  · cases hf
    obtain ⟨v, u, rfl, b, c⟩ := dfa2 a
    cases c
    exact ⟨_, rfl, fun Q q => ⟨rfl, by rw [df_isN b]; exact q⟩⟩
  · cases hf
/-- in, by a list's or a text's -/
def fIn : List PyData → Option PyData
  | [.str a, .str b] => some (.bool (!(Builtin.Str.occurrences b a 0 b.length 1).isEmpty))
  | [d, .list ds] => if SeqAt.shaped d && SeqAt.shaped (.list ds) then some (.bool (ds.any fun z => PyData.eqv z d)) else none
  | _ => none
def fNotIn : List PyData → Option PyData
  | [.str a, .str b] => some (.bool (!(!(Builtin.Str.occurrences b a 0 b.length 1).isEmpty)))
  | [d, .list ds] => if SeqAt.shaped d && SeqAt.shaped (.list ds) then some (.bool (!ds.any fun z => PyData.eqv z d)) else none
  | _ => none

def rInA (K : PySem.W.Frag) : R2 := fun x y H Q => (∃ i j, x = V.str i ∧ y = V.str j ∧ Q (.bl (!(Builtin.Str.occurrences j i 0 j.length 1).isEmpty)) H) ∨ rInD K x y H Q
def rNotInA (K : PySem.W.Frag) : R2 := fun x y H Q => (∃ i j, x = V.str i ∧ y = V.str j ∧ Q (.bl (!(!(Builtin.Str.occurrences j i 0 j.length 1).isEmpty))) H) ∨ rNotInD K x y H Q
theorem op_inA (hu : X.A.units + 65 < cLine) : OpR X (compareOp .In) (rInA X.K) := opr_or op_in_str (op_inD hu)
theorem op_notInA (hu : X.A.units + 65 < cLine) : OpR X (compareOp .NotIn) (rNotInA X.K) := opr_or op_notIn_str (op_notInD hu)
theorem sc_in : Sc K fIn (r2 (rInA K)) := fun H vs ds z a hf => by
  unfold fIn at hf
  split at hf
  · cases hf
    obtain ⟨v, u, rfl, b, c⟩ := dfa2 a
    obtain rfl := df_str b
    obtain rfl := df_str c
    exact ⟨_, rfl, fun Q q => .inl ⟨_, _, rfl, rfl, q⟩⟩
  · split at hf
    · rename_i hs
      cases hf
      simp only [Bool.and_eq_true] at hs
      obtain ⟨v, u, rfl, b, c⟩ := dfa2 a
      exact ⟨_, rfl, fun Q q => .inr ⟨_, _, b.dp (Same.refl H), c.dp (Same.refl H), hs.1, hs.2, q⟩⟩
    · cases hf
  · cases hf
theorem sc_notIn : Sc K fNotIn (r2 (rNotInA K)) := fun H vs ds z a hf => by
  unfold fNotIn at hf
  split at hf
  · cases hf
    obtain ⟨v, u, rfl, b, c⟩ := dfa2 a
    obtain rfl := df_str b
    obtain rfl := df_str c
    exact ⟨_, rfl, fun Q q => .inl ⟨_, _, rfl, rfl, q⟩⟩
  · split at hf
    · rename_i hs
      cases hf
      simp only [Bool.and_eq_true] at hs
      obtain ⟨v, u, rfl, b, c⟩ := dfa2 a
      exact ⟨_, rfl, fun Q q => .inr ⟨_, _, b.dp (Same.refl H), c.dp (Same.refl H), hs.1, hs.2, q⟩⟩
    · cases hf
  · cases hf

/-! ### built-ins that tell scalars -/
def asInts : List PyData → Option (List Int)
  | [] => some []
  | .int i :: ds => (match asInts ds with
    | some ns => some (i :: ns)
    | none => none)
  | _ => none
def asBools : List PyData → Option (List Bool)
  | [] => some []
  | .bool b :: ds => (match asBools ds with
    | some ns => some (b :: ns)
    | none => none)
  | _ => none
def asStrs : List PyData → Option (List Str)
  | [] => some []
  | .str b :: ds => (match asStrs ds with
    | some ns => some (b :: ns)
    | none => none)
  | _ => none
theorem asInts_v {F : Hp} : ∀ {vs : List V} {ds : List PyData} {ns : List Int}, DfAll K F vs ds → asInts ds = some ns → vs = ns.map V.int
  | _, _, _, .nil, h => by unfold asInts at h; cases h; rfl
  | _, _, _, .cons (d := d) a t, h => by
    unfold asInts at h
    split at h
    · rename_i e1; cases e1
    · rename_i i ds' e1
      cases e1
      split at h
      · rename_i ns' h'
        cases h
        rw [df_int a, asInts_v t h', List.map_cons]
      · cases h
    · cases h
theorem asBools_v {F : Hp} : ∀ {vs : List V} {ds : List PyData} {ns : List Bool}, DfAll K F vs ds → asBools ds = some ns → vs = ns.map V.bl
  | _, _, _, .nil, h => by unfold asBools at h; cases h; rfl
  | _, _, _, .cons (d := d) a t, h => by
    unfold asBools at h
    split at h
    · rename_i e1; cases e1
    · rename_i i ds' e1
      cases e1
      split at h
      · rename_i ns' h'
        cases h
        rw [df_bool a, asBools_v t h', List.map_cons]
      · cases h
    · cases h
theorem asStrs_v {F : Hp} : ∀ {vs : List V} {ds : List PyData} {ns : List Str}, DfAll K F vs ds → asStrs ds = some ns → vs = ns.map V.str
  | _, _, _, .nil, h => by unfold asStrs at h; cases h; rfl
  | _, _, _, .cons (d := d) a t, h => by
    unfold asStrs at h
    split at h
    · rename_i e1; cases e1
    · rename_i i ds' e1
      cases e1
      split at h
      · rename_i ns' h'
        cases h
        rw [df_str a, asStrs_v t h', List.map_cons]
      · cases h
    · cases h
theorem df_list {H : Hp} {v : V} {ds : List PyData} (h : Df K H v (.list ds)) : ∃ p vs, v = .ref p ∧ H p = some (.lst vs) ∧ DfAll K H vs ds := by
  cases h with
  | lst a b => exact ⟨_, _, rfl, a, b⟩
theorem df_tuple {H : Hp} {v : V} {ds : List PyData} (h : Df K H v (.tuple ds)) : ∃ p vs, v = .ref p ∧ H p = some (.tup vs) ∧ DfAll K H vs ds := by
  cases h with
  | tup a b => exact ⟨_, _, rfl, a, b⟩
def fLen : List PyData → Option PyData
  | [.list ds] => some (.int ds.length)
  | [.tuple ds] => some (.int ds.length)
  | [.str x] => if x.length ≤ sizeLine then some (.int x.length) else none
  | _ => none
theorem sc_len : Sc K fLen (fun xs H Q => ∃ x n, xs = [x] ∧ LenV K x H n ∧ Q (.int n) H) := fun H vs ds z a hf => by
  unfold fLen at hf
  split at hf
  · cases hf
    obtain ⟨v, rfl, b⟩ := dfa1 a
    obtain ⟨p, ws, rfl, hp, ha⟩ := df_list b
    exact ⟨_, rfl, fun Q q => ⟨_, _, rfl, .inl ⟨ws, .of hp, rfl⟩, by rw [dfa_len ha]; exact q⟩⟩
  · cases hf
    obtain ⟨v, rfl, b⟩ := dfa1 a
    obtain ⟨p, ws, rfl, hp, ha⟩ := df_tuple b
    exact ⟨_, rfl, fun Q q => ⟨_, _, rfl, .inr ⟨ws, .of hp, rfl⟩, by rw [dfa_len ha]; exact q⟩⟩
  · split at hf
    · rename_i hl
      cases hf
      obtain ⟨v, rfl, b⟩ := dfa1 a
      obtain rfl := df_str b
      exact ⟨_, rfl, fun Q q => ⟨_, _, rfl, ⟨hl, rfl⟩, q⟩⟩
    · cases hf
  · cases hf
def maxL : Int → List Int → Int
  | m, [] => m
  | m, x :: xs => maxL (max m x) xs
def minL : Int → List Int → Int
  | m, [] => m
  | m, x :: xs => minL (min m x) xs
theorem maxL_ge : ∀ (m : Int) (xs : List Int), m ≤ maxL m xs ∧ ∀ x ∈ xs, x ≤ maxL m xs
  | m, [] => ⟨Int.le_refl _, fun _ h => by cases h⟩
  | m, x :: xs => by
    obtain ⟨h1, h2⟩ := maxL_ge (max m x) xs
    refine ⟨Int.le_trans (Int.le_max_left m x) h1, fun y hy => ?_⟩
    rcases List.mem_cons.mp hy with rfl | hy
    · exact Int.le_trans (Int.le_max_right m y) h1
    · exact h2 y hy
theorem maxL_mem : ∀ (m : Int) (xs : List Int), maxL m xs = m ∨ maxL m xs ∈ xs
  | m, [] => .inl rfl
  | m, x :: xs => by
    rcases maxL_mem (max m x) xs with h | h
    · show maxL (max m x) xs = m ∨ _
      rw [h]
      by_cases hx : m ≤ x
      · right; show maxL (max m x) xs ∈ _; rw [h, Int.max_eq_right hx]; exact List.mem_cons_self ..
      · left; exact Int.max_eq_left (by omega)
    · exact .inr (List.mem_cons_of_mem _ h)
theorem minL_le : ∀ (m : Int) (xs : List Int), minL m xs ≤ m ∧ ∀ x ∈ xs, minL m xs ≤ x
  | m, [] => ⟨Int.le_refl _, fun _ h => by cases h⟩
  | m, x :: xs => by
    obtain ⟨h1, h2⟩ := minL_le (min m x) xs
    refine ⟨Int.le_trans h1 (Int.min_le_left m x), fun y hy => ?_⟩
    rcases List.mem_cons.mp hy with rfl | hy
    · exact Int.le_trans h1 (Int.min_le_right m y)
    · exact h2 y hy
theorem minL_mem : ∀ (m : Int) (xs : List Int), minL m xs = m ∨ minL m xs ∈ xs
  | m, [] => .inl rfl
  | m, x :: xs => by
    rcases minL_mem (min m x) xs with h | h
    · show minL (min m x) xs = m ∨ _
      rw [h]
      by_cases hx : m ≤ x
      · left; exact Int.min_eq_left hx
      · right; show minL (min m x) xs ∈ _; rw [h, Int.min_eq_right (by omega)]; exact List.mem_cons_self ..
    · exact .inr (List.mem_cons_of_mem _ h)
def fMax : List PyData → Option PyData
  | [.int i, .int j] => some (.int (if j > i then j else i))
  | [.list ds] => (match asInts ds with
    | some (n :: ns) => some (.int (maxL n ns))
    | _ => none)
  | _ => none
def fMin : List PyData → Option PyData
  | [.int i, .int j] => some (.int (if j < i then j else i))
  | [.list ds] => (match asInts ds with
    | some (n :: ns) => some (.int (minL n ns))
    | _ => none)
  | _ => none
theorem callr_or {f : Value} {r r' : List V → Hp → VK → Prop} (h : CallR X f r) (h' : CallR X f r') : CallR X f (fun x H Q => r x H Q ∨ r' x H Q) := by
  intro pins s σ H x u Q I rx q
  rcases q with q | q
  · exact h pins s σ H x u Q I rx q
  · exact h' pins s σ H x u Q I rx q
def rMaxA (K : PySem.W.Frag) : List V → Hp → VK → Prop := fun xs H Q => (∃ i j, xs = [.int i, .int j] ∧ Q (.int (if j > i then j else i)) H) ∨ rMax K xs H Q
def rMinA (K : PySem.W.Frag) : List V → Hp → VK → Prop := fun xs H Q => (∃ i j, xs = [.int i, .int j] ∧ Q (.int (if j < i then j else i)) H) ∨ rMin K xs H Q
theorem call_maxA (hc : X.calm = true) : CallR X (.builtin "max") (rMaxA X.K) := callr_or (call_max2 hc) (cr_max hc)
theorem call_minA (hc : X.calm = true) : CallR X (.builtin "min") (rMinA X.K) := callr_or (call_min2 hc) (cr_min hc)
theorem sc_max : Sc K fMax (rMaxA K) := fun H vs ds z a hf => by
  unfold fMax at hf
  split at hf
  · cases hf
    obtain ⟨v, u, rfl, b, c⟩ := dfa2 a
    obtain rfl := df_int b
    obtain rfl := df_int c
    exact ⟨_, rfl, fun Q q => .inl ⟨_, _, rfl, q⟩⟩
  · split at hf
    · rename_i n ns hn
      cases hf
      obtain ⟨v, rfl, b⟩ := dfa1 a
      obtain ⟨p, ws, rfl, hp, ha⟩ := df_list b
      have e := asInts_v ha hn
      subst e
      refine ⟨_, rfl, fun Q q => .inr ⟨p, n :: ns, rfl, .of hp, by simp, fun m hm hle => ?_⟩⟩
      have e : m = maxL n ns := by
        have h1 := maxL_ge n ns
        have h2 : m ≤ maxL n ns := by
          rcases List.mem_cons.mp hm with e | hm
          · rw [e]; exact h1.1
          · exact h1.2 m hm
        have h3 : maxL n ns ≤ m := by
          rcases maxL_mem n ns with e | e
          · rw [e]; exact hle n (List.mem_cons_self ..)
          · exact hle _ (List.mem_cons_of_mem _ e)
        omega
      rw [e]
      exact q
    · cases hf
  · cases hf
theorem sc_min : Sc K fMin (rMinA K) := fun H vs ds z a hf => by
  unfold fMin at hf
  split at hf
  · cases hf
    obtain ⟨v, u, rfl, b, c⟩ := dfa2 a
    obtain rfl := df_int b
    obtain rfl := df_int c
    exact ⟨_, rfl, fun Q q => .inl ⟨_, _, rfl, q⟩⟩
  · split at hf
    · rename_i n ns hn
      cases hf
      obtain ⟨v, rfl, b⟩ := dfa1 a
      obtain ⟨p, ws, rfl, hp, ha⟩ := df_list b
      have e := asInts_v ha hn
      subst e
      refine ⟨_, rfl, fun Q q => .inr ⟨p, n :: ns, rfl, .of hp, by simp, fun m hm hle => ?_⟩⟩
      have e : m = minL n ns := by
        have h1 := minL_le n ns
        have h2 : minL n ns ≤ m := by
          rcases List.mem_cons.mp hm with e | hm
          · rw [e]; exact h1.1
          · exact h1.2 m hm
        have h3 : m ≤ minL n ns := by
          rcases minL_mem n ns with e | e
          · rw [e]; exact hle n (List.mem_cons_self ..)
          · exact hle _ (List.mem_cons_of_mem _ e)
        omega
      rw [e]
      exact q
    · cases hf
  · cases hf
def fAbs := fI1 fun i => some (.int (if i < 0 then -i else i))
theorem sc_abs : Sc K fAbs (fun xs H Q => ∃ i, xs = [.int i] ∧ Q (.int (if i < 0 then -i else i)) H) := fun H vs ds z a hf => by
  obtain ⟨i, rfl, hz⟩ := fI1_some hf
  cases hz
  obtain ⟨v, rfl, b⟩ := dfa1 a
  obtain rfl := df_int b
  exact ⟨_, rfl, fun Q q => ⟨i, rfl, q⟩⟩
def fSum : List PyData → Option PyData
  | [.list ds] => (match asInts ds with
    | some ns => some (.int ns.sum)
    | _ => none)
  | _ => none
theorem sc_sum : Sc K fSum (rSum K) := fun H vs ds z a hf => by
  unfold fSum at hf
  split at hf
  · split at hf
    · rename_i ns hn
      cases hf
      obtain ⟨v, rfl, b⟩ := dfa1 a
      obtain ⟨p, ws, rfl, hp, ha⟩ := df_list b
      have e := asInts_v ha hn
      subst e
      exact ⟨_, rfl, fun Q q => ⟨p, ns, rfl, .of hp, q⟩⟩
    · cases hf
  · cases hf
def fAll : List PyData → Option PyData
  | [.list ds] => (match asBools ds with
    | some ns => some (.bool (ns.all id))
    | _ => none)
  | _ => none
def fAny : List PyData → Option PyData
  | [.list ds] => (match asBools ds with
    | some ns => some (.bool (ns.any id))
    | _ => none)
  | _ => none
theorem sc_all : Sc K fAll (rAll K) := fun H vs ds z a hf => by
  unfold fAll at hf
  split at hf
  · split at hf
    · rename_i ns hn
      cases hf
      obtain ⟨v, rfl, b⟩ := dfa1 a
      obtain ⟨p, ws, rfl, hp, ha⟩ := df_list b
      have e := asBools_v ha hn
      subst e
      exact ⟨_, rfl, fun Q q => ⟨p, ns, rfl, .of hp, q⟩⟩
    · cases hf
  · cases hf
theorem sc_any : Sc K fAny (rAny K) := fun H vs ds z a hf => by
  unfold fAny at hf
  split at hf
  · split at hf
    · rename_i ns hn
      cases hf
      obtain ⟨v, rfl, b⟩ := dfa1 a
      obtain ⟨p, ws, rfl, hp, ha⟩ := df_list b
      have e := asBools_v ha hn
      subst e
      exact ⟨_, rfl, fun Q q => ⟨p, ns, rfl, .of hp, q⟩⟩
    · cases hf
  · cases hf
/-- int(..) -/
def fInt : List PyData → Option PyData
  | [.int i] => some (.int i)
  | [.bool k] => some (.int (if k then 1 else 0))
  | [.str x] => (match intText? x with
    | some n => if x.length ≤ 640 then some (.int n) else none
    | none => none)
  | _ => none
def rIntA : List V → Hp → VK → Prop := fun xs H Q => ((∃ i, xs = [.int i] ∧ Q (.int i) H) ∨ ∃ k, xs = [.bl k] ∧ Q (.int (if k then 1 else 0)) H) ∨ ∃ a n, xs = [V.str a] ∧ intText? a = some n ∧ a.length ≤ 640 ∧ Q (V.int n) H
theorem call_intA : CallR X (.type "int") rIntA := callr_or call_int1 call_int_str
theorem sc_int : Sc K fInt rIntA := fun H vs ds z a hf => by
  unfold fInt at hf
  split at hf
  · cases hf
    obtain ⟨v, rfl, b⟩ := dfa1 a
    obtain rfl := df_int b
    exact ⟨_, rfl, fun Q q => .inl (.inl ⟨_, rfl, q⟩)⟩
  · cases hf
    obtain ⟨v, rfl, b⟩ := dfa1 a
    obtain rfl := df_bool b
    exact ⟨_, rfl, fun Q q => .inl (.inr ⟨_, rfl, q⟩)⟩
  · split at hf
    · rename_i n hn
      split at hf
      · rename_i hl
        cases hf
        obtain ⟨v, rfl, b⟩ := dfa1 a
        obtain rfl := df_str b
        exact ⟨_, rfl, fun Q q => .inr ⟨_, n, rfl, hn, hl, q⟩⟩
      · cases hf
    · cases hf
  · cases hf
noncomputable def fStr := fI1 fun i => if shut (decide (i.natAbs.log2 < 1920)) = true then some (.str (toString i)) else none
theorem sc_str : Sc K fStr (fun xs H Q => ∃ i, xs = [.int i] ∧ i.natAbs.log2 < 1920 ∧ Q (.str (toString i)) H) := fun H vs ds z a hf => by
  obtain ⟨i, rfl, hz⟩ := fI1_some hf
  split at hz
  · rename_i hl
    rw [shut_eq, decide_eq_true_eq] at hl
    cases hz
    obtain ⟨v, rfl, b⟩ := dfa1 a
    obtain rfl := df_int b
    exact ⟨_, rfl, fun Q q => ⟨i, rfl, hl, q⟩⟩
  · cases hz
section
variable {e : Expr} {es : List Expr} {p : Bool} {ms : MD (List O)} {f : List PyData → Option PyData} {g : List O → Option O} {r : List V → Hp → VK → Prop} {id T : String} {x : Str} {p1 pos : Pos}
theorem d_callB (hc : CallR X (.builtin id) r) (hs : Sc X.K f r) (hg : Gl X x) (hm : X.mg x = none) (hv : bootBuiltins x = some (.builtin id)) (ha : PA X (e :: es) (denL X.K p ms)) (hn : x ≠ "__name__" := by decide) (hdb : (x == ("__debug__" : Str)) = false := by decide)
    (he : starEach (e :: es) X.env = (false, eval e X.env) :: starEach es X.env := by rfl) (hpl : (backTo pos (starEach es X.env)).any (·.1) = false := by rfl) : PE X (.Call (.Name x p1) (e :: es) [] pos) (den X.K p (mL f ms)) :=
  pe_imp (pe_callB hc hg hm hv ha hn hdb he hpl) (mL_den hs fun _ _ _ h => h)
theorem d_callTy (hc : CallR X (.type T) r) (hs : Sc X.K f r) (hg : Gl X x) (hm : X.mg x = none) (hv : bootBuiltins x = some (.type T)) (ha : PA X (e :: es) (denL X.K p ms)) (hn : x ≠ "__name__" := by decide) (hdb : (x == ("__debug__" : Str)) = false := by decide)
    (he : starEach (e :: es) X.env = (false, eval e X.env) :: starEach es X.env := by rfl) (hpl : (backTo pos (starEach es X.env)).any (·.1) = false := by rfl) : PE X (.Call (.Name x p1) (e :: es) [] pos) (den X.K p (mL f ms)) :=
  pe_imp (pe_callTy hc hg hm hv ha hn hdb he hpl) (mL_den hs fun _ _ _ h => h)
theorem d_callTyA (hc : CallR X (.type T) r) (hs : Al X.K g r) (hg : Gl X x) (hm : X.mg x = none) (hv : bootBuiltins x = some (.type T)) (ha : PA X (e :: es) (denA X.K p ms)) (hn : x ≠ "__name__" := by decide) (hdb : (x == ("__debug__" : Str)) = false := by decide)
    (he : starEach (e :: es) X.env = (false, eval e X.env) :: starEach es X.env := by rfl) (hpl : (backTo pos (starEach es X.env)).any (·.1) = false := by rfl) : PE X (.Call (.Name x p1) (e :: es) [] pos) (den X.K p (mA g ms)) :=
  pe_imp (pe_callTy hc hg hm hv ha hn hdb he hpl) (mA_den hs fun _ _ _ h => h)
theorem d_callBA (hc : CallR X (.builtin id) r) (hs : Al X.K g r) (hg : Gl X x) (hm : X.mg x = none) (hv : bootBuiltins x = some (.builtin id)) (ha : PA X (e :: es) (denA X.K p ms)) (hn : x ≠ "__name__" := by decide) (hdb : (x == ("__debug__" : Str)) = false := by decide)
    (he : starEach (e :: es) X.env = (false, eval e X.env) :: starEach es X.env := by rfl) (hpl : (backTo pos (starEach es X.env)).any (·.1) = false := by rfl) : PE X (.Call (.Name x p1) (e :: es) [] pos) (den X.K p (mA g ms)) :=
  pe_imp (pe_callB hc hg hm hv ha hn hdb he hpl) (mA_den hs fun _ _ _ h => h)
end
end
end Dn

set_option Elab.async false
set_option linter.all false
set_option maxRecDepth 100000
set_option maxHeartbeats 4000000
namespace Dn
open PySem L2

section
variable {K : PySem.W.Frag} {X : Cx}
theorem ws1 {ws : Ws} {x : O} (h : ws.map (·.2) = [x]) : ∃ v, ws = [(v, x)] := by
  match ws, h with
  | [(v, y)], h => simp only [List.map_cons, List.map_nil, List.cons.injEq, and_true] at h; exact ⟨v, by rw [h]⟩
theorem ws2 {ws : Ws} {x y : O} (h : ws.map (·.2) = [x, y]) : ∃ v u, ws = [(v, x), (u, y)] := by
  match ws, h with
  | [(v, a), (u, b)], h => simp only [List.map_cons, List.map_nil, List.cons.injEq, and_true] at h; exact ⟨v, u, by rw [h.1, h.2]⟩
/-! ### + -/
def addO : List O → Option O
  | [.v (.int i), .v (.int j)] => some (.v (.int (i + j)))
  | [.v (.str a), .v (.str b)] => if a.length + b.length ≤ sizeLine then some (.v (.str (a ++ b))) else none
  | [x, y] => (match x.lparts, y.lparts with
    | some xs, some ys => if xs.length + ys.length ≤ sizeLine then some (.l (xs ++ ys)) else none
    | _, _ => (match x.tparts, y.tparts with
      | some (a :: xs), some (b :: ys) => if (a :: xs).length + (b :: ys).length ≤ sizeLine then tupO ((a :: xs) ++ (b :: ys)) else none
      | some (_ :: as), some [] => if as.length < sizeLine then some x else none
      | _, _ => none))
  | _ => none
theorem rp_tupAt {F H : Hp} {v : V} {x : O} {T : List Addr} {os : List O} (fh : Same F H) (r : Rp K F H v x T) (h : x.tparts = some os) : ∃ p vs, v = .ref p ∧ H p = some (.tup vs) ∧ vs.length = os.length := by
  cases x with
  | v d =>
    cases d with
    | tuple ds =>
      cases h
      cases r with
      | v hd =>
        cases hd with
        | tup hp ha => exact ⟨_, _, rfl, fh _ _ hp, by rw [List.length_map]; exact dfa_len ha⟩
    | _ => cases h
  | t xs =>
    cases h
    cases r with
    | t hp e1 e2 rl => exact ⟨_, _, rfl, hp, by rw [e1, e2, List.length_map, List.length_map]⟩
  | _ => cases h
def rAddA (K : PySem.W.Frag) : R2 := fun x y H Q => rI0 (fun i j => .int (i + j)) x y H Q ∨ (∃ i j, x = V.str i ∧ y = V.str j ∧ i.length + j.length ≤ sizeLine ∧ Q (V.str (i ++ j)) H) ∨ rCat x y H Q ∨ rCatT K x y H Q
theorem op_addA : OpR X (binaryOp .Add) (rAddA X.K) := opr_or op_add (opr_or op_add_str (opr_or op_cat op_catT))
theorem al_add : Al K addO (r2 (rAddA K)) := fun B F H σ e G ws x Q s hx k => by
  unfold addO at hx
  split at hx
  · rename_i i j hw
    cases hx
    obtain ⟨v, u, rfl⟩ := ws2 hw
    obtain ⟨_, r1⟩ := s.at
    obtain ⟨_, r2⟩ := s.pop.at
    cases r1 with
    | v h1 =>
      cases r2 with
      | v h2 =>
        obtain rfl := df_int h1
        obtain rfl := df_int h2
        exact .inl ⟨i, j, rfl, rfl, k F H _ (s.pop.pop.push (.int _)) (.refl _)⟩
  · rename_i a b hw
    split at hx
    · rename_i hl
      cases hx
      obtain ⟨v, u, rfl⟩ := ws2 hw
      obtain ⟨_, r1⟩ := s.at
      obtain ⟨_, r2⟩ := s.pop.at
      cases r1 with
      | v h1 =>
        cases r2 with
        | v h2 =>
          obtain rfl := df_str h1
          obtain rfl := df_str h2
          exact .inr (.inl ⟨a, b, rfl, rfl, hl, k F H _ (s.pop.pop.push (.str _)) (.refl _)⟩)
    · cases hx
  · rename_i y z _ _ hw
    obtain ⟨v, u, rfl⟩ := ws2 hw
    split at hx
    · rename_i xs ys h1 h2
      split at hx
      · rename_i hl
        cases hx
        obtain ⟨p, w1, F1, rfl, e1, e2, e3, s1⟩ := Sta.openL (G := (u, z) :: G) s h1
        obtain ⟨q, w2, F2, rfl, e1', e2', e3', s2⟩ := Sta.openL (s1.perm (mid _ _ _)) h2
        subst e2
        subst e2'
        rw [List.length_map, List.length_map] at hl
        refine .inr (.inr (.inl ⟨p, q, _, _, rfl, rfl, s2.fh _ _ (e3' _ _ e1), s2.fh _ _ e1', by rw [List.length_map, List.length_map]; exact hl, fun t ht => ?_⟩))
        have s3 : Sta K B F2 H σ e ((w1 ++ w2) ++ G) := s2.perm (by
          rw [List.append_assoc]
          exact pmid _ _ _)
        have s4 := s3.newL ht
        rw [List.map_append, List.map_append] at s4
        exact k F2 _ _ s4 (same_upd ht)
      · cases hx
    · split at hx
      · rename_i a xs b ys h1 h2
        split at hx
        · rename_i hl
          obtain ⟨p, w1, F1, rfl, e1, e2, e3, s1⟩ := Sta.openT (G := (u, z) :: G) s h1
          obtain ⟨q, w2, F2, rfl, e1', e2', e3', s2⟩ := Sta.openT (s1.perm (mid _ _ _)) h2
          have hl1 : w1.length = (a :: xs).length := by rw [← e2, List.length_map]
          have hl2 : w2.length = (b :: ys).length := by rw [← e2', List.length_map]
          have n1 : w1.map (·.1) ≠ [] := fun z => by
            have := congrArg List.length z
            rw [List.length_map, hl1] at this
            simp at this
          have n2 : w2.map (·.1) ≠ [] := fun z => by
            have := congrArg List.length z
            rw [List.length_map, hl2] at this
            simp at this
          have s3 : Sta K B F2 H σ e ((w1 ++ w2) ++ G) := s2.perm (by
            rw [List.append_assoc]
            exact pmid _ _ _)
          refine .inr (.inr (.inr ⟨p, q, _, _, rfl, rfl, .of (s2.fh _ _ (e3' _ _ e1)), .of (s2.fh _ _ e1'), n1, by rw [List.length_map, List.length_map, hl1, hl2]; exact hl, fun z => absurd z n2, fun _ t ht => ?_⟩))
          have := al_tup B F2 H σ e G (w1 ++ w2) x Q s3 (by rw [List.map_append, e2, e2']; exact hx) k
          rw [← List.map_append]
          exact this.2 t ht
        · cases hx
      · rename_i a as h1 h2
        split at hx
        · rename_i hl
          cases hx
          obtain ⟨_, r1⟩ := s.at
          obtain ⟨_, r2⟩ := s.pop.at
          obtain ⟨p, vs, rfl, hp, hpl⟩ := rp_tupAt s.fh r1 h1
          obtain ⟨q, us, rfl, hq, hql⟩ := rp_tupAt s.fh r2 h2
          have hu : us = [] := List.length_eq_zero_iff.mp hql
          subst hu
          refine .inr (.inr (.inr ⟨p, q, _, _, rfl, rfl, .of hp, .of hq, fun z => ?_, ?_, fun _ => k F H _ (Sta.pop (s.perm (.swap _ _ _))) (.refl _), fun z => absurd rfl z⟩))
          · rw [z] at hpl; simp at hpl
          · rw [hpl]; simp; omega
        · cases hx
      · cases hx
  · cases hx
theorem d_add {a b : Expr} {ta tb : TE} {p : Bool} {ms : MD (List O)} {pos : Pos} (ha : PE X a ta) (hb : PE X b tb) (hl : AS X.K p ms (tCons ta (tCons tb tNil))) : PE X (.BinOp a .Add b pos) (den X.K p (mA addO ms)) :=
  pe_imp (pe_op op_addA ha hb) (mA_den (r := r2 (rAddA X.K)) al_add hl)

/-! ### an item -/
def mLk (f : List O → Option PyData) (ms : MD (List O)) : MD O := fun e => match ms e with
  | some (xs, e1) => (match f xs with
    | some z => some (.v z, e1)
    | none => none)
  | none => none
def La (K : PySem.W.Frag) (f : List O → Option PyData) (r : List V → Hp → VK → Prop) : Prop :=
  ∀ F H vs xs z, Same F H → RpA K F H vs xs → f xs = some z → ∃ v, Df K F v z ∧ ∀ Q : VK, Q v H → r vs H Q
theorem mLk_den {p : Bool} {f : List O → Option PyData} {ms : MD (List O)} {r : List V → Hp → VK → Prop} {t : TA} (hr : La K f r) (hl : LS K p ms t) : ∀ σ H Q, den K p (mLk f ms) σ H Q → tCB r t σ H Q := fun σ H Q ⟨B, F, e, G, y, e', s, hm, k⟩ => by
  unfold mLk at hm
  split at hm
  · rename_i xs e1 h1
    split at hm
    · rename_i z h3
      obtain ⟨rfl, rfl⟩ := so hm
      refine hl σ H _ ⟨B, F, e, G, xs, e1, s, h1, fun F1 H1 vs s1 r1 sm1 => ?_⟩
      obtain ⟨v, hz, q⟩ := hr F1 H1 vs xs z s1.fh r1 h3
      exact q Q (k F1 H1 v (s1.push hz) sm1)
    · cases hm
  · cases hm
def ixO : List O → Option PyData
  | [.v (.list ds), .v (.int i)] => atI ds i
  | [.v (.tuple ds), .v (.int i)] => atI ds i
  | [.v (.str z), .v (.int i)] => if z.length ≤ sizeLine then (match atI z.cps.toList i with
    | some c => some (.str ⟨#[c]⟩)
    | none => none) else none
  | [.l os, .v (.int i)] => (match atI os i with
    | some (.v d) => some d
    | _ => none)
  | [.t os, .v (.int i)] => (match atI os i with
    | some (.v d) => some d
    | _ => none)
  | _ => none
theorem dfa_get {F : Hp} : ∀ {vs : List V} {ds : List PyData} {j : Nat} {d : PyData}, DfAll K F vs ds → ds[j]? = some d → ∃ v, vs[j]? = some v ∧ Df K F v d
  | _, _, j, _, .nil, h => by simp at h
  | _, _, 0, _, .cons a t, h => by simp at h; subst h; exact ⟨_, rfl, a⟩
  | _, _, j + 1, _, .cons a t, h => by
    obtain ⟨v, h1, h2⟩ := dfa_get (j := j) t (by simpa using h)
    exact ⟨v, by simpa using h1, h2⟩
theorem rpl_get {F H : Hp} : ∀ {ws : Ws} {T : List Addr} {j : Nat} {w : V × O}, RpL K F H ws T → ws[j]? = some w → ∃ T', Rp K F H w.1 w.2 T'
  | _, _, j, _, .nil, h => by simp at h
  | _, _, 0, _, .cons a t, h => by simp at h; subst h; exact ⟨_, a⟩
  | _, _, j + 1, _, .cons a t, h => rpl_get (j := j) t (by simpa using h)
theorem atI_some {α : Type} {xs : List α} {i : Int} {x : α} (h : atI xs i = some x) : ∃ j, ixN xs.length i = some j ∧ xs[j]? = some x := by
  unfold atI at h
  obtain ⟨j, h1, h2⟩ := Option.bind_eq_some_iff.mp h
  exact ⟨j, h1, h2⟩
theorem atI_of {α : Type} {xs : List α} {i : Int} {x : α} {j : Nat} (h1 : ixN xs.length i = some j) (h2 : xs[j]? = some x) : atI xs i = some x := by
  unfold atI
  rw [h1]
  exact h2
theorem rpa2 {F H : Hp} {vs : List V} {x y : O} (h : RpA K F H vs [x, y]) : ∃ v u T T', vs = [v, u] ∧ Rp K F H v x T ∧ Rp K F H u y T' := by
  cases h with
  | cons a t =>
    cases t with
    | cons b t => cases t; exact ⟨_, _, _, _, rfl, a, b⟩
theorem rpa1 {F H : Hp} {vs : List V} {x : O} (h : RpA K F H vs [x]) : ∃ v T, vs = [v] ∧ Rp K F H v x T := by
  cases h with
  | cons a t => cases t; exact ⟨_, _, rfl, a⟩
theorem rp_v {F H : Hp} {v : V} {d : PyData} {T : List Addr} (h : Rp K F H v (.v d) T) : Df K F v d := by
  cases h with
  | v a => exact a
theorem rp_int {F H : Hp} {v : V} {i : Int} {T : List Addr} (h : Rp K F H v (.v (.int i)) T) : v = .int i := by
  cases h with
  | v a => exact df_int a
theorem la_ix : La K ixO (r2 (rIx K)) := fun F H vs xs z fh ra hf => by
  unfold ixO at hf
  split at hf
  · obtain ⟨v, u, T, T', rfl, a, b⟩ := rpa2 ra
    obtain rfl := rp_int b
    cases a with
    | v h =>
      obtain ⟨p, ws, rfl, hp, ha⟩ := df_list h
      obtain ⟨j, h1, h2⟩ := atI_some hf
      obtain ⟨y, h3, h4⟩ := dfa_get ha h2
      exact ⟨y, h4, fun Q q => .inl ⟨p, ws, _, y, rfl, rfl, .of (fh _ _ hp), atI_of (by rw [dfa_len ha]; exact h1) h3, q⟩⟩
  · obtain ⟨v, u, T, T', rfl, a, b⟩ := rpa2 ra
    obtain rfl := rp_int b
    cases a with
    | v h =>
      obtain ⟨p, ws, rfl, hp, ha⟩ := df_tuple h
      obtain ⟨j, h1, h2⟩ := atI_some hf
      obtain ⟨y, h3, h4⟩ := dfa_get ha h2
      exact ⟨y, h4, fun Q q => .inr (.inl ⟨p, ws, _, y, rfl, rfl, .of (fh _ _ hp), atI_of (by rw [dfa_len ha]; exact h1) h3, q⟩)⟩
  · split at hf
    · rename_i hl
      split at hf
      · rename_i c hc
        cases hf
        obtain ⟨v, u, T, T', rfl, a, b⟩ := rpa2 ra
        obtain rfl := rp_int b
        cases a with
        | v h =>
          obtain rfl := df_str h
          exact ⟨_, .str _, fun Q q => .inr (.inr ⟨_, _, c, rfl, rfl, hl, hc, q⟩)⟩
      · cases hf
    · cases hf
  · split at hf
    · rename_i d hd
      cases hf
      obtain ⟨v, u, T, T', rfl, a, b⟩ := rpa2 ra
      obtain rfl := rp_int b
      cases a with
      | l hp e1 e2 rl =>
        rename_i p vs ws T0
        obtain ⟨j, h1, h2⟩ := atI_some hd
        subst e2
        rw [List.getElem?_map] at h2
        obtain ⟨w, h3, h4⟩ := Option.map_eq_some_iff.mp h2
        obtain ⟨T2, r⟩ := rpl_get rl h3
        rw [h4] at r
        refine ⟨_, rp_v r, fun Q q => .inl ⟨p, _, _, w.1, rfl, rfl, .of hp, atI_of (j := j) ?_ ?_, q⟩⟩
        · rw [List.length_map] at h1
          rw [e1, List.length_map]; exact h1
        · rw [e1, List.getElem?_map, h3]; rfl
    · cases hf
  · split at hf
    · rename_i d hd
      cases hf
      obtain ⟨v, u, T, T', rfl, a, b⟩ := rpa2 ra
      obtain rfl := rp_int b
      cases a with
      | t hp e1 e2 rl =>
        rename_i p vs ws T0
        obtain ⟨j, h1, h2⟩ := atI_some hd
        subst e2
        rw [List.getElem?_map] at h2
        obtain ⟨w, h3, h4⟩ := Option.map_eq_some_iff.mp h2
        obtain ⟨T2, r⟩ := rpl_get rl h3
        rw [h4] at r
        refine ⟨_, rp_v r, fun Q q => .inr (.inl ⟨p, _, _, w.1, rfl, rfl, .of hp, atI_of (j := j) ?_ ?_, q⟩)⟩
        · rw [List.length_map] at h1
          rw [e1, List.length_map]; exact h1
        · rw [e1, List.getElem?_map, h3]; rfl
    · cases hf
  · cases hf
theorem d_ix {a b : Expr} {ta tb : TE} {p : Bool} {ms : MD (List O)} {pos : Pos} (ha : PE X a ta) (hb : PE X b tb) (hs : PlainIx b) (hl : LS X.K p ms (tCons ta (tCons tb tNil))) : PE X (.Subscript a b pos) (den X.K p (mLk ixO ms)) :=
  pe_imp (pe_ix ix_seq ha hb hs) (mLk_den (r := r2 (rIx X.K)) la_ix hl)

/-! ### list(..), tuple(..) -/
def listO : List O → Option O
  | [x] => (match x.lparts with
    | some xs => if xs.length ≤ sizeLine then some (.l xs) else none
    | none => (match x.tparts with
      | some xs => if xs.length ≤ sizeLine then some (.l xs) else none
      | none => none))
  | _ => none
def tupleO : List O → Option O
  | [x] => (match x.lparts with
    | some xs => tupO xs
    | none => none)
  | _ => none
theorem al_list : Al K listO (fun xs H Q => ∃ p ys, xs = [.ref p] ∧ (SqL K H p ys ∨ SqT K H p ys) ∧ ∀ l, H l = none → Q (.ref l) (upd H l (.lst ys))) := fun B F H σ e G ws x Q s hx k => by
  unfold listO at hx
  split at hx
  · rename_i y hw
    obtain ⟨v, rfl⟩ := ws1 hw
    split at hx
    · rename_i xs h1
      split at hx
      · cases hx
        obtain ⟨p, w1, F1, rfl, e1, e2, e3, s1⟩ := Sta.openL s h1
        subst e2
        exact ⟨p, _, rfl, .inl (.of (s1.fh _ _ e1)), fun l hl => k F1 _ _ (s1.newL hl) (same_upd hl)⟩
      · cases hx
    · split at hx
      · rename_i xs h1
        split at hx
        · cases hx
          obtain ⟨p, w1, F1, rfl, e1, e2, e3, s1⟩ := Sta.openT s h1
          subst e2
          exact ⟨p, _, rfl, .inr (.of (s1.fh _ _ e1)), fun l hl => k F1 _ _ (s1.newL hl) (same_upd hl)⟩
        · cases hx
      · cases hx
  · cases hx
theorem al_tuple : Al K tupleO (fun xs H Q => ∃ p ys, xs = [.ref p] ∧ ((SqL K H p ys ∧ ∀ l, H l = none → Q (.ref l) (upd H l (.tup ys))) ∨ (SqT K H p ys ∧ Q (.ref p) H))) := fun B F H σ e G ws x Q s hx k => by
  unfold tupleO at hx
  split at hx
  · rename_i y hw
    obtain ⟨v, rfl⟩ := ws1 hw
    split at hx
    · rename_i xs h1
      obtain ⟨p, w1, F1, rfl, e1, e2, e3, s1⟩ := Sta.openL s h1
      subst e2
      exact ⟨p, _, rfl, .inl ⟨.of (s1.fh _ _ e1), (al_tup B F1 H σ e G w1 x Q s1 hx k).2⟩⟩
    · cases hx
  · cases hx

/-! ### slices -/
abbrev MO := MD (Option Int)
def oNone : MO := fun e => some (none, e)
def oSome (m : MD O) : MO := fun e => match m e with
  | some (.v (.int i), e1) => some (some i, e1)
  | _ => none
def denO (K : PySem.W.Frag) (a : Bool) (m : MO) : TO := fun σ H Q => ∃ B F e G x e', Sta K B F H σ e G ∧ m e = some (x, e') ∧ ∀ F' H', Sta K B F' H' σ e' G → (a = true → Same H H') → Q x H'
theorem po_imp {e : Option Expr} {t u : TO} (h : PO X e t) (k : ∀ σ H Q, u σ H Q → t σ H Q) : PO X e u := ⟨fun pins s σ H Q I q => h.run pins s σ H Q I (k _ _ _ q)⟩
theorem do_none : PO X none (denO X.K true oNone) := po_imp po_none fun σ H Q ⟨B, F, e, G, x, e', s, hm, k⟩ => by
  cases hm
  exact k F H s fun _ => .refl _
theorem do_some {e : Expr} {p : Bool} {m : MD O} (h : PE X e (den X.K p m)) : PO X (some e) (denO X.K p (oSome m)) := po_imp (po_some h) fun σ H Q ⟨B, F, e, G, x, e', s, hm, k⟩ => by
  unfold oSome at hm
  split at hm
  · rename_i i e1 h1
    obtain ⟨rfl, rfl⟩ := so hm
    refine ⟨B, F, e, G, _, e1, s, h1, fun F1 H1 v s1 sm => ?_⟩
    obtain ⟨T, r⟩ := s1.at
    obtain rfl := rp_int r
    exact ⟨i, rfl, k F1 H1 s1.pop sm⟩
  · cases hm
def cutG {α : Type} (xs : List α) (lo hi : Option Int) : List α := (xs.drop (HT.sIx xs.length 0 lo)).take (HT.sIx xs.length xs.length hi - HT.sIx xs.length 0 lo)
theorem cutV_map {α : Type} (f : α → V) (xs : List α) (lo hi : Option Int) : cutV (xs.map f) lo hi = (cutG xs lo hi).map f := by
  unfold cutV cutG
  rw [List.length_map, List.map_take, List.map_drop]
theorem cutG_map {α β : Type} (f : α → β) (xs : List α) (lo hi : Option Int) : cutG (xs.map f) lo hi = (cutG xs lo hi).map f := by
  unfold cutG
  rw [List.length_map, List.map_take, List.map_drop]
theorem cut_perm {α : Type} (xs : List α) (lo hi : Option Int) : ∃ r, xs.Perm (r ++ cutG xs lo hi) := by
  unfold cutG
  generalize HT.sIx xs.length 0 lo = a
  generalize HT.sIx xs.length xs.length hi - a = b
  refine ⟨xs.take a ++ (xs.drop a).drop b, ?_⟩
  have h1 : xs = xs.take a ++ ((xs.drop a).take b ++ (xs.drop a).drop b) := by rw [List.take_append_drop, List.take_append_drop]
  rw [List.append_assoc]
  conv => lhs; rw [h1]
  exact List.Perm.append_left _ List.perm_append_comm
def slO (x : O) (lo hi : Option Int) : Option O := match x with
  | .s ns => some (.l ((cutG ns lo hi).map fun n => .v (.int n)))
  | .v (.str z) => if z.length ≤ sizeLine then some (.v (.str (cutS z lo hi))) else none
  | x => (match x.lparts with
    | some xs => some (.l (cutG xs lo hi))
    | none => (match x.tparts with
      | some xs => if HT.sIx xs.length 0 lo = 0 ∧ HT.sIx xs.length xs.length hi = xs.length then none else tupO (cutG xs lo hi)
      | none => none))
def mSl (m : MD O) (lo hi : MO) : MD O := fun e => match m e with
  | some (x, e1) => (match lo e1 with
    | some (a, e2) => (match hi e2 with
      | some (b, e3) => (match slO x a b with
        | some y => some (y, e3)
        | none => none)
      | none => none)
    | none => none)
  | none => none
def rSlA (K : PySem.W.Frag) : V → Option Int → Option Int → Hp → VK → Prop := fun x lo hi H Q => rSlL K x lo hi H Q ∨ rSlS x lo hi H Q ∨ rSlT K x lo hi H Q
theorem slr_or {r r' : V → Option Int → Option Int → Hp → VK → Prop} (h : SlR X r) (h' : SlR X r') : SlR X (fun x lo hi H Q => r x lo hi H Q ∨ r' x lo hi H Q) := by
  intro pins s σ H x v vl vu lo hi sl Q I rx hs pl pu q
  rcases q with q | q
  · exact h pins s σ H x v vl vu lo hi sl Q I rx hs pl pu q
  · exact h' pins s σ H x v vl vu lo hi sl Q I rx hs pl pu q
theorem sl_A : SlR X (rSlA X.K) := slr_or sl_list (slr_or sl_str sl_tup)
theorem Sta.ints {B : Bs} {F H : Hp} {σ : St} {e : En} {G : Ws} (s : Sta K B F H σ e G) : ∀ ns : List Int, Sta K B F H σ e (ns.map (fun n => (V.int n, O.v (.int n))) ++ G)
  | [] => s
  | n :: ns => (s.ints ns).push (.int n)
theorem sl_run {B : Bs} {F H : Hp} {σ : St} {e : En} {G : Ws} {v : V} {x y : O} {lo hi : Option Int} {Q : VK} (s : Sta K B F H σ e ((v, x) :: G)) (hx : slO x lo hi = some y)
    (k : ∀ F' H' v, Sta K B F' H' σ e ((v, y) :: G) → Same H H' → Q v H') : rSlA K v lo hi H Q := by
  have gen : ∀ (hx : (match x.lparts with
    | some xs => some (O.l (cutG xs lo hi))
    | none => (match x.tparts with
      | some xs => if HT.sIx xs.length 0 lo = 0 ∧ HT.sIx xs.length xs.length hi = xs.length then none else tupO (cutG xs lo hi)
      | none => none)) = some y), rSlA K v lo hi H Q := fun hx => by
    split at hx
    · rename_i xs h1
      cases hx
      obtain ⟨p, w1, F1, rfl, e1, e2, e3, s1⟩ := Sta.openL s h1
      subst e2
      refine .inl ⟨p, _, rfl, .of (s1.fh _ _ e1), fun l hl => ?_⟩
      obtain ⟨r, pr⟩ := cut_perm w1 lo hi
      have s2 : Sta K B F1 H σ e (cutG w1 lo hi ++ G) := by
        refine ⟨s1.ok, ?_⟩
        have q := s1.rel.perm (pmid w1 _ _)
        have q2 := q.perm (pr.append_right _)
        rw [List.append_assoc] at q2
        exact q2.drop.perm (pmid _ _ _).symm
      rw [cutV_map, cutG_map] at *
      exact k F1 _ _ (s2.newL hl) (same_upd hl)
    · split at hx
      · rename_i xs h1
        split at hx
        · cases hx
        · rename_i hn
          obtain ⟨p, w1, F1, rfl, e1, e2, e3, s1⟩ := Sta.openT s h1
          subst e2
          rw [List.length_map] at hn
          refine .inr (.inr ⟨p, _, rfl, .of (s1.fh _ _ e1), by rw [List.length_map]; exact hn, fun l hl => ?_⟩)
          obtain ⟨r, pr⟩ := cut_perm w1 lo hi
          have s2 : Sta K B F1 H σ e (cutG w1 lo hi ++ G) := by
            refine ⟨s1.ok, ?_⟩
            have q := s1.rel.perm (pmid w1 _ _)
            have q2 := q.perm (pr.append_right _)
            rw [List.append_assoc] at q2
            exact q2.drop.perm (pmid _ _ _).symm
          rw [cutV_map]
          rw [cutG_map] at hx
          exact (al_tup B F1 H σ e G _ y Q s2 hx k).2 l hl
      · cases hx
  unfold slO at hx
  split at hx
  · rename_i ns
    cases hx
    obtain ⟨T, r⟩ := s.at
    cases r with
    | s h =>
      refine .inl ⟨_, _, rfl, sql_mono s.fh h, fun l hl => ?_⟩
      have s1 := (s.pop.ints (cutG ns lo hi)).newL (p := l) (w := (cutG ns lo hi).map (fun n => (V.int n, O.v (.int n)))) hl
      rw [List.map_map, List.map_map] at s1
      rw [cutV_map]
      exact k F _ _ s1 (same_upd hl)
  · split at hx
    · rename_i hl
      cases hx
      obtain ⟨T, r⟩ := s.at
      cases r with
      | v h =>
        obtain rfl := df_str h
        exact .inr (.inl ⟨_, rfl, hl, k F H _ (s.pop.push (.str _)) (.refl _)⟩)
    · cases hx
  · exact gen hx
theorem d_sl {e : Expr} {lo hi : Option Expr} {p q r : Bool} {m : MD O} {ml mh : MO} {pos p2 : Pos} (he : PE X e (den X.K p m)) (hl : PO X lo (denO X.K q ml)) (hu : PO X hi (denO X.K r mh)) :
    PE X (.Subscript e (.Slice lo hi none p2) pos) (den X.K (p && (q && r)) (mSl m ml mh)) := pe_imp (pe_slice sl_A he hl hu) fun σ H Q ⟨B, F, e, G, x, e', s, hm, k⟩ => by
  unfold mSl at hm
  split at hm
  · rename_i y e1 h1
    split at hm
    · rename_i a e2 h2
      split at hm
      · rename_i b e3 h3
        split at hm
        · rename_i z h4
          obtain ⟨rfl, rfl⟩ := so hm
          refine ⟨B, F, e, G, y, e1, s, h1, fun F1 H1 v s1 sm1 => ⟨B, F1, e1, _, a, e2, s1, h2, fun F2 H2 s2 sm2 => ⟨B, F2, e2, _, b, e3, s2, h3, fun F3 H3 s3 sm3 => ?_⟩⟩⟩
          refine sl_run s3 h4 fun F4 H4 v4 s4 sm4 => k F4 H4 v4 s4 fun z => ?_
          cases p
          · cases z
          · cases q
            · cases z
            · cases r
              · cases z
              · exact (((sm1 rfl).trans (sm2 rfl)).trans (sm3 rfl)).trans sm4
        · cases hm
      · cases hm
    · cases hm
  · cases hm
end
end Dn

set_option Elab.async false
set_option linter.all false
set_option maxRecDepth 100000
set_option maxHeartbeats 4000000
namespace Dn
open PySem L2

/-! ### a list of one's own that changes -/
section
variable {K : PySem.W.Frag} {H0 F0 F H : Hp} {ws : Ws} {B : Bs} {σ : St} {e : En} {G : Ws}
theorem Rel.put {v : V} {xs : List O} (r : Rel K H0 F0 F H ((v, .l xs) :: ws)) : ∃ p w, v = .ref p ∧ H p = some (.lst (w.map (·.1))) ∧ w.map (·.2) = xs ∧
    ∀ w' rest, (w ++ ws).Perm (w' ++ rest) → Rel K H0 F0 F (upd H p (.lst (w'.map (·.1)))) ((.ref p, .l (w'.map (·.2))) :: rest) := by
  obtain ⟨T, rl, nd, hT⟩ := r.res
  cases rl with
  | cons a t =>
    cases a with
    | l hp e1 e2 rw =>
      rename_i T2 p vs w T1
      refine ⟨p, w, rfl, by rw [hp, e1], e2.symm, fun w' rest pm => ?_⟩
      have hpn := hT p (List.mem_append_left _ (List.mem_cons_self ..))
      rw [List.cons_append] at nd
      obtain ⟨np, nd2⟩ := List.nodup_cons.mp nd
      have m1 : RpL K F (upd H p (.lst (w'.map (·.1)))) (w ++ ws) (T1 ++ T2) := rpl_mono (Same.refl F) (rpl_append rw t) fun q hq => upd_ne fun z => np (z ▸ hq)
      obtain ⟨T', pT, m2⟩ := rpl_perm pm m1
      obtain ⟨Ta, Tb, rfl, ra, rb⟩ := rpl_split m2
      refine ⟨fun q o e => ?_, r.f0, r.fn, fun q o e => ?_, (p :: Ta) ++ Tb, .cons (.l upd_same rfl rfl ra) rb, ?_, fun q hq => ?_⟩
      · have : q ≠ p := fun z => by rw [z, hpn.2] at e; cases e
        rw [upd_ne this]
        exact r.h0 q o e
      · have : q ≠ p := fun z => by rw [z, hpn.1] at e; cases e
        rw [upd_ne this]
        exact r.fh q o e
      · rw [List.cons_append]
        exact List.nodup_cons.mpr ⟨fun z => np (pT.mem_iff.mpr z), pT.nodup_iff.mp nd2⟩
      · rcases List.mem_cons.mp hq with rfl | hq
        · exact hpn
        · have := pT.mem_iff.mpr hq
          exact hT q (by rw [List.cons_append]; exact List.mem_cons_of_mem _ this)
def Sl.like : Sl → O → Sl
  | .own _, o => .own o
  | .pin _, o => .pin o
  | .no, _ => .no
theorem Sta.put {i : Nat} {sl : Sl} {xs : List O} (s : Sta K B F H σ e G) (hi : e[i]? = some sl) (ho : sl.o? = some (.l xs)) : ∃ p w, σ[i]? = some (some (.ref p)) ∧ H p = some (.lst (w.map (·.1))) ∧ w.map (·.2) = xs ∧
    ∀ w' G', (w ++ G).Perm (w' ++ G') → Sta K B F (upd H p (.lst (w'.map (·.1)))) σ (e.set i (sl.like (.l (w'.map (·.2))))) G' := by
  obtain ⟨v, hv, s1⟩ := s.out hi ho
  obtain ⟨p, w, rfl, hp, hw, k⟩ := (s1.rel.perm (mid _ _ _)).put
  refine ⟨p, w, hv, hp, hw, fun w' G' pm => ?_⟩
  have r := k w' (slots σ (e.set i .no) ++ G') (by
    refine (pmid _ _ _).symm.trans ?_
    refine (List.Perm.append_left _ pm).trans ?_
    exact pmid _ _ _)
  have hl : i < e.length := (List.getElem?_eq_some_iff.mp hi).1
  have ok : SlOk B.vs σ (e.set i (sl.like (.l (w'.map (·.2))))) := by
    cases sl with
    | no => cases ho
    | own o => exact s.ok.own hi
    | pin o => exact s.ok.pin hi
  refine ⟨ok, r.perm ?_⟩
  have hlo : (sl.like (.l (w'.map (·.2)))).o? = some (.l (w'.map (·.2))) := by
    cases sl with
    | no => cases ho
    | own o => rfl
    | pin o => rfl
  exact ((slots_put hlo hl hv).append_right G').symm
end
/-- x.m(..), x a slot's list: what it becomes, what is told -/
def mUp (i : Nat) (ms : MD (List O)) (f : List O → List O → Option (List O × O)) : MD O := fun e => match bVar i e with
  | some (.l _) => (match ms e with
    | some (ys, e1) => (match e1[i]? with
      | some (.own (.l xs)) => (match f xs ys with
        | some (xs', y) => some (y, e1.set i (.own (.l xs')))
        | none => none)
      | some (.pin (.l xs)) => (match f xs ys with
        | some (xs', y) => some (y, e1.set i (.pin (.l xs')))
        | none => none)
      | _ => none)
    | none => none)
  | _ => none
/-- r does what f says -/
def Up (K : PySem.W.Frag) (f : List O → List O → Option (List O × O)) (r : V → List V → Hp → VK → Prop) : Prop :=
  ∀ (B : Bs) (F H : Hp) (σ : St) (e : En) (G ws : Ws) (i : Nat) (sl : Sl) (xs xs' : List O) (y : O) (Q : VK) (v0 : V), Sta K B F H σ e (ws ++ G) → e[i]? = some sl → sl.o? = some (.l xs) → f xs (ws.map (·.2)) = some (xs', y) → σ[i]? = some (some v0) →
    (∀ F' H' v, Sta K B F' H' σ (e.set i (sl.like (.l xs'))) ((v, y) :: G) → Q v H') → r v0 (ws.map (·.1)) H Q
section
variable {K : PySem.W.Frag} {X : Cx}
def uApp : List O → List O → Option (List O × O)
  | xs, [y] => if xs.length < sizeLine then some (xs ++ [y], .v .none) else none
  | _, _ => none
def uExt : List O → List O → Option (List O × O)
  | xs, [y] => (match y.lparts with
    | some ys => if xs.length + ys.length ≤ sizeLine then some (xs ++ ys, .v .none) else none
    | none => none)
  | _, _ => none
def uPop : List O → List O → Option (List O × O)
  | xs, [] => (match xs[xs.length - 1]? with
    | some y => some (xs.dropLast, y)
    | none => none)
  | _, _ => none
def uPop0 : List O → List O → Option (List O × O)
  | x :: xs, [.v (.int 0)] => some (xs, x)
  | _, _ => none
def uRev : List O → List O → Option (List O × O)
  | xs, [] => some (xs.reverse, .v .none)
  | _, _ => none
def uClear : List O → List O → Option (List O × O)
  | _, [] => some ([], .v .none)
  | _, _ => none
theorem up_app : Up K uApp rAppend := fun B F H σ e G ws i sl xs xs' y Q v0 s hi ho hf hv k => by
  unfold uApp at hf
  split at hf
  · rename_i z hw
    split at hf
    · rename_i hl
      cases hf
      obtain ⟨u, rfl⟩ := ws1 hw
      obtain ⟨p, w, hv', hp, rfl, q⟩ := s.put hi ho
      rw [hv] at hv'
      cases hv'
      rw [List.length_map] at hl
      have s1 := q (w ++ [(u, z)]) G (by rw [List.append_assoc])
      rw [List.map_append, List.map_append] at s1
      exact ⟨p, _, u, rfl, rfl, hp, by rw [List.length_map]; exact hl, k F _ .non (s1.push .non)⟩
    · cases hf
  · cases hf
theorem up_ext : Up K uExt rExtend := fun B F H σ e G ws i sl xs xs' y Q v0 s hi ho hf hv k => by
  unfold uExt at hf
  split at hf
  · rename_i z hw
    split at hf
    · rename_i ys hy
      split at hf
      · rename_i hl
        cases hf
        obtain ⟨u, rfl⟩ := ws1 hw
        obtain ⟨b, w2, F2, rfl, e1, e2, e3, s2⟩ := Sta.openL (G := G) s hy
        obtain ⟨p, w, hv', hp, rfl, q⟩ := s2.put hi ho
        rw [hv] at hv'
        cases hv'
        subst e2
        rw [List.length_map, List.length_map] at hl
        have s1 := q (w ++ w2) G (by rw [List.append_assoc])
        rw [List.map_append, List.map_append] at s1
        exact ⟨p, b, _, _, rfl, rfl, hp, s2.fh _ _ e1, by rw [List.length_map, List.length_map]; exact hl, k F2 _ .non (s1.push .non)⟩
      · cases hf
    · cases hf
  · cases hf
theorem up_rev : Up K uRev rReverse := fun B F H σ e G ws i sl xs xs' y Q v0 s hi ho hf hv k => by
  unfold uRev at hf
  split at hf
  · rename_i hw
    cases hf
    have : ws = [] := List.map_eq_nil_iff.mp hw
    subst this
    obtain ⟨p, w, hv', hp, rfl, q⟩ := s.put hi ho
    rw [hv] at hv'
    cases hv'
    have s1 := q w.reverse G ((List.reverse_perm w).symm.append_right _)
    rw [List.map_reverse, List.map_reverse] at s1
    exact ⟨p, _, rfl, rfl, hp, k F _ .non (s1.push .non)⟩
  · cases hf
theorem up_clear : Up K uClear rClear := fun B F H σ e G ws i sl xs xs' y Q v0 s hi ho hf hv k => by
  unfold uClear at hf
  split at hf
  · rename_i hw
    cases hf
    have : ws = [] := List.map_eq_nil_iff.mp hw
    subst this
    obtain ⟨p, w, hv', hp, rfl, q⟩ := s.put hi ho
    rw [hv] at hv'
    cases hv'
    have s1 := q [] (w ++ G) (.refl _)
    have s2 : Sta K B F _ σ _ G := ⟨s1.ok, (s1.rel.perm (pmid _ _ _)).drop⟩
    exact ⟨p, _, rfl, rfl, hp, k F _ .non (s2.push .non)⟩
  · cases hf
theorem up_pop : Up K uPop rPop := fun B F H σ e G ws i sl xs xs' y Q v0 s hi ho hf hv k => by
  unfold uPop at hf
  split at hf
  · rename_i hw
    split at hf
    · rename_i z hz
      cases hf
      have : ws = [] := List.map_eq_nil_iff.mp hw
      subst this
      obtain ⟨p, w, hv', hp, rfl, q⟩ := s.put hi ho
      rw [hv] at hv'
      cases hv'
      rw [List.length_map, List.getElem?_map] at hz
      obtain ⟨u, h1, h2⟩ := Option.map_eq_some_iff.mp hz
      have hw2 : w = w.dropLast ++ [u] := by
        have hne : w ≠ [] := fun z => by rw [z] at h1; simp at h1
        have := List.dropLast_concat_getLast hne
        rw [List.getLast_eq_getElem] at this
        have hl : w.length - 1 < w.length := by
          have : 0 < w.length := List.length_pos_iff.mpr hne
          omega
        rw [List.getElem?_eq_getElem hl] at h1
        rw [Option.some.inj h1] at this
        exact this.symm
      have s1 := q w.dropLast (u :: G) (by
        conv => lhs; rw [hw2]
        rw [List.append_assoc]
        exact .refl _)
      rw [List.map_dropLast, List.map_dropLast] at s1
      obtain ⟨u1, u2⟩ := u
      cases h2
      refine ⟨p, _, u1, rfl, rfl, hp, ?_, k F _ u1 s1⟩
      rw [List.length_map, List.getElem?_map, h1]
      rfl
    · cases hf
  · cases hf
theorem up_pop0 : Up K uPop0 rPopAt := fun B F H σ e G ws i sl xs xs' y Q v0 s hi ho hf hv k => by
  unfold uPop0 at hf
  split at hf
  · rename_i x xs'' hw
    cases hf
    obtain ⟨u, rfl⟩ := ws1 hw
    obtain ⟨T, r⟩ := s.at
    obtain rfl := rp_int r
    have s0 : Sta K B F H σ e G := s.pop
    obtain ⟨p, w, hv', hp, hw2, q⟩ := s0.put hi ho
    rw [hv] at hv'
    cases hv'
    match w, hw2 with
    | (a, b) :: w, hw2 =>
      simp only [List.map_cons, List.cons.injEq] at hw2
      obtain ⟨rfl, rfl⟩ := hw2
      have s1 := q w ((a, b) :: G) (by
        rw [List.cons_append]
        exact (mid _ _ _).symm)
      exact ⟨p, _, 0, 0, a, rfl, rfl, hp, by decide, by decide, by simp [seqIndex?], rfl, k F _ a s1⟩
  · cases hf
theorem mUp_den {p : Bool} {i : Nat} {ms : MD (List O)} {f : List O → List O → Option (List O × O)} {r : V → List V → Hp → VK → Prop} {t : TA} (hr : Up K f r) (hl : AS K p ms t) : ∀ σ H Q, den K false (mUp i ms f) σ H Q → tBM K "list" r (tVar i) t σ H Q := fun σ H Q ⟨B, F, e, G, y, e', s, hm, k⟩ => by
  unfold mUp at hm
  split at hm
  · rename_i os h0
    split at hm
    · rename_i ys e1 h1
      obtain ⟨sl0, hi0, ho0⟩ := Option.bind_eq_some_iff.mp h0
      obtain ⟨v, hv, T, rv⟩ := s.seeO hi0 ho0
      have ty : tyV K "list" v H := by
        cases rv with
        | l hp _ _ _ => exact .inl ⟨rfl, _, .of hp⟩
      refine ⟨v, hv, ty, hl σ H _ ⟨B, F, e, G, ys, e1, s, h1, fun F1 H1 ws s1 r1 sm1 => ?_⟩⟩
      subst r1
      split at hm
      · rename_i xs hx
        split at hm
        · rename_i xs' z hz
          obtain ⟨rfl, rfl⟩ := so hm
          exact hr B F1 H1 σ e1 G ws i _ xs xs' z Q v s1 hx rfl hz hv fun F2 H2 v2 s2 => k F2 H2 v2 s2 fun z => nomatch z
        · cases hm
      · rename_i xs hx
        split at hm
        · rename_i xs' z hz
          obtain ⟨rfl, rfl⟩ := so hm
          exact hr B F1 H1 σ e1 G ws i _ xs xs' z Q v s1 hx rfl hz hv fun F2 H2 v2 s2 => k F2 H2 v2 s2 fun z => nomatch z
        · cases hm
      · cases hm
    · cases hm
  · cases hm
theorem d_up {i : Nat} {p : Bool} {x : Expr} {ex : Expr} {es : List Expr} {ms : MD (List O)} {f : List O → List O → Option (List O × O)} {r : V → List V → Hp → VK → Prop} {name : Str} {id : String} {apos cpos : Pos} (slot : Slot "list" name id) (hty : typeOf (.builtin id) = pure (.type "method_descriptor")) (hm : MtR X id r) (hr : Up X.K f r)
    (ho : PE X x (tVar i)) (ha : PA X (ex :: es) (denA X.K p ms)) (hbase : attributeBase x name X.env (eval x X.env) = eval x X.env := by rfl)
    (hfew : ((backTo cpos (starEach (ex :: es) X.env)).all (fun x => !x.1) && (backToKw cpos (keywordEach [] X.env)).all (fun x => x.1.isSome)
      && decide ((ex :: es).length + ([] : List Keyword).length + (if ([] : List Keyword).isEmpty then 0 else 1) < 30)) = true := by rfl)
    (hline : (apos.endLine == cpos.line) = true := by rfl) (hs : starEach (ex :: es) X.env = (false, eval ex X.env) :: starEach es X.env := by rfl) (hplain : (backTo cpos (starEach es X.env)).any (·.1) = false := by rfl) :
    PE X (.Call (.Attribute x name apos) (ex :: es) [] cpos) (den X.K false (mUp i ms f)) :=
  pe_imp (pe_bm PySem.F.plainAttrs_list slot hty hm ho ha hbase hfew hline hs hplain) (mUp_den hr fun _ _ _ h => h)
theorem d_up0 {i : Nat} {x : Expr} {f : List O → List O → Option (List O × O)} {r : V → List V → Hp → VK → Prop} {name : Str} {id : String} {apos cpos : Pos} (slot : Slot "list" name id) (hty : typeOf (.builtin id) = pure (.type "method_descriptor")) (hm : MtR X id r) (hr : Up X.K f r)
    (ho : PE X x (tVar i)) (hbase : attributeBase x name X.env (eval x X.env) = eval x X.env := by rfl) (hline : (apos.endLine == cpos.line) = true := by rfl) :
    PE X (.Call (.Attribute x name apos) [] [] cpos) (den X.K false (mUp i aNil f)) :=
  pe_imp (pe_bm0 PySem.F.plainAttrs_list slot hty hm ho hbase hline) fun σ H Q h => mUp_den (t := tNil) hr as_nil σ H Q h
/-- xs[k] = e, xs a slot's list -/
def mSetI (i : Nat) (mv mk : MD O) : MS := fun e => match mv e with
  | some (y, e1) => (match bVar i e1 with
    | some (.l _) => (match mk e1 with
      | some (.v (.int k), e2) => (match e2[i]? with
        | some (.own (.l xs)) => (match ixN xs.length k with
          | some j => some (.nx (e2.set i (.own (.l (xs.set j y)))))
          | none => none)
        | some (.pin (.l xs)) => (match ixN xs.length k with
          | some j => some (.nx (e2.set i (.pin (.l (xs.set j y)))))
          | none => none)
        | _ => none)
      | _ => none)
    | _ => none)
  | none => none
theorem set_perm {α : Type} {w : List α} {j : Nat} {a b : α} {G : List α} (h : w[j]? = some a) : (w ++ (b :: G)).Perm (w.set j b ++ (a :: G)) := by
  have hj := (List.getElem?_eq_some_iff.mp h).1
  have e1 : w = w.take j ++ a :: w.drop (j + 1) := by
    have := List.take_append_drop j w
    rw [List.drop_eq_getElem_cons hj] at this
    rw [(List.getElem?_eq_some_iff.mp h).2] at this
    exact this.symm
  have e2 : w.set j b = w.take j ++ b :: w.drop (j + 1) := by
    rw [List.set_eq_take_append_cons_drop, if_pos hj]
  rw [e2]
  conv => lhs; rw [e1]
  rw [List.append_assoc, List.append_assoc, List.cons_append, List.cons_append]
  refine List.Perm.append_left _ ?_
  refine ((mid b _ G).cons a).trans ?_
  refine (List.Perm.swap _ _ _).trans ?_
  exact ((mid a _ G).symm).cons b
theorem setI_run {B : Bs} {F H : Hp} {σ : St} {e : En} {G : Ws} {i j : Nat} {sl : Sl} {xs : List O} {v v0 : V} {y : O} {k : Int} {Q : Hp → Prop} (s : Sta K B F H σ e ((v, y) :: G)) (hi : e[i]? = some sl) (ho : sl.o? = some (.l xs)) (hk : ixN xs.length k = some j) (hv : σ[i]? = some (some v0))
    (q : ∀ H', Sta K B F H' σ (e.set i (sl.like (.l (xs.set j y)))) G → Q H') : rSetL v0 (.int k) v H Q := by
  obtain ⟨p, w, hv', hp, rfl, q'⟩ := s.put hi ho
  rw [hv] at hv'
  cases hv'
  rw [List.length_map] at hk
  have hj : j < w.length := by
    unfold ixN at hk
    split at hk
    · split at hk
      · cases hk; omega
      · cases hk
    · split at hk
      · cases hk; omega
      · cases hk
  have s1 := q' (w.set j (v, y)) (w[j] :: G) (set_perm (List.getElem?_eq_getElem hj))
  have s2 := s1.pop
  rw [List.map_set, List.map_set] at s2
  exact ⟨p, _, k, j, rfl, rfl, hp, by rw [List.length_map]; exact hk, q _ s2⟩
theorem ds_setI {i : Nat} {x ek ev : Expr} {p q : Bool} {mv mk : MD O} {pos spos : Pos} (hv : PE X ev (den X.K p mv)) (ho : PE X x (tVar i)) (hk : PE X ek (den X.K q mk))
    (ha : ∀ v, assign (.Subscript x ek spos) X.env v = (do
      let ov ← holding [v] (eval x X.env)
      let iv ← holding [v, ov] (eval ek X.env)
      standAt spos
      holding [v, ov, iv] (setItem ov iv v)
      release [v, ov, iv] []) := by intro _; rfl) (hs : swapsWithSole [.Subscript x ek spos] ev pos.line X.env = pure false := by rfl) (hw : swappedStores [.Subscript x ek spos] ev X.env = pure none := by rfl)
    (h1 : (assignEach [.Subscript x ek spos] X.env).map (·.2) = [assign (.Subscript x ek spos) X.env] := by rfl) :
    PS X (.Assign [.Subscript x ek spos] ev pos) (denS X.K (mSetI i mv mk)) := ps_imp (ps_asg hv (pg_sub ho hk set_list ha) hs hw h1) fun D σ H ⟨B, F, e, G, oc, s, hm, k⟩ => by
  unfold mSetI at hm
  split at hm
  · rename_i y e1 h1
    split at hm
    · rename_i os h0
      split at hm
      · rename_i z e2 h2
        refine ⟨B, F, e, G, y, e1, s, h1, fun F1 H1 v s1 _ => ?_⟩
        obtain ⟨sl0, hi0, ho0⟩ := Option.bind_eq_some_iff.mp h0
        obtain ⟨v0, hv0, _⟩ := s1.seeO hi0 ho0
        refine ⟨v0, hv0, ⟨B, F1, e1, _, _, e2, s1, h2, fun F2 H2 v2 s2 _ => ?_⟩⟩
        obtain ⟨T, r⟩ := s2.at
        obtain rfl := rp_int r
        split at hm
        · rename_i xs hx
          split at hm
          · rename_i j hj
            cases hm
            exact setI_run s2.pop hx rfl hj hv0 fun H' s3 => k F2 H' σ s3
          · cases hm
        · rename_i xs hx
          split at hm
          · rename_i j hj
            cases hm
            exact setI_run s2.pop hx rfl hj hv0 fun H' s3 => k F2 H' σ s3
          · cases hm
        · cases hm
      · cases hm
    · cases hm
  · cases hm

/-! ### statements -/
def setE (e : En) (i : Nat) (x : O) : Option En := match e[i]? with
  | some .no => some (e.set i (.own x))
  | some (.own _) => some (e.set i (.own x))
  | _ => none
theorem setE_store {B : Bs} {F H : Hp} {σ : St} {e e' : En} {G : Ws} {i : Nat} {v : V} {x : O} (s : Sta K B F H σ e ((v, x) :: G)) (h : setE e i x = some e') : Sta K B F H (σ.set i (some v)) e' G := by
  unfold setE at h
  split at h
  · rename_i hi
    cases h
    exact s.store (List.getElem?_eq_some_iff.mp hi).1
  · rename_i hi
    cases h
    exact s.store (List.getElem?_eq_some_iff.mp hi).1
  · cases h
def mSet (i : Nat) (m : MD O) : MS := fun e => match m e with
  | some (x, e1) => (match setE e1 i x with
    | some e2 => some (.nx e2)
    | none => none)
  | none => none
theorem mSet_den {i : Nat} {p : Bool} {m : MD O} {t : TE} (h : ∀ σ H Q, den K p m σ H Q → t σ H Q) : ∀ D σ H, denS K (mSet i m) D σ H → tAsg t (gName i) D σ H := fun D σ H ⟨B, F, e, G, oc, s, hm, k⟩ => by
  unfold mSet at hm
  split at hm
  · rename_i x e1 h1
    split at hm
    · rename_i e2 h2
      cases hm
      exact h σ H _ ⟨B, F, e, G, x, e1, s, h1, fun F1 H1 v s1 _ => k F1 H1 _ (setE_store s1 h2)⟩
    · cases hm
  · cases hm
theorem ds_set {i : Nat} {x : Str} {e : Expr} {p : Bool} {m : MD O} {pos pos' : Pos} (hN : X.N.Nodup) (hi : X.N[i]? = some x) (hx : Loc X.env.scope x) (he : PE X e (den X.K p m)) (hs : swapsWith e (some (.Name x pos')) pos.line X.env = pure false := by rfl) (hf : X.fn x = true ∨ X.env.scope.names.lookup x = some .local := by first | exact .inl rfl | exact .inr rfl | assumption) :
    PS X (.Assign [.Name x pos'] e pos) (denS X.K (mSet i m)) := ps_imp (ps_set hN hi hx he hs hf) (mSet_den fun _ _ _ h => h)
def mDrop (m : MD O) : MS := fun e => match m e with
  | some (_, e1) => some (.nx e1)
  | none => none
theorem ds_expr {e : Expr} {p : Bool} {m : MD O} {pos : Pos} (he : PE X e (den X.K p m)) (hs : swapsWith e none pos.line X.env = pure false := by rfl) : PS X (.Expr e pos) (denS X.K (mDrop m)) := ps_imp (ps_expr he hs) fun D σ H ⟨B, F, e, G, oc, s, hm, k⟩ => by
  unfold mDrop at hm
  split at hm
  · rename_i x e1 h1
    cases hm
    exact ⟨B, F, e, G, x, e1, s, h1, fun F1 H1 v s1 _ => k F1 H1 σ s1.pop⟩
  · cases hm
def mRet (m : MD O) : MS := fun e => match m e with
  | some (x, e1) => some (.rt x e1)
  | none => none
theorem ds_ret {e : Expr} {p : Bool} {m : MD O} {pos : Pos} (he : PE X e (den X.K p m)) : PS X (.Return (some e) pos) (denS X.K (mRet m)) := ps_imp (ps_ret he) fun D σ H ⟨B, F, e, G, oc, s, hm, k⟩ => by
  unfold mRet at hm
  split at hm
  · rename_i x e1 h1
    cases hm
    exact ⟨B, F, e, G, x, e1, s, h1, fun F1 H1 v s1 _ => k F1 H1 σ v s1⟩
  · cases hm
def mRetN : MS := fun e => some (.rt (.v .none) e)
theorem ds_retN {pos : Pos} : PS X (.Return none pos) (denS X.K mRetN) := ps_imp ps_retN fun D σ H ⟨B, F, e, G, oc, s, hm, k⟩ => by
  cases hm
  exact k F H σ .non (s.push .non)
def mIf (c : MD Bool) (t u : MS) : MS := fun e => match c e with
  | some (true, e1) => t e1
  | some (false, e1) => u e1
  | none => none
theorem ds_if {c : Expr} {a b : List Stmt} {p : Bool} {mc : MD Bool} {t u : MS} {pos : Pos} (hc : PT X c (denT X.K p mc)) (ha : PSs X a (denS X.K t)) (hb : PSs X b (denS X.K u)) : PS X (.If c a b pos) (denS X.K (mIf mc t u)) := ps_imp (ps_if hc ha hb) fun D σ H ⟨B, F, e, G, oc, s, hm, k⟩ => by
  unfold mIf at hm
  split at hm
  · rename_i e1 h1
    exact ⟨B, F, e, G, true, e1, s, h1, fun F1 H1 s1 _ => iteT ⟨B, F1, e1, G, oc, s1, hm, k⟩⟩
  · rename_i e1 h1
    exact ⟨B, F, e, G, false, e1, s, h1, fun F1 H1 s1 _ => iteF ⟨B, F1, e1, G, oc, s1, hm, k⟩⟩
  · cases hm
def mNil : MS := fun e => some (.nx e)
theorem dss_nil : PSs X [] (denS X.K mNil) := pss_imp pss_nil fun D σ H ⟨B, F, e, G, oc, s, hm, k⟩ => by
  cases hm
  exact k F H σ s
def mSeq (a b : MS) : MS := fun e => match a e with
  | some (.nx e1) => b e1
  | r => r
theorem dss_cons {st : Stmt} {rest : List Stmt} {t u : MS} (h1 : PS X st (denS X.K t)) (h2 : PSs X rest (denS X.K u)) : PSs X (st :: rest) (denS X.K (mSeq t u)) := pss_imp (pss_cons h1 h2) fun D σ H ⟨B, F, e, G, oc, s, hm, k⟩ => by
  unfold mSeq at hm
  split at hm
  · rename_i e1 h1
    exact ⟨B, F, e, G, _, s, h1, fun F1 H1 σ1 s1 => ⟨B, F1, e1, G, oc, s1, hm, k⟩⟩
  · rename_i hn
    refine ⟨B, F, e, G, oc, s, hm, ?_⟩
    cases oc with
    | nx e1 => exact absurd hm (hn e1)
    | rt x e1 => exact k
    | bk e1 => exact k
    | ct e1 => exact k
theorem dss_one {st : Stmt} {t : MS} (h1 : PS X st (denS X.K t)) : PSs X [st] (denS X.K (mSeq t mNil)) := dss_cons h1 dss_nil
theorem ds_pass {pos : Pos} : PS X (.Pass pos) (denS X.K mNil) := ps_imp ps_pass fun D σ H ⟨B, F, e, G, oc, s, hm, k⟩ => by
  cases hm
  exact k F H σ s
def mNo : MS := fun _ => none
theorem ds_never {st : Stmt} : PS X st (denS X.K mNo) := ps_imp ps_never fun D σ H ⟨B, F, e, G, oc, s, hm, k⟩ => by cases hm
/-! ### tests -/
def tAndM (a b : MD Bool) : MD Bool := fun e => match a e with
  | some (true, e1) => b e1
  | r => r
def tOrM (a b : MD Bool) : MD Bool := fun e => match a e with
  | some (false, e1) => b e1
  | r => r
def tNotM (a : MD Bool) : MD Bool := fun e => match a e with
  | some (b, e1) => some (!b, e1)
  | none => none
theorem band1 {p q : Bool} (h : (p && q) = true) : p = true := by cases p <;> simp_all
theorem band2 {p q : Bool} (h : (p && q) = true) : q = true := by cases p <;> simp_all
variable {a b : Expr} {rest : List Expr} {p q : Bool} {ma mb : MD Bool} {pos : Pos}
theorem dw_and (ha : PT X a (denT X.K p ma)) (hb : PW X (.BoolOp .And (b :: rest) pos) (denT X.K q mb)) : PW X (.BoolOp .And (a :: b :: rest) pos) (denT X.K (p && q) (tAndM ma mb)) := pw_imp (pw_and ha hb) fun σ H Q ⟨B, F, e, G, x, e', s, hm, k⟩ => by
  unfold tAndM at hm
  split at hm
  · rename_i e1 h1
    exact ⟨B, F, e, G, true, e1, s, h1, fun F1 H1 s1 sm1 => iteT ⟨B, F1, e1, G, x, e', s1, hm, fun F2 H2 s2 sm2 => k F2 H2 s2 fun z => (sm1 (band1 z)).trans (sm2 (band2 z))⟩⟩
  · rename_i r hn
    cases x with
    | true => exact absurd hm (hn e')
    | false => exact ⟨B, F, e, G, false, e', s, hm, fun F1 H1 s1 sm1 => iteF (k F1 H1 s1 fun z => sm1 (band1 z))⟩
theorem dw_and1 (ha : PT X a (denT X.K p ma)) : PW X (.BoolOp .And [a] pos) (denT X.K p ma) := pw_and1 ha
theorem dw_or (ha : PT X a (denT X.K p ma)) (hb : PW X (.BoolOp .Or (b :: rest) pos) (denT X.K q mb)) : PW X (.BoolOp .Or (a :: b :: rest) pos) (denT X.K (p && q) (tOrM ma mb)) := pw_imp (pw_or ha hb) fun σ H Q ⟨B, F, e, G, x, e', s, hm, k⟩ => by
  unfold tOrM at hm
  split at hm
  · rename_i e1 h1
    exact ⟨B, F, e, G, false, e1, s, h1, fun F1 H1 s1 sm1 => iteF ⟨B, F1, e1, G, x, e', s1, hm, fun F2 H2 s2 sm2 => k F2 H2 s2 fun z => (sm1 (band1 z)).trans (sm2 (band2 z))⟩⟩
  · rename_i r hn
    cases x with
    | false => exact absurd hm (hn e')
    | true => exact ⟨B, F, e, G, true, e', s, hm, fun F1 H1 s1 sm1 => iteT (k F1 H1 s1 fun z => sm1 (band1 z))⟩
theorem dw_or1 (ha : PT X a (denT X.K p ma)) : PW X (.BoolOp .Or [a] pos) (denT X.K p ma) := pw_or1 ha
theorem dt_not (ha : PT X a (denT X.K p ma)) : PT X (.UnaryOp .Not a pos) (denT X.K p (tNotM ma)) := pt_imp (pt_not ha) fun σ H Q ⟨B, F, e, G, x, e', s, hm, k⟩ => by
  unfold tNotM at hm
  split at hm
  · rename_i c e1 h1
    obtain ⟨rfl, rfl⟩ := so hm
    exact ⟨B, F, e, G, c, e1, s, h1, fun F1 H1 s1 sm => k F1 H1 s1 sm⟩
  · cases hm
/-- .. as values -/
def vAnd (a b : MD O) : MD O := fun e => match a e with
  | some (.v (.bool true), e1) => b e1
  | some (.v (.bool false), e1) => some (.v (.bool false), e1)
  | _ => none
def vOr (a b : MD O) : MD O := fun e => match a e with
  | some (.v (.bool false), e1) => b e1
  | some (.v (.bool true), e1) => some (.v (.bool true), e1)
  | _ => none
def vNot (a : MD O) : MD O := fun e => match a e with
  | some (.v (.bool b), e1) => some (.v (.bool (!b)), e1)
  | _ => none
theorem sta_bool {B : Bs} {F H : Hp} {σ : St} {e : En} {G : Ws} {v : V} {c : Bool} (s : Sta K B F H σ e ((v, .v (.bool c)) :: G)) : v = .bl c := by
  obtain ⟨T, r⟩ := s.at
  exact df_bool (rp_v r)
variable {na nb : MD O}
theorem d_and (ha : PE X a (den X.K p na)) (hb : PE X (.BoolOp .And (b :: rest) pos) (den X.K q nb)) : PE X (.BoolOp .And (a :: b :: rest) pos) (den X.K (p && q) (vAnd na nb)) := pe_imp (pe_and ha hb) fun σ H Q ⟨B, F, e, G, x, e', s, hm, k⟩ => by
  unfold vAnd at hm
  split at hm
  · rename_i e1 h1
    refine ⟨B, F, e, G, _, e1, s, h1, fun F1 H1 v s1 sm1 => ⟨true, sta_bool s1, iteT ⟨B, F1, e1, G, x, e', s1.pop, hm, fun F2 H2 v2 s2 sm2 => k F2 H2 v2 s2 fun z => (sm1 (band1 z)).trans (sm2 (band2 z))⟩⟩⟩
  · rename_i e1 h1
    obtain ⟨rfl, rfl⟩ := so hm
    refine ⟨B, F, e, G, _, e1, s, h1, fun F1 H1 v s1 sm1 => ⟨false, sta_bool s1, iteF (k F1 H1 _ (s1.pop.push (.bl false)) fun z => sm1 (band1 z))⟩⟩
  · cases hm
theorem d_or (ha : PE X a (den X.K p na)) (hb : PE X (.BoolOp .Or (b :: rest) pos) (den X.K q nb)) : PE X (.BoolOp .Or (a :: b :: rest) pos) (den X.K (p && q) (vOr na nb)) := pe_imp (pe_or ha hb) fun σ H Q ⟨B, F, e, G, x, e', s, hm, k⟩ => by
  unfold vOr at hm
  split at hm
  · rename_i e1 h1
    refine ⟨B, F, e, G, _, e1, s, h1, fun F1 H1 v s1 sm1 => ⟨false, sta_bool s1, iteF ⟨B, F1, e1, G, x, e', s1.pop, hm, fun F2 H2 v2 s2 sm2 => k F2 H2 v2 s2 fun z => (sm1 (band1 z)).trans (sm2 (band2 z))⟩⟩⟩
  · rename_i e1 h1
    obtain ⟨rfl, rfl⟩ := so hm
    refine ⟨B, F, e, G, _, e1, s, h1, fun F1 H1 v s1 sm1 => ⟨true, sta_bool s1, iteT (k F1 H1 _ (s1.pop.push (.bl true)) fun z => sm1 (band1 z))⟩⟩
  · cases hm
theorem d_one {op} (h : PE X a (den X.K p na)) : PE X (.BoolOp op [a] pos) (den X.K p na) := pe_one h
theorem d_not (ha : PE X a (den X.K p na)) : PE X (.UnaryOp .Not a pos) (den X.K p (vNot na)) := pe_imp (pe_not ha) fun σ H Q ⟨B, F, e, G, x, e', s, hm, k⟩ => by
  unfold vNot at hm
  split at hm
  · rename_i c e1 h1
    obtain ⟨rfl, rfl⟩ := so hm
    exact ⟨B, F, e, G, _, e1, s, h1, fun F1 H1 v s1 sm => ⟨c, sta_bool s1, k F1 H1 _ (s1.pop.push (.bl _)) sm⟩⟩
  · cases hm
end
end Dn

set_option Elab.async false
set_option linter.all false
set_option maxRecDepth 100000
set_option maxHeartbeats 4000000
namespace Dn
open PySem L2

/-! ### targets -/
inductive Tg where
  | n (i : Nat)
  | tp (ts : List Tg)
mutual
def Tg.rd (K : PySem.W.Frag) : Tg → TG
  | .n i => gName i
  | .tp ts => gTup K ts.length (Tg.rds K ts)
def Tg.rds (K : PySem.W.Frag) : List Tg → TGs
  | [] => gNil
  | g :: ts => gCons (Tg.rd K g) (Tg.rds K ts)
end
mutual
def asg : Tg → O → En → Option En
  | .n i, x, e => setE e i x
  | .tp ts, x, e => (match x.tparts with
    | some xs => asgs ts xs e
    | none => none)
def asgs : List Tg → List O → En → Option En
  | [], [], e => some e
  | g :: ts, x :: xs, e => (match asg g x e with
    | some e1 => asgs ts xs e1
    | none => none)
  | _, _, _ => none
end
mutual
def Tg.in (vs : List Nat) : Tg → Bool
  | .n i => vs.contains i
  | .tp ts => Tg.ins vs ts
def Tg.ins (vs : List Nat) : List Tg → Bool
  | [] => true
  | g :: ts => Tg.in vs g && Tg.ins vs ts
end
theorem wipe_get {σ : St} {j : Nat} : ∀ {vs : List Nat}, (wipe σ vs)[j]? = if j ∈ vs then (σ[j]?).map (fun _ => none) else σ[j]?
  | [] => by simp [wipe]
  | v :: vs => by
    unfold wipe
    by_cases h : v = j
    · subst h
      rw [if_pos (List.mem_cons_self ..)]
      by_cases hv : v < σ.length
      · rw [List.getElem?_set_self (by rw [wipe_length]; exact hv), List.getElem?_eq_getElem hv]
        rfl
      · rw [List.getElem?_eq_none (by rw [List.length_set, wipe_length]; omega), List.getElem?_eq_none (by omega)]
        rfl
    · rw [List.getElem?_set_ne h, wipe_get]
      by_cases h2 : j ∈ vs
      · rw [if_pos h2, if_pos (List.mem_cons_of_mem _ h2)]
      · rw [if_neg h2, if_neg (by simp only [List.mem_cons, not_or]; exact ⟨fun z => h z.symm, h2⟩)]
theorem wipe_set {σ : St} {i : Nat} {x : Option V} {vs : List Nat} (h : i ∈ vs) : wipe (σ.set i x) vs = wipe σ vs := by
  apply List.ext_getElem?
  intro j
  rw [wipe_get, wipe_get]
  by_cases hj : i = j
  · subst hj
    rw [if_pos h, if_pos h]
    by_cases hv : i < σ.length
    · rw [List.getElem?_set_self hv, List.getElem?_eq_getElem hv]; rfl
    · rw [List.getElem?_eq_none (by rw [List.length_set]; omega), List.getElem?_eq_none (by omega)]
  · rw [List.getElem?_set_ne hj]
section
variable {K : PySem.W.Frag} {B : Bs}
mutual
theorem asg_run {vs : List Nat} : ∀ {tg : Tg} {F H : Hp} {σ : St} {e e' : En} {G : Ws} {v : V} {x : O} {Q : St → Hp → Prop}, Sta K B F H σ e ((v, x) :: G) → asg tg x e = some e' →
    (∀ F' σ', Sta K B F' H σ' e' G → Same F F' → (tg.in vs = true → wipe σ' vs = wipe σ vs) → Q σ' H) → tg.rd K v σ H Q
  | .n i, F, H, σ, e, e', G, v, x, Q, s, h, k => by
    unfold Tg.rd
    unfold asg at h
    exact k F _ (setE_store s h) (.refl _) fun z => wipe_set (by unfold Tg.in at z; exact List.contains_iff_mem.mp z)
  | .tp ts, F, H, σ, e, e', G, v, x, Q, s, h, k => by
    unfold Tg.rd
    unfold asg at h
    split at h
    · rename_i xs hx
      obtain ⟨p, w, F1, rfl, e1, e2, e3, s1⟩ := s.openT hx
      subst e2
      have hl := asgs_len h
      rw [List.length_map] at hl
      refine ⟨p, _, rfl, .of (s1.fh _ _ e1), by rw [List.length_map]; exact hl.symm, ?_⟩
      exact asgs_run (vs := vs) s1 h fun F' σ' s' sm z => k F' σ' s' (e3.trans sm) fun y => z (by unfold Tg.in at y; exact y)
    · cases h
theorem asgs_len : ∀ {ts : List Tg} {xs : List O} {e e' : En}, asgs ts xs e = some e' → ts.length = xs.length
  | [], [], _, _, _ => rfl
  | t :: ts, x :: xs, e, e', h => by
    unfold asgs at h
    split at h
    · rw [List.length_cons, List.length_cons, asgs_len h]
    · cases h
  | [], _ :: _, _, _, h => by unfold asgs at h; cases h
  | _ :: _, [], _, _, h => by unfold asgs at h; cases h
theorem asgs_run {vs : List Nat} : ∀ {ts : List Tg} {F H : Hp} {σ : St} {e e' : En} {G w : Ws} {Q : St → Hp → Prop}, Sta K B F H σ e (w ++ G) → asgs ts (w.map (·.2)) e = some e' →
    (∀ F' σ', Sta K B F' H σ' e' G → Same F F' → (Tg.ins vs ts = true → wipe σ' vs = wipe σ vs) → Q σ' H) → Tg.rds K ts (w.map (·.1)) σ H Q
  | [], F, H, σ, e, e', G, [], Q, s, h, k => by
    unfold Tg.rds
    unfold asgs at h
    cases h
    exact ⟨rfl, k F σ s (.refl _) fun _ => rfl⟩
  | t :: ts, F, H, σ, e, e', G, (v, x) :: w, Q, s, h, k => by
    unfold Tg.rds
    simp only [List.map_cons] at h ⊢
    unfold asgs at h
    split at h
    · rename_i e1 h1
      refine ⟨v, _, rfl, ?_⟩
      refine asg_run (vs := vs) (G := w ++ G) s h1 fun F1 σ1 s1 sm1 z1 => ?_
      exact asgs_run (vs := vs) s1 h fun F2 σ2 s2 sm2 z2 => k F2 σ2 s2 (sm1.trans sm2) fun y => by
        unfold Tg.ins at y
        simp only [Bool.and_eq_true] at y
        rw [z2 y.2, z1 y.1]
    · cases h
  | [], _, _, _, _, _, _, _ :: _, _, _, h, _ => by unfold asgs at h; simp at h
  | _ :: _, _, _, _, _, _, _, [], _, _, h, _ => by unfold asgs at h; simp at h
end
end

/-! ### what is walked -/
inductive Im where
  | one (w : V × O)
  | tup (ws : Ws)
def Im.ws : Im → Ws
  | .one w => [w]
  | .tup ws => ws
def Im.o : Im → O
  | .one w => w.2
  | .tup ws => .t (ws.map (·.2))
def Yl (x : V) (H H3 : Hp) : Im → Prop
  | .one w => H3 = H ∧ x = w.1
  | .tup ws => ∃ T, x = .ref T ∧ H T = none ∧ H3 = upd H T (.tup (ws.map (·.1)))
abbrev Cs := List (Addr × HO)
def fxW (cs : Cs) : Ws := cs.map fun c => (.ref c.1, .fx c.2)
def ItOk (cs : Cs) (J : It) (ims : List Im) : Prop := ∀ H : Hp, (∀ c ∈ cs, H c.1 = some c.2) → (∀ i im, ims[i]? = some im → J.go i H ∧ ∀ x H3, J.yld i H x H3 → Yl x H H3 im) ∧ J.stop ims.length H
def denI (K : PySem.W.Frag) (a : Bool) (mi : MD (List O)) : TI := fun σ H R => ∃ B F e G os e', Sta K B F H σ e G ∧ mi e = some (os, e') ∧ ∀ F' H' J ims cs, Sta K B F' H' σ e' (ims.flatMap Im.ws ++ (fxW cs ++ G)) → ims.map Im.o = os → ItOk cs J ims → (a = true → Same H H') → R J H'
theorem pi_imp {X : Cx} {tg iter : Expr} {t u : TI} (h : PI X tg iter t) (k : ∀ σ H R, u σ H R → t σ H R) : PI X tg iter u := ⟨fun pins s σ H R I q => h.run pins s σ H R I (k _ _ _ q)⟩
theorem pi_or {X : Cx} {tg iter : Expr} {t u : TI} (h : PI X tg iter t) (h' : PI X tg iter u) : PI X tg iter (fun σ H R => t σ H R ∨ u σ H R) := ⟨fun pins s σ H R I q => by
  rcases q with q | q
  · exact h.run pins s σ H R I q
  · exact h'.run pins s σ H R I q⟩
theorem flat_one (w : Ws) : (w.map Im.one).flatMap Im.ws = w := by
  induction w with
  | nil => rfl
  | cons x w ih => simp only [List.map_cons, List.flatMap_cons, ih]; rfl
theorem map_one (w : Ws) : (w.map Im.one).map Im.o = w.map (·.2) := by
  rw [List.map_map]; rfl
section
variable {K : PySem.W.Frag} {X : Cx} {tg iter : Expr}
theorem Sta.drop {B : Bs} {F H : Hp} {σ : St} {e : En} {w G : Ws} (s : Sta K B F H σ e (w ++ G)) : Sta K B F H σ e G := ⟨s.ok, (s.rel.perm (pmid _ _ _)).drop⟩
theorem Sta.fix {B : Bs} {F H : Hp} {σ : St} {e : En} {w G : Ws} {a : Addr} {u : HO} (s : Sta K B F H σ e (w ++ G)) (h : F a = some u) : Sta K B F H σ e (w ++ ((.ref a, .fx u) :: G)) := by
  obtain ⟨T, rl, nd, hp⟩ := s.rel.res
  have q : Rel K B.H0 B.F0 F H ((.ref a, .fx u) :: (slots σ e ++ (w ++ G))) := ⟨s.rel.h0, s.rel.f0, s.rel.fn, s.rel.fh, T, .cons (T1 := []) (.fx h) rl, nd, hp⟩
  refine ⟨s.ok, q.perm ?_⟩
  rw [← List.append_assoc, ← List.append_assoc]
  exact (mid _ _ _).symm
theorem Sta.fixed {B : Bs} {F H : Hp} {σ : St} {e : En} {cs : Cs} {w G : Ws} (s : Sta K B F H σ e (w ++ (fxW cs ++ G))) : ∀ c ∈ cs, H c.1 = some c.2 := fun c hc => by
  have hm : (V.ref c.1, O.fx c.2) ∈ slots σ e ++ (w ++ (fxW cs ++ G)) := by
    refine List.mem_append_right _ (List.mem_append_right _ (List.mem_append_left _ ?_))
    unfold fxW
    exact List.mem_map.mpr ⟨c, hc, rfl⟩
  obtain ⟨T, r⟩ := s.rel.memAt hm
  generalize hv : V.ref c.1 = v at r
  generalize ho : O.fx c.2 = o at r
  cases r with
  | fx h => cases hv; cases ho; exact s.fh _ _ h
  | _ => cases ho
def iL (m : MD O) : MD (List O) := fun e => match m e with
  | some (x, e1) => (match x.lparts with
    | some os => some (os, e1)
    | none => (match x.tparts with
      | some os => some (os, e1)
      | none => none))
  | none => none
theorem itok_l {a : Addr} {w : Ws} : ItOk [(a, .lst (w.map (·.1)))] (Itl K a) (w.map Im.one) := fun H fh => by
  have hq : SqL K H a (w.map (·.1)) := .of (fh _ (List.mem_cons_self ..))
  refine ⟨fun i im hi => ?_, ⟨_, hq, by rw [List.length_map, List.length_map]; exact Nat.le_refl _⟩⟩
  rw [List.getElem?_map] at hi
  obtain ⟨y, h1, rfl⟩ := Option.map_eq_some_iff.mp hi
  have h2 : (w.map (·.1))[i]? = some y.1 := by rw [List.getElem?_map, h1]; rfl
  refine ⟨⟨_, y.1, hq, h2⟩, fun x H3 hy => ?_⟩
  obtain ⟨e1, e2⟩ := hy
  have := e2 _ hq
  rw [h2] at this
  exact ⟨e1, (Option.some.inj this).symm⟩
theorem itok_t {a : Addr} {w : Ws} : ItOk [(a, .tup (w.map (·.1)))] (Itt K a) (w.map Im.one) := fun H fh => by
  have hq : SqT K H a (w.map (·.1)) := .of (fh _ (List.mem_cons_self ..))
  refine ⟨fun i im hi => ?_, ⟨_, hq, by rw [List.length_map, List.length_map]; exact Nat.le_refl _⟩⟩
  rw [List.getElem?_map] at hi
  obtain ⟨y, h1, rfl⟩ := Option.map_eq_some_iff.mp hi
  have h2 : (w.map (·.1))[i]? = some y.1 := by rw [List.getElem?_map, h1]; rfl
  refine ⟨⟨_, y.1, hq, h2⟩, fun x H3 hy => ?_⟩
  obtain ⟨e1, e2⟩ := hy
  have := e2 _ hq
  rw [h2] at this
  exact ⟨e1, (Option.some.inj this).symm⟩
theorem di_list {p : Bool} {m : MD O} (h : PE X iter (den X.K p m)) : PI X tg iter (denI X.K p (iL m)) := pi_imp (pi_or (pi_list h) (pi_tup h)) fun σ H R ⟨B, F, e, G, os, e', s, hm, k⟩ => by
  unfold iL at hm
  split at hm
  · rename_i x e1 h1
    split at hm
    · rename_i xs h2
      obtain ⟨rfl, rfl⟩ := so hm
      refine .inl ⟨B, F, e, G, x, e1, s, h1, fun F1 H1 v s1 sm1 => ?_⟩
      obtain ⟨a, w, F2, rfl, e2, e3, e4, s2⟩ := s1.openL h2
      refine ⟨a, rfl, ⟨_, .of (s2.fh _ _ e2)⟩, k F2 H1 _ (w.map Im.one) [(a, .lst (w.map (·.1)))] (by rw [flat_one]; exact s2.fix e2) (by rw [map_one]; exact e3) itok_l sm1⟩
    · split at hm
      · rename_i xs h2
        obtain ⟨rfl, rfl⟩ := so hm
        refine .inr ⟨B, F, e, G, x, e1, s, h1, fun F1 H1 v s1 sm1 => ?_⟩
        obtain ⟨a, w, F2, rfl, e2, e3, e4, s2⟩ := s1.openT h2
        refine ⟨a, rfl, ⟨_, .of (s2.fh _ _ e2)⟩, k F2 H1 _ (w.map Im.one) [(a, .tup (w.map (·.1)))] (by rw [flat_one]; exact s2.fix e2) (by rw [map_one]; exact e3) itok_t sm1⟩
      · cases hm
  · cases hm
/-- the ints lo, lo + 1, .. -/
def rngO (lo : Int) (n : Nat) : List O := (List.range n).map fun (k : Nat) => .v (.int (lo + (k : Int)))
def rngW (lo : Int) (n : Nat) : Ws := (List.range n).map fun (k : Nat) => (.int (lo + (k : Int)), .v (.int (lo + (k : Int))))
theorem Sta.rng {B : Bs} {F H : Hp} {σ : St} {e : En} {G : Ws} (s : Sta K B F H σ e G) (lo : Int) (n : Nat) : Sta K B F H σ e (rngW lo n ++ G) := by
  have h := s.ints ((List.range n).map fun (k : Nat) => lo + (k : Int))
  rw [List.map_map] at h
  exact h
theorem itok_r {lo : Int} {n : Nat} : ItOk [] (Itr lo n) ((rngW lo n).map Im.one) := fun H fh => by
  have hl : ((rngW lo n).map Im.one).length = n := by rw [List.length_map]; unfold rngW; rw [List.length_map, List.length_range]
  refine ⟨fun i im hi => ?_, by rw [hl]; exact Nat.le_refl n⟩
  have hlt : i < n := by
    have := (List.getElem?_eq_some_iff.mp hi).1
    rw [hl] at this
    exact this
  unfold rngW at hi
  rw [List.getElem?_map, List.getElem?_map, List.getElem?_range hlt] at hi
  cases hi
  exact ⟨hlt, fun x H3 ⟨e1, e2⟩ => ⟨e1, e2⟩⟩
noncomputable def iR1 (ms : MD (List O)) : MD (List O) := fun e => match ms e with
  | some ([.v (.int j)], e1) => if shut (decide (-(2 ^ 62) ≤ j ∧ j < 2 ^ 62)) = true then some (rngO 0 j.toNat, e1) else none
  | _ => none
noncomputable def iR2 (ms : MD (List O)) : MD (List O) := fun e => match ms e with
  | some ([.v (.int i), .v (.int j)], e1) => if shut (decide (-(2 ^ 62) ≤ i ∧ i < 2 ^ 62 ∧ -(2 ^ 62) ≤ j ∧ j < 2 ^ 62)) = true then some (rngO i (j - i).toNat, e1) else none
  | _ => none
theorem rng_o (lo : Int) (n : Nat) : ((rngW lo n).map Im.one).map Im.o = rngO lo n := by
  rw [map_one]; unfold rngW rngO; rw [List.map_map]; rfl
theorem di_r1 {a : Expr} {p : Bool} {ms : MD (List O)} {p1 pos : Pos} (hg : Gl X "range") (hm : X.mg "range" = none) (ha : PA X [a] (denL X.K p ms)) (hs : starEach [a] X.env = [(false, eval a X.env)] := by rfl) :
    PI X tg (.Call (.Name "range" p1) [a] [] pos) (denI X.K p (iR1 ms)) := pi_imp (pi_range1 hg hm ha hs) fun σ H R ⟨B, F, e, G, os, e', s, hm, k⟩ => by
  unfold iR1 at hm
  split at hm
  · rename_i j e1 h1
    split at hm
    · rename_i hj
      rw [shut_eq, decide_eq_true_eq] at hj
      obtain ⟨rfl, rfl⟩ := so hm
      refine ⟨B, F, e, G, _, e1, s, h1, fun F1 H1 vs s1 r1 sm1 => ?_⟩
      obtain ⟨v, T, rfl, r⟩ := rpa1 r1
      obtain rfl := rp_int r
      exact ⟨j, rfl, hj.1, hj.2, k F1 H1 _ ((rngW 0 j.toNat).map Im.one) [] (by rw [flat_one]; exact s1.rng 0 _) (rng_o _ _) itok_r sm1⟩
    · cases hm
  · cases hm
theorem di_r2 {a b : Expr} {p : Bool} {ms : MD (List O)} {p1 pos : Pos} (hg : Gl X "range") (hm : X.mg "range" = none) (ha : PA X [a, b] (denL X.K p ms)) (hs : starEach [a, b] X.env = [(false, eval a X.env), (false, eval b X.env)] := by rfl) (hs2 : starEach [b] X.env = [(false, eval b X.env)] := by rfl) :
    PI X tg (.Call (.Name "range" p1) [a, b] [] pos) (denI X.K p (iR2 ms)) := pi_imp (pi_range2 hg hm ha hs hs2) fun σ H R ⟨B, F, e, G, os, e', s, hm, k⟩ => by
  unfold iR2 at hm
  split at hm
  · rename_i i j e1 h1
    split at hm
    · rename_i hj
      rw [shut_eq, decide_eq_true_eq] at hj
      obtain ⟨rfl, rfl⟩ := so hm
      refine ⟨B, F, e, G, _, e1, s, h1, fun F1 H1 vs s1 r1 sm1 => ?_⟩
      obtain ⟨v, u, T, T', rfl, r, r'⟩ := rpa2 r1
      obtain rfl := rp_int r
      obtain rfl := rp_int r'
      exact ⟨i, j, rfl, hj, k F1 H1 _ ((rngW i (j - i).toNat).map Im.one) [] (by rw [flat_one]; exact s1.rng i _) (rng_o _ _) itok_r sm1⟩
    · cases hm
  · cases hm
/-- zip of two lists -/
def zipO : List O → List O → List O
  | x :: xs, y :: ys => .t [x, y] :: zipO xs ys
  | _, _ => []
def zipI : Ws → Ws → List Im
  | x :: xs, y :: ys => .tup [x, y] :: zipI xs ys
  | _, _ => []
theorem zip_o : ∀ (a b : Ws), (zipI a b).map Im.o = zipO (a.map (·.2)) (b.map (·.2))
  | [], _ => rfl
  | _ :: _, [] => rfl
  | x :: a, y :: b => by simp only [zipI, List.map_cons, zipO, zip_o a b, Im.o, List.map_nil]
theorem zip_flat : ∀ (a b : Ws), ∃ r, (a ++ b).Perm (r ++ (zipI a b).flatMap Im.ws)
  | [], b => ⟨b, by simp [zipI]⟩
  | x :: a, [] => ⟨x :: a, by simp [zipI]⟩
  | x :: a, y :: b => by
    obtain ⟨r, h⟩ := zip_flat a b
    refine ⟨r, ?_⟩
    show (x :: (a ++ y :: b)).Perm (r ++ (x :: y :: (zipI a b).flatMap Im.ws))
    refine ((mid y a b).cons x).trans ?_
    refine ((h.cons y).cons x).trans ?_
    exact ((mid x r _).trans ((mid y r _).cons x)).symm
theorem zip_at : ∀ (a b : Ws) (i : Nat) (im : Im), (zipI a b)[i]? = some im → ∃ x y, a[i]? = some x ∧ b[i]? = some y ∧ im = .tup [x, y]
  | [], _, _, _, h => by simp [zipI] at h
  | _ :: _, [], _, _, h => by simp [zipI] at h
  | x :: a, y :: b, 0, im, h => by
    simp [zipI] at h
    exact ⟨x, y, rfl, rfl, h.symm⟩
  | x :: a, y :: b, i + 1, im, h => by
    simp [zipI] at h
    obtain ⟨x', y', h1, h2, h3⟩ := zip_at a b i im h
    exact ⟨x', y', by simpa using h1, by simpa using h2, h3⟩
theorem zip_len : ∀ (a b : Ws), a.length ≤ (zipI a b).length ∨ b.length ≤ (zipI a b).length
  | [], _ => .inl (Nat.zero_le _)
  | _ :: _, [] => .inr (Nat.zero_le _)
  | x :: a, y :: b => by
    rcases zip_len a b with h | h
    · left; simp [zipI]; exact h
    · right; simp [zipI]; exact h
theorem itok_z {a b : Addr} {w u : Ws} : ItOk [(a, .lst (w.map (·.1))), (b, .lst (u.map (·.1)))] (Itz K a b) (zipI w u) := fun H fh => by
  have hq : SqL K H a (w.map (·.1)) := .of (fh _ (List.mem_cons_self ..))
  have hq' : SqL K H b (u.map (·.1)) := .of (fh _ (List.mem_cons_of_mem _ (List.mem_cons_self ..)))
  refine ⟨fun i im hi => ?_, ⟨_, _, hq, hq', by rw [List.length_map, List.length_map]; exact zip_len w u⟩⟩
  obtain ⟨x, y, h1, h2, rfl⟩ := zip_at w u i im hi
  have g1 : (w.map (·.1))[i]? = some x.1 := by rw [List.getElem?_map, h1]; rfl
  have g2 : (u.map (·.1))[i]? = some y.1 := by rw [List.getElem?_map, h2]; rfl
  refine ⟨⟨_, _, x.1, y.1, hq, hq', g1, g2⟩, fun z H3 hy => ?_⟩
  obtain ⟨T, x', y', rfl, hT, rfl, f1, f2⟩ := hy
  have e1 := f1 _ hq
  have e2 := f2 _ hq'
  rw [g1] at e1
  rw [g2] at e2
  cases e1
  cases e2
  exact ⟨T, rfl, hT, rfl⟩
def iZ (ms : MD (List O)) : MD (List O) := fun e => match ms e with
  | some ([x, y], e1) => (match x.lparts, y.lparts with
    | some xs, some ys => some (zipO xs ys, e1)
    | _, _ => none)
  | _ => none
theorem di_zip {x y : Expr} {p : Bool} {ms : MD (List O)} {p1 pos tpos : Pos} {elts : List Expr} {kk : Nat} (hg : Gl X "zip") (hm : X.mg "zip" = none) (ha : PA X [x, y] (denA X.K p ms))
    (hs : starEach [x, y] X.env = (false, eval x X.env) :: starEach [y] X.env := by rfl) (hpl : (backTo pos (starEach [y] X.env)).any (·.1) = false := by rfl) :
    PI X (.Tuple elts kk tpos) (.Call (.Name "zip" p1) [x, y] [] pos) (denI X.K p (iZ ms)) := pi_imp (pi_zip hg hm ha hs hpl) fun σ H R ⟨B, F, e, G, os, e', s, hm, k⟩ => by
  unfold iZ at hm
  split at hm
  · rename_i a b e1 h1
    split at hm
    · rename_i xs ys h2 h3
      obtain ⟨rfl, rfl⟩ := so hm
      refine ⟨B, F, e, G, _, e1, s, h1, fun F1 H1 ws s1 r1 sm1 => ?_⟩
      obtain ⟨v, u, rfl⟩ := ws2 r1
      obtain ⟨p, w1, F2, rfl, g1, g2, g3, s2⟩ := Sta.openL (G := (u, b) :: G) s1 h2
      obtain ⟨q, w2, F3, rfl, g1', g2', g3', s3⟩ := Sta.openL (s2.perm (mid _ _ _)) h3
      obtain ⟨r, pr⟩ := zip_flat w1 w2
      have s4 : Sta X.K B F3 H1 σ e1 (r ++ ((zipI w1 w2).flatMap Im.ws ++ G)) := s3.perm (by
        have q1 : (w2 ++ (w1 ++ G)).Perm ((w1 ++ w2) ++ G) := by
          rw [← List.append_assoc]
          exact List.perm_append_comm.append_right G
        have q2 := pr.append_right G
        rw [List.append_assoc r] at q2
        exact q1.trans q2)
      refine ⟨p, q, _, _, rfl, .of (s3.fh _ _ (g3' _ _ g1)), .of (s3.fh _ _ g1'), k F3 H1 _ (zipI w1 w2) [(p, HO.lst (w1.map fun x : V × O => x.1)), (q, HO.lst (w2.map fun x : V × O => x.1))] ((s4.drop.fix g1').fix (g3' _ _ g1)) ?_ itok_z sm1⟩
      rw [zip_o, g2, g2']
    · cases hm
  · cases hm
/-- enumerate of a list -/
def enuO : Nat → List O → List O
  | _, [] => []
  | n, x :: xs => .t [.v (.int (n : Int)), x] :: enuO (n + 1) xs
def enuI : Nat → Ws → List Im
  | _, [] => []
  | n, x :: xs => .tup [(.int (n : Int), .v (.int (n : Int))), x] :: enuI (n + 1) xs
theorem enu_o : ∀ (n : Nat) (a : Ws), (enuI n a).map Im.o = enuO n (a.map (·.2))
  | _, [] => rfl
  | n, x :: a => by simp only [enuI, List.map_cons, enuO, enu_o (n + 1) a, Im.o, List.map_nil]
theorem enu_at : ∀ (n : Nat) (a : Ws) (i : Nat) (im : Im), (enuI n a)[i]? = some im → ∃ x, a[i]? = some x ∧ im = .tup [(.int ((n + i : Nat) : Int), .v (.int ((n + i : Nat) : Int))), x]
  | _, [], _, _, h => by simp [enuI] at h
  | n, x :: a, 0, im, h => by
    simp [enuI] at h
    exact ⟨x, rfl, by rw [← h]; simp⟩
  | n, x :: a, i + 1, im, h => by
    simp [enuI] at h
    obtain ⟨x', h1, h3⟩ := enu_at (n + 1) a i im h
    exact ⟨x', by simpa using h1, by rw [h3]; rw [show n + 1 + i = n + (i + 1) by omega]⟩
theorem enu_len : ∀ (n : Nat) (a : Ws), (enuI n a).length = a.length
  | _, [] => rfl
  | n, x :: a => by simp [enuI, enu_len (n + 1) a]
theorem itok_e {a : Addr} {w : Ws} : ItOk [(a, .lst (w.map (·.1)))] (Ite K a) (enuI 0 w) := fun H fh => by
  have hq : SqL K H a (w.map (·.1)) := .of (fh _ (List.mem_cons_self ..))
  refine ⟨fun i im hi => ?_, ⟨_, hq, by rw [List.length_map, enu_len]; exact Nat.le_refl _⟩⟩
  obtain ⟨x, h1, rfl⟩ := enu_at 0 w i im hi
  have g1 : (w.map (·.1))[i]? = some x.1 := by rw [List.getElem?_map, h1]; rfl
  refine ⟨⟨_, x.1, hq, g1⟩, fun z H3 hy => ?_⟩
  obtain ⟨T, x', rfl, hT, rfl, f1⟩ := hy
  have e1 := f1 _ hq
  rw [g1] at e1
  cases e1
  refine ⟨T, rfl, hT, ?_⟩
  rw [Nat.zero_add]
  rfl
theorem Sta.enu {B : Bs} {F H : Hp} {σ : St} {e : En} : ∀ {w G : Ws} (n : Nat), Sta K B F H σ e (w ++ G) → Sta K B F H σ e ((enuI n w).flatMap Im.ws ++ G)
  | [], G, n, s => s
  | x :: w, G, n, s => by
    have s1 : Sta K B F H σ e (w ++ (x :: G)) := s.perm (mid _ _ _).symm
    have s2 := (Sta.enu (n + 1) s1).perm (mid _ _ _)
    exact s2.push (.int n)
def iE (ms : MD (List O)) : MD (List O) := fun e => match ms e with
  | some ([x], e1) => (match x.lparts with
    | some xs => some (enuO 0 xs, e1)
    | _ => none)
  | _ => none
theorem di_enum {x : Expr} {p : Bool} {ms : MD (List O)} {p1 pos tpos : Pos} {elts : List Expr} {kk : Nat} (hg : Gl X "enumerate") (hm : X.mg "enumerate" = none) (ha : PA X [x] (denA X.K p ms)) (hs : starEach [x] X.env = [(false, eval x X.env)] := by rfl) :
    PI X (.Tuple elts kk tpos) (.Call (.Name "enumerate" p1) [x] [] pos) (denI X.K p (iE ms)) := pi_imp (pi_enum hg hm ha hs) fun σ H R ⟨B, F, e, G, os, e', s, hm, k⟩ => by
  unfold iE at hm
  split at hm
  · rename_i a e1 h1
    split at hm
    · rename_i xs h2
      obtain ⟨rfl, rfl⟩ := so hm
      refine ⟨B, F, e, G, _, e1, s, h1, fun F1 H1 ws s1 r1 sm1 => ?_⟩
      obtain ⟨v, rfl⟩ := ws1 r1
      obtain ⟨p, w1, F2, rfl, g1, g2, g3, s2⟩ := Sta.openL (G := G) s1 h2
      refine ⟨p, _, rfl, .of (s2.fh _ _ g1), k F2 H1 _ (enuI 0 w1) [(p, .lst (w1.map (·.1)))] ((s2.enu 0).fix g1) ?_ itok_e sm1⟩
      rw [enu_o, g2]
    · cases hm
  · cases hm
/-- a text, sign by sign -/
def sgO (x : Str) : List O := x.cps.toList.map fun c => .v (.str ⟨#[c]⟩)
def iS (m : MD O) : MD (List O) := fun e => match m e with
  | some (.v (.str x), e1) => some (sgO x, e1)
  | _ => none
theorem Sta.strs {B : Bs} {F H : Hp} {σ : St} {e : En} {G : Ws} (s : Sta K B F H σ e G) : ∀ ns : List Str, Sta K B F H σ e (ns.map (fun n => (V.str n, O.v (.str n))) ++ G)
  | [] => s
  | n :: ns => (s.strs ns).push (.str n)
theorem di_str {p : Bool} {m : MD O} (h : PE X iter (den X.K p m)) : PI X tg iter (denI X.K p (iS m)) := pi_imp (pi_str h) fun σ H R ⟨B, F, e, G, os, e', s, hm, k⟩ => by
  unfold iS at hm
  split at hm
  · rename_i x e1 h1
    obtain ⟨rfl, rfl⟩ := so hm
    refine ⟨B, F, e, G, _, e1, s, h1, fun F1 H1 v s1 sm1 => ?_⟩
    obtain ⟨T, r⟩ := s1.at
    obtain rfl := df_str (rp_v r)
    have s2 := s1.pop.strs (x.cps.toList.map fun c => (⟨#[c]⟩ : Str))
    rw [List.map_map] at s2
    refine ⟨x, rfl, k F1 H1 _ ((x.cps.toList.map ((fun n => (V.str n, O.v (.str n))) ∘ fun c => (⟨#[c]⟩ : Str))).map Im.one) [] (by rw [flat_one]; exact s2) ?_ (fun H2 fh => ⟨fun i im hi => ?_, ?_⟩) sm1⟩
    · rw [map_one, List.map_map]; rfl
    · rw [List.getElem?_map, List.getElem?_map] at hi
      obtain ⟨y, h2, rfl⟩ := Option.map_eq_some_iff.mp hi
      obtain ⟨c, h3, rfl⟩ := Option.map_eq_some_iff.mp h2
      have h4 : x.cps[i]? = some c := by rw [← Array.getElem?_toList]; exact h3
      refine ⟨?_, fun z H3 ⟨g1, c', g2, g3⟩ => ?_⟩
      · have := (List.getElem?_eq_some_iff.mp h3).1
        rw [Array.length_toList] at this
        exact this
      · rw [h4] at g2
        cases g2
        exact ⟨g1, g3⟩
    · show x.cps.size ≤ _
      rw [List.length_map, List.length_map, Array.length_toList]
      exact Nat.le_refl _
  · cases hm

/-! ### for -/
def forL (tg : Tg) (body : MS) : List O → MS
  | [], e => some (.nx e)
  | x :: xs, e => (match asg tg x e with
    | some e1 => (match body e1 with
      | some (.nx e2) => forL tg body xs e2
      | some (.ct e2) => forL tg body xs e2
      | some (.bk e2) => some (.nx e2)
      | some (.rt y e2) => some (.rt y e2)
      | none => none)
    | none => none)
def mFor (mi : MD (List O)) (tg : Tg) (body : MS) : MS := fun e => match mi e with
  | some (os, e1) => forL tg body os e1
  | none => none
theorem Sta.item {B : Bs} {F H H3 : Hp} {σ : St} {e : En} {G : Ws} {im : Im} {x : V} (s : Sta K B F H σ e (im.ws ++ G)) (h : Yl x H H3 im) : Sta K B F H3 σ e ((x, im.o) :: G) := by
  cases im with
  | one w =>
    obtain ⟨rfl, rfl⟩ := h
    exact s
  | tup ws =>
    obtain ⟨T, rfl, hT, rfl⟩ := h
    exact s.newT hT
theorem Oc.drop {B : Bs} {w G : Ws} {D : Ends} {oc : Oc} (h : oc.end K B G D) : oc.end K B (w ++ G) D := by
  cases oc with
  | nx e => exact fun F H σ s => h F H σ s.drop
  | bk e => exact fun F H σ s => h F H σ s.drop
  | ct e => exact fun F H σ s => h F H σ s.drop
  | rt x e => exact fun F H σ v s => h F H σ v (Sta.drop (w := w) (s.perm (by
      rw [← List.cons_append]
      exact (mid _ _ _).symm)))
theorem ds_for {tgE : Expr} {body : List Stmt} {tg : Tg} {p : Bool} {mi : MD (List O)} {mb : MS} {pos : Pos} (hp : PassesOwn (model X.prog X.w) X.A X.env X.xe) (hc : X.calm = true) (hi : PI X tgE iter (denI X.K p mi)) (hg : PG X tgE (tg.rd X.K)) (hb : PSs X body (denS X.K mb))
    (hs : ∀ x, foldedSetIterable iter X.env x = pure x := by intro _; rfl) : PS X (.For tgE iter body [] pos) (denS X.K (mFor mi tg mb)) := ps_imp (ps_for hp hc hi hg hb hs) fun D σ H ⟨B, F, e, G, oc, s, hm, k⟩ => by
  unfold mFor at hm
  split at hm
  · rename_i os e1 h1
    refine ⟨B, F, e, G, os, e1, s, h1, fun F1 H1 J ims cs s1 r1 it sm1 => ?_⟩
    subst r1
    refine ⟨fun i m σ H => ∃ F e, i + m = ims.length ∧ Sta X.K B F H σ e ((ims.drop i).flatMap Im.ws ++ (fxW cs ++ G)) ∧ forL tg mb ((ims.drop i).map Im.o) e = some oc, ⟨ims.length, F1, e1, by omega, s1, hm⟩, fun i m σ H ⟨F, e, hl, s2, h2⟩ => ?_⟩
    obtain ⟨g1, g2⟩ := it H s2.fixed
    cases m with
    | zero =>
      have : i = ims.length := by omega
      subst this
      rw [List.drop_length] at h2 s2
      cases h2
      exact .inl ⟨g2, k F H σ (Sta.drop (w := fxW cs) s2)⟩
    | succ m =>
      have hlt : i < ims.length := by omega
      obtain ⟨f1, f2⟩ := g1 i ims[i] (List.getElem?_eq_getElem hlt)
      rw [List.drop_eq_getElem_cons hlt] at h2 s2
      simp only [List.map_cons, List.flatMap_cons, List.append_assoc] at h2 s2
      unfold forL at h2
      refine .inr ⟨f1, fun σ H => ∃ F e, Sta X.K B F H σ e ((ims.drop (i + 1)).flatMap Im.ws ++ (fxW cs ++ G)) ∧ forL tg mb ((ims.drop (i + 1)).map Im.o) e = some oc, fun σ' H' ⟨F', e', q2, q3⟩ => ⟨m, Nat.lt_succ_self _, F', e', by omega, q2, q3⟩, fun x H3 hy => ?_⟩
      have s3 := s2.item (f2 x H3 hy)
      split at h2
      · rename_i e2 h3
        refine asg_run (vs := []) s3 h3 fun F4 σ4 s4 sF4 _ => ?_
        split at h2
        · rename_i e5 h5
          exact ⟨B, F4, e2, _, _, s4, h5, fun F6 H6 σ6 s6 => ⟨F6, e5, s6, h2⟩⟩
        · rename_i e5 h5
          exact ⟨B, F4, e2, _, _, s4, h5, fun F6 H6 σ6 s6 => ⟨F6, e5, s6, h2⟩⟩
        · rename_i e5 h5
          cases h2
          exact ⟨B, F4, e2, _, _, s4, h5, fun F6 H6 σ6 s6 => k F6 H6 σ6 s6.drop.drop⟩
        · rename_i y e5 h5
          cases h2
          exact ⟨B, F4, e2, _, _, s4, h5, Oc.drop (oc := .rt y e5) (Oc.drop (oc := .rt y e5) k)⟩
        · cases h2
      · cases h2
  · cases hm
end
end Dn

set_option Elab.async false
set_option linter.all false
set_option maxRecDepth 100000
set_option maxHeartbeats 4000000
namespace Dn
open PySem L2

/-! ### while -/
def whileF (c : MD Bool) (b : MS) : Nat → MS
  | 0, _ => none
  | n + 1, e => (match c e with
    | some (false, e1) => some (.nx e1)
    | some (true, e1) => (match b e1 with
      | some (.nx e2) => whileF c b n e2
      | some (.ct e2) => whileF c b n e2
      | some (.bk e2) => some (.nx e2)
      | some (.rt x e2) => some (.rt x e2)
      | none => none)
    | none => none)
theorem whileF_mono {c : MD Bool} {b : MS} : ∀ {n : Nat} {e : En} {oc : Oc}, whileF c b n e = some oc → whileF c b (n + 1) e = some oc
  | 0, _, _, h => by cases h
  | n + 1, e, oc, h => by
    unfold whileF at h
    unfold whileF
    split at h
    · exact h
    · split at h
      · exact whileF_mono h
      · exact whileF_mono h
      · exact h
      · exact h
      · cases h
    · cases h
theorem whileF_add {c : MD Bool} {b : MS} {n : Nat} {e : En} {oc : Oc} (h : whileF c b n e = some oc) : ∀ k, whileF c b (n + k) e = some oc
  | 0 => h
  | k + 1 => whileF_mono (whileF_add h k)
open Classical in
noncomputable def mWhile (c : MD Bool) (b : MS) : MS := fun e => if h : ∃ oc n, whileF c b n e = some oc then some h.choose else none
theorem mWhile_of {c : MD Bool} {b : MS} {n : Nat} {e : En} {oc : Oc} (h : whileF c b n e = some oc) : mWhile c b e = some oc := by
  have hex : ∃ oc n, whileF c b n e = some oc := ⟨oc, n, h⟩
  unfold mWhile
  rw [dif_pos hex]
  obtain ⟨n', h'⟩ := hex.choose_spec
  have a := whileF_add h n'
  have b' := whileF_add h' n
  rw [Nat.add_comm] at b'
  rw [a] at b'
  rw [← b']
theorem mWhile_some {c : MD Bool} {b : MS} {e : En} {oc : Oc} (h : mWhile c b e = some oc) : ∃ n, whileF c b n e = some oc := by
  unfold mWhile at h
  split at h
  · rename_i hex
    cases h
    exact hex.choose_spec
  · cases h
section
variable {K : PySem.W.Frag} {X : Cx}
theorem ds_while {c : Expr} {body : List Stmt} {p : Bool} {mc : MD Bool} {mb : MS} {pos : Pos} (hp : PassesOwn (model X.prog X.w) X.A X.env X.xe) (hc : PT X c (denT X.K p mc)) (hb : PSs X body (denS X.K mb)) :
    PS X (.While c body [] pos) (denS X.K (mWhile mc mb)) := ps_imp (ps_while hp hc hb) fun D σ H ⟨B, F, e, G, oc, s, hm, k⟩ => by
  obtain ⟨n, hn⟩ := mWhile_some hm
  refine ⟨fun m σ H => ∃ F e, Sta X.K B F H σ e G ∧ whileF mc mb m e = some oc, ⟨n, F, e, s, hn⟩, fun m σ H ⟨F, e, s1, h1⟩ => ?_⟩
  cases m with
  | zero => cases h1
  | succ m =>
    unfold whileF at h1
    split at h1
    · rename_i e1 h2
      cases h1
      exact ⟨B, F, e, G, false, e1, s1, h2, fun F2 H2 s2 _ => iteF (k F2 H2 σ s2)⟩
    · rename_i e1 h2
      refine ⟨B, F, e, G, true, e1, s1, h2, fun F2 H2 s2 _ => iteT ⟨fun σ H => ∃ F e, Sta X.K B F H σ e G ∧ whileF mc mb m e = some oc, fun σ' H' q => ⟨m, Nat.lt_succ_self _, q⟩, ?_⟩⟩
      split at h1
      · rename_i e2 h3
        exact ⟨B, F2, e1, G, _, s2, h3, fun F4 H4 σ4 s4 => ⟨F4, e2, s4, h1⟩⟩
      · rename_i e2 h3
        exact ⟨B, F2, e1, G, _, s2, h3, fun F4 H4 σ4 s4 => ⟨F4, e2, s4, h1⟩⟩
      · rename_i e2 h3
        cases h1
        exact ⟨B, F2, e1, G, _, s2, h3, fun F4 H4 σ4 s4 => k F4 H4 σ4 s4⟩
      · rename_i x e2 h3
        cases h1
        exact ⟨B, F2, e1, G, _, s2, h3, fun F4 H4 σ4 v s4 => k F4 H4 σ4 v s4⟩
      · cases h1
    · cases h1

/-! ### comprehensions -/
def hide (e : En) : List Nat → En
  | [] => e
  | v :: vs => (hide e vs).set v .no
def keepV : Option Sl → Sl
  | some (.own (.v d)) => .own (.v d)
  | some (.own (.s ns)) => .own (.s ns)
  | _ => .no
def unhide (e1 : En) : En → List Nat → En
  | e2, [] => e2
  | e2, v :: vs => unhide e1 (e2.set v (if vs.contains v then .no else keepV e1[v]?)) vs
def lcL (tg : Tg) (mt : MD Bool) (me : MD O) (vs : List Nat) : List O → En → Option (List O × En)
  | [], e => some ([], e)
  | x :: xs, e => (match asg tg x e with
    | some e1 => (match mt e1 with
      | some (true, e2) => (match me e2 with
        | some (y, e3) => (match lcL tg mt me vs xs (hide e3 vs) with
          | some (ys, e4) => some (y :: ys, e4)
          | none => none)
        | none => none)
      | some (false, e2) => lcL tg mt me vs xs (hide e2 vs)
      | none => none)
    | none => none)
def mLc (mi : MD (List O)) (tg : Tg) (mt : MD Bool) (me : MD O) (vs : List Nat) : MD O := fun e => match mi e with
  | some (os, e1) => if os.length ≤ sizeLine && tg.in vs then (match lcL tg mt me vs os (hide e1 vs) with
    | some (ys, e2) => some (.l ys, unhide e1 e2 vs)
    | none => none) else none
  | none => none
variable {B : Bs} {F H : Hp} {σ : St} {e : En} {G : Ws}
theorem Sta.wipe1 {v : Nat} {x : Option V} (s : Sta K B F H σ e G) : Sta K B F H (σ.set v x) (e.set v .no) G := by
  by_cases hv : v < e.length
  · have hσ : v < σ.length := by rw [s.ok.len]; exact hv
    obtain ⟨w, pw⟩ := slots_less (σ := σ) (e := e) (i := v) (List.getElem?_eq_getElem hσ) (List.getElem?_eq_getElem hv)
    have r : Rel K B.H0 B.F0 F H (slots σ (e.set v .no) ++ G) := by
      have q := s.rel.perm (pw.append_right G)
      rw [List.append_assoc] at q
      exact q.drop
    refine ⟨⟨by rw [List.length_set, List.length_set]; exact s.ok.len, fun j sl hj => ?_⟩, by rw [slots_no]; exact r⟩
    by_cases h : v = j
    · subst h
      rw [List.getElem?_set_self hv] at hj
      cases hj
      exact ⟨x, by rw [List.getElem?_set_self hσ], trivial⟩
    · rw [List.getElem?_set_ne h] at hj ⊢
      exact s.ok.sl j sl hj
  · have e1 : e.set v .no = e := List.set_eq_of_length_le (by omega)
    have e2 : σ.set v x = σ := List.set_eq_of_length_le (by rw [s.ok.len]; omega)
    rw [e1, e2]
    exact s
theorem Sta.hide : ∀ {vs : List Nat}, Sta K B F H σ e G → Sta K B F H (wipe σ vs) (hide e vs) G
  | [], s => s
  | v :: vs, s => by
    unfold wipe Dn.hide
    exact (Sta.hide (vs := vs) s).wipe1
theorem wipe_wipe {σ : St} {vs : List Nat} : wipe (wipe σ vs) vs = wipe σ vs := by
  apply List.ext_getElem?
  intro j
  rw [wipe_get, wipe_get]
  by_cases h : j ∈ vs
  · rw [if_pos h, if_pos h, Option.map_map]
    rfl
  · rw [if_neg h, if_neg h]
variable {vs : List Nat}
/-- what is frozen in slots stays so -/
def Kept (K : PySem.W.Frag) (F : Hp) (σ : St) (e1 : En) (vs : List Nat) : Prop := ∀ (v : Nat), v ∈ vs → ∀ o, (keepV e1[v]?).o? = some o → ∃ x, σ[v]? = some (some x) ∧ ∀ H, Rp K F H x o []
/-- the frozen slots as things: they outlast the comprehension -/
def keptW (σ : St) (e1 : En) : List Nat → Ws
  | [] => []
  | v :: vs => (match σ[v]?, (keepV e1[v]?).o? with
    | some (some x), some o => [(x, o)]
    | _, _ => []) ++ keptW σ e1 vs
theorem keepV_fz {sl : Option Sl} {o : O} (h : (keepV sl).o? = some o) : ∃ s, sl = some s ∧ s.o? = some o ∧ ((∃ d, o = .v d) ∨ ∃ ns, o = .s ns) := by
  unfold keepV at h
  split at h
  · cases h; exact ⟨_, rfl, rfl, .inl ⟨_, rfl⟩⟩
  · cases h; exact ⟨_, rfl, rfl, .inr ⟨_, rfl⟩⟩
  · cases h
theorem Sta.keptPush (s : Sta K B F H σ e G) : ∀ vs : List Nat, Sta K B F H σ e (keptW σ e vs ++ G)
  | [] => s
  | v :: vs => by
    have s1 := s.keptPush vs
    unfold keptW
    split
    · rename_i x o hx ho
      obtain ⟨sl, h1, h2, h3⟩ := keepV_fz ho
      obtain ⟨x', hx', T, r⟩ := s.seeO h1 h2
      rw [hx] at hx'
      cases hx'
      rcases h3 with ⟨d, rfl⟩ | ⟨ns, rfl⟩
      · exact s1.push (rp_v r)
      · cases r with
        | s h => exact s1.pushS h
    · exact s1
theorem Sta.kept {σ1 : St} {e1 e2 : En} (s : Sta K B F H σ1 e2 (keptW σ e1 vs ++ G)) (ok : SlOk B.vs σ e1) : Kept K F σ e1 vs := fun v hv o ho => by
  obtain ⟨sl, h1, h2, h3⟩ := keepV_fz ho
  obtain ⟨y, hy, hok⟩ := ok.sl v sl h1
  have : ∃ x, y = some x := by
    cases sl with
    | no => cases h2
    | own _ => exact hok
    | pin _ => obtain ⟨x, e, _⟩ := hok; exact ⟨x, e⟩
  obtain ⟨x, rfl⟩ := this
  have hm : (x, o) ∈ keptW σ e1 vs := by
    clear s
    induction vs with
    | nil => cases hv
    | cons u vs ih =>
      unfold keptW
      rcases List.mem_cons.mp hv with rfl | hv
      · rw [hy, ho]
        exact List.mem_append_left _ (List.mem_cons_self ..)
      · exact List.mem_append_right _ (ih hv)
  obtain ⟨T, r⟩ := s.rel.memAt (List.mem_append_right _ (List.mem_append_left _ hm))
  refine ⟨x, hy, fun H' => ?_⟩
  rcases h3 with ⟨d, rfl⟩ | ⟨ns, rfl⟩
  · exact .v (rp_v r)
  · cases r with
    | s h => exact .s h
theorem Sta.unhide1 {e1 : En} {v : Nat} {vs vs' : List Nat} (kp : Kept K F σ e1 vs') (hv' : v ∈ vs') (s : Sta K B F H (wipe σ (v :: vs)) e G) : Sta K B F H (wipe σ vs) (e.set v (if vs.contains v then .no else keepV e1[v]?)) G := by
  have s1 : Sta K B F H (wipe σ vs) (e.set v .no) G := by
    have q := s.wipe1 (v := v) (x := ((wipe σ vs)[v]?).join)
    have : (wipe σ (v :: vs)).set v ((wipe σ vs)[v]?).join = wipe σ vs := by
      show ((wipe σ vs).set v none).set v _ = _
      rw [List.set_set]
      apply List.ext_getElem?
      intro j
      by_cases h : v = j
      · subst h
        by_cases hv : v < (wipe σ vs).length
        · rw [List.getElem?_set_self hv, List.getElem?_eq_getElem hv]; rfl
        · rw [List.getElem?_eq_none (by rw [List.length_set]; omega), List.getElem?_eq_none (by omega)]
      · rw [List.getElem?_set_ne h]
    rw [this] at q
    exact q
  by_cases hc : vs.contains v = true
  · rw [if_pos hc]; exact s1
  · rw [if_neg hc]
    cases ho : (keepV e1[v]?).o? with
    | none =>
      have : keepV e1[v]? = .no := by
        cases h : keepV e1[v]? with
        | no => rfl
        | own o => rw [h] at ho; cases ho
        | pin o => rw [h] at ho; cases ho
      rw [this]
      exact s1
    | some o =>
      obtain ⟨x, hx, r⟩ := kp v hv' o ho
      have hx' : (wipe σ vs)[v]? = some (some x) := by
        rw [wipe_get, if_neg (fun z => hc (List.contains_iff_mem.mpr z))]
        exact hx
      have hlen : v < e.length := by
        have := (List.getElem?_eq_some_iff.mp hx').1
        rw [s1.ok.len, List.length_set] at this
        exact this
      obtain ⟨T, rl, nd, hp⟩ := s1.rel.res
      have q : Rel K B.H0 B.F0 F H ((x, o) :: (slots (wipe σ vs) (e.set v .no) ++ G)) := ⟨s1.rel.h0, s1.rel.f0, s1.rel.fn, s1.rel.fh, T, .cons (T1 := []) (r H) rl, nd, hp⟩
      have hsl : ∃ o', keepV e1[v]? = .own o' := by
        unfold keepV at ho ⊢
        split at ho <;> first | exact ⟨_, rfl⟩ | cases ho
      obtain ⟨o', hsl⟩ := hsl
      rw [hsl] at ho ⊢
      refine ⟨⟨by rw [List.length_set]; have := s1.ok.len; rw [List.length_set] at this; exact this, fun j sl hj => ?_⟩, q.perm ((slots_put ho hlen hx').append_right G).symm⟩
      by_cases h : v = j
      · subst h
        rw [List.getElem?_set_self hlen] at hj
        cases hj
        exact ⟨_, hx', x, rfl⟩
      · rw [List.getElem?_set_ne h] at hj
        exact s1.ok.sl j sl (by rw [List.getElem?_set_ne h]; exact hj)
theorem Sta.unhide {e1 : En} {vs' : List Nat} (kp : Kept K F σ e1 vs') : ∀ {vs : List Nat} {e : En}, (∀ v ∈ vs, v ∈ vs') → Sta K B F H (wipe σ vs) e G → Sta K B F H σ (unhide e1 e vs) G
  | [], _, _, s => s
  | v :: vs, e, hs, s => by
    unfold Dn.unhide
    exact Sta.unhide kp (fun u hu => hs u (List.mem_cons_of_mem _ hu)) (s.unhide1 kp (hs v (List.mem_cons_self ..)))
theorem lc_den {p q r : Bool} {mi : MD (List O)} {tg : Tg} {mt : MD Bool} {me : MD O} {vs : List Nat} : ∀ σ H Q, den K false (mLc mi tg mt me vs) σ H Q → tLc (denI K p mi) (tg.rd K) (denT K q mt) (den K r me) vs σ H Q := fun σ H Q ⟨B, F, e, G, x, e', s, hm, k⟩ => by
  unfold mLc at hm
  split at hm
  · rename_i os e1 h1
    split at hm
    · rename_i hz
      simp only [Bool.and_eq_true, decide_eq_true_eq] at hz
      split at hm
      · rename_i ys e2 h2
        obtain ⟨rfl, rfl⟩ := so hm
        refine ⟨B, F, e, G, os, e1, s, h1, fun F1 H1 J ims cs s1 r1 it sm1 D hD => ?_⟩
        subst r1
        have hlen : ims.length ≤ sizeLine := by
          have := hz.1
          rw [List.length_map] at this
          exact this
        -- the frozen slots are kept
        have s2 : Sta K B F1 H1 σ e1 (keptW σ e1 vs ++ (ims.flatMap Im.ws ++ (fxW cs ++ G))) := s1.keptPush vs
        have s3 : Sta K B F1 H1 (wipe σ vs) (Dn.hide e1 vs) (ims.flatMap Im.ws ++ (fxW cs ++ (keptW σ e1 vs ++ G))) := (s2.hide (vs := vs)).perm (by
          refine (pmid _ _ _).trans ?_
          exact List.Perm.append_left _ (pmid _ _ _))
        refine ⟨fun i m H => ∃ F e acc, i + m = ims.length ∧ acc.length ≤ i ∧ Sta K B F H (wipe σ vs) e ((.ref D, .l acc) :: ((ims.drop i).flatMap Im.ws ++ (fxW cs ++ (keptW σ e1 vs ++ G)))) ∧ ∃ zs, lcL tg mt me vs ((ims.drop i).map Im.o) e = some (zs, e2) ∧ acc ++ zs = ys,
          ⟨ims.length, F1, Dn.hide e1 vs, [], by omega, Nat.le_refl _, s3.newL (w := []) hD, ys, h2, rfl⟩, fun i m H ⟨F, e, acc, hl, ha, s4, zs, h4, hz4⟩ => ?_⟩
        have s5 : Sta K B F H (wipe σ vs) e ((ims.drop i).flatMap Im.ws ++ (fxW cs ++ (keptW σ e1 vs ++ G))) := s4.pop
        obtain ⟨g1, g2⟩ := it H s5.fixed
        cases m with
        | zero =>
          have : i = ims.length := by omega
          subst this
          rw [List.drop_length] at h4 s4
          cases h4
          rw [List.append_nil] at hz4
          subst hz4
          have s6 : Sta K B F H (wipe σ vs) e2 (keptW σ e1 vs ++ ((.ref D, .l acc) :: G)) := by
            have q0 : Sta K B F H (wipe σ vs) e2 ((.ref D, .l acc) :: (fxW cs ++ (keptW σ e1 vs ++ G))) := s4
            have q1 : Sta K B F H (wipe σ vs) e2 (fxW cs ++ ((.ref D, .l acc) :: (keptW σ e1 vs ++ G))) := q0.perm (mid _ _ _).symm
            exact q1.drop.perm (mid _ _ _).symm
          have kp := s6.kept s1.ok
          exact .inl ⟨g2, k F H _ (Sta.unhide kp (fun _ h => h) s6.drop) fun z => nomatch z⟩
        | succ m =>
          have hlt : i < ims.length := by omega
          obtain ⟨f1, f2⟩ := g1 i ims[i] (List.getElem?_eq_getElem hlt)
          rw [List.drop_eq_getElem_cons hlt] at h4 s4
          simp only [List.map_cons, List.flatMap_cons, List.append_assoc] at h4 s4
          unfold lcL at h4
          refine .inr ⟨f1, fun H => ∃ F e acc, acc.length ≤ i + 1 ∧ Sta K B F H (wipe σ vs) e ((.ref D, .l acc) :: ((ims.drop (i + 1)).flatMap Im.ws ++ (fxW cs ++ (keptW σ e1 vs ++ G)))) ∧ ∃ zs, lcL tg mt me vs ((ims.drop (i + 1)).map Im.o) e = some (zs, e2) ∧ acc ++ zs = ys,
            fun H' ⟨F', e', acc', q1, q2, q3⟩ => ⟨m, Nat.lt_succ_self _, F', e', acc', by omega, q1, q2, q3⟩, fun x H3 hy => ?_⟩
          have s6 : Sta K B F H3 (wipe σ vs) e ((x, (ims[i]).o) :: ((.ref D, .l acc) :: ((ims.drop (i + 1)).flatMap Im.ws ++ (fxW cs ++ (keptW σ e1 vs ++ G))))) := Sta.item (s4.perm (mid _ _ _).symm) (f2 x H3 hy)
          split at h4
          · rename_i ea ha1
            refine asg_run (vs := vs) s6 ha1 fun F7 σ7 s7 _ hw => ⟨?_, ?_⟩
            · rw [hw hz.2, wipe_wipe]
            · split at h4
              · rename_i eb hb
                refine ⟨B, F7, ea, _, true, eb, s7, hb, fun F8 H8 s8 _ => iteT ?_⟩
                split at h4
                · rename_i y ec hc
                  refine ⟨B, F8, eb, _, y, ec, s8, hc, fun F9 H9 v s9 _ => ?_⟩
                  split at h4
                  · rename_i ys' ed hd
                    obtain ⟨rfl, rfl⟩ := so h4
                    have s10 : Sta K B F9 H9 σ7 ec ((.ref D, .l acc) :: ((v, y) :: ((ims.drop (i + 1)).flatMap Im.ws ++ (fxW cs ++ (keptW σ e1 vs ++ G))))) := s9.perm (.swap _ _ _)
                    obtain ⟨p', w, hpe, hp, hw2, q⟩ := (s10.rel.perm (mid _ _ _)).put
                    cases hpe
                    refine ⟨_, hp, ?_, F9, Dn.hide ec vs, acc ++ [y], ?_, ?_, ys', hd, ?_⟩
                    · rw [List.length_map]
                      have : w.length = acc.length := by rw [← hw2, List.length_map]
                      omega
                    · rw [List.length_append, List.length_singleton]; omega
                    · have r2 := q (w ++ [(v, y)]) (slots σ7 ec ++ ((ims.drop (i + 1)).flatMap Im.ws ++ (fxW cs ++ (keptW σ e1 vs ++ G)))) (by
                        rw [List.append_assoc]
                        refine List.Perm.append_left _ ?_
                        exact mid _ _ _)
                      rw [List.map_append, List.map_append, hw2] at r2
                      have s11 : Sta K B F9 (upd H9 D (.lst (w.map (·.1) ++ [v]))) σ7 ec ((.ref D, .l (acc ++ [y])) :: ((ims.drop (i + 1)).flatMap Im.ws ++ (fxW cs ++ (keptW σ e1 vs ++ G)))) := ⟨s10.ok, r2.perm (mid _ _ _).symm⟩
                      have s12 := s11.hide (vs := vs)
                      rw [hw hz.2, wipe_wipe] at s12
                      exact s12
                    · rw [← hz4, List.append_assoc]; rfl
                  · cases h4
                · cases h4
              · rename_i eb hb
                refine ⟨B, F7, ea, _, false, eb, s7, hb, fun F8 H8 s8 _ => iteF ⟨F8, Dn.hide eb vs, acc, by omega, ?_, zs, h4, hz4⟩⟩
                have s12 := s8.hide (vs := vs)
                rw [hw hz.2, wipe_wipe] at s12
                exact s12
              · cases h4
          · cases h4
      · cases hm
    · cases hm
  · cases hm
end
end Dn

set_option Elab.async false
set_option linter.all false
set_option maxRecDepth 100000
set_option maxHeartbeats 4000000
namespace Dn
open PySem L2
section
variable {X : Cx} {K : PySem.W.Frag}
theorem d_lc {elt tgE iter : Expr} {ifs : List Expr} {scope : Scope} {own : List (Str × Nat)} {pos : Pos} {tg : Tg} {p q r : Bool} {mi : MD (List O)} {mt : MD Bool} {me : MD O} (hc : X.calm = true) (hN : X.N.Nodup) (hi : PI X tgE iter (denI X.K p mi)) (ok : BlkOk X.N X.env.scope scope own)
    (hg : ∀ (s : Shared) (H : Hp) (C : Addr) (cl : List (Str × Addr)) (fp : List Addr), PG (X.blk s H scope (compEnvC scope cl C X.env) fp) tgE (tg.rd X.K))
    (ht : ∀ (s : Shared) (H : Hp) (C : Addr) (cl : List (Str × Addr)) (fp : List Addr), PTs (X.blk s H scope (compEnvC scope cl C X.env) fp) ifs (denT X.K q mt))
    (he : ∀ (s : Shared) (H : Hp) (C : Addr) (cl : List (Str × Addr)) (fp : List Addr), PE (X.blk s H scope (compEnvC scope cl C X.env) fp) elt (den X.K r me)) (hs : ∀ x, foldedSetIterable iter X.env x = pure x := by intro _; rfl) :
    PE X (.ListComp elt [⟨tgE, iter, ifs, 0⟩] scope pos) (den X.K false (mLc mi tg mt me (own.map (·.2)))) := pe_imp (pe_lc hc hN hi ok hg ht he hs) lc_den
theorem ds_setLc {i : Nat} {y : Str} {py : Pos} {elt tgE iter : Expr} {ifs : List Expr} {scope : Scope} {own : List (Str × Nat)} {pos spos : Pos} {tg : Tg} {p q r : Bool} {mi : MD (List O)} {mt : MD Bool} {me : MD O} (hc : X.calm = true) (hN : X.N.Nodup) (hy : X.N[i]? = some y) (hyl : X.env.scope.names.lookup y = some .local)
    (hsw : swapsWith (.ListComp elt [⟨tgE, iter, ifs, 0⟩] scope pos) (some (.Name y py)) spos.line X.env = pure true) (hi : PI X tgE iter (denI X.K p mi)) (ok : BlkOk X.N X.env.scope scope own)
    (hg : ∀ (s : Shared) (H : Hp) (C : Addr) (cl : List (Str × Addr)) (fp : List Addr), PG (X.blk s H scope (compEnvC scope cl C X.env) fp) tgE (tg.rd X.K))
    (ht : ∀ (s : Shared) (H : Hp) (C : Addr) (cl : List (Str × Addr)) (fp : List Addr), PTs (X.blk s H scope (compEnvC scope cl C X.env) fp) ifs (denT X.K q mt))
    (he : ∀ (s : Shared) (H : Hp) (C : Addr) (cl : List (Str × Addr)) (fp : List Addr), PE (X.blk s H scope (compEnvC scope cl C X.env) fp) elt (den X.K r me)) (hs : ∀ x, foldedSetIterable iter X.env x = pure x := by intro _; rfl) :
    PS X (.Assign [.Name y py] (.ListComp elt [⟨tgE, iter, ifs, 0⟩] scope pos) spos) (denS X.K (mSet i (mLc mi tg mt me (own.map (·.2))))) := ps_imp (ps_setLc hc hN hy hyl hsw hi ok hg ht he hs) (mSet_den lc_den)
def mYes : MD Bool := fun e => some (true, e)
theorem dts_nil : PTs X [] (denT X.K true mYes) := ⟨fun pins s σ H Q I h => pts_nil.run pins s σ H Q I (by
  obtain ⟨B, F, e, G, b, e', st, hm, k⟩ := h
  cases hm
  exact k F H st fun _ => .refl _)⟩
theorem dts_one {c : Expr} {p : Bool} {m : MD Bool} (h : PT X c (denT X.K p m)) : PTs X [c] (denT X.K p m) := pts_one h
/-- targets -/
theorem dg_name {i : Nat} {x : Str} {pos : Pos} (hN : X.N.Nodup) (hi : X.N[i]? = some x) (hx : Loc X.env.scope x) (hf : X.fn x = true ∨ X.env.scope.names.lookup x = some .local := by first | exact .inl rfl | exact .inr rfl | assumption) : PG X (.Name x pos) ((Tg.n i).rd K) := by
  unfold Tg.rd
  exact pg_name hN hi hx hf
theorem dgs_nil : PGs X [] (Tg.rds K []) := by
  unfold Tg.rds
  exact pgs_nil
theorem dgs_cons {e : Expr} {es : List Expr} {t : Tg} {ts : List Tg} (h1 : PG X e (t.rd K)) (h2 : PGs X es (Tg.rds K ts))
    (hs : (assignEach (e :: es) X.env).map (·.2) = assign e X.env :: (assignEach es X.env).map (·.2) := by rfl) : PGs X (e :: es) (Tg.rds K (t :: ts)) := by
  unfold Tg.rds
  exact pgs_cons h1 h2 hs
theorem dg_tup {es : List Expr} {k : Nat} {ts : List Tg} {pos : Pos} (hc : X.calm = true) (h : PGs X es (Tg.rds X.K ts))
    (hn : (assignEach es X.env).length = ts.length := by rfl) (hst : (assignEach es X.env).findIdx? (·.1) = none := by rfl) : PG X (.Tuple es k pos) ((Tg.tp ts).rd X.K) := by
  unfold Tg.rd
  exact pg_tup hc h hn hst
/-- a, b = e -/
def mAsg (tg : Tg) (m : MD O) : MS := fun e => match m e with
  | some (x, e1) => (match asg tg x e1 with
    | some e2 => some (.nx e2)
    | none => none)
  | none => none
theorem ds_asg {tgE e : Expr} {tg : Tg} {p : Bool} {m : MD O} {pos : Pos} (he : PE X e (den X.K p m)) (hg : PG X tgE (tg.rd X.K)) (hs : swapsWithSole [tgE] e pos.line X.env = pure false := by rfl) (hw : swappedStores [tgE] e X.env = pure none := by rfl)
    (h1 : (assignEach [tgE] X.env).map (·.2) = [assign tgE X.env] := by rfl) : PS X (.Assign [tgE] e pos) (denS X.K (mAsg tg m)) := ps_imp (ps_asg he hg hs hw h1) fun D σ H ⟨B, F, e, G, oc, s, hm, k⟩ => by
  unfold mAsg at hm
  split at hm
  · rename_i x e1 h1
    split at hm
    · rename_i e2 h2
      cases hm
      exact ⟨B, F, e, G, x, e1, s, h1, fun F1 H1 v s1 _ => asg_run (vs := []) s1 h2 fun F2 σ2 s2 _ _ => k F2 H1 σ2 s2⟩
    · cases hm
  · cases hm
/-- x += e, ints -/
def mAugI (i : Nat) (m : MD O) : MS := fun e => match e[i]? with
  | some (.own (.v (.int a))) => (match m e with
    | some (.v (.int b), e1) => (match setE e1 i (.v (.int (a + b))) with
      | some e2 => some (.nx e2)
      | none => none)
    | _ => none)
  | _ => none
theorem ds_augI {i : Nat} {x : Str} {e : Expr} {p : Bool} {m : MD O} {pos pos' : Pos} (hN : X.N.Nodup) (hi : X.N[i]? = some x) (hx : Loc X.env.scope x) (he : PE X e (den X.K p m)) (hf : X.fn x = true ∨ X.env.scope.names.lookup x = some .local := by first | exact .inl rfl | exact .inr rfl | assumption) :
    PS X (.AugAssign (.Name x pos') .Add e pos) (denS X.K (mAugI i m)) := ps_imp (ps_aug hN hi hx he ip_add hf) fun D σ H ⟨B, F, e, G, oc, s, hm, k⟩ => by
  unfold mAugI at hm
  split at hm
  · rename_i a h0
    split at hm
    · rename_i b e1 h1
      split at hm
      · rename_i e2 h2
        cases hm
        obtain ⟨v, hv, T, r⟩ := s.seeO h0 (show (Sl.own (.v (.int a))).o? = some (.v (.int a)) from rfl)
        obtain rfl := rp_int r
        refine ⟨_, hv, B, F, e, G, _, e1, s, h1, fun F1 H1 v s1 _ => ?_⟩
        obtain ⟨T, r1⟩ := s1.at
        obtain rfl := rp_int r1
        exact ⟨a, b, rfl, rfl, k F1 H1 _ (setE_store (s1.pop.push (.int _)) h2)⟩
      · cases hm
    · cases hm
  · cases hm

/-! ### defs -/
def pinsOf : List Bool → En → Option (List O)
  | [], _ => some []
  | false :: br, _ :: e => pinsOf br e
  | true :: br, .pin o :: e => (match pinsOf br e with
    | some os => some (o :: os)
    | none => none)
  | _, _ => none
def brV {α : Type} : List Bool → List α → List α
  | true :: br, v :: vs => v :: brV br vs
  | false :: br, _ :: vs => brV br vs
  | _, _ => []
def env0 : List Bool → List O → En
  | true :: br, o :: os => .pin o :: env0 br os
  | false :: br, o :: os => .own o :: env0 br os
  | _, _ => []
/-- a def's run: n slots, br tells which parameters are lent -/
def runF (n : Nat) (br : List Bool) (m : MS) (os : List O) : Option (O × List O) := if os.length = br.length then
    (match m (env0 br os ++ List.replicate (n - br.length) .no) with
    | some (.rt x e) => (match pinsOf br e with
      | some os' => some (x, os')
      | none => none)
    | some (.nx e) => (match pinsOf br e with
      | some os' => some (.v .none, os')
      | none => none)
    | _ => none) else none
/-- the promise -/
def spOf (K : PySem.W.Frag) (br : List Bool) (sem : List O → Option (O × List O)) : Sp := fun vs H Q _ => ∃ H0 F os x os', vs.length = br.length ∧ os.length = br.length ∧ Rel K H0 F F H (vs.zip os) ∧ sem os = some (x, os') ∧ ∀ F' H' v, Rel K H0 F F' H' ((v, x) :: (brV br vs).zip os') → Q v H'
theorem env0_len : ∀ {br : List Bool} {os : List O}, os.length = br.length → (env0 br os).length = br.length
  | [], [], _ => rfl
  | true :: br, o :: os, h => by simp only [env0, List.length_cons, env0_len (by simpa using h)]
  | false :: br, o :: os, h => by simp only [env0, List.length_cons, env0_len (by simpa using h)]
  | [], _ :: _, h => by simp at h
  | _ :: _, [], h => by simp at h
theorem slots_rep : ∀ (n : Nat) (σ : St), slots σ (List.replicate n .no) = []
  | 0, σ => by cases σ <;> simp [slots]
  | n + 1, [] => rfl
  | n + 1, x :: σ => by
    rw [List.replicate_succ]
    cases x <;> exact slots_rep n σ
theorem slots_env0 : ∀ {br : List Bool} {vs : List V} {os : List O} {t : St} {u : En}, vs.length = br.length → os.length = br.length → slots (vs.map some ++ t) (env0 br os ++ u) = vs.zip os ++ slots t u
  | [], [], [], t, u, _, _ => rfl
  | b :: br, v :: vs, o :: os, t, u, h1, h2 => by
    have ih := slots_env0 (br := br) (vs := vs) (os := os) (t := t) (u := u) (by simpa using h1) (by simpa using h2)
    cases b
    · simp only [List.map_cons, env0, List.cons_append, slots, ih, List.zip_cons_cons]
    · simp only [List.map_cons, env0, List.cons_append, slots, ih, List.zip_cons_cons]
  | [], _ :: _, _, _, _, h, _ => by simp at h
  | [], [], _ :: _, _, _, _, h => by simp at h
  | _ :: _, [], _, _, _, h, _ => by simp at h
  | _ :: _, _ :: _, [], _, _, _, h => by simp at h
theorem ok_env0 {br : List Bool} {vs : List V} {os : List O} {n : Nat} (h1 : vs.length = br.length) (h2 : os.length = br.length) : SlOk vs (vs.map some ++ List.replicate (n - vs.length) none) (env0 br os ++ List.replicate (n - br.length) .no) := by
  refine ⟨by rw [List.length_append, List.length_append, List.length_map, List.length_replicate, List.length_replicate, env0_len h2, h1], fun i s hi => ?_⟩
  by_cases hb : i < br.length
  · have hv : i < vs.length := by rw [h1]; exact hb
    refine ⟨some vs[i], by rw [List.getElem?_append_left (by rw [List.length_map]; exact hv), List.getElem?_map, List.getElem?_eq_getElem hv]; rfl, ?_⟩
    cases s with
    | no => trivial
    | own o => exact ⟨_, rfl⟩
    | pin o => exact ⟨_, rfl, List.getElem?_eq_getElem hv⟩
  · rw [List.getElem?_append_right (by rw [env0_len h2]; omega), List.getElem?_replicate] at hi
    split at hi
    · rename_i hlt
      cases hi
      rw [env0_len h2] at hlt
      refine ⟨none, ?_, trivial⟩
      rw [List.getElem?_append_right (by rw [List.length_map]; omega), List.length_map, List.getElem?_replicate, if_pos (by rw [h1]; exact hlt)]
    · cases hi
/-- the lent things stand in their slots -/
theorem pins_out : ∀ {br : List Bool} {vs : List V} {σ : St} {e : En} {os : List O}, pinsOf br e = some os → vs.length = br.length → σ.length = e.length → (∀ i : Nat, ∀ o, e[i]? = some (.pin o) → ∃ v, vs[i]? = some v ∧ σ[i]? = some (some v)) → ∃ r, (slots σ e).Perm ((brV br vs).zip os ++ r)
  | [], vs, σ, e, os, h, hl, _, _ => by
    cases h
    exact ⟨slots σ e, by cases vs <;> exact .refl _⟩
  | false :: br, v :: vs, σ, s :: e, os, h, hl, hse, k => by
    have h' : pinsOf br e = some os := h
    cases σ with
    | nil => simp at hse
    | cons x σ =>
      obtain ⟨r, pr⟩ := pins_out (vs := vs) (σ := σ) h' (by simpa using hl) (by simpa using hse) (fun i o hi => by
        obtain ⟨v', h1, h2⟩ := k (i + 1) o (by simpa using hi)
        exact ⟨v', by simpa using h1, by simpa using h2⟩)
      cases x with
      | none => exact ⟨r, pr⟩
      | some x =>
        cases s with
        | no => exact ⟨r, pr⟩
        | own o => exact ⟨(x, o) :: r, (pr.cons _).trans (mid _ _ _).symm⟩
        | pin o => exact ⟨(x, o) :: r, (pr.cons _).trans (mid _ _ _).symm⟩
  | true :: br, v :: vs, σ, s :: e, os, h, hl, hse, k => by
    cases s with
    | pin o =>
      unfold pinsOf at h
      split at h
      · rename_i os' h'
        cases h
        obtain ⟨v', h1, h2⟩ := k 0 o rfl
        cases h1
        cases σ with
        | nil => simp at h2
        | cons x σ =>
          simp only [List.getElem?_cons_zero, Option.some.injEq] at h2
          subst h2
          obtain ⟨r, pr⟩ := pins_out (vs := vs) (σ := σ) h' (by simpa using hl) (by simpa using hse) (fun i o hi => by
            obtain ⟨v', h1, h2⟩ := k (i + 1) o (by simpa using hi)
            exact ⟨v', by simpa using h1, by simpa using h2⟩)
          exact ⟨r, pr.cons _⟩
      · cases h
    | no => cases h
    | own o => cases h
  | _ :: _, [], _, _, _, _, hl, _, _ => by simp at hl
  | false :: _, _ :: _, _, [], _, h, _, _, _ => by cases h
  | true :: _, _ :: _, _, [], _, h, _, _, _ => by cases h
theorem ret_run {B : Bs} {br : List Bool} {F H : Hp} {σ : St} {e : En} {v : V} {x : O} {os : List O} (s : Sta K B F H σ e [(v, x)]) (hp : pinsOf br e = some os) (hl : B.vs.length = br.length) : Rel K B.H0 B.F0 F H ((v, x) :: (brV br B.vs).zip os) := by
  obtain ⟨r, pr⟩ := pins_out (vs := B.vs) (σ := σ) hp hl s.ok.len (fun i o hi => by
    obtain ⟨y, h1, v', rfl, h3⟩ := s.ok.sl i _ hi
    exact ⟨v', h3, h1⟩)
  have q := s.rel.perm (mid _ _ _)
  rw [List.append_nil] at q
  have q2 := q.perm (pr.cons _)
  have q3 := q2.perm (show ((v, x) :: ((brV br B.vs).zip os ++ r)).Perm (r ++ ((v, x) :: (brV br B.vs).zip os)) by
    rw [← List.cons_append]
    exact List.perm_append_comm)
  exact q3.drop
/-- THE RULE for a def -/
theorem okD {P : Program} {w : World} {mg : Str → Option Value} {base : Heap} {x qual : Str} {st : Stmt} {f : Addr} {fd : FuncData} {N ps : List Str} {k : Nat} {br : List Bool} {m : MS} (F : Fun K x qual st f fd) (S : FnScope N ps (defScope st)) (hbr : br.length = ps.length)
    (hbody : ∀ (cdv : Value) (A : Around) (outer : List Env) (s : Shared) (H : Hp) (E : XK), RoomG k (A.deeper (PyProof.Rows.envOfC qual (defScope st) s.heap.objs.size f cdv)) → PSs (cxOf CX0 P w K mg base N qual (defScope st) f cdv A outer s H E).nox (defBody st) (denS K m)) :
    FnG P w K mg base CX0 (k + 1) f fd ps (spOf K br (runF N.length br m)) := by
  refine Dn.Fun.okG F S (fun vs H Q E h => ?_) (fun cdv A outer s H vs Q E hr h => ⟨_, (hbody cdv A outer s H E hr).nox, ?_⟩)
  · obtain ⟨_, _, _, _, _, h, _⟩ := h
    rw [h, hbr]
  · obtain ⟨H0, F0, os, x, os', hl, hlo, rel, hm, q⟩ := h
    unfold runF at hm
    rw [if_pos hlo] at hm
    have hs : Sta K ⟨H0, F0, vs⟩ F0 H (L2.start N vs) (env0 br os ++ List.replicate (N.length - br.length) .no) [] := by
      refine ⟨?_, ?_⟩
      · exact ok_env0 hl hlo
      · unfold L2.start
        rw [slots_env0 hl hlo, slots_rep, List.append_nil, List.append_nil]
        exact rel
    split at hm
    · rename_i y e h1
      split at hm
      · rename_i os2 h2
        obtain ⟨rfl, rfl⟩ := so hm
        exact ⟨_, F0, _, [], _, hs, h1, fun F1 H1 σ1 v s1 => q F1 H1 v (ret_run (B := ⟨H0, F0, vs⟩) s1 h2 hl)⟩
      · cases hm
    · rename_i e h1
      split at hm
      · rename_i os2 h2
        obtain ⟨rfl, rfl⟩ := so hm
        exact ⟨_, F0, _, [], _, hs, h1, fun F1 H1 σ1 s1 => q F1 H1 .non (ret_run (B := ⟨H0, F0, vs⟩) (s1.push .non) h2 hl)⟩
      · cases hm
    · cases hm
end
end Dn

set_option Elab.async false
set_option linter.all false
set_option maxRecDepth 100000
set_option maxHeartbeats 4000000
namespace Dn
open PySem L2
abbrev Sem1 := List O → Option (O × List O)
section
variable {X : Cx} {K : PySem.W.Frag} {p : Bool} {ms : MD (List O)} {sem : Sem1}
/-- f(..): all arguments are frozen -/
def mCall (sem : Sem1) (ms : MD (List O)) : MD O := fun e => match ms e with
  | some (xs, e1) => if xs.all O.fz then (match sem xs with
    | some (x, []) => some (x, e1)
    | _ => none) else none
  | none => none
/-- f(..): the arguments are handed over -/
def mCallM (sem : Sem1) (ms : MD (List O)) : MD O := fun e => match ms e with
  | some (xs, e1) => (match sem xs with
    | some (x, []) => some (x, e1)
    | _ => none)
  | none => none
/-- f(..): the arguments are looked at, a scalar is told -/
def mCallL (sem : Sem1) (ms : MD (List O)) : MD O := fun e => match ms e with
  | some (xs, e1) => (match O.toDs xs with
    | some ds => (match sem (ds.map .v) with
      | some (.v z, []) => if (sV z).isSome then some (.v z, e1) else none
      | _ => none)
    | none => none)
  | none => none
theorem brV_no {α : Type} : ∀ (n : Nat) (vs : List α), brV (List.replicate n false) vs = []
  | 0, _ => by cases ‹List α› <;> rfl
  | n + 1, [] => rfl
  | n + 1, _ :: vs => brV_no n vs
theorem zip_ws (ws : Ws) : (ws.map (·.1)).zip (ws.map (·.2)) = ws := (zip_self ws).symm
theorem call_run {B : Bs} {F H : Hp} {σ : St} {e : En} {G ws : Ws} {x : O} {Q : VK} {n : Nat} (s : Sta K B F H σ e (ws ++ G)) (hn : ws.length = n) (hm : sem (ws.map (·.2)) = some (x, []))
    (k : ∀ F' H' v, Sta K B F' H' σ e ((v, x) :: G) → ((∀ w ∈ ws, w.2.fz = true) → Same H H') → Q v H') (E : XK) : spOf K (List.replicate n false) sem (ws.map (·.1)) H Q E := by
  obtain ⟨H1, r1, r2, r3⟩ := (s.rel.perm (pmid _ _ _)).hand
  refine ⟨H1, F, ws.map (·.2), x, [], by rw [List.length_map, List.length_replicate, hn], by rw [List.length_map, List.length_replicate, hn], by rw [zip_ws]; exact r1, hm, fun F' H' v r => ?_⟩
  rw [brV_no] at r
  have q := r2 F' H' [(v, x)] r
  refine k F' H' v ⟨s.ok, q.perm (show ((v, x) :: (slots σ e ++ G)).Perm (slots σ e ++ (v, x) :: G) from (mid _ _ _).symm)⟩ fun hz => ?_
  have := r.h0
  rw [r3 hz] at this
  exact this
theorem mCall_den {n : Nat} {E : XK} {t : TA} (hn : ∀ e xs e1, ms e = some (xs, e1) → xs.length = n) (hl : AS K p ms t) : ∀ σ H Q, den K p (mCall sem ms) σ H Q → tCall (spOf K (List.replicate n false) sem) [] E t σ H Q := fun σ H Q ⟨B, F, e, G, y, e', s, hm, k⟩ => by
  unfold mCall at hm
  split at hm
  · rename_i xs e1 h1
    split at hm
    · rename_i hz
      split at hm
      · rename_i x h2
        obtain ⟨rfl, rfl⟩ := so hm
        refine hl σ H _ ⟨B, F, e, G, xs, e1, s, h1, fun F1 H1 ws s1 r1 sm1 => ?_⟩
        subst r1
        rw [List.append_nil]
        refine call_run s1 (by have := hn _ _ _ h1; rw [List.length_map] at this; exact this) h2 (fun F2 H2 v s2 sm2 => k F2 H2 v s2 fun z => (sm1 z).trans (sm2 fun w hw => ?_)) E
        exact List.all_eq_true.mp hz _ (List.mem_map.mpr ⟨w, hw, rfl⟩)
      · cases hm
    · cases hm
  · cases hm
theorem mCallM_den {n : Nat} {E : XK} {t : TA} (hn : ∀ e xs e1, ms e = some (xs, e1) → xs.length = n) (hl : AS K p ms t) : ∀ σ H Q, den K false (mCallM sem ms) σ H Q → tCall (spOf K (List.replicate n false) sem) [] E t σ H Q := fun σ H Q ⟨B, F, e, G, y, e', s, hm, k⟩ => by
  unfold mCallM at hm
  split at hm
  · rename_i xs e1 h1
    split at hm
    · rename_i x h2
      obtain ⟨rfl, rfl⟩ := so hm
      refine hl σ H _ ⟨B, F, e, G, xs, e1, s, h1, fun F1 H1 ws s1 r1 sm1 => ?_⟩
      subst r1
      rw [List.append_nil]
      exact call_run s1 (by have := hn _ _ _ h1; rw [List.length_map] at this; exact this) h2 (fun F2 H2 v s2 sm2 => k F2 H2 v s2 fun z => nomatch z) E
    · cases hm
  · cases hm
theorem rpl_dfs {F H : Hp} : ∀ {vs : List V} {ds : List PyData}, DfAll K F vs ds → RpL K F H (vs.zip (ds.map O.v)) []
  | _, _, .nil => .nil
  | _, _, .cons a t => .cons (T1 := []) (.v a) (rpl_dfs t)
theorem mCallL_den {n : Nat} {E : XK} {t : TA} (hn : ∀ e xs e1, ms e = some (xs, e1) → xs.length = n) (hl : LS K p ms t) : ∀ σ H Q, den K p (mCallL sem ms) σ H Q → tCall (spOf K (List.replicate n false) sem) [] E t σ H Q := fun σ H Q ⟨B, F, e, G, y, e', s, hm, k⟩ => by
  unfold mCallL at hm
  split at hm
  · rename_i xs e1 h1
    split at hm
    · rename_i ds h2
      split at hm
      · rename_i z h3
        split at hm
        · rename_i hz
          obtain ⟨rfl, rfl⟩ := so hm
          refine hl σ H _ ⟨B, F, e, G, xs, e1, s, h1, fun F1 H1 vs s1 r1 sm1 => ?_⟩
          show spOf K (List.replicate n false) sem (vs ++ []) H1 Q E
          rw [List.append_nil]
          have hd := r1.df s1.fh h2
          have hlv : vs.length = ds.length := dfa_len hd
          have hlx : ds.length = n := by
            rw [← hn _ _ _ h1]
            clear h1 h3 hz hd hlv r1 k hn
            induction xs generalizing ds with
            | nil => unfold O.toDs at h2; cases h2; rfl
            | cons x xs ih =>
              unfold O.toDs at h2
              split at h2
              · rename_i d ds' _ h5
                cases h2
                rw [List.length_cons, List.length_cons, ih _ h5]
              · cases h2
          refine ⟨H1, H1, ds.map .v, _, [], by rw [List.length_replicate, hlv, hlx], by rw [List.length_map, List.length_replicate, hlx], ⟨.refl _, .refl _, fun p o e => .inl e, .refl _, [], rpl_dfs hd, .nil, fun p hp => nomatch hp⟩, h3, fun F' H' v r => ?_⟩
          rw [brV_no] at r
          obtain ⟨v', hv'⟩ := Option.isSome_iff_exists.mp hz
          have e : v = v' := df_sV hv' r.dp
          subst e
          have sm : Same H1 H' := r.h0
          refine k F1 H' v (Sta.push ?_ (sV_df hv')) fun z => (sm1 z).trans sm
          obtain ⟨T, rl, nd, hp⟩ := s1.rel.res
          refine ⟨s1.ok, s1.rel.h0.trans sm, s1.rel.f0, s1.rel.fn, s1.rel.fh.trans sm, T, rpl_mono (.refl _) rl fun p q => ?_, nd, hp⟩
          cases e : H1 p with
          | none => exact absurd e (rpl_dom rl p q)
          | some o => exact sm p o e
        · cases hm
      · cases hm
    · cases hm
  · cases hm
variable {k : Nat} {f : Addr} {fd : FuncData} {ps : List Str} {x : Str} {p1 pos : Pos} {e : Expr} {es : List Expr} {n : Nat}
theorem d_call (F : FnG X.prog X.w X.K X.mg X.base CX0 k f fd ps (spOf X.K (List.replicate n false) sem)) (hr : RoomG k X.A) (hg : Gl X x) (hm : X.mg x = some (.ref f)) (hk : PySem.W.keepIn X.K (.ref f) = true) (hb : Binds X.K fd ps [])
    (hn : ∀ e xs e1, ms e = some (xs, e1) → xs.length = n) (ha : PA X (e :: es) (denA X.K p ms)) (hdb : (x == ("__debug__" : Str)) = false := by decide) (he : starEach (e :: es) X.env = (false, eval e X.env) :: starEach es X.env := by rfl) (hpl : (backTo pos (starEach es X.env)).any (·.1) = false := by rfl) :
    PE X (.Call (.Name x p1) (e :: es) [] pos) (den X.K p (mCall sem ms)) := pe_imp (pe_callG F hr hg hm hk hb .nil pass0 ha hdb he hpl) (mCall_den hn fun _ _ _ h => h)
theorem d_callM (F : FnG X.prog X.w X.K X.mg X.base CX0 k f fd ps (spOf X.K (List.replicate n false) sem)) (hr : RoomG k X.A) (hg : Gl X x) (hm : X.mg x = some (.ref f)) (hk : PySem.W.keepIn X.K (.ref f) = true) (hb : Binds X.K fd ps [])
    (hn : ∀ e xs e1, ms e = some (xs, e1) → xs.length = n) (ha : PA X (e :: es) (denA X.K p ms)) (hdb : (x == ("__debug__" : Str)) = false := by decide) (he : starEach (e :: es) X.env = (false, eval e X.env) :: starEach es X.env := by rfl) (hpl : (backTo pos (starEach es X.env)).any (·.1) = false := by rfl) :
    PE X (.Call (.Name x p1) (e :: es) [] pos) (den X.K false (mCallM sem ms)) := pe_imp (pe_callG F hr hg hm hk hb .nil pass0 ha hdb he hpl) (mCallM_den hn fun _ _ _ h => h)
theorem d_callL (F : FnG X.prog X.w X.K X.mg X.base CX0 k f fd ps (spOf X.K (List.replicate n false) sem)) (hr : RoomG k X.A) (hg : Gl X x) (hm : X.mg x = some (.ref f)) (hk : PySem.W.keepIn X.K (.ref f) = true) (hb : Binds X.K fd ps [])
    (hn : ∀ e xs e1, ms e = some (xs, e1) → xs.length = n) (ha : PA X (e :: es) (denL X.K p ms)) (hdb : (x == ("__debug__" : Str)) = false := by decide) (he : starEach (e :: es) X.env = (false, eval e X.env) :: starEach es X.env := by rfl) (hpl : (backTo pos (starEach es X.env)).any (·.1) = false := by rfl) :
    PE X (.Call (.Name x p1) (e :: es) [] pos) (den X.K p (mCallL sem ms)) := pe_imp (pe_callG F hr hg hm hk hb .nil pass0 ha hdb he hpl) (mCallL_den hn fun _ _ _ h => h)
/-! how many arguments there are -/
theorem n_nil : ∀ e xs e1, lNil e = some (xs, e1) → xs.length = 0 := fun e xs e1 h => by cases h; rfl
theorem n_cons {m : MD O} {ms : MD (List O)} {n : Nat} (h : ∀ e xs e1, ms e = some (xs, e1) → xs.length = n) : ∀ e xs e1, lCons m ms e = some (xs, e1) → xs.length = n + 1 := fun e xs e1 hm => by
  unfold lCons at hm
  split at hm
  · split at hm
    · rename_i h2
      obtain ⟨rfl, rfl⟩ := so hm
      rw [List.length_cons, h _ _ _ h2]
    · cases hm
  · cases hm
theorem n_mv {i : Nat} {ms : MD (List O)} {n : Nat} (h : ∀ e xs e1, ms e = some (xs, e1) → xs.length = n) : ∀ e xs e1, aMv i ms e = some (xs, e1) → xs.length = n + 1 := fun e xs e1 hm => by
  unfold aMv at hm
  split at hm
  · split at hm
    · rename_i h2
      split at hm
      · obtain ⟨rfl, rfl⟩ := so hm
        rw [List.length_cons, h _ _ _ h2]
      · cases hm
    · cases hm
  · cases hm
theorem n_see {i : Nat} {ms : MD (List O)} {n : Nat} (h : ∀ e xs e1, ms e = some (xs, e1) → xs.length = n) : ∀ e xs e1, lSee i ms e = some (xs, e1) → xs.length = n + 1 := fun e xs e1 hm => by
  unfold lSee at hm
  split at hm
  · split at hm
    · rename_i h2
      split at hm
      · obtain ⟨rfl, rfl⟩ := so hm
        rw [List.length_cons, h _ _ _ h2]
      · cases hm
    · cases hm
  · cases hm

/-! ### things that are lent -/
def aRf (i : Nat) (ms : MD (List O)) : MD (List O) := fun e => match bVar i e with
  | some _ => (match ms e with
    | some (xs, e1) => (match bVar i e1 with
      | some x => some (x :: xs, e1.set i .no)
      | none => none)
    | none => none)
  | none => none
def valAt (σ : St) (i : Nat) : Option V := (σ[i]?).join
/-- br: which arguments are lent; rs: the slots of these -/
def denR (K : PySem.W.Frag) (a : Bool) (br : List Bool) (rs : List Nat) (m : MD (List O)) : TA := fun σ H Q => ∃ B F e G xs e', Sta K B F H σ e G ∧ m e = some (xs, e') ∧ ∀ F' H' ws, Sta K B F' H' σ e' (ws ++ G) → ws.map (·.2) = xs → ws.length = br.length → (brV br (ws.map (·.1))).map some = rs.map (valAt σ) → (a = true → Same H H') → Q (ws.map (·.1)) H'
def RS (K : PySem.W.Frag) (p : Bool) (br : List Bool) (rs : List Nat) (m : MD (List O)) (t : TA) : Prop := ∀ σ H Q, denR K p br rs m σ H Q → t σ H Q
theorem rs_nil : RS K true [] [] aNil tNil := fun σ H Q ⟨B, F, e, G, y, e', s, hm, k⟩ => by
  cases hm
  exact k F H [] s rfl rfl rfl fun _ => .refl _
theorem rs_cons {p q : Bool} {br : List Bool} {rs : List Nat} {m : MD O} {ms : MD (List O)} {t : TA} (h : RS K q br rs ms t) : RS K (p && q) (false :: br) rs (aCons m ms) (tCons (den K p m) t) := fun σ H Q ⟨B, F, e, G, y, e', s, hm, k⟩ => by
  unfold aCons lCons at hm
  split at hm
  · rename_i x e1 h1
    split at hm
    · rename_i xs e2 h2
      obtain ⟨rfl, rfl⟩ := so hm
      refine ⟨B, F, e, G, x, e1, s, h1, fun F1 H1 v s1 sm1 => h σ H1 _ ⟨B, F1, e1, (v, x) :: G, xs, e2, s1, h2, fun F2 H2 ws s2 r2 l2 b2 sm2 => ?_⟩⟩
      refine k F2 H2 ((v, x) :: ws) (s2.perm (mid _ _ _)) (by rw [List.map_cons, r2]) (by rw [List.length_cons, List.length_cons, l2]) b2 fun z => (sm1 (band1 z)).trans (sm2 (band2 z))
    · cases hm
  · cases hm
theorem rs_ref {q : Bool} {i : Nat} {br : List Bool} {rs : List Nat} {ms : MD (List O)} {t : TA} (h : RS K q br rs ms t) : RS K q (true :: br) (i :: rs) (aRf i ms) (tCons (tVar i) t) := fun σ H Q ⟨B, F, e, G, y, e', s, hm, k⟩ => by
  unfold aRf at hm
  split at hm
  · rename_i x0 h0
    split at hm
    · rename_i xs e1 h1
      split at hm
      · rename_i x h2
        obtain ⟨rfl, rfl⟩ := so hm
        obtain ⟨sl0, hi0, ho0⟩ := Option.bind_eq_some_iff.mp h0
        obtain ⟨v, hv, _⟩ := s.seeO hi0 ho0
        refine ⟨v, hv, h σ H _ ⟨B, F, e, G, xs, e1, s, h1, fun F1 H1 ws s1 r1 l1 b1 sm1 => ?_⟩⟩
        obtain ⟨sl, hi, ho⟩ := Option.bind_eq_some_iff.mp h2
        obtain ⟨v', hv', s2⟩ := s1.out hi ho
        obtain rfl : v' = v := by rw [hv] at hv'; cases hv'; rfl
        refine k F1 H1 ((v', x) :: ws) s2 (by rw [List.map_cons, r1]) (by rw [List.length_cons, List.length_cons, l1]) ?_ sm1
        simp only [List.map_cons, brV, b1, List.cons.injEq, and_true]
        unfold valAt
        rw [hv]
        rfl
      · cases hm
    · cases hm
  · cases hm
/-- behind the call the lent things stand in their slots again; e0: the kinds of the slots -/
def putBk (e0 : En) : En → List Nat → List O → Option En
  | e, [], [] => some e
  | e, i :: rs, o :: os => (match e0[i]?, e[i]? with
    | some (.own _), some .no => putBk e0 (e.set i (.own o)) rs os
    | some (.pin _), some .no => putBk e0 (e.set i (.pin o)) rs os
    | _, _ => none)
  | _, _, _ => none
def mCallR (sem : Sem1) (ms : MD (List O)) (rs : List Nat) : MD O := fun e => match ms e with
  | some (xs, e1) => (match sem xs with
    | some (x, os) => (match putBk e e1 rs os with
      | some e2 => some (x, e2)
      | none => none)
    | none => none)
  | none => none
theorem putBk_run {B : Bs} {F H : Hp} {σ : St} {e0 : En} (ok0 : SlOk B.vs σ e0) : ∀ {rs : List Nat} {os : List O} {e e2 : En} {vs : List V} {G : Ws}, putBk e0 e rs os = some e2 → vs.map some = rs.map (valAt σ) → Sta K B F H σ e (vs.zip os ++ G) → Sta K B F H σ e2 G
  | [], [], e, e2, vs, G, h, hv, s => by
    unfold putBk at h
    cases h
    cases vs with
    | nil => exact s
    | cons _ _ => simp at hv
  | i :: rs, o :: os, e, e2, v :: vs, G, h, hv, s => by
    simp only [List.map_cons, List.cons.injEq] at hv
    have hσ : σ[i]? = some (some v) := by
      have := hv.1
      unfold valAt at this
      cases h' : σ[i]? with
      | none => rw [h'] at this; cases this
      | some y => rw [h'] at this; cases y <;> cases this; rfl
    unfold putBk at h
    split at h
    · rename_i o0 h0 h1
      have hl := (List.getElem?_eq_some_iff.mp h1).1
      have e1 : e.set i .no = e := set_self h1
      have s1 : Sta K B F H σ (e.set i (.own o)) (vs.zip os ++ G) := Sta.back (e := e) (by rw [e1]; exact s) hσ hl (show (Sl.own o).o? = some o from rfl) (by
        have := s.ok.set (i := i) (v := v) (o := o)
        have e2 : σ.set i (some v) = σ := by
          apply List.ext_getElem?
          intro j
          by_cases hj : i = j
          · subst hj; rw [List.getElem?_set_self (List.getElem?_eq_some_iff.mp hσ).1, hσ]
          · rw [List.getElem?_set_ne hj]
        rw [e2] at this
        exact this)
      exact putBk_run ok0 h hv.2 s1
    · rename_i o0 h0 h1
      have hl := (List.getElem?_eq_some_iff.mp h1).1
      have e1 : e.set i .no = e := set_self h1
      have s1 : Sta K B F H σ (e.set i (.pin o)) (vs.zip os ++ G) := Sta.back (e := e) (by rw [e1]; exact s) hσ hl (show (Sl.pin o).o? = some o from rfl) (by
        refine ⟨by rw [List.length_set]; exact s.ok.len, fun j sl hj => ?_⟩
        by_cases hij : i = j
        · subst hij
          rw [List.getElem?_set_self hl] at hj
          cases hj
          obtain ⟨y, hy, q⟩ := ok0.sl i _ h0
          exact ⟨y, hy, q⟩
        · rw [List.getElem?_set_ne hij] at hj
          exact s.ok.sl j sl hj)
      exact putBk_run ok0 h hv.2 s1
    · cases h
  | i :: rs, o :: os, e, e2, [], G, h, hv, s => by simp at hv
  | [], _ :: _, _, _, _, _, h, _, _ => by unfold putBk at h; cases h
  | _ :: _, [], _, _, _, _, h, _, _ => by unfold putBk at h; cases h
theorem mCallR_den {br : List Bool} {rs : List Nat} {E : XK} {t : TA} (hl : RS K p br rs ms t) : ∀ σ H Q, den K false (mCallR sem ms rs) σ H Q → tCall (spOf K br sem) [] E t σ H Q := fun σ H Q ⟨B, F, e, G, y, e', s, hm, k⟩ => by
  unfold mCallR at hm
  split at hm
  · rename_i xs e1 h1
    split at hm
    · rename_i x os h2
      split at hm
      · rename_i e2 h3
        obtain ⟨rfl, rfl⟩ := so hm
        refine hl σ H _ ⟨B, F, e, G, xs, e1, s, h1, fun F1 H1 ws s1 r1 l1 b1 sm1 => ?_⟩
        subst r1
        rw [List.append_nil]
        obtain ⟨H2, q1, q2, _⟩ := (s1.rel.perm (pmid _ _ _)).hand
        refine ⟨H2, F1, ws.map (·.2), x, os, by rw [List.length_map, l1], by rw [List.length_map, l1], by rw [zip_ws]; exact q1, h2, fun F' H' v r => ?_⟩
        have q := q2 F' H' _ r
        have s2 : Sta K B F' H' σ e1 ((brV br (ws.map (·.1))).zip os ++ ((v, x) :: G)) := ⟨s1.ok, q.perm (by
          rw [List.cons_append]
          refine List.Perm.trans ?_ (pmid _ _ _).symm
          refine List.Perm.trans ?_ (List.Perm.append_left _ (mid _ _ _).symm)
          exact (mid _ _ _).symm)⟩
        exact k F' H' v (putBk_run s.ok h3 b1 s2) fun z => nomatch z
      · cases hm
    · cases hm
  · cases hm
theorem dr_nil : PA X [] (denR X.K true [] [] aNil) := pa_imp pa_nil rs_nil
theorem dr_cons {p q : Bool} {br : List Bool} {rs : List Nat} {m : MD O} {ms : MD (List O)} (ha : PE X e (den X.K p m)) (hr : PA X es (denR X.K q br rs ms)) (hs : starEach (e :: es) X.env = (false, eval e X.env) :: starEach es X.env := by rfl) :
    PA X (e :: es) (denR X.K (p && q) (false :: br) rs (aCons m ms)) := pa_imp (pa_cons ha hr hs) (rs_cons fun _ _ _ h => h)
theorem dr_ref {q : Bool} {i : Nat} {br : List Bool} {rs : List Nat} {ms : MD (List O)} (ha : PE X e (tVar i)) (hr : PA X es (denR X.K q br rs ms)) (hs : starEach (e :: es) X.env = (false, eval e X.env) :: starEach es X.env := by rfl) :
    PA X (e :: es) (denR X.K q (true :: br) (i :: rs) (aRf i ms)) := pa_imp (pa_cons ha hr hs) (rs_ref fun _ _ _ h => h)
theorem d_callR {br : List Bool} {rs : List Nat} (F : FnG X.prog X.w X.K X.mg X.base CX0 k f fd ps (spOf X.K br sem)) (hr : RoomG k X.A) (hg : Gl X x) (hm : X.mg x = some (.ref f)) (hk : PySem.W.keepIn X.K (.ref f) = true) (hb : Binds X.K fd ps [])
    (ha : PA X (e :: es) (denR X.K p br rs ms)) (hdb : (x == ("__debug__" : Str)) = false := by decide) (he : starEach (e :: es) X.env = (false, eval e X.env) :: starEach es X.env := by rfl) (hpl : (backTo pos (starEach es X.env)).any (·.1) = false := by rfl) :
    PE X (.Call (.Name x p1) (e :: es) [] pos) (den X.K false (mCallR sem ms rs)) := pe_imp (pe_callG F hr hg hm hk hb .nil pass0 ha hdb he hpl) (mCallR_den fun _ _ _ h => h)
/-! ### isinstance -/
def tyN : PyData → Option String
  | .none => some "NoneType"
  | .bool _ => some "bool"
  | .int _ => some "int"
  | .str _ => some "str"
  | .list _ => some "list"
  | .tuple _ => some "tuple"
  | .dict _ => none
def isiB (d : PyData) (T : String) : Bool := match d with
  | .none => false
  | .bool _ => T == "bool" || T == "int"
  | .int _ => T == "int"
  | .str _ => T == "str"
  | .list _ => T == "list"
  | .tuple _ => T == "tuple"
  | .dict _ => false
def fIsi (T : String) : List PyData → Option PyData
  | [d] => (match tyN d with
    | some _ => some (.bool (isiB d T))
    | none => none)
  | _ => none
def IsiT (T : String) : Prop := kitB "NoneType" T = some false ∧ kitB "bool" T = some (T == "bool" || T == "int") ∧ kitB "int" T = some (T == "int") ∧ kitB "str" T = some (T == "str") ∧ kitB "list" T = some (T == "list") ∧ kitB "tuple" T = some (T == "tuple")
def rIsiT (K : PySem.W.Frag) (T : String) : List V → Hp → VK → Prop := fun vs H Q => match vs with
  | [x] => rIsi K [x, .ty T] H Q
  | _ => False
theorem sc_isi {T : String} (hT : IsiT T) : Sc K (fIsi T) (rIsiT K T) := fun H vs ds z a hf => by
  unfold fIsi at hf
  split at hf
  · split at hf
    · cases hf
      obtain ⟨v, rfl, b⟩ := dfa1 a
      obtain ⟨h1, h2, h3, h4, h5, h6⟩ := hT
      refine ⟨_, rfl, fun Q q => ?_⟩
      cases b with
      | non => exact ⟨_, _, _, _, _, rfl, .ty T, .base .non, kit_ty h1, q⟩
      | bl b => exact ⟨_, _, _, _, _, rfl, .ty T, .base (.bl b), kit_ty h2, q⟩
      | int i => exact ⟨_, _, _, _, _, rfl, .ty T, .base (.int i), kit_ty h3, q⟩
      | str x => exact ⟨_, _, _, _, _, rfl, .ty T, .base (.str x), kit_ty h4, q⟩
      | lst hp _ => exact ⟨_, _, _, _, _, rfl, .ty T, .base (.lst hp), kit_ty h5, q⟩
      | tup hp _ => exact ⟨_, _, _, _, _, rfl, .ty T, .base (.tup hp), kit_ty h6, q⟩
    · cases hf
  · cases hf
theorem isi_int : IsiT "int" := by unfold IsiT; decide +kernel
theorem isi_bool : IsiT "bool" := by unfold IsiT; decide +kernel
theorem isi_str : IsiT "str" := by unfold IsiT; decide +kernel
theorem isi_list : IsiT "list" := by unfold IsiT; decide +kernel
theorem isi_tuple : IsiT "tuple" := by unfold IsiT; decide +kernel
theorem d_isi {T : String} {y : Str} {a : Expr} {ta : TE} {pn : Pos} (hT : IsiT T) (hg : Gl X "isinstance") (hm : X.mg "isinstance" = none) (hy : PE X (.Name y pn) (tC (.ty T))) (ha : PE X a ta) (hl : LS X.K p ms (tCons ta tNil))
    (hs : starEach [a, .Name y pn] X.env = (false, eval a X.env) :: starEach [.Name y pn] X.env := by rfl) (hs2 : starEach [.Name y pn] X.env = (false, eval (.Name y pn) X.env) :: starEach [] X.env := by rfl) (hpl : (backTo pos (starEach [.Name y pn] X.env)).any (·.1) = false := by rfl) :
    PE X (.Call (.Name "isinstance" p1) [a, .Name y pn] [] pos) (den X.K p (mL (fIsi T) ms)) :=
  pe_imp (pe_callB call_isi hg hm (by decide +kernel) (pa_cons ha (pa_cons hy pa_nil hs2) hs) (by decide) (by decide) hs hpl) (mL_den (r := rIsiT X.K T) (t := tCons ta tNil) (sc_isi hT) hl)
end
end Dn

set_option Elab.async false
set_option linter.all false
set_option maxRecDepth 100000
set_option maxHeartbeats 4000000
namespace Dn
open PySem L2
/-- a def of the text as callers see it -/
structure Cal (P : Program) (w : World) (K : PySem.W.Frag) (mg : Str → Option Value) (base : Heap) (k : Nat) (x : Str) (ps : List Str) (sp : Sp) : Prop where
  ex : ∃ f fd, FnG P w K mg base CX0 k f fd ps sp ∧ mg x = some (.ref f) ∧ PySem.W.keepIn K (.ref f) = true ∧ Binds K fd ps []
theorem Cal.mk' {P : Program} {w : World} {K : PySem.W.Frag} {mg : Str → Option Value} {base : Heap} {k : Nat} {x : Str} {ps : List Str} {sp : Sp} {f : Addr} {fd : FuncData} (G : FnG P w K mg base CX0 k f fd ps sp) (m : mg x = some (.ref f)) (kp : PySem.W.keepIn K (.ref f) = true) (b : Binds K fd ps []) : Cal P w K mg base k x ps sp := ⟨f, fd, G, m, kp, b⟩
theorem hu65 {A : Around} {k : Nat} (hr : RoomG k A) : A.units + 65 < cLine := by have := hr.un; omega
section
variable {X : Cx} {p : Bool} {ms : MD (List O)} {sem : Sem1} {k : Nat} {ps : List Str} {x : Str} {p1 pos : Pos} {e : Expr} {es : List Expr} {n : Nat}
theorem c_call (C : Cal X.prog X.w X.K X.mg X.base k x ps (spOf X.K (List.replicate n false) sem)) (hr : RoomG k X.A) (hg : Gl X x)
    (hn : ∀ e xs e1, ms e = some (xs, e1) → xs.length = n) (ha : PA X (e :: es) (denA X.K p ms)) (hdb : (x == ("__debug__" : Str)) = false := by decide) (he : starEach (e :: es) X.env = (false, eval e X.env) :: starEach es X.env := by rfl) (hpl : (backTo pos (starEach es X.env)).any (·.1) = false := by rfl) :
    PE X (.Call (.Name x p1) (e :: es) [] pos) (den X.K p (mCall sem ms)) := by
  obtain ⟨f, fd, F, hm, hk, hb⟩ := C.ex
  exact d_call F hr hg hm hk hb hn ha hdb he hpl
theorem c_callM (C : Cal X.prog X.w X.K X.mg X.base k x ps (spOf X.K (List.replicate n false) sem)) (hr : RoomG k X.A) (hg : Gl X x)
    (hn : ∀ e xs e1, ms e = some (xs, e1) → xs.length = n) (ha : PA X (e :: es) (denA X.K p ms)) (hdb : (x == ("__debug__" : Str)) = false := by decide) (he : starEach (e :: es) X.env = (false, eval e X.env) :: starEach es X.env := by rfl) (hpl : (backTo pos (starEach es X.env)).any (·.1) = false := by rfl) :
    PE X (.Call (.Name x p1) (e :: es) [] pos) (den X.K false (mCallM sem ms)) := by
  obtain ⟨f, fd, F, hm, hk, hb⟩ := C.ex
  exact d_callM F hr hg hm hk hb hn ha hdb he hpl
theorem c_callL (C : Cal X.prog X.w X.K X.mg X.base k x ps (spOf X.K (List.replicate n false) sem)) (hr : RoomG k X.A) (hg : Gl X x)
    (hn : ∀ e xs e1, ms e = some (xs, e1) → xs.length = n) (ha : PA X (e :: es) (denL X.K p ms)) (hdb : (x == ("__debug__" : Str)) = false := by decide) (he : starEach (e :: es) X.env = (false, eval e X.env) :: starEach es X.env := by rfl) (hpl : (backTo pos (starEach es X.env)).any (·.1) = false := by rfl) :
    PE X (.Call (.Name x p1) (e :: es) [] pos) (den X.K p (mCallL sem ms)) := by
  obtain ⟨f, fd, F, hm, hk, hb⟩ := C.ex
  exact d_callL F hr hg hm hk hb hn ha hdb he hpl
theorem c_callR {br : List Bool} {rs : List Nat} (C : Cal X.prog X.w X.K X.mg X.base k x ps (spOf X.K br sem)) (hr : RoomG k X.A) (hg : Gl X x)
    (ha : PA X (e :: es) (denR X.K p br rs ms)) (hdb : (x == ("__debug__" : Str)) = false := by decide) (he : starEach (e :: es) X.env = (false, eval e X.env) :: starEach es X.env := by rfl) (hpl : (backTo pos (starEach es X.env)).any (·.1) = false := by rfl) :
    PE X (.Call (.Name x p1) (e :: es) [] pos) (den X.K false (mCallR sem ms rs)) := by
  obtain ⟨f, fd, F, hm, hk, hb⟩ := C.ex
  exact d_callR F hr hg hm hk hb ha hdb he hpl
/-- a constant of the module -/
theorem d_glob {d : PyData} {v : V} {u : Value} (hg : Gl X x) (hm : X.mg x = some u) (r : RelV v u) (hd : sV d = some v) (hdb : (x == ("__debug__" : Str)) = false := by decide) : PE X (.Name x pos) (den X.K true (mC d)) := pe_imp (pe_glob hg hm r hdb) fun σ H Q ⟨B, F, e, G, y, e', s, hm, k⟩ => by
  cases hm
  exact k F H v (s.push (sV_df hd)) fun _ => .refl _
/-- a built-in class as a value -/
theorem d_ty {T : String} (hg : Gl X x) (hm : X.mg x = none) (hv : bootBuiltins x = some (.type T)) (hn : x ≠ "__name__" := by decide) (hdb : (x == ("__debug__" : Str)) = false := by decide) : PE X (.Name x pos) (tC (.ty T)) := pe_bltn hg hm hv rfl hn hdb
end
theorem bb_len : bootBuiltins "len" = some (.builtin "len") := by decide +kernel
theorem bb_max : bootBuiltins "max" = some (.builtin "max") := by decide +kernel
theorem bb_min : bootBuiltins "min" = some (.builtin "min") := by decide +kernel
theorem bb_abs : bootBuiltins "abs" = some (.builtin "abs") := by decide +kernel
theorem bb_sum : bootBuiltins "sum" = some (.builtin "sum") := by decide +kernel
theorem bb_all : bootBuiltins "all" = some (.builtin "all") := by decide +kernel
theorem bb_any : bootBuiltins "any" = some (.builtin "any") := by decide +kernel
theorem bb_sorted : bootBuiltins "sorted" = some (.builtin "sorted") := by decide +kernel
theorem bb_int : bootBuiltins "int" = some (.type "int") := by decide +kernel
theorem bb_str : bootBuiltins "str" = some (.type "str") := by decide +kernel
theorem bb_list : bootBuiltins "list" = some (.type "list") := by decide +kernel
theorem bb_tuple : bootBuiltins "tuple" = some (.type "tuple") := by decide +kernel
theorem bb_bool : bootBuiltins "bool" = some (.type "bool") := by decide +kernel
theorem bb_set : bootBuiltins "set" = some (.type "set") := by decide +kernel
/-! methods that tell scalars -/
section
variable {K : PySem.W.Frag} {X : Cx}
/-- x.index(y): the first place -/
def idxD (d : PyData) : List PyData → Nat → Option Nat
  | [], _ => none
  | z :: zs, n => if PyData.eqv z d then some n else idxD d zs (n + 1)
def fIndex : List PyData → Option PyData
  | [.list ds, d] => if SeqAt.shaped (.list ds) && SeqAt.shaped d then (match idxD d ds 0 with
    | some j => some (.int (j : Nat))
    | none => none) else none
  | _ => none
theorem idxD_some {d : PyData} : ∀ {ds : List PyData} {n j : Nat}, idxD d ds n = some j → ∃ i z, j = n + i ∧ ds[i]? = some z ∧ PyData.eqv z d = true ∧ ∀ (m : Nat) (z' : PyData), m < i → ds[m]? = some z' → PyData.eqv z' d = false
  | [], _, _, h => by cases h
  | z :: zs, n, j, h => by
    unfold idxD at h
    split at h
    · rename_i hz
      cases h
      exact ⟨0, z, rfl, rfl, hz, fun m z' hm => absurd hm (Nat.not_lt_zero _)⟩
    · rename_i hz
      obtain ⟨i, z1, e1, e2, e3, e4⟩ := idxD_some h
      refine ⟨i + 1, z1, by omega, by simpa using e2, e3, fun m z' hm hz' => ?_⟩
      cases m with
      | zero =>
        simp at hz'
        subst hz'
        simpa using hz
      | succ m => exact e4 m z' (by omega) (by simpa using hz')
/-- a method's reading by a list of values -/
def rM (r : V → List V → Hp → VK → Prop) : List V → Hp → VK → Prop := fun vs H Q => match vs with
  | x :: xs => r x xs H Q
  | [] => False
theorem sc_index : Sc K fIndex (rM (rIndexD K)) := fun H vs ds z a hf => by
  unfold fIndex at hf
  split at hf
  · split at hf
    · rename_i hs
      simp only [Bool.and_eq_true] at hs
      split at hf
      · rename_i j hj
        cases hf
        obtain ⟨v, u, rfl, b, c⟩ := dfa2 a
        obtain ⟨i, z, e1, e2, e3, e4⟩ := idxD_some hj
        obtain ⟨p, ws, rfl, hp, ha⟩ := df_list b
        rw [Nat.zero_add] at e1
        subst e1
        exact ⟨_, rfl, fun Q q => ⟨p, u, _, _, j, z, rfl, rfl, b.dp (.refl H), c.dp (.refl H), hs.1, hs.2, e2, e3, e4, q⟩⟩
      · cases hf
    · cases hf
  · cases hf
/-- x.m(y), x a slot's list that is looked at -/
def mLM (i : Nat) (f : List PyData → Option PyData) (ms : MD (List O)) : MD O := fun e => match bVar i e with
  | some (.l _) => mL f (lSee i ms) e
  | some (.v (.list _)) => mL f (lSee i ms) e
  | _ => none
theorem d_lm {i : Nat} {p : Bool} {x ex : Expr} {es : List Expr} {ms : MD (List O)} {f : List PyData → Option PyData} {r : V → List V → Hp → VK → Prop} {name : Str} {id : String} {apos cpos : Pos} (slot : Slot "list" name id) (hty : typeOf (.builtin id) = pure (.type "method_descriptor")) (hm : MtR X id r) (hr : Sc X.K f (rM r))
    (ho : PE X x (tVar i)) (ha : PA X (ex :: es) (denL X.K p ms)) (hbase : attributeBase x name X.env (eval x X.env) = eval x X.env := by rfl)
    (hfew : ((backTo cpos (starEach (ex :: es) X.env)).all (fun x => !x.1) && (backToKw cpos (keywordEach [] X.env)).all (fun x => x.1.isSome)
      && decide ((ex :: es).length + ([] : List Keyword).length + (if ([] : List Keyword).isEmpty then 0 else 1) < 30)) = true := by rfl)
    (hline : (apos.endLine == cpos.line) = true := by rfl) (hs : starEach (ex :: es) X.env = (false, eval ex X.env) :: starEach es X.env := by rfl) (hplain : (backTo cpos (starEach es X.env)).any (·.1) = false := by rfl) :
    PE X (.Call (.Attribute x name apos) (ex :: es) [] cpos) (den X.K p (mLM i f ms)) :=
  pe_imp (pe_bm PySem.F.plainAttrs_list slot hty hm ho ha hbase hfew hline hs hplain) fun σ H Q ⟨B, F, e, G, y, e', s, hmm, k⟩ => by
    have gen : ∀ {o : O}, bVar i e = some o → mL f (lSee i ms) e = some (y, e') → (∀ v, (∃ T, Rp X.K F H v o T) → tyV X.K "list" v H) → tBM X.K "list" r (tVar i) (denL X.K p ms) σ H Q := fun {o} h0 hm2 ty => by
      have q := mL_den (K := X.K) (p := p) (r := rM r) (t := tCons (tVar i) (denL X.K p ms)) hr (ls_see fun _ _ _ h => h) σ H Q ⟨B, F, e, G, y, e', s, hm2, k⟩
      obtain ⟨v, hv, q⟩ := q
      obtain ⟨sl0, hi0, ho0⟩ := Option.bind_eq_some_iff.mp h0
      obtain ⟨v', hv', T, rv⟩ := s.seeO hi0 ho0
      obtain rfl : v' = v := by rw [hv] at hv'; cases hv'; rfl
      exact ⟨v', hv, ty v' ⟨T, rv⟩, q⟩
    unfold mLM at hmm
    split at hmm
    · rename_i xs h0
      refine gen h0 hmm fun v ⟨T, rv⟩ => ?_
      cases rv with
      | l hp _ _ _ => exact .inl ⟨rfl, _, .of hp⟩
    · rename_i ds h0
      refine gen h0 hmm fun v ⟨T, rv⟩ => ?_
      obtain ⟨p, ws, rfl, hp, _⟩ := df_list (rp_v rv)
      exact .inl ⟨rfl, _, .of (s.fh _ _ hp)⟩
    · cases hmm
end
end Dn

set_option Elab.async false
set_option linter.all false
set_option maxRecDepth 100000
set_option maxHeartbeats 4000000
namespace Dn
open PySem L2
section
variable {K : PySem.W.Frag} {X : Cx} {B : Bs} {F H : Hp} {σ : St} {e : En} {G : Ws}
/-! ### to forget slots -/
theorem set_join {σ : St} {v : Nat} : σ.set v (σ[v]?).join = σ := by
  apply List.ext_getElem?
  intro j
  by_cases h : v = j
  · subst h
    by_cases hv : v < σ.length
    · rw [List.getElem?_set_self hv, List.getElem?_eq_getElem hv]; rfl
    · rw [List.getElem?_eq_none (by rw [List.length_set]; omega), List.getElem?_eq_none (by omega)]
  · rw [List.getElem?_set_ne h]
theorem Sta.forget1 {v : Nat} (s : Sta K B F H σ e G) : Sta K B F H σ (e.set v .no) G := by
  have q := s.wipe1 (v := v) (x := (σ[v]?).join)
  rw [set_join] at q
  exact q
theorem Sta.forget : ∀ {vs : List Nat}, Sta K B F H σ e G → Sta K B F H σ (Dn.hide e vs) G
  | [], s => s
  | v :: vs, s => by
    unfold Dn.hide
    exact (Sta.forget (vs := vs) s).forget1
def mKill (vs : List Nat) : MS := fun e => some (.nx (hide e vs))
theorem dss_kill {vs : List Nat} {st : List Stmt} {m : MS} (h : PSs X st (denS X.K m)) : PSs X st (denS X.K (mSeq (mKill vs) m)) := pss_imp h fun D σ H ⟨B, F, e, G, oc, s, hm, k⟩ =>
  ⟨B, F, hide e vs, G, oc, s.forget, hm, k⟩
/-! ### to freeze slots -/
def frzS : Sl → Sl
  | .own o => (match o.toD with
    | some d => .own (.v d)
    | none => .own o)
  | s => s
def frz (e : En) : List Nat → En
  | [] => e
  | v :: vs => frz (match e[v]? with
    | some s => e.set v (frzS s)
    | none => e) vs
theorem Sta.frz1 {v : Nat} {sl : Sl} (s : Sta K B F H σ e G) (hi : e[v]? = some sl) : ∃ F', Sta K B F' H σ (e.set v (frzS sl)) G := by
  cases sl with
  | no => exact ⟨F, by rw [show frzS .no = .no from rfl, set_self hi]; exact s⟩
  | pin o => exact ⟨F, by rw [show frzS (.pin o) = .pin o from rfl, set_self hi]; exact s⟩
  | own o =>
    cases h : o.toD with
    | none =>
      have : frzS (.own o) = .own o := by show (match o.toD with | some d => Sl.own (O.v d) | none => Sl.own o) = _; rw [h]
      exact ⟨F, by rw [this, set_self hi]; exact s⟩
    | some d =>
      have : frzS (.own o) = .own (.v d) := by show (match o.toD with | some d => Sl.own (O.v d) | none => Sl.own o) = _; rw [h]
      rw [this]
      obtain ⟨x, hv, s1⟩ := s.out hi (show (Sl.own o).o? = some o from rfl)
      obtain ⟨F', s2⟩ := s1.freeze h
      have hl : v < e.length := (List.getElem?_eq_some_iff.mp hi).1
      exact ⟨F', Sta.back (e := e) s2 hv hl (show (Sl.own (.v d)).o? = some (.v d) from rfl) (s.ok.own hi)⟩
theorem Sta.frz : ∀ {vs : List Nat} {F : Hp} {e : En}, Sta K B F H σ e G → ∃ F', Sta K B F' H σ (Dn.frz e vs) G
  | [], F, e, s => ⟨F, s⟩
  | v :: vs, F, e, s => by
    unfold Dn.frz
    cases hi : e[v]? with
    | none => exact Sta.frz (vs := vs) s
    | some sl =>
      obtain ⟨F', s'⟩ := s.frz1 hi
      exact Sta.frz (vs := vs) s'
def mFrz (vs : List Nat) : MS := fun e => some (.nx (frz e vs))
theorem dss_frz {vs : List Nat} {st : List Stmt} {m : MS} (h : PSs X st (denS X.K m)) : PSs X st (denS X.K (mSeq (mFrz vs) m)) := pss_imp h fun D σ H ⟨B, F, e, G, oc, s, hm, k⟩ => by
  obtain ⟨F', s'⟩ := s.frz (vs := vs)
  exact ⟨B, F', _, G, oc, s', hm, k⟩
/-- the slots vs frozen, then m -/
def mFrzE {α : Type} (vs : List Nat) (m : MD α) : MD α := fun e => m (frz e vs)
theorem d_frz {x : Expr} {vs : List Nat} {p : Bool} {m : MD O} (h : PE X x (den X.K p m)) : PE X x (den X.K p (mFrzE vs m)) := pe_imp h fun σ H Q ⟨B, F, e, G, y, e', s, hm, k⟩ => by
  obtain ⟨F', s'⟩ := s.frz (vs := vs)
  exact ⟨B, F', _, G, y, e', s', hm, k⟩
theorem di_frz {tg iter : Expr} {vs : List Nat} {p : Bool} {m : MD (List O)} (h : PI X tg iter (denI X.K p m)) : PI X tg iter (denI X.K p (mFrzE vs m)) := pi_imp h fun σ H R ⟨B, F, e, G, y, e', s, hm, k⟩ => by
  obtain ⟨F', s'⟩ := s.frz (vs := vs)
  exact ⟨B, F', _, G, y, e', s', hm, k⟩
/-- what is told, frozen -/
def mFz (m : MD O) : MD O := fun e => match m e with
  | some (x, e1) => (match x.toD with
    | some d => some (.v d, e1)
    | none => none)
  | none => none
theorem fz_den {p : Bool} {m : MD O} {t : TE} (h : ∀ σ H Q, den K p m σ H Q → t σ H Q) : ∀ σ H Q, den K p (mFz m) σ H Q → t σ H Q := fun σ H Q ⟨B, F, e, G, y, e', s, hm, k⟩ => by
  unfold mFz at hm
  split at hm
  · rename_i z e1 h1
    split at hm
    · rename_i d hd
      obtain ⟨rfl, rfl⟩ := so hm
      refine h σ H Q ⟨B, F, e, G, z, e1, s, h1, fun F1 H1 v s1 sm => ?_⟩
      obtain ⟨F2, s2⟩ := s1.freeze hd
      exact k F2 H1 v s2 sm
    · cases hm
  · cases hm
theorem d_fz {x : Expr} {p : Bool} {m : MD O} (h : PE X x (den X.K p m)) : PE X x (den X.K p (mFz m)) := pe_imp h (fz_den fun _ _ _ h => h)
theorem ds_setLcF {i : Nat} {y : Str} {py : Pos} {elt tgE iter : Expr} {ifs : List Expr} {scope : Scope} {own : List (Str × Nat)} {pos spos : Pos} {tg : Tg} {p q r : Bool} {mi : MD (List O)} {mt : MD Bool} {me : MD O} (hc : X.calm = true) (hN : X.N.Nodup) (hy : X.N[i]? = some y) (hyl : X.env.scope.names.lookup y = some .local)
    (hsw : swapsWith (.ListComp elt [⟨tgE, iter, ifs, 0⟩] scope pos) (some (.Name y py)) spos.line X.env = pure true) (hi : PI X tgE iter (denI X.K p mi)) (ok : BlkOk X.N X.env.scope scope own)
    (hg : ∀ (s : Shared) (H : Hp) (C : Addr) (cl : List (Str × Addr)) (fp : List Addr), PG (X.blk s H scope (compEnvC scope cl C X.env) fp) tgE (tg.rd X.K))
    (ht : ∀ (s : Shared) (H : Hp) (C : Addr) (cl : List (Str × Addr)) (fp : List Addr), PTs (X.blk s H scope (compEnvC scope cl C X.env) fp) ifs (denT X.K q mt))
    (he : ∀ (s : Shared) (H : Hp) (C : Addr) (cl : List (Str × Addr)) (fp : List Addr), PE (X.blk s H scope (compEnvC scope cl C X.env) fp) elt (den X.K r me)) (hs : ∀ x, foldedSetIterable iter X.env x = pure x := by intro _; rfl) :
    PS X (.Assign [.Name y py] (.ListComp elt [⟨tgE, iter, ifs, 0⟩] scope pos) spos) (denS X.K (mSet i (mFz (mLc mi tg mt me (own.map (·.2)))))) := ps_imp (ps_setLc hc hN hy hyl hsw hi ok hg ht he hs) (mSet_den (fz_den lc_den))
/-! ### how a def's run ends -/
def fin (br : List Bool) : Option Oc → Option (O × List O)
  | some (.rt x e) => (match pinsOf br e with
    | some os' => some (x, os')
    | none => none)
  | some (.nx e) => (match pinsOf br e with
    | some os' => some (.v .none, os')
    | none => none)
  | _ => none
end
end Dn

set_option Elab.async false
set_option linter.all false
set_option maxRecDepth 100000
set_option maxHeartbeats 4000000
namespace Dn
open PySem L2
section
variable {K : PySem.W.Frag} {X : Cx}
/-! ### xs * k -/
def repO0 : List O → Option O
  | [x, .v (.int k)] => (match x.lparts with
    | some xs => (match O.allV xs with
      | some ds => if -(2 ^ 63) ≤ k ∧ k < 2 ^ 63 ∧ xs.length * k.toNat ≤ sizeLine then some (.l ((List.replicate k.toNat ds).flatten.map .v)) else none
      | none => none)
    | none => none)
  | _ => none
theorem repO_ex : ∃ f : List O → Option O, f = repO0 := ⟨repO0, rfl⟩
/-- sealed: the kernel must not look into the bounds -/
noncomputable def repO : List O → Option O := Classical.choose repO_ex
theorem repO_eq : repO = repO0 := Classical.choose_spec repO_ex
theorem Sta.pushAll {B : Bs} {F H : Hp} {σ : St} {e : En} {G : Ws} (s : Sta K B F H σ e G) : ∀ {vs : List V} {ds : List PyData}, DfAll K F vs ds → Sta K B F H σ e (vs.zip (ds.map O.v) ++ G)
  | _, _, .nil => s
  | _, _, .cons h t => (s.pushAll t).push h
theorem Sta.frozenAll {B : Bs} {F H : Hp} {σ : St} {e : En} {G : Ws} : ∀ {w : Ws} {ds : List PyData}, Sta K B F H σ e (w ++ G) → O.allV (w.map (·.2)) = some ds → DfAll K F (w.map (·.1)) ds
  | [], _, s, h => by cases h; exact .nil
  | (v, x) :: w, ds, s, h => by
    rw [List.map_cons] at h
    cases x with
    | v d =>
      unfold O.allV at h
      split at h
      · rename_i ds' h'
        cases h
        obtain ⟨T, r⟩ := s.at
        exact .cons (rp_v r) (Sta.frozenAll (w := w) s.pop h')
      · cases h
    | _ => cases h
theorem dfa_append {F : Hp} : ∀ {v1 v2 : List V} {d1 d2 : List PyData}, DfAll K F v1 d1 → DfAll K F v2 d2 → DfAll K F (v1 ++ v2) (d1 ++ d2)
  | _, _, _, _, .nil, h => h
  | _, _, _, _, .cons a t, h => .cons a (dfa_append t h)
theorem dfa_rep {F : Hp} {vs : List V} {ds : List PyData} (h : DfAll K F vs ds) : ∀ n : Nat, DfAll K F (List.replicate n vs).flatten (List.replicate n ds).flatten
  | 0 => .nil
  | n + 1 => by
    rw [List.replicate_succ, List.replicate_succ, List.flatten_cons, List.flatten_cons]
    exact dfa_append h (dfa_rep h n)
theorem al_rep : Al K repO (r2 rRep) := fun B F H σ e G ws x Q s hx k => by
  rw [repO_eq] at hx
  unfold repO0 at hx
  split at hx
  · rename_i y n hw
    obtain ⟨v, u, rfl⟩ := ws2 hw
    split at hx
    · rename_i xs h1
      split at hx
      · rename_i ds h2
        split at hx
        · rename_i hl
          cases hx
          obtain ⟨_, r⟩ := s.pop.at
          obtain rfl := rp_int r
          obtain ⟨p, w1, F1, rfl, e1, e2, e3, s1⟩ := Sta.openL (G := (V.int n, O.v (.int n)) :: G) s h1
          subst e2
          have hd := s1.frozenAll h2
          have hr := dfa_rep hd n.toNat
          rw [List.length_map] at hl
          refine ⟨p, n, w1.map (·.1), rfl, rfl, s1.fh _ _ e1, hl.1, hl.2.1, by rw [List.length_map]; exact hl.2.2, fun q hq => ?_⟩
          have s2 := (s1.drop.pop.pushAll hr).newL hq
          have hlen := dfa_len hr
          rw [zip_fst (by rw [List.length_map]; exact hlen), zip_snd (by rw [List.length_map]; exact hlen)] at s2
          exact k F1 _ _ s2 (same_upd hq)
        · cases hx
      · cases hx
    · cases hx
  · cases hx
theorem d_rep {a b : Expr} {ta tb : TE} {p : Bool} {ms : MD (List O)} {pos : Pos} (ha : PE X a ta) (hb : PE X b tb) (hl : AS X.K p ms (tCons ta (tCons tb tNil))) : PE X (.BinOp a .Mult b pos) (den X.K p (mA repO ms)) :=
  pe_imp (pe_op op_rep ha hb) (mA_den (r := r2 rRep) al_rep hl)
/-! ### sorted(xs) of data -/
def rSortD (K : PySem.W.Frag) : List V → Hp → VK → Prop := fun vs H Q => ∃ (a : Addr) (xs : List V) (ds : List PyData), vs = [.ref a] ∧ SqL K H a xs ∧ DpAll K H xs ds ∧ PySem.W.AllAlike ds ∧ PySem.W.Sortable ds ∧ (∀ d ∈ ds, d.depth ≤ 60) ∧
  ∀ l, H l = none → Q (.ref l) (upd H l (.lst (((xs.zip ds).mergeSort (PySem.W.dataLe false (·.2))).map (·.1))))
theorem dpa_len {H : Hp} : ∀ {vs : List V} {ds : List PyData}, DpAll K H vs ds → vs.length = ds.length
  | _, _, .nil => rfl
  | _, _, .cons _ t => by rw [List.length_cons, List.length_cons, dpa_len t]
theorem each_vals : ∀ {bs : List (V × PyData)} {us : List Value}, PySem.W.EachIs (fun u (b : V × PyData) => RelV b.1 u) us bs → Vals (bs.map (·.1)) us
  | [], _, .nil => .nil
  | _ :: _, _, .cons h t => .cons h (each_vals t)
theorem vals_each : ∀ {vs : List V} {ds : List PyData} {us : List Value}, Vals vs us → vs.length = ds.length → PySem.W.EachIs (fun u (b : V × PyData) => RelV b.1 u) us (vs.zip ds)
  | [], [], _, .nil, _ => .nil
  | v :: vs, d :: ds, _, .cons h t, hl => .cons h (vals_each t (by simpa using hl))
  | [], _ :: _, _, _, h => by simp at h
  | _ :: _, [], _, _, h => by simp at h
theorem reads_each {h : Heap} : ∀ {vs : List V} {ds : List PyData} {us : List Value} {as : List Addr}, ReadsAll h us ds as → vs.length = ds.length → PySem.W.EachIs (fun u (b : V × PyData) => ∃ as, Reads h u b.2 as) us (vs.zip ds)
  | [], [], _, _, .nil, _ => .nil
  | v :: vs, d :: ds, _, _, .cons h t, hl => .cons ⟨_, h⟩ (reads_each t (by simpa using hl))
  | [], _ :: _, _, _, _, h => by simp at h
  | _ :: _, [], _, _, _, h => by simp at h
theorem cr_sortD (hu : X.A.units + 65 < cLine) : CallR X (.builtin "sorted") (rSortD X.K) := by
  intro pins s σ H vs us Q I r h
  obtain ⟨a, xs, ds, rfl, hs, hd, hal, hso, hdp, q⟩ := h
  obtain ⟨its, rv, hl, hz⟩ := I.list hs
  obtain ⟨u, rfl, ru⟩ := vals1 r
  obtain rfl : u = Value.ref a := ru
  obtain ⟨as, hr⟩ := Dp.readsAll I ds xs its hd rv
  have hlen := dpa_len hd
  have hmap : (xs.zip ds).map (·.2) = ds := zip_snd hlen
  refine PySem.W.sorted_data (bs := xs.zip ds) (enc := (·.2)) (R := fun u b => RelV b.1 u) hl.isList (vals_each rv hlen) (reads_each hr hlen) (by rw [hmap]; exact hal) (by rw [hmap]; exact hso) ?_ ?_ ?_
  · rw [List.length_zip]; omega
  · intro b hb
    have : b.2 ∈ ds := (List.of_mem_zip hb).2
    have := hdp _ this
    omega
  · intro out hout he
    obtain ⟨n, hn⟩ := PyProof.Rows.sortedAll_at s.heap its out.toArray
    refine ⟨.ref _, upd H (s.heap.objs.size + 1) (.lst (((xs.zip ds).mergeSort (PySem.W.dataLe false (·.2))).map (·.1))), I.laid (t' := s.toks) (fun b o e => PyProof.Rows.sortedAll_old e) (Nat.le_succ _) ⟨?_, out, n, each_vals he, hn⟩, rfl, q _ (I.hok.fresh (Nat.le_succ _))⟩
    rw [List.length_map, List.length_mergeSort, List.length_zip]
    omega
def allAlikeB (ds : List PyData) : Bool := ds.all fun d => ds.all fun d' => PySem.W.alike d d'
def isTupB : PyData → Bool
  | .tuple (_ :: _) => true
  | _ => false
def isOthB : PyData → Bool
  | .none => false
  | .tuple _ => false
  | _ => true
def sortableB (ds : List PyData) : Bool := ds.all isTupB || ds.all isOthB
def srtO : List O → Option O
  | [x] => (match x.lparts with
    | some xs => (match O.toDs xs with
      | some ds => if allAlikeB ds && sortableB ds && ds.all (fun d => decide (d.depth ≤ 60)) then some (.l (((xs.zip ds).mergeSort (PySem.W.dataLe false (·.2))).map (·.1))) else none
      | none => none)
    | none => none)
  | _ => none
theorem Sta.dfs {B : Bs} {F H : Hp} {σ : St} {e : En} {G : Ws} : ∀ {w : Ws} {ds : List PyData}, Sta K B F H σ e (w ++ G) → O.toDs (w.map (·.2)) = some ds → DfAll K H (w.map (·.1)) ds
  | [], _, s, h => by unfold O.toDs at h; cases h; exact .nil
  | (v, x) :: w, ds, s, h => by
    rw [List.map_cons] at h
    unfold O.toDs at h
    split at h
    · rename_i d ds' h1 h2
      cases h
      exact .cons (s.df h1) (Sta.dfs (w := w) s.pop h2)
    · cases h
theorem merge_map {α β : Type} (f : α → β) (le : β → β → Bool) (xs : List α) : (xs.map f).mergeSort le = (xs.mergeSort fun a b => le (f a) (f b)).map f :=
  (List.map_mergeSort (r := fun a b => le (f a) (f b)) (s := le) (f := f) (l := xs) (fun _ _ _ _ => rfl)).symm
theorem zip_map_map {α β δ : Type} (f : α → β) : ∀ (xs : List α) (ds : List δ), (xs.map f).zip ds = (xs.zip ds).map fun p => (f p.1, p.2)
  | [], _ => by simp
  | _ :: _, [] => by simp
  | x :: xs, d :: ds => by simp [zip_map_map f xs ds]
theorem al_srt : Al K srtO (rSortD K) := fun B F H σ e G ws x Q s hx k => by
  unfold srtO at hx
  split at hx
  · rename_i y hw
    obtain ⟨v, rfl⟩ := ws1 hw
    split at hx
    · rename_i xs h1
      split at hx
      · rename_i ds h2
        split at hx
        · rename_i hc
          cases hx
          simp only [Bool.and_eq_true, List.all_eq_true, decide_eq_true_eq] at hc
          obtain ⟨p, w, F1, rfl, e1, e2, e3, s1⟩ := Sta.openL (G := G) s h1
          subst e2
          have hd := s1.dfs h2
          have hlen := dfa_len hd
          rw [List.length_map] at hlen
          refine ⟨p, _, ds, rfl, .of (s1.fh _ _ e1), hd.dp (Same.refl H), ?_, ?_, hc.2, fun l hl => ?_⟩
          · intro d hd' d' hd''
            have := hc.1.1
            unfold allAlikeB at this
            simp only [List.all_eq_true] at this
            exact this d hd' d' hd''
          · have := hc.1.2
            unfold sortableB at this
            simp only [Bool.or_eq_true, List.all_eq_true] at this
            rcases this with h | h
            · left
              intro d hd'
              have := h d hd'
              unfold isTupB at this
              split at this
              · exact ⟨_, _, rfl⟩
              · cases this
            · right
              intro d hd'
              have := h d hd'
              unfold isOthB at this
              split at this
              · cases this
              · cases this
              · rename_i h1 h2
                exact ⟨fun z => h1 z, fun xs z => h2 xs z⟩
          · let L := (w.zip ds).mergeSort (PySem.W.dataLe false (·.2))
            have hV : ((w.map (·.1)).zip ds).mergeSort (PySem.W.dataLe false (·.2)) = L.map fun p => (p.1.1, p.2) := by
              rw [zip_map_map (fun x : V × O => x.1)]
              exact merge_map (fun p : (V × O) × PyData => (p.1.1, p.2)) (PySem.W.dataLe false (·.2)) (w.zip ds)
            have hO : ((w.map (·.2)).zip ds).mergeSort (PySem.W.dataLe false (·.2)) = L.map fun p => (p.1.2, p.2) := by
              rw [zip_map_map (fun x : V × O => x.2)]
              exact merge_map (fun p : (V × O) × PyData => (p.1.2, p.2)) (PySem.W.dataLe false (·.2)) (w.zip ds)
            have pL : w.Perm (L.map (·.1)) := by
              have h3 := (List.mergeSort_perm (w.zip ds) (PySem.W.dataLe false (·.2))).map (·.1)
              rw [zip_fst hlen] at h3
              exact h3.symm
            have s2 : Sta K B F1 H σ e (L.map (·.1) ++ G) := s1.perm (pL.append_right G)
            have s3 := s2.newL hl
            rw [List.map_map, List.map_map] at s3
            have e1 : (((w.map (·.1)).zip ds).mergeSort (PySem.W.dataLe false (·.2))).map (·.1) = L.map ((·.1) ∘ (·.1)) := by rw [hV, List.map_map]; rfl
            have e2 : (((w.map (·.2)).zip ds).mergeSort (PySem.W.dataLe false (·.2))).map (·.1) = L.map ((·.2) ∘ (·.1)) := by rw [hO, List.map_map]; rfl
            rw [e1]
            rw [e2] at k
            exact k F1 _ _ s3 (same_upd hl)
        · cases hx
      · cases hx
    · cases hx
  · cases hx
/-! ### a chain of two comparisons -/
def mChain (f g : List PyData → Option PyData) (ms : MD (List O)) (mc : MD O) : MD O := fun e => match ms e with
  | some (xs, e1) => (match O.toDs xs with
    | some [x, y] => (match f [x, y] with
      | some (.bool true) => (match sV y with
        | some _ => mL g (lCons (mC y) (lCons mc lNil)) e1
        | none => none)
      | some (.bool false) => some (.v (.bool false), e1)
      | _ => none)
    | _ => none)
  | none => none
theorem chain_den {p q : Bool} {f g : List PyData → Option PyData} {ms : MD (List O)} {mc : MD O} {r r' : R2} {ta tb : TE} (hf : Sc K f (r2 r)) (hg : Sc K g (r2 r')) (hl : LS K p ms (tCons ta (tCons tb tNil))) :
    ∀ σ H Q, den K (p && q) (mChain f g ms mc) σ H Q → tChain r r' ta tb (den K q mc) σ H Q := fun σ H Q ⟨B, F, e, G, y, e', s, hm, k⟩ => by
  unfold mChain at hm
  split at hm
  · rename_i xs e1 h1
    refine hl σ H (fun vs H2 => match vs with | [x, y] => r x y H2 (fun z H3 => ∃ c, z = V.bl c ∧ (if c = true then den K q mc σ H3 (fun w' H4 => r' y w' H4 Q) else Q (.bl false) H3)) | _ => False) ⟨B, F, e, G, xs, e1, s, h1, fun F1 H1 vs s1 r1 sm1 => ?_⟩
    split at hm
    · rename_i dx dy h2
      have hd := r1.df s1.fh h2
      obtain ⟨vx, vy, rfl, bx, by'⟩ := dfa2 hd
      split at hm
      · rename_i h3
        split at hm
        · rename_i vy' h4
          obtain rfl := df_sV h4 by'
          obtain ⟨v, hv, q1⟩ := hf H1 _ _ _ hd h3
          cases hv
          refine q1 _ ⟨true, rfl, iteT ?_⟩
          rw [mL] at hm
          split at hm
          · rename_i zs e2 h5
            split at hm
            · rename_i ds h6
              split at hm
              · rename_i z h7
                obtain ⟨rfl, rfl⟩ := so hm
                unfold lCons at h5
                split at h5
                · rename_i x0 e0 h8
                  cases h8
                  split at h5
                  · rename_i xs0 e9 h9
                    obtain ⟨rfl, rfl⟩ := so h5
                    split at h9
                    · rename_i x1 e1' h10
                      split at h9
                      · rename_i xs1 e11 h11
                        cases h11
                        obtain ⟨rfl, rfl⟩ := so h9
                        refine ⟨B, F1, e1, G, x1, _, s1, h10, fun F2 H2 v2 s2 sm2 => ?_⟩
                        unfold O.toDs at h6
                        split at h6
                        · rename_i d1 ds1 h12 h13
                          cases h6
                          unfold O.toDs at h13
                          split at h13
                          · rename_i d2 ds2 h14 h15
                            cases h13
                            unfold O.toDs at h15
                            cases h15
                            cases h12
                            have hdd : DfAll K H2 [vy, v2] [dy, d2] := .cons (sV_df h4) (.cons (s2.df h14) .nil)
                            obtain ⟨v3, hv3, q3⟩ := hg H2 _ _ _ hdd h7
                            exact q3 Q (k F2 H2 v3 (s2.pop.push (sV_df hv3)) fun z => (sm1 (band1 z)).trans (sm2 (band2 z)))
                          · cases h13
                        · cases h6
                      · cases h9
                    · cases h9
                  · cases h5
                · cases h5
              · cases hm
            · cases hm
          · cases hm
        · cases hm
      · rename_i h3
        obtain ⟨rfl, rfl⟩ := so hm
        obtain ⟨v, hv, q1⟩ := hf H1 _ _ _ hd h3
        cases hv
        exact q1 _ ⟨false, rfl, iteF (k F1 H1 _ (s1.push (.bl false)) fun z => sm1 (band1 z))⟩
      · cases hm
    · cases hm
  · cases hm
variable {a b c : Expr} {ta tb : TE} {p q : Bool} {ms : MD (List O)} {mc : MD O} {f g : List PyData → Option PyData} {pos : Pos}
theorem d_chain {op op' : CmpOp} {r r' : R2} (ho : OpR X (compareOp op) r) (ho' : OpR X (compareOp op') r') (hf : Sc X.K f (r2 r)) (hg : Sc X.K g (r2 r')) (ha : PE X a ta) (hb : PE X b tb) (hc : PE X c (den X.K q mc)) (hl : LS X.K p ms (tCons ta (tCons tb tNil)))
    (hm : lastMarks [op, op'] [b, c] = false := by with_unfolding_all rfl) : PE X (.Compare a [op, op'] [b, c] pos) (den X.K (p && q) (mChain f g ms mc)) := pe_imp (pe_chain ho ho' ha hb hc hm) (chain_den hf hg hl)
theorem dt_chain {op op' : CmpOp} {r r' : R2} (ho : OpR X (compareOp op) r) (ho' : OpR X (compareOp op') r') (hf : Sc X.K f (r2 r)) (hg : Sc X.K g (r2 r')) (ha : PE X a ta) (hb : PE X b tb) (hc : PE X c (den X.K q mc)) (hl : LS X.K p ms (tCons ta (tCons tb tNil)))
    (hm : lastMarks [op, op'] [b, c] = false := by with_unfolding_all rfl) : PT X (.Compare a [op, op'] [b, c] pos) (denT X.K (p && q) (mT (mChain f g ms mc))) := pt_imp (pt_chain ho ho' ha hb hc hm) (mT_den (t := tChain r r' ta tb (den X.K q mc)) (chain_den hf hg hl))
/-! ### x or y by truth: lists, texts -/
def truO : O → Option Bool
  | .l xs => some (!xs.isEmpty)
  | .v (.list ds) => some (!ds.isEmpty)
  | .v (.str x) => if x.length ≤ sizeLine then some ((x.length : Int) != 0) else none
  | _ => none
def vOrT (a b : MD O) : MD O := fun e => match a e with
  | some (x, e1) => (match truO x with
    | some true => some (x, e1)
    | some false => b e1
    | none => none)
  | none => none
theorem truO_ok {F H : Hp} {v : V} {x : O} {T : List Addr} {k : Bool} (fh : Same F H) (r : Rp K F H v x T) (h : truO x = some k) : TruV K v H k := by
  unfold truO at h
  split at h
  · cases h
    cases r with
    | l hp e1 e2 _ =>
      refine .inl ⟨_, .of hp, ?_⟩
      subst e1 e2
      rw [List.isEmpty_map, List.isEmpty_map]
  · cases h
    obtain ⟨p, ws, rfl, hp, ha⟩ := df_list (rp_v r)
    refine .inl ⟨_, .of (fh _ _ hp), ?_⟩
    cases ha <;> rfl
  · split at h
    · rename_i hl
      cases h
      obtain rfl := df_str (rp_v r)
      exact ⟨hl, rfl⟩
    · cases h
  · cases h
theorem d_orT {na nb : MD O} {rest : List Expr} (ha : PE X a (den X.K p na)) (hb : PE X (.BoolOp .Or (b :: rest) pos) (den X.K q nb)) : PE X (.BoolOp .Or (a :: b :: rest) pos) (den X.K (p && q) (vOrT na nb)) := pe_imp (pe_orT ha hb) fun σ H Q ⟨B, F, e, G, x, e', s, hm, k⟩ => by
  unfold vOrT at hm
  split at hm
  · rename_i y e1 h1
    split at hm
    · rename_i h2
      obtain ⟨rfl, rfl⟩ := so hm
      refine ⟨B, F, e, G, _, e1, s, h1, fun F1 H1 v s1 sm1 => ?_⟩
      obtain ⟨T, r⟩ := s1.at
      exact ⟨true, truO_ok s1.fh r h2, iteT (k F1 H1 v s1 fun z => sm1 (band1 z))⟩
    · rename_i h2
      refine ⟨B, F, e, G, _, e1, s, h1, fun F1 H1 v s1 sm1 => ?_⟩
      obtain ⟨T, r⟩ := s1.at
      exact ⟨false, truO_ok s1.fh r h2, iteF ⟨B, F1, e1, G, x, e', s1.pop, hm, fun F2 H2 v2 s2 sm2 => k F2 H2 v2 s2 fun z => (sm1 (band1 z)).trans (sm2 (band2 z))⟩⟩
    · cases hm
  · cases hm
/-! ### xs[::-1] -/
def mRev (m : MD O) : MD O := fun e => match m e with
  | some (x, e1) => (match x.lparts with
    | some xs => some (.l xs.reverse, e1)
    | none => none)
  | none => none
theorem d_revL {m : MD O} {k : Nat} {p1 p2 p3 : Pos} (he : PE X a (den X.K p m)) : PE X (.Subscript a (.Slice none none (some (.UnaryOp .USub (.Constant (.int 1) k p1) p2)) p3) pos) (den X.K p (mRev m)) := pe_imp (pe_revL he) fun σ H Q ⟨B, F, e, G, x, e', s, hm, k⟩ => by
  unfold mRev at hm
  split at hm
  · rename_i y e1 h1
    split at hm
    · rename_i xs h2
      obtain ⟨rfl, rfl⟩ := so hm
      refine ⟨B, F, e, G, y, e1, s, h1, fun F1 H1 v s1 sm1 => ?_⟩
      obtain ⟨p, w, F2, rfl, e1', e2, e3, s2⟩ := s1.openL h2
      subst e2
      refine ⟨p, _, rfl, .of (s2.fh _ _ e1'), fun l hl => ?_⟩
      have s3 := (s2.perm ((List.reverse_perm w).symm.append_right G)).newL hl
      rw [List.map_reverse, List.map_reverse] at s3
      exact k F2 _ _ s3 fun z => (sm1 z).trans (same_upd hl)
    · cases hm
  · cases hm
end
end Dn

set_option Elab.async false
set_option linter.all false
set_option maxRecDepth 100000
set_option maxHeartbeats 4000000
namespace Dn
open PySem L2
/-! ### a list within a tree of one's own that changes -/
def O.kids : O → Option (List O)
  | .l xs => some xs
  | .t xs => some xs
  | _ => none
def O.withKids : O → List O → O
  | .l _, ys => .l ys
  | .t _, ys => .t ys
  | o, _ => o
def atK : O → List Int → Option O
  | o, [] => some o
  | o, k :: ks => (match o.kids with
    | some xs => (match ixN xs.length k with
      | some j => (match xs[j]? with
        | some x => atK x ks
        | none => none)
      | none => none)
    | none => none)
def setK : O → List Int → List O → Option O
  | .l _, [], ys => some (.l ys)
  | o, k :: ks, ys => (match o.kids with
    | some xs => (match ixN xs.length k with
      | some j => (match xs[j]? with
        | some x => (match setK x ks ys with
          | some x' => some (o.withKids (xs.set j x'))
          | none => none)
        | none => none)
      | none => none)
    | none => none)
  | _, [], _ => none
section
variable {K : PySem.W.Frag} {F H : Hp}
/-- the way from a value down to another one -/
inductive Way (K : PySem.W.Frag) (H : Hp) : V → List Int → V → Prop
  | nil {v : V} : Way K H v [] v
  | cons {p : Addr} {vs : List V} {k : Int} {j : Nat} {u z : V} {ks : List Int} : (H p = some (.lst vs) ∨ H p = some (.tup vs)) → ixN vs.length k = some j → vs[j]? = some u → Way K H u ks z → Way K H (.ref p) (k :: ks) z
theorem set_same {α : Type} {l : List α} {j : Nat} {a : α} (h : l[j]? = some a) : l.set j a = l := by
  apply List.ext_getElem?
  intro i
  by_cases hi : j = i
  · subst hi
    rw [List.getElem?_set_self (List.getElem?_eq_some_iff.mp h).1, h]
  · rw [List.getElem?_set_ne hi]
theorem rpl_pick : ∀ {ws : Ws} {T : List Addr} {j : Nat} {w : V × O}, RpL K F H ws T → ws[j]? = some w → ∃ T1 T2, T.Perm (T1 ++ T2) ∧ Rp K F H w.1 w.2 T1 ∧
    ∀ H' o' T1', Rp K F H' w.1 o' T1' → (∀ p ∈ T2, H' p = H p) → ∃ T', RpL K F H' (ws.set j (w.1, o')) T' ∧ T'.Perm (T1' ++ T2)
  | _, _, j, w, .nil, h => by simp at h
  | _, _, 0, w, .cons (T1 := Ta) (T2 := Tb) a t, h => by
    simp at h
    subst h
    refine ⟨Ta, Tb, .refl _, a, fun H' o' T1' r k => ⟨T1' ++ Tb, ?_, .refl _⟩⟩
    rw [List.set_cons_zero]
    exact .cons r (rpl_mono (Same.refl F) t k)
  | _, _, j + 1, w, .cons (x := x) (o := o) (T1 := Ta) (T2 := Tb) a t, h => by
    obtain ⟨T1, T2, p1, r1, k1⟩ := rpl_pick (j := j) t (by simpa using h)
    refine ⟨T1, Ta ++ T2, (List.Perm.append_left Ta p1).trans (pmid _ _ _), r1, fun H' o' T1' r k => ?_⟩
    obtain ⟨T', r2, p2⟩ := k1 H' o' T1' r fun p hp => k p (List.mem_append_right _ hp)
    refine ⟨Ta ++ T', ?_, (List.Perm.append_left Ta p2).trans (pmid _ _ _)⟩
    rw [List.set_cons_succ]
    exact .cons (rp_mono (Same.refl F) a fun p hp => k p (List.mem_append_left _ hp)) r2
theorem rp_leaf : ∀ (ks : List Int) {v : V} {o : O} {T : List Addr} {xs : List O}, Rp K F H v o T → atK o ks = some (.l xs) →
    ∃ q w Tw Tr, T.Perm (q :: (Tw ++ Tr)) ∧ H q = some (.lst (w.map (·.1))) ∧ w.map (·.2) = xs ∧ RpL K F H w Tw ∧ Way K H v ks (.ref q) ∧
    ∀ H' w' Tw', (∀ p ∈ Tr, H' p = H p) → H' q = some (.lst (w'.map (·.1))) → RpL K F H' w' Tw' → ∃ T' o', setK o ks (w'.map (·.2)) = some o' ∧ Rp K F H' v o' T' ∧ T'.Perm (q :: (Tw' ++ Tr))
  | [], v, o, T, xs, r, h => by
    unfold atK at h
    cases h
    cases r with
    | l hp e1 e2 rl =>
      rename_i p vs ws T'
      refine ⟨p, ws, T', [], by rw [List.append_nil], by rw [hp, e1], e2.symm, rl, .nil, fun H' w' Tw' k hq rl' => ⟨p :: Tw', _, rfl, .l hq rfl rfl rl', by rw [List.append_nil]⟩⟩
  | k :: ks, v, o, T, xs, r, h => by
    unfold atK at h
    split at h
    · rename_i zs hz
      split at h
      · rename_i j hj
        split at h
        · rename_i x hx
          cases o with
          | l ys =>
            cases hz
            cases r with
            | l hp e1 e2 rl =>
              rename_i p vs ws T'
              subst e2
              rw [List.getElem?_map] at hx
              obtain ⟨w0, hw0, rfl⟩ := Option.map_eq_some_iff.mp hx
              obtain ⟨T1, T2, p1, r1, k1⟩ := rpl_pick rl hw0
              obtain ⟨q, w, Tw, Tr, p2, hq, hw, rlw, way, k2⟩ := rp_leaf ks r1 h
              rw [List.length_map] at hj
              refine ⟨q, w, Tw, p :: (Tr ++ T2), ?_, hq, hw, rlw, .cons (.inl hp) (by rw [e1, List.length_map]; exact hj) (by rw [e1, List.getElem?_map, hw0]; rfl) way, fun H' w' Tw' kk hq' rl' => ?_⟩
              · refine ((p1.trans (List.Perm.append_right T2 p2)).cons p).trans ?_
                refine (List.Perm.swap _ _ _).trans (List.Perm.cons _ ?_)
                show (p :: ((Tw ++ Tr) ++ T2)).Perm _
                rw [List.append_assoc]
                exact (mid _ _ _).symm
              · obtain ⟨T', o', s1, s2, s3⟩ := k2 H' w' Tw' (fun a ha => kk a (List.mem_cons_of_mem _ (List.mem_append_left _ ha))) hq' rl'
                obtain ⟨T'', s4, s5⟩ := k1 H' o' T' s2 fun a ha => kk a (List.mem_cons_of_mem _ (List.mem_append_right _ ha))
                refine ⟨p :: T'', .l ((ws.map (·.2)).set j o'), ?_, .l ((kk p (List.mem_cons_self ..)).trans hp) ?_ ?_ s4, ?_⟩
                · unfold setK
                  simp only [O.kids, List.length_map, hj, List.getElem?_map, hw0, Option.map_some, s1, O.withKids]
                · rw [e1, List.map_set]
                  symm
                  apply set_same
                  rw [List.getElem?_map, hw0]; rfl
                · rw [List.map_set]
                · refine ((s5.trans (List.Perm.append_right T2 s3)).cons p).trans ?_
                  refine (List.Perm.swap _ _ _).trans (List.Perm.cons _ ?_)
                  show (p :: ((Tw' ++ Tr) ++ T2)).Perm _
                  rw [List.append_assoc]
                  exact (mid _ _ _).symm
          | t ys =>
            cases hz
            cases r with
            | t hp e1 e2 rl =>
              rename_i p vs ws T'
              subst e2
              rw [List.getElem?_map] at hx
              obtain ⟨w0, hw0, rfl⟩ := Option.map_eq_some_iff.mp hx
              obtain ⟨T1, T2, p1, r1, k1⟩ := rpl_pick rl hw0
              obtain ⟨q, w, Tw, Tr, p2, hq, hw, rlw, way, k2⟩ := rp_leaf ks r1 h
              rw [List.length_map] at hj
              refine ⟨q, w, Tw, p :: (Tr ++ T2), ?_, hq, hw, rlw, .cons (.inr hp) (by rw [e1, List.length_map]; exact hj) (by rw [e1, List.getElem?_map, hw0]; rfl) way, fun H' w' Tw' kk hq' rl' => ?_⟩
              · refine ((p1.trans (List.Perm.append_right T2 p2)).cons p).trans ?_
                refine (List.Perm.swap _ _ _).trans (List.Perm.cons _ ?_)
                show (p :: ((Tw ++ Tr) ++ T2)).Perm _
                rw [List.append_assoc]
                exact (mid _ _ _).symm
              · obtain ⟨T', o', s1, s2, s3⟩ := k2 H' w' Tw' (fun a ha => kk a (List.mem_cons_of_mem _ (List.mem_append_left _ ha))) hq' rl'
                obtain ⟨T'', s4, s5⟩ := k1 H' o' T' s2 fun a ha => kk a (List.mem_cons_of_mem _ (List.mem_append_right _ ha))
                refine ⟨p :: T'', .t ((ws.map (·.2)).set j o'), ?_, .t ((kk p (List.mem_cons_self ..)).trans hp) ?_ ?_ s4, ?_⟩
                · unfold setK
                  simp only [O.kids, List.length_map, hj, List.getElem?_map, hw0, Option.map_some, s1, O.withKids]
                · rw [e1, List.map_set]
                  symm
                  apply set_same
                  rw [List.getElem?_map, hw0]; rfl
                · rw [List.map_set]
                · refine ((s5.trans (List.Perm.append_right T2 s3)).cons p).trans ?_
                  refine (List.Perm.swap _ _ _).trans (List.Perm.cons _ ?_)
                  show (p :: ((Tw' ++ Tr) ++ T2)).Perm _
                  rw [List.append_assoc]
                  exact (mid _ _ _).symm
          | _ => cases hz
        · cases h
      · cases h
    · cases h
variable {H0 F0 : Hp} {ws : Ws} {B : Bs} {σ : St} {e : En} {G : Ws}
theorem Rel.putK {v : V} {o : O} {ks : List Int} {xs : List O} (r : Rel K H0 F0 F H ((v, o) :: ws)) (h : atK o ks = some (.l xs)) : ∃ q w, Way K H v ks (.ref q) ∧ H q = some (.lst (w.map (·.1))) ∧ w.map (·.2) = xs ∧
    ∀ w' rest, (w ++ ws).Perm (w' ++ rest) → ∃ o', setK o ks (w'.map (·.2)) = some o' ∧ Rel K H0 F0 F (upd H q (.lst (w'.map (·.1)))) ((v, o') :: rest) := by
  obtain ⟨T, rl, nd, hT⟩ := r.res
  cases rl with
  | cons a t =>
    rename_i T1 T2
    obtain ⟨q, w, Tw, Tr, p1, hq, hw, rlw, way, k⟩ := rp_leaf ks a h
    refine ⟨q, w, way, hq, hw, fun w' rest pm => ?_⟩
    have pT : (T1 ++ T2).Perm (q :: (Tw ++ T2 ++ Tr)) := by
      refine (List.Perm.append_right T2 p1).trans ?_
      rw [List.cons_append]
      refine List.Perm.cons _ ?_
      rw [List.append_assoc, List.append_assoc]
      exact List.Perm.append_left _ List.perm_append_comm
    have nd1 := pT.nodup_iff.mp nd
    obtain ⟨nq, nd2⟩ := List.nodup_cons.mp nd1
    have hqn := hT q (pT.mem_iff.mpr (List.mem_cons_self ..))
    have kq : ∀ p ∈ Tw ++ T2 ++ Tr, upd H q (.lst (w'.map (·.1))) p = H p := fun p hp => upd_ne fun z => nq (z ▸ hp)
    have m1 : RpL K F (upd H q (.lst (w'.map (·.1)))) (w ++ ws) (Tw ++ T2) := rpl_mono (Same.refl F) (rpl_append rlw t) fun p hp => kq p (List.mem_append_left _ hp)
    obtain ⟨T', pT', m2⟩ := rpl_perm pm m1
    obtain ⟨Ta, Tb, rfl, ra, rb⟩ := rpl_split m2
    obtain ⟨T3, o', s1, s2, s3⟩ := k _ w' Ta (fun p hp => kq p (List.mem_append_right _ hp)) upd_same ra
    have pF : (T3 ++ Tb).Perm (q :: (Tw ++ T2 ++ Tr)) := by
      refine (List.Perm.append_right Tb s3).trans ?_
      rw [List.cons_append]
      refine List.Perm.cons _ ?_
      rw [List.append_assoc]
      refine (List.Perm.append_left Ta List.perm_append_comm).trans ?_
      rw [← List.append_assoc]
      exact List.Perm.append_right Tr pT'.symm
    refine ⟨o', s1, fun p u e => ?_, r.f0, r.fn, fun p u e => ?_, T3 ++ Tb, .cons s2 rb, pF.nodup_iff.mpr nd1, fun p hp => hT p (pT.mem_iff.mpr (pF.mem_iff.mp hp))⟩
    · have : p ≠ q := fun z => by rw [z, hqn.2] at e; cases e
      rw [upd_ne this]
      exact r.h0 p u e
    · have : p ≠ q := fun z => by rw [z, hqn.1] at e; cases e
      rw [upd_ne this]
      exact r.fh p u e
theorem Sta.putK {i : Nat} {sl : Sl} {o : O} {ks : List Int} {xs : List O} (s : Sta K B F H σ e G) (hi : e[i]? = some sl) (ho : sl.o? = some o) (h : atK o ks = some (.l xs)) : ∃ v q w, σ[i]? = some (some v) ∧ Way K H v ks (.ref q) ∧ H q = some (.lst (w.map (·.1))) ∧ w.map (·.2) = xs ∧
    ∀ w' G', (w ++ G).Perm (w' ++ G') → ∃ o', setK o ks (w'.map (·.2)) = some o' ∧ Sta K B F (upd H q (.lst (w'.map (·.1)))) σ (e.set i (sl.like o')) G' := by
  obtain ⟨v, hv, s1⟩ := s.out hi ho
  obtain ⟨q, w, way, hp, hw, k⟩ := (s1.rel.perm (mid _ _ _)).putK h
  refine ⟨v, q, w, hv, way, hp, hw, fun w' G' pm => ?_⟩
  obtain ⟨o', ho', r⟩ := k w' (slots σ (e.set i .no) ++ G') (by
    refine (pmid _ _ _).symm.trans ?_
    refine (List.Perm.append_left _ pm).trans ?_
    exact pmid _ _ _)
  refine ⟨o', ho', ?_⟩
  have hl : i < e.length := (List.getElem?_eq_some_iff.mp hi).1
  have ok : SlOk B.vs σ (e.set i (sl.like o')) := by
    cases sl with
    | no => cases ho
    | own o => exact s.ok.own hi
    | pin o => exact s.ok.pin hi
  refine ⟨ok, r.perm ?_⟩
  have hlo : (sl.like o').o? = some o' := by
    cases sl with
    | no => cases ho
    | own o => rfl
    | pin o => rfl
  exact ((slots_put hlo hl hv).append_right G').symm
/-- what a method does to a list at the end of a way -/
def UpK (K : PySem.W.Frag) (f : List O → List O → Option (List O × O)) (r : V → List V → Hp → VK → Prop) : Prop :=
  ∀ (B : Bs) (F H : Hp) (σ : St) (e : En) (G ws : Ws) (i : Nat) (sl : Sl) (o : O) (ks : List Int) (xs xs' : List O) (y : O) (Q : VK), Sta K B F H σ e (ws ++ G) → e[i]? = some sl → sl.o? = some o → atK o ks = some (.l xs) → f xs (ws.map (·.2)) = some (xs', y) →
    ∃ v q vs0, σ[i]? = some (some v) ∧ Way K H v ks (.ref q) ∧ H q = some (.lst vs0) ∧ ∃ o', setK o ks xs' = some o' ∧ ((∀ F' H' v, Sta K B F' H' σ (e.set i (sl.like o')) ((v, y) :: G) → Q v H') → r (.ref q) (ws.map (·.1)) H Q)
theorem upk_app : UpK K uApp rAppend := fun B F H σ e G ws i sl o ks xs xs' y Q s hi ho ha hf => by
  unfold uApp at hf
  split at hf
  · rename_i z hw
    split at hf
    · rename_i hl
      cases hf
      obtain ⟨u, rfl⟩ := ws1 hw
      obtain ⟨v, q, w, hv, way, hp, rfl, k⟩ := s.putK hi ho ha
      rw [List.length_map] at hl
      obtain ⟨o', h1, s1⟩ := k (w ++ [(u, z)]) G (by rw [List.append_assoc])
      rw [List.map_append] at s1 h1
      exact ⟨v, q, _, hv, way, hp, o', h1, fun kk => ⟨q, _, u, rfl, rfl, hp, by rw [List.length_map]; exact hl, kk F _ .non (s1.push .non)⟩⟩
    · cases hf
  · cases hf
theorem upk_rev : UpK K uRev rReverse := fun B F H σ e G ws i sl o ks xs xs' y Q s hi ho ha hf => by
  unfold uRev at hf
  split at hf
  · rename_i hw
    cases hf
    have : ws = [] := List.map_eq_nil_iff.mp hw
    subst this
    obtain ⟨v, q, w, hv, way, hp, rfl, k⟩ := s.putK hi ho ha
    obtain ⟨o', h1, s1⟩ := k w.reverse G ((List.reverse_perm w).symm.append_right _)
    rw [List.map_reverse] at s1 h1
    exact ⟨v, q, _, hv, way, hp, o', h1, fun kk => ⟨q, _, rfl, rfl, hp, kk F _ .non (s1.push .non)⟩⟩
  · cases hf
theorem upk_clear : UpK K uClear rClear := fun B F H σ e G ws i sl o ks xs xs' y Q s hi ho ha hf => by
  unfold uClear at hf
  split at hf
  · rename_i hw
    cases hf
    have : ws = [] := List.map_eq_nil_iff.mp hw
    subst this
    obtain ⟨v, q, w, hv, way, hp, rfl, k⟩ := s.putK hi ho ha
    obtain ⟨o', h1, s1⟩ := k [] (w ++ G) (.refl _)
    have s2 : Sta K B F _ σ _ G := ⟨s1.ok, (s1.rel.perm (pmid _ _ _)).drop⟩
    exact ⟨v, q, _, hv, way, hp, o', h1, fun kk => ⟨q, _, rfl, rfl, hp, kk F _ .non (s2.push .non)⟩⟩
  · cases hf
def pathK (e : En) : List (En → Option O) → Option (List Int)
  | [] => some []
  | b :: bs => (match b e with
    | some (.v (.int k)) => (match pathK e bs with
      | some ks => some (k :: ks)
      | none => none)
    | _ => none)
/-- x[..].m(..): the arguments leave the slots -/
def mUpK (i : Nat) (bs : List (En → Option O)) (ms : MD (List O)) (f : List O → List O → Option (List O × O)) : MD O := fun e => match pathK e bs, e[i]?, ms e with
  | some ks, some (.own o), some (ys, _) => (match atK o ks with
    | some (.l xs) => (match f xs ys with
      | some (xs', y) => (match setK o ks xs' with
        | some o' => some (y, e.set i (.own o'))
        | none => none)
      | none => none)
    | _ => none)
  | some ks, some (.pin o), some (ys, _) => (match atK o ks with
    | some (.l xs) => (match f xs ys with
      | some (xs', y) => (match setK o ks xs' with
        | some o' => some (y, e.set i (.pin o'))
        | none => none)
      | none => none)
    | _ => none)
  | _, _, _ => none
def Recv (K : PySem.W.Frag) (i : Nat) (bs : List (En → Option O)) (t : TE) : Prop := ∀ (B : Bs) (F H : Hp) (σ : St) (e : En) (G : Ws) (v z : V) (ks : List Int) (Q : VK), Sta K B F H σ e G → σ[i]? = some (some v) → pathK e bs = some ks → Way K H v ks z → Q z H → t σ H Q
theorem way_same {H' : Hp} (sm : Same H H') : ∀ {v z : V} {ks : List Int}, Way K H v ks z → Way K H' v ks z
  | _, _, _, .nil => .nil
  | _, _, _, .cons hs hj hu w => .cons (hs.elim (fun h => .inl (sm _ _ h)) fun h => .inr (sm _ _ h)) hj hu (way_same sm w)
theorem way_uniq1 : ∀ {v z z' : V} {ks : List Int}, Way K H v ks z → Way K H v ks z' → z = z'
  | _, _, _, _, .nil, .nil => rfl
  | _, _, _, _, .cons hs hj hu w, .cons hs' hj' hu' w' => by
    have : ∀ {p : Addr} {a b : List V}, (H p = some (.lst a) ∨ H p = some (.tup a)) → (H p = some (.lst b) ∨ H p = some (.tup b)) → a = b := fun h1 h2 => by
      rcases h1 with h1 | h1 <;> rcases h2 with h2 | h2 <;> rw [h1] at h2 <;> cases h2 <;> rfl
    obtain rfl := this hs hs'
    rw [hj] at hj'
    cases hj'
    rw [hu] at hu'
    cases hu'
    exact way_uniq1 w w'
theorem way_uniq {H' : Hp} {v z z' : V} {ks : List Int} (sm : true = true → Same H H') (w : Way K H v ks z) (w' : Way K H' v ks z') : z' = z := way_uniq1 w' (way_same (sm rfl) w)
theorem ix_way {F : Hp} {p : Addr} {vs : List V} {k : Int} {j : Nat} {u : V} {Q : VK} (hs : H p = some (.lst vs) ∨ H p = some (.tup vs)) (hj : ixN vs.length k = some j) (hu : vs[j]? = some u) (q : Q u H) : rIx K (.ref p) (.int k) H Q := by
  rcases hs with h | h
  · exact .inl ⟨p, vs, k, u, rfl, rfl, .of h, atI_of hj hu, q⟩
  · exact .inr (.inl ⟨p, vs, k, u, rfl, rfl, .of h, atI_of hj hu, q⟩)
theorem recv1 {i : Nat} {b : En → Option O} : Recv K i [b] (tOp (rIx K) (tVar i) (denB K b)) := fun B F H σ e G v z ks Q s hv hk way q => by
  unfold pathK at hk
  split at hk
  · rename_i k hb
    unfold pathK at hk
    cases hk
    cases way with
    | cons hs hj hu w =>
      cases w
      refine ⟨_, hv, B, F, e, G, _, s, hb, fun v' T r => ?_⟩
      obtain rfl := rp_int r
      exact ix_way (F := F) hs hj hu q
  · cases hk
theorem recv2 {i : Nat} {b b' : En → Option O} : Recv K i [b, b'] (tOp (rIx K) (tOp (rIx K) (tVar i) (denB K b)) (denB K b')) := fun B F H σ e G v z ks Q s hv hk way q => by
  unfold pathK at hk
  split at hk
  · rename_i k hb
    split at hk
    · rename_i ks' hk'
      cases hk
      unfold pathK at hk'
      split at hk'
      · rename_i k' hb'
        unfold pathK at hk'
        cases hk'
        cases way with
        | cons hs hj hu w =>
          cases w with
          | cons hs' hj' hu' w' =>
            cases w'
            refine ⟨_, hv, B, F, e, G, _, s, hb, fun v' T r => ?_⟩
            obtain rfl := rp_int r
            refine ix_way (F := F) hs hj hu ⟨B, F, e, G, _, s, hb', fun v' T r => ?_⟩
            obtain rfl := rp_int r
            exact ix_way (F := F) hs' hj' hu' q
      · cases hk'
    · cases hk
  · cases hk
/-- the arguments leave the slots as they are -/
def PureA (ms : MD (List O)) : Prop := ∀ e ys e1, ms e = some (ys, e1) → e1 = e
def PureE (m : MD O) : Prop := ∀ e x e1, m e = some (x, e1) → e1 = e
theorem pure_nil : PureA aNil := fun e ys e1 h => by cases h; rfl
theorem pure_cons {m : MD O} {ms : MD (List O)} (h1 : PureE m) (h2 : PureA ms) : PureA (aCons m ms) := fun e ys e1 h => by
  unfold aCons lCons at h
  split at h
  · rename_i x e2 h3
    split at h
    · rename_i xs e3 h4
      obtain ⟨rfl, rfl⟩ := so h
      rw [h2 _ _ _ h4, h1 _ _ _ h3]
    · cases h
  · cases h
theorem pure_c {d : PyData} : PureE (mC d) := fun e x e1 h => by cases h; rfl
theorem pure_a {f : List O → Option O} {ms : MD (List O)} (h : PureA ms) : PureE (mA f ms) := fun e x e1 hm => by
  unfold mA at hm
  split at hm
  · rename_i xs e2 h1
    split at hm
    · obtain ⟨rfl, rfl⟩ := so hm
      exact h _ _ _ h1
    · cases hm
  · cases hm
theorem mUpK_den {i : Nat} {bs : List (En → Option O)} {ms : MD (List O)} {f : List O → List O → Option (List O × O)} {r : V → List V → Hp → VK → Prop} {t : TA} {tr : TE} (hr : UpK K f r) (hrec : Recv K i bs tr) (hp : PureA ms) (hl : AS K true ms t) : ∀ σ H Q, den K false (mUpK i bs ms f) σ H Q → tBM K "list" r tr t σ H Q := fun σ H Q ⟨B, F, e, G, y, e', s, hm, k⟩ => by
  have go : ∀ {sl : Sl} {o o' : O} {ks : List Int} {xs xs' ys : List O} {ex : En}, pathK e bs = some ks → e[i]? = some sl → sl.o? = some o → ms e = some (ys, ex) → atK o ks = some (.l xs) → f xs ys = some (xs', y) → setK o ks xs' = some o' → e' = e.set i (sl.like o') → tBM K "list" r tr t σ H Q := fun {sl o o' ks xs xs' ys ex} hk hi ho hms hat hf hset he => by
    obtain ⟨v, q, w, hv, way, hq, _, _⟩ := s.putK hi ho hat
    refine hrec B F H σ e G v (.ref q) ks _ s hv hk way ⟨.inl ⟨rfl, _, .of hq⟩, ?_⟩
    refine hl σ H _ ⟨B, F, e, G, ys, ex, s, hms, fun F1 H1 ws s1 r1 sm1 => ?_⟩
    subst r1
    obtain rfl := hp _ _ _ hms
    obtain ⟨v1, q1, vs1, hv1, way1, hq1, o1, hs1, kk⟩ := hr B F1 H1 σ ex G ws i sl o ks xs xs' y Q s1 hi ho hat hf
    rw [hset] at hs1
    cases hs1
    rw [hv] at hv1
    cases hv1
    have : V.ref q1 = V.ref q := way_uniq sm1 way way1
    cases this
    exact kk fun F2 H2 v2 s2 => k F2 H2 v2 (by rw [he]; exact s2) fun z => nomatch z
  unfold mUpK at hm
  split at hm
  · rename_i ks o ys ex hk hi hms
    split at hm
    · rename_i xs hat
      split at hm
      · rename_i xs' y' hf
        split at hm
        · rename_i o' hset
          obtain ⟨rfl, rfl⟩ := so hm
          exact go hk hi rfl hms hat hf hset rfl
        · cases hm
      · cases hm
    · cases hm
  · rename_i ks o ys ex hk hi hms
    split at hm
    · rename_i xs hat
      split at hm
      · rename_i xs' y' hf
        split at hm
        · rename_i o' hset
          obtain ⟨rfl, rfl⟩ := so hm
          exact go hk hi rfl hms hat hf hset rfl
        · cases hm
      · cases hm
    · cases hm
  · cases hm
variable {X : Cx}
theorem d_upK {i : Nat} {bs : List (En → Option O)} {x ex : Expr} {es : List Expr} {ms : MD (List O)} {f : List O → List O → Option (List O × O)} {r : V → List V → Hp → VK → Prop} {tr : TE} {name : Str} {id : String} {apos cpos : Pos} (slot : Slot "list" name id) (hty : typeOf (.builtin id) = pure (.type "method_descriptor")) (hm : MtR X id r) (hr : UpK X.K f r)
    (hrec : Recv X.K i bs tr) (ho : PE X x tr) (hpu : PureA ms) (ha : PA X (ex :: es) (denA X.K true ms)) (hbase : attributeBase x name X.env (eval x X.env) = eval x X.env := by rfl)
    (hfew : ((backTo cpos (starEach (ex :: es) X.env)).all (fun x => !x.1) && (backToKw cpos (keywordEach [] X.env)).all (fun x => x.1.isSome)
      && decide ((ex :: es).length + ([] : List Keyword).length + (if ([] : List Keyword).isEmpty then 0 else 1) < 30)) = true := by rfl)
    (hline : (apos.endLine == cpos.line) = true := by rfl) (hs : starEach (ex :: es) X.env = (false, eval ex X.env) :: starEach es X.env := by rfl) (hplain : (backTo cpos (starEach es X.env)).any (·.1) = false := by rfl) :
    PE X (.Call (.Attribute x name apos) (ex :: es) [] cpos) (den X.K false (mUpK i bs ms f)) :=
  pe_imp (pe_bm PySem.F.plainAttrs_list slot hty hm ho ha hbase hfew hline hs hplain) (mUpK_den hr hrec hpu fun _ _ _ h => h)
theorem d_upK0 {i : Nat} {bs : List (En → Option O)} {x : Expr} {f : List O → List O → Option (List O × O)} {r : V → List V → Hp → VK → Prop} {tr : TE} {name : Str} {id : String} {apos cpos : Pos} (slot : Slot "list" name id) (hty : typeOf (.builtin id) = pure (.type "method_descriptor")) (hm : MtR X id r) (hr : UpK X.K f r)
    (hrec : Recv X.K i bs tr) (ho : PE X x tr) (hbase : attributeBase x name X.env (eval x X.env) = eval x X.env := by rfl) (hline : (apos.endLine == cpos.line) = true := by rfl) :
    PE X (.Call (.Attribute x name apos) [] [] cpos) (den X.K false (mUpK i bs aNil f)) :=
  pe_imp (pe_bm0 PySem.F.plainAttrs_list slot hty hm ho hbase hline) fun σ H Q h => mUpK_den (t := tNil) hr hrec pure_nil as_nil σ H Q h
theorem px1 {a b : Expr} {i : Nat} {mb : En → Option O} {pos : Pos} (ha : PE X a (tVar i)) (hb : PE X b (denB X.K mb)) (hs : PlainIx b) : PE X (.Subscript a b pos) (tOp (rIx X.K) (tVar i) (denB X.K mb)) := pe_ix ix_seq ha hb hs
theorem px2 {a b : Expr} {t : TE} {mb : En → Option O} {pos : Pos} (ha : PE X a t) (hb : PE X b (denB X.K mb)) (hs : PlainIx b) : PE X (.Subscript a b pos) (tOp (rIx X.K) t (denB X.K mb)) := pe_ix ix_seq ha hb hs
theorem d_globI {x : Str} {i : Int} {pos : Pos} (hg : Gl X x) (hm : ∃ t, X.mg x = some (.int i t)) (hdb : (x == ("__debug__" : Str)) = false := by decide) : PE X (.Name x pos) (den X.K true (mC (.int i))) := by
  obtain ⟨t, hm⟩ := hm
  exact d_glob (v := .int i) hg hm ⟨t, rfl⟩ rfl hdb
theorem d_globS {x z : Str} {pos : Pos} (hg : Gl X x) (hm : ∃ t, X.mg x = some (.str z t)) (hdb : (x == ("__debug__" : Str)) = false := by decide) : PE X (.Name x pos) (den X.K true (mC (.str z))) := by
  obtain ⟨t, hm⟩ := hm
  exact d_glob (v := .str z) hg hm ⟨t, rfl⟩ rfl hdb
end
end Dn

set_option Elab.async false
set_option linter.all false
set_option maxRecDepth 100000
set_option maxHeartbeats 4000000
namespace Dn
open PySem L2
/-! ### a look down a way into a tree -/
def O.kidsL : O → Option (List O)
  | .l xs => some xs
  | .t xs => some xs
  | .v (.list ds) => some (ds.map .v)
  | .v (.tuple ds) => some (ds.map .v)
  | _ => none
def atL : O → List Int → Option O
  | o, [] => some o
  | o, k :: ks => (match o.kidsL with
    | some xs => (match ixN xs.length k with
      | some j => (match xs[j]? with
        | some x => atL x ks
        | none => none)
      | none => none)
    | none => none)
section
variable {K : PySem.W.Frag} {F H : Hp} {X : Cx}
theorem rp_at (fh : Same F H) : ∀ (ks : List Int) {v : V} {o x : O} {T : List Addr}, Rp K F H v o T → atL o ks = some x → ∃ z T', Way K H v ks z ∧ Rp K F H z x T'
  | [], v, o, x, T, r, h => by
    unfold atL at h
    cases h
    exact ⟨v, T, .nil, r⟩
  | k :: ks, v, o, x, T, r, h => by
    unfold atL at h
    split at h
    · rename_i zs hz
      split at h
      · rename_i j hj
        split at h
        · rename_i y hy
          have main : ∃ p vs u T', v = .ref p ∧ (H p = some (.lst vs) ∨ H p = some (.tup vs)) ∧ vs.length = zs.length ∧ vs[j]? = some u ∧ Rp K F H u y T' := by
            cases o with
            | l ys =>
              cases hz
              cases r with
              | l hp e1 e2 rl =>
                rename_i p vs ws T'
                subst e2
                rw [List.getElem?_map] at hy
                obtain ⟨w0, hw0, rfl⟩ := Option.map_eq_some_iff.mp hy
                obtain ⟨T2, r2⟩ := rpl_get rl hw0
                exact ⟨p, vs, w0.1, T2, rfl, .inl hp, by rw [e1, List.length_map, List.length_map], by rw [e1, List.getElem?_map, hw0]; rfl, r2⟩
            | t ys =>
              cases hz
              cases r with
              | t hp e1 e2 rl =>
                rename_i p vs ws T'
                subst e2
                rw [List.getElem?_map] at hy
                obtain ⟨w0, hw0, rfl⟩ := Option.map_eq_some_iff.mp hy
                obtain ⟨T2, r2⟩ := rpl_get rl hw0
                exact ⟨p, vs, w0.1, T2, rfl, .inr hp, by rw [e1, List.length_map, List.length_map], by rw [e1, List.getElem?_map, hw0]; rfl, r2⟩
            | v d =>
              cases d with
              | list ds =>
                cases hz
                obtain ⟨p, vs, rfl, hp, ha⟩ := df_list (rp_v r)
                rw [List.getElem?_map] at hy
                obtain ⟨d0, hd0, rfl⟩ := Option.map_eq_some_iff.mp hy
                obtain ⟨u, h1, h2⟩ := dfa_get ha hd0
                exact ⟨p, vs, u, [], rfl, .inl (fh _ _ hp), by rw [List.length_map]; exact dfa_len ha, h1, .v h2⟩
              | tuple ds =>
                cases hz
                obtain ⟨p, vs, rfl, hp, ha⟩ := df_tuple (rp_v r)
                rw [List.getElem?_map] at hy
                obtain ⟨d0, hd0, rfl⟩ := Option.map_eq_some_iff.mp hy
                obtain ⟨u, h1, h2⟩ := dfa_get ha hd0
                exact ⟨p, vs, u, [], rfl, .inr (fh _ _ hp), by rw [List.length_map]; exact dfa_len ha, h1, .v h2⟩
              | _ => cases hz
            | _ => cases hz
          obtain ⟨p, vs, u, T', rfl, hp, hlen, hu, r'⟩ := main
          obtain ⟨z, T'', way, rz⟩ := rp_at fh ks r' h
          exact ⟨z, T'', .cons hp (by rw [hlen]; exact hj) hu way, rz⟩
        · cases h
      · cases h
    · cases h
/-- a look at x[..] ahead of further looks that leave the slots -/
def lAt (i : Nat) (bs : List (En → Option O)) (ms : MD (List O)) : MD (List O) := fun e => match pathK e bs, (e[i]?).bind Sl.o?, ms e with
  | some ks, some o, some (xs, e1) => (match atL o ks with
    | some x => some (x :: xs, e1)
    | none => none)
  | _, _, _ => none
theorem ls_at {i : Nat} {bs : List (En → Option O)} {ms : MD (List O)} {t : TA} {tr : TE} (hrec : Recv K i bs tr) (hp : PureA ms) (h : LS K true ms t) : LS K true (lAt i bs ms) (tCons tr t) := fun σ H Q ⟨B, F, e, G, y, e', s, hm, k⟩ => by
  unfold lAt at hm
  split at hm
  · rename_i ks o xs e1 hk ho hms
    split at hm
    · rename_i x hx
      obtain ⟨rfl, rfl⟩ := so hm
      obtain ⟨sl, hi, hs⟩ := Option.bind_eq_some_iff.mp ho
      obtain ⟨v, hv, T, r⟩ := s.seeO hi hs
      obtain ⟨z, T', way, rz⟩ := rp_at s.fh ks r hx
      have e1e := hp _ _ _ hms
      refine hrec B F H σ e G v z ks _ s hv hk way ?_
      refine h σ H _ ⟨B, F, e, G, xs, _, s, hms, fun F1 H1 vs s1 r1 sm1 => ?_⟩
      obtain ⟨v1, hv1, T1, r2⟩ := s1.seeO (by rw [e1e]; exact hi) hs
      rw [hv] at hv1
      cases hv1
      obtain ⟨z1, T2, way1, rz1⟩ := rp_at s1.fh ks r2 hx
      have : z1 = z := way_uniq sm1 way way1
      subst this
      exact k F1 H1 (z1 :: vs) s1 (.cons rz1 r1) sm1
    · cases hm
  · cases hm
theorem ls_consT {p : Bool} {m : MD O} {ms : MD (List O)} {t : TA} (h : LS K true ms t) (hp : p = true := by rfl) : LS K true (lCons m ms) (tCons (den K p m) t) := by
  subst hp
  exact ls_cons (p := true) (q := true) h
theorem dl_consT {p : Bool} {e : Expr} {es : List Expr} {m : MD O} {ms : MD (List O)} (ha : PE X e (den X.K p m)) (hr : PA X es (denL X.K true ms)) (hp : p = true := by rfl) (hs : starEach (e :: es) X.env = (false, eval e X.env) :: starEach es X.env := by rfl) :
    PA X (e :: es) (denL X.K true (lCons m ms)) := by
  subst hp
  exact dl_cons (p := true) (q := true) ha hr hs
theorem pureL_nil : PureA lNil := fun e ys e1 h => by cases h; rfl
theorem pureL_cons {m : MD O} {ms : MD (List O)} (h1 : PureE m) (h2 : PureA ms) : PureA (lCons m ms) := pure_cons h1 h2
theorem pureL_see {i : Nat} {ms : MD (List O)} (h : PureA ms) : PureA (lSee i ms) := fun e ys e1 hm => by
  unfold lSee at hm
  split at hm
  · split at hm
    · rename_i xs e2 h2
      split at hm
      · obtain ⟨rfl, rfl⟩ := so hm
        exact h _ _ _ h2
      · cases hm
    · cases hm
  · cases hm
theorem pureL_at {i : Nat} {bs : List (En → Option O)} {ms : MD (List O)} (h : PureA ms) : PureA (lAt i bs ms) := fun e ys e1 hm => by
  unfold lAt at hm
  split at hm
  · rename_i h3
    split at hm
    · obtain ⟨rfl, rfl⟩ := so hm
      exact h _ _ _ h3
    · cases hm
  · cases hm
theorem pureE_lk {f : List O → Option PyData} {ms : MD (List O)} (h : PureA ms) : PureE (mLk f ms) := fun e x e1 hm => by
  unfold mLk at hm
  split at hm
  · rename_i h1
    split at hm
    · obtain ⟨rfl, rfl⟩ := so hm
      exact h _ _ _ h1
    · cases hm
  · cases hm
theorem pureE_l {f : List PyData → Option PyData} {ms : MD (List O)} (h : PureA ms) : PureE (mL f ms) := fun e x e1 hm => by
  unfold mL at hm
  split at hm
  · rename_i h1
    split at hm
    · split at hm
      · obtain ⟨rfl, rfl⟩ := so hm
        exact h _ _ _ h1
      · cases hm
    · cases hm
  · cases hm
theorem dl_at {i : Nat} {bs : List (En → Option O)} {e : Expr} {es : List Expr} {ms : MD (List O)} {tr : TE} (hrec : Recv X.K i bs tr) (hpu : PureA ms) (ha : PE X e tr) (hr : PA X es (denL X.K true ms)) (hs : starEach (e :: es) X.env = (false, eval e X.env) :: starEach es X.env := by rfl) :
    PA X (e :: es) (denL X.K true (lAt i bs ms)) := pa_imp (pa_cons ha hr hs) (ls_at hrec hpu fun _ _ _ h => h)
theorem n_at {i : Nat} {bs : List (En → Option O)} {ms : MD (List O)} {n : Nat} (h : ∀ e xs e1, ms e = some (xs, e1) → xs.length = n) : ∀ e xs e1, lAt i bs ms e = some (xs, e1) → xs.length = n + 1 := fun e xs e1 hm => by
  unfold lAt at hm
  split at hm
  · rename_i h3
    split at hm
    · obtain ⟨rfl, rfl⟩ := so hm
      rw [List.length_cons, h _ _ _ h3]
    · cases hm
  · cases hm
/-! ### a slice of a tuple that is looked at: its parts are frozen -/
def mSlK (i : Nat) (bs : List (En → Option O)) (lo hi : Option Int) : MD O := fun e => match pathK e bs, (e[i]?).bind Sl.o? with
  | some ks, some o => (match atL o ks with
    | some x => (match x.tparts with
      | some xs => (match O.allV (cutG xs lo hi) with
        | some ds => if HT.sIx xs.length 0 lo = 0 ∧ HT.sIx xs.length xs.length hi = xs.length then none else if ds.length ≤ sizeLine then some (.v (.tuple ds), e) else none
        | none => none)
      | none => none)
    | none => none)
  | _, _ => none
/-- a written end of a slice -/
def tLit (o : Option Int) : TO := fun _ H Q => Q o H
theorem po_lit {n : Nat} {j pos} : PO X (some (.Constant (.int (n : Int)) j pos)) (tLit (some (n : Int))) := po_imp (po_some pe_int) fun σ H Q h => ⟨_, rfl, h⟩
theorem po_nolit : PO X none (tLit none) := po_imp po_none fun σ H Q h => h
theorem toDs_v0 : ∀ ds : List PyData, O.toDs (ds.map .v) = some ds
  | [] => rfl
  | d :: ds => by rw [List.map_cons]; unfold O.toDs; rw [toDs_v0 ds]; rfl
theorem rpl_cutV {ws : Ws} {T : List Addr} {lo hi : Option Int} {ds : List PyData} (r : RpL K F H ws T) (h : O.allV (cutG (ws.map (·.2)) lo hi) = some ds) : DfAll K F (cutV (ws.map (·.1)) lo hi) ds := by
  rw [cutV_map]
  rw [cutG_map] at h
  have hsub : ∀ w ∈ cutG ws lo hi, ∃ T', Rp K F H w.1 w.2 T' := fun w hw => by
    have : w ∈ ws := by
      unfold cutG at hw
      exact List.mem_of_mem_drop (List.mem_of_mem_take hw)
    obtain ⟨j, hj, rfl⟩ := List.getElem_of_mem this
    exact rpl_get r (List.getElem?_eq_getElem hj)
  generalize cutG ws lo hi = cs at h hsub
  clear r
  induction cs generalizing ds with
  | nil => cases h; exact .nil
  | cons c cs ih =>
    obtain ⟨v, o⟩ := c
    rw [List.map_cons] at h
    cases o with
    | v d =>
      unfold O.allV at h
      split at h
      · rename_i ds' h'
        cases h
        obtain ⟨T', r⟩ := hsub (v, .v d) (List.mem_cons_self ..)
        exact .cons (rp_v r) (ih h' fun w hw => hsub w (List.mem_cons_of_mem _ hw))
      · cases h
    | _ => cases h
theorem d_slK {i : Nat} {bs : List (En → Option O)} {x : Expr} {tr : TE} {lo hi : Option Expr} {lo' hi' : Option Int} {pos p2 : Pos} (hrec : Recv X.K i bs tr) (he : PE X x tr) (hl : PO X lo (tLit lo')) (hu : PO X hi (tLit hi')) :
    PE X (.Subscript x (.Slice lo hi none p2) pos) (den X.K true (mSlK i bs lo' hi')) := pe_imp (pe_slice sl_A he hl hu) fun σ H Q ⟨B, F, e, G, y, e', s, hm, k⟩ => by
  unfold mSlK at hm
  split at hm
  · rename_i ks o hk ho
    split at hm
    · rename_i x hx
      split at hm
      · rename_i xs hxs
        split at hm
        · rename_i ds hds
          split at hm
          · cases hm
          · rename_i hn
            split at hm
            · rename_i hlen
              obtain ⟨rfl, rfl⟩ := so hm
              obtain ⟨sl, hi, hs⟩ := Option.bind_eq_some_iff.mp ho
              obtain ⟨v, hv, T, r⟩ := s.seeO hi hs
              obtain ⟨z, T', way, rz⟩ := rp_at s.fh ks r hx
              refine hrec B F H σ e G v z ks _ s hv hk way ?_
              show rSlA X.K z _ _ H Q
              have main : ∃ p vs, z = .ref p ∧ SqT X.K H p vs ∧ vs.length = xs.length ∧ DfAll X.K F (cutV vs lo' hi') ds := by
                cases x with
                | t ys =>
                  cases hxs
                  cases rz with
                  | t hp e1 e2 rl =>
                    subst e2
                    refine ⟨_, _, rfl, .of hp, by rw [e1, List.length_map, List.length_map], ?_⟩
                    rw [e1]
                    exact rpl_cutV rl hds
                | v d =>
                  cases d with
                  | tuple es =>
                    cases hxs
                    obtain ⟨p, vs, rfl, hp, ha⟩ := df_tuple (rp_v rz)
                    refine ⟨p, vs, rfl, .of (s.fh _ _ hp), by rw [List.length_map]; exact dfa_len ha, ?_⟩
                    have hl : vs.length = (es.map O.v).length := by rw [List.length_map]; exact dfa_len ha
                    have := rpl_cutV (ws := vs.zip (es.map O.v)) (H := H) (rpl_dfs ha) (by rw [zip_snd hl]; exact hds)
                    rw [zip_fst hl] at this
                    exact this
                  | _ => cases hxs
                | _ => cases hxs
              obtain ⟨p, vs, rfl, hq, hlv, hd⟩ := main
              refine .inr (.inr ⟨p, vs, rfl, hq, by rw [hlv]; exact hn, fun q hq' => ?_⟩)
              have s1 := (s.pushAll hd).newT hq'
              have hl2 := dfa_len hd
              rw [zip_fst (by rw [List.length_map]; exact hl2), zip_snd (by rw [List.length_map]; exact hl2)] at s1
              obtain ⟨F', s2⟩ := s1.freeze (show (O.t (ds.map .v)).toD = some (.tuple ds) by
                show (O.toDs (ds.map .v)).map PyData.tuple = _
                rw [toDs_v0]; rfl)
              exact k F' _ _ s2 fun _ => same_upd hq'
            · cases hm
        · cases hm
      · cases hm
    · cases hm
  · cases hm
/-! ### order of data -/
def ordOk (d e : PyData) : Bool := PySem.W.alike d e && !isN d && decide (d.depth ≤ 60)
def fLtD : List PyData → Option PyData
  | [d, e] => if ordOk d e then some (.bool (PySem.W.dataLt d e)) else none
  | _ => none
def fGtD : List PyData → Option PyData
  | [d, e] => if ordOk d e then some (.bool (PySem.W.dataLt e d)) else none
  | _ => none
def fLeD : List PyData → Option PyData
  | [d, e] => if ordOk d e then some (.bool (!PySem.W.dataLt e d)) else none
  | _ => none
def fGeD : List PyData → Option PyData
  | [d, e] => if ordOk d e then some (.bool (!PySem.W.dataLt d e)) else none
  | _ => none
def rOrd (K : PySem.W.Frag) (b : PyData → PyData → Bool) : R2 := fun x y H Q => ∃ d e, Dp K H x d ∧ Dp K H y e ∧ PySem.W.alike d e = true ∧ d ≠ .none ∧ d.depth ≤ 60 ∧ Q (.bl (b d e)) H
theorem op_ltD (hu : X.A.units + 65 < cLine) : OpR X (compareOp .Lt) (rOrd X.K PySem.W.dataLt) := by
  intro pins s σ H x y v u Q I rx ry ⟨d, e, hd, he, ha, hn, hdp, q⟩
  obtain ⟨as, r1⟩ := Dp.reads I d x v hd rx
  obtain ⟨bs, r2⟩ := Dp.reads I e y u he ry
  exact PySem.W.lt_data r1 r2 ha hn (by omega) ⟨.bl _, H, I, rfl, q⟩
theorem op_gtD (hu : X.A.units + 65 < cLine) : OpR X (compareOp .Gt) (rOrd X.K fun d e => PySem.W.dataLt e d) := by
  intro pins s σ H x y v u Q I rx ry ⟨d, e, hd, he, ha, hn, hdp, q⟩
  obtain ⟨as, r1⟩ := Dp.reads I d x v hd rx
  obtain ⟨bs, r2⟩ := Dp.reads I e y u he ry
  exact PySem.W.gt_data r1 r2 ha hn (by omega) ⟨.bl _, H, I, rfl, q⟩
theorem op_leD (hu : X.A.units + 65 < cLine) : OpR X (compareOp .LtE) (rOrd X.K fun d e => !PySem.W.dataLt e d) := by
  intro pins s σ H x y v u Q I rx ry ⟨d, e, hd, he, ha, hn, hdp, q⟩
  obtain ⟨as, r1⟩ := Dp.reads I d x v hd rx
  obtain ⟨bs, r2⟩ := Dp.reads I e y u he ry
  exact PySem.W.le_data r1 r2 ha hn (by omega) ⟨.bl _, H, I, rfl, q⟩
theorem op_geD (hu : X.A.units + 65 < cLine) : OpR X (compareOp .GtE) (rOrd X.K fun d e => !PySem.W.dataLt d e) := by
  intro pins s σ H x y v u Q I rx ry ⟨d, e, hd, he, ha, hn, hdp, q⟩
  obtain ⟨as, r1⟩ := Dp.reads I d x v hd rx
  obtain ⟨bs, r2⟩ := Dp.reads I e y u he ry
  exact PySem.W.ge_data r1 r2 ha hn (by omega) ⟨.bl _, H, I, rfl, q⟩
theorem sc_ord {b : PyData → PyData → Bool} : Sc K (fun ds => match ds with | [d, e] => if ordOk d e then some (.bool (b d e)) else none | _ => none) (r2 (rOrd K b)) := fun H vs ds z a hf => by
  dsimp only at hf
  split at hf
  · split at hf
    · rename_i d e ho
      cases hf
      unfold ordOk at ho
      simp only [Bool.and_eq_true, Bool.not_eq_true', decide_eq_true_eq] at ho
      obtain ⟨v, u, rfl, h1, h2⟩ := dfa2 a
      refine ⟨_, rfl, fun Q q => ⟨d, e, h1.dp (.refl H), h2.dp (.refl H), ho.1.1, fun z => ?_, ho.2, q⟩⟩
      subst z
      cases ho.1.2
    · cases hf
  · cases hf
theorem sc_ltD : Sc K fLtD (r2 (rOrd K PySem.W.dataLt)) := sc_ord
theorem sc_gtD : Sc K fGtD (r2 (rOrd K fun d e => PySem.W.dataLt e d)) := sc_ord
theorem sc_leD : Sc K fLeD (r2 (rOrd K fun d e => !PySem.W.dataLt e d)) := sc_ord
theorem sc_geD : Sc K fGeD (r2 (rOrd K fun d e => !PySem.W.dataLt d e)) := sc_ord
end
end Dn

set_option Elab.async false
set_option linter.all false
set_option maxRecDepth 100000
set_option maxHeartbeats 4000000
namespace Dn
open PySem L2
/-! ### xs = xs + [r + [y] for r in xs], the rows of xs stay one's own -/
def dblRow (d : PyData) : O → Option O
  | .l zs => (match O.allV zs with
    | some ds => if ds.length + 1 ≤ sizeLine then some (.l ((ds ++ [d]).map .v)) else none
    | none => none)
  | _ => none
def dblRows (d : PyData) : List O → Option (List O)
  | [] => some []
  | x :: xs => (match dblRow d x, dblRows d xs with
    | some y, some ys => some (y :: ys)
    | _, _ => none)
def mDbl (i r y : Nat) : MS := fun e => match e[i]?, e[r]?, e[y]? with
  | some (.own (.l xs)), some .no, some (.own (.v d)) => if i ≠ r ∧ y ≠ r ∧ xs.length + xs.length ≤ sizeLine then (match dblRows d xs with
    | some ys => some (.nx (e.set i (.own (.l (xs ++ ys)))))
    | none => none) else none
  | _, _, _ => none
theorem dblRows_len {d : PyData} : ∀ {xs ys : List O}, dblRows d xs = some ys → ys.length = xs.length
  | [], _, h => by cases h; rfl
  | x :: xs, ys, h => by
    unfold dblRows at h
    split at h
    · rename_i h1 h2
      cases h
      rw [List.length_cons, List.length_cons, dblRows_len h2]
    · cases h
theorem dblRows_snoc {d : PyData} {x y : O} (hy : dblRow d x = some y) : ∀ {xs ys : List O}, dblRows d xs = some ys → dblRows d (xs ++ [x]) = some (ys ++ [y])
  | [], _, h => by
    cases h
    show (match dblRow d x, some [] with | some y, some ys => some (y :: ys) | _, _ => none) = some [y]
    rw [hy]
  | z :: xs, ys, h => by
    unfold dblRows at h
    split at h
    · rename_i a b h1 h2
      cases h
      rw [List.cons_append]
      unfold dblRows
      rw [h1, dblRows_snoc hy h2]
      rfl
    · cases h
theorem dblRows_get {d : PyData} {x : O} : ∀ {xs ys : List O} {k : Nat}, dblRows d xs = some ys → xs[k]? = some x → ∃ y, dblRow d x = some y
  | [], _, k, _, h => by simp at h
  | z :: xs, ys, k, h, hk => by
    unfold dblRows at h
    split at h
    · rename_i a b h1 h2
      cases k with
      | zero => simp at hk; subst hk; exact ⟨a, h1⟩
      | succ k => exact dblRows_get h2 (by simpa using hk)
    · cases h
section
variable {K : PySem.W.Frag} {F H : Hp} {X : Cx} {B : Bs} {σ : St} {e : En} {G : Ws}
theorem rpl_allV : ∀ {w : Ws} {T : List Addr} {ds : List PyData}, RpL K F H w T → O.allV (w.map (·.2)) = some ds → DfAll K F (w.map (·.1)) ds
  | [], _, _, _, h => by cases h; exact .nil
  | (v, x) :: w, _, ds, .cons a t, h => by
    rw [List.map_cons] at h
    cases x with
    | v d =>
      unfold O.allV at h
      split at h
      · rename_i ds' h'
        cases h
        exact .cons (rp_v a) (rpl_allV t h')
      · cases h
    | _ => cases h
theorem Sta.unwipe {r : Nat} (s : Sta K B F H (wipe σ [r]) e G) (h : e[r]? = some .no) : Sta K B F H σ e G := by
  have q := s.wipe1 (v := r) (x := (σ[r]?).join)
  rw [set_self h] at q
  have : (wipe σ [r]).set r (σ[r]?).join = σ := by
    show ((wipe σ []).set r none).set r _ = σ
    rw [List.set_set]
    exact set_join
  rw [this] at q
  exact q
theorem wipe1_get {r j : Nat} (h : ¬ j = r) : (wipe σ [r])[j]? = σ[j]? := by
  rw [wipe_get, if_neg (by simpa using h)]
theorem ds_dbl {i r y : Nat} {x : Str} {ex : Expr} {pos pos' : Pos} (hN : X.N.Nodup) (hi : X.N[i]? = some x) (hx : Loc X.env.scope x)
    (he : PE X ex (tOp (rAddA X.K) (tVar i) (tLc (iList X.K (tVar i)) (gName r) tYes (tOp rCat (tVar r) (tLst (tCons (tVar y) tNil))) [r])))
    (hs : swapsWith ex (some (.Name x pos')) pos.line X.env = pure false := by rfl) (hf : X.fn x = true ∨ X.env.scope.names.lookup x = some .local := by first | exact .inl rfl | exact .inr rfl | assumption) :
    PS X (.Assign [.Name x pos'] ex pos) (denS X.K (mDbl i r y)) := ps_imp (ps_set hN hi hx he hs hf) fun D σ H ⟨B, F, e, G, oc, s, hm, k⟩ => by
  unfold mDbl at hm
  split at hm
  · rename_i xs d h1 h2 h3
    split at hm
    · rename_i hne
      obtain ⟨n1, n2, hlen⟩ := hne
      split at hm
      · rename_i ys h4
        cases hm
        obtain ⟨v, hv, T, rv⟩ := s.seeO h1 (show (Sl.own (.l xs)).o? = some (.l xs) from rfl)
        obtain ⟨u, hu, Tu, ru⟩ := s.seeO h3 (show (Sl.own (.v d)).o? = some (.v d) from rfl)
        cases rv with
        | l hp e1 e2 rl =>
          rename_i p vs ws T'
          refine ⟨_, hv, _, hv, p, rfl, ⟨_, .of hp⟩, fun D' hD => ?_⟩
          have s0 : Sta X.K B F H (wipe σ [r]) e G := by
            have q := s.hide (vs := [r])
            have e3 : Dn.hide e [r] = e := by
              show (Dn.hide e []).set r .no = e
              exact set_self h2
            rw [e3] at q
            exact q
          refine ⟨fun j m H' => j + m = xs.length ∧ ∃ F' acc, Sta X.K B F' H' (wipe σ [r]) e ((.ref D', .l acc) :: G) ∧ dblRows d (xs.take j) = some acc, ⟨xs.length, by omega, F, [], s0.newL (w := []) hD, rfl⟩, fun j m H' ⟨hjm, F', acc, s1, ha⟩ => ?_⟩
          obtain ⟨v1, hv1, T1, rv1⟩ := s1.seeO h1 (show (Sl.own (.l xs)).o? = some (.l xs) from rfl)
          rw [wipe1_get n1, hv] at hv1
          cases hv1
          cases rv1 with
          | l hp1 f1 f2 rl1 =>
            rename_i vs1 ws1 T1'
            cases m with
            | zero =>
              have hj : j = xs.length := by omega
              subst hj
              left
              refine ⟨⟨_, .of hp1, ?_⟩, ?_⟩
              · rw [f1, f2, List.length_map, List.length_map]; exact Nat.le_refl _
              · rw [List.take_length] at ha
                have : acc = ys := by rw [ha] at h4; exact Option.some.inj h4
                subst this
                have s2 := s1.unwipe h2
                obtain ⟨v2, hv2, s3⟩ := s2.out h1 (show (Sl.own (.l xs)).o? = some (.l xs) from rfl)
                rw [hv] at hv2
                cases hv2
                have hal := dblRows_len ha
                refine al_add B F' H' σ (e.set i .no) G [(.ref p, .l xs), (.ref D', .l acc)] (.l (xs ++ acc)) _ s3 ?_ fun F4 H4 v4 s4 _ => ?_
                · show (if xs.length + acc.length ≤ sizeLine then some (O.l (xs ++ acc)) else none) = _
                  rw [if_pos (by omega)]
                · have hlt := (List.getElem?_eq_some_iff.mp h1).1
                  have s5 := setE_store (i := i) (e' := e.set i (.own (.l (xs ++ acc)))) s4 (by
                    unfold setE
                    rw [List.getElem?_set_self hlt, List.set_set])
                  exact k F4 H4 _ s5
            | succ m =>
              right
              have hjl : j < xs.length := by omega
              have hw : j < ws1.length := by
                have : xs.length = ws1.length := by rw [f2, List.length_map]
                omega
              have hgo : vs1[j]? = some (ws1[j]).1 := by rw [f1, List.getElem?_map, List.getElem?_eq_getElem hw]; rfl
              refine ⟨⟨_, (ws1[j]).1, .of hp1, hgo⟩, fun H'' => ∃ F' acc, Sta X.K B F' H'' (wipe σ [r]) e ((.ref D', .l acc) :: G) ∧ dblRows d (xs.take (j + 1)) = some acc, fun H'' q => ⟨m, Nat.lt_succ_self _, by omega, q⟩, fun z H3 hz => ?_⟩
              obtain ⟨rfl, hz2⟩ := hz
              have hzz := hz2 _ (.of hp1)
              rw [hgo] at hzz
              cases hzz
              have hxj : xs[j]? = some (ws1[j]).2 := by rw [f2, List.getElem?_map, List.getElem?_eq_getElem hw]; rfl
              obtain ⟨Tj, rj⟩ := rpl_get rl1 (List.getElem?_eq_getElem hw)
              obtain ⟨yj, hyj⟩ := dblRows_get h4 hxj
              have hr : r < (wipe σ [r]).length := by
                have := (List.getElem?_eq_some_iff.mp h2).1
                rw [s1.ok.len]; exact this
              show wipe ((wipe σ [r]).set r (some ws1[j].1)) [r] = wipe σ [r] ∧ tYes ((wipe σ [r]).set r (some ws1[j].1)) H3 _
              constructor
              · rw [wipe_set (List.mem_singleton.mpr rfl), wipe_wipe]
              · unfold tYes
                dsimp only
                rw [if_pos rfl]
                generalize ws1[j] = wj at *
                obtain ⟨z, oz⟩ := wj
                simp only at hgo hxj rj
                cases oz with
                | l zs =>
                  unfold dblRow at hyj
                  dsimp only at hyj
                  split at hyj
                  · rename_i ds hds
                    split at hyj
                    · rename_i hsz
                      cases hyj
                      cases rj with
                      | l hq g1 g2 rlq =>
                        rename_i q zv wz Tz
                        subst g2
                        have hdf := rpl_allV rlq hds
                        have hzl := dfa_len hdf
                        obtain ⟨u1, hu1, Tu1, ru1⟩ := s1.seeO h3 (show (Sl.own (.v d)).o? = some (.v d) from rfl)
                        rw [wipe1_get n2, hu] at hu1
                        cases hu1
                        have hdu := rp_v ru1
                        refine ⟨.ref q, by rw [List.getElem?_set_self hr], u, by rw [List.getElem?_set_ne (fun z => n2 z.symm), wipe1_get n2]; exact hu, by show 1 ≤ sizeLine; decide, fun p1 hp1' => ?_⟩
                        have hqp : q ≠ p1 := fun z => by rw [z, hp1'] at hq; cases hq
                        refine ⟨q, p1, zv, [u], rfl, rfl, by rw [upd_ne hqp]; exact hq, upd_same, by rw [g1]; rw [List.length_map] at hzl ⊢; show wz.length + 1 ≤ sizeLine; omega, fun t ht => ?_⟩
                        have s2 : Sta X.K B F' _ (wipe σ [r]) e _ := (s1.push hdu).newL (w := [(u, .v d)]) hp1'
                        have s3 := s2.pop
                        have hdd : DfAll X.K F' (zv ++ [u]) (ds ++ [d]) := by rw [g1]; exact dfa_append hdf (.cons hdu .nil)
                        have s4 := (s3.pushAll hdd).newL ht
                        have hl4 := dfa_len hdd
                        rw [zip_fst (by rw [List.length_map]; exact hl4), zip_snd (by rw [List.length_map]; exact hl4)] at s4
                        have s5 := s4.perm (.swap _ _ _)
                        obtain ⟨p', w, hpe, hp', hw2, qq⟩ := (s5.rel.perm (mid _ _ _)).put
                        cases hpe
                        have hla : acc.length ≤ j := by
                          have := dblRows_len ha
                          rw [List.length_take] at this
                          omega
                        refine ⟨w.map (fun x : V × O => x.1), hp', ?_, ⟨F', acc ++ [.l ((ds ++ [d]).map .v)], ?_, ?_⟩⟩
                        · rw [List.length_map]
                          have : w.length = acc.length := by rw [← hw2, List.length_map]
                          omega
                        · have r2 := qq (w ++ [(.ref t, .l ((ds ++ [d]).map .v))]) (slots (wipe σ [r]) e ++ G) (by
                            rw [List.append_assoc]
                            refine List.Perm.append_left _ ?_
                            exact mid _ _ _)
                          rw [List.map_append (f := fun x : V × O => x.1), List.map_append (f := fun x : V × O => x.2), hw2] at r2
                          exact ⟨s5.ok, r2.perm (mid _ _ _).symm⟩
                        · rw [List.take_succ_eq_append_getElem hjl]
                          refine dblRows_snoc ?_ ha
                          have : xs[j] = .l (wz.map (·.2)) := by
                            rw [List.getElem?_eq_getElem hjl] at hxj
                            exact Option.some.inj hxj
                          rw [this]
                          show (match O.allV (wz.map (·.2)) with | some ds => if ds.length + 1 ≤ sizeLine then some (O.l ((ds ++ [d]).map .v)) else none | none => none) = _
                          rw [hds]
                          dsimp only
                          rw [if_pos hsz]
                    · cases hyj
                  · cases hyj
                | _ => cases hyj
      · cases hm
    · cases hm
  · cases hm
end
end Dn

set_option Elab.async false
set_option linter.all false
set_option maxRecDepth 100000
set_option maxHeartbeats 4000000
namespace L2
open PySem PySem.Spec PyProof.Rows
section
variable {X : Cx}
/-- l.count(x): how many are equal -/
def rCountD (K : PySem.W.Frag) : V → List V → Hp → VK → Prop := fun x xs H Q => ∃ (a : Addr) (y : V) (d : PyData) (ds : List PyData), x = V.ref a ∧ xs = [y] ∧ Dp K H (V.ref a) (.list ds) ∧ Dp K H y d ∧
  SeqAt.shaped (.list ds) = true ∧ SeqAt.shaped d = true ∧ Q (.int ((ds.countP fun z => PyData.eqv z d) : Nat)) H
theorem mt_countD (hu : X.A.units + 65 < cLine) : MtR X "list.count" (rCountD X.K) := by
  intro pins s σ H x xs v us Q I rx rxs h
  obtain ⟨a, y, d, ds, rfl, rfl, hl, hy, sl, sd, q⟩ := h
  cases rx
  cases rxs with
  | cons ry rt =>
    rename_i uy ut
    cases rt
    obtain ⟨bs, r1⟩ := Dp.reads I d y uy hy ry
    have hxs : PyData.canLayAll0 ds = true := SeqAt.canLay_of_shaped sl
    have hroom : X.A.units + 1 + min (PyData.depthAll ds) d.depth < cLine := room_in_shaped sd hu
    cases hl with
    | lst hs ha =>
      obtain ⟨its, rv, ⟨⟨cls, dd, data, sls⟩, n, ho, hc, hdn, hdt⟩, hlen⟩ := I.list hs
      simp only at hc hdt
      subst hc hdt
      obtain ⟨as, h4⟩ := Dp.readsAll I ds _ its ha rv
      have hmap : its.map (SeqAt.readOf s.heap) = ds := SeqAt.readsAll_map ds its as hxs h4
      refine call_meets PySem.F.slot_list_count ⟨_, ho, rfl⟩ PySem.F.entry_list_count (PySem.F.args_list_count_2 _ _)
        (SeqAt.list_countAt a its.toArray n dd sls uy (fun u => PyData.eqv (SeqAt.readOf s.heap u) d)) ⟨ho, SeqAt.items_eqAt (vs := its.toArray) (show ReadsAll s.heap its.toArray.toList ds as from h4) r1 hxs (SeqAt.canLay_of_shaped sd) hroom, ?_⟩
      have ec : its.toArray.toList.countP (fun u => PyData.eqv (SeqAt.readOf s.heap u) d) = ds.countP fun z => PyData.eqv z d := by
        rw [← hmap, List.countP_map]; rfl
      refine ⟨.int (ds.countP fun z => PyData.eqv z d : Nat), H, I.tok _, ⟨s.toks, ?_⟩, q⟩
      show Value.int ((its.toArray.toList.countP _ : Nat) : Int) s.toks = Value.int ((ds.countP _ : Nat) : Int) s.toks
      rw [ec]
end
end L2
namespace Dn
open PySem L2
variable {K : PySem.W.Frag}
def fCount : List PyData → Option PyData
  | [.list ds, d] => if SeqAt.shaped (.list ds) && SeqAt.shaped d then some (.int ((ds.countP fun z => PyData.eqv z d) : Nat)) else none
  | _ => none
theorem sc_count : Sc K fCount (rM (rCountD K)) := fun H vs ds z a hf => by
  unfold fCount at hf
  split at hf
  · split at hf
    · rename_i hs
      simp only [Bool.and_eq_true] at hs
      cases hf
      obtain ⟨v, u, rfl, b, c⟩ := dfa2 a
      obtain ⟨p, ws, rfl, hp, ha⟩ := df_list b
      exact ⟨_, rfl, fun Q q => ⟨p, u, _, _, rfl, rfl, b.dp (.refl H), c.dp (.refl H), hs.1, hs.2, q⟩⟩
    · cases hf
  · cases hf
end Dn

set_option Elab.async false
set_option linter.all false
set_option maxRecDepth 100000
set_option maxHeartbeats 4000000
/-! dicts: new, d[k], d[k] = v; keys ints and texts, or tuples of these -/
namespace Dn
open PySem L2
def keyD : PyData → Option Key
  | .int i => some (.inl i)
  | .str x => some (.inr x)
  | _ => none
def keysD : List PyData → Option (List Key)
  | [] => some []
  | d :: ds => (match keyD d, keysD ds with
    | some k, some ks => some (k :: ks)
    | _, _ => none)
section
variable {κ : Type} [DecidableEq κ]
def dval (kvs : List (κ × PyData)) (k : κ) : Option PyData := (kvs.find? fun kv => decide (kv.1 = k)).map (·.2)
def dput (kvs : List (κ × PyData)) (k : κ) (v : PyData) : List (κ × PyData) :=
  if (kvs.any fun kv => decide (kv.1 = k)) = true then kvs.map (fun kv => if kv.1 = k then (kv.1, v) else kv) else kvs ++ [(k, v)]
variable {K : PySem.W.Frag} {F : Hp}
theorem dval_ok (k : κ) : ∀ {kvs : List (κ × V)} {ks : List (κ × PyData)} {d : PyData}, kvs.map (·.1) = ks.map (·.1) → DfAll K F (kvs.map (·.2)) (ks.map (·.2)) → dval ks k = some d → ∃ v, valV kvs k = some v ∧ Df K F v d
  | [], [], d, _, _, h => by simp [dval] at h
  | [], _ :: _, _, h, _, _ => by simp at h
  | _ :: _, [], _, h, _, _ => by simp at h
  | (a, v) :: kvs, (b, e) :: ks, d, h1, h2, h3 => by
    simp only [List.map_cons, List.cons.injEq] at h1 h2
    obtain ⟨rfl, h1⟩ := h1
    cases h2 with
    | cons hv ht =>
      by_cases q : a = k
      · have : dval ((a, e) :: ks) k = some e := by simp [dval, List.find?_cons, q]
        rw [this] at h3
        cases h3
        exact ⟨v, valV_pos q, hv⟩
      · have : dval ((a, e) :: ks) k = dval ks k := by simp [dval, List.find?_cons, q]
        rw [this] at h3
        obtain ⟨u, e1, e2⟩ := dval_ok k h1 ht h3
        exact ⟨u, by rw [valV_neg (by exact q)]; exact e1, e2⟩
theorem dval_no (k : κ) : ∀ {kvs : List (κ × V)} {ks : List (κ × PyData)}, kvs.map (·.1) = ks.map (·.1) → dval ks k = none → valV kvs k = none
  | [], [], _, _ => rfl
  | [], _ :: _, h, _ => by simp at h
  | _ :: _, [], h, _ => by simp at h
  | (a, v) :: kvs, (b, e) :: ks, h1, h3 => by
    simp only [List.map_cons, List.cons.injEq] at h1
    obtain ⟨rfl, h1⟩ := h1
    by_cases q : a = k
    · have : dval ((a, e) :: ks) k = some e := by simp [dval, List.find?_cons, q]
      rw [this] at h3
      cases h3
    · have : dval ((a, e) :: ks) k = dval ks k := by simp [dval, List.find?_cons, q]
      rw [this] at h3
      rw [valV_neg (by exact q)]
      exact dval_no k h1 h3
theorem any_keys (k : κ) : ∀ {α β : Type} {kvs : List (κ × α)} {ks : List (κ × β)}, kvs.map (·.1) = ks.map (·.1) → (kvs.any fun kv => decide (kv.1 = k)) = ks.any fun kv => decide (kv.1 = k)
  | _, _, [], [], _ => rfl
  | _, _, [], _ :: _, h => by simp at h
  | _, _, _ :: _, [], h => by simp at h
  | _, _, (a, v) :: kvs, (b, e) :: ks, h1 => by
    simp only [List.map_cons, List.cons.injEq] at h1
    obtain ⟨rfl, h1⟩ := h1
    rw [List.any_cons, List.any_cons, any_keys k h1]
theorem rep_keys (k : κ) {α : Type} (v : α) : ∀ (kvs : List (κ × α)), (kvs.map (fun kv => if kv.1 = k then (kv.1, v) else kv)).map (·.1) = kvs.map (·.1)
  | [] => rfl
  | (a, e) :: kvs => by
    rw [List.map_cons, List.map_cons, List.map_cons, rep_keys k v kvs]
    by_cases q : a = k
    · simp [q]
    · simp [q]
theorem rep_df (k : κ) {v : V} {d : PyData} (hv : Df K F v d) : ∀ {kvs : List (κ × V)} {ks : List (κ × PyData)}, kvs.map (·.1) = ks.map (·.1) → DfAll K F (kvs.map (·.2)) (ks.map (·.2)) → DfAll K F ((kvs.map (fun kv => if kv.1 = k then (kv.1, v) else kv)).map (·.2)) ((ks.map (fun kv => if kv.1 = k then (kv.1, d) else kv)).map (·.2))
  | [], [], _, _ => .nil
  | [], _ :: _, h, _ => by simp at h
  | _ :: _, [], h, _ => by simp at h
  | (a, u) :: kvs, (b, e) :: ks, h1, h2 => by
    simp only [List.map_cons, List.cons.injEq] at h1
    obtain ⟨rfl, h1⟩ := h1
    rw [List.map_cons, List.map_cons] at h2
    cases h2 with
    | cons hu ht =>
      have ih := rep_df k hv h1 ht
      by_cases q : a = k
      · simp only [List.map_cons, q, if_true]
        exact .cons hv ih
      · simp only [List.map_cons, q, if_false]
        exact .cons hu ih
theorem dput_ok {k : κ} {v : V} {d : PyData} {kvs : List (κ × V)} {ks : List (κ × PyData)} (hv : Df K F v d) (h1 : kvs.map (·.1) = ks.map (·.1)) (h2 : DfAll K F (kvs.map (·.2)) (ks.map (·.2))) :
    (putK kvs k v).map (·.1) = (dput ks k d).map (·.1) ∧ DfAll K F ((putK kvs k v).map (·.2)) ((dput ks k d).map (·.2)) := by
  unfold putK dput
  rw [any_keys k h1]
  split
  · exact ⟨by rw [rep_keys, rep_keys, h1], rep_df k hv h1 h2⟩
  · refine ⟨by rw [List.map_append, List.map_append, h1]; rfl, ?_⟩
    rw [List.map_append, List.map_append]
    exact dfa_append h2 (.cons hv .nil)
end
section
variable {K : PySem.W.Frag} {H0 F0 F H : Hp} {ws : Ws} {B : Bs} {σ : St} {e : En} {G : Ws} {X : Cx}
theorem keysD_v : ∀ {vs : List V} {ds : List PyData} {ks : List Key}, DfAll K F vs ds → keysD ds = some ks → vs = ks.map kV
  | _, [], _, .nil, h => by cases h; rfl
  | _, d :: ds, ks, .cons a t, h => by
    unfold keysD at h
    split at h
    · rename_i k ks' h1 h2
      cases h
      rw [List.map_cons, ← keysD_v t h2]
      congr 1
      cases d <;> simp only [keyD, Option.some.injEq, reduceCtorEq] at h1
      · subst h1; cases a; rfl
      · subst h1; cases a; rfl
    · cases h
theorem keyD_v {v : V} {d : PyData} {k : Key} (a : Df K F v d) (h1 : keyD d = some k) : v = kV k := by
  cases d <;> simp only [keyD, Option.some.injEq, reduceCtorEq] at h1
  · subst h1; cases a; rfl
  · subst h1; cases a; rfl
/-- new ones -/
theorem Sta.newT0 {p : Addr} (s : Sta K B F H σ e G) (h : H p = none) : Sta K B F (upd H p (.dT [])) σ e ((.ref p, .dt []) :: G) :=
  ⟨s.ok, (Rel.newWith (w := []) s.rel h fun T m => by cases m; exact .dt upd_same rfl .nil).perm (mid _ _ _).symm⟩
theorem Sta.newK0 {p : Addr} (s : Sta K B F H σ e G) (h : H p = none) : Sta K B F (upd H p (.dK [])) σ e ((.ref p, .dk []) :: G) :=
  ⟨s.ok, (Rel.newWith (w := []) s.rel h fun T m => by cases m; exact .dk upd_same rfl .nil).perm (mid _ _ _).symm⟩
def mDnT : MD O := fun e => some (.dt [], e)
def mDnK : MD O := fun e => some (.dk [], e)
theorem d_dnT {pos : Pos} : PE X (.Dict [] [] pos) (den X.K true mDnT) := pe_imp pe_dnewT fun σ H Q ⟨B, F, e, G, x, e', s, hm, k⟩ => by
  cases hm
  exact fun p hp => k F _ _ (s.newT0 hp) fun _ => same_upd hp
theorem d_dnK {pos : Pos} : PE X (.Dict [] [] pos) (den X.K true mDnK) := pe_imp pe_dnewK fun σ H Q ⟨B, F, e, G, x, e', s, hm, k⟩ => by
  cases hm
  exact fun p hp => k F _ _ (s.newK0 hp) fun _ => same_upd hp
/-- what a dict tells of a key -/
def dgetO : O → PyData → Option (Option PyData)
  | .dt kvs, .tuple ds => (match keysD ds with
    | some k => some (dval kvs k)
    | none => none)
  | .dk kvs, d => (match keyD d with
    | some k => some (dval kvs k)
    | none => none)
  | _, _ => none
def dputO : O → PyData → PyData → Option O
  | .dt kvs, .tuple ds, d => (match keysD ds with
    | some k => if kvs.length < sizeLine then some (.dt (dput kvs k d)) else none
    | none => none)
  | .dk kvs, y, d => (match keyD y with
    | some k => if kvs.length < sizeLine then some (.dk (dput kvs k d)) else none
    | none => none)
  | _, _, _ => none
theorem dget_run {F H : Hp} {v y : V} {x : O} {d z : PyData} {T : List Addr} (fh : Same F H) (r : Rp K F H v x T) (hy : Df K F y d) (h : dgetO x d = some (some z)) : ∃ a u, v = .ref a ∧ DGet H a y (some u) ∧ Df K F u z := by
  cases r with
  | dt hp e1 a =>
    rename_i p kvs ks
    cases d with
    | tuple ds =>
      have h' : (match keysD ds with | some k => some (dval ks k) | none => none) = some (some z) := h
      split at h'
      · rename_i k hk
        cases hy with
        | tup hb hall =>
          have := keysD_v hall hk
          subst this
          obtain ⟨u, h1, h2⟩ := dval_ok k e1 a (Option.some.inj h')
          exact ⟨p, u, rfl, by rw [← h1]; exact DGet.t hp (fh _ _ hb), h2⟩
      · cases h'
    | _ => cases h
  | dk hp e1 a =>
    rename_i p kvs ks
    have h' : (match keyD d with | some k => some (dval ks k) | none => none) = some (some z) := h
    split at h'
    · rename_i k hk
      have := keyD_v hy hk
      subst this
      obtain ⟨u, h1, h2⟩ := dval_ok k e1 a (Option.some.inj h')
      exact ⟨p, u, rfl, by rw [← h1]; exact DGet.k hp, h2⟩
    · cases h'
  | _ => cases h
theorem dget_run0 {F H : Hp} {v y : V} {x : O} {d : PyData} {z : Option PyData} {T : List Addr} (fh : Same F H) (r : Rp K F H v x T) (hy : Df K F y d) (h : dgetO x d = some z) : ∃ a u, v = .ref a ∧ DGet H a y u ∧ u.isSome = z.isSome := by
  cases z with
  | some z =>
    obtain ⟨a, u, h1, h2, h3⟩ := dget_run fh r hy h
    exact ⟨a, _, h1, h2, rfl⟩
  | none =>
    cases r with
    | dt hp e1 a =>
      rename_i p kvs ks
      cases d with
      | tuple ds =>
        have h' : (match keysD ds with | some k => some (dval ks k) | none => none) = some none := h
        split at h'
        · rename_i k hk
          cases hy with
          | tup hb hall =>
            have := keysD_v hall hk
            subst this
            have h1 := dval_no k e1 (Option.some.inj h')
            exact ⟨p, none, rfl, by rw [← h1]; exact DGet.t hp (fh _ _ hb), rfl⟩
        · cases h'
      | _ => cases h
    | dk hp e1 a =>
      rename_i p kvs ks
      have h' : (match keyD d with | some k => some (dval ks k) | none => none) = some none := h
      split at h'
      · rename_i k hk
        have := keyD_v hy hk
        subst this
        have h1 := dval_no k e1 (Option.some.inj h')
        exact ⟨p, none, rfl, by rw [← h1]; exact DGet.k hp, rfl⟩
      · cases h'
    | _ => cases h
/-- d[k], d a slot's dict; the key is reckoned behind -/
def mDget (i : Nat) (mk : MD O) : MD O := fun e => match bVar i e with
  | some _ => (match mk e with
    | some (.v d, e1) => (match bVar i e1 with
      | some x => (match dgetO x d with
        | some (some z) => some (.v z, e1)
        | _ => none)
      | none => none)
    | _ => none)
  | none => none
theorem d_dget {i : Nat} {p : Bool} {o k : Expr} {mk : MD O} {pos : Pos} (hu : X.A.units + 65 < cLine) (ho : PE X o (tVar i)) (hk : PE X k (den X.K p mk)) (hs : NoSl k) : PE X (.Subscript o k pos) (den X.K p (mDget i mk)) := pe_imp (pe_dget (by omega) ho hk hs) fun σ H Q ⟨B, F, e, G, x, e', s, hm, kk⟩ => by
  unfold mDget at hm
  split at hm
  · rename_i x0 h0
    split at hm
    · rename_i d e1 h1
      split at hm
      · rename_i y h2
        split at hm
        · rename_i z h3
          obtain ⟨rfl, rfl⟩ := so hm
          obtain ⟨sl0, hi0, ho0⟩ := Option.bind_eq_some_iff.mp h0
          obtain ⟨v, hv, _⟩ := s.seeO hi0 ho0
          refine ⟨v, hv, ⟨B, F, e, G, _, e1, s, h1, fun F1 H1 u s1 sm => ?_⟩⟩
          obtain ⟨sl, hi, ho⟩ := Option.bind_eq_some_iff.mp h2
          obtain ⟨v', hv', T, r⟩ := s1.seeO hi ho
          obtain rfl : v' = v := by rw [hv] at hv'; cases hv'; rfl
          obtain ⟨T', ru⟩ := s1.at
          obtain ⟨a, w, e2, g, hw⟩ := dget_run s1.fh r (rp_v ru) h3
          exact ⟨a, w, e2, g, kk F1 H1 w (s1.pop.push hw) sm⟩
        · cases hm
      · cases hm
    · cases hm
  · cases hm
/-- k in d -/
def mDin (b : Bool) (mk : MD O) (i : Nat) : MD O := fun e => match mk e with
  | some (.v d, e1) => (match bVar i e1 with
    | some x => (match dgetO x d with
      | some z => some (.v (.bool (z.isSome == b)), e1)
      | none => none)
    | none => none)
  | _ => none
/-- the put -/
theorem Rel.putD {v : V} {x x' : O} {y : V} {yd d : PyData} {u : V} (r : Rel K H0 F0 F H ((v, x) :: ws)) (hy : Df K F y yd) (hu : Df K F u d) (h : dputO x yd d = some x') : ∃ a H', v = .ref a ∧ DPut H a y u H' ∧ Rel K H0 F0 F H' ((v, x') :: ws) := by
  obtain ⟨T, rl, nd, hT⟩ := r.res
  cases rl with
  | cons a t =>
    rename_i T1 T2
    have main : ∀ (p : Addr) (ob : HO), v = .ref p → T1 = [p] → H p ≠ none → Rp K F (upd H p ob) (.ref p) x' [p] → Rel K H0 F0 F (upd H p ob) ((v, x') :: ws) := by
      intro p ob hv ht _ hr
      subst hv
      subst ht
      have hpn := hT p (List.mem_append_left _ (List.mem_cons_self ..))
      have nd0 := nd
      rw [List.cons_append] at nd
      obtain ⟨np, nd2⟩ := List.nodup_cons.mp nd
      rw [List.nil_append] at np
      refine ⟨fun q o e => ?_, r.f0, r.fn, fun q o e => ?_, [p] ++ T2, .cons hr (rpl_mono (Same.refl F) t fun q hq => upd_ne fun z => np (z ▸ hq)), nd0, hT⟩
      · have : q ≠ p := fun z => by rw [z, hpn.2] at e; cases e
        rw [upd_ne this]
        exact r.h0 q o e
      · have : q ≠ p := fun z => by rw [z, hpn.1] at e; cases e
        rw [upd_ne this]
        exact r.fh q o e
    cases a with
    | dt hp e1 hall =>
      rename_i p kvs ks
      cases yd with
      | tuple ds =>
        have h' : (match keysD ds with | some k => if ks.length < sizeLine then some (O.dt (dput ks k d)) else none | none => none) = some x' := h
        split at h'
        · rename_i k hk
          split at h'
          · rename_i hl
            cases h'
            cases hy with
            | tup hb hal =>
              have := keysD_v hal hk
              subst this
              obtain ⟨q1, q2⟩ := dput_ok (k := k) hu e1 hall
              have hlen : kvs.length = ks.length := by
                have := congrArg List.length e1
                simpa using this
              exact ⟨p, _, rfl, DPut.t hp (r.fh _ _ hb) (by rw [hlen]; exact hl), main p _ rfl rfl (by rw [hp]; exact nofun) (.dt upd_same q1 q2)⟩
          · cases h'
        · cases h'
      | _ => cases h
    | dk hp e1 hall =>
      rename_i p kvs ks
      have h' : (match keyD yd with | some k => if ks.length < sizeLine then some (O.dk (dput ks k d)) else none | none => none) = some x' := h
      split at h'
      · rename_i k hk
        split at h'
        · rename_i hl
          cases h'
          have := keyD_v hy hk
          subst this
          obtain ⟨q1, q2⟩ := dput_ok (k := k) hu e1 hall
          have hlen : kvs.length = ks.length := by
            have := congrArg List.length e1
            simpa using this
          exact ⟨p, _, rfl, DPut.k hp (by rw [hlen]; exact hl), main p _ rfl rfl (by rw [hp]; exact nofun) (.dk upd_same q1 q2)⟩
        · cases h'
      · cases h'
    | _ => cases h
theorem Sta.putD {i : Nat} {sl : Sl} {x x' : O} {y u : V} {yd d : PyData} (s : Sta K B F H σ e ((y, .v yd) :: (u, .v d) :: G)) (hi : e[i]? = some sl) (ho : sl.o? = some x) (h : dputO x yd d = some x') :
    ∃ a H', σ[i]? = some (some (.ref a)) ∧ DPut H a y u H' ∧ Sta K B F H' σ (e.set i (sl.like x')) G := by
  obtain ⟨Ty, ry⟩ := s.at
  obtain ⟨Tu, ru⟩ := s.pop.at
  obtain ⟨v, hv, s1⟩ := s.pop.pop.out hi ho
  obtain ⟨a, H', rfl, g, r⟩ := (s1.rel.perm (mid _ _ _)).putD (rp_v ry) (rp_v ru) h
  refine ⟨a, H', hv, g, ?_⟩
  have hl : i < e.length := (List.getElem?_eq_some_iff.mp hi).1
  have ok : SlOk B.vs σ (e.set i (sl.like x')) := by
    cases sl with
    | no => cases ho
    | own o => exact s.ok.own hi
    | pin o => exact s.ok.pin hi
  have hlo : (sl.like x').o? = some x' := by
    cases sl with
    | no => cases ho
    | own o => rfl
    | pin o => rfl
  exact ⟨ok, r.perm ((slots_put hlo hl hv).append_right G).symm⟩
/-- d[k] = v -/
def mDput (i : Nat) (mv mk : MD O) : MS := fun e => match mv e with
  | some (.v d, e1) => (match bVar i e1 with
    | some _ => (match mk e1 with
      | some (.v yd, e2) => (match e2[i]? with
        | some (.own x) => (match dputO x yd d with
          | some x' => some (.nx (e2.set i (.own x')))
          | none => none)
        | some (.pin x) => (match dputO x yd d with
          | some x' => some (.nx (e2.set i (.pin x')))
          | none => none)
        | _ => none)
      | _ => none)
    | none => none)
  | _ => none
theorem ds_dput {i : Nat} {p q : Bool} {o k v : Expr} {mv mk : MD O} {pos pos' : Pos} (hu : X.A.units + 65 < cLine) (hv : PE X v (den X.K p mv)) (ho : PE X o (tVar i)) (hk : PE X k (den X.K q mk)) (hs : swapsWith v (some (.Subscript o k pos')) pos.line X.env = pure false := by rfl) :
    PS X (.Assign [.Subscript o k pos'] v pos) (denS X.K (mDput i mv mk)) := ps_imp (ps_dput (by omega) ho hk hv hs) fun D σ H ⟨B, F, e, G, oc, s, hm, kk⟩ => by
  unfold mDput at hm
  split at hm
  · rename_i d e1 h1
    split at hm
    · rename_i x0 h0
      split at hm
      · rename_i yd e2 h2
        refine ⟨B, F, e, G, _, e1, s, h1, fun F1 H1 u s1 _ => ?_⟩
        obtain ⟨sl0, hi0, ho0⟩ := Option.bind_eq_some_iff.mp h0
        obtain ⟨v0, hv0, _⟩ := s1.seeO hi0 ho0
        refine ⟨v0, hv0, ⟨B, F1, e1, _, _, e2, s1, h2, fun F2 H2 y s2 _ => ?_⟩⟩
        split at hm
        · rename_i x hx
          split at hm
          · rename_i x' hx'
            cases hm
            obtain ⟨a, H', g1, g2, g3⟩ := s2.putD hx rfl hx'
            rw [hv0] at g1
            cases g1
            exact ⟨a, H', rfl, g2, kk F2 H' σ g3⟩
          · cases hm
        · rename_i x hx
          split at hm
          · rename_i x' hx'
            cases hm
            obtain ⟨a, H', g1, g2, g3⟩ := s2.putD hx rfl hx'
            rw [hv0] at g1
            cases g1
            exact ⟨a, H', rfl, g2, kk F2 H' σ g3⟩
          · cases hm
        · cases hm
      · cases hm
    · cases hm
  · cases hm
/-- f(..)[k], the dict told by a call -/
def mDgetE (m mk : MD O) : MD O := fun e => match m e with
  | some (x, e1) => (match mk e1 with
    | some (.v d, e2) => (match dgetO x d with
      | some (some z) => some (.v z, e2)
      | _ => none)
    | _ => none)
  | none => none
theorem d_dgetE {p q : Bool} {o k : Expr} {m mk : MD O} {pos : Pos} (hu : X.A.units + 65 < cLine) (ho : PE X o (den X.K p m)) (hk : PE X k (den X.K q mk)) (hs : NoSl k) : PE X (.Subscript o k pos) (den X.K (p && q) (mDgetE m mk)) := pe_imp (pe_dget (by omega) ho hk hs) fun σ H Q ⟨B, F, e, G, x, e', s, hm, kk⟩ => by
  unfold mDgetE at hm
  split at hm
  · rename_i x e1 h1
    split at hm
    · rename_i d e2 h2
      split at hm
      · rename_i z h3
        obtain ⟨rfl, rfl⟩ := so hm
        refine ⟨B, F, e, G, x, e1, s, h1, fun F1 H1 v s1 sm1 => ⟨B, F1, e1, _, _, e2, s1, h2, fun F2 H2 y s2 sm2 => ?_⟩⟩
        obtain ⟨Ty, ry⟩ := s2.at
        obtain ⟨T, r⟩ := s2.pop.at
        obtain ⟨a, w, e3, g, hw⟩ := dget_run s2.fh r (rp_v ry) h3
        exact ⟨a, w, e3, g, kk F2 H2 w (s2.pop.pop.push hw) fun z => (sm1 (band1 z)).trans (sm2 (band2 z))⟩
      · cases hm
    · cases hm
  · cases hm
end
end Dn

set_option Elab.async false
set_option linter.all false
set_option maxRecDepth 100000
set_option maxHeartbeats 4000000
/-! str(..) of data -/
namespace Dn
open PySem L2
section
variable {X : Cx} {K : PySem.W.Frag}
def strFit (d : PyData) : Bool := d.showable && !d.hasDict && decide (d.depth ≤ 60) && decide (d.shown.length ≤ sizeLine)
def rStrR (K : PySem.W.Frag) : List V → Hp → VK → Prop := fun xs H Q => ∃ a d, xs = [V.ref a] ∧ Dp K H (V.ref a) d ∧ strFit d = true ∧ Q (.str d.shown) H
theorem call_strR (hu : X.A.units + 65 < cLine) (hg : X.A.guards = some []) : CallR X (.type "str") (rStrR X.K) := by
  intro pins s σ H xs us Q I r h
  obtain ⟨a, d, rfl, hd, hf, q⟩ := h
  obtain ⟨u, rfl, ru⟩ := vals1 r
  obtain rfl : u = Value.ref a := ru
  obtain ⟨as, hr⟩ := Dp.reads I d (.ref a) (.ref a) hd rfl
  simp only [strFit, Bool.and_eq_true, Bool.not_eq_true', decide_eq_true_eq] at hf
  obtain ⟨⟨⟨h1, h2⟩, h3⟩, h4⟩ := hf
  exact str_of_reads hr h1 (fun z => by rw [h2] at z; cases z) hg (by omega) (fun _ _ e => e) (fun h' u tk hk => ⟨.str d.shown, H, I.kept (t' := tk) hk, ⟨u, rfl⟩, q⟩) h4
def rStrA (K : PySem.W.Frag) : List V → Hp → VK → Prop := fun xs H Q => ((∃ i, xs = [.int i] ∧ i.natAbs.log2 < 1920 ∧ Q (.str (toString i)) H) ∨ ∃ a, xs = [.str a] ∧ Q (.str a) H) ∨ rStrR K xs H Q
theorem call_strA (hu : X.A.units + 65 < cLine) (hg : X.A.guards = some []) : CallR X (.type "str") (rStrA X.K) := callr_or (callr_or call_str_int SkE.call_str_str) (call_strR hu hg)
noncomputable def fStrD : List PyData → Option PyData
  | [.int i] => if shut (decide (i.natAbs.log2 < 1920)) = true then some (.str (toString i)) else none
  | [.str x] => some (.str x)
  | [.list ds] => if shut (strFit (.list ds)) = true then some (.str (PyData.shown (.list ds))) else none
  | [.tuple ds] => if shut (strFit (.tuple ds)) = true then some (.str (PyData.shown (.tuple ds))) else none
  | _ => none
theorem sc_strD : Sc K fStrD (rStrA K) := fun H vs ds z a hf => by
  unfold fStrD at hf
  split at hf
  · split at hf
    · rename_i i hi
      rw [shut_eq] at hi
      cases hf
      obtain ⟨v, rfl, b⟩ := dfa1 a
      obtain rfl := df_int b
      exact ⟨_, rfl, fun Q q => .inl (.inl ⟨i, rfl, of_decide_eq_true hi, q⟩)⟩
    · cases hf
  · rename_i x
    cases hf
    obtain ⟨v, rfl, b⟩ := dfa1 a
    obtain rfl := df_str b
    exact ⟨_, rfl, fun Q q => .inl (.inr ⟨x, rfl, q⟩)⟩
  · split at hf
    · rename_i ds hi
      rw [shut_eq] at hi
      cases hf
      obtain ⟨v, rfl, b⟩ := dfa1 a
      obtain ⟨p, ws, rfl, _, _⟩ := df_list b
      exact ⟨_, rfl, fun Q q => .inr ⟨p, _, rfl, b.dp (.refl H), hi, q⟩⟩
    · cases hf
  · split at hf
    · rename_i ds hi
      rw [shut_eq] at hi
      cases hf
      obtain ⟨v, rfl, b⟩ := dfa1 a
      obtain ⟨p, ws, rfl, _, _⟩ := df_tuple b
      exact ⟨_, rfl, fun Q q => .inr ⟨p, _, rfl, b.dp (.refl H), hi, q⟩⟩
    · cases hf
  · cases hf
end
end Dn

set_option Elab.async false
set_option linter.all false
set_option maxRecDepth 100000
set_option maxHeartbeats 4000000
/-! a look at a tree of one's own, as if it were frozen; what is told does not lead into it -/
namespace Dn
open PySem L2
def scal (d : PyData) : Bool := (sV d).isSome
mutual
def O.free : O → Bool
  | .v d => scal d
  | .l xs => O.freeAll xs
  | .t xs => O.freeAll xs
  | .dk kvs => kvs.all fun kv => scal kv.2
  | .dt kvs => kvs.all fun kv => scal kv.2
  | _ => false
def O.freeAll : List O → Bool
  | [] => true
  | x :: xs => O.free x && O.freeAll xs
end
section
variable {K : PySem.W.Frag} {H0 F0 F H : Hp} {ws : Ws} {B : Bs} {σ : St} {e : En} {G : Ws} {X : Cx}
theorem df_scal {F F2 : Hp} {v : V} {d : PyData} (h : Df K F v d) (hs : scal d = true) : Df K F2 v d := by
  cases h with
  | non => exact .non
  | bl b => exact .bl b
  | int i => exact .int i
  | str x => exact .str x
  | lst _ _ => cases hs
  | tup _ _ => cases hs
theorem dfa_scal {F F2 : Hp} : ∀ {vs : List V} {ds : List PyData}, DfAll K F vs ds → (∀ d ∈ ds, scal d = true) → DfAll K F2 vs ds
  | _, _, .nil, _ => .nil
  | _, _, .cons a t, h => .cons (df_scal a (h _ (List.mem_cons_self ..))) (dfa_scal t fun d hd => h d (List.mem_cons_of_mem _ hd))
mutual
theorem rp_free {F F2 H : Hp} : ∀ {v : V} {o : O} {T : List Addr}, Rp K F H v o T → o.free = true → Rp K F2 H v o T
  | _, _, _, .v h, z => .v (df_scal h (by unfold O.free at z; exact z))
  | _, _, _, .s h, z => by unfold O.free at z; cases z
  | _, _, _, .fx h, z => by unfold O.free at z; cases z
  | _, _, _, .l h e1 e2 r, z => .l h e1 e2 (rpl_free r (by unfold O.free at z; rw [e2] at z; exact z))
  | _, _, _, .t h e1 e2 r, z => .t h e1 e2 (rpl_free r (by unfold O.free at z; rw [e2] at z; exact z))
  | _, _, _, .dk h e1 a, z => .dk h e1 (dfa_scal a (by
    unfold O.free at z
    intro d hd
    obtain ⟨kv, hk, rfl⟩ := List.mem_map.mp hd
    exact List.all_eq_true.mp z kv hk))
  | _, _, _, .dt h e1 a, z => .dt h e1 (dfa_scal a (by
    unfold O.free at z
    intro d hd
    obtain ⟨kv, hk, rfl⟩ := List.mem_map.mp hd
    exact List.all_eq_true.mp z kv hk))
  | _, _, _, .ob h h' e0 e1 e2 r, z => by unfold O.free at z; cases z
theorem rpl_free {F F2 H : Hp} : ∀ {ws : Ws} {T : List Addr}, RpL K F H ws T → O.freeAll (ws.map (·.2)) = true → RpL K F2 H ws T
  | _, _, .nil, _ => .nil
  | _, _, .cons (ws := ws) h t, z => by
    rw [List.map_cons] at z
    unfold O.freeAll at z
    rw [Bool.and_eq_true] at z
    exact .cons (rp_free h z.1) (rpl_free t z.2)
end
/-- only frozen slots are left -/
def onlyFz (e : En) : En := e.map fun sl => match sl with
  | .own (.v d) => .own (.v d)
  | .own (.s ns) => .own (.s ns)
  | .pin (.v d) => .own (.v d)
  | .pin (.s ns) => .own (.s ns)
  | _ => .no
theorem slots_onlyFz : ∀ {σ : St} {e : En}, σ.length = e.length → ∃ r, (slots σ e).Perm (slots σ (onlyFz e) ++ r)
  | [], _, _ => ⟨[], by simp [slots]⟩
  | _ :: _, [], h => by simp at h
  | x :: σ, s :: e, h => by
    obtain ⟨r, pr⟩ := slots_onlyFz (σ := σ) (e := e) (by simpa using h)
    have key : ∀ (w : V × O) (l : Ws), (slots σ e).Perm (l ++ r) → (w :: slots σ e).Perm ((w :: l) ++ r) := fun w l p => p.cons w
    have drp : ∀ (w : V × O) (l : Ws), (slots σ e).Perm (l ++ r) → (w :: slots σ e).Perm (l ++ (w :: r)) := fun w l p => (p.cons w).trans (mid _ _ _).symm
    cases x with
    | none => exact ⟨r, by cases s with
        | no => exact pr
        | own o => cases o <;> exact pr
        | pin o => cases o <;> exact pr⟩
    | some v =>
      cases s with
      | no => exact ⟨r, pr⟩
      | own o =>
        cases o with
        | v d => exact ⟨r, key _ _ pr⟩
        | s ns => exact ⟨r, key _ _ pr⟩
        | _ => exact ⟨_, drp _ _ pr⟩
      | pin o =>
        cases o with
        | v d => exact ⟨r, key _ _ pr⟩
        | s ns => exact ⟨r, key _ _ pr⟩
        | _ => exact ⟨_, drp _ _ pr⟩
theorem slots_fz : ∀ {σ : St} {e : En} (w : V × O), w ∈ slots σ (onlyFz e) → w.2.fz = true
  | [], e, w, h => by simp [slots] at h
  | _ :: _, [], w, h => by simp [slots, onlyFz] at h
  | x :: σ, s :: e, w, h => by
    have ih := slots_fz (σ := σ) (e := e) w
    have key : ∀ (u : V × O) , u.2.fz = true → w ∈ (u :: slots σ (onlyFz e)) → w.2.fz = true := fun u hu hm => by
      rcases List.mem_cons.mp hm with rfl | hm
      · exact hu
      · exact ih hm
    cases x with
    | none => exact ih (by cases s with
        | no => exact h
        | own o => cases o <;> exact h
        | pin o => cases o <;> exact h)
    | some v =>
      cases s with
      | no => exact ih h
      | own o =>
        cases o with
        | v d => exact key _ rfl h
        | s ns => exact key _ rfl h
        | _ => exact ih h
      | pin o =>
        cases o with
        | v d => exact key _ rfl h
        | s ns => exact key _ rfl h
        | _ => exact ih h
theorem ok_onlyFz {vs : List V} {σ : St} {e : En} (h : SlOk vs σ e) : SlOk vs σ (onlyFz e) := by
  refine ⟨by rw [h.len]; simp [onlyFz], fun i s hi => ?_⟩
  unfold onlyFz at hi
  rw [List.getElem?_map] at hi
  obtain ⟨s0, h0, rfl⟩ := Option.map_eq_some_iff.mp hi
  obtain ⟨x, hx, q⟩ := h.sl i s0 h0
  refine ⟨x, hx, ?_⟩
  cases s0 with
  | no => trivial
  | own o => cases o <;> first | exact q | trivial
  | pin o =>
    obtain ⟨v, e1, e2⟩ := q
    cases o <;> first | exact ⟨v, e1⟩ | trivial
/-- the slots vs as if frozen -/
def pkIn (e : En) (vs : List Nat) : En := onlyFz (frz (e.map fun s => match s with
  | .pin o => .own o
  | s => s) vs)
theorem ok_pins {ps : List V} {σ : St} {e : En} (h : SlOk ps σ e) : SlOk ps σ (e.map fun s => match s with | .pin o => .own o | s => s) := by
  refine ⟨by rw [h.len]; simp, fun i s hi => ?_⟩
  rw [List.getElem?_map] at hi
  obtain ⟨s0, h0, rfl⟩ := Option.map_eq_some_iff.mp hi
  obtain ⟨x, hx, q⟩ := h.sl i s0 h0
  refine ⟨x, hx, ?_⟩
  cases s0 with
  | no => trivial
  | own o => exact q
  | pin o =>
    obtain ⟨v, e1, _⟩ := q
    exact ⟨v, e1⟩
theorem slots_pins : ∀ {σ : St} {e : En}, slots σ (e.map fun s => match s with | .pin o => .own o | s => s) = slots σ e
  | [], _ => by simp [slots]
  | _ :: _, [] => by simp [slots]
  | x :: σ, s :: e => by
    have ih := slots_pins (σ := σ) (e := e)
    cases x <;> cases s <;> simp only [List.map_cons, slots, ih]
theorem Sta.peek {vs : List Nat} (s : Sta K B F H σ e G) : ∃ F1, Sta K ⟨H, F1, B.vs⟩ F1 H σ (pkIn e vs) [] ∧
    ∀ F2 H2 (w : Ws), Rel K H F1 F2 H2 w → O.freeAll (w.map (·.2)) = true → Sta K B F H2 σ e (w ++ G) := by
  have s0 : Sta K B F H σ (e.map fun s => match s with | .pin o => .own o | s => s) G := ⟨ok_pins s.ok, by rw [slots_pins]; exact s.rel⟩
  obtain ⟨F1, s1⟩ := s0.frz (vs := vs)
  have ok2 := ok_onlyFz s1.ok
  obtain ⟨r, pr⟩ := slots_onlyFz s1.ok.len
  have r2 : Rel K B.H0 B.F0 F1 H ((r ++ G) ++ slots σ (pkIn e vs)) := s1.rel.perm ((pr.append_right G).trans (by rw [List.append_assoc]; exact List.perm_append_comm))
  have r3 : Rel K B.H0 B.F0 F1 H (slots σ (pkIn e vs)) := Rel.drop (w := r ++ G) r2
  obtain ⟨H1, q1, q2, q3⟩ := Rel.hand (w := slots σ (pkIn e vs)) (ws := []) (by rw [List.append_nil]; exact r3)
  have hH := q3 (fun x hx => slots_fz x hx)
  subst hH
  refine ⟨F1, ⟨ok2, by rw [List.append_nil]; exact q1⟩, fun F2 H2 w r2 hw => ⟨s.ok, ?_⟩⟩
  have sm : Same H1 H2 := r2.h0
  obtain ⟨T, rl, nd, hT⟩ := s.rel.res
  obtain ⟨T', rl', nd', hT'⟩ := r2.res
  have dom := rpl_dom rl
  have rl2 : RpL K F H2 (slots σ e ++ G) T := rpl_mono (.refl F) rl fun p hp => by
    cases q : H1 p with
    | none => exact absurd q (dom p hp)
    | some o => exact sm p o q
  have new : ∀ p ∈ T', H1 p = none := fun p hp => (hT' p hp).2
  have full : Rel K B.H0 B.F0 F H2 (w ++ (slots σ e ++ G)) := by
    refine ⟨s.rel.h0.trans sm, s.rel.f0, s.rel.fn, s.rel.fh.trans sm, T' ++ T, rpl_append (rpl_free rl' hw) rl2, List.nodup_append.mpr ⟨nd', nd, fun p hp q hq z => ?_⟩, fun p hp => ?_⟩
    · subst z
      exact dom p hq (new p hp)
    · rcases List.mem_append.mp hp with hp | hp
      · exact ⟨s.rel.f_none (new p hp), s.rel.h_none (new p hp)⟩
      · exact hT p hp
  exact full.perm (pmid _ _ _).symm
/-- an expression that looks at the slots vs -/
def mPeek (vs : List Nat) (m : MD O) : MD O := fun e => match m (pkIn e vs) with
  | some (x, _) => if x.free then some (x, e) else none
  | none => none
theorem peek_den {p : Bool} {vs : List Nat} {m : MD O} {t : TE} (h : ∀ σ H Q, den K p m σ H Q → t σ H Q) : ∀ σ H Q, den K true (mPeek vs m) σ H Q → t σ H Q := fun σ H Q ⟨B, F, e, G, y, e', s, hm, k⟩ => by
  unfold mPeek at hm
  split at hm
  · rename_i x e1 h1
    split at hm
    · rename_i hx
      obtain ⟨rfl, rfl⟩ := so hm
      obtain ⟨F1, s1, back⟩ := s.peek (vs := vs)
      refine h σ H Q ⟨_, F1, _, [], x, e1, s1, h1, fun F2 H2 v s2 _ => ?_⟩
      have r2 : Rel K H F1 F2 H2 ([(v, x)] ++ slots σ e1) := s2.rel.perm List.perm_append_comm
      have r3 : Rel K H F1 F2 H2 [(v, x)] := Rel.drop (w := slots σ e1) (s2.rel)
      exact k F H2 v (back F2 H2 [(v, x)] r3 (by simp [O.freeAll, hx])) fun _ => r3.h0
    · cases hm
  · cases hm
theorem d_peek {x : Expr} {vs : List Nat} {p : Bool} {m : MD O} (h : PE X x (den X.K p m)) : PE X x (den X.K true (mPeek vs m)) := pe_imp h (peek_den fun _ _ _ h => h)
def mPeekT (vs : List Nat) (m : MD Bool) : MD Bool := fun e => match m (pkIn e vs) with
  | some (x, _) => some (x, e)
  | none => none
theorem dt_peek {x : Expr} {vs : List Nat} {p : Bool} {m : MD Bool} (h : PT X x (denT X.K p m)) : PT X x (denT X.K true (mPeekT vs m)) := pt_imp h fun σ H Q ⟨B, F, e, G, y, e', s, hm, k⟩ => by
  unfold mPeekT at hm
  split at hm
  · rename_i x e1 h1
    obtain ⟨rfl, rfl⟩ := so hm
    obtain ⟨F1, s1, back⟩ := s.peek (vs := vs)
    refine ⟨_, F1, _, [], x, e1, s1, h1, fun F2 H2 s2 _ => ?_⟩
    have r3 : Rel X.K H F1 F2 H2 [] := Rel.drop (w := slots σ e1) s2.rel
    exact k F H2 (back F2 H2 [] r3 (by simp [O.freeAll])) fun _ => r3.h0
  · cases hm
/-- y = [..] over a look -/
theorem ds_setLcPk {i : Nat} {y : Str} {py : Pos} {elt tgE iter : Expr} {ifs : List Expr} {scope : Scope} {own : List (Str × Nat)} {pos spos : Pos} {tg : Tg} {p q r : Bool} {mi : MD (List O)} {mt : MD Bool} {me : MD O} {vs : List Nat} (hc : X.calm = true) (hN : X.N.Nodup) (hy : X.N[i]? = some y) (hyl : X.env.scope.names.lookup y = some .local)
    (hsw : swapsWith (.ListComp elt [⟨tgE, iter, ifs, 0⟩] scope pos) (some (.Name y py)) spos.line X.env = pure true) (hi : PI X tgE iter (denI X.K p mi)) (ok : BlkOk X.N X.env.scope scope own)
    (hg : ∀ (s : Shared) (H : Hp) (C : Addr) (cl : List (Str × Addr)) (fp : List Addr), PG (X.blk s H scope (compEnvC scope cl C X.env) fp) tgE (tg.rd X.K))
    (ht : ∀ (s : Shared) (H : Hp) (C : Addr) (cl : List (Str × Addr)) (fp : List Addr), PTs (X.blk s H scope (compEnvC scope cl C X.env) fp) ifs (denT X.K q mt))
    (he : ∀ (s : Shared) (H : Hp) (C : Addr) (cl : List (Str × Addr)) (fp : List Addr), PE (X.blk s H scope (compEnvC scope cl C X.env) fp) elt (den X.K r me)) (hs : ∀ x, foldedSetIterable iter X.env x = pure x := by intro _; rfl) :
    PS X (.Assign [.Name y py] (.ListComp elt [⟨tgE, iter, ifs, 0⟩] scope pos) spos) (denS X.K (mSet i (mPeek vs (mLc mi tg mt me (own.map (·.2)))))) := ps_imp (ps_setLc hc hN hy hyl hsw hi ok hg ht he hs) (mSet_den (peek_den lc_den))
theorem ds_setLcPkF {i : Nat} {y : Str} {py : Pos} {elt tgE iter : Expr} {ifs : List Expr} {scope : Scope} {own : List (Str × Nat)} {pos spos : Pos} {tg : Tg} {p q r : Bool} {mi : MD (List O)} {mt : MD Bool} {me : MD O} {vs : List Nat} (hc : X.calm = true) (hN : X.N.Nodup) (hy : X.N[i]? = some y) (hyl : X.env.scope.names.lookup y = some .local)
    (hsw : swapsWith (.ListComp elt [⟨tgE, iter, ifs, 0⟩] scope pos) (some (.Name y py)) spos.line X.env = pure true) (hi : PI X tgE iter (denI X.K p mi)) (ok : BlkOk X.N X.env.scope scope own)
    (hg : ∀ (s : Shared) (H : Hp) (C : Addr) (cl : List (Str × Addr)) (fp : List Addr), PG (X.blk s H scope (compEnvC scope cl C X.env) fp) tgE (tg.rd X.K))
    (ht : ∀ (s : Shared) (H : Hp) (C : Addr) (cl : List (Str × Addr)) (fp : List Addr), PTs (X.blk s H scope (compEnvC scope cl C X.env) fp) ifs (denT X.K q mt))
    (he : ∀ (s : Shared) (H : Hp) (C : Addr) (cl : List (Str × Addr)) (fp : List Addr), PE (X.blk s H scope (compEnvC scope cl C X.env) fp) elt (den X.K r me)) (hs : ∀ x, foldedSetIterable iter X.env x = pure x := by intro _; rfl) :
    PS X (.Assign [.Name y py] (.ListComp elt [⟨tgE, iter, ifs, 0⟩] scope pos) spos) (denS X.K (mSet i (mFz (mPeek vs (mLc mi tg mt me (own.map (·.2))))))) := ps_imp (ps_setLc hc hN hy hyl hsw hi ok hg ht he hs) (mSet_den (fz_den (peek_den lc_den)))
end
end Dn

set_option Elab.async false
set_option linter.all false
set_option maxRecDepth 100000
set_option maxHeartbeats 4000000
/-! for x in xs, xs a list of one's own, of scalars, read as it stands -/
namespace Dn
open PySem L2
def pinS : Sl → Sl
  | .own o => .pin o
  | s => s
def pinsLike : En → En → Bool
  | _, [] => true
  | s0 :: e0, s :: e => (match s, s0 with
    | .pin _, .pin _ => true
    | .pin _, _ => false
    | _, _ => true) && pinsLike e0 e
  | [], _ :: _ => false
/-- behind the loop: the slot is again what it was -/
def unpin (e0 e : En) (i : Nat) : Option En := match e0[i]?, e[i]? with
  | some (.own _), some (.pin o) => if pinsLike e0 (e.set i (.own o)) then some (e.set i (.own o)) else none
  | some (.pin _), some (.pin _) => if pinsLike e0 e then some e else none
  | _, _ => none
def forS (i : Nat) (tg : Tg) (body : MS) : Nat → Nat → MS
  | 0, j, e => (match e[i]? with
    | some (.pin (.l xs)) => if xs.length ≤ j then some (.nx e) else none
    | _ => none)
  | m + 1, j, e => (match e[i]? with
    | some (.pin (.l xs)) => (match xs[j]? with
      | some (.v d) => if scal d then (match asg tg (.v d) e with
        | some e1 => (match body e1 with
          | some (.nx e2) => forS i tg body m (j + 1) e2
          | some (.ct e2) => forS i tg body m (j + 1) e2
          | some (.bk e2) => some (.nx e2)
          | some (.rt y e2) => some (.rt y e2)
          | none => none)
        | none => none) else none
      | _ => none)
    | _ => none)
def mForS (i : Nat) (tg : Tg) (body : MS) : MS := fun e => match e[i]? with
  | some s => (match s.o? with
    | some (.l xs) => (match forS i tg body xs.length 0 (e.set i (pinS s)) with
      | some (.nx e2) => (match unpin e e2 i with
        | some e3 => some (.nx e3)
        | none => none)
      | some (.rt y e2) => (match unpin e e2 i with
        | some e3 => some (.rt y e3)
        | none => none)
      | _ => none)
    | _ => none)
  | none => none
section
variable {K : PySem.W.Frag} {B : Bs} {F H : Hp} {σ : St} {e : En} {G : Ws} {X : Cx}
def vsOf (σ : St) : List V := σ.map fun x => x.getD .non
theorem vsOf_get {σ : St} {j : Nat} {v : V} (h : σ[j]? = some (some v)) : (vsOf σ)[j]? = some v := by
  unfold vsOf
  rw [List.getElem?_map, h]
  rfl
theorem slots_pinS : ∀ {σ : St} {e : En} {i : Nat} {s : Sl}, e[i]? = some s → slots σ (e.set i (pinS s)) = slots σ e
  | [], _, _, _, _ => by simp [slots]
  | _ :: _, [], _, _, h => by simp at h
  | x :: σ, y :: e, 0, s, h => by
    simp only [List.getElem?_cons_zero, Option.some.injEq] at h
    subst h
    cases x <;> cases y <;> rfl
  | x :: σ, y :: e, i + 1, s, h => by
    simp only [List.getElem?_cons_succ] at h
    have ih := slots_pinS (σ := σ) h
    simp only [List.set_cons_succ]
    cases x <;> cases y <;> simp only [slots, ih]
theorem Sta.pinUp {i : Nat} {s0 : Sl} (s : Sta K B F H σ e G) (hi : e[i]? = some s0) : Sta K ⟨B.H0, B.F0, vsOf σ⟩ F H σ (e.set i (pinS s0)) G := by
  refine ⟨⟨by rw [List.length_set]; exact s.ok.len, fun j sl hj => ?_⟩, by rw [slots_pinS hi]; exact s.rel⟩
  have hlt : i < e.length := (List.getElem?_eq_some_iff.mp hi).1
  by_cases hij : i = j
  · subst hij
    rw [List.getElem?_set_self hlt] at hj
    cases hj
    obtain ⟨x, hx, q⟩ := s.ok.sl i s0 hi
    refine ⟨x, hx, ?_⟩
    cases s0 with
    | no => trivial
    | own o =>
      obtain ⟨v, rfl⟩ := q
      exact ⟨v, rfl, vsOf_get hx⟩
    | pin o =>
      obtain ⟨v, rfl, _⟩ := q
      exact ⟨v, rfl, vsOf_get hx⟩
  · rw [List.getElem?_set_ne hij] at hj
    obtain ⟨x, hx, q⟩ := s.ok.sl j sl hj
    refine ⟨x, hx, ?_⟩
    cases sl with
    | no => trivial
    | own o => exact q
    | pin o =>
      obtain ⟨v, rfl, _⟩ := q
      exact ⟨v, rfl, vsOf_get hx⟩
theorem pinsLike_get : ∀ {e0 e : En} {j : Nat} {o : O}, pinsLike e0 e = true → e[j]? = some (.pin o) → ∃ o0, e0[j]? = some (.pin o0)
  | _, [], _, _, _, h => by simp at h
  | [], _ :: _, _, _, h, _ => by cases h
  | s0 :: e0, s :: e, 0, o, h, hj => by
    simp only [List.getElem?_cons_zero, Option.some.injEq] at hj
    subst hj
    unfold pinsLike at h
    rw [Bool.and_eq_true] at h
    cases s0 with
    | pin o0 => exact ⟨o0, rfl⟩
    | no => cases h.1
    | own _ => cases h.1
  | s0 :: e0, s :: e, j + 1, o, h, hj => by
    unfold pinsLike at h
    rw [Bool.and_eq_true] at h
    simp only [List.getElem?_cons_succ] at hj ⊢
    exact pinsLike_get h.2 hj
theorem Sta.unpin {i : Nat} {e0 e2 e3 : En} {σ0 σ2 : St} {F2 H2 : Hp} {G2 : Ws} (ok0 : SlOk B.vs σ0 e0) (h : Dn.unpin e0 e2 i = some e3) (s : Sta K ⟨B.H0, B.F0, vsOf σ0⟩ F2 H2 σ2 e2 G2) : Sta K B F2 H2 σ2 e3 G2 := by
  have fin : ∀ e3 : En, pinsLike e0 e3 = true → SlOk (vsOf σ0) σ2 e3 → SlOk B.vs σ2 e3 := fun e3 hp ok => by
    refine ⟨ok.len, fun j sl hj => ?_⟩
    obtain ⟨x, hx, q⟩ := ok.sl j sl hj
    refine ⟨x, hx, ?_⟩
    cases sl with
    | no => trivial
    | own o => exact q
    | pin o =>
      obtain ⟨v, rfl, hv⟩ := q
      obtain ⟨o0, h0⟩ := pinsLike_get hp hj
      obtain ⟨y, hy, v0, rfl, hb⟩ := ok0.sl j _ h0
      rw [vsOf_get hy] at hv
      cases hv
      exact ⟨_, rfl, hb⟩
  unfold Dn.unpin at h
  split at h
  · rename_i o0 o h0 h2
    split at h
    · rename_i hp
      cases h
      have hl : i < e2.length := (List.getElem?_eq_some_iff.mp h2).1
      refine ⟨fin _ hp ⟨by rw [List.length_set]; exact s.ok.len, fun j sl hj => ?_⟩, ?_⟩
      · by_cases hij : i = j
        · subst hij
          rw [List.getElem?_set_self hl] at hj
          cases hj
          obtain ⟨x, hx, v, rfl, _⟩ := s.ok.sl i _ h2
          exact ⟨_, hx, v, rfl⟩
        · rw [List.getElem?_set_ne hij] at hj
          exact s.ok.sl j sl hj
      · have e1 : slots σ2 (e2.set i (.own o)) = slots σ2 e2 := by
          have hh : (e2.set i (.own o))[i]? = some (.own o) := List.getElem?_set_self hl
          have := slots_pinS (σ := σ2) hh
          rw [List.set_set] at this
          have e4 : e2.set i (pinS (.own o)) = e2 := set_self h2
          rw [e4] at this
          exact this.symm
        rw [e1]
        exact s.rel
    · cases h
  · rename_i o0 o h0 h2
    split at h
    · rename_i hp
      cases h
      exact ⟨fin _ hp s.ok, s.rel⟩
    · cases h
  · cases h
theorem ds_forS {i : Nat} {tgE iter : Expr} {body : List Stmt} {tg : Tg} {mb : MS} {pos : Pos} (hp : PassesOwn (model X.prog X.w) X.A X.env X.xe) (hc : X.calm = true) (hi : PE X iter (tVar i)) (hg : PG X tgE (tg.rd X.K)) (hb : PSs X body (denS X.K mb))
    (hs : ∀ x, foldedSetIterable iter X.env x = pure x := by intro _; rfl) : PS X (.For tgE iter body [] pos) (denS X.K (mForS i tg mb)) := ps_imp (ps_for hp hc (pi_list hi) hg hb hs) fun D σ H ⟨B, F, e, G, oc, s, hm, k⟩ => by
  unfold mForS at hm
  split at hm
  · rename_i s0 h0
    split at hm
    · rename_i xs hx
      obtain ⟨v, hv, T, r⟩ := s.seeO h0 hx
      cases r with
      | l hp0 e1 e2 rl =>
        rename_i a vs ws T'
        have main : ∀ oc1, forS i tg mb xs.length 0 (e.set i (pinS s0)) = some oc1 → (∀ F2 H2 σ2 e2, oc1 = .nx e2 → Sta X.K ⟨B.H0, B.F0, vsOf σ⟩ F2 H2 σ2 e2 G → D.nx σ2 H2) → (∀ F2 H2 σ2 y u e2, oc1 = .rt y e2 → Sta X.K ⟨B.H0, B.F0, vsOf σ⟩ F2 H2 σ2 e2 ((u, y) :: G) → D.rt u H2) → (∀ e2, oc1 ≠ .bk e2) → (∀ e2, oc1 ≠ .ct e2) →
            tFor (iList X.K (tVar i)) (tg.rd X.K) (denS X.K mb) D σ H := by
          intro oc1 hf knx krt _ _
          refine ⟨.ref a, hv, a, rfl, ⟨_, .of hp0⟩, ?_⟩
          refine ⟨fun j m σ1 H1 => ∃ F1 e1, σ1[i]? = some (some (.ref a)) ∧ Sta X.K ⟨B.H0, B.F0, vsOf σ⟩ F1 H1 σ1 e1 G ∧ forS i tg mb m j e1 = some oc1, ⟨xs.length, F, _, hv, s.pinUp h0, hf⟩, fun j m σ1 H1 ⟨F1, e1, ha, s1, h1⟩ => ?_⟩
          have look : ∀ ys, e1[i]? = some (.pin (.l ys)) → ∃ w : Ws, SqL X.K H1 a (w.map (·.1)) ∧ w.map (·.2) = ys ∧ ∃ T, RpL X.K F1 H1 w T := fun ys hy => by
            obtain ⟨u, hu, T, r⟩ := s1.seeO hy (show (Sl.pin (.l ys)).o? = some (.l ys) from rfl)
            rw [ha] at hu
            cases hu
            cases r with
            | l hpp f1 f2 rl1 =>
              rename_i vs' w' T''
              exact ⟨w', .of (by rw [hpp, f1]), f2.symm, _, rl1⟩
          cases m with
          | zero =>
            unfold forS at h1
            split at h1
            · rename_i ys hy
              split at h1
              · rename_i hle
                cases h1
                obtain ⟨w, hq, hw, _⟩ := look ys hy
                exact .inl ⟨⟨_, hq, by rw [List.length_map, ← List.length_map (f := fun x : V × O => x.2), hw]; exact hle⟩, knx F1 H1 σ1 e1 rfl s1⟩
              · cases h1
            · cases h1
          | succ m =>
            unfold forS at h1
            split at h1
            · rename_i ys hy
              obtain ⟨w, hq, hw, T, rw'⟩ := look ys hy
              split at h1
              · rename_i d hd
                split at h1
                · rename_i hsc
                  rw [← hw, List.getElem?_map] at hd
                  obtain ⟨w0, hw0, hwd⟩ := Option.map_eq_some_iff.mp hd
                  obtain ⟨T0, r0⟩ := rpl_get rw' hw0
                  rw [hwd] at r0
                  have hg1 : (w.map (·.1))[j]? = some w0.1 := by rw [List.getElem?_map, hw0]; rfl
                  refine .inr ⟨⟨_, _, hq, hg1⟩, fun σ2 H2 => ∃ F2 e2, σ2[i]? = some (some (.ref a)) ∧ Sta X.K ⟨B.H0, B.F0, vsOf σ⟩ F2 H2 σ2 e2 G ∧ forS i tg mb m (j + 1) e2 = some oc1, fun σ2 H2 ⟨F2, e2, q1, q2, q3⟩ => ⟨m, Nat.lt_succ_self _, F2, e2, q1, q2, q3⟩, fun x H3 hyl => ?_⟩
                  obtain ⟨rfl, hx2⟩ := hyl
                  have hx3 := hx2 _ hq
                  rw [hg1] at hx3
                  cases hx3
                  have s2 := s1.push (rp_v r0)
                  split at h1
                  · rename_i ea he
                    refine asg_run (vs := []) s2 he fun F4 σ4 s4 _ _ => ?_
                    have keep : ∀ F5 H5 σ5 e5, Sta X.K ⟨B.H0, B.F0, vsOf σ⟩ F5 H5 σ5 e5 G → forS i tg mb m (j + 1) e5 = some oc1 → σ5[i]? = some (some (.ref a)) := fun F5 H5 σ5 e5 s5 h5 => by
                      have : ∃ o, e5[i]? = some (.pin o) := by
                        cases m with
                        | zero =>
                          unfold forS at h5
                          split at h5
                          · rename_i z; exact ⟨_, z⟩
                          · cases h5
                        | succ m =>
                          unfold forS at h5
                          split at h5
                          · rename_i z; exact ⟨_, z⟩
                          · cases h5
                      obtain ⟨o, ho⟩ := this
                      obtain ⟨y, hy2, u, rfl, hu⟩ := s5.ok.sl i _ ho
                      have : (vsOf σ)[i]? = some u := hu
                      rw [vsOf_get hv] at this
                      cases this
                      exact hy2
                    split at h1
                    · rename_i e5 h5
                      exact ⟨_, F4, ea, _, _, s4, h5, fun F6 H6 σ6 s6 => ⟨F6, e5, keep F6 H6 σ6 e5 s6 h1, s6, h1⟩⟩
                    · rename_i e5 h5
                      exact ⟨_, F4, ea, _, _, s4, h5, fun F6 H6 σ6 s6 => ⟨F6, e5, keep F6 H6 σ6 e5 s6 h1, s6, h1⟩⟩
                    · rename_i e5 h5
                      cases h1
                      exact ⟨_, F4, ea, _, _, s4, h5, fun F6 H6 σ6 s6 => knx F6 H6 σ6 e5 rfl s6⟩
                    · rename_i y e5 h5
                      cases h1
                      exact ⟨_, F4, ea, _, _, s4, h5, fun F6 H6 σ6 u s6 => krt F6 H6 σ6 y u e5 rfl s6⟩
                    · cases h1
                  · cases h1
                · cases h1
              · cases h1
            · cases h1
        split at hm
        · rename_i e2 h2
          split at hm
          · rename_i e3 h3
            cases hm
            exact main _ h2 (fun F2 H2 σ2 e2' he s2 => by cases he; exact k F2 H2 σ2 (s2.unpin s.ok h3)) (fun _ _ _ _ _ _ he => nomatch he) (fun _ he => nomatch he) (fun _ he => nomatch he)
          · cases hm
        · rename_i y e2 h2
          split at hm
          · rename_i e3 h3
            cases hm
            exact main _ h2 (fun _ _ _ _ he => nomatch he) (fun F2 H2 σ2 y' u e2' he s2 => by cases he; exact k F2 H2 σ2 u (s2.unpin s.ok h3)) (fun _ he => nomatch he) (fun _ he => nomatch he)
          · cases hm
        · cases hm
    · cases hm
  · cases hm
end
end Dn

set_option Elab.async false
set_option linter.all false
set_option maxRecDepth 100000
set_option maxHeartbeats 4000000
/-! tuple(x) of a slot's list of scalars that is looked at; is True -/
namespace Dn
open PySem L2
section
variable {K : PySem.W.Frag} {B : Bs} {F H : Hp} {σ : St} {e : En} {G : Ws} {X : Cx}
theorem toDs_vs0 : ∀ ds : List PyData, O.toDs (ds.map O.v) = some ds
  | [] => rfl
  | d :: ds => by
    rw [List.map_cons]
    unfold O.toDs
    rw [toDs_vs0 ds]
    rfl
def mTupS (i : Nat) : MD O := fun e => match bVar i e with
  | some x => (match x.toD with
    | some (.list ds) => if ds.all scal then some (.v (.tuple ds), e) else none
    | _ => none)
  | none => none
theorem d_tupS {i : Nat} {a : Expr} {p1 pos : Pos} (hg : Gl X "tuple") (hm : X.mg "tuple" = none) (ha : PE X a (tVar i)) (hs : starEach [a] X.env = (false, eval a X.env) :: starEach [] X.env := by rfl) (hpl : (backTo pos (starEach [] X.env)).any (·.1) = false := by rfl) :
    PE X (.Call (.Name "tuple" p1) [a] [] pos) (den X.K true (mTupS i)) :=
  pe_imp (pe_callTy call_tuple_of hg hm bb_tuple (pa_cons ha pa_nil hs) (by decide) (by decide) hs hpl) fun σ H Q ⟨B, F, e, G, y, e', s, hm, k⟩ => by
    unfold mTupS at hm
    split at hm
    · rename_i x hx
      split at hm
      · rename_i ds hd
        split at hm
        · rename_i hsc
          obtain ⟨rfl, rfl⟩ := so hm
          obtain ⟨sl, hi, ho⟩ := Option.bind_eq_some_iff.mp hx
          obtain ⟨v, hv, T, r⟩ := s.seeO hi ho
          obtain ⟨p, vs, rfl, hp, hall⟩ := df_list (rp_dp s.fh r hd)
          refine ⟨_, hv, p, vs, rfl, .inl ⟨.of hp, fun l hl => ?_⟩⟩
          have hds : ∀ d ∈ ds, scal d = true := fun d hd => List.all_eq_true.mp hsc d hd
          have hF : DfAll X.K F vs ds := dfa_scal hall hds
          have hlen : vs.length = (ds.map O.v).length := by rw [List.length_map]; exact dfa_len hF
          have s1 := (s.pushAll hF).newT hl
          rw [zip_fst hlen, zip_snd hlen] at s1
          obtain ⟨F', s2⟩ := s1.freeze (show (O.t (ds.map O.v)).toD = some (.tuple ds) by unfold O.toD; rw [toDs_vs0]; rfl)
          exact k F' _ _ s2 fun _ => same_upd hl
        · cases hm
      · cases hm
    · cases hm
/-- x is True -/
def fIsB : List PyData → Option PyData
  | [.bool a, .bool b] => some (.bool (a == b))
  | _ => none
def fNotB : List PyData → Option PyData
  | [.bool a, .bool b] => some (.bool (!(a == b)))
  | _ => none
theorem dec_beq (a b : Bool) : decide (a = b) = (a == b) := by cases a <;> cases b <;> rfl
theorem sc_isB : Sc K fIsB (r2 rIsB) := fun H vs ds z a hf => by
  unfold fIsB at hf
  split at hf
  · rename_i x y
    cases hf
    obtain ⟨v, u, rfl, b, c⟩ := dfa2 a
    obtain rfl := df_bool b
    obtain rfl := df_bool c
    exact ⟨_, rfl, fun Q q => ⟨x, y, rfl, rfl, by rw [dec_beq]; exact q⟩⟩
  · cases hf
theorem sc_notB : Sc K fNotB (r2 rNotB) := fun H vs ds z a hf => by
  unfold fNotB at hf
  split at hf
  · rename_i x y
    cases hf
    obtain ⟨v, u, rfl, b, c⟩ := dfa2 a
    obtain rfl := df_bool b
    obtain rfl := df_bool c
    exact ⟨_, rfl, fun Q q => ⟨x, y, rfl, rfl, by rw [dec_beq]; exact q⟩⟩
  · cases hf
end
end Dn

set_option Elab.async false
set_option linter.all false
set_option maxRecDepth 100000
set_option maxHeartbeats 4000000
/-! for x in xs: x[..].m(..), xs a list of one's own: what is done to the items is done to xs -/
namespace Dn
open PySem L2
def forAl (i : Nat) (bs : List (En → Option O)) (ms : MD (List O)) (f : List O → List O → Option (List O × O)) : Nat → Nat → En → Option En
  | 0, k, e => (match e[i]? with
    | some (.own (.l xs)) => if xs.length ≤ k then some e else none
    | _ => none)
  | m + 1, k, e => (match pathK e bs, e[i]?, ms e with
    | some ks, some (.own (.l zs)), some (ys, _) => (match atK (.l zs) ((k : Int) :: ks) with
      | some (.l xs) => (match f xs ys with
        | some (xs', _) => (match setK (.l zs) ((k : Int) :: ks) xs' with
          | some o' => forAl i bs ms f m (k + 1) (e.set i (.own o'))
          | none => none)
        | none => none)
      | _ => none)
    | _, _, _ => none)
def mForAl (i j : Nat) (bs : List (En → Option O)) (ms : MD (List O)) (f : List O → List O → Option (List O × O)) : MS := fun e => match e[i]?, e[j]? with
  | some (.own (.l xs)), some .no => (match forAl i bs ms f xs.length 0 e with
    | some e2 => some (.nx e2)
    | none => none)
  | _, _ => none
section
variable {K : PySem.W.Frag} {B : Bs} {F H : Hp} {σ : St} {e : En} {G : Ws} {X : Cx}
theorem Sta.setNo {j : Nat} {x : Option V} (s : Sta K B F H σ e G) (h : e[j]? = some .no) : Sta K B F H (σ.set j x) e G := by
  have he : e.set j .no = e := set_self h
  have hl : j < e.length := (List.getElem?_eq_some_iff.mp h).1
  refine ⟨⟨by rw [List.length_set]; exact s.ok.len, fun l sl hj => ?_⟩, ?_⟩
  · obtain ⟨y, hy, q⟩ := s.ok.sl l sl hj
    by_cases hij : j = l
    · subst hij
      rw [h] at hj
      cases hj
      have hl2 : j < σ.length := (List.getElem?_eq_some_iff.mp hy).1
      exact ⟨x, List.getElem?_set_self hl2, trivial⟩
    · exact ⟨y, by rw [List.getElem?_set_ne hij]; exact hy, q⟩
  · have := slots_no (x := x) (σ := σ) (e := e) (i := j)
    rw [he] at this
    rw [this]
    exact s.rel
theorem ds_forAl {i j : Nat} {tgE iter : Expr} {body : List Stmt} {bs : List (En → Option O)} {ms : MD (List O)} {f : List O → List O → Option (List O × O)} {r : V → List V → Hp → VK → Prop} {tr : TE} {pos : Pos} (hp : PassesOwn (model X.prog X.w) X.A X.env X.xe) (hc : X.calm = true) (hi : PE X iter (tVar i)) (hg : PG X tgE (Tg.rd X.K (.n j))) (hr : UpK X.K f r) (hrec : Recv X.K j bs tr) (hpu : PureA ms)
    (hb : PSs X body (fun D σ H => tBM X.K "list" r tr (denA X.K true ms) σ H fun _ H1 => D.nx σ H1))
    (hs : ∀ x, foldedSetIterable iter X.env x = pure x := by intro _; rfl) : PS X (.For tgE iter body [] pos) (denS X.K (mForAl i j bs ms f)) := ps_imp (ps_for hp hc (pi_list hi) hg hb hs) fun D σ H ⟨B, F, e, G, oc, s, hm, k⟩ => by
  unfold mForAl at hm
  split at hm
  · rename_i xs h0 hj0
    split at hm
    · rename_i e2 h2
      cases hm
      obtain ⟨v, hv, T, r0⟩ := s.seeO h0 (show (Sl.own (.l xs)).o? = some (.l xs) from rfl)
      cases r0 with
      | l hp0 f1 f2 rl =>
        rename_i a vs ws T'
        have hij : j ≠ i := fun z => by rw [z, h0] at hj0; cases hj0
        refine ⟨.ref a, hv, a, rfl, ⟨_, .of hp0⟩, ?_⟩
        refine ⟨fun q m σ1 H1 => ∃ F1 e1, σ1[i]? = some (some (.ref a)) ∧ e1[j]? = some .no ∧ Sta X.K B F1 H1 σ1 e1 G ∧ forAl i bs ms f m q e1 = some e2, ⟨xs.length, F, e, hv, hj0, s, h2⟩, fun q m σ1 H1 ⟨F1, e1, ha, hj1, s1, h1⟩ => ?_⟩
        have look : ∀ ys, e1[i]? = some (.own (.l ys)) → ∃ w : Ws, SqL X.K H1 a (w.map (·.1)) ∧ H1 a = some (.lst (w.map (·.1))) ∧ w.map (·.2) = ys := fun ys hy => by
          obtain ⟨u, hu, T, r⟩ := s1.seeO hy (show (Sl.own (.l ys)).o? = some (.l ys) from rfl)
          rw [ha] at hu
          cases hu
          cases r with
          | l hpp f1 f2 rl1 =>
            rename_i vs' w' T''
            exact ⟨w', .of (by rw [hpp, f1]), by rw [hpp, f1], f2.symm⟩
        cases m with
        | zero =>
          unfold forAl at h1
          split at h1
          · rename_i ys hy
            split at h1
            · rename_i hle
              cases h1
              obtain ⟨w, hq, _, hw⟩ := look ys hy
              exact .inl ⟨⟨_, hq, by rw [List.length_map, ← List.length_map (f := fun x : V × O => x.2), hw]; exact hle⟩, k F1 H1 σ1 s1⟩
            · cases h1
          · cases h1
        | succ m =>
          unfold forAl at h1
          split at h1
          · rename_i ks zs ys ex hk hz hms
            split at h1
            · rename_i xs1 hat
              split at h1
              · rename_i xs' y hf
                split at h1
                · rename_i o' hset
                  obtain ⟨w, hq, hq2, hw⟩ := look zs hz
                  -- the item that is looked at
                  obtain ⟨v1, q1, w1, hv1, way1, hqq, _, _⟩ := s1.putK hz (show (Sl.own (.l zs)).o? = some (.l zs) from rfl) hat
                  rw [ha] at hv1
                  cases hv1
                  cases way1 with
                  | cons hs1 hj2 hu1 way2 =>
                    rename_i vsA jj u
                    have hA : vsA = w.map (·.1) := by
                      rcases hs1 with hs1 | hs1
                      · rw [hq2] at hs1; cases hs1; rfl
                      · rw [hq2] at hs1; cases hs1
                    subst hA
                    have hjj : jj = q := by
                      have hlt := (List.getElem?_eq_some_iff.mp hu1).1
                      have := ixN_seq hj2
                      unfold ixN at hj2
                      rw [if_pos (by omega), if_pos this.2.2.2] at hj2
                      cases hj2
                      simp
                    subst hjj
                    refine .inr ⟨⟨_, _, hq, hu1⟩, fun σ2 H2 => ∃ F2 e3, σ2[i]? = some (some (.ref a)) ∧ e3[j]? = some .no ∧ Sta X.K B F2 H2 σ2 e3 G ∧ forAl i bs ms f m (jj + 1) e3 = some e2, fun σ2 H2 ⟨F2, e3, g1, g2, g3, g4⟩ => ⟨m, Nat.lt_succ_self _, F2, e3, g1, g2, g3, g4⟩, fun x H3 hyl => ?_⟩
                    obtain ⟨rfl, hx2⟩ := hyl
                    have hx3 := hx2 _ hq
                    rw [hu1] at hx3
                    cases hx3
                    have hlσ : j < σ1.length := by
                      obtain ⟨y0, hy0, _⟩ := s1.ok.sl j _ hj1
                      exact (List.getElem?_eq_some_iff.mp hy0).1
                    have hai : (σ1.set j (some u))[i]? = some (some (.ref a)) := by rw [List.getElem?_set_ne hij]; exact ha
                    show tBM X.K "list" r tr (denA X.K true ms) (σ1.set j (some u)) H3 _
                    refine hrec B F1 H3 (σ1.set j (some u)) e1 G u (.ref q1) ks _ (s1.setNo hj1) (List.getElem?_set_self hlσ) hk way2 ⟨.inl ⟨rfl, _, .of hqq⟩, ?_⟩
                    refine ⟨B, F1, e1, G, ys, ex, s1.setNo hj1, hms, fun F2 H2 wa s2 r2 sm2 => ?_⟩
                    subst r2
                    obtain rfl := hpu _ _ _ hms
                    obtain ⟨v2, q2, vs2, hv2, way3, hq3, o1, hs3, kk⟩ := hr B F2 H2 (σ1.set j (some u)) ex G wa i (.own (.l zs)) (.l zs) ((jj : Int) :: ks) xs1 xs' y _ s2 hz rfl hat hf
                    rw [hset] at hs3
                    cases hs3
                    rw [hai] at hv2
                    cases hv2
                    have : V.ref q2 = V.ref q1 := way_uniq sm2 (Way.cons hs1 hj2 hu1 way2) way3
                    cases this
                    refine kk fun F3 H4 v3 s3 => ⟨F3, ex.set i (.own o'), hai, ?_, s3.pop, h1⟩
                    rw [List.getElem?_set_ne (Ne.symm hij)]
                    exact hj1
                · cases h1
              · cases h1
            · cases h1
          · cases h1
    · cases hm
  · cases hm
theorem pss_upK {x ex : Expr} {es : List Expr} {ms : MD (List O)} {r : V → List V → Hp → VK → Prop} {tr : TE} {name : Str} {id : String} {apos cpos pos : Pos} (slot : Slot "list" name id) (hty : typeOf (.builtin id) = pure (.type "method_descriptor")) (hm : MtR X id r) (ho : PE X x tr) (ha : PA X (ex :: es) (denA X.K true ms)) (hbase : attributeBase x name X.env (eval x X.env) = eval x X.env := by rfl)
    (hfew : ((backTo cpos (starEach (ex :: es) X.env)).all (fun x => !x.1) && (backToKw cpos (keywordEach [] X.env)).all (fun x => x.1.isSome)
      && decide ((ex :: es).length + ([] : List Keyword).length + (if ([] : List Keyword).isEmpty then 0 else 1) < 30)) = true := by rfl)
    (hline : (apos.endLine == cpos.line) = true := by rfl) (hs : starEach (ex :: es) X.env = (false, eval ex X.env) :: starEach es X.env := by rfl) (hplain : (backTo cpos (starEach es X.env)).any (·.1) = false := by rfl)
    (hsw : swapsWith (.Call (.Attribute x name apos) (ex :: es) [] cpos) none pos.line X.env = pure false := by rfl) :
    PSs X [.Expr (.Call (.Attribute x name apos) (ex :: es) [] cpos) pos] (fun D σ H => tBM X.K "list" r tr (denA X.K true ms) σ H fun _ H1 => D.nx σ H1) :=
  pss_imp (pss_cons (ps_expr (pe_bm PySem.F.plainAttrs_list slot hty hm ho ha hbase hfew hline hs hplain) hsw) pss_nil) fun D σ H h => h
end
end Dn

set_option Elab.async false
set_option linter.all false
set_option maxRecDepth 100000
set_option maxHeartbeats 4000000
/-! methods of texts: split, partition, join -/
namespace Dn
open PySem L2
def splitO : List O → Option O
  | [.v (.str a), .v (.str b)] => if (b.length == 0) = false ∧ a.length + 2 ≤ sizeLine then some (.l ((Txt.split a b).map fun x => .v (.str x))) else none
  | _ => none
def partO : List O → Option O
  | [.v (.str a), .v (.str b)] => if (b.length == 0) = false ∧ a.length ≤ sizeLine then some (.t [.v (.str (Txt.partition a b).1), .v (.str (Txt.partition a b).2.1), .v (.str (Txt.partition a b).2.2)]) else none
  | _ => none
def strsO : List O → Option (List Str)
  | [] => some []
  | .v (.str x) :: os => (match strsO os with
    | some ys => some (x :: ys)
    | none => none)
  | _ => none
def joinO : List O → Option O
  | [.v (.str a), x] => (match x.lparts with
    | some os => (match strsO os with
      | some ys => if (ys.map (·.length)).sum + ys.length * a.length ≤ sizeLine then some (.v (.str (Txt.join a ys))) else none
      | none => none)
    | none => none)
  | _ => none
section
variable {K : PySem.W.Frag} {X : Cx}
def rSplit : V → List V → Hp → VK → Prop := fun x xs H Q => ∃ a b, x = .str a ∧ xs = [.str b] ∧ (b.length == 0) = false ∧ a.length + 2 ≤ sizeLine ∧ rNewStrs (Txt.split a b) H Q
def rPart : V → List V → Hp → VK → Prop := fun x xs H Q => ∃ a b, x = .str a ∧ xs = [.str b] ∧ (b.length == 0) = false ∧ a.length ≤ sizeLine ∧ ∀ p, H p = none → Q (.ref p) (upd H p (.tup [.str (Txt.partition a b).1, .str (Txt.partition a b).2.1, .str (Txt.partition a b).2.2]))
def rJoin (K : PySem.W.Frag) : V → List V → Hp → VK → Prop := fun x xs H Q => ∃ a p, ∃ ys : List Str, x = .str a ∧ xs = [.ref p] ∧ (SqL K H p (ys.map V.str) ∨ SqT K H p (ys.map V.str)) ∧ (ys.map (·.length)).sum + ys.length * a.length ≤ 16777216 ∧ Q (.str (Txt.join a ys)) H
theorem strWs (ys : List Str) : (ys.map fun n => (V.str n, O.v (.str n))).map (·.1) = ys.map V.str ∧ (ys.map fun n => (V.str n, O.v (.str n))).map (·.2) = ys.map fun n => O.v (.str n) := by
  constructor <;> rw [List.map_map] <;> rfl
theorem al_split : Al K splitO (rM rSplit) := fun B F H σ e G ws x Q s hx k => by
  unfold splitO at hx
  split at hx
  · rename_i a b hw
    split at hx
    · rename_i hc
      cases hx
      obtain ⟨v, u, rfl⟩ := ws2 hw
      obtain ⟨T, r1⟩ := s.at
      obtain ⟨T2, r2⟩ := s.pop.at
      obtain rfl := df_str (rp_v r1)
      obtain rfl := df_str (rp_v r2)
      refine ⟨a, b, rfl, rfl, hc.1, hc.2, fun p hp => ?_⟩
      have s1 := s.pop.pop.strs (Txt.split a b)
      have s2 := s1.newL hp
      rw [(strWs _).1, (strWs _).2] at s2
      exact k F _ _ s2 (same_upd hp)
    · cases hx
  · cases hx
theorem al_part : Al K partO (rM rPart) := fun B F H σ e G ws x Q s hx k => by
  unfold partO at hx
  split at hx
  · rename_i a b hw
    split at hx
    · rename_i hc
      cases hx
      obtain ⟨v, u, rfl⟩ := ws2 hw
      obtain ⟨T, r1⟩ := s.at
      obtain ⟨T2, r2⟩ := s.pop.at
      obtain rfl := df_str (rp_v r1)
      obtain rfl := df_str (rp_v r2)
      refine ⟨a, b, rfl, rfl, hc.1, hc.2, fun p hp => ?_⟩
      have s1 := s.pop.pop.strs [(Txt.partition a b).1, (Txt.partition a b).2.1, (Txt.partition a b).2.2]
      have s2 := s1.newT hp
      exact k F _ _ s2 (same_upd hp)
    · cases hx
  · cases hx
theorem strs_vs {F H : Hp} : ∀ {w : Ws} {T : List Addr} {ys : List Str}, RpL K F H w T → strsO (w.map (·.2)) = some ys → w.map (·.1) = ys.map V.str
  | [], _, ys, _, h => by cases h; rfl
  | (v, o) :: w, T, ys, r, h => by
    rw [List.map_cons] at h
    cases r with
    | cons a t =>
      cases o with
      | v d =>
        cases d with
        | str x =>
          unfold strsO at h
          split at h
          · rename_i zs hz
            cases h
            rw [List.map_cons, List.map_cons, strs_vs t hz, df_str (rp_v a)]
          · cases h
        | _ => cases h
      | _ => cases h
theorem al_join : Al K joinO (rM (rJoin K)) := fun B F H σ e G ws x Q s hx k => by
  unfold joinO at hx
  split at hx
  · rename_i a y hw
    split at hx
    · rename_i os h1
      split at hx
      · rename_i ys h2
        split at hx
        · rename_i hb
          cases hx
          obtain ⟨v, u, rfl⟩ := ws2 hw
          obtain ⟨T, r1⟩ := s.at
          obtain rfl := df_str (rp_v r1)
          have s0 : Sta K B F H σ e ((u, y) :: G) := s.pop
          obtain ⟨p, w1, F1, rfl, e1, e2, e3, s1⟩ := Sta.openL s0 h1
          rw [← e2] at h2
          obtain ⟨T3, rl, _⟩ := s1.rel.res
          obtain ⟨Ta, Tb, _, _, rb⟩ := rpl_split rl
          obtain ⟨Tc, Td, _, rc, _⟩ := rpl_split rb
          have hvs := strs_vs rc h2
          rw [hvs] at e1
          have s2 : Sta K B F1 H σ e G := ⟨s1.ok, (s1.rel.perm (pmid _ _ _)).drop⟩
          exact ⟨a, p, ys, rfl, rfl, .inl (.of (s1.fh _ _ e1)), by rw [sizeLine_eq] at hb; exact hb, k F1 H _ (s2.push (.str _)) (.refl _)⟩
        · cases hx
      · cases hx
    · cases hx
  · cases hx
/-- o.m(e), o a text -/
theorem d_m1 {id : String} {name : Str} {o ex : Expr} {p q : Bool} {mo me : MD O} {f : List O → Option O} {r : V → List V → Hp → VK → Prop} {apos pos : Pos} (slot : Slot "str" name id) (ty : typeOf (.builtin id) = pure (.type "method_descriptor")) (rule : MtR X id r) (hr : Al X.K f (rM r)) (hf : ∀ x y z, f [x, y] = some z → ∃ a, x = .v (.str a)) (ho : PE X o (den X.K p mo)) (he : PE X ex (den X.K q me))
    (hs : starEach [ex] X.env = [(false, eval ex X.env)] := by rfl) (hbase : attributeBase o name X.env (eval o X.env) = eval o X.env := by rfl) (hline : (apos.endLine == pos.line) = true := by rfl) :
    PE X (.Call (.Attribute o name apos) [ex] [] pos) (den X.K (p && q) (mA f (aCons mo (aCons me aNil)))) := pe_imp (pe_m1 slot ty rule ho he hs hbase hline) fun σ H Q ⟨B, F, e, G, y, e', s, hm, k⟩ => by
  unfold mA at hm
  split at hm
  · rename_i xs e3 h3
    split at hm
    · rename_i x h4
      obtain ⟨rfl, rfl⟩ := so hm
      unfold aCons lCons at h3
      split at h3
      · rename_i x1 e1 h1
        split at h3
        · rename_i xs1 e2 h2
          obtain ⟨rfl, rfl⟩ := so h3
          split at h2
          · rename_i x2 e4 h5
            split at h2
            · rename_i xs2 e5 h6
              obtain ⟨rfl, rfl⟩ := so h2
              cases h6
              obtain ⟨a, rfl⟩ := hf _ _ _ h4
              refine ⟨B, F, e, G, _, e1, s, h1, fun F1 H1 v s1 sm1 => ⟨?_, B, F1, e1, _, x2, e4, s1, h5, fun F2 H2 u s2 sm2 => ?_⟩⟩
              · obtain ⟨T, r1⟩ := s1.at
                exact ⟨a, df_str (rp_v r1)⟩
              · exact hr B F2 H2 σ e4 G [(v, .v (.str a)), (u, x2)] _ _ (s2.perm (List.Perm.swap ..)) h4 fun F3 H3 z s3 sm3 => k F3 H3 z s3 fun c => by
                  cases p
                  · cases c
                  · cases q
                    · cases c
                    · exact ((sm1 rfl).trans (sm2 rfl)).trans sm3
            · cases h2
          · cases h2
        · cases h3
      · cases h3
    · cases hm
  · cases hm
theorem hf_split : ∀ x y z, splitO [x, y] = some z → ∃ a, x = .v (.str a) := fun x y z h => by
  unfold splitO at h
  split at h
  · rename_i a b e
    cases e
    exact ⟨a, rfl⟩
  · cases h
theorem hf_part : ∀ x y z, partO [x, y] = some z → ∃ a, x = .v (.str a) := fun x y z h => by
  unfold partO at h
  split at h
  · rename_i a b e
    cases e
    exact ⟨a, rfl⟩
  · cases h
theorem hf_join : ∀ x y z, joinO [x, y] = some z → ∃ a, x = .v (.str a) := fun x y z h => by
  unfold joinO at h
  split at h
  · rename_i a b e
    cases e
    exact ⟨a, rfl⟩
  · cases h
/-! a text many times -/
def repS (a : Str) (k : Int) : Str := ⟨(List.replicate k.toNat a.cps).foldl (· ++ ·) #[]⟩
def rMulS : R2 := fun x y H Q => ∃ a k, x = .str a ∧ y = .int k ∧ (2 ≤ k ∧ k ≤ 1000) ∧ (1 ≤ a.length ∧ a.length ≤ 1000) ∧ Q (.str (repS a k)) H
def fMulS : List PyData → Option PyData
  | [.str a, .int k] => if (2 ≤ k ∧ k ≤ 1000) ∧ (1 ≤ a.length ∧ a.length ≤ 1000) then some (.str (repS a k)) else none
  | _ => none
theorem rep_size (c : Array Nat) : ∀ (m : Nat) (acc : Array Nat), ((List.replicate m c).foldl (· ++ ·) acc).size = acc.size + m * c.size
  | 0, acc => by simp
  | m + 1, acc => by
    rw [List.replicate_succ, List.foldl_cons, rep_size c m, Array.size_append, Nat.succ_mul]
    omega
theorem op_mulS : OpR X (binaryOp .Mult) rMulS := by
  intro pins s σ H x y v u Q I rx ry h
  obtain ⟨a, k, rfl, rfl, hk, ha, q⟩ := h
  obtain ⟨t, rfl⟩ := rx
  obtain ⟨t', rfl⟩ := ry
  have h1 : ¬ k < 1 := by omega
  have h2 : (k == 1 || a.length == 0) = false := by
    rw [Bool.or_eq_false_iff]
    exact ⟨beq_false_of_ne (by omega), beq_false_of_ne (by omega)⟩
  refine P.mul_str (by
    rw [Bool.or_eq_false_iff]
    exact ⟨decide_eq_false (by omega), decide_eq_false (by omega)⟩) (fun _ _ => ?_) (fun _ _ => ?_) ?_
  · have h3 : (a.length : Int) * k ≤ 1000 * 1000 := Int.mul_le_mul (by omega) hk.2 (by omega) (by omega)
    have h4 : (a.length : Int) ≤ (2 ^ 63 - 1) / k := (Int.le_ediv_iff_mul_le (by omega)).mpr (by omega)
    omega
  · have h3 : a.length * k.toNat ≤ 1000 * 1000 := Nat.mul_le_mul ha.2 (by omega)
    show decide (a.length * k.toNat > sizeLine) = false
    refine decide_eq_false ?_
    have := sizeLine_eq
    omega
  · rw [if_neg h1, h2, if_neg Bool.false_ne_true]
    refine ⟨?_, .str (repS a k), H, I.tok _, ⟨_, rfl⟩, q⟩
    show ((List.replicate k.toNat a.cps).foldl (· ++ ·) #[]).size ≤ sizeLine
    rw [rep_size]
    have h3 : k.toNat * a.cps.size ≤ 1000 * 1000 := Nat.mul_le_mul (by omega) ha.2
    have := sizeLine_eq
    simp
    omega
theorem sc_mulS : Sc K fMulS (r2 rMulS) := fun H vs ds z a hf => by
  unfold fMulS at hf
  split at hf
  · split at hf
    · rename_i hc
      cases hf
      obtain ⟨v, u, rfl, b, c⟩ := dfa2 a
      obtain rfl := df_str b
      obtain rfl := df_int c
      exact ⟨_, rfl, fun Q q => ⟨_, _, rfl, rfl, hc.1, hc.2, q⟩⟩
    · cases hf
  · cases hf
end
end Dn

set_option Elab.async false
set_option linter.all false
set_option maxRecDepth 100000
set_option maxHeartbeats 4000000
/-! plain Lean: what the denotations come to -/
namespace Dn
open PySem L2
@[simp] theorem shut_simp {α : Type} (a : α) : shut a = a := shut_eq a
section
variable {m a b : MD O} {ms : MD (List O)} {c c' : MD Bool} {t u : MS} {e : En} {i : Nat} {f : List PyData → Option PyData}
@[simp] theorem mC_ap (d : PyData) : mC d e = some (.v d, e) := id rfl
@[simp] theorem mVar_ap : mVar i e = (match e[i]? with
  | some (.own (.v d)) => some (.v d, e)
  | some (.own (.s ns)) => some (.s ns, e)
  | some (.own o) => (match o.toD with | some d => some (.v d, e.set i (.own (.v d))) | none => none)
  | some (.pin (.v d)) => some (.v d, e)
  | some (.pin (.s ns)) => some (.s ns, e)
  | _ => none) := id rfl
@[simp] theorem mMv_ap : mMv i e = (match e[i]? with
  | some (.own o) => some (o, e.set i .no)
  | _ => none) := id rfl
@[simp] theorem bVar_ap : bVar i e = (e[i]?).bind Sl.o? := id rfl
@[simp] theorem o_no : Sl.o? .no = none := id rfl
@[simp] theorem o_own (o : O) : Sl.o? (.own o) = some o := id rfl
@[simp] theorem o_pin (o : O) : Sl.o? (.pin o) = some o := id rfl
@[simp] theorem lNil_ap : lNil e = some ([], e) := id rfl
@[simp] theorem aNil_ap : aNil e = some ([], e) := id rfl
@[simp] theorem lCons_ap : lCons m ms e = (match m e with
  | some (x, e1) => (match ms e1 with
    | some (xs, e2) => some (x :: xs, e2)
    | none => none)
  | none => none) := id rfl
@[simp] theorem aCons_ap : aCons m ms e = (match m e with
  | some (x, e1) => (match ms e1 with
    | some (xs, e2) => some (x :: xs, e2)
    | none => none)
  | none => none) := id rfl
@[simp] theorem lSee_ap : lSee i ms e = (match (e[i]?).bind Sl.o? with
  | some _ => (match ms e with
    | some (xs, e1) => (match (e1[i]?).bind Sl.o? with
      | some x => some (x :: xs, e1)
      | none => none)
    | none => none)
  | none => none) := id rfl
@[simp] theorem aMv_ap : aMv i ms e = (match (e[i]?).bind Sl.o? with
  | some _ => (match ms e with
    | some (xs, e1) => (match mMv i e1 with
      | some (x, e2) => some (x :: xs, e2)
      | none => none)
    | none => none)
  | none => none) := id rfl
@[simp] theorem aRf_ap : aRf i ms e = (match (e[i]?).bind Sl.o? with
  | some _ => (match ms e with
    | some (xs, e1) => (match (e1[i]?).bind Sl.o? with
      | some x => some (x :: xs, e1.set i .no)
      | none => none)
    | none => none)
  | none => none) := id rfl
@[simp] theorem mL_ap : mL f ms e = (match ms e with
  | some (xs, e1) => (match O.toDs xs with
    | some ds => (match f ds with
      | some z => some (.v z, e1)
      | none => none)
    | none => none)
  | none => none) := id rfl
@[simp] theorem mLk_ap {f : List O → Option PyData} : mLk f ms e = (match ms e with
  | some (xs, e1) => (match f xs with
    | some z => some (.v z, e1)
    | none => none)
  | none => none) := id rfl
@[simp] theorem mA_ap {f : List O → Option O} : mA f ms e = (match ms e with
  | some (xs, e1) => (match f xs with
    | some x => some (x, e1)
    | none => none)
  | none => none) := id rfl
@[simp] theorem mT_ap : mT m e = (match m e with
  | some (.v (.bool b), e1) => some (b, e1)
  | _ => none) := id rfl
@[simp] theorem mFz_ap : mFz m e = (match m e with
  | some (x, e1) => (match x.toD with
    | some d => some (.v d, e1)
    | none => none)
  | none => none) := id rfl
@[simp] theorem mSet_ap : mSet i m e = (match m e with
  | some (x, e1) => (match setE e1 i x with
    | some e2 => some (.nx e2)
    | none => none)
  | none => none) := id rfl
@[simp] theorem setE_ap {x : O} : setE e i x = (match e[i]? with
  | some .no => some (e.set i (.own x))
  | some (.own _) => some (e.set i (.own x))
  | _ => none) := id rfl
@[simp] theorem mDrop_ap : mDrop m e = (match m e with
  | some (_, e1) => some (.nx e1)
  | none => none) := id rfl
@[simp] theorem mRet_ap : mRet m e = (match m e with
  | some (x, e1) => some (.rt x e1)
  | none => none) := id rfl
@[simp] theorem mRetN_ap : mRetN e = some (.rt (.v .none) e) := id rfl
@[simp] theorem mNil_ap : mNil e = some (.nx e) := id rfl
@[simp] theorem mKill_ap (vs : List Nat) : mKill vs e = some (.nx (hide e vs)) := id rfl
@[simp] theorem mFrz_ap (vs : List Nat) : mFrz vs e = some (.nx (frz e vs)) := id rfl
@[simp] theorem mFrzE_ap {α : Type} (vs : List Nat) (m : MD α) : mFrzE vs m e = m (frz e vs) := id rfl
@[simp] theorem mYes_ap : mYes e = some (true, e) := id rfl
@[simp] theorem oNone_ap : oNone e = some (none, e) := id rfl
@[simp] theorem oSome_ap : oSome m e = (match m e with
  | some (.v (.int i), e1) => some (some i, e1)
  | _ => none) := id rfl
@[simp] theorem mSl_ap {lo hi : MO} : mSl m lo hi e = (match m e with
  | some (x, e1) => (match lo e1 with
    | some (a, e2) => (match hi e2 with
      | some (b, e3) => (match slO x a b with
        | some y => some (y, e3)
        | none => none)
      | none => none)
    | none => none)
  | none => none) := id rfl
@[simp] theorem mSeq_ap : mSeq t u e = (match t e with
  | some (.nx e1) => u e1
  | r => r) := id rfl
@[simp] theorem mIf_ap : mIf c t u e = (match c e with
  | some (b, e1) => if b = true then t e1 else u e1
  | none => none) := by
  unfold mIf
  split <;> rename_i h <;> simp [h]
@[simp] theorem tAndM_ap : tAndM c c' e = (match c e with
  | some (b, e1) => if b = true then c' e1 else some (false, e1)
  | none => none) := by
  unfold tAndM
  split
  · rename_i h; simp [h]
  · rename_i h
    cases hc : c e with
    | none => rfl
    | some p =>
      obtain ⟨b, e1⟩ := p
      cases b
      · rfl
      · exact absurd hc (h e1)
@[simp] theorem tOrM_ap : tOrM c c' e = (match c e with
  | some (b, e1) => if b = true then some (true, e1) else c' e1
  | none => none) := by
  unfold tOrM
  split
  · rename_i h; simp [h]
  · rename_i h
    cases hc : c e with
    | none => rfl
    | some p =>
      obtain ⟨b, e1⟩ := p
      cases b
      · exact absurd hc (h e1)
      · rfl
@[simp] theorem tNotM_ap : tNotM c e = (match c e with
  | some (b, e1) => some (!b, e1)
  | none => none) := id rfl
@[simp] theorem vAnd_ap : vAnd a b e = (match a e with
  | some (.v (.bool k), e1) => if k = true then b e1 else some (.v (.bool false), e1)
  | _ => none) := by
  unfold vAnd
  split
  · rename_i h; simp [h]
  · rename_i h; simp [h]
  · rename_i h1 h2
    split
    · rename_i k e1 h3
      cases k
      · exact absurd h3 (h2 _)
      · exact absurd h3 (h1 _)
    · rfl
@[simp] theorem vOr_ap : vOr a b e = (match a e with
  | some (.v (.bool k), e1) => if k = true then some (.v (.bool true), e1) else b e1
  | _ => none) := by
  unfold vOr
  split
  · rename_i h; simp [h]
  · rename_i h; simp [h]
  · rename_i h1 h2
    split
    · rename_i k e1 h3
      cases k
      · exact absurd h3 (h1 _)
      · exact absurd h3 (h2 _)
    · rfl
@[simp] theorem vNot_ap : vNot a e = (match a e with
  | some (.v (.bool b), e1) => some (.v (.bool (!b)), e1)
  | _ => none) := id rfl
@[simp] theorem mUp_ap {f : List O → List O → Option (List O × O)} : mUp i ms f e = (match (e[i]?).bind Sl.o? with
  | some (.l _) => (match ms e with
    | some (ys, e1) => (match e1[i]? with
      | some (.own (.l xs)) => (match f xs ys with
        | some (xs', y) => some (y, e1.set i (.own (.l xs')))
        | none => none)
      | some (.pin (.l xs)) => (match f xs ys with
        | some (xs', y) => some (y, e1.set i (.pin (.l xs')))
        | none => none)
      | _ => none)
    | none => none)
  | _ => none) := id rfl
@[simp] theorem mSetI_ap : mSetI i a b e = (match a e with
  | some (y, e1) => (match (e1[i]?).bind Sl.o? with
    | some (.l _) => (match b e1 with
      | some (.v (.int k), e2) => (match e2[i]? with
        | some (.own (.l xs)) => (match ixN xs.length k with
          | some j => some (.nx (e2.set i (.own (.l (xs.set j y)))))
          | none => none)
        | some (.pin (.l xs)) => (match ixN xs.length k with
          | some j => some (.nx (e2.set i (.pin (.l (xs.set j y)))))
          | none => none)
        | _ => none)
      | _ => none)
    | _ => none)
  | none => none) := id rfl
@[simp] theorem mLM_ap : mLM i f ms e = (match (e[i]?).bind Sl.o? with
  | some (.l _) => mL f (lSee i ms) e
  | some (.v (.list _)) => mL f (lSee i ms) e
  | _ => none) := id rfl
@[simp] theorem mAsg_ap {tg : Tg} : mAsg tg m e = (match m e with
  | some (x, e1) => (match asg tg x e1 with
    | some e2 => some (.nx e2)
    | none => none)
  | none => none) := id rfl
@[simp] theorem mAugI_ap : mAugI i m e = (match e[i]? with
  | some (.own (.v (.int a))) => (match m e with
    | some (.v (.int b), e1) => (match setE e1 i (.v (.int (a + b))) with
      | some e2 => some (.nx e2)
      | none => none)
    | _ => none)
  | _ => none) := id rfl
@[simp] theorem mCallM_ap {sem : Sem1} : mCallM sem ms e = (match ms e with
  | some (xs, e1) => (match sem xs with
    | some (x, []) => some (x, e1)
    | _ => none)
  | none => none) := id rfl
@[simp] theorem mCallL_ap {sem : Sem1} : mCallL sem ms e = (match ms e with
  | some (xs, e1) => (match O.toDs xs with
    | some ds => (match sem (ds.map .v) with
      | some (.v z, []) => if (sV z).isSome then some (.v z, e1) else none
      | _ => none)
    | none => none)
  | none => none) := id rfl
@[simp] theorem mCallR_ap {sem : Sem1} {rs : List Nat} : mCallR sem ms rs e = (match ms e with
  | some (xs, e1) => (match sem xs with
    | some (x, os) => (match putBk e e1 rs os with
      | some e2 => some (x, e2)
      | none => none)
    | none => none)
  | none => none) := id rfl
@[simp] theorem putBk_nil {e0 : En} : putBk e0 e [] [] = some e := id rfl
@[simp] theorem putBk_cons {e0 : En} {i : Nat} {rs : List Nat} {o : O} {os : List O} : putBk e0 e (i :: rs) (o :: os) = (match e0[i]?, e[i]? with
    | some (.own _), some .no => putBk e0 (e.set i (.own o)) rs os
    | some (.pin _), some .no => putBk e0 (e.set i (.pin o)) rs os
    | _, _ => none) := id rfl
@[simp] theorem hide_nil : hide e [] = e := id rfl
@[simp] theorem hide_cons {v : Nat} {vs : List Nat} : hide e (v :: vs) = (hide e vs).set v .no := id rfl
@[simp] theorem frz_nil : frz e [] = e := id rfl
@[simp] theorem frz_cons {v : Nat} {vs : List Nat} : frz e (v :: vs) = frz (match e[v]? with
    | some s => e.set v (frzS s)
    | none => e) vs := id rfl
@[simp] theorem frzS_no : frzS .no = .no := id rfl
@[simp] theorem frzS_pin (o : O) : frzS (.pin o) = .pin o := id rfl
@[simp] theorem frzS_own (o : O) : frzS (.own o) = (match o.toD with
    | some d => .own (.v d)
    | none => .own o) := id rfl
@[simp] theorem unhide_nil {e1 : En} : unhide e1 e [] = e := id rfl
@[simp] theorem unhide_cons {e1 : En} {v : Nat} {vs : List Nat} : unhide e1 e (v :: vs) = unhide e1 (e.set v (if vs.contains v then .no else keepV e1[v]?)) vs := id rfl
@[simp] theorem keepV_none : keepV none = .no := id rfl
@[simp] theorem keepV_no : keepV (some .no) = .no := id rfl
@[simp] theorem keepV_v (d : PyData) : keepV (some (.own (.v d))) = .own (.v d) := id rfl
@[simp] theorem asg_n {x : O} : asg (.n i) x e = setE e i x := id rfl
@[simp] theorem asg_tp {ts : List Tg} {x : O} : asg (.tp ts) x e = (match x.tparts with
    | some xs => asgs ts xs e
    | none => none) := id rfl
@[simp] theorem asgs_nil : asgs [] [] e = some e := id rfl
@[simp] theorem asgs_cons {g : Tg} {ts : List Tg} {x : O} {xs : List O} : asgs (g :: ts) (x :: xs) e = (match asg g x e with
    | some e1 => asgs ts xs e1
    | none => none) := id rfl
@[simp] theorem tgin_n {vs : List Nat} : (Tg.n i).in vs = vs.contains i := id rfl
@[simp] theorem tgin_tp {vs : List Nat} {ts : List Tg} : (Tg.tp ts).in vs = Tg.ins vs ts := id rfl
@[simp] theorem tgins_nil {vs : List Nat} : Tg.ins vs [] = true := id rfl
@[simp] theorem tgins_cons {vs : List Nat} {g : Tg} {ts : List Tg} : Tg.ins vs (g :: ts) = (Tg.in vs g && Tg.ins vs ts) := id rfl
@[simp] theorem mLc_ap {mi : MD (List O)} {tg : Tg} {vs : List Nat} : mLc mi tg c m vs e = (match mi e with
  | some (os, e1) => if os.length ≤ sizeLine && tg.in vs then (match lcL tg c m vs os (hide e1 vs) with
    | some (ys, e2) => some (.l ys, unhide e1 e2 vs)
    | none => none) else none
  | none => none) := id rfl
@[simp] theorem mFor_ap {mi : MD (List O)} {tg : Tg} : mFor mi tg t e = (match mi e with
  | some (os, e1) => forL tg t os e1
  | none => none) := id rfl
@[simp] theorem iL_ap : iL m e = (match m e with
  | some (x, e1) => (match x.lparts with
    | some os => some (os, e1)
    | none => (match x.tparts with
      | some os => some (os, e1)
      | none => none))
  | none => none) := id rfl
@[simp] theorem iR1_ap : iR1 ms e = (match ms e with
  | some ([.v (.int j)], e1) => if shut (decide (-(2 ^ 62) ≤ j ∧ j < 2 ^ 62)) = true then some (rngO 0 j.toNat, e1) else none
  | _ => none) := id rfl
@[simp] theorem iR2_ap : iR2 ms e = (match ms e with
  | some ([.v (.int i), .v (.int j)], e1) => if shut (decide (-(2 ^ 62) ≤ i ∧ i < 2 ^ 62 ∧ -(2 ^ 62) ≤ j ∧ j < 2 ^ 62)) = true then some (rngO i (j - i).toNat, e1) else none
  | _ => none) := id rfl
@[simp] theorem iZ_ap : iZ ms e = (match ms e with
  | some ([x, y], e1) => (match x.lparts, y.lparts with
    | some xs, some ys => some (zipO xs ys, e1)
    | _, _ => none)
  | _ => none) := id rfl
@[simp] theorem iE_ap : iE ms e = (match ms e with
  | some ([x], e1) => (match x.lparts with
    | some xs => some (enuO 0 xs, e1)
    | _ => none)
  | _ => none) := id rfl
@[simp] theorem iS_ap : iS m e = (match m e with
  | some (.v (.str x), e1) => some (sgO x, e1)
  | _ => none) := id rfl
@[simp] theorem fin_rt {br : List Bool} {x : O} : fin br (some (.rt x e)) = (match pinsOf br e with
    | some os' => some (x, os')
    | none => none) := id rfl
@[simp] theorem fin_nx {br : List Bool} : fin br (some (.nx e)) = (match pinsOf br e with
    | some os' => some (.v .none, os')
    | none => none) := id rfl
@[simp] theorem pins_nil : pinsOf [] e = some [] := id rfl
@[simp] theorem pins_f {br : List Bool} {s : Sl} : pinsOf (false :: br) (s :: e) = pinsOf br e := id rfl
@[simp] theorem pins_t {br : List Bool} {o : O} : pinsOf (true :: br) (.pin o :: e) = (match pinsOf br e with
    | some os => some (o :: os)
    | none => none) := id rfl
@[simp] theorem toD_v (d : PyData) : O.toD (.v d) = some d := id rfl
@[simp] theorem toD_l (xs : List O) : O.toD (.l xs) = (O.toDs xs).map .list := id rfl
@[simp] theorem toD_t (xs : List O) : O.toD (.t xs) = (O.toDs xs).map .tuple := id rfl
@[simp] theorem toDs_nil : O.toDs [] = some [] := id rfl
@[simp] theorem toDs_cons (x : O) (xs : List O) : O.toDs (x :: xs) = (match O.toD x, O.toDs xs with
    | some d, some ds => some (d :: ds)
    | _, _ => none) := id rfl
@[simp] theorem lparts_l (xs : List O) : O.lparts (.l xs) = some xs := id rfl
@[simp] theorem lparts_v (ds : List PyData) : O.lparts (.v (.list ds)) = some (ds.map .v) := id rfl
@[simp] theorem lparts_t (xs : List O) : O.lparts (.t xs) = none := id rfl
@[simp] theorem lparts_tv (ds : List PyData) : O.lparts (.v (.tuple ds)) = none := id rfl
@[simp] theorem tparts_t (xs : List O) : O.tparts (.t xs) = some xs := id rfl
@[simp] theorem tparts_v (ds : List PyData) : O.tparts (.v (.tuple ds)) = some (ds.map .v) := id rfl
@[simp] theorem pathK_nil : pathK e [] = some [] := id rfl
@[simp] theorem pathK_cons {b : En → Option O} {bs : List (En → Option O)} : pathK e (b :: bs) = (match b e with
    | some (.v (.int k)) => (match pathK e bs with
      | some ks => some (k :: ks)
      | none => none)
    | _ => none) := id rfl
@[simp] theorem bC_ap (d : PyData) : bC d e = some (.v d) := id rfl
@[simp] theorem lAt_ap {bs : List (En → Option O)} : lAt i bs ms e = (match pathK e bs, (e[i]?).bind Sl.o?, ms e with
  | some ks, some o, some (xs, e1) => (match atL o ks with
    | some x => some (x :: xs, e1)
    | none => none)
  | _, _, _ => none) := id rfl
@[simp] theorem mUpK_ap {bs : List (En → Option O)} {f : List O → List O → Option (List O × O)} : mUpK i bs ms f e = (match pathK e bs, e[i]?, ms e with
  | some ks, some (.own o), some (ys, _) => (match atK o ks with
    | some (.l xs) => (match f xs ys with
      | some (xs', y) => (match setK o ks xs' with
        | some o' => some (y, e.set i (.own o'))
        | none => none)
      | none => none)
    | _ => none)
  | some ks, some (.pin o), some (ys, _) => (match atK o ks with
    | some (.l xs) => (match f xs ys with
      | some (xs', y) => (match setK o ks xs' with
        | some o' => some (y, e.set i (.pin o'))
        | none => none)
      | none => none)
    | _ => none)
  | _, _, _ => none) := id rfl
@[simp] theorem mSlK_ap {bs : List (En → Option O)} {lo hi : Option Int} : mSlK i bs lo hi e = (match pathK e bs, (e[i]?).bind Sl.o? with
  | some ks, some o => (match atL o ks with
    | some x => (match x.tparts with
      | some xs => (match O.allV (cutG xs lo hi) with
        | some ds => if HT.sIx xs.length 0 lo = 0 ∧ HT.sIx xs.length xs.length hi = xs.length then none else if ds.length ≤ sizeLine then some (.v (.tuple ds), e) else none
        | none => none)
      | none => none)
    | none => none)
  | _, _ => none) := id rfl
@[simp] theorem mRev_ap : mRev m e = (match m e with
  | some (x, e1) => (match x.lparts with
    | some xs => some (.l xs.reverse, e1)
    | none => none)
  | none => none) := id rfl
@[simp] theorem vOrT_ap : vOrT a b e = (match a e with
  | some (x, e1) => (match truO x with
    | some true => some (x, e1)
    | some false => b e1
    | none => none)
  | none => none) := id rfl
@[simp] theorem mChain_ap {f g : List PyData → Option PyData} : mChain f g ms m e = (match ms e with
  | some (xs, e1) => (match O.toDs xs with
    | some [x, y] => (match f [x, y] with
      | some (.bool true) => (match sV y with
        | some _ => mL g (lCons (mC y) (lCons m lNil)) e1
        | none => none)
      | some (.bool false) => some (.v (.bool false), e1)
      | _ => none)
    | _ => none)
  | none => none) := id rfl
@[simp] theorem atL_nil (o : O) : atL o [] = some o := id rfl
@[simp] theorem atK_nil (o : O) : atK o [] = some o := id rfl
end
end Dn

set_option Elab.async false
set_option linter.all false
set_option maxRecDepth 100000
set_option maxHeartbeats 4000000
namespace Dn
open PySem L2
/-! loops -/
section
variable {α : Type} {tg : Tg} {mt : MD Bool} {me : MD O} {vs : List Nat}
/-- a comprehension that leaves the slots as they are -/
theorem lc_map {enc : α → O} {f : α → O} {e : En} : ∀ (xs : List α), (∀ x ∈ xs, ∃ e1 e2 e3, asg tg (enc x) e = some e1 ∧ mt e1 = some (true, e2) ∧ me e2 = some (f x, e3) ∧ hide e3 vs = e) →
    lcL tg mt me vs (xs.map enc) e = some (xs.map f, e)
  | [], _ => rfl
  | x :: xs, h => by
    obtain ⟨e1, e2, e3, h1, h2, h3, h4⟩ := h x (List.mem_cons_self ..)
    have ih := lc_map xs fun y hy => h y (List.mem_cons_of_mem _ hy)
    simp only [List.map_cons, lcL, h1, h2, h3, h4, ih]
theorem lc_filter {enc : α → O} {f : α → O} {p : α → Bool} {e : En} : ∀ (xs : List α), (∀ x ∈ xs, ∃ e1 e2 e3, asg tg (enc x) e = some e1 ∧ mt e1 = some (p x, e2) ∧ (p x = true → me e2 = some (f x, e3) ∧ hide e3 vs = e) ∧ (p x = false → hide e2 vs = e)) →
    lcL tg mt me vs (xs.map enc) e = some ((xs.filter p).map f, e)
  | [], _ => rfl
  | x :: xs, h => by
    obtain ⟨e1, e2, e3, h1, h2, h3, h4⟩ := h x (List.mem_cons_self ..)
    have ih := lc_filter xs fun y hy => h y (List.mem_cons_of_mem _ hy)
    cases hp : p x with
    | true =>
      obtain ⟨h5, h6⟩ := h3 hp
      rw [hp] at h2
      simp only [List.map_cons, lcL, h1, h2, h5, h6, ih, List.filter_cons, hp, if_true]
    | false =>
      rw [hp] at h2
      simp only [List.map_cons, lcL, h1, h2, h4 hp, ih, List.filter_cons, hp]
      rfl
/-- a comprehension that moves a state -/
theorem lc_st {S β : Type} {enc : α → O} {E : S → En} {I : S → Prop} {R : α → β → Prop} {g : β → O} : ∀ (xs : List α) (s : S), I s → (∀ x ∈ xs, ∀ s, I s → ∃ y s' e1 e2 e3, asg tg (enc x) (E s) = some e1 ∧ mt e1 = some (true, e2) ∧ me e2 = some (g y, e3) ∧ hide e3 vs = E s' ∧ R x y ∧ I s') →
    ∃ ys s', lcL tg mt me vs (xs.map enc) (E s) = some (ys.map g, E s') ∧ I s' ∧ ys.length = xs.length ∧ ∀ p ∈ xs.zip ys, R p.1 p.2
  | [], s, hs, _ => ⟨[], s, rfl, hs, rfl, fun p hp => by simp at hp⟩
  | x :: xs, s, hs, h => by
    obtain ⟨y, s1, e1, e2, e3, h1, h2, h3, h4, h5, h6⟩ := h x (List.mem_cons_self ..) s hs
    obtain ⟨ys, s2, g1, g2, g3, g4⟩ := lc_st xs s1 h6 fun z hz => h z (List.mem_cons_of_mem _ hz)
    refine ⟨y :: ys, s2, by simp only [List.map_cons, lcL, h1, h2, h3, h4, g1], g2, by simp [g3], fun p hp => ?_⟩
    simp only [List.zip_cons_cons, List.mem_cons] at hp
    rcases hp with rfl | hp
    · exact h5
    · exact g4 p hp
variable {body : MS}
/-- a for that goes through -/
theorem for_fold {S : Type} {enc : α → O} {E : S → En} {step : S → α → S} {I : S → Prop} : ∀ (xs : List α) (s : S), I s → (∀ x ∈ xs, ∀ s, I s → I (step s x) ∧ ∃ e1, asg tg (enc x) (E s) = some e1 ∧ body e1 = some (.nx (E (step s x)))) →
    forL tg body (xs.map enc) (E s) = some (.nx (E (xs.foldl step s))) ∧ I (xs.foldl step s)
  | [], s, hs, _ => ⟨rfl, hs⟩
  | x :: xs, s, hs, h => by
    obtain ⟨h0, e1, h1, h2⟩ := h x (List.mem_cons_self ..) s hs
    obtain ⟨g1, g2⟩ := for_fold xs (step s x) h0 fun z hz => h z (List.mem_cons_of_mem _ hz)
    refine ⟨?_, g2⟩
    simp only [List.map_cons, forL, h1, h2, g1, List.foldl_cons]
/-- a for by an invariant of what is walked so far -/
theorem for_inv {S : Type} {enc : α → O} {E : S → En} (I : List α → S → Prop) {all : List α} : ∀ (xs pre : List α) (s : S), all = pre ++ xs → I pre s → (∀ pre x post s, all = pre ++ x :: post → I pre s → ∃ s' e1, asg tg (enc x) (E s) = some e1 ∧ body e1 = some (.nx (E s')) ∧ I (pre ++ [x]) s') →
    ∃ s', forL tg body (xs.map enc) (E s) = some (.nx (E s')) ∧ I all s'
  | [], pre, s, ha, hs, _ => ⟨s, rfl, by rw [ha, List.append_nil]; exact hs⟩
  | x :: xs, pre, s, ha, hs, h => by
    obtain ⟨s1, e1, h1, h2, h3⟩ := h pre x xs s ha hs
    obtain ⟨s2, g1, g2⟩ := for_inv I xs (pre ++ [x]) s1 (by rw [ha, List.append_assoc]; rfl) h3 h
    exact ⟨s2, by simp only [List.map_cons, forL, h1, h2, g1], g2⟩
/-- a for that may hand back from within -/
theorem for_ret {S : Type} {enc : α → O} {E : S → En} {step : S → α → S ⊕ O} {I : S → Prop} {er : S → α → En} : ∀ (xs : List α) (s : S), I s → (∀ x ∈ xs, ∀ s, I s → ∃ e1, asg tg (enc x) (E s) = some e1 ∧ (match step s x with | .inl s' => I s' ∧ body e1 = some (.nx (E s')) | .inr y => body e1 = some (.rt y (er s x)))) →
    (∃ s', I s' ∧ forL tg body (xs.map enc) (E s) = some (.nx (E s')) ∧ xs.foldl (fun (a : S ⊕ O) x => match a with | .inl s => step s x | .inr y => .inr y) (.inl s) = .inl s') ∨
    (∃ y e', forL tg body (xs.map enc) (E s) = some (.rt y e') ∧ xs.foldl (fun (a : S ⊕ O) x => match a with | .inl s => step s x | .inr y => .inr y) (.inl s) = .inr y ∧ ∃ s' x, e' = er s' x)
  | [], s, hs, _ => .inl ⟨s, hs, rfl, rfl⟩
  | x :: xs, s, hs, h => by
    obtain ⟨e1, h1, h2⟩ := h x (List.mem_cons_self ..) s hs
    cases hst : step s x with
    | inl s' =>
      rw [hst] at h2
      have ih := for_ret xs s' h2.1 fun z hz => h z (List.mem_cons_of_mem _ hz)
      simp only [List.map_cons, forL, h1, h2.2, List.foldl_cons, hst]
      exact ih
    | inr y =>
      rw [hst] at h2
      refine .inr ⟨y, er s x, ?_, ?_, s, x, rfl⟩
      · simp only [List.map_cons, forL, h1, h2]
      · simp only [List.foldl_cons, hst]
        clear h h1 h2
        induction xs with
        | nil => rfl
        | cons z zs ih => exact ih
end
/-- a while by a measure -/
theorem while_inv {S : Type} {E : S → En} {mc : MD Bool} {mb : MS} (I : S → Prop) (P : S → Prop) (μ : S → Nat) (h : ∀ s, I s → (P s ∧ mc (E s) = some (false, E s)) ∨ ∃ s', mc (E s) = some (true, E s) ∧ mb (E s) = some (.nx (E s')) ∧ I s' ∧ μ s' < μ s) :
    ∀ (n : Nat) (s : S), μ s ≤ n → I s → ∃ s', mWhile mc mb (E s) = some (.nx (E s')) ∧ I s' ∧ P s' := by
  have go : ∀ (n : Nat) (s : S), μ s ≤ n → I s → ∃ s', whileF mc mb (n + 1) (E s) = some (.nx (E s')) ∧ I s' ∧ P s' := by
    intro n
    induction n with
    | zero =>
      intro s hm hs
      rcases h s hs with ⟨h1, h2⟩ | ⟨s', h1, h2, h3, h4⟩
      · exact ⟨s, by simp only [whileF, h2], hs, h1⟩
      · omega
    | succ n ih =>
      intro s hm hs
      rcases h s hs with ⟨h1, h2⟩ | ⟨s', h1, h2, h3, h4⟩
      · exact ⟨s, by rw [whileF, h2], hs, h1⟩
      · obtain ⟨s2, g1, g2, g3⟩ := ih s' (by omega) h3
        refine ⟨s2, ?_, g2, g3⟩
        rw [whileF, h1]
        simp only [h2, g1]
  intro n s hm hs
  obtain ⟨s', h1, h2, h3⟩ := go n s hm hs
  exact ⟨s', mWhile_of h1, h2, h3⟩
/-! data -/
abbrev oi (n : Int) : O := .v (.int n)
@[simp] theorem toDs_map {α : Type} {f : α → O} {g : α → PyData} (h : ∀ x, (f x).toD = some (g x)) : ∀ xs : List α, O.toDs (xs.map f) = some (xs.map g)
  | [] => rfl
  | x :: xs => by simp only [List.map_cons, toDs_cons, h, toDs_map h xs]
@[simp] theorem toDs_vs (ds : List PyData) : O.toDs (ds.map .v) = some ds := by
  rw [toDs_map (g := id) fun _ => rfl, List.map_id]
@[simp] theorem toDs_oi (ns : List Int) : O.toDs (ns.map fun n => O.v (.int n)) = some (ns.map .int) := toDs_map (fun _ => rfl) ns
@[simp] theorem asInts_map : ∀ ns : List Int, asInts (ns.map .int) = some ns
  | [] => rfl
  | n :: ns => by simp only [List.map_cons, asInts, asInts_map ns]
@[simp] theorem asBools_map : ∀ ns : List Bool, asBools (ns.map .bool) = some ns
  | [] => rfl
  | n :: ns => by simp only [List.map_cons, asBools, asBools_map ns]
@[simp] theorem asStrs_map : ∀ ns : List Str, asStrs (ns.map .str) = some ns
  | [] => rfl
  | n :: ns => by simp only [List.map_cons, asStrs, asStrs_map ns]
@[simp] theorem asInts_nil : asInts [] = some [] := id rfl
@[simp] theorem asInts_cons (i : Int) (ds : List PyData) : asInts (.int i :: ds) = (match asInts ds with
    | some ns => some (i :: ns)
    | none => none) := id rfl
@[simp] theorem asBools_nil : asBools [] = some [] := id rfl
@[simp] theorem asBools_cons (i : Bool) (ds : List PyData) : asBools (.bool i :: ds) = (match asBools ds with
    | some ns => some (i :: ns)
    | none => none) := id rfl
@[simp] theorem asStrs_nil : asStrs [] = some [] := id rfl
@[simp] theorem asStrs_cons (i : Str) (ds : List PyData) : asStrs (.str i :: ds) = (match asStrs ds with
    | some ns => some (i :: ns)
    | none => none) := id rfl
@[simp] theorem toDs_mapv {α : Type} (g : α → PyData) (xs : List α) : O.toDs (xs.map fun x => O.v (g x)) = some (xs.map g) := toDs_map (fun _ => rfl) xs
@[simp] theorem asInts_mapf {α : Type} (g : α → Int) (xs : List α) : asInts (xs.map fun x => .int (g x)) = some (xs.map g) := by
  have := asInts_map (xs.map g)
  rw [List.map_map] at this
  exact this
@[simp] theorem asBools_mapf {α : Type} (g : α → Bool) (xs : List α) : asBools (xs.map fun x => .bool (g x)) = some (xs.map g) := by
  have := asBools_map (xs.map g)
  rw [List.map_map] at this
  exact this
@[simp] theorem asStrs_mapf {α : Type} (g : α → Str) (xs : List α) : asStrs (xs.map fun x => .str (g x)) = some (xs.map g) := by
  have := asStrs_map (xs.map g)
  rw [List.map_map] at this
  exact this
@[simp] theorem map_ov {α : Type} (g : α → PyData) (xs : List α) : List.map O.v (xs.map g) = xs.map fun x => O.v (g x) := by rw [List.map_map]; rfl
@[simp] theorem comp_ov {α : Type} (g : α → PyData) : (O.v ∘ g) = fun x => O.v (g x) := id rfl
@[simp] theorem toDs_int (ns : List Int) : O.toDs (ns.map fun n => O.v (.int n)) = some (ns.map .int) := toDs_mapv _ _
theorem zipO_map {α β : Type} (f : α → O) (g : β → O) : ∀ (xs : List α) (ys : List β), zipO (xs.map f) (ys.map g) = (xs.zip ys).map fun p => .t [f p.1, g p.2]
  | [], _ => rfl
  | _ :: _, [] => rfl
  | x :: xs, y :: ys => by simp only [List.map_cons, zipO, List.zip_cons_cons, zipO_map f g xs ys]
theorem enuO_map {α : Type} (f : α → O) : ∀ (n : Nat) (xs : List α), enuO n (xs.map f) = (xs.zipIdx n).map fun p => .t [oi (p.2 : Nat), f p.1]
  | _, [] => rfl
  | n, x :: xs => by simp only [List.map_cons, enuO, List.zipIdx_cons, enuO_map f (n + 1) xs]
@[simp] theorem fI2_ap (g : Int → Int → Option PyData) (i j : Int) : fI2 g [.int i, .int j] = g i j := id rfl
@[simp] theorem fI1_ap (g : Int → Option PyData) (i : Int) : fI1 g [.int i] = g i := id rfl
@[simp] theorem fSub_ap (i j : Int) : fSub [.int i, .int j] = some (.int (i - j)) := id rfl
theorem fMod_ap (i j : Int) : fMod [.int i, .int j] = if shut (decide (0 < j)) = true then some (.int (i % j)) else none := id rfl
@[simp] theorem fLt_ap (i j : Int) : fLt [.int i, .int j] = some (.bool (decide (i < j))) := id rfl
@[simp] theorem fLe_ap (i j : Int) : fLe [.int i, .int j] = some (.bool (decide (i ≤ j))) := id rfl
@[simp] theorem fGt_ap (i j : Int) : fGt [.int i, .int j] = some (.bool (decide (j < i))) := id rfl
@[simp] theorem fGe_ap (i j : Int) : fGe [.int i, .int j] = some (.bool (decide (j ≤ i))) := id rfl
@[simp] theorem fNeg_ap (i : Int) : fNeg [.int i] = some (.int (-i)) := id rfl
@[simp] theorem fAbs_ap (i : Int) : fAbs [.int i] = some (.int (if i < 0 then -i else i)) := id rfl
theorem fDiv_ap (i j : Int) : fDiv [.int i, .int j] = if shut (decide (CDivW i j)) = true then some (.int (i / j)) else none := id rfl
theorem fMul_ap (i j : Int) : fMul [.int i, .int j] = if shut (decide (CMul i j ∨ CMulW i j)) = true then some (.int (i * j)) else none := id rfl
@[simp] theorem fShl_s {i j : Int} (h0 : 0 ≤ j) (h1 : j ≤ 1000000) (h2 : i.natAbs < 18446744073709551616) : fShl [.int i, .int j] = some (.int (i * 2 ^ j.toNat)) := by
  show (if shut (decide (CPow i j)) = true then some (PyData.int (i * 2 ^ j.toNat)) else none) = _
  rw [shut_eq, if_pos (decide_eq_true ⟨h0, h1, h2⟩)]
@[simp] theorem fPow_s {i j : Int} (h0 : 0 ≤ j) (h1 : j ≤ 1000000) (h2 : i.natAbs < 18446744073709551616) : fPow [.int i, .int j] = some (.int (i ^ j.toNat)) := by
  show (if shut (decide (CPow i j)) = true then some (PyData.int (i ^ j.toNat)) else none) = _
  rw [shut_eq, if_pos (decide_eq_true ⟨h0, h1, h2⟩)]
@[simp] theorem fShr_s {i j : Int} (h0 : 0 ≤ j) : fShr [.int i, .int j] = some (.int (i / 2 ^ j.toNat)) := by
  show (if shut (decide (0 ≤ j)) = true then some (PyData.int (i / 2 ^ j.toNat)) else none) = _
  rw [shut_eq, if_pos (decide_eq_true h0)]
@[simp] theorem fMod_s {i j : Int} (h : 0 < j) : fMod [.int i, .int j] = some (.int (i % j)) := by rw [fMod_ap, shut_eq, if_pos (decide_eq_true h)]
@[simp] theorem fDiv_s {i j : Int} (h : 0 < j) (h2 : j < 18446744073709551616) : fDiv [.int i, .int j] = some (.int (i / j)) := by
  rw [fDiv_ap, shut_eq, if_pos]
  refine decide_eq_true ⟨h, Nat.lt_of_lt_of_le ((Nat.log2_lt (by omega)).mpr (show j.natAbs < 2 ^ 64 by omega)) (by decide)⟩
@[simp] theorem fMul_l {i j : Int} (h : -18446744073709551616 < i) (h2 : i < 18446744073709551616) : fMul [.int i, .int j] = some (.int (i * j)) := by
  rw [fMul_ap, shut_eq, if_pos (decide_eq_true (.inl (.inl ⟨h, h2⟩)))]
@[simp] theorem fMul_r {i j : Int} (h : -18446744073709551616 < j) (h2 : j < 18446744073709551616) : fMul [.int i, .int j] = some (.int (i * j)) := by
  rw [fMul_ap, shut_eq, if_pos (decide_eq_true (.inl (.inr ⟨h, h2⟩)))]
@[simp] theorem fMul_ml {a m j : Int} (h : 0 < m) (h2 : m < 18446744073709551616) : fMul [.int (a % m), .int j] = some (.int (a % m * j)) := by
  have h3 := Int.emod_nonneg a (show m ≠ 0 by omega)
  have h4 := Int.emod_lt_of_pos a h
  exact fMul_l (by omega) (by omega)
@[simp] theorem fAll_ap (ds : List PyData) : fAll [.list ds] = (match asBools ds with
    | some ns => some (.bool (ns.all id))
    | _ => none) := id rfl
@[simp] theorem fAny_ap (ds : List PyData) : fAny [.list ds] = (match asBools ds with
    | some ns => some (.bool (ns.any id))
    | _ => none) := id rfl
@[simp] theorem fSum_ap (ds : List PyData) : fSum [.list ds] = (match asInts ds with
    | some ns => some (.int ns.sum)
    | _ => none) := id rfl
@[simp] theorem fLen_l (ds : List PyData) : fLen [.list ds] = some (.int ds.length) := id rfl
@[simp] theorem fLen_t (ds : List PyData) : fLen [.tuple ds] = some (.int ds.length) := id rfl
@[simp] theorem fMax_2 (i j : Int) : fMax [.int i, .int j] = some (.int (if j > i then j else i)) := id rfl
@[simp] theorem fMin_2 (i j : Int) : fMin [.int i, .int j] = some (.int (if j < i then j else i)) := id rfl
@[simp] theorem fMax_l (ds : List PyData) : fMax [.list ds] = (match asInts ds with
    | some (n :: ns) => some (.int (maxL n ns))
    | _ => none) := id rfl
@[simp] theorem fMin_l (ds : List PyData) : fMin [.list ds] = (match asInts ds with
    | some (n :: ns) => some (.int (minL n ns))
    | _ => none) := id rfl
theorem fEq_ap (d e : PyData) : fEq [d, e] = if SeqAt.shaped d && SeqAt.shaped e then some (.bool (PyData.eqv d e)) else none := id rfl
theorem fNe_ap (d e : PyData) : fNe [d, e] = if SeqAt.shaped d && SeqAt.shaped e then some (.bool (!PyData.eqv d e)) else none := id rfl
@[simp] theorem fIsN_ap (d : PyData) : fIsN [d, .none] = some (.bool (isN d)) := id rfl
@[simp] theorem fNotN_ap (d : PyData) : fNotN [d, .none] = some (.bool (!isN d)) := id rfl
@[simp] theorem isN_none : isN .none = true := id rfl
@[simp] theorem isN_int (i : Int) : isN (.int i) = false := id rfl
@[simp] theorem isN_list (ds : List PyData) : isN (.list ds) = false := id rfl
@[simp] theorem isN_tuple (ds : List PyData) : isN (.tuple ds) = false := id rfl
@[simp] theorem isN_str (x : Str) : isN (.str x) = false := id rfl
@[simp] theorem addO_i (i j : Int) : addO [.v (.int i), .v (.int j)] = some (.v (.int (i + j))) := id rfl
@[simp] theorem addO_ll (xs ys : List O) : addO [.l xs, .l ys] = if xs.length + ys.length ≤ sizeLine then some (.l (xs ++ ys)) else none := id rfl
@[simp] theorem addO_vl (xs : List PyData) (ys : List O) : addO [.v (.list xs), .l ys] = if (xs.map O.v).length + ys.length ≤ sizeLine then some (.l (xs.map .v ++ ys)) else none := id rfl
@[simp] theorem addO_lv (xs : List O) (ys : List PyData) : addO [.l xs, .v (.list ys)] = if xs.length + (ys.map O.v).length ≤ sizeLine then some (.l (xs ++ ys.map .v)) else none := id rfl
@[simp] theorem addO_vv (xs ys : List PyData) : addO [.v (.list xs), .v (.list ys)] = if (xs.map O.v).length + (ys.map O.v).length ≤ sizeLine then some (.l (xs.map .v ++ ys.map .v)) else none := id rfl
@[simp] theorem addO_s (a b : Str) : addO [.v (.str a), .v (.str b)] = if a.length + b.length ≤ sizeLine then some (.v (.str (a ++ b))) else none := id rfl
@[simp] theorem lstO_ap (xs : List O) : lstO xs = if xs.length ≤ sizeLine then some (.l xs) else none := id rfl
@[simp] theorem tupO_ap (xs : List O) : tupO xs = if xs.length ≤ sizeLine then (match O.allV xs with
  | some ds => some (.v (.tuple ds))
  | none => some (.t xs)) else none := id rfl
@[simp] theorem allV_nil : O.allV [] = some [] := id rfl
@[simp] theorem allV_v (d : PyData) (xs : List O) : O.allV (.v d :: xs) = (match O.allV xs with
    | some ds => some (d :: ds)
    | none => none) := id rfl
@[simp] theorem allV_l (l xs : List O) : O.allV (.l l :: xs) = none := id rfl
@[simp] theorem allV_t (l xs : List O) : O.allV (.t l :: xs) = none := id rfl
@[simp] theorem allV_map {α : Type} (g : α → PyData) : ∀ xs : List α, O.allV (xs.map fun x => .v (g x)) = some (xs.map g)
  | [] => rfl
  | x :: xs => by rw [List.map_cons, allV_v, allV_map g xs]; rfl
@[simp] theorem listO_l (xs : List O) : listO [.l xs] = if xs.length ≤ sizeLine then some (.l xs) else none := id rfl
@[simp] theorem listO_v (ds : List PyData) : listO [.v (.list ds)] = if (ds.map O.v).length ≤ sizeLine then some (.l (ds.map .v)) else none := id rfl
@[simp] theorem listO_tv (ds : List PyData) : listO [.v (.tuple ds)] = if (ds.map O.v).length ≤ sizeLine then some (.l (ds.map .v)) else none := id rfl
@[simp] theorem tupleO_l (xs : List O) : tupleO [.l xs] = tupO xs := id rfl
@[simp] theorem tupleO_v (ds : List PyData) : tupleO [.v (.list ds)] = tupO (ds.map .v) := id rfl
@[simp] theorem uApp_ap (xs : List O) (y : O) : uApp xs [y] = if xs.length < sizeLine then some (xs ++ [y], .v .none) else none := id rfl
@[simp] theorem uExt_l (xs ys : List O) : uExt xs [.l ys] = if xs.length + ys.length ≤ sizeLine then some (xs ++ ys, .v .none) else none := id rfl
@[simp] theorem uExt_v (xs : List O) (ys : List PyData) : uExt xs [.v (.list ys)] = if xs.length + (ys.map O.v).length ≤ sizeLine then some (xs ++ ys.map .v, .v .none) else none := id rfl
@[simp] theorem uPop0_ap (x : O) (xs : List O) : uPop0 (x :: xs) [.v (.int 0)] = some (xs, x) := id rfl
@[simp] theorem ixO_vl (ds : List PyData) (i : Int) : ixO [.v (.list ds), .v (.int i)] = atI ds i := id rfl
@[simp] theorem ixO_vt (ds : List PyData) (i : Int) : ixO [.v (.tuple ds), .v (.int i)] = atI ds i := id rfl
@[simp] theorem ixO_l (os : List O) (i : Int) : ixO [.l os, .v (.int i)] = (match atI os i with
    | some (.v d) => some d
    | _ => none) := id rfl
@[simp] theorem ixO_t (os : List O) (i : Int) : ixO [.t os, .v (.int i)] = (match atI os i with
    | some (.v d) => some d
    | _ => none) := id rfl
theorem line_big : (1000000 : Nat) ≤ sizeLine := by decide
@[simp] theorem sizeLine_eq : sizeLine = 16777216 := by decide
end Dn

set_option Elab.async false
set_option linter.all false
set_option maxRecDepth 100000
set_option maxHeartbeats 4000000
namespace Dn
open PySem L2
/-! shapes and equality of data -/
@[simp] theorem shaped_eq (d : PyData) : SeqAt.shaped d = (d.canLay0 && decide (d.depth ≤ 64)) := id rfl
@[simp] theorem canLay_none : PyData.canLay0 .none = true := id rfl
@[simp] theorem canLay_bool (b : Bool) : PyData.canLay0 (.bool b) = true := id rfl
@[simp] theorem canLay_int (i : Int) : PyData.canLay0 (.int i) = true := id rfl
@[simp] theorem canLay_str (x : Str) : PyData.canLay0 (.str x) = PyData.strOk x := id rfl
@[simp] theorem canLay_list (ds : List PyData) : PyData.canLay0 (.list ds) = ds.all PyData.canLay0 := by
  show PyData.canLayAll0 ds = _
  induction ds with
  | nil => rfl
  | cons d ds ih => show (d.canLay0 && PyData.canLayAll0 ds) = _; rw [ih]; rfl
@[simp] theorem canLay_tuple (ds : List PyData) : PyData.canLay0 (.tuple ds) = ds.all PyData.canLay0 := canLay_list ds
@[simp] theorem depth_none : PyData.depth .none = 0 := id rfl
@[simp] theorem depth_bool (b : Bool) : PyData.depth (.bool b) = 0 := id rfl
@[simp] theorem depth_int (i : Int) : PyData.depth (.int i) = 0 := id rfl
@[simp] theorem depth_str (x : Str) : PyData.depth (.str x) = 0 := id rfl
@[simp] theorem depthAll_le (n : Nat) : ∀ ds : List PyData, PyData.depthAll ds ≤ n ↔ ∀ d ∈ ds, d.depth ≤ n
  | [] => by simp [PyData.depthAll]
  | d :: ds => by
    have ih := depthAll_le n ds
    show max (PyData.depth d) (PyData.depthAll ds) ≤ n ↔ _
    simp only [List.mem_cons, forall_eq_or_imp, ← ih]
    omega
@[simp] theorem depth_list (n : Nat) (ds : List PyData) : PyData.depth (.list ds) ≤ n + 1 ↔ ∀ d ∈ ds, d.depth ≤ n := by
  show PyData.depthAll ds + 1 ≤ n + 1 ↔ _
  rw [← depthAll_le]; omega
@[simp] theorem depth_tuple (n : Nat) (ds : List PyData) : PyData.depth (.tuple ds) ≤ n + 1 ↔ ∀ d ∈ ds, d.depth ≤ n := depth_list n ds
/-- no truths, no dicts, texts of the kind: here == is = -/
def nb : PyData → Nat → Bool
  | .none, _ => true
  | .int _, _ => true
  | .str x, _ => PyData.strOk x
  | .list ds, n + 1 => ds.attach.all fun d => nb d.1 n
  | .tuple ds, n + 1 => ds.attach.all fun d => nb d.1 n
  | _, _ => false
@[simp] theorem nb_none (n : Nat) : nb .none n = true := by unfold nb; rfl
@[simp] theorem nb_int (i : Int) (n : Nat) : nb (.int i) n = true := by unfold nb; rfl
@[simp] theorem nb_str (x : Str) (n : Nat) : nb (.str x) n = PyData.strOk x := by unfold nb; rfl
@[simp] theorem nb_list (ds : List PyData) (n : Nat) : nb (.list ds) (n + 1) = ds.all fun d => nb d n := by
  rw [nb]
  simp [List.all_eq, List.attach]
@[simp] theorem nb_tuple (ds : List PyData) (n : Nat) : nb (.tuple ds) (n + 1) = ds.all fun d => nb d n := by
  rw [nb]
  simp [List.all_eq, List.attach]
theorem nb_shape : ∀ (n : Nat) (d : PyData), nb d n = true → d.canLay0 = true ∧ d.depth ≤ n
  | n, .none, _ => ⟨rfl, Nat.zero_le _⟩
  | n, .int i, _ => ⟨rfl, Nat.zero_le _⟩
  | n, .str x, h => ⟨by simpa using h, Nat.zero_le _⟩
  | 0, .list ds, h => by simp [nb] at h
  | 0, .tuple ds, h => by simp [nb] at h
  | n + 1, .list ds, h => by
    rw [nb_list, List.all_eq_true] at h
    refine ⟨?_, (depth_list n ds).mpr fun d hd => (nb_shape n d (h d hd)).2⟩
    rw [canLay_list, List.all_eq_true]
    exact fun d hd => (nb_shape n d (h d hd)).1
  | n + 1, .tuple ds, h => by
    rw [nb_tuple, List.all_eq_true] at h
    refine ⟨?_, (depth_tuple n ds).mpr fun d hd => (nb_shape n d (h d hd)).2⟩
    rw [canLay_tuple, List.all_eq_true]
    exact fun d hd => (nb_shape n d (h d hd)).1
  | n, .bool b, h => by cases n <;> simp [nb] at h
  | n, .dict _, h => by cases n <;> simp [nb] at h
theorem eqvAll_iff {n : Nat} (ih : ∀ d e : PyData, nb d n = true → nb e n = true → (PyData.eqv d e = true ↔ d = e)) : ∀ ds es : List PyData, (∀ d ∈ ds, nb d n = true) → (∀ d ∈ es, nb d n = true) → (PyData.eqvAll ds es = true ↔ ds = es)
  | [], [], _, _ => by simp [PyData.eqvAll]
  | [], _ :: _, _, _ => by simp [PyData.eqvAll]
  | _ :: _, [], _, _ => by simp [PyData.eqvAll]
  | d :: ds, e :: es, h1, h2 => by
    have i1 := ih d e (h1 d (List.mem_cons_self ..)) (h2 e (List.mem_cons_self ..))
    have i2 := eqvAll_iff ih ds es (fun x hx => h1 x (List.mem_cons_of_mem _ hx)) (fun x hx => h2 x (List.mem_cons_of_mem _ hx))
    simp only [PyData.eqvAll, Bool.and_eq_true, i1, i2, List.cons.injEq]
theorem eqv_iff : ∀ (n : Nat) (d e : PyData), nb d n = true → nb e n = true → (PyData.eqv d e = true ↔ d = e)
  | n, .none, e, _, h2 => by cases e <;> simp [PyData.eqv]
  | n, .int i, e, _, h2 => by cases e <;> simp [PyData.eqv]; simp [nb] at h2
  | n, .str x, e, _, h2 => by cases e <;> simp [PyData.eqv]
  | 0, .list ds, e, h, _ => by simp [nb] at h
  | 0, .tuple ds, e, h, _ => by simp [nb] at h
  | n + 1, .list ds, e, h1, h2 => by
    cases e with
    | list es =>
      rw [nb_list, List.all_eq_true] at h1 h2
      have := eqvAll_iff (eqv_iff n) ds es h1 h2
      simp only [PyData.eqv, this, PyData.list.injEq]
    | _ => simp [PyData.eqv]
  | n + 1, .tuple ds, e, h1, h2 => by
    cases e with
    | tuple es =>
      rw [nb_tuple, List.all_eq_true] at h1 h2
      have := eqvAll_iff (eqv_iff n) ds es h1 h2
      simp only [PyData.eqv, this, PyData.tuple.injEq]
    | _ => simp [PyData.eqv]
  | n, .bool b, _, h, _ => by cases n <;> simp [nb] at h
  | n, .dict _, _, h, _ => by cases n <;> simp [nb] at h
/-- == and != of plain data -/
theorem fEq_nb {d e : PyData} (n : Nat) (hn : n ≤ 64) (h1 : nb d n = true) (h2 : nb e n = true) [Decidable (d = e)] : fEq [d, e] = some (.bool (decide (d = e))) := by
  obtain ⟨a1, a2⟩ := nb_shape n d h1
  obtain ⟨b1, b2⟩ := nb_shape n e h2
  have : PyData.eqv d e = decide (d = e) := by
    rw [Bool.eq_iff_iff, eqv_iff n d e h1 h2, decide_eq_true_eq]
  simp [fEq_ap, fNe_ap, a1, b1, this, Nat.le_trans a2 hn, Nat.le_trans b2 hn]
theorem fNe_nb {d e : PyData} (n : Nat) (hn : n ≤ 64) (h1 : nb d n = true) (h2 : nb e n = true) [Decidable (d = e)] : fNe [d, e] = some (.bool (!decide (d = e))) := by
  obtain ⟨a1, a2⟩ := nb_shape n d h1
  obtain ⟨b1, b2⟩ := nb_shape n e h2
  have : PyData.eqv d e = decide (d = e) := by
    rw [Bool.eq_iff_iff, eqv_iff n d e h1 h2, decide_eq_true_eq]
  simp [fEq_ap, fNe_ap, a1, b1, this, Nat.le_trans a2 hn, Nat.le_trans b2 hn]
theorem fNe_same {d : PyData} (n : Nat) (hn : n ≤ 64) (h1 : nb d n = true) : fNe [d, d] = some (.bool false) := by
  obtain ⟨a1, a2⟩ := nb_shape n d h1
  have : PyData.eqv d d = true := (eqv_iff n d d h1 h1).mpr rfl
  simp [fEq_ap, fNe_ap, a1, this, Nat.le_trans a2 hn]
theorem fEq_same {d : PyData} (n : Nat) (hn : n ≤ 64) (h1 : nb d n = true) : fEq [d, d] = some (.bool true) := by
  obtain ⟨a1, a2⟩ := nb_shape n d h1
  have : PyData.eqv d d = true := (eqv_iff n d d h1 h1).mpr rfl
  simp [fEq_ap, fNe_ap, a1, this, Nat.le_trans a2 hn]
theorem map_int_inj (a b : List Int) : a.map PyData.int = b.map PyData.int ↔ a = b :=
  ⟨fun h => by
    have := congrArg asInts h
    simpa using this, fun h => by rw [h]⟩
@[simp] theorem fEq_ints (a b : List Int) : fEq [.list (a.map .int), .list (b.map .int)] = some (.bool (decide (a = b))) := by
  have : Decidable (PyData.list (a.map .int) = .list (b.map .int)) := decidable_of_iff (a = b) (by simp [map_int_inj])
  rw [fEq_nb 1 (by decide) (by simp) (by simp)]
  simp [map_int_inj]
@[simp] theorem fNe_ints (a b : List Int) : fNe [.list (a.map .int), .list (b.map .int)] = some (.bool (!decide (a = b))) := by
  have : Decidable (PyData.list (a.map .int) = .list (b.map .int)) := decidable_of_iff (a = b) (by simp [map_int_inj])
  rw [fNe_nb 1 (by decide) (by simp) (by simp)]
  simp [map_int_inj]
@[simp] theorem fEq_nil (a : List Int) : fEq [.list (a.map .int), .list []] = some (.bool (decide (a = []))) := fEq_ints a []
@[simp] theorem fNe_nil (a : List Int) : fNe [.list (a.map .int), .list []] = some (.bool (!decide (a = []))) := fNe_ints a []
@[simp] theorem fEq_i (i j : Int) : fEq [.int i, .int j] = some (.bool (decide (i = j))) := by simp [fEq_ap, PyData.eqv]; rfl
@[simp] theorem fNe_i (i j : Int) : fNe [.int i, .int j] = some (.bool (!decide (i = j))) := by simp [fNe_ap, PyData.eqv]; rfl
@[simp] theorem fEq_b (i j : Bool) : fEq [.bool i, .bool j] = some (.bool (i == j)) := by simp [fEq_ap, PyData.eqv]
@[simp] theorem fNe_b (i j : Bool) : fNe [.bool i, .bool j] = some (.bool (!(i == j))) := by simp [fNe_ap, PyData.eqv]
/-! items -/
@[simp] theorem atI_map {α β : Type} (f : α → β) (xs : List α) (i : Int) : atI (xs.map f) i = (atI xs i).map f := by
  unfold atI
  rw [List.length_map]
  cases ixN xs.length i with
  | none => rfl
  | some j => simp
theorem atI_nat {α : Type} {xs : List α} {i : Int} {j : Nat} {x : α} (h0 : i = (j : Int)) (h : xs[j]? = some x) : atI xs i = some x := by
  subst h0
  have hj := (List.getElem?_eq_some_iff.mp h).1
  unfold atI ixN
  rw [if_pos (Int.natCast_nonneg j), if_pos (by omega)]
  simpa using h
theorem atI_in {α : Type} (xs : List α) {i : Int} (h0 : 0 ≤ i) (h1 : i < xs.length) : ∃ x, atI xs i = some x ∧ xs[i.toNat]? = some x := by
  have hj : i.toNat < xs.length := by omega
  refine ⟨xs[i.toNat], ?_, List.getElem?_eq_getElem hj⟩
  exact atI_nat (j := i.toNat) (by omega) (List.getElem?_eq_getElem hj)
theorem ixN_in {n : Nat} {i : Int} (h0 : 0 ≤ i) (h1 : i < n) : ixN n i = some i.toNat := by
  unfold ixN
  rw [if_pos h0, if_pos h1]
@[simp] theorem atI_0 {α : Type} (x : α) (xs : List α) : atI (x :: xs) 0 = some x := atI_nat (j := 0) rfl rfl
@[simp] theorem atI_1 {α : Type} (x y : α) (xs : List α) : atI (x :: y :: xs) 1 = some y := atI_nat (j := 1) rfl rfl
@[simp] theorem atI_2 {α : Type} (x y z : α) (xs : List α) : atI (x :: y :: z :: xs) 2 = some z := atI_nat (j := 2) rfl rfl
@[simp] theorem atI_3 {α : Type} (x y z u : α) (xs : List α) : atI (x :: y :: z :: u :: xs) 3 = some u := atI_nat (j := 3) rfl rfl
theorem rng_map (lo : Int) (n : Nat) : rngO lo n = (List.range n).map fun (k : Nat) => O.v (.int (lo + (k : Int))) := id rfl
@[simp] theorem rng0 (n : Nat) : rngO 0 n = (List.range n).map fun (k : Nat) => O.v (.int (k : Int)) := by
  rw [rng_map]
  simp
@[simp] theorem rngO_len (lo : Int) (n : Nat) : (rngO lo n).length = n := by simp [rng_map]
theorem forL_cong {tg : Tg} {b : MS} {os os' : List O} {e e' : En} (h1 : os = os') (h2 : e = e') : forL tg b os e = forL tg b os' e' := by rw [h1, h2]
theorem set_oi (xs : List Int) (j : Nat) (y : Int) : (xs.map oi).set j (oi y) = (xs.set j y).map oi := by simp [List.map_set]
theorem mul_s {i j : Int} (h : -(2 ^ 64) < j ∧ j < 2 ^ 64) : CMul i j ∨ CMulW i j := .inl (.inr h)
theorem mul_s' {i j : Int} (h : -(2 ^ 64) < i ∧ i < 2 ^ 64) : CMul i j ∨ CMulW i j := .inl (.inl h)
@[simp] theorem toDs_append : ∀ xs ys : List O, O.toDs (xs ++ ys) = (match O.toDs xs, O.toDs ys with
    | some a, some b => some (a ++ b)
    | _, _ => none)
  | [], ys => by
    rw [List.nil_append, toDs_nil]
    cases O.toDs ys <;> rfl
  | x :: xs, ys => by
    rw [List.cons_append, toDs_cons, toDs_cons, toDs_append xs ys]
    cases O.toD x <;> cases O.toDs xs <;> cases O.toDs ys <;> rfl
@[simp] theorem allV_append : ∀ xs ys : List O, O.allV (xs ++ ys) = (match O.allV xs, O.allV ys with
    | some a, some b => some (a ++ b)
    | _, _ => none)
  | [], ys => by
    rw [List.nil_append, allV_nil]
    cases O.allV ys <;> rfl
  | x :: xs, ys => by
    rw [List.cons_append]
    cases x with
    | v d =>
      rw [allV_v, allV_v, allV_append xs ys]
      cases O.allV xs <;> cases O.allV ys <;> rfl
    | _ => rfl
theorem atI_getD {α : Type} (xs : List α) (d : α) {k : Nat} (h : k < xs.length) : atI xs (k : Int) = some (xs.getD k d) :=
  atI_nat rfl (by rw [List.getD_eq_getElem?_getD, List.getElem?_eq_getElem h]; rfl)
theorem range_zip {α β γ : Type} (f : α → β → γ) (w : List α) (c : List β) (x : α) (y : β) {n : Nat} (hw : w.length = n) (hc : c.length = n) : (List.range n).map (fun k => f (w.getD k x) (c.getD k y)) = (w.zip c).map fun p => f p.1 p.2 := by
  apply List.ext_getElem
  · simp [hw, hc]
  · intro i h1 h2
    simp at h1
    simp [List.getD_eq_getElem?_getD, hw, hc, h1]
theorem range_get {α γ : Type} (f : α → γ) (w : List α) (x : α) {n : Nat} (hw : w.length = n) : (List.range n).map (fun k => f (w.getD k x)) = w.map f := by
  apply List.ext_getElem
  · simp [hw]
  · intro i h1 h2
    simp at h1
    simp [List.getD_eq_getElem?_getD, hw, h1]
/-- comprehensions over one name, whatever the slots -/
theorem set_no {e : En} {i : Nat} {x : Sl} (hi : e[i]? = some .no) : (e.set i x).set i .no = e := by
  rw [List.set_set, set_self hi]
theorem set_get {e : En} {i : Nat} {x s : Sl} (hi : e[i]? = some s) : (e.set i x)[i]? = some x := List.getElem?_set_self (List.getElem?_eq_some_iff.mp hi).1
theorem lc_map1 {α : Type} {i : Nat} {me : MD O} {enc f : α → O} {e : En} (hi : e[i]? = some .no) (xs : List α) (h : ∀ x ∈ xs, ∀ e' : En, e'[i]? = some (.own (enc x)) → (∀ j, ¬ j = i → e'[j]? = e[j]?) → me e' = some (f x, e')) : lcL (.n i) mYes me [i] (xs.map enc) e = some (xs.map f, e) := by
  refine lc_map xs fun x hx => ⟨e.set i (.own (enc x)), _, _, ?_, rfl, h x hx _ (set_get hi) (fun j hj => List.getElem?_set_ne fun z => hj z.symm), ?_⟩
  · simp [hi]
  · exact set_no hi
theorem lc_filter1 {α : Type} {i : Nat} {mt : MD Bool} {me : MD O} {enc f : α → O} {p : α → Bool} {e : En} (hi : e[i]? = some .no) (xs : List α) (h : ∀ x ∈ xs, ∀ e' : En, e'[i]? = some (.own (enc x)) → (∀ j, ¬ j = i → e'[j]? = e[j]?) → mt e' = some (p x, e') ∧ (p x = true → me e' = some (f x, e'))) : lcL (.n i) mt me [i] (xs.map enc) e = some ((xs.filter p).map f, e) := by
  refine lc_filter xs fun x hx => ?_
  obtain ⟨h1, h2⟩ := h x hx (e.set i (.own (enc x))) (set_get hi) (fun j hj => List.getElem?_set_ne fun z => hj z.symm)
  refine ⟨e.set i (.own (enc x)), e.set i (.own (enc x)), e.set i (.own (enc x)), ?_, h1, fun hp => ⟨h2 hp, set_no hi⟩, fun _ => set_no hi⟩
  simp [hi]
def reps (n : Nat) (x : Int) : List Int := List.replicate n x
theorem reps_eq {α : Type} (w : List α) (x : Int) : (w.map fun _ => x) = reps w.length x := by
  unfold reps
  induction w with
  | nil => rfl
  | cons a w ih => rw [List.map_cons, ih]; rfl
@[simp] theorem reps_len (n : Nat) (x : Int) : (reps n x).length = n := by simp [reps]
@[simp] theorem rep_oi {x n : Int} (h0 : 0 ≤ n) (h : n < 1000) : repO [.l [.v (.int x)], .v (.int n)] = some (.l ((reps n.toNat x).map oi)) := by
  have e : (List.replicate n.toNat [PyData.int x]).flatten.map O.v = (reps n.toNat x).map oi := by
    unfold reps
    induction n.toNat with
    | zero => rfl
    | succ k ih => rw [List.replicate_succ, List.flatten_cons, List.map_append, ih]; rfl
  rw [repO_eq]
  show (if -(2 ^ 63) ≤ n ∧ n < 2 ^ 63 ∧ 1 * n.toNat ≤ sizeLine then some (O.l ((List.replicate n.toNat [PyData.int x]).flatten.map .v)) else none) = _
  rw [e, if_pos ⟨by omega, by omega, by rw [sizeLine_eq]; omega⟩]
theorem ixN_nat {n k : Nat} (h : k < n) : ixN n (k : Int) = some k := by
  rw [ixN_in (by omega) (by omega)]; simp
theorem atL_l {xs : List O} {k : Nat} {x : O} {ks : List Int} (h : xs[k]? = some x) : atL (.l xs) ((k : Int) :: ks) = atL x ks := by
  have hk := (List.getElem?_eq_some_iff.mp h).1
  show (match ixN xs.length (k : Int) with | some j => (match xs[j]? with | some x => atL x ks | none => none) | none => none) = _
  rw [ixN_nat hk]
  simp only [h]
theorem atK_l {xs : List O} {k : Nat} {x : O} {ks : List Int} (h : xs[k]? = some x) : atK (.l xs) ((k : Int) :: ks) = atK x ks := by
  have hk := (List.getElem?_eq_some_iff.mp h).1
  show (match ixN xs.length (k : Int) with | some j => (match xs[j]? with | some x => atK x ks | none => none) | none => none) = _
  rw [ixN_nat hk]
  simp only [h]
theorem atL_t {xs : List O} {k : Nat} {x : O} {ks : List Int} (h : xs[k]? = some x) : atL (.t xs) ((k : Int) :: ks) = atL x ks := atL_l h
theorem atK_t {xs : List O} {k : Nat} {x : O} {ks : List Int} (h : xs[k]? = some x) : atK (.t xs) ((k : Int) :: ks) = atK x ks := atK_l h
theorem setK_l {xs ys : List O} {k : Nat} {x x' : O} {ks : List Int} (h : xs[k]? = some x) (h2 : setK x ks ys = some x') : setK (.l xs) ((k : Int) :: ks) ys = some (.l (xs.set k x')) := by
  have hk := (List.getElem?_eq_some_iff.mp h).1
  rw [setK]
  simp only [O.kids, ixN_nat hk, h, h2, O.withKids]
theorem setK_t {xs ys : List O} {k : Nat} {x x' : O} {ks : List Int} (h : xs[k]? = some x) (h2 : setK x ks ys = some x') : setK (.t xs) ((k : Int) :: ks) ys = some (.t (xs.set k x')) := by
  have hk := (List.getElem?_eq_some_iff.mp h).1
  rw [setK]
  simp only [O.kids, ixN_nat hk, h, h2, O.withKids]
@[simp] theorem setK_nil (xs ys : List O) : setK (.l xs) [] ys = some (.l ys) := id rfl
/-- a list of which the first k are changed -/
def mid2 {α β : Type} (f g : α → β) (xs : List α) (k : Nat) : List β := (xs.take k).map f ++ (xs.drop k).map g
theorem mid2_get {α β : Type} (f g : α → β) {xs : List α} {k : Nat} {x : α} (h : xs[k]? = some x) : (mid2 f g xs k)[k]? = some (g x) := by
  have hk := (List.getElem?_eq_some_iff.mp h).1
  unfold mid2
  rw [List.getElem?_append_right (by simp; omega)]
  simp only [List.length_map, List.length_take, Nat.min_eq_left (Nat.le_of_lt hk), Nat.sub_self, List.getElem?_map, List.getElem?_drop, Nat.add_zero, h]
  rfl
theorem mid2_set {α β : Type} (f g : α → β) {xs : List α} {k : Nat} {x : α} (h : xs[k]? = some x) : (mid2 f g xs k).set k (f x) = mid2 f g xs (k + 1) := by
  have hk := (List.getElem?_eq_some_iff.mp h).1
  have hx := (List.getElem?_eq_some_iff.mp h).2
  unfold mid2
  rw [List.set_append_right _ _ (by simp; omega), List.take_succ_eq_append_getElem hk, List.drop_eq_getElem_cons hk]
  simp only [List.length_map, List.length_take, Nat.min_eq_left (Nat.le_of_lt hk), Nat.sub_self, List.map_cons, List.set_cons_zero, List.map_append, List.map_nil, List.append_assoc, hx]
  rfl
@[simp] theorem mid2_0 {α β : Type} (f g : α → β) (xs : List α) : mid2 f g xs 0 = xs.map g := by simp [mid2]
@[simp] theorem mid2_all {α β : Type} (f g : α → β) (xs : List α) : mid2 f g xs xs.length = xs.map f := by simp [mid2]
@[simp] theorem mid2_len {α β : Type} (f g : α → β) (xs : List α) (k : Nat) : (mid2 f g xs k).length = xs.length := by simp [mid2]; omega
end Dn

set_option Elab.async false
set_option linter.all false
set_option maxRecDepth 100000
set_option maxHeartbeats 4000000
namespace Dn
open PySem L2
section
variable {m a b : MD O} {ms : MD (List O)} {c c' : MD Bool} {t u : MS} {e : En} {i : Nat} {f : List PyData → Option PyData}
@[simp] theorem mDnT_ap : mDnT e = some (.dt [], e) := id rfl
@[simp] theorem mDnK_ap : mDnK e = some (.dk [], e) := id rfl
@[simp] theorem mDget_ap {mk : MD O} : mDget i mk e = (match (e[i]?).bind Sl.o? with
  | some _ => (match mk e with
    | some (.v d, e1) => (match (e1[i]?).bind Sl.o? with
      | some x => (match dgetO x d with
        | some (some z) => some (.v z, e1)
        | _ => none)
      | none => none)
    | _ => none)
  | none => none) := id rfl
@[simp] theorem mDput_ap {mv mk : MD O} : mDput i mv mk e = (match mv e with
  | some (.v d, e1) => (match (e1[i]?).bind Sl.o? with
    | some _ => (match mk e1 with
      | some (.v yd, e2) => (match e2[i]? with
        | some (.own x) => (match dputO x yd d with
          | some x' => some (.nx (e2.set i (.own x')))
          | none => none)
        | some (.pin x) => (match dputO x yd d with
          | some x' => some (.nx (e2.set i (.pin x')))
          | none => none)
        | _ => none)
      | _ => none)
    | none => none)
  | _ => none) := id rfl
@[simp] theorem mDgetE_ap {mk : MD O} : mDgetE m mk e = (match m e with
  | some (x, e1) => (match mk e1 with
    | some (.v d, e2) => (match dgetO x d with
      | some (some z) => some (.v z, e2)
      | _ => none)
    | _ => none)
  | none => none) := id rfl
@[simp] theorem mPeek_ap {vs : List Nat} : mPeek vs m e = (match m (pkIn e vs) with
  | some (x, _) => if x.free then some (x, e) else none
  | none => none) := id rfl
@[simp] theorem mPeekT_ap {vs : List Nat} : mPeekT vs c e = (match c (pkIn e vs) with
  | some (x, _) => some (x, e)
  | none => none) := id rfl
@[simp] theorem mTupS_ap : mTupS i e = (match (e[i]?).bind Sl.o? with
  | some x => (match x.toD with
    | some (.list ds) => if ds.all scal then some (.v (.tuple ds), e) else none
    | _ => none)
  | none => none) := id rfl
@[simp] theorem mForS_ap {tg : Tg} : mForS i tg t e = (match e[i]? with
  | some s => (match s.o? with
    | some (.l xs) => (match forS i tg t xs.length 0 (e.set i (pinS s)) with
      | some (.nx e2) => (match unpin e e2 i with
        | some e3 => some (.nx e3)
        | none => none)
      | some (.rt y e2) => (match unpin e e2 i with
        | some e3 => some (.rt y e3)
        | none => none)
      | _ => none)
    | _ => none)
  | none => none) := id rfl
end
@[simp] theorem pinS_own (o : O) : pinS (.own o) = .pin o := id rfl
@[simp] theorem pinS_pin (o : O) : pinS (.pin o) = .pin o := id rfl
@[simp] theorem pinsLike_nil (e0 : En) : pinsLike e0 [] = true := by cases e0 <;> rfl
@[simp] theorem pinsLike_no (s0 : Sl) (e0 e : En) : pinsLike (s0 :: e0) (.no :: e) = pinsLike e0 e := by cases s0 <;> simp [pinsLike]
@[simp] theorem pinsLike_own (s0 : Sl) (o : O) (e0 e : En) : pinsLike (s0 :: e0) (.own o :: e) = pinsLike e0 e := by cases s0 <;> simp [pinsLike]
@[simp] theorem pinsLike_pin (o o' : O) (e0 e : En) : pinsLike (.pin o' :: e0) (.pin o :: e) = pinsLike e0 e := by simp [pinsLike]
theorem unpin_ap (e0 e : En) (i : Nat) : unpin e0 e i = (match e0[i]?, e[i]? with
  | some (.own _), some (.pin o) => if pinsLike e0 (e.set i (.own o)) then some (e.set i (.own o)) else none
  | some (.pin _), some (.pin _) => if pinsLike e0 e then some e else none
  | _, _ => none) := id rfl
theorem pkIn_eq (e : En) (vs : List Nat) : pkIn e vs = onlyFz (frz (e.map fun s => match s with | .pin o => .own o | s => s) vs) := id rfl
@[simp] theorem onlyFz_nil : onlyFz [] = [] := id rfl
@[simp] theorem onlyFz_v (d : PyData) (e : En) : onlyFz (.own (.v d) :: e) = .own (.v d) :: onlyFz e := id rfl
@[simp] theorem onlyFz_s (d : List Int) (e : En) : onlyFz (.own (.s d) :: e) = .own (.s d) :: onlyFz e := id rfl
@[simp] theorem onlyFz_no (e : En) : onlyFz (.no :: e) = .no :: onlyFz e := id rfl
@[simp] theorem onlyFz_l (xs : List O) (e : En) : onlyFz (.own (.l xs) :: e) = .no :: onlyFz e := id rfl
@[simp] theorem onlyFz_t (xs : List O) (e : En) : onlyFz (.own (.t xs) :: e) = .no :: onlyFz e := id rfl
@[simp] theorem onlyFz_dt (xs : List (List Key × PyData)) (e : En) : onlyFz (.own (.dt xs) :: e) = .no :: onlyFz e := id rfl
@[simp] theorem onlyFz_dk (xs : List (Key × PyData)) (e : En) : onlyFz (.own (.dk xs) :: e) = .no :: onlyFz e := id rfl
@[simp] theorem free_v (d : PyData) : O.free (.v d) = scal d := by unfold O.free; rfl
@[simp] theorem free_l (xs : List O) : O.free (.l xs) = xs.all O.free := by
  unfold O.free
  induction xs with
  | nil => unfold O.freeAll; rfl
  | cons x xs ih => unfold O.freeAll; rw [ih, List.all_cons]
@[simp] theorem free_t (xs : List O) : O.free (.t xs) = xs.all O.free := by
  have := free_l xs
  unfold O.free at this ⊢
  exact this
@[simp] theorem free_dt (kvs : List (List Key × PyData)) : O.free (.dt kvs) = kvs.all fun kv => scal kv.2 := by unfold O.free; rfl
@[simp] theorem free_dk (kvs : List (Key × PyData)) : O.free (.dk kvs) = kvs.all fun kv => scal kv.2 := by unfold O.free; rfl
@[simp] theorem scal_int (i : Int) : scal (.int i) = true := id rfl
@[simp] theorem scal_none : scal .none = true := id rfl
@[simp] theorem scal_bool (b : Bool) : scal (.bool b) = true := id rfl
@[simp] theorem scal_str (x : Str) : scal (.str x) = true := id rfl
/-! keys -/
theorem keysD_ints : ∀ ns : List Int, keysD (ns.map .int) = some (ns.map Sum.inl)
  | [] => rfl
  | n :: ns => by
    show (match keyD (.int n), keysD (ns.map .int) with | some k, some ks => some (k :: ks) | _, _ => none) = _
    rw [keysD_ints ns]; rfl
def keyI (ns : List Int) : List Key := ns.map Sum.inl
theorem keyI_inj {a b : List Int} (h : keyI a = keyI b) : a = b := by
  unfold keyI at h
  exact (List.map_inj_right (f := (Sum.inl : Int → Key)) fun x y h => by cases h; rfl).mp h
@[simp] theorem dgetO_t (kvs : List (List Key × PyData)) (ns : List Int) : dgetO (.dt kvs) (.tuple (ns.map .int)) = some (dval kvs (keyI ns)) := by
  show (match keysD (ns.map .int) with | some k => some (dval kvs k) | none => none) = _
  rw [keysD_ints]; rfl
@[simp] theorem dputO_t (kvs : List (List Key × PyData)) (ns : List Int) (d : PyData) : dputO (.dt kvs) (.tuple (ns.map .int)) d = if kvs.length < sizeLine then some (.dt (dput kvs (keyI ns) d)) else none := by
  show (match keysD (ns.map .int) with | some k => if kvs.length < sizeLine then some (O.dt (dput kvs k d)) else none | none => none) = _
  rw [keysD_ints]; rfl
/-- a table of rows -/
def tabD {α : Type} (enc : α → PyData) (t : List (List Int × α)) : List (List Key × PyData) := t.map fun p => (keyI p.1, enc p.2)
def tabGet {α : Type} (t : List (List Int × α)) (k : List Int) : Option α := (t.find? fun p => decide (p.1 = k)).map (·.2)
theorem dval_tab {α : Type} (enc : α → PyData) (k : List Int) : ∀ t : List (List Int × α), dval (tabD enc t) (keyI k) = (tabGet t k).map enc
  | [] => rfl
  | (a, v) :: t => by
    unfold dval tabGet
    rw [tabD, List.map_cons, List.find?_cons, List.find?_cons]
    by_cases h : a = k
    · simp [h]
    · have : ¬ keyI a = keyI k := fun z => h (keyI_inj z)
      simp only [h, this, decide_false]
      have := dval_tab enc k t
      unfold dval tabGet tabD at this
      exact this
theorem dput_tab {α : Type} (enc : α → PyData) (k : List Int) (v : α) (t : List (List Int × α)) (h : ∀ p ∈ t, p.1 ≠ k) : dput (tabD enc t) (keyI k) (enc v) = tabD enc (t ++ [(k, v)]) := by
  have : ((tabD enc t).any fun kv => decide (kv.1 = keyI k)) = false := by
    rw [List.any_eq_false]
    intro p hp
    obtain ⟨q, hq, rfl⟩ := List.mem_map.mp hp
    simp only [decide_eq_true_eq]
    exact fun z => h q hq (keyI_inj z)
  unfold dput
  rw [this]
  simp [tabD]
theorem tabGet_mem {α : Type} {t : List (List Int × α)} {k : List Int} (h : k ∈ t.map (·.1)) : ∃ v, tabGet t k = some v ∧ (k, v) ∈ t := by
  induction t with
  | nil => simp at h
  | cons p t ih =>
    unfold tabGet
    rw [List.find?_cons]
    by_cases e : p.1 = k
    · simp only [e, decide_true, Option.map_some]
      exact ⟨_, rfl, by rw [← e]; exact List.mem_cons_self ..⟩
    · simp only [e, decide_false]
      rcases List.mem_cons.mp h with h | h
      · exact absurd h.symm e
      · obtain ⟨v, h1, h2⟩ := ih h
        exact ⟨v, h1, List.mem_cons_of_mem _ h2⟩
/-! for over a list as it stands -/
theorem forS_fold {α S : Type} {i : Nat} {tg : Tg} {body : MS} {enc : α → PyData} {E : S → En} {step : S → α → S} {I : S → Prop} (all : List α) (hs : ∀ x ∈ all, scal (enc x) = true) (hE : ∀ s, (E s)[i]? = some (.pin (.l (all.map fun x => .v (enc x))))) (h : ∀ x ∈ all, ∀ s, I s → I (step s x) ∧ ∃ e1, asg tg (.v (enc x)) (E s) = some e1 ∧ body e1 = some (.nx (E (step s x)))) :
    ∀ (xs : List α) (j : Nat) (s : S), all.drop j = xs → I s → forS i tg body xs.length j (E s) = some (.nx (E (xs.foldl step s))) ∧ I (xs.foldl step s)
  | [], j, s, hd, hI => by
    refine ⟨?_, hI⟩
    have hl : all.length ≤ j := by
      have := congrArg List.length hd
      simp at this; omega
    show (match (E s)[i]? with | some (.pin (.l xs)) => if xs.length ≤ j then some (Oc.nx (E s)) else none | _ => none) = _
    rw [hE s]
    simp [hl]
  | x :: xs, j, s, hd, hI => by
    have hj : all[j]? = some x := by
      have : (all.drop j)[0]? = some x := by rw [hd]; rfl
      rw [List.getElem?_drop] at this
      simpa using this
    have hx : x ∈ all := List.mem_of_getElem? hj
    have hd2 : all.drop (j + 1) = xs := by
      rw [← List.drop_drop, hd]; rfl
    obtain ⟨h1, e1, h2, h3⟩ := h x hx s hI
    obtain ⟨ih1, ih2⟩ := forS_fold all hs hE h xs (j + 1) (step s x) hd2 h1
    refine ⟨?_, ih2⟩
    show (match (E s)[i]? with | some (.pin (.l ys)) => (match ys[j]? with | some (.v d) => if scal d then (match asg tg (.v d) (E s) with | some e1 => (match body e1 with | some (.nx e2) => forS i tg body xs.length (j + 1) e2 | some (.ct e2) => forS i tg body xs.length (j + 1) e2 | some (.bk e2) => some (.nx e2) | some (.rt y e2) => some (.rt y e2) | none => none) | none => none) else none | _ => none) | _ => none) = _
    rw [hE s]
    simp only [List.getElem?_map, hj, Option.map_some, hs x hx, if_true, h2, h3, ih1]
    rfl
end Dn

set_option Elab.async false
set_option linter.all false
set_option maxRecDepth 100000
set_option maxHeartbeats 4000000
namespace Dn
open PySem L2
noncomputable section
def ce__law_draws_e473_1 : MD O := (mL fDiv (lSee 8 (lCons (mC (.int 100000)) lNil)))
def b__law_draws_e473_1 : MS := (mSeq (mSet 7 (mL fMod (lSee 6 (lCons (mL fLen (lSee 5 lNil)) lNil)))) (mSeq (mIf (mT (mL fGe (lSee 6 (lSee 1 lNil)))) (mSeq (mDrop (mUp 4 (aCons (mL fMod (lCons (mLk ixO (lSee 5 (lSee 7 lNil))) (lCons (mC (.int 2147483587)) lNil))) aNil) uApp)) mNil) mNil) (mSeq (mSetI 5 (mL fDiv (lCons (mLk ixO (lSee 5 (lSee 7 lNil))) (lCons (mC (.int 2147483587)) lNil))) (mVar 7)) (mSeq (mKill [6, 7]) mNil))))
def b__law_draws_e473_2 : MS := (mSeq (mSet 9 (mFz (mA addO (aCons (mL fMul (lCons (mL fMul (lCons (mA addO (aCons (mVar 6) (aCons (mVar 1) aNil))) (lCons (mA addO (aCons (mVar 6) (aCons (mVar 1) aNil))) lNil))) (lCons (mC (.int 7919)) lNil))) (aCons (mC (.int 104729)) aNil))))) (mSeq (mSet 10 (mL fMod (lCons (mL fMul (lCons (mA addO (aCons (mL fMod (lCons (mLk ixO (lSee 3 (lCons (mL fMod (lSee 6 (lCons (mL fLen (lSee 3 lNil)) lNil))) lNil))) (lCons (mC (.int 2147483647)) lNil))) (aCons (mVar 9) aNil))) (lCons (mC (.int 48271)) lNil))) (lCons (mC (.int 2147483647)) lNil)))) (mSeq (mSet 10 (mL fMod (lCons (mA addO (aCons (mL fMul (lSee 10 (lSee 10 lNil))) (aCons (mL fMul (lCons (mC (.int 69621)) (lSee 6 lNil))) aNil))) (lCons (mC (.int 2147483629)) lNil)))) (mSeq (mDrop (mUp 4 (aCons (mL fMod (lCons (mL fMul (lSee 10 (lSee 10 lNil))) (lCons (mC (.int 2147483587)) lNil))) aNil) uApp)) (mSeq (mKill [6, 9, 10]) mNil)))))
def m__law_draws_e473 : MS := (mSeq (mSet 3 (mFz (mA addO (aCons (mSl (mVar 0) oNone (oSome (mC (.int 63)))) (aCons (mA lstO (aCons (mVar 1) aNil)) aNil))))) (mSeq (mSet 4 (mA lstO aNil)) (mSeq (mIf (mT (mL fEq (lCons (mL fMod (lCons (mL fDiv (lCons (mLk ixO (lSee 3 (lCons (mC (.int 0)) lNil))) (lCons (mC (.int 50000)) lNil))) (lCons (mC (.int 2)) lNil))) (lCons (mC (.int 1)) lNil)))) (mSeq (mSet 5 (mLc (iL (mVar 3)) (.n 8) mYes ce__law_draws_e473_1 [8])) (mSeq (mFor (iR1 (lCons (mA addO (aCons (mVar 1) (aCons (mVar 2) aNil))) lNil)) (.n 6) b__law_draws_e473_1) (mSeq (mKill [6, 7]) (mSeq (mRet (mMv 4)) mNil)))) mNil) (mSeq (mKill [5, 6, 7]) (mSeq (mFor (mFrzE [1] (iR1 (lSee 2 lNil))) (.n 6) b__law_draws_e473_2) (mSeq (mKill [6, 9, 10]) (mSeq (mRet (mMv 4)) mNil)))))))
def sem__law_draws_e473 : Sem1 := runF 11 (List.replicate 3 false) m__law_draws_e473
theorem un__law_draws_e473 (x0 x1 x2 : O) : sem__law_draws_e473 [x0, x1, x2] = fin (List.replicate 3 false) (m__law_draws_e473 [.own x0, .own x1, .own x2, .no, .no, .no, .no, .no, .no, .no, .no]) := id rfl

def m__law_pop : MS := (mSeq (mIf (mT (mL fEq (lSee 0 (lCons (mA lstO aNil) lNil)))) (mSeq (mRet (mC (.int 0))) mNil) mNil) (mSeq (mRet (mUp 0 (aCons (mC (.int 0)) aNil) uPop0)) mNil))
def sem__law_pop : Sem1 := runF 1 [true] m__law_pop
theorem un__law_pop (x0 : O) : sem__law_pop [x0] = fin [true] (m__law_pop [.pin x0]) := id rfl

def b__law_cases_1 : MS := (mSeq (mSet 1 (mL fMul (lSee 1 (lCons (mA addO (aCons (mVar 2) (aCons (mC (.int 1)) aNil))) lNil)))) (mSeq (mKill [2]) mNil))
def m__law_cases : MS := (mSeq (mSet 1 (mC (.int 1))) (mSeq (mFor (iL (mVar 0)) (.n 2) b__law_cases_1) (mSeq (mKill [2]) (mSeq (mRet (mMv 1)) mNil))))
def sem__law_cases : Sem1 := runF 3 (List.replicate 1 false) m__law_cases
theorem un__law_cases (x0 : O) : sem__law_cases [x0] = fin (List.replicate 1 false) (m__law_cases [.own x0, .no, .no]) := id rfl

def ce__law_want_aecb_1 : MD O := (mLk ixO (lCons (mA lstO (aCons (mC (.int 0)) (aCons (mC (.int 1)) (aCons (mC (.int 2)) (aCons (mC (.int 9)) (aCons (mC (.int 4)) (aCons (mC (.int 5)) (aCons (mC (.int 3)) (aCons (mC (.int 1)) aNil))))))))) (lCons (mL fMod (lCons (mL fDiv (lSee 2 (lCons (mL fShl (lCons (mC (.int 1)) (lCons (mL fMul (lCons (mC (.int 3)) (lSee 4 lNil))) lNil))) lNil))) (lCons (mC (.int 8)) lNil))) lNil)))
def ce__law_want_aecb_2 : MD O := (mL fMod (lCons (mCallR sem__law_pop (aRf 0 aNil) [0]) (lCons (mC (.int 10)) lNil)))
def t__law_want_aecb_1 : MD Bool := (mT (mL fGt (lCons (mCallL sem__law_cases (lSee 3 lNil)) (lCons (mC (.int 400)) lNil))))
def b__law_want_aecb_1 : MS := (mSeq (mSetI 3 (mL fSub (lCons (mL fMax (lSee 3 lNil)) (lCons (mC (.int 1)) lNil))) (mLM 3 fIndex (lCons (mL fMax (lSee 3 lNil)) lNil))) mNil)
def m__law_want_aecb : MS := (mSeq (mSet 2 (mFz (mCallR sem__law_pop (aRf 0 aNil) [0]))) (mSeq (mSet 3 (mLc (iR1 (lSee 1 lNil)) (.n 4) mYes ce__law_want_aecb_1 [4])) (mSeq (mIf (mT (mL fEq (lCons (mL fMod (lCons (mL fDiv (lSee 2 (lCons (mC (.int 4096)) lNil))) (lCons (mC (.int 4)) lNil))) (lCons (mC (.int 0)) lNil)))) (mSeq (mSet 3 (mLc (iR1 (lSee 1 lNil)) (.n 4) mYes ce__law_want_aecb_2 [4])) mNil) mNil) (mSeq (mWhile t__law_want_aecb_1 b__law_want_aecb_1) (mSeq (mRet (mMv 3)) mNil)))))
def sem__law_want_aecb : Sem1 := runF 5 [true, false] m__law_want_aecb
theorem un__law_want_aecb (x0 x1 : O) : sem__law_want_aecb [x0, x1] = fin [true, false] (m__law_want_aecb [.pin x0, .own x1, .no, .no, .no]) := id rfl

def ce_covers_1 : MD O := (mL fGe (lSee 2 (lSee 3 lNil)))
def m_covers : MS := (mSeq (mRet (mL fAll (lCons (mLc (iZ (aCons (mVar 0) (aCons (mVar 1) aNil))) (.tp [(.n 2), (.n 3)]) mYes ce_covers_1 [2, 3]) lNil))) mNil)
def sem_covers : Sem1 := runF 4 (List.replicate 2 false) m_covers
theorem un_covers (x0 x1 : O) : sem_covers [x0, x1] = fin (List.replicate 2 false) (m_covers [.own x0, .own x1, .no, .no]) := id rfl

def ce_rest_1 : MD O := (mL fMax (lCons (mC (.int 0)) (lCons (mL fSub (lSee 2 (lSee 3 lNil))) lNil)))
def m_rest : MS := (mSeq (mRet (mLc (iZ (aCons (mVar 0) (aCons (mVar 1) aNil))) (.tp [(.n 2), (.n 3)]) mYes ce_rest_1 [2, 3])) mNil)
def sem_rest : Sem1 := runF 4 (List.replicate 2 false) m_rest
theorem un_rest (x0 x1 : O) : sem_rest [x0, x1] = fin (List.replicate 2 false) (m_rest [.own x0, .own x1, .no, .no]) := id rfl

def m__law_whole : MS := (mSeq (mRet (vAnd (mL (fIsi "int") (lSee 0 lNil)) (vNot (mL (fIsi "bool") (lSee 0 lNil))))) mNil)
def sem__law_whole : Sem1 := runF 1 (List.replicate 1 false) m__law_whole
theorem un__law_whole (x0 : O) : sem__law_whole [x0] = fin (List.replicate 1 false) (m__law_whole [.own x0]) := id rfl

def ct__law_numbers_1 : MD Bool := (tNotM (mT (mCallM sem__law_whole (aCons (mVar 2) aNil))))
def ce__law_numbers_1 : MD O := (mVar 2)
def m__law_numbers : MS := (mSeq (mIf (tOrM (tNotM (mT (mL (fIsi "list") (lSee 0 lNil)))) (mT (mL fGt (lCons (mL fLen (lCons (mLc (iL (mVar 0)) (.n 2) ct__law_numbers_1 ce__law_numbers_1 [2]) lNil)) (lCons (mC (.int 0)) lNil))))) (mSeq (mRet (mC (.bool false))) mNil) mNil) (mSeq (mRet (mL fEq (lSee 0 (lSee 1 lNil)))) mNil))
def sem__law_numbers : Sem1 := runF 3 (List.replicate 2 false) m__law_numbers
theorem un__law_numbers (x0 x1 : O) : sem__law_numbers [x0, x1] = fin (List.replicate 2 false) (m__law_numbers [.own x0, .own x1, .no]) := id rfl

def t__law_next_1 : MD Bool := (tAndM (mT (mL fGe (lSee 3 (lCons (mC (.int 0)) lNil)))) (mT (mL fEq (lCons (mLk ixO (lSee 2 (lSee 3 lNil))) (lCons (mLk ixO (lSee 1 (lSee 3 lNil))) lNil)))))
def b__law_next_1 : MS := (mSeq (mSetI 2 (mC (.int 0)) (mVar 3)) (mSeq (mSet 3 (mL fSub (lSee 3 (lCons (mC (.int 1)) lNil)))) mNil))
def m__law_next : MS := (mSeq (mSet 2 (mA listO (aCons (mVar 0) aNil))) (mSeq (mSet 3 (mL fSub (lCons (mL fLen (lSee 1 lNil)) (lCons (mC (.int 1)) lNil)))) (mSeq (mWhile t__law_next_1 b__law_next_1) (mSeq (mIf (mT (mL fLt (lSee 3 (lCons (mC (.int 0)) lNil)))) (mSeq (mRet (mC .none)) mNil) mNil) (mSeq (mSetI 2 (mA addO (aCons (mLk ixO (lSee 2 (lSee 3 lNil))) (aCons (mC (.int 1)) aNil))) (mVar 3)) (mSeq (mRet (mMv 2)) mNil))))))
def sem__law_next : Sem1 := runF 4 (List.replicate 2 false) m__law_next
theorem un__law_next (x0 x1 : O) : sem__law_next [x0, x1] = fin (List.replicate 2 false) (m__law_next [.own x0, .own x1, .no, .no]) := id rfl

def t__law_due_4ac3_1 : MD Bool := (mT (mL fNotN (lSee 2 (lCons (mC .none) lNil))))
def b__law_due_4ac3_1 : MS := (mSeq (mDrop (mUp 1 (aCons (mVar 2) aNil) uApp)) (mSeq (mSet 2 (mFz (mCallM sem__law_next (aCons (mVar 2) (aCons (mVar 0) aNil))))) mNil))
def m__law_due_4ac3 : MS := (mSeq (mSet 1 (mA lstO aNil)) (mSeq (mSet 2 (mFz (mA repO (aCons (mA lstO (aCons (mC (.int 0)) aNil)) (aCons (mL fLen (lSee 0 lNil)) aNil))))) (mSeq (mFrz [0]) (mSeq (mWhile t__law_due_4ac3_1 b__law_due_4ac3_1) (mSeq (mKill [2]) (mSeq (mRet (mMv 1)) mNil))))))
def sem__law_due_4ac3 : Sem1 := runF 3 (List.replicate 1 false) m__law_due_4ac3
theorem un__law_due_4ac3 (x0 : O) : sem__law_due_4ac3 [x0] = fin (List.replicate 1 false) (m__law_due_4ac3 [.own x0, .no, .no]) := id rfl

def ce_lesser_1 : MD O := (mA addO (aCons (mVar 4) (aCons (mA lstO (aCons (mVar 5) aNil)) aNil)))
def b_lesser_1 : MS := (mSeq (mDrop (mUp 3 (aCons (mLc (mFrzE [4] (iR1 (lCons (mA addO (aCons (mVar 2) (aCons (mC (.int 1)) aNil))) lNil))) (.n 5) mYes ce_lesser_1 [5]) aNil) uExt)) (mSeq (mKill [4]) mNil))
def b_lesser_2 : MS := (mSeq (mSet 3 (mA lstO aNil)) (mSeq (mFor (mFrzE [2] (iL (mVar 1))) (.n 4) b_lesser_1) (mSeq (mKill [4]) (mSeq (mSet 1 (mMv 3)) (mSeq (mKill [2, 3, 4]) mNil)))))
def m_lesser : MS := (mSeq (mSet 1 (mA lstO (aCons (mA lstO aNil) aNil))) (mSeq (mFor (iL (mVar 0)) (.n 2) b_lesser_2) (mSeq (mKill [2, 3, 4]) (mSeq (mRet (mMv 1)) mNil))))
def sem_lesser : Sem1 := runF 6 (List.replicate 1 false) m_lesser
theorem un_lesser (x0 : O) : sem_lesser [x0] = fin (List.replicate 1 false) (m_lesser [.own x0, .no, .no, .no, .no, .no]) := id rfl

def m__law_content_9bc7 : MS := (mSeq (mSet 2 (mCallR sem__law_want_aecb (aRf 0 (aCons (mVar 1) aNil)) [0])) (mSeq (mIf (mT (mL fEq (lCons (mL fSum (lSee 2 lNil)) (lCons (mC (.int 0)) lNil)))) (mSeq (mSetI 2 (mA addO (aCons (mC (.int 1)) (aCons (mL fMod (lCons (mCallR sem__law_pop (aRf 0 aNil) [0]) (lCons (mC (.int 9)) lNil))) aNil))) (mL fMod (lCons (mCallR sem__law_pop (aRf 0 aNil) [0]) (lSee 1 lNil)))) mNil) mNil) (mSeq (mRet (mMv 2)) mNil)))
def sem__law_content_9bc7 : Sem1 := runF 3 [true, false] m__law_content_9bc7
theorem un__law_content_9bc7 (x0 x1 : O) : sem__law_content_9bc7 [x0, x1] = fin [true, false] (m__law_content_9bc7 [.pin x0, .own x1, .no]) := id rfl

def m__law_price_9bd3 : MS := (mSeq (mSet 1 (mFz (mCallR sem__law_pop (aRf 0 aNil) [0]))) (mSeq (mRet (mLk ixO (lCons (mA lstO (aCons (mL fMod (lCons (mL fDiv (lSee 1 (lCons (mC (.int 4)) lNil))) (lCons (mC (.int 30)) lNil))) (aCons (mL fMod (lCons (mL fDiv (lSee 1 (lCons (mC (.int 4)) lNil))) (lCons (mC (.int 1000)) lNil))) (aCons (mC (.int 0)) (aCons (mL fMod (lCons (mL fMul (lSee 1 (lCons (mC (.int 7919)) lNil))) (lCons (mL fPow (lCons (mC (.int 10)) (lCons (mC (.int 12)) lNil))) lNil))) aNil))))) (lCons (mL fMod (lSee 1 (lCons (mC (.int 4)) lNil))) lNil)))) mNil))
def sem__law_price_9bd3 : Sem1 := runF 2 [true] m__law_price_9bd3
theorem un__law_price_9bd3 (x0 : O) : sem__law_price_9bd3 [x0] = fin [true] (m__law_price_9bd3 [.pin x0, .no]) := id rfl

def b__law_tiers_278e_1 : MS := (mSeq (mSet 4 (mFz (mCallR sem__law_pop (aRf 0 aNil) [0]))) (mSeq (mIf (mT (mL fLt (lSee 2 (lCons (mC (.int 13)) lNil)))) (mSeq (mDrop (mUp 1 (aCons (mFz (mA tupO (aCons (mVar 2) (aCons (mCallR sem__law_price_9bd3 (aRf 0 aNil) [0]) aNil)))) aNil) uApp)) mNil) mNil) (mSeq (mSet 2 (mFz (mA addO (aCons (mA addO (aCons (mVar 2) (aCons (mC (.int 1)) aNil))) (aCons (mL fMod (lSee 4 (lCons (mLk ixO (lCons (mA lstO (aCons (mC (.int 1)) (aCons (mC (.int 3)) (aCons (mC (.int 8)) aNil)))) (lCons (mL fMod (lCons (mL fDiv (lSee 4 (lCons (mC (.int 8)) lNil))) (lCons (mC (.int 3)) lNil))) lNil))) lNil))) aNil))))) (mSeq (mKill [3, 4]) mNil))))
def m__law_tiers_278e : MS := (mSeq (mSet 1 (mA lstO aNil)) (mSeq (mSet 2 (mC (.int 1))) (mSeq (mFor (iR1 (lCons (mA addO (aCons (mC (.int 1)) (aCons (mL fMod (lCons (mCallR sem__law_pop (aRf 0 aNil) [0]) (lCons (mC (.int 4)) lNil))) aNil))) lNil)) (.n 3) b__law_tiers_278e_1) (mSeq (mKill [2, 3, 4]) (mSeq (mRet (mMv 1)) mNil)))))
def sem__law_tiers_278e : Sem1 := runF 5 [true] m__law_tiers_278e
theorem un__law_tiers_278e (x0 : O) : sem__law_tiers_278e [x0] = fin [true] (m__law_tiers_278e [.pin x0, .no, .no, .no, .no]) := id rfl

def ct__law_shop_0742_1 : MD Bool := (mT (mL fEq (lCons (mLk ixO (lCons (mLk ixO (lSee 3 (lSee 8 lNil))) (lCons (mC (.int 0)) lNil))) (lCons (mC (.str "pack")) lNil))))
def ce__law_shop_0742_1 : MD O := (mVar 8)
def b__law_shop_0742_1 : MS := (mSeq (mSet 5 (mFz (mCallR sem__law_pop (aRf 0 aNil) [0]))) (mSeq (mSet 6 (mFz (mLc (iR1 (lCons (mL fLen (lSee 3 lNil)) lNil)) (.n 8) ct__law_shop_0742_1 ce__law_shop_0742_1 [8]))) (mSeq (mSet 7 (mFz (mCallR sem__law_content_9bc7 (aRf 0 (aCons (mVar 1) aNil)) [0]))) (mSeq (mIf (tAndM (mT (mL fGt (lCons (mL fMod (lSee 5 (lCons (mC (.int 8)) lNil))) (lCons (mC (.int 4)) lNil)))) (mT (mL fNe (lSee 6 (lCons (mA lstO aNil) lNil))))) (mSeq (mDrop (mUp 3 (aCons (mFz (mA tupO (aCons (mC (.str "add")) (aCons (mVar 7) (aCons (mCallR sem__law_price_9bd3 (aRf 0 aNil) [0]) (aCons (mLk ixO (lSee 6 (lCons (mL fMod (lCons (mL fDiv (lSee 5 (lCons (mC (.int 8)) lNil))) (lCons (mL fLen (lSee 6 lNil)) lNil))) lNil))) aNil)))))) aNil) uApp)) mNil) (mSeq (mIf (mT (mL fGt (lCons (mL fMod (lSee 5 (lCons (mC (.int 8)) lNil))) (lCons (mC (.int 2)) lNil)))) (mSeq (mDrop (mUp 3 (aCons (mFz (mA tupO (aCons (mC (.str "many")) (aCons (mVar 7) (aCons (mCallR sem__law_tiers_278e (aRf 0 aNil) [0]) aNil))))) aNil) uApp)) mNil) (mSeq (mDrop (mUp 3 (aCons (mFz (mA tupO (aCons (mC (.str "pack")) (aCons (mVar 7) (aCons (mCallR sem__law_price_9bd3 (aRf 0 aNil) [0]) aNil))))) aNil) uApp)) mNil)) mNil)) (mSeq (mKill [4, 5, 6, 7]) mNil)))))
def m__law_shop_0742 : MS := (mSeq (mSet 3 (mA lstO aNil)) (mSeq (mFor (mFrzE [1] (iR1 (lCons (mL fMod (lCons (mCallR sem__law_pop (aRf 0 aNil) [0]) (lCons (mA addO (aCons (mVar 2) (aCons (mC (.int 1)) aNil))) lNil))) lNil))) (.n 4) b__law_shop_0742_1) (mSeq (mKill [4, 5, 6, 7]) (mSeq (mRet (mMv 3)) mNil))))
def sem__law_shop_0742 : Sem1 := runF 9 [true, false, false] m__law_shop_0742
theorem un__law_shop_0742 (x0 x1 x2 : O) : sem__law_shop_0742 [x0, x1, x2] = fin [true, false, false] (m__law_shop_0742 [.pin x0, .own x1, .own x2, .no, .no, .no, .no, .no, .no]) := id rfl

def ct__law_subsets_1 : MD Bool := (mT (mL fEq (lCons (mL fAnd (lCons (mL fShr (lSee 2 (lSee 3 lNil))) (lCons (mC (.int 1)) lNil))) (lCons (mC (.int 1)) lNil))))
def ce__law_subsets_1 : MD O := (mLk ixO (lSee 0 (lSee 3 lNil)))
def b__law_subsets_1 : MS := (mSeq (mDrop (mUp 1 (aCons (mFz (mLc (iR1 (lCons (mL fLen (lSee 0 lNil)) lNil)) (.n 3) ct__law_subsets_1 ce__law_subsets_1 [3])) aNil) uApp)) (mSeq (mKill [2]) mNil))
def m__law_subsets : MS := (mSeq (mSet 1 (mA lstO (aCons (mA lstO aNil) aNil))) (mSeq (mFor (iR2 (lCons (mC (.int 1)) (lCons (mL fShl (lCons (mC (.int 1)) (lCons (mL fLen (lSee 0 lNil)) lNil))) lNil))) (.n 2) b__law_subsets_1) (mSeq (mKill [2]) (mSeq (mRet (mA srtO (aCons (mVar 1) aNil))) mNil))))
def sem__law_subsets : Sem1 := runF 4 (List.replicate 1 false) m__law_subsets
theorem un__law_subsets (x0 : O) : sem__law_subsets [x0] = fin (List.replicate 1 false) (m__law_subsets [.own x0, .no, .no, .no]) := id rfl

def ce__law_lines_81be_1 : MD O := (mA tupO (aCons (mVar 2) (aCons (mVar 5) (aCons (mA lstO aNil) aNil))))
def ct__law_lines_81be_1 : MD Bool := (tAndM (mT (mL fEq (lCons (mLk ixO (lCons (mLk ixO (lSee 0 (lSee 4 lNil))) (lCons (mC (.int 0)) lNil))) (lCons (mC (.str "add")) lNil)))) (mT (mL fEq (lCons (mLk ixO (lCons (mLk ixO (lSee 0 (lSee 4 lNil))) (lCons (mC (.int 3)) lNil))) (lSee 2 lNil)))))
def ce__law_lines_81be_2 : MD O := (mVar 4)
def ce__law_lines_81be_3 : MD O := (mA tupO (aCons (mVar 2) (aCons (mC (.int 1)) (aCons (mVar 6) aNil))))
def b__law_lines_81be_1 : MS := (mSeq (mIf (mT (mL fEq (lCons (mLk ixO (lCons (mLk ixO (lSee 0 (lSee 2 lNil))) (lCons (mC (.int 0)) lNil))) (lCons (mC (.str "many")) lNil)))) (mSeq (mSet 1 (mA addO (aCons (mVar 1) (aCons (mLc (mFrzE [2] (iR2 (lCons (mC (.int 1)) (lCons (mC (.int 13)) lNil)))) (.n 5) mYes ce__law_lines_81be_1 [5]) aNil)))) mNil) mNil) (mSeq (mIf (mT (mL fEq (lCons (mLk ixO (lCons (mLk ixO (lSee 0 (lSee 2 lNil))) (lCons (mC (.int 0)) lNil))) (lCons (mC (.str "pack")) lNil)))) (mSeq (mSet 3 (mFz (mLc (iR1 (lCons (mL fLen (lSee 0 lNil)) lNil)) (.n 4) ct__law_lines_81be_1 ce__law_lines_81be_2 [4]))) (mSeq (mSet 1 (mA addO (aCons (mVar 1) (aCons (mLc (mFrzE [2] (iL (mFz (mCallM sem__law_subsets (aCons (mVar 3) aNil))))) (.n 6) mYes ce__law_lines_81be_3 [6]) aNil)))) mNil)) mNil) (mSeq (mKill [2, 3]) mNil)))
def m__law_lines_81be : MS := (mSeq (mSet 1 (mA lstO aNil)) (mSeq (mFor (iR1 (lCons (mL fLen (lSee 0 lNil)) lNil)) (.n 2) b__law_lines_81be_1) (mSeq (mKill [2, 3]) (mSeq (mRet (mMv 1)) mNil))))
def sem__law_lines_81be : Sem1 := runF 7 (List.replicate 1 false) m__law_lines_81be
theorem un__law_lines_81be (x0 : O) : sem__law_lines_81be [x0] = fin (List.replicate 1 false) (m__law_lines_81be [.own x0, .no, .no, .no, .no, .no, .no]) := id rfl

def b__law_copied_1 : MS := (mSeq (mIf (mT (mL fEq (lCons (mLk ixO (lSee 2 (lCons (mC (.int 0)) lNil))) (lCons (mC (.str "many")) lNil)))) (mSeq (mDrop (mUp 1 (aCons (mFz (mA tupO (aCons (mC (.str "many")) (aCons (mA listO (aCons (mLk ixO (lSee 2 (lCons (mC (.int 1)) lNil))) aNil)) (aCons (mA listO (aCons (mLk ixO (lSee 2 (lCons (mC (.int 2)) lNil))) aNil)) aNil))))) aNil) uApp)) mNil) (mSeq (mDrop (mUp 1 (aCons (mFz (mA addO (aCons (mA tupO (aCons (mLk ixO (lSee 2 (lCons (mC (.int 0)) lNil))) (aCons (mA listO (aCons (mLk ixO (lSee 2 (lCons (mC (.int 1)) lNil))) aNil)) aNil))) (aCons (mSl (mVar 2) (oSome (mC (.int 2))) oNone) aNil)))) aNil) uApp)) mNil)) (mSeq (mKill [2]) mNil))
def m__law_copied : MS := (mSeq (mSet 1 (mA lstO aNil)) (mSeq (mFor (iL (mVar 0)) (.n 2) b__law_copied_1) (mSeq (mKill [2]) (mSeq (mRet (mMv 1)) mNil))))
def sem__law_copied : Sem1 := runF 3 (List.replicate 1 false) m__law_copied
theorem un__law_copied (x0 : O) : sem__law_copied [x0] = fin (List.replicate 1 false) (m__law_copied [.own x0, .no, .no]) := id rfl

def ce_tiers_right_1 : MD O := (mVar 2)
def ce_tiers_right_2 : MD O := (mL fLt (lCons (mLk ixO (lSee 1 (lSee 4 lNil))) (lCons (mLk ixO (lSee 1 (lCons (mA addO (aCons (mVar 4) (aCons (mC (.int 1)) aNil))) lNil))) lNil)))
def m_tiers_right : MS := (mSeq (mSet 1 (mFz (mLc (iL (mVar 0)) (.tp [(.n 2), (.n 3)]) mYes ce_tiers_right_1 [2, 3]))) (mSeq (mIf (tOrM (mT (mL fNe (lCons (mSl (mVar 1) oNone (oSome (mC (.int 1)))) (lCons (mA lstO (aCons (mC (.int 1)) aNil)) lNil)))) (tOrM (mT (mL fGt (lCons (mL fLen (lSee 1 lNil)) (lCons (mC (.int 4)) lNil)))) (mT (mL fGt (lCons (mLk ixO (lSee 1 (lCons (mL fNeg (lCons (mC (.int 1)) lNil)) lNil))) (lCons (mC (.int 12)) lNil)))))) (mSeq (mRet (mC (.bool false))) mNil) mNil) (mSeq (mRet (mL fAll (lCons (mLc (iR1 (lCons (mL fSub (lCons (mL fLen (lSee 1 lNil)) (lCons (mC (.int 1)) lNil))) lNil)) (.n 4) mYes ce_tiers_right_2 [4]) lNil))) mNil)))
def sem_tiers_right : Sem1 := runF 5 (List.replicate 1 false) m_tiers_right
theorem un_tiers_right (x0 : O) : sem_tiers_right [x0] = fin (List.replicate 1 false) (m_tiers_right [.own x0, .no, .no, .no, .no]) := id rfl

def b_look_1 : MS := (mSeq (mSet 3 (mC (.bool true))) (mSeq (mIf (mT (mL fEq (lCons (mLk ixO (lSee 2 (lCons (mC (.int 0)) lNil))) (lCons (mC (.str "add")) lNil)))) (mSeq (mSet 3 (vAnd (mChain fLe fLt (lCons (mC (.int 0)) (lCons (mLk ixO (lSee 2 (lCons (mC (.int 3)) lNil))) lNil)) (mVar 1)) (mL fEq (lCons (mLk ixO (lCons (mLk ixO (lSee 0 (lCons (mLk ixO (lSee 2 (lCons (mC (.int 3)) lNil))) lNil))) (lCons (mC (.int 0)) lNil))) (lCons (mC (.str "pack")) lNil))))) mNil) mNil) (mSeq (mIf (mT (mL fEq (lCons (mLk ixO (lSee 2 (lCons (mC (.int 0)) lNil))) (lCons (mC (.str "many")) lNil)))) (mSeq (mSet 3 (mFz (mCallM sem_tiers_right (aCons (mLk ixO (lSee 2 (lCons (mC (.int 2)) lNil))) aNil)))) mNil) mNil) (mSeq (mIf (tNotM (mT (mVar 3))) (mSeq mNo mNil) mNil) (mSeq (mKill [1, 2, 3]) mNil)))))
def m_look : MS := (mSeq (mFor (iE (aCons (mVar 0) aNil)) (.tp [(.n 1), (.n 2)]) b_look_1) (mSeq (mKill [1, 2, 3]) mNil))
def sem_look : Sem1 := runF 4 (List.replicate 1 false) m_look
theorem un_look (x0 : O) : sem_look [x0] = fin (List.replicate 1 false) (m_look [.own x0, .no, .no, .no]) := id rfl

def b_choices_1 : MS := (mSeq (mDbl 1 3 2) (mSeq (mKill [2]) mNil))
def m_choices : MS := (mSeq (mSet 1 (mA lstO (aCons (mA lstO aNil) aNil))) (mSeq (mFor (iL (mVar 0)) (.n 2) b_choices_1) (mSeq (mKill [2]) (mSeq (mRet (mA srtO (aMv 1 aNil))) mNil))))
def sem_choices : Sem1 := runF 4 (List.replicate 1 false) m_choices
theorem un_choices (x0 : O) : sem_choices [x0] = fin (List.replicate 1 false) (m_choices [.own x0, .no, .no, .no]) := id rfl

def ct_adds_of_1 : MD Bool := (tAndM (mT (mL fEq (lCons (mLk ixO (lSee 3 (lCons (mC (.int 0)) lNil))) (lCons (mC (.str "add")) lNil)))) (mT (mL fEq (lCons (mLk ixO (lSee 3 (lCons (mC (.int 3)) lNil))) (lSee 1 lNil)))))
def ce_adds_of_1 : MD O := (mVar 2)
def m_adds_of : MS := (mSeq (mRet (mLc (iE (aCons (mVar 0) aNil)) (.tp [(.n 2), (.n 3)]) ct_adds_of_1 ce_adds_of_1 [2, 3])) mNil)
def sem_adds_of : Sem1 := runF 4 (List.replicate 2 false) m_adds_of
theorem un_adds_of (x0 x1 : O) : sem_adds_of [x0, x1] = fin (List.replicate 2 false) (m_adds_of [.own x0, .own x1, .no, .no]) := id rfl

def ce_lines_1 : MD O := (mA tupO (aCons (mVar 2) (aCons (mC (.int 1)) (aMv 4 aNil))))
def ce_lines_2 : MD O := (mA tupO (aCons (mVar 2) (aCons (mVar 5) (aCons (mA lstO aNil) aNil))))
def b_lines_1 : MS := (mSeq (mIf (mT (mL fEq (lCons (mLk ixO (lSee 3 (lCons (mC (.int 0)) lNil))) (lCons (mC (.str "pack")) lNil)))) (mSeq (mDrop (mUp 1 (aCons (mLc (mFrzE [2] (iL (mCallM sem_choices (aCons (mFz (mCallM sem_adds_of (aCons (mVar 0) (aCons (mVar 2) aNil)))) aNil)))) (.n 4) mYes ce_lines_1 [4]) aNil) uExt)) mNil) mNil) (mSeq (mIf (mT (mL fEq (lCons (mLk ixO (lSee 3 (lCons (mC (.int 0)) lNil))) (lCons (mC (.str "many")) lNil)))) (mSeq (mDrop (mUp 1 (aCons (mLc (mFrzE [2] (iR2 (lCons (mC (.int 1)) (lCons (mA addO (aCons (mC (.int 12)) (aCons (mC (.int 1)) aNil))) lNil)))) (.n 5) mYes ce_lines_2 [5]) aNil) uExt)) mNil) mNil) (mSeq (mKill [2, 3]) mNil)))
def m_lines : MS := (mSeq (mDrop (mCallM sem_look (aCons (mVar 0) aNil))) (mSeq (mSet 1 (mA lstO aNil)) (mSeq (mFor (mFrzE [0] (iE (aCons (mVar 0) aNil))) (.tp [(.n 2), (.n 3)]) b_lines_1) (mSeq (mKill [2, 3]) (mSeq (mRet (mMv 1)) mNil)))))
def sem_lines : Sem1 := runF 6 (List.replicate 1 false) m_lines
theorem un_lines (x0 : O) : sem_lines [x0] = fin (List.replicate 1 false) (m_lines [.own x0, .no, .no, .no, .no, .no]) := id rfl

def ct_tier_price_1 : MD Bool := (mT (mL fLe (lSee 2 (lSee 1 lNil))))
def ce_tier_price_1 : MD O := (mVar 3)
def m_tier_price : MS := (mSeq (mRet (mLk ixO (lCons (mLc (iL (mVar 0)) (.tp [(.n 2), (.n 3)]) ct_tier_price_1 ce_tier_price_1 [2, 3]) (lCons (mL fNeg (lCons (mC (.int 1)) lNil)) lNil)))) mNil)
def sem_tier_price : Sem1 := runF 4 (List.replicate 2 false) m_tier_price
theorem un_tier_price (x0 x1 : O) : sem_tier_price [x0, x1] = fin (List.replicate 2 false) (m_tier_price [.own x0, .own x1, .no, .no]) := id rfl

def ce_line_price_1 : MD O := (mLk ixO (lCons (mLk ixO (lSee 0 (lSee 5 lNil))) (lCons (mC (.int 2)) lNil)))
def m_line_price : MS := (mSeq (mDrop (mCallM sem_look (aCons (mVar 0) aNil))) (mSeq (mAsg (.tp [(.n 2), (.n 3), (.n 4)]) (mVar 1)) (mSeq (mIf (mT (mL fEq (lCons (mLk ixO (lCons (mLk ixO (lSee 0 (lSee 2 lNil))) (lCons (mC (.int 0)) lNil))) (lCons (mC (.str "many")) lNil)))) (mSeq (mRet (mL fMul (lSee 3 (lCons (mCallM sem_tier_price (aCons (mLk ixO (lCons (mLk ixO (lSee 0 (lSee 2 lNil))) (lCons (mC (.int 2)) lNil))) (aCons (mVar 3) aNil))) lNil)))) mNil) mNil) (mSeq (mRet (mA addO (aCons (mLk ixO (lCons (mLk ixO (lSee 0 (lSee 2 lNil))) (lCons (mC (.int 2)) lNil))) (aCons (mL fSum (lCons (mLc (iL (mVar 4)) (.n 5) mYes ce_line_price_1 [5]) lNil)) aNil)))) mNil))))
def sem_line_price : Sem1 := runF 6 (List.replicate 2 false) m_line_price
theorem un_line_price (x0 x1 : O) : sem_line_price [x0, x1] = fin (List.replicate 2 false) (m_line_price [.own x0, .own x1, .no, .no, .no, .no]) := id rfl

def ce__law_line_price_1 : MD O := (mLk ixO (lCons (mLk ixO (lSee 0 (lSee 3 lNil))) (lCons (mC (.int 2)) lNil)))
def b__law_line_price_1 : MS := (mSeq (mIf (mT (mL fLe (lSee 5 (lCons (mLk ixO (lSee 1 (lCons (mC (.int 1)) lNil))) lNil)))) (mSeq (mSet 4 (mVar 6)) mNil) mNil) (mSeq (mKill [5, 6]) mNil))
def m__law_line_price : MS := (mSeq (mSet 2 (mLk ixO (lSee 0 (lCons (mLk ixO (lSee 1 (lCons (mC (.int 0)) lNil))) lNil)))) (mSeq (mIf (mT (mL fEq (lCons (mLk ixO (lSee 2 (lCons (mC (.int 0)) lNil))) (lCons (mC (.str "pack")) lNil)))) (mSeq (mRet (mA addO (aCons (mLk ixO (lSee 2 (lCons (mC (.int 2)) lNil))) (aCons (mL fSum (lCons (mLc (iL (mLk ixO (lSee 1 (lCons (mC (.int 2)) lNil)))) (.n 3) mYes ce__law_line_price_1 [3]) lNil)) aNil)))) mNil) mNil) (mSeq (mSet 4 (mC (.int 0))) (mSeq (mFor (iL (mLk ixO (lSee 2 (lCons (mC (.int 2)) lNil)))) (.tp [(.n 5), (.n 6)]) b__law_line_price_1) (mSeq (mKill [5, 6]) (mSeq (mRet (mL fMul (lCons (mLk ixO (lSee 1 (lCons (mC (.int 1)) lNil))) (lSee 4 lNil)))) mNil))))))
def sem__law_line_price : Sem1 := runF 7 (List.replicate 2 false) m__law_line_price
theorem un__law_line_price (x0 x1 : O) : sem__law_line_price [x0, x1] = fin (List.replicate 2 false) (m__law_line_price [.own x0, .own x1, .no, .no, .no, .no, .no]) := id rfl

def ce__law_sum_1 : MD O := (mA addO (aCons (mLk ixO (lSee 0 (lSee 2 lNil))) (aCons (mLk ixO (lSee 1 (lSee 2 lNil))) aNil)))
def m__law_sum : MS := (mSeq (mRet (mLc (iR1 (lCons (mL fLen (lSee 0 lNil)) lNil)) (.n 2) mYes ce__law_sum_1 [2])) mNil)
def sem__law_sum : Sem1 := runF 3 (List.replicate 2 false) m__law_sum
theorem un__law_sum (x0 x1 : O) : sem__law_sum [x0, x1] = fin (List.replicate 2 false) (m__law_sum [.own x0, .own x1, .no]) := id rfl

def ce__law_line_content_1 : MD O := (mL fMul (lCons (mLk ixO (lSee 1 (lCons (mC (.int 1)) lNil))) (lSee 3 lNil)))
def b__law_line_content_1 : MS := (mSeq (mSet 2 (mCallM sem__law_sum (aCons (mVar 2) (aCons (mLk ixO (lCons (mLk ixO (lSee 0 (lSee 4 lNil))) (lCons (mC (.int 1)) lNil))) aNil)))) (mSeq (mKill [4]) mNil))
def m__law_line_content : MS := (mSeq (mSet 2 (mLc (iL (mLk ixO (lCons (mLk ixO (lSee 0 (lCons (mLk ixO (lSee 1 (lCons (mC (.int 0)) lNil))) lNil))) (lCons (mC (.int 1)) lNil)))) (.n 3) mYes ce__law_line_content_1 [3])) (mSeq (mFor (iL (mLk ixO (lSee 1 (lCons (mC (.int 2)) lNil)))) (.n 4) b__law_line_content_1) (mSeq (mKill [4]) (mSeq (mRet (mMv 2)) mNil))))
def sem__law_line_content : Sem1 := runF 5 (List.replicate 2 false) m__law_line_content
theorem un__law_line_content (x0 x1 : O) : sem__law_line_content [x0, x1] = fin (List.replicate 2 false) (m__law_line_content [.own x0, .own x1, .no, .no, .no]) := id rfl

def ce_put_together_1 : MD O := (mA addO (aCons (mVar 2) (aCons (mVar 3) aNil)))
def m_put_together : MS := (mSeq (mRet (mLc (iZ (aCons (mVar 0) (aCons (mVar 1) aNil))) (.tp [(.n 2), (.n 3)]) mYes ce_put_together_1 [2, 3])) mNil)
def sem_put_together : Sem1 := runF 4 (List.replicate 2 false) m_put_together
theorem un_put_together (x0 x1 : O) : sem_put_together [x0, x1] = fin (List.replicate 2 false) (m_put_together [.own x0, .own x1, .no, .no]) := id rfl

def ce_line_content_1 : MD O := (mL fMul (lSee 3 (lSee 6 lNil)))
def b_line_content_1 : MS := (mSeq (mSet 5 (mCallM sem_put_together (aCons (mVar 5) (aCons (mLk ixO (lCons (mLk ixO (lSee 0 (lSee 7 lNil))) (lCons (mC (.int 1)) lNil))) aNil)))) (mSeq (mKill [7]) mNil))
def m_line_content : MS := (mSeq (mDrop (mCallM sem_look (aCons (mVar 0) aNil))) (mSeq (mAsg (.tp [(.n 2), (.n 3), (.n 4)]) (mVar 1)) (mSeq (mSet 5 (mLc (iL (mLk ixO (lCons (mLk ixO (lSee 0 (lSee 2 lNil))) (lCons (mC (.int 1)) lNil)))) (.n 6) mYes ce_line_content_1 [6])) (mSeq (mFor (iL (mVar 4)) (.n 7) b_line_content_1) (mSeq (mKill [7]) (mSeq (mRet (mMv 5)) mNil))))))
def sem_line_content : Sem1 := runF 8 (List.replicate 2 false) m_line_content
theorem un_line_content (x0 x1 : O) : sem_line_content [x0, x1] = fin (List.replicate 2 false) (m_line_content [.own x0, .own x1, .no, .no, .no, .no, .no, .no]) := id rfl

def ce_bought_1 : MD O := (mC (.int 0))
def b_bought_1 : MS := (mSeq (mSet 2 (mCallM sem_put_together (aCons (mVar 2) (aCons (mFz (mCallM sem_line_content (aCons (mVar 0) (aCons (mVar 5) aNil)))) aNil)))) (mSeq (mAugI 4 (mCallM sem_line_price (aCons (mVar 0) (aCons (mVar 5) aNil)))) (mSeq (mKill [5]) mNil)))
def m_bought : MS := (mSeq (mDrop (mCallM sem_look (aCons (mVar 0) aNil))) (mSeq (mSet 2 (mA lstO aNil)) (mSeq (mIf (mT (mL fNe (lSee 0 (lCons (mA lstO aNil) lNil)))) (mSeq (mSet 2 (mLc (iL (mLk ixO (lCons (mLk ixO (lSee 0 (lCons (mC (.int 0)) lNil))) (lCons (mC (.int 1)) lNil)))) (.n 3) mYes ce_bought_1 [3])) mNil) mNil) (mSeq (mSet 4 (mC (.int 0))) (mSeq (mFor (mFrzE [0] (iL (mVar 1))) (.n 5) b_bought_1) (mSeq (mKill [5]) (mSeq (mRet (mA tupO (aMv 2 (aCons (mVar 4) aNil)))) mNil)))))))
def sem_bought : Sem1 := runF 6 (List.replicate 2 false) m_bought
theorem un_bought (x0 x1 : O) : sem_bought [x0, x1] = fin (List.replicate 2 false) (m_bought [.own x0, .own x1, .no, .no, .no, .no]) := id rfl

def b__law_left_1 : MS := (mSeq (mSet 5 (mFz (mCallM sem_rest (aCons (mVar 3) (aCons (mFz (mCallM sem_line_content (aCons (mVar 0) (aCons (mVar 4) aNil)))) aNil))))) (mSeq (mIf (tNotM (mT (mCallM sem_covers (aCons (mVar 3) (aCons (mVar 5) aNil))))) (mSeq (mRet (mC .none)) mNil) mNil) (mSeq (mSet 3 (mVar 5)) (mSeq (mKill [4, 5]) mNil))))
def m__law_left : MS := (mSeq (mSet 3 (mA listO (aCons (mVar 2) aNil))) (mSeq (mFor (mFrzE [0] (iL (mVar 1))) (.n 4) b__law_left_1) (mSeq (mKill [4, 5]) (mSeq (mRet (mMv 3)) mNil))))
def sem__law_left : Sem1 := runF 6 (List.replicate 3 false) m__law_left
theorem un__law_left (x0 x1 x2 : O) : sem__law_left [x0, x1, x2] = fin (List.replicate 3 false) (m__law_left [.own x0, .own x1, .own x2, .no, .no, .no]) := id rfl

def m__law_mix : MS := (mSeq (mSet 2 (mL fMod (lCons (mL fMul (lCons (mA addO (aCons (mA addO (aCons (mL fMod (lSee 0 (lCons (mC (.int 2147483647)) lNil))) (aCons (mL fMul (lCons (mL fMul (lSee 1 (lSee 1 lNil))) (lCons (mC (.int 7919)) lNil))) aNil))) (aCons (mC (.int 104729)) aNil))) (lCons (mC (.int 48271)) lNil))) (lCons (mC (.int 2147483647)) lNil)))) (mSeq (mRet (mL fMod (lCons (mA addO (aCons (mL fMul (lSee 2 (lSee 2 lNil))) (aCons (mL fMul (lCons (mC (.int 69621)) (lSee 1 lNil))) aNil))) (lCons (mC (.int 2147483629)) lNil)))) mNil))
def sem__law_mix : Sem1 := runF 3 (List.replicate 2 false) m__law_mix
theorem un__law_mix (x0 x1 : O) : sem__law_mix [x0, x1] = fin (List.replicate 2 false) (m__law_mix [.own x0, .own x1, .no]) := id rfl

def ce__law_draws_bf2d_1 : MD O := (mL fDiv (lSee 5 (lCons (mC (.int 100000)) lNil)))
def b__law_draws_bf2d_1 : MS := (mSeq (mSet 8 (mL fMod (lSee 7 (lCons (mL fLen (lSee 3 lNil)) lNil)))) (mSeq (mSet 9 (mFz (mCallM sem__law_mix (aCons (mLk ixO (lSee 3 (lSee 8 lNil))) (aCons (mVar 7) aNil))))) (mSeq (mSet 9 (mL fMod (lCons (mA addO (aCons (mL fMul (lSee 9 (lSee 9 lNil))) (aCons (mL fMul (lCons (mC (.int 7)) (lSee 7 lNil))) aNil))) (lCons (mC (.int 2147483587)) lNil)))) (mSeq (mIf (tAndM (mT (mL fGe (lCons (mLk ixO (lSee 3 (lSee 8 lNil))) (lCons (mL fPow (lCons (mC (.int 10)) (lCons (mC (.int 18)) lNil))) lNil)))) (mT (mL fGt (lCons (mLk ixO (lSee 4 (lSee 8 lNil))) (lCons (mC (.int 0)) lNil))))) (mSeq (mSet 9 (mL fMod (lCons (mLk ixO (lSee 4 (lSee 8 lNil))) (lCons (mC (.int 2147483587)) lNil)))) (mSeq (mSetI 4 (mL fDiv (lCons (mLk ixO (lSee 4 (lSee 8 lNil))) (lCons (mC (.int 2147483587)) lNil))) (mVar 8)) mNil)) mNil) (mSeq (mDrop (mUp 6 (aCons (mVar 9) aNil) uApp)) (mSeq (mKill [7, 8, 9]) mNil))))))
def m__law_draws_bf2d : MS := (mSeq (mSet 3 (mFz (mA addO (aCons (mSl (mVar 0) oNone (oSome (mC (.int 63)))) (aCons (mA lstO (aCons (mVar 1) aNil)) aNil))))) (mSeq (mSet 4 (mLc (iL (mVar 3)) (.n 5) mYes ce__law_draws_bf2d_1 [5])) (mSeq (mSet 6 (mA lstO aNil)) (mSeq (mFor (iR1 (lCons (mA addO (aCons (mVar 1) (aCons (mVar 2) aNil))) lNil)) (.n 7) b__law_draws_bf2d_1) (mSeq (mKill [7, 8, 9]) (mSeq (mRet (mSl (mVar 6) (oSome (mVar 1)) oNone)) mNil))))))
def sem__law_draws_bf2d : Sem1 := runF 10 (List.replicate 3 false) m__law_draws_bf2d
theorem un__law_draws_bf2d (x0 x1 x2 : O) : sem__law_draws_bf2d [x0, x1, x2] = fin (List.replicate 3 false) (m__law_draws_bf2d [.own x0, .own x1, .own x2, .no, .no, .no, .no, .no, .no, .no]) := id rfl

def b__law_cut_1 : MS := (mSeq (mSet 1 (mL fMul (lSee 1 (lCons (mA addO (aCons (mVar 2) (aCons (mC (.int 1)) aNil))) lNil)))) (mSeq (mKill [2]) mNil))
def t__law_cut_1 : MD Bool := (mT (mL fGt (lSee 1 (lCons (mC (.int 400)) lNil))))
def b__law_cut_2 : MS := (mSeq (mSet 1 (mC (.int 1))) (mSeq (mForS 0 (.n 2) b__law_cut_1) (mSeq (mKill [2]) (mSeq (mIf (mT (mL fGt (lSee 1 (lCons (mC (.int 400)) lNil)))) (mSeq (mSetI 0 (mL fSub (lCons (mL fMax (lSee 0 lNil)) (lCons (mC (.int 1)) lNil))) (mLM 0 fIndex (lCons (mL fMax (lSee 0 lNil)) lNil))) mNil) mNil) (mSeq (mKill [2]) mNil)))))
def m__law_cut : MS := (mSeq (mSet 1 (mC (.int 401))) (mSeq (mWhile t__law_cut_1 b__law_cut_2) (mSeq (mKill [1, 2]) (mSeq (mRet (mMv 0)) mNil))))
def sem__law_cut : Sem1 := runF 3 (List.replicate 1 false) m__law_cut
theorem un__law_cut (x0 : O) : sem__law_cut [x0] = fin (List.replicate 1 false) (m__law_cut [.own x0, .no, .no]) := id rfl

def b__law_content_e374_1 : MS := (mSeq (mDrop (mUp 4 (aCons (mLk ixO (lCons (mA lstO (aCons (mC (.int 0)) (aCons (mC (.int 1)) (aCons (mA addO (aCons (mC (.int 1)) (aCons (mL fMod (lSee 3 (lSee 2 lNil))) aNil))) (aCons (mC (.int 1)) aNil))))) (lCons (mL fMod (lCons (mL fDiv (lSee 3 (lCons (mC (.int 16)) lNil))) (lCons (mC (.int 4)) lNil))) lNil))) aNil) uApp)) (mSeq (mSet 3 (mL fDiv (lSee 3 (lCons (mC (.int 64)) lNil)))) (mSeq (mKill [5]) mNil)))
def m__law_content_e374 : MS := (mSeq (mSet 3 (mFz (mCallR sem__law_pop (aRf 0 aNil) [0]))) (mSeq (mSet 4 (mA lstO aNil)) (mSeq (mFor (iR1 (lSee 1 lNil)) (.n 5) b__law_content_e374_1) (mSeq (mKill [5]) (mSeq (mIf (mT (mL fEq (lCons (mL fSum (lSee 4 lNil)) (lCons (mC (.int 0)) lNil)))) (mSeq (mSetI 4 (mC (.int 1)) (mL fMod (lSee 3 (lSee 1 lNil)))) mNil) mNil) (mSeq (mRet (mCallM sem__law_cut (aMv 4 aNil))) mNil))))))
def sem__law_content_e374 : Sem1 := runF 6 [true, false, false] m__law_content_e374
theorem un__law_content_e374 (x0 x1 x2 : O) : sem__law_content_e374 [x0, x1, x2] = fin [true, false, false] (m__law_content_e374 [.pin x0, .own x1, .own x2, .no, .no, .no]) := id rfl

def m__law_price_59e4 : MS := (mSeq (mSet 1 (mFz (mCallR sem__law_pop (aRf 0 aNil) [0]))) (mSeq (mRet (mLk ixO (lCons (mA lstO (aCons (mL fMod (lSee 1 (lCons (mC (.int 12)) lNil))) (aCons (mA addO (aCons (mC (.int 20)) (aCons (mL fMod (lSee 1 (lCons (mC (.int 100)) lNil))) aNil))) (aCons (mL fMod (lSee 1 (lCons (mC (.int 12)) lNil))) (aCons (mL fMod (lCons (mL fMul (lSee 1 (lCons (mC (.int 465)) lNil))) (lCons (mL fPow (lCons (mC (.int 10)) (lCons (mC (.int 12)) lNil))) lNil))) (aCons (mC (.int 0)) aNil)))))) (lCons (mL fMod (lCons (mL fDiv (lSee 1 (lCons (mC (.int 12)) lNil))) (lCons (mC (.int 5)) lNil))) lNil)))) mNil))
def sem__law_price_59e4 : Sem1 := runF 2 [true] m__law_price_59e4
theorem un__law_price_59e4 (x0 : O) : sem__law_price_59e4 [x0] = fin [true] (m__law_price_59e4 [.pin x0, .no]) := id rfl

def b__law_tiers_fe28_1 : MS := (mSeq (mIf (mT (mL fLt (lSee 2 (lCons (mC (.int 13)) lNil)))) (mSeq (mDrop (mUp 1 (aCons (mFz (mA tupO (aCons (mVar 2) (aCons (mCallR sem__law_price_59e4 (aRf 0 aNil) [0]) aNil)))) aNil) uApp)) mNil) mNil) (mSeq (mSet 2 (mFz (mA addO (aCons (mA addO (aCons (mVar 2) (aCons (mC (.int 1)) aNil))) (aCons (mL fMod (lCons (mCallR sem__law_pop (aRf 0 aNil) [0]) (lCons (mC (.int 5)) lNil))) aNil))))) (mSeq (mKill [3]) mNil)))
def m__law_tiers_fe28 : MS := (mSeq (mSet 1 (mA lstO aNil)) (mSeq (mSet 2 (mC (.int 1))) (mSeq (mFor (iR1 (lCons (mA addO (aCons (mC (.int 1)) (aCons (mL fMod (lCons (mCallR sem__law_pop (aRf 0 aNil) [0]) (lCons (mC (.int 4)) lNil))) aNil))) lNil)) (.n 3) b__law_tiers_fe28_1) (mSeq (mKill [2, 3]) (mSeq (mRet (mMv 1)) mNil)))))
def sem__law_tiers_fe28 : Sem1 := runF 4 [true] m__law_tiers_fe28
theorem un__law_tiers_fe28 (x0 : O) : sem__law_tiers_fe28 [x0] = fin [true] (m__law_tiers_fe28 [.pin x0, .no, .no, .no]) := id rfl

def ct__law_shop_7fee_1 : MD Bool := (mT (mL fEq (lCons (mLk ixO (lSee 10 (lCons (mC (.int 0)) lNil))) (lCons (mC (.str "pack")) lNil))))
def ce__law_shop_7fee_1 : MD O := (mVar 9)
def b__law_shop_7fee_1 : MS := (mSeq (mSet 5 (mFz (mCallR sem__law_pop (aRf 0 aNil) [0]))) (mSeq (mSet 6 (mFz (mPeek [3] (mLc (iE (aCons (mVar 3) aNil)) (.tp [(.n 9), (.n 10)]) ct__law_shop_7fee_1 ce__law_shop_7fee_1 [9, 10])))) (mSeq (mSet 7 (mL fMod (lSee 5 (lCons (mC (.int 8)) lNil)))) (mSeq (mSet 8 (mCallR sem__law_content_e374 (aRf 0 (aCons (mVar 1) (aCons (mC (.int 9)) aNil))) [0])) (mSeq (mIf (mT (mL fLt (lSee 7 (lCons (mC (.int 2)) lNil)))) (mSeq (mDrop (mUp 3 (aCons (mA tupO (aCons (mC (.str "many")) (aMv 8 (aCons (mCallR sem__law_tiers_fe28 (aRf 0 aNil) [0]) aNil)))) aNil) uApp)) mNil) (mSeq (mIf (tAndM (mT (mL fLt (lSee 7 (lCons (mC (.int 4)) lNil)))) (mT (mL fNe (lSee 6 (lCons (mA lstO aNil) lNil))))) (mSeq (mDrop (mUp 3 (aCons (mA tupO (aCons (mC (.str "add")) (aMv 8 (aCons (mCallR sem__law_price_59e4 (aRf 0 aNil) [0]) (aCons (mLk ixO (lSee 6 (lCons (mL fMod (lCons (mL fDiv (lSee 5 (lCons (mC (.int 8)) lNil))) (lCons (mL fLen (lSee 6 lNil)) lNil))) lNil))) aNil))))) aNil) uApp)) mNil) (mSeq (mDrop (mUp 3 (aCons (mA tupO (aCons (mC (.str "pack")) (aMv 8 (aCons (mCallR sem__law_price_59e4 (aRf 0 aNil) [0]) aNil)))) aNil) uApp)) mNil)) mNil)) (mSeq (mKill [4, 5, 6, 7, 8]) mNil))))))
def m__law_shop_7fee : MS := (mSeq (mSet 3 (mA lstO aNil)) (mSeq (mFor (mFrzE [1] (iR1 (lCons (mL fMod (lCons (mCallR sem__law_pop (aRf 0 aNil) [0]) (lCons (mA addO (aCons (mVar 2) (aCons (mC (.int 1)) aNil))) lNil))) lNil))) (.n 4) b__law_shop_7fee_1) (mSeq (mKill [4, 5, 6, 7, 8]) (mSeq (mRet (mMv 3)) mNil))))
def sem__law_shop_7fee : Sem1 := runF 11 [true, false, false] m__law_shop_7fee
theorem un__law_shop_7fee (x0 x1 x2 : O) : sem__law_shop_7fee [x0, x1, x2] = fin [true, false, false] (m__law_shop_7fee [.pin x0, .own x1, .own x2, .no, .no, .no, .no, .no, .no, .no, .no]) := id rfl

def b__law_want_c9ae_1 : MS := (mSeq (mDrop (mUp 3 (aCons (mL fMod (lSee 2 (lCons (mC (.int 10)) lNil))) aNil) uApp)) (mSeq (mSet 2 (mL fDiv (lSee 2 (lCons (mC (.int 10)) lNil)))) (mSeq (mKill [4]) mNil)))
def m__law_want_c9ae : MS := (mSeq (mSet 2 (mFz (mCallR sem__law_pop (aRf 0 aNil) [0]))) (mSeq (mSet 3 (mA lstO aNil)) (mSeq (mFor (iR1 (lSee 1 lNil)) (.n 4) b__law_want_c9ae_1) (mSeq (mKill [2, 4]) (mSeq (mRet (mCallM sem__law_cut (aMv 3 aNil))) mNil)))))
def sem__law_want_c9ae : Sem1 := runF 5 [true, false] m__law_want_c9ae
theorem un__law_want_c9ae (x0 x1 : O) : sem__law_want_c9ae [x0, x1] = fin [true, false] (m__law_want_c9ae [.pin x0, .own x1, .no, .no, .no]) := id rfl

def m__law_case_2562 : MS := (mSeq (mSet 2 (mCallM sem__law_draws_bf2d (aCons (mVar 0) (aCons (mC (.int 1)) (aCons (mVar 1) aNil))))) (mSeq (mSet 3 (mLk ixO (lCons (mA lstO (aCons (mC (.int 1)) (aCons (mC (.int 2)) (aCons (mC (.int 2)) (aCons (mC (.int 3)) (aCons (mC (.int 2)) (aCons (mC (.int 3)) (aCons (mC (.int 1)) (aCons (mC (.int 4)) aNil))))))))) (lCons (mL fMod (lCons (mCallR sem__law_pop (aRf 2 aNil) [2]) (lCons (mC (.int 8)) lNil))) lNil)))) (mSeq (mSet 4 (mCallR sem__law_shop_7fee (aRf 2 (aCons (mVar 3) (aCons (mC (.int 8)) aNil))) [2])) (mSeq (mRet (mA tupO (aCons (mVar 3) (aMv 4 (aCons (mCallR sem__law_want_c9ae (aRf 2 (aCons (mVar 3) aNil)) [2]) (aMv 2 aNil)))))) mNil))))
def sem__law_case_2562 : Sem1 := runF 5 (List.replicate 2 false) m__law_case_2562
theorem un__law_case_2562 (x0 x1 : O) : sem__law_case_2562 [x0, x1] = fin (List.replicate 2 false) (m__law_case_2562 [.own x0, .own x1, .no, .no, .no]) := id rfl

def ce__law_groups_1 : MD O := (mA addO (aCons (mA lstO (aCons (mVar 2) aNil)) (aCons (mVar 3) aNil)))
def b__law_groups_1 : MS := (mSeq (mSet 1 (mA addO (aCons (mA addO (aCons (mSl (mVar 1) oNone (oSome (mC (.int 1)))) (aCons (mLc (mFrzE [2] (iL (mVar 1))) (.n 3) mYes ce__law_groups_1 [3]) aNil))) (aCons (mSl (mVar 1) (oSome (mC (.int 1))) oNone) aNil)))) (mSeq (mKill [2]) mNil))
def m__law_groups : MS := (mSeq (mSet 1 (mA lstO (aCons (mA lstO aNil) aNil))) (mSeq (mFor (iL (mRev (mVar 0))) (.n 2) b__law_groups_1) (mSeq (mKill [2]) (mSeq (mRet (mMv 1)) mNil))))
def sem__law_groups : Sem1 := runF 4 (List.replicate 1 false) m__law_groups
theorem un__law_groups (x0 : O) : sem__law_groups [x0] = fin (List.replicate 1 false) (m__law_groups [.own x0, .no, .no, .no]) := id rfl

def ct__law_lines_9070_1 : MD Bool := (tAndM (mT (mL fEq (lCons (mLk ixO (lSee 11 (lCons (mC (.int 0)) lNil))) (lCons (mC (.str "add")) lNil)))) (mT (mL fEq (lCons (mLk ixO (lSee 11 (lCons (mC (.int 3)) lNil))) (lSee 2 lNil)))))
def ce__law_lines_9070_1 : MD O := (mVar 10)
def b__law_lines_9070_1 : MS := (mSeq (mSet 7 (mFz (mCallM sem__law_sum (aCons (mVar 7) (aCons (mLk ixO (lCons (mLk ixO (lSee 0 (lSee 9 lNil))) (lCons (mC (.int 1)) lNil))) aNil))))) (mSeq (mSet 8 (mFz (mA addO (aCons (mVar 8) (aCons (mLk ixO (lCons (mLk ixO (lSee 0 (lSee 9 lNil))) (lCons (mC (.int 2)) lNil))) aNil))))) (mSeq (mKill [9]) mNil)))
def b__law_lines_9070_2 : MS := (mSeq (mSet 7 (mLk ixO (lSee 3 (lCons (mC (.int 1)) lNil)))) (mSeq (mSet 8 (mLk ixO (lSee 3 (lCons (mC (.int 2)) lNil)))) (mSeq (mFor (iL (mVar 5)) (.n 9) b__law_lines_9070_1) (mSeq (mKill [9]) (mSeq (mDrop (mUp 1 (aCons (mFz (mA tupO (aCons (mA tupO (aCons (mVar 2) (aCons (mC (.int 1)) (aCons (mVar 5) aNil)))) (aCons (mVar 7) (aCons (mVar 8) aNil))))) aNil) uApp)) (mSeq (mKill [5, 7, 8, 9]) mNil))))))
def ct__law_lines_9070_2 : MD Bool := (mT (mL fLe (lCons (mLk ixO (lSee 12 (lCons (mC (.int 0)) lNil))) (lSee 6 lNil))))
def ce__law_lines_9070_2 : MD O := (mLk ixO (lSee 12 (lCons (mC (.int 1)) lNil)))
def ce__law_lines_9070_3 : MD O := (mL fMul (lSee 6 (lSee 11 lNil)))
def b__law_lines_9070_3 : MS := (mSeq (mSet 8 (mLk ixO (lCons (mLc (iL (mLk ixO (lSee 3 (lCons (mC (.int 2)) lNil)))) (.n 12) ct__law_lines_9070_2 ce__law_lines_9070_2 [12]) (lCons (mL fNeg (lCons (mC (.int 1)) lNil)) lNil)))) (mSeq (mDrop (mUp 1 (aCons (mFz (mA tupO (aCons (mA tupO (aCons (mVar 2) (aCons (mVar 6) (aCons (mA lstO aNil) aNil)))) (aCons (mLc (iL (mLk ixO (lSee 3 (lCons (mC (.int 1)) lNil)))) (.n 11) mYes ce__law_lines_9070_3 [11]) (aCons (mL fMul (lSee 6 (lSee 8 lNil))) aNil))))) aNil) uApp)) (mSeq (mKill [6, 8]) mNil)))
def b__law_lines_9070_4 : MS := (mSeq (mIf (mT (mL fEq (lCons (mLk ixO (lSee 3 (lCons (mC (.int 0)) lNil))) (lCons (mC (.str "pack")) lNil)))) (mSeq (mSet 4 (mFz (mLc (iE (aCons (mVar 0) aNil)) (.tp [(.n 10), (.n 11)]) ct__law_lines_9070_1 ce__law_lines_9070_1 [10, 11]))) (mSeq (mFor (mFrzE [2] (iL (mFz (mCallM sem__law_groups (aCons (mVar 4) aNil))))) (.n 5) b__law_lines_9070_2) (mSeq (mKill [5, 7, 8, 9]) mNil))) mNil) (mSeq (mKill [4, 5, 7, 8, 9]) (mSeq (mIf (mT (mL fEq (lCons (mLk ixO (lSee 3 (lCons (mC (.int 0)) lNil))) (lCons (mC (.str "many")) lNil)))) (mSeq (mFor (mFrzE [2] (iR2 (lCons (mC (.int 1)) (lCons (mC (.int 13)) lNil)))) (.n 6) b__law_lines_9070_3) (mSeq (mKill [6, 8]) mNil)) mNil) (mSeq (mKill [2, 3, 4, 5, 6, 7, 8, 9]) mNil))))
def m__law_lines_9070 : MS := (mSeq (mSet 1 (mA lstO aNil)) (mSeq (mFor (mFrzE [0] (iE (aCons (mVar 0) aNil))) (.tp [(.n 2), (.n 3)]) b__law_lines_9070_4) (mSeq (mKill [2, 3, 4, 5, 6, 7, 8, 9]) (mSeq (mRet (mMv 1)) mNil))))
def sem__law_lines_9070 : Sem1 := runF 13 (List.replicate 1 false) m__law_lines_9070
theorem un__law_lines_9070 (x0 : O) : sem__law_lines_9070 [x0] = fin (List.replicate 1 false) (m__law_lines_9070 [.own x0, .no, .no, .no, .no, .no, .no, .no, .no, .no, .no, .no, .no]) := id rfl

def b__law_lesser_1 : MS := (mSeq (mDrop (mUp 3 (aCons (mFz (mA addO (aCons (mVar 4) (aCons (mA lstO (aCons (mVar 5) aNil)) aNil)))) aNil) uApp)) (mSeq (mKill [5]) mNil))
def b__law_lesser_2 : MS := (mSeq (mFor (mFrzE [4] (iR1 (lCons (mA addO (aCons (mVar 2) (aCons (mC (.int 1)) aNil))) lNil))) (.n 5) b__law_lesser_1) (mSeq (mKill [4, 5]) mNil))
def b__law_lesser_3 : MS := (mSeq (mSet 3 (mA lstO aNil)) (mSeq (mFor (mFrzE [2] (iL (mVar 1))) (.n 4) b__law_lesser_2) (mSeq (mKill [4, 5]) (mSeq (mSet 1 (mVar 3)) (mSeq (mKill [2, 3, 4, 5]) mNil)))))
def m__law_lesser : MS := (mSeq (mSet 1 (mA lstO (aCons (mA lstO aNil) aNil))) (mSeq (mFor (iL (mVar 0)) (.n 2) b__law_lesser_3) (mSeq (mKill [2, 3, 4, 5]) (mSeq (mRet (mMv 1)) mNil))))
def sem__law_lesser : Sem1 := runF 6 (List.replicate 1 false) m__law_lesser
theorem un__law_lesser (x0 : O) : sem__law_lesser [x0] = fin (List.replicate 1 false) (m__law_lesser [.own x0, .no, .no, .no, .no, .no]) := id rfl

def ce__law_rest_1 : MD O := (mL fMax (lCons (mC (.int 0)) (lCons (mL fSub (lCons (mLk ixO (lSee 0 (lSee 2 lNil))) (lCons (mLk ixO (lSee 1 (lSee 2 lNil))) lNil))) lNil)))
def m__law_rest : MS := (mSeq (mRet (mLc (iR1 (lCons (mL fLen (lSee 0 lNil)) lNil)) (.n 2) mYes ce__law_rest_1 [2])) mNil)
def sem__law_rest : Sem1 := runF 3 (List.replicate 2 false) m__law_rest
theorem un__law_rest (x0 x1 : O) : sem__law_rest [x0, x1] = fin (List.replicate 2 false) (m__law_rest [.own x0, .own x1, .no]) := id rfl

def b__law_table_1 : MS := (mSeq (mSet 9 (mFz (mCallM sem__law_rest (aCons (mVar 4) (aCons (mVar 7) aNil))))) (mSeq (mIf (tAndM (mT (mL fNe (lSee 9 (lSee 4 lNil)))) (mT (mL fNotN (lCons (mDget 3 (mA tupleO (aCons (mVar 9) aNil))) (lCons (mC .none) lNil))))) (mSeq (mDrop (mUp 5 (aCons (mFz (mA addO (aCons (mVar 8) (aCons (mDget 3 (mA tupleO (aCons (mVar 9) aNil))) aNil)))) aNil) uApp)) mNil) mNil) (mSeq (mKill [6, 7, 8, 9]) mNil)))
def b__law_table_2 : MS := (mSeq (mSet 5 (mSl (mA lstO (aCons (mC (.int 0)) aNil)) oNone (oSome (mL fInt (lCons (mL fEq (lCons (mL fSum (lSee 4 lNil)) (lCons (mC (.int 0)) lNil))) lNil))))) (mSeq (mFor (mFrzE [4] (iL (mVar 2))) (.tp [(.n 6), (.n 7), (.n 8)]) b__law_table_1) (mSeq (mKill [6, 7, 8, 9]) (mSeq (mDput 3 (mC .none) (mA tupleO (aCons (mVar 4) aNil))) (mSeq (mIf (mT (mL fNe (lSee 5 (lCons (mA lstO aNil) lNil)))) (mSeq (mDput 3 (mFz (mL fMin (lSee 5 lNil))) (mA tupleO (aCons (mVar 4) aNil))) mNil) mNil) (mSeq (mKill [4, 5, 6, 7, 8, 9]) mNil))))))
def m__law_table : MS := (mSeq (mSet 2 (mFz (mCallM sem__law_lines_9070 (aCons (mVar 0) aNil)))) (mSeq (mSet 3 (mDnT)) (mSeq (mFor (mFrzE [2] (iL (mFz (mCallM sem__law_lesser (aCons (mVar 1) aNil))))) (.n 4) b__law_table_2) (mSeq (mKill [4, 5, 6, 7, 8, 9]) (mSeq (mRet (mMv 3)) mNil)))))
def sem__law_table : Sem1 := runF 10 (List.replicate 2 false) m__law_table
theorem un__law_table (x0 x1 : O) : sem__law_table [x0, x1] = fin (List.replicate 2 false) (m__law_table [.own x0, .own x1, .no, .no, .no, .no, .no, .no, .no, .no]) := id rfl

def ce_goods_1 : MD O := (mA tupO (aCons (mVar 1) (aCons (mCallM sem_line_content (aCons (mVar 0) (aCons (mVar 1) aNil))) (aCons (mCallM sem_line_price (aCons (mVar 0) (aCons (mVar 1) aNil))) aNil))))
def m_goods : MS := (mSeq (mRet (mLc (mFrzE [0] (iL (mFz (mCallM sem_lines (aCons (mVar 0) aNil))))) (.n 1) mYes ce_goods_1 [1])) mNil)
def sem_goods : Sem1 := runF 2 (List.replicate 1 false) m_goods
theorem un_goods (x0 : O) : sem_goods [x0] = fin (List.replicate 1 false) (m_goods [.own x0, .no]) := id rfl

def b_best_of_1 : MS := (mSeq (mSet 7 (mFz (mCallM sem_rest (aCons (mVar 2) (aCons (mVar 5) aNil))))) (mSeq (mIf (tAndM (mT (mL fNe (lSee 7 (lSee 2 lNil)))) (mT (mL fNotN (lCons (mDget 1 (mA tupleO (aCons (mVar 7) aNil))) (lCons (mC .none) lNil))))) (mSeq (mSet 8 (mFz (mA addO (aCons (mVar 6) (aCons (mLk ixO (lCons (mDget 1 (mA tupleO (aCons (mVar 7) aNil))) (lCons (mC (.int 0)) lNil))) aNil))))) (mSeq (mIf (tOrM (mT (mL fIsN (lSee 3 (lCons (mC .none) lNil)))) (mT (mL fLt (lSee 8 (lCons (mLk ixO (lSee 3 (lCons (mC (.int 0)) lNil))) lNil))))) (mSeq (mSet 3 (mA tupO (aCons (mVar 8) (aCons (mVar 4) aNil)))) mNil) mNil) mNil)) mNil) (mSeq (mKill [4, 5, 6, 7, 8]) mNil)))
def m_best_of : MS := (mSeq (mSet 3 (mC .none)) (mSeq (mFor (mFrzE [2] (iL (mVar 0))) (.tp [(.n 4), (.n 5), (.n 6)]) b_best_of_1) (mSeq (mKill [4, 5, 6, 7, 8]) (mSeq (mRet (mMv 3)) mNil))))
def sem_best_of : Sem1 := runF 9 [false, true, false] m_best_of
theorem un_best_of (x0 x1 x2 : O) : sem_best_of [x0, x1, x2] = fin [false, true, false] (m_best_of [.own x0, .pin x1, .own x2, .no, .no, .no, .no, .no, .no]) := id rfl

def b_reckoned_1 : MS := (mSeq (mIf (mT (mL fEq (lCons (mL fSum (lSee 4 lNil)) (lCons (mC (.int 0)) lNil)))) (mSeq (mDput 3 (mFz (mA tupO (aCons (mC (.int 0)) (aCons (mC .none) aNil)))) (mA tupleO (aCons (mVar 4) aNil))) mNil) (mSeq (mDput 3 (mFz (mCallR sem_best_of (aCons (mVar 2) (aRf 3 (aCons (mVar 4) aNil))) [3])) (mA tupleO (aCons (mVar 4) aNil))) mNil)) (mSeq (mKill [4]) mNil))
def m_reckoned : MS := (mSeq (mSet 2 (mFz (mCallM sem_goods (aCons (mVar 0) aNil)))) (mSeq (mSet 3 (mDnT)) (mSeq (mFor (mFrzE [2] (iL (mFz (mCallM sem_lesser (aCons (mVar 1) aNil))))) (.n 4) b_reckoned_1) (mSeq (mKill [4]) (mSeq (mRet (mMv 3)) mNil)))))
def sem_reckoned : Sem1 := runF 5 (List.replicate 2 false) m_reckoned
theorem un_reckoned (x0 x1 : O) : sem_reckoned [x0, x1] = fin (List.replicate 2 false) (m_reckoned [.own x0, .own x1, .no, .no, .no]) := id rfl

def m_own_line : MS := (mSeq (mRet (mA tupO (aCons (mLk ixO (lSee 0 (lCons (mC (.int 0)) lNil))) (aCons (mLk ixO (lSee 0 (lCons (mC (.int 1)) lNil))) (aCons (mA listO (aCons (mLk ixO (lSee 0 (lCons (mC (.int 2)) lNil))) aNil)) aNil))))) mNil)
def sem_own_line : Sem1 := runF 1 (List.replicate 1 false) m_own_line
theorem un_own_line (x0 : O) : sem_own_line [x0] = fin (List.replicate 1 false) (m_own_line [.own x0]) := id rfl

def t_least_1 : MD Bool := (mT (mL fNotN (lCons (mLk ixO (lSee 3 (lCons (mC (.int 1)) lNil))) (lCons (mC .none) lNil))))
def b_least_1 : MS := (mSeq (mDrop (mUp 5 (aCons (mCallM sem_own_line (aCons (mLk ixO (lSee 3 (lCons (mC (.int 1)) lNil))) aNil)) aNil) uApp)) (mSeq (mSet 6 (mFz (mCallM sem_rest (aCons (mVar 6) (aCons (mFz (mCallM sem_line_content (aCons (mVar 0) (aCons (mLk ixO (lSee 3 (lCons (mC (.int 1)) lNil))) aNil)))) aNil))))) (mSeq (mSet 3 (mDget 2 (mA tupleO (aCons (mVar 6) aNil)))) mNil)))
def m_least : MS := (mSeq (mSet 2 (mCallM sem_reckoned (aCons (mVar 0) (aCons (mVar 1) aNil)))) (mSeq (mSet 3 (mDget 2 (mA tupleO (aCons (mVar 1) aNil)))) (mSeq (mIf (mT (mL fIsN (lSee 3 (lCons (mC .none) lNil)))) (mSeq (mRet (mC .none)) mNil) mNil) (mSeq (mSet 4 (mLk ixO (lSee 3 (lCons (mC (.int 0)) lNil)))) (mSeq (mSet 5 (mA lstO aNil)) (mSeq (mSet 6 (mFz (mA listO (aCons (mVar 1) aNil)))) (mSeq (mFrz [0]) (mSeq (mWhile t_least_1 b_least_1) (mSeq (mKill [3, 6]) (mSeq (mRet (mA tupO (aCons (mVar 4) (aCons (mA srtO (aMv 5 aNil)) aNil)))) mNil))))))))))
def sem_least : Sem1 := runF 7 (List.replicate 2 false) m_least
theorem un_least (x0 x1 : O) : sem_least [x0, x1] = fin (List.replicate 2 false) (m_least [.own x0, .own x1, .no, .no, .no, .no, .no]) := id rfl

def m_number_of : MS := (mSeq (mIf (mT (mL fIsN (lSee 0 (lCons (mC .none) lNil)))) (mSeq (mRet (mC .none)) mNil) mNil) (mSeq (mRet (mLk ixO (lSee 0 (lCons (mC (.int 0)) lNil)))) mNil))
def sem_number_of : Sem1 := runF 1 (List.replicate 1 false) m_number_of
theorem un_number_of (x0 : O) : sem_number_of [x0] = fin (List.replicate 1 false) (m_number_of [.own x0]) := id rfl

def ce_cases_1 : MD O := (mA tupO (aMv 3 (aCons (mCallM sem_number_of (aCons (mDget 2 (mTupS 3)) aNil)) aNil)))
def m_cases : MS := (mSeq (mSet 2 (mCallM sem_reckoned (aCons (mVar 0) (aCons (mVar 1) aNil)))) (mSeq (mRet (mLc (iL (mCallM sem_lesser (aCons (mVar 1) aNil))) (.n 3) mYes ce_cases_1 [3])) mNil))
def sem_cases : Sem1 := runF 4 (List.replicate 2 false) m_cases
theorem un_cases (x0 x1 : O) : sem_cases [x0, x1] = fin (List.replicate 2 false) (m_cases [.own x0, .own x1, .no, .no]) := id rfl

def m_line_shows : MS := (mSeq (mSet 4 (mDget 0 (mA tupleO (aCons (mVar 1) aNil)))) (mSeq (mSet 5 (mDget 0 (mA tupleO (aCons (mCallM sem_rest (aCons (mVar 1) (aCons (mVar 2) aNil))) aNil)))) (mSeq (mIf (mT (mL fIsN (lSee 5 (lCons (mC .none) lNil)))) (mSeq (mRet (mC (.bool true))) mNil) mNil) (mSeq (mRet (vAnd (mL fNotN (lSee 4 (lCons (mC .none) lNil))) (mL fLe (lSee 4 (lCons (mA addO (aCons (mVar 3) (aCons (mVar 5) aNil))) lNil))))) mNil))))
def sem_line_shows : Sem1 := runF 6 [true, false, false, false] m_line_shows
theorem un_line_shows (x0 x1 x2 x3 : O) : sem_line_shows [x0, x1, x2, x3] = fin [true, false, false, false] (m_line_shows [.pin x0, .own x1, .own x2, .own x3, .no, .no]) := id rfl

def ce_shows_1 : MD O := (mLk ixO (lSee 5 (lCons (mC (.int 0)) lNil)))
def b_shows_1 : MS := (mSeq (mDput 6 (mVar 8) (mA tupleO (aCons (mVar 7) aNil))) (mSeq (mKill [7, 8]) mNil))
def ce_shows_2 : MD O := (mCallR sem_line_shows (aRf 6 (aCons (mVar 7) (aCons (mVar 10) (aCons (mVar 11) aNil)))) [6])
def b_shows_2 : MS := (mSeq (mIf (tNotM (mT (mL fAll (lCons (mLc (mFrzE [7] (iL (mVar 3))) (.tp [(.n 9), (.n 10), (.n 11)]) mYes ce_shows_2 [9, 10, 11]) lNil)))) (mSeq (mRet (mC (.bool false))) mNil) mNil) (mSeq (mKill [7]) mNil))
def m_shows : MS := (mSeq (mSet 3 (mFz (mCallM sem_goods (aCons (mVar 0) aNil)))) (mSeq (mSet 4 (mFz (mCallM sem_lesser (aCons (mVar 1) aNil)))) (mSeq (mIf (mT (mL fNe (lCons (mLc (iL (mVar 2)) (.n 5) mYes ce_shows_1 [5]) (lSee 4 lNil)))) (mSeq (mRet (mC (.bool false))) mNil) mNil) (mSeq (mSet 6 (mDnT)) (mSeq (mFor (iL (mVar 2)) (.tp [(.n 7), (.n 8)]) b_shows_1) (mSeq (mKill [7, 8]) (mSeq (mIf (tOrM (mT (mL fIsN (lCons (mLk ixO (lCons (mLk ixO (lSee 2 (lCons (mC (.int 0)) lNil))) (lCons (mC (.int 1)) lNil))) (lCons (mC .none) lNil)))) (mT (mL fGt (lCons (mLk ixO (lCons (mLk ixO (lSee 2 (lCons (mC (.int 0)) lNil))) (lCons (mC (.int 1)) lNil))) (lCons (mC (.int 0)) lNil))))) (mSeq (mRet (mC (.bool false))) mNil) mNil) (mSeq (mFor (mFrzE [3] (iL (mVar 4))) (.n 7) b_shows_2) (mSeq (mKill [7]) (mSeq (mRet (mC (.bool true))) mNil))))))))))
def sem_shows : Sem1 := runF 12 (List.replicate 3 false) m_shows
theorem un_shows (x0 x1 x2 : O) : sem_shows [x0, x1, x2] = fin (List.replicate 3 false) (m_shows [.own x0, .own x1, .own x2, .no, .no, .no, .no, .no, .no, .no, .no, .no]) := id rfl

def ce__law_shows_1 : MD O := (mLk ixO (lSee 4 (lCons (mC (.int 0)) lNil)))
def b__law_shows_1 : MS := (mSeq (mDput 5 (mVar 7) (mA tupleO (aCons (mVar 6) aNil))) (mSeq (mKill [6, 7]) mNil))
def b__law_shows_2 : MS := (mSeq (mSet 11 (mDget 5 (mA tupleO (aCons (mVar 6) aNil)))) (mSeq (mSet 12 (mDget 5 (mA tupleO (aCons (mCallM sem__law_rest (aCons (mVar 6) (aCons (mVar 9) aNil))) aNil)))) (mSeq (mIf (tAndM (mT (mL fNotN (lSee 12 (lCons (mC .none) lNil)))) (tOrM (mT (mL fIsN (lSee 11 (lCons (mC .none) lNil)))) (mT (mL fGt (lSee 11 (lCons (mA addO (aCons (mVar 10) (aCons (mVar 12) aNil))) lNil)))))) (mSeq (mRet (mC (.bool false))) mNil) mNil) (mSeq (mKill [6, 11, 12]) mNil))))
def b__law_shows_3 : MS := (mSeq (mFor (mFrzE [9, 10] (iL (mVar 3))) (.n 6) b__law_shows_2) (mSeq (mKill [6, 8, 9, 10, 11, 12]) mNil))
def m__law_shows : MS := (mSeq (mSet 3 (mFz (mCallM sem__law_lesser (aCons (mVar 1) aNil)))) (mSeq (mIf (mT (mL fNe (lCons (mLc (iL (mVar 2)) (.n 4) mYes ce__law_shows_1 [4]) (lSee 3 lNil)))) (mSeq (mRet (mC (.bool false))) mNil) mNil) (mSeq (mSet 5 (mDnT)) (mSeq (mFor (iL (mVar 2)) (.tp [(.n 6), (.n 7)]) b__law_shows_1) (mSeq (mKill [6, 7]) (mSeq (mIf (tOrM (mT (mL fIsN (lCons (mLk ixO (lCons (mLk ixO (lSee 2 (lCons (mC (.int 0)) lNil))) (lCons (mC (.int 1)) lNil))) (lCons (mC .none) lNil)))) (mT (mL fGt (lCons (mLk ixO (lCons (mLk ixO (lSee 2 (lCons (mC (.int 0)) lNil))) (lCons (mC (.int 1)) lNil))) (lCons (mC (.int 0)) lNil))))) (mSeq (mRet (mC (.bool false))) mNil) mNil) (mSeq (mFor (mFrzE [3] (iL (mFz (mCallM sem__law_lines_9070 (aCons (mVar 0) aNil))))) (.tp [(.n 8), (.n 9), (.n 10)]) b__law_shows_3) (mSeq (mKill [6, 8, 9, 10, 11, 12]) (mSeq (mRet (mC (.bool true))) mNil)))))))))
def sem__law_shows : Sem1 := runF 13 (List.replicate 3 false) m__law_shows
theorem un__law_shows (x0 x1 x2 : O) : sem__law_shows [x0, x1, x2] = fin (List.replicate 3 false) (m__law_shows [.own x0, .own x1, .own x2, .no, .no, .no, .no, .no, .no, .no, .no, .no, .no]) := id rfl

def m__law_less : MS := (mSeq (mIf (mT (mL fIsN (lSee 0 (lCons (mC .none) lNil)))) (mSeq (mRet (mC .none)) mNil) mNil) (mSeq (mRet (mL fSub (lSee 0 (lSee 1 lNil)))) mNil))
def sem__law_less : Sem1 := runF 2 (List.replicate 2 false) m__law_less
theorem un__law_less (x0 x1 : O) : sem__law_less [x0, x1] = fin (List.replicate 2 false) (m__law_less [.own x0, .own x1]) := id rfl

def m__law_one_bent : MS := (mSeq (mSet 2 (mFz (mCallR sem__law_pop (aRf 1 aNil) [1]))) (mSeq (mSet 3 (mL fMod (lSee 2 (lCons (mL fLen (lSee 0 lNil)) lNil)))) (mSeq (mAsg (.tp [(.n 4), (.n 5)]) (mLk ixO (lSee 0 (lSee 3 lNil)))) (mSeq (mIf (mT (mL fIsN (lSee 5 (lCons (mC .none) lNil)))) (mSeq (mSet 6 (mLk ixO (lCons (mA lstO (aCons (mC (.int 0)) (aCons (mC (.int 5)) (aCons (mC .none) aNil)))) (lCons (mL fMod (lCons (mL fDiv (lSee 2 (lCons (mC (.int 512)) lNil))) (lCons (mC (.int 3)) lNil))) lNil)))) mNil) (mSeq (mSet 6 (mLk ixO (lCons (mA lstO (aCons (mA addO (aCons (mVar 5) (aCons (mC (.int 1)) aNil))) (aCons (mL fSub (lSee 5 (lCons (mC (.int 1)) lNil))) (aCons (mL fSub (lSee 5 (lCons (mC (.int 3)) lNil))) (aCons (mC .none) (aCons (mC (.int 0)) (aCons (mA addO (aCons (mVar 5) (aCons (mC (.int 50)) aNil))) aNil))))))) (lCons (mL fMod (lCons (mL fDiv (lSee 2 (lCons (mC (.int 512)) lNil))) (lCons (mC (.int 6)) lNil))) lNil)))) mNil)) (mSeq (mRet (mA addO (aCons (mA addO (aCons (mSl (mVar 0) oNone (oSome (mVar 3))) (aCons (mA lstO (aCons (mA tupO (aCons (mVar 4) (aCons (mVar 6) aNil))) aNil)) aNil))) (aCons (mSl (mVar 0) (oSome (mA addO (aCons (mVar 3) (aCons (mC (.int 1)) aNil)))) oNone) aNil)))) mNil)))))
def sem__law_one_bent : Sem1 := runF 7 [false, true] m__law_one_bent
theorem un__law_one_bent (x0 x1 : O) : sem__law_one_bent [x0, x1] = fin [false, true] (m__law_one_bent [.own x0, .pin x1, .no, .no, .no, .no, .no]) := id rfl

def ce__law_bent_2788_1 : MD O := (mL fSub (lCons (mC (.int 0)) (lSee 9 lNil)))
def ce__law_bent_2788_2 : MD O := (mA addO (aCons (mVar 9) (aCons (mC (.int 9)) aNil)))
def ce__law_bent_2788_3 : MD O := (mA tupO (aCons (mVar 7) (aCons (mCallM sem__law_less (aCons (mVar 8) (aCons (mVar 10) aNil))) aNil)))
def ce__law_bent_2788_4 : MD O := (mA tupO (aCons (mVar 7) (aCons (mC (.int 0)) aNil)))
def b__law_bent_2788_1 : MS := (mSeq (mSet 0 (mCallR sem__law_one_bent (aCons (mVar 0) (aRf 1 aNil)) [1])) (mSeq (mKill [11]) mNil))
def m__law_bent_2788 : MS := (mSeq (mSet 2 (mFz (mCallR sem__law_pop (aRf 1 aNil) [1]))) (mSeq (mSet 3 (mL fMod (lSee 2 (lCons (mC (.int 6)) lNil)))) (mSeq (mSet 4 (mL fMod (lCons (mL fDiv (lSee 2 (lCons (mC (.int 6)) lNil))) (lCons (mL fLen (lSee 0 lNil)) lNil)))) (mSeq (mIf (mT (mL fEq (lSee 3 (lCons (mC (.int 0)) lNil)))) (mSeq (mAsg (.tp [(.n 7), (.n 8)]) (mLk ixO (lSee 0 (lSee 4 lNil)))) (mSeq (mSet 5 (mLk ixO (lCons (mFz (mA lstO (aCons (mA addO (aCons (mVar 7) (aCons (mA lstO (aCons (mC (.int 0)) aNil)) aNil))) (aCons (mSl (mVar 7) oNone (oSome (mL fNeg (lCons (mC (.int 1)) lNil)))) (aCons (mLc (iL (mVar 7)) (.n 9) mYes ce__law_bent_2788_2 [9]) (aCons (mLc (iL (mVar 7)) (.n 9) mYes ce__law_bent_2788_1 [9]) aNil)))))) (lCons (mL fMod (lCons (mL fDiv (lSee 2 (lCons (mC (.int 30000)) lNil))) (lCons (mC (.int 4)) lNil))) lNil)))) (mSeq (mSet 6 (mFz (mA lstO (aCons (mA addO (aCons (mSl (mVar 0) oNone (oSome (mVar 4))) (aCons (mSl (mVar 0) (oSome (mA addO (aCons (mVar 4) (aCons (mC (.int 1)) aNil)))) oNone) aNil))) (aCons (mA addO (aCons (mVar 0) (aCons (mA lstO (aCons (mLk ixO (lSee 0 (lSee 4 lNil))) aNil)) aNil))) (aCons (mA addO (aCons (mSl (mVar 0) (oSome (mVar 4)) oNone) (aCons (mSl (mVar 0) oNone (oSome (mVar 4))) aNil))) aNil)))))) (mSeq (mRet (mLk ixO (lCons (mFz (mA addO (aCons (mVar 6) (aCons (mA repO (aCons (mFz (mA lstO (aCons (mA addO (aCons (mA addO (aCons (mSl (mVar 0) oNone (oSome (mVar 4))) (aCons (mA lstO (aCons (mA tupO (aCons (mVar 5) (aCons (mVar 8) aNil))) aNil)) aNil))) (aCons (mSl (mVar 0) (oSome (mA addO (aCons (mVar 4) (aCons (mC (.int 1)) aNil)))) oNone) aNil))) aNil))) (aCons (mC (.int 2)) aNil))) aNil)))) (lCons (mL fMod (lCons (mL fDiv (lSee 2 (lCons (mC (.int 6000)) lNil))) (lCons (mC (.int 5)) lNil))) lNil)))) mNil)))) mNil) (mSeq (mKill [5, 6, 7, 8]) (mSeq (mIf (mT (mL fEq (lSee 3 (lCons (mC (.int 1)) lNil)))) (mSeq (mSet 10 (mLk ixO (lCons (mA lstO (aCons (mC (.int 1)) (aCons (mC (.int 7)) (aCons (mL fNeg (lCons (mC (.int 1)) lNil)) aNil)))) (lCons (mL fMod (lCons (mL fDiv (lSee 2 (lCons (mC (.int 6000)) lNil))) (lCons (mC (.int 3)) lNil))) lNil)))) (mSeq (mRet (mLc (mFrzE [10] (iL (mVar 0))) (.tp [(.n 7), (.n 8)]) mYes ce__law_bent_2788_3 [7, 8])) mNil)) mNil) (mSeq (mKill [10]) (mSeq (mIf (mT (mL fEq (lSee 3 (lCons (mC (.int 2)) lNil)))) (mSeq (mRet (mLc (iL (mVar 0)) (.tp [(.n 7), (.n 8)]) mYes ce__law_bent_2788_4 [7, 8])) mNil) mNil) (mSeq (mFor (iR1 (lCons (mL fSub (lSee 3 (lCons (mC (.int 1)) lNil))) lNil)) (.n 11) b__law_bent_2788_1) (mSeq (mKill [11]) (mSeq (mRet (mMv 0)) mNil)))))))))))
def sem__law_bent_2788 : Sem1 := runF 12 [false, true] m__law_bent_2788
theorem un__law_bent_2788 (x0 x1 : O) : sem__law_bent_2788 [x0, x1] = fin [false, true] (m__law_bent_2788 [.own x0, .pin x1, .no, .no, .no, .no, .no, .no, .no, .no, .no, .no]) := id rfl

def ce__law_names_1 : MD O := (mLk ixO (lSee 6 (lCons (mL fMod (lCons (mL fDiv (lSee 5 (lCons (mL fMul (lCons (mC (.int 100)) (lCons (mA addO (aCons (mC (.int 1)) (aCons (mL fMul (lCons (mL fMul (lCons (mC (.int 2)) (lSee 8 lNil))) (lSee 8 lNil))) aNil))) lNil))) lNil))) (lCons (mC (.int 26)) lNil))) lNil)))
def b__law_names_1 : MS := (mSeq (mSet 5 (mFz (mCallR sem__law_pop (aRf 0 aNil) [0]))) (mSeq (mSet 6 (mC (.str "abcdefghijklmnopqrstuvwxyz"))) (mSeq (mSet 7 (mFz (mA joinO (aCons (mC (.str "")) (aCons (mLc (iR1 (lCons (mA addO (aCons (mC (.int 1)) (aCons (mL fMod (lSee 5 (lCons (mC (.int 7)) lNil))) aNil))) lNil)) (.n 8) mYes ce__law_names_1 [8]) aNil))))) (mSeq (mIf (mT (mL fEq (lCons (mL fMod (lCons (mL fDiv (lSee 5 (lCons (mC (.int 7)) lNil))) (lCons (mC (.int 3)) lNil))) (lCons (mC (.int 0)) lNil)))) (mSeq (mSet 7 (mLk ixO (lSee 2 (lCons (mL fMod (lCons (mL fDiv (lSee 5 (lCons (mC (.int 21)) lNil))) (lCons (mC (.int 8)) lNil))) lNil)))) mNil) mNil) (mSeq (mIf (mT (mL fIn (lSee 7 (lSee 3 lNil)))) (mSeq (mSet 7 (mL fMulS (lCons (mLk ixO (lCons (mC (.str "abcd")) (lSee 4 lNil))) (lCons (mC (.int 8)) lNil)))) mNil) mNil) (mSeq (mDrop (mUp 3 (aCons (mVar 7) aNil) uApp)) (mSeq (mKill [4, 5, 6, 7]) mNil)))))))
def m__law_names : MS := (mSeq (mSet 2 (mFz (mA lstO (aCons (mC (.str "for")) (aCons (mC (.str "many")) (aCons (mC (.str "with")) (aCons (mC (.str "nothing")) (aCons (mC (.str "x")) (aCons (mC (.str "things")) (aCons (mC (.str "none")) (aCons (mC (.str "i")) aNil))))))))))) (mSeq (mSet 3 (mA lstO aNil)) (mSeq (mFor (iR1 (lSee 1 lNil)) (.n 4) b__law_names_1) (mSeq (mKill [4, 5, 6, 7]) (mSeq (mRet (mMv 3)) mNil)))))
def sem__law_names : Sem1 := runF 9 [true, false] m__law_names
theorem un__law_names (x0 x1 : O) : sem__law_names [x0, x1] = fin [true, false] (m__law_names [.pin x0, .own x1, .no, .no, .no, .no, .no, .no, .no]) := id rfl

def ct__law_content_text_1 : MD Bool := (mT (mL fGt (lCons (mLk ixO (lSee 1 (lSee 3 lNil))) (lCons (mC (.int 0)) lNil))))
def ce__law_content_text_1 : MD O := (mA addO (aCons (mA addO (aCons (mL fStrD (lCons (mLk ixO (lSee 1 (lSee 3 lNil))) lNil)) (aCons (mC (.str " ")) aNil))) (aCons (mLk ixO (lSee 0 (lSee 3 lNil))) aNil)))
def m__law_content_text : MS := (mSeq (mSet 2 (mFz (mLc (iR1 (lCons (mL fLen (lSee 0 lNil)) lNil)) (.n 3) ct__law_content_text_1 ce__law_content_text_1 [3]))) (mSeq (mIf (mT (mL fEq (lSee 2 (lCons (mA lstO aNil) lNil)))) (mSeq (mRet (mC (.str "nothing"))) mNil) mNil) (mSeq (mRet (mA joinO (aCons (mC (.str ", ")) (aCons (mVar 2) aNil)))) mNil)))
def sem__law_content_text : Sem1 := runF 4 (List.replicate 2 false) m__law_content_text
theorem un__law_content_text (x0 x1 : O) : sem__law_content_text [x0, x1] = fin (List.replicate 2 false) (m__law_content_text [.own x0, .own x1, .no, .no]) := id rfl

def ct_show_content_1 : MD Bool := (mT (mL fGt (lSee 3 (lCons (mC (.int 0)) lNil))))
def ce_show_content_1 : MD O := (mA addO (aCons (mA addO (aCons (mL fStrD (lSee 3 lNil)) (aCons (mC (.str " ")) aNil))) (aCons (mVar 4) aNil)))
def m_show_content : MS := (mSeq (mSet 2 (mFz (mLc (iZ (aCons (mVar 1) (aCons (mVar 0) aNil))) (.tp [(.n 3), (.n 4)]) ct_show_content_1 ce_show_content_1 [3, 4]))) (mSeq (mIf (mT (mL fEq (lSee 2 (lCons (mA lstO aNil) lNil)))) (mSeq (mRet (mC (.str "nothing"))) mNil) mNil) (mSeq (mRet (mA joinO (aCons (mC (.str ", ")) (aCons (mVar 2) aNil)))) mNil)))
def sem_show_content : Sem1 := runF 5 (List.replicate 2 false) m_show_content
theorem un_show_content (x0 x1 : O) : sem_show_content [x0, x1] = fin (List.replicate 2 false) (m_show_content [.own x0, .own x1, .no, .no, .no]) := id rfl

def ce_read_number_1 : MD O := (mL fNotIn (lSee 2 (lCons (mC (.str "0123456789")) lNil)))
def m_read_number : MS := (mSeq (mIf (tOrM (tNotM (mT (mChain fLe fLe (lCons (mC (.int 1)) (lCons (mL fLen (lSee 0 lNil)) lNil)) (mVar 1)))) (mT (mL fAny (lCons (mLc (iS (mVar 0)) (.n 2) mYes ce_read_number_1 [2]) lNil)))) (mSeq (mRet (mC .none)) mNil) mNil) (mSeq (mIf (tAndM (mT (mL fEq (lCons (mLk ixO (lSee 0 (lCons (mC (.int 0)) lNil))) (lCons (mC (.str "0")) lNil)))) (mT (mL fNe (lSee 0 (lCons (mC (.str "0")) lNil))))) (mSeq (mRet (mC .none)) mNil) mNil) (mSeq (mRet (mL fInt (lSee 0 lNil))) mNil)))
def sem_read_number : Sem1 := runF 3 (List.replicate 2 false) m_read_number
theorem un_read_number (x0 x1 : O) : sem_read_number [x0, x1] = fin (List.replicate 2 false) (m_read_number [.own x0, .own x1, .no]) := id rfl

def ce_content_of_1 : MD O := (mC (.int 0))
def b_content_of_1 : MS := (mSeq (mAsg (.tp [(.n 8), (.n 9), (.n 3)]) (mA partO (aCons (mVar 6) (aCons (mC (.str " ")) aNil)))) (mSeq (mSet 7 (mFz (mCallM sem_read_number (aCons (mVar 8) (aCons (mC (.int 1)) aNil))))) (mSeq (mIf (tOrM (mT (mL fIsN (lSee 7 (lCons (mC .none) lNil)))) (tOrM (mT (mL fEq (lSee 7 (lCons (mC (.int 0)) lNil)))) (tOrM (mT (mL fNotIn (lSee 3 (lSee 0 lNil)))) (mT (mL fLe (lCons (mLM 0 fIndex (lSee 3 lNil)) (lSee 4 lNil))))))) (mSeq (mRet (mC .none)) mNil) mNil) (mSeq (mSet 4 (mFz (mLM 0 fIndex (lSee 3 lNil)))) (mSeq (mSetI 2 (mVar 7) (mVar 4)) (mSeq (mSet 5 (mL fMul (lSee 5 (lCons (mA addO (aCons (mVar 7) (aCons (mC (.int 1)) aNil))) lNil)))) (mSeq (mKill [3, 6, 7, 8, 9]) mNil)))))))
def m_content_of : MS := (mSeq (mSet 2 (mLc (iL (mVar 0)) (.n 3) mYes ce_content_of_1 [3])) (mSeq (mIf (mT (mL fEq (lSee 1 (lCons (mC (.str "nothing")) lNil)))) (mSeq (mRet (mMv 2)) mNil) mNil) (mSeq (mSet 4 (mL fNeg (lCons (mC (.int 1)) lNil))) (mSeq (mSet 5 (mC (.int 1))) (mSeq (mFor (iL (mA splitO (aCons (mVar 1) (aCons (mC (.str ", ")) aNil)))) (.n 6) b_content_of_1) (mSeq (mKill [3, 4, 6, 7, 8, 9]) (mSeq (mIf (mT (mL fGt (lSee 5 (lCons (mC (.int 400)) lNil)))) (mSeq (mRet (mC .none)) mNil) mNil) (mSeq (mRet (mMv 2)) mNil))))))))
def sem_content_of : Sem1 := runF 10 (List.replicate 2 false) m_content_of
theorem un_content_of (x0 x1 : O) : sem_content_of [x0, x1] = fin (List.replicate 2 false) (m_content_of [.own x0, .own x1, .no, .no, .no, .no, .no, .no, .no, .no]) := id rfl

def m_read_content : MS := (mSeq (mSet 2 (mCallM sem_content_of (aCons (mVar 0) (aCons (mVar 1) aNil)))) (mSeq (mIf (mT (mL fIsN (lSee 2 (lCons (mC .none) lNil)))) (mSeq mNo mNil) mNil) (mSeq (mRet (mMv 2)) mNil)))
def sem_read_content : Sem1 := runF 3 (List.replicate 2 false) m_read_content
theorem un_read_content (x0 x1 : O) : sem_read_content [x0, x1] = fin (List.replicate 2 false) (m_read_content [.own x0, .own x1, .no]) := id rfl

def b_law_k36_1 : MS := (mSeq (mSet 10 (mCallM sem_read_content (aCons (mLk ixO (lSee 6 (lCons (mC (.int 0)) lNil))) (aCons (mVar 7) aNil)))) (mSeq (mIf (tOrM (tNotM (mT (mCallL sem__law_numbers (lSee 10 (lSee 5 lNil))))) (mT (mL fNe (lCons (mLk ixO (lSee 6 (lCons (mC (.int 0)) lNil))) (lSee 3 lNil))))) (mSeq (mRet (mC (.bool false))) mNil) mNil) (mSeq (mDrop (mUp 10 (aCons (mC (.int 1)) aNil) uApp)) (mSeq (mKill [9, 10]) mNil))))
def b_law_k36_2 : MS := (mSeq (mSet 5 (mLk ixO (lCons (mFz (mA lstO (aCons (mCallR sem__law_want_aecb (aRf 1 (aCons (mVar 2) aNil)) [1]) (aCons (mA repO (aCons (mA lstO (aCons (mC (.int 0)) aNil)) (aCons (mVar 2) aNil))) aNil)))) (lCons (mL fInt (lCons (mL fEq (lSee 4 (lCons (mC (.int 5)) lNil))) lNil)) lNil)))) (mSeq (mSet 6 (mFz (mA lstO (aCons (mA listO (aCons (mVar 3) aNil)) (aCons (mA listO (aCons (mVar 5) aNil)) aNil))))) (mSeq (mSet 7 (mFz (mCallM sem__law_content_text (aCons (mVar 3) (aCons (mVar 5) aNil))))) (mSeq (mSet 8 (mFz (mCallM sem_show_content (aCons (mLk ixO (lSee 6 (lCons (mC (.int 0)) lNil))) (aCons (mLk ixO (lSee 6 (lCons (mC (.int 1)) lNil))) aNil))))) (mSeq (mIf (tOrM (tNotM (mT (mL (fIsi "str") (lSee 8 lNil)))) (tOrM (mT (mL fNe (lSee 8 (lSee 7 lNil)))) (mT (mL fNe (lSee 6 (lCons (mA lstO (aCons (mVar 3) (aCons (mVar 5) aNil))) lNil)))))) (mSeq (mRet (mC (.bool false))) mNil) mNil) (mSeq (mFor (mFrzE [7] (iR1 (lCons (mC (.int 2)) lNil))) (.n 9) b_law_k36_1) (mSeq (mKill [4, 5, 6, 7, 8, 9, 10]) mNil)))))))
def m_law_k36 : MS := (mSeq (mSet 1 (mCallM sem__law_draws_e473 (aCons (mVar 0) (aCons (mC (.int 2)) (aCons (mC (.int 60)) aNil))))) (mSeq (mSet 2 (mFz (mA addO (aCons (mC (.int 1)) (aCons (mL fMod (lCons (mCallR sem__law_pop (aRf 1 aNil) [1]) (lCons (mC (.int 4)) lNil))) aNil))))) (mSeq (mSet 3 (mFz (mCallR sem__law_names (aRf 1 (aCons (mVar 2) aNil)) [1]))) (mSeq (mFor (mFrzE [2, 3] (iR1 (lCons (mC (.int 6)) lNil))) (.n 4) b_law_k36_2) (mSeq (mKill [4, 5, 6, 7, 8, 9, 10]) (mSeq (mRet (mC (.bool true))) mNil))))))
def sem_law_k36 : Sem1 := runF 11 (List.replicate 1 false) m_law_k36
theorem un_law_k36 (x0 : O) : sem_law_k36 [x0] = fin (List.replicate 1 false) (m_law_k36 [.own x0, .no, .no, .no, .no, .no, .no, .no, .no, .no, .no]) := id rfl

end
end Dn
set_option Elab.async false
set_option linter.all false
set_option maxRecDepth 100000
set_option maxHeartbeats 4000000
namespace Dn
open PySem L2
/-! the draws -/
theorem draws_ok (ns : List Int) (hl : ns.length ≤ 63) (t m : Int) (ht : 0 ≤ t ∧ t ≤ 100) (hm : 0 ≤ m ∧ m ≤ 1000) : ∃ ds : List Int, sem__law_draws_e473 [.s ns, oi t, oi m] = some (.l (ds.map oi), []) := by
  obtain ⟨c, hc⟩ : ∃ c : List Int, c = cutG ns none (some 63) ++ [t] := ⟨_, rfl⟩
  have hcl : c.length ≤ 64 := by
    rw [hc, List.length_append, cutG, List.length_take, List.length_drop]
    simp; omega
  have hc0 : 0 < c.length := by rw [hc]; simp
  have hcut : (cutG ns none (some 63)).length ≤ 16777215 := by
    rw [cutG, List.length_take, List.length_drop]; omega
  have hcm : (cutG ns none (some 63)).map PyData.int ++ [PyData.int t] = c.map .int := by rw [hc]; simp
  obtain ⟨c0, hc00, -⟩ := atI_in c (i := 0) (by omega) (by omega)
  -- the one way
  have hlc : lcL (.n 8) mYes ce__law_draws_e473_1 [8] (c.map fun n => .v (.int n)) [.own (.s ns), .own (oi t), .own (oi m), .own (.v (.list (c.map .int))), .own (.l []), .no, .no, .no, .no, .no, .no] = some (c.map (fun n => oi (n / 100000)), [.own (.s ns), .own (oi t), .own (oi m), .own (.v (.list (c.map .int))), .own (.l []), .no, .no, .no, .no, .no, .no]) := by
    refine lc_map _ fun p _ => ?_
    simp [ce__law_draws_e473_1]
  let E1 : List Int × List Int → En := fun s => [.own (.s ns), .own (oi t), .own (oi m), .own (.v (.list (c.map .int))), .own (.l (s.1.map oi)), .own (.l (s.2.map oi)), .no, .no, .no, .no, .no]
  obtain ⟨s1, h1, -⟩ := for_inv (tg := .n 6) (body := b__law_draws_e473_1) (enc := fun (k : Nat) => O.v (.int (k : Int))) (E := E1) (fun pre s => s.1.length ≤ pre.length ∧ s.2.length = c.length) (all := List.range (t + m).toNat) (List.range (t + m).toNat) [] ([], c.map (· / 100000)) rfl (by simp) (by
    intro pre k post s hall hI
    have hkl : pre.length < 2000 := by
      have := congrArg List.length hall
      simp at this; omega
    obtain ⟨x, hx, hx2⟩ := atI_in s.2 (i := (k : Int) % (s.2.length : Int)) (Int.emod_nonneg _ (by omega)) (Int.emod_lt_of_pos _ (by omega))
    have hpos : fMod [.int (k : Int), .int (s.2.length : Int)] = some (.int ((k : Int) % (s.2.length : Int))) := fMod_s (by omega)
    have hix : ixN s.2.length ((k : Int) % (s.2.length : Int)) = some (((k : Int) % (s.2.length : Int)).toNat) := ixN_in (Int.emod_nonneg _ (by omega)) (Int.emod_lt_of_pos _ (by omega))
    by_cases hkt : t ≤ (k : Int)
    · refine ⟨(s.1 ++ [x % 2147483587], s.2.set ((k : Int) % (s.2.length : Int)).toNat (x / 2147483587)), _, rfl, ?_, by simp; omega⟩
      have hlf : s.1.length < 16777216 := by omega
      simp [b__law_draws_e473_1, E1, hx, hkt, hix, hlf, hpos, List.map_set]
    · refine ⟨(s.1, s.2.set ((k : Int) % (s.2.length : Int)).toNat (x / 2147483587)), _, rfl, ?_, by simp; omega⟩
      simp [b__law_draws_e473_1, E1, hx, hkt, hix, hpos, List.map_set])
  -- the other way
  let E2 : List Int → En := fun s => [.own (.s ns), .own (oi t), .own (oi m), .own (.v (.list (c.map .int))), .own (.l (s.map oi)), .no, .no, .no, .no, .no, .no]
  obtain ⟨s2, h2, -⟩ := for_inv (tg := .n 6) (body := b__law_draws_e473_2) (enc := fun (k : Nat) => O.v (.int (k : Int))) (E := E2) (fun pre s => s.length ≤ pre.length) (all := List.range m.toNat) (List.range m.toNat) [] [] rfl (by simp) (by
    intro pre k post s hall hI
    have hkl : pre.length < 2000 ∧ k < 2000 := by
      have := congrArg List.length hall
      have hk : k ∈ List.range m.toNat := by rw [hall]; simp
      simp at this hk; omega
    obtain ⟨x, hx, hx2⟩ := atI_in c (i := (k : Int) % (c.length : Int)) (Int.emod_nonneg _ (by omega)) (Int.emod_lt_of_pos _ (by omega))
    have hpos : fMod [.int (k : Int), .int (c.length : Int)] = some (.int ((k : Int) % (c.length : Int))) := fMod_s (by omega)
    have hlf : s.length < 16777216 := by omega
    have hk1 : -18446744073709551616 < (k : Int) + t := by omega
    have hk2 : (k : Int) + t < 18446744073709551616 := by omega
    refine ⟨s ++ [?_], _, rfl, ?_, by simp; omega⟩
    rotate_left
    simp [b__law_draws_e473_2, E2, hx, hpos, hlf, hk1, hk2]
    rfl)
  have hb1 : -4611686018427387904 ≤ t + m := by omega
  have hb2 : t + m < 4611686018427387904 := by omega
  have hb3 : -4611686018427387904 ≤ m := by omega
  have hb4 : m < 4611686018427387904 := by omega
  have hc64 : c.length ≤ 16777216 := by omega
  simp only [E1, E2, List.map_nil, List.map_map, Function.comp_def] at h1 h2
  rw [un__law_draws_e473]
  by_cases hif : c0 / 50000 % 2 = 1
  · refine ⟨s1.1, ?_⟩
    simp [m__law_draws_e473, slO, hcut, hcm, hc00, hif, hlc, hc64, hb1, hb2, h1]
  · refine ⟨s2, ?_⟩
    simp [m__law_draws_e473, slO, hcut, hcm, hc00, hif, hb3, hb4, h2]
/-! popping -/
theorem pop_ok (ds : List Int) : ∃ (n : Int) (ds' : List Int), sem__law_pop [.l (ds.map oi)] = some (oi n, [.l (ds'.map oi)]) := by
  cases ds with
  | nil => exact ⟨0, [], by
      have h := fEq_nil []
      simp at h
      simp [un__law_pop, m__law_pop, h]⟩
  | cons n ds => exact ⟨n, ds, by
      have h := fEq_nil (n :: ds)
      simp at h
      simp [un__law_pop, m__law_pop, h]⟩
/-! wants -/
def casesI (w : List Int) : Int := w.foldl (fun a n => a * (n + 1)) 1
theorem cases_ok (w : List Int) (hw : ∀ n ∈ w, 0 ≤ n ∧ n ≤ 10000) : sem__law_cases [.v (.list (w.map .int))] = some (oi (casesI w), []) := by
  have h := (for_fold (tg := .n 2) (body := b__law_cases_1) (enc := fun (n : Int) => O.v (.int n)) (E := fun (a : Int) => [.own (.v (.list (w.map .int))), .own (oi a), .no]) (step := fun a n => a * (n + 1)) (I := fun _ => True) w 1 trivial (by
    intro n hn s _
    obtain ⟨h1, h2⟩ := hw n hn
    have h3 : -18446744073709551616 < n + 1 := by omega
    have h4 : n + 1 < 18446744073709551616 := by omega
    refine ⟨trivial, _, rfl, ?_⟩
    simp [b__law_cases_1, h3, h4])).1
  simp [un__law_cases, m__law_cases, h, casesI]
theorem covers_ok (c w : List Int) (hl : c.length ≤ 1000) : sem_covers [.v (.list (c.map .int)), .v (.list (w.map .int))] = some (.v (.bool ((c.zip w).all fun p => decide (p.2 ≤ p.1))), []) := by
  have hm : min c.length w.length ≤ 16777216 := by omega
  have h : lcL (.tp [(.n 2), (.n 3)]) mYes ce_covers_1 [2, 3] (((c.zip w)).map fun p => .t [oi p.1, oi p.2]) [.own (.v (.list (c.map .int))), .own (.v (.list (w.map .int))), .no, .no] = some ((c.zip w).map (fun p => .v (.bool (decide (p.2 ≤ p.1)))), [.own (.v (.list (c.map .int))), .own (.v (.list (w.map .int))), .no, .no]) := by
    refine lc_map _ fun p _ => ?_
    simp [ce_covers_1]
  simp [un_covers, m_covers, zipO_map, h, hm]
def restL (w c : List Int) : List Int := (w.zip c).map fun p => max 0 (p.1 - p.2)
theorem rest_ok (w c : List Int) (hl : w.length ≤ 1000) : sem_rest [.v (.list (w.map .int)), .v (.list (c.map .int))] = some (.l ((restL w c).map oi), []) := by
  have hm : min w.length c.length ≤ 16777216 := by omega
  have h : lcL (.tp [(.n 2), (.n 3)]) mYes ce_rest_1 [2, 3] (((w.zip c)).map fun p => .t [oi p.1, oi p.2]) [.own (.v (.list (w.map .int))), .own (.v (.list (c.map .int))), .no, .no] = some ((w.zip c).map (fun p => oi (max 0 (p.1 - p.2))), [.own (.v (.list (w.map .int))), .own (.v (.list (c.map .int))), .no, .no]) := by
    refine lc_map _ fun p _ => ?_
    have : (if p.1 - p.2 > 0 then p.1 - p.2 else 0) = max 0 (p.1 - p.2) := by omega
    simp [ce_rest_1]
    exact ⟨_, ⟨by omega, rfl⟩, rfl⟩
  simp [un_rest, m_rest, zipO_map, h, hm, restL]
theorem whole_ok (n : Int) : sem__law_whole [oi n] = some (.v (.bool true), []) := by
  simp [un__law_whole, m__law_whole, fIsi, tyN, isiB]
theorem numbers_ok (a b : List Int) (hl : a.length ≤ 1000) : sem__law_numbers [.v (.list (a.map .int)), .v (.list (b.map .int))] = some (.v (.bool (decide (a = b))), []) := by
  have hm : a.length ≤ 16777216 := by omega
  have h : lcL (.n 2) ct__law_numbers_1 ce__law_numbers_1 [2] (a.map fun n => .v (.int n)) [.own (.v (.list (a.map .int))), .own (.v (.list (b.map .int))), .no] = some ((a.filter fun _ => false).map (fun n => .v (.int n)), [.own (.v (.list (a.map .int))), .own (.v (.list (b.map .int))), .no]) := by
    refine lc_filter (p := fun _ => false) _ fun n _ => ?_
    simp [ct__law_numbers_1, whole_ok]
  simp [un__law_numbers, m__law_numbers, h, hm, fIsi, tyN, isiB]
end Dn

set_option Elab.async false
set_option linter.all false
set_option maxRecDepth 100000
set_option maxHeartbeats 4000000
namespace Dn
open PySem L2
theorem cases_zero (w : List Int) (h : ∀ n ∈ w, n = 0) : casesI w = 1 := by
  have : ∀ (w : List Int) (a : Int), (∀ n ∈ w, n = 0) → w.foldl (fun a n => a * (n + 1)) a = a := by
    intro w
    induction w with
    | nil => intro a _; rfl
    | cons n w ih =>
      intro a h
      rw [List.foldl_cons, ih _ fun m hm => h m (List.mem_cons_of_mem _ hm), h n (List.mem_cons_self ..)]
      simp
  exact this w 1 h
theorem sum_set : ∀ (w : List Int) (j : Nat) (m : Int), w[j]? = some m → 1 ≤ m → ((w.set j (m - 1)).map Int.toNat).sum < (w.map Int.toNat).sum
  | [], j, m, h, _ => by simp at h
  | n :: w, 0, m, h, h1 => by
    simp at h
    subst h
    simp; omega
  | n :: w, j + 1, m, h, h1 => by
    have ih := sum_set w j m (by simpa using h) h1
    simp only [List.set_cons_succ, List.map_cons, List.sum_cons]; omega
theorem idx_ok (m : Int) : ∀ (w : List Int) (n : Nat), m ∈ w → ∃ j, idxD (.int m) (w.map .int) n = some (n + j) ∧ w[j]? = some m
  | [], n, h => by simp at h
  | x :: w, n, h => by
    by_cases hx : x = m
    · exact ⟨0, by simp [idxD, PyData.eqv, hx], by simp [hx]⟩
    · have hm : m ∈ w := by
        rcases List.mem_cons.mp h with e | h
        · exact absurd e.symm hx
        · exact h
      obtain ⟨j, h1, h2⟩ := idx_ok m w (n + 1) hm
      exact ⟨j + 1, by simp [idxD, PyData.eqv, hx, h1]; omega, by simpa using h2⟩
theorem maxL_in (n : Int) (ns : List Int) : maxL n ns ∈ n :: ns := by
  rcases maxL_mem n ns with h | h
  · rw [h]; exact List.mem_cons_self ..
  · exact List.mem_cons_of_mem _ h
theorem pow8 (number k : Int) (hk : 0 ≤ k ∧ k < 4) : ∃ x : Int, 0 ≤ x ∧ x ≤ 9 ∧ (∀ e : En, e[2]? = some (.own (oi number)) → e[4]? = some (.own (oi k)) → ce__law_want_aecb_1 e = some (oi x, e)) := by
  have h3 : 0 ≤ number / (2 ^ (3 * k).toNat : Int) % 8 ∧ number / (2 ^ (3 * k).toNat : Int) % 8 < 8 := ⟨Int.emod_nonneg _ (by decide), Int.emod_lt_of_pos _ (by decide)⟩
  obtain ⟨x, hx, hx2⟩ := atI_in ([0, 1, 2, 9, 4, 5, 3, 1] : List Int) (i := number / (2 ^ (3 * k).toNat : Int) % 8) h3.1 (by simp; exact h3.2)
  have hm := List.mem_of_getElem? hx2
  have hp : (0 : Int) < 2 ^ (3 * k).toNat := Int.pow_pos (by decide)
  have hp2 : (2 : Int) ^ (3 * k).toNat < 18446744073709551616 := by
    have : (3 * k).toNat ≤ 9 := by omega
    have h4 : (2 : Nat) ^ (3 * k).toNat ≤ 2 ^ 9 := Nat.pow_le_pow_right (by decide) this
    have h5 : ((2 ^ (3 * k).toNat : Nat) : Int) = (2 : Int) ^ (3 * k).toNat := by simp
    have : ((2 ^ (3 * k).toNat : Nat) : Int) ≤ 512 := by exact_mod_cast h4
    rw [h5] at this
    omega
  have hk0 : 0 ≤ 3 * k := by omega
  have hk1 : 3 * k ≤ 1000000 := by omega
  refine ⟨x, ?_, ?_, fun e h1 h2 => ?_⟩
  · simp at hm; omega
  · simp at hm; omega
  · have hx' := congrArg (Option.map oi) hx
    rw [← atI_map] at hx'
    simp at hx'
    have hdiv : fDiv [.int number, .int (2 ^ (3 * k).toNat)] = some (.int (number / 2 ^ (3 * k).toNat)) := fDiv_s hp hp2
    simp [ce__law_want_aecb_1, h1, h2, hk0, hk1, hdiv, hx']
/-- a want: so many numbers to nine, at most four hundred lesser ones -/
structure Want (n : Nat) (w : List Int) : Prop where
  len : w.length = n
  nine : ∀ x ∈ w, 0 ≤ x ∧ x ≤ 9
theorem want_while (ds : List Int) (many number : Int) (w : List Int) (n : Nat) (hn : 1 ≤ n ∧ n ≤ 4) (hw : Want n w) :
    ∃ w', mWhile t__law_want_aecb_1 b__law_want_aecb_1 [.pin (.l (ds.map oi)), .own (oi many), .own (oi number), .own (.l (w.map oi)), .no] = some (.nx [.pin (.l (ds.map oi)), .own (oi many), .own (oi number), .own (.l (w'.map oi)), .no]) ∧ Want n w' ∧ casesI w' ≤ 400 := by
  refine while_inv (E := fun w : List Int => [.pin (.l (ds.map oi)), .own (oi many), .own (oi number), .own (.l (w.map oi)), .no]) (Want n) (fun w => casesI w ≤ 400) (fun w => (w.map Int.toNat).sum) ?_ _ w (Nat.le_refl _) hw
  intro w hw
  have hc := cases_ok w fun x hx => ⟨(hw.nine x hx).1, by have := (hw.nine x hx).2; omega⟩
  by_cases h : casesI w ≤ 400
  · refine .inl ⟨h, ?_⟩
    have : ¬ 400 < casesI w := by omega
    simp [t__law_want_aecb_1, hc, sV, this]
  · right
    have h4 : 400 < casesI w := by omega
    obtain ⟨x, xs, rfl⟩ : ∃ x xs, w = x :: xs := by
      cases w with
      | nil => have := hw.len; simp at this; omega
      | cons x xs => exact ⟨x, xs, rfl⟩
    obtain ⟨j, hj, hj2⟩ := idx_ok (maxL x xs) (x :: xs) 0 (maxL_in x xs)
    have hm9 := hw.nine _ (maxL_in x xs)
    have hm1 : 1 ≤ maxL x xs := by
      rcases Int.lt_or_le (maxL x xs) 1 with hlt | hge
      · exfalso
        have : casesI (x :: xs) = 1 := cases_zero _ fun y hy => by
          have h1 := (hw.nine y hy).1
          have h2 := maxL_ge x xs
          rcases List.mem_cons.mp hy with rfl | hy
          · have := h2.1; omega
          · have := h2.2 y hy; omega
        omega
      · exact hge
    have hjl := (List.getElem?_eq_some_iff.mp hj2).1
    have hix : ixN (x :: xs).length (j : Int) = some j := by
      rw [ixN_in (by omega) (by omega)]; simp
    have hsh : fIndex [.list ((x :: xs).map .int), .int (maxL x xs)] = some (.int (j : Nat)) := by
      show (if SeqAt.shaped (.list ((x :: xs).map .int)) && SeqAt.shaped (.int (maxL x xs)) then (match idxD (.int (maxL x xs)) ((x :: xs).map .int) 0 with | some j => some (PyData.int (j : Nat)) | none => none) else none) = _
      rw [hj]
      simp
    refine ⟨(x :: xs).set j (maxL x xs - 1), ?_, ?_, ⟨?_, ?_⟩, sum_set _ _ _ hj2 hm1⟩
    · simp at hc
      simp [t__law_want_aecb_1, hc, sV, h4]
    · simp at hsh hix
      simp [b__law_want_aecb_1, hsh, hix, List.map_set]
    · simp; have := hw.len; simp at this; omega
    · intro y hy
      rcases List.mem_or_eq_of_mem_set hy with hy | rfl
      · exact hw.nine y hy
      · omega
theorem want_ok (ds : List Int) (many : Int) (hm : 1 ≤ many ∧ many ≤ 4) : ∃ (w ds' : List Int), sem__law_want_aecb [.l (ds.map oi), oi many] = some (.l (w.map oi), [.l (ds'.map oi)]) ∧ Want many.toNat w ∧ casesI w ≤ 400 := by
  obtain ⟨number, ds1, hpop⟩ := pop_ok ds
  have hb1 : -4611686018427387904 ≤ many := by omega
  have hb2 : many < 4611686018427387904 := by omega
  have hb3 : many.toNat ≤ 16777216 := by omega
  -- by the table
  obtain ⟨w1, u1, h1, -, hl1, hr1⟩ := lc_st (tg := .n 4) (mt := mYes) (me := ce__law_want_aecb_1) (vs := [4]) (enc := fun (k : Nat) => O.v (.int (k : Int))) (g := oi) (R := fun _ x => 0 ≤ x ∧ x ≤ 9) (I := fun _ => True)
    (E := fun (_ : Unit) => [.pin (.l (ds1.map oi)), .own (oi many), .own (oi number), .no, .no]) (List.range many.toNat) () trivial (by
    intro k hk s _
    have hk' : (k : Int) < 4 := by simp at hk; omega
    obtain ⟨x, h1, h2, h3⟩ := pow8 number k ⟨by omega, hk'⟩
    exact ⟨x, (), _, _, _, rfl, rfl, h3 _ rfl rfl, rfl, ⟨h1, h2⟩, trivial⟩)
  have hw1 : Want many.toNat w1 := ⟨by simpa using hl1, fun x hx => by
    obtain ⟨j, hj, rfl⟩ := List.getElem_of_mem hx
    have hj2 : j < (List.range many.toNat).length := by rw [← hl1]; exact hj
    refine hr1 ((List.range many.toNat)[j], w1[j]) ?_
    rw [← List.getElem_zip (h := by rw [List.length_zip]; omega)]
    exact List.getElem_mem _⟩
  by_cases hif : number / 4096 % 4 = 0
  · -- by draws
    obtain ⟨w2, ds2, h2, -, hl2, hr2⟩ := lc_st (tg := .n 4) (mt := mYes) (me := ce__law_want_aecb_2) (vs := [4]) (enc := fun (k : Nat) => O.v (.int (k : Int))) (g := oi) (R := fun _ x => 0 ≤ x ∧ x ≤ 9) (I := fun _ => True)
      (E := fun (ds : List Int) => [.pin (.l (ds.map oi)), .own (oi many), .own (oi number), .own (.l (w1.map oi)), .no]) (List.range many.toNat) ds1 trivial (by
      intro k hk s _
      obtain ⟨x, ds', hp⟩ := pop_ok s
      refine ⟨x % 10, ds', _, _, [.pin (.l (ds'.map oi)), .own (oi many), .own (oi number), .own (.l (w1.map oi)), .own (.v (.int k))], rfl, rfl, ?_, ?_, ⟨by omega, by omega⟩, trivial⟩
      · simp [ce__law_want_aecb_2, hp]
      · simp)
    have hw2 : Want many.toNat w2 := ⟨by simpa using hl2, fun x hx => by
      obtain ⟨j, hj, rfl⟩ := List.getElem_of_mem hx
      have hj2 : j < (List.range many.toNat).length := by rw [← hl2]; exact hj
      refine hr2 ((List.range many.toNat)[j], w2[j]) ?_
      rw [← List.getElem_zip (h := by rw [List.length_zip]; omega)]
      exact List.getElem_mem _⟩
    obtain ⟨w3, h3, hw3, hc3⟩ := want_while ds2 many number w2 many.toNat (by omega) hw2
    refine ⟨w3, ds2, ?_, hw3, hc3⟩
    simp [un__law_want_aecb, m__law_want_aecb, hpop, hb1, hb2, hb3, h1, h2, h3, hif]
  · obtain ⟨w3, h3, hw3, hc3⟩ := want_while ds1 many number w1 many.toNat (by omega) hw1
    refine ⟨w3, ds1, ?_, hw3, hc3⟩
    simp [un__law_want_aecb, m__law_want_aecb, hpop, hb1, hb2, hb3, h1, h3, hif]
end Dn

set_option Elab.async false
set_option linter.all false
set_option maxRecDepth 100000
set_option maxHeartbeats 4000000
namespace Dn
open PySem L2
/-! lesser wants -/
def upTo (n : Int) : List Int := (List.range (n + 1).toNat).map fun (k : Nat) => (k : Int)
def les : List Int → List (List Int)
  | [] => [[]]
  | n :: w => (upTo n).flatMap fun k => (les w).map (k :: ·)
theorem upTo_mem {n k : Int} : k ∈ upTo n ↔ 0 ≤ k ∧ k ≤ n := by
  unfold upTo
  simp only [List.mem_map, List.mem_range]
  constructor
  · rintro ⟨a, h, rfl⟩; omega
  · intro ⟨h1, h2⟩; exact ⟨k.toNat, by omega, by omega⟩
theorem les_mem : ∀ {w r : List Int}, r ∈ les w ↔ r.length = w.length ∧ ∀ p ∈ r.zip w, 0 ≤ p.1 ∧ p.1 ≤ p.2
  | [], r => by
    simp only [les, List.mem_singleton, List.length_nil]
    constructor
    · rintro rfl; simp
    · intro h; exact List.length_eq_zero_iff.mp h.1
  | n :: w, r => by
    simp only [les, List.mem_flatMap, List.mem_map, upTo_mem]
    constructor
    · rintro ⟨k, hk, s, hs, rfl⟩
      obtain ⟨h1, h2⟩ := les_mem.mp hs
      refine ⟨by simp [h1], fun p hp => ?_⟩
      simp only [List.zip_cons_cons, List.mem_cons] at hp
      rcases hp with rfl | hp
      · exact hk
      · exact h2 p hp
    · intro ⟨h1, h2⟩
      cases r with
      | nil => simp at h1
      | cons k s =>
        exact ⟨k, h2 (k, n) (by simp), s, les_mem.mpr ⟨by simpa using h1, fun p hp => h2 p (by simp [hp])⟩, rfl⟩
theorem les_len_el {w r : List Int} (h : r ∈ les w) : r.length = w.length := (les_mem.mp h).1
theorem les_count : ∀ (w : List Int), (∀ n ∈ w, 0 ≤ n) → ∀ a : Int, w.foldl (fun a n => a * (n + 1)) a = a * ((les w).length : Int)
  | [], _, a => by simp [les]
  | n :: w, h, a => by
    have hn := h n (List.mem_cons_self ..)
    rw [List.foldl_cons, les_count w (fun m hm => h m (List.mem_cons_of_mem _ hm))]
    have : (les (n :: w)).length = (n + 1).toNat * (les w).length := by
      simp only [les]
      have hc : ∀ (l : List Int), (l.flatMap fun k => (les w).map (k :: ·)).length = l.length * (les w).length := by
        intro l
        induction l with
        | nil => simp
        | cons k l ih => simp [ih, Nat.add_mul]; omega
      rw [hc, upTo, List.length_map, List.length_range]
    rw [this, Int.natCast_mul, Int.toNat_of_nonneg (by omega), Int.mul_assoc]
theorem les_cases {w : List Int} (h : ∀ n ∈ w, 0 ≤ n) : casesI w = (les w).length := by
  unfold casesI
  rw [les_count w h 1]; omega
/-- as the program makes them -/
def lesStep (rows : List (List Int)) (n : Int) : List (List Int) := rows.flatMap fun r => (upTo n).map fun k => r ++ [k]
theorem les_fold : ∀ (w : List Int) (rows : List (List Int)), w.foldl lesStep rows = rows.flatMap fun r => (les w).map (r ++ ·)
  | [], rows => by
    simp only [List.foldl_nil, les, List.map_cons, List.append_nil, List.map_nil]
    induction rows with
    | nil => rfl
    | cons r rows ih => rw [List.flatMap_cons, ← ih]; rfl
  | n :: w, rows => by
    rw [List.foldl_cons, les_fold w]
    simp only [lesStep, les, List.flatMap_assoc, List.flatMap_map, List.map_flatMap, List.map_map]
    congr 1
    funext r
    congr 1
    funext k
    congr 1
    funext s
    simp
theorem les_eq (w : List Int) : w.foldl lesStep [[]] = les w := by
  rw [les_fold]; simp
abbrev rowO (r : List Int) : O := .l (r.map oi)
abbrev rowD (r : List Int) : PyData := .list (r.map .int)
@[simp] theorem toDs_rows (rows : List (List Int)) : O.toDs (rows.map rowO) = some (rows.map rowD) := toDs_map (fun r => by simp) rows
@[simp] theorem toDs_rows' (rows : List (List Int)) : O.toDs (rows.map fun r => O.l (r.map oi)) = some (rows.map rowD) := toDs_rows rows
theorem upTo_len {n : Int} (h : 0 ≤ n ∧ n ≤ 9) : (upTo n).length ≤ 10 := by simp [upTo]; omega
theorem lesStep_len (rows : List (List Int)) {n : Int} (h : 0 ≤ n ∧ n ≤ 9) : (lesStep rows n).length ≤ 10 * rows.length := by
  unfold lesStep
  have := upTo_len h
  induction rows with
  | nil => simp
  | cons r rows ih => simp only [List.flatMap_cons, List.length_append, List.length_map, List.length_cons]; omega
theorem lesser_row (w : List Int) (fr : O) (n : Int) (hn : 0 ≤ n ∧ n ≤ 9) (acc : List (List Int)) (r : List Int) (ha : acc.length ≤ 1000000) (hr : r.length ≤ 1000) :
    b_lesser_1 [.own (.v (.list (w.map .int))), .own fr, .own (.v (.int n)), .own (.l (acc.map rowO)), .own (.v (rowD r)), .no] = some (.nx [.own (.v (.list (w.map .int))), .own fr, .own (.v (.int n)), .own (.l ((acc ++ (upTo n).map fun k => r ++ [k]).map rowO)), .no, .no]) := by
  have hb1 : -4611686018427387904 ≤ n + 1 := by omega
  have hb2 : n + 1 < 4611686018427387904 := by omega
  have h10 : (n + 1).toNat ≤ 16777216 := by omega
  have h11 : acc.length + (n + 1).toNat ≤ 16777216 := by omega
  have hlc : ∀ e : En, e[5]? = some .no → e[4]? = some (.own (.v (rowD r))) → lcL (.n 5) mYes ce_lesser_1 [5] ((List.range (n + 1).toNat).map fun (k : Nat) => O.v (.int (k : Int))) e = some ((List.range (n + 1).toNat).map (fun (k : Nat) => rowO (r ++ [(k : Int)])), e) := fun e h5 h4 => by
    refine lc_map1 h5 _ fun k hk e' h1 h2 => ?_
    have hl : r.length ≤ 16777215 := by omega
    simp [ce_lesser_1, h1, h2, h4, hl]
  simp [b_lesser_1, hb1, hb2, h10, h11, hlc, upTo, Function.comp_def]
theorem lesser_ok (w : List Int) (hw : ∀ n ∈ w, 0 ≤ n ∧ n ≤ 9) (hlen : w.length ≤ 4) : sem_lesser [.v (.list (w.map .int))] = some (.l ((les w).map rowO), []) := by
  obtain ⟨rows, h, hr⟩ := for_inv (tg := .n 2) (body := b_lesser_2) (enc := fun (n : Int) => O.v (.int n)) (E := fun (rows : List (List Int)) => [.own (.v (.list (w.map .int))), .own (.l (rows.map rowO)), .no, .no, .no, .no])
    (fun pre rows => rows = pre.foldl lesStep [[]] ∧ rows.length ≤ 10 ^ pre.length ∧ ∀ r ∈ rows, r.length = pre.length) (all := w) w [] [[]] rfl (by simp) (by
    intro pre n post rows hall ⟨hI, hI2, hI3⟩
    have hn := hw n (by rw [hall]; simp)
    have hpl : pre.length < 4 := by have := congrArg List.length hall; simp at this; omega
    have hrl : rows.length ≤ 10000 := Nat.le_trans hI2 (Nat.le_trans (Nat.pow_le_pow_right (by decide) (by omega)) (show 10 ^ 4 ≤ 10000 by decide))
    refine ⟨lesStep rows n, _, rfl, ?_, ?_, ?_, ?_⟩
    · obtain ⟨acc, h1, h2⟩ := for_inv (tg := .n 4) (body := b_lesser_1) (enc := fun (r : List Int) => O.v (rowD r)) (E := fun (acc : List (List Int)) => [.own (.v (.list (w.map .int))), .own (.v (.list (rows.map rowD))), .own (.v (.int n)), .own (.l (acc.map rowO)), .no, .no])
        (fun pre acc => acc = lesStep pre n) (all := rows) rows [] [] rfl rfl (by
        intro pre' r post' acc hall' hacc
        have hr := hI3 r (by rw [hall']; simp)
        have hpl' : pre'.length ≤ rows.length := by rw [hall']; simp
        refine ⟨acc ++ (upTo n).map fun k => r ++ [k], _, rfl, ?_, ?_⟩
        · refine lesser_row w _ n hn acc r ?_ (by omega)
          rw [hacc]
          have := lesStep_len pre' hn
          omega
        · rw [hacc]; simp [lesStep])
      simp at h1
      simp [b_lesser_2, h1, h2]
    · rw [hI, List.foldl_append]; rfl
    · rw [List.length_append, List.length_singleton, Nat.pow_succ]
      have := lesStep_len rows hn
      omega
    · intro r hr
      simp only [lesStep, List.mem_flatMap, List.mem_map] at hr
      obtain ⟨r0, h0, k, hk, rfl⟩ := hr
      simp [hI3 r0 h0])
  have hr2 := hr.1
  rw [les_eq] at hr2
  subst hr2
  simp only [rowO, List.map_cons, List.map_nil] at h
  simp [un_lesser, m_lesser, h]
end Dn

set_option Elab.async false
set_option linter.all false
set_option maxRecDepth 100000
set_option maxHeartbeats 4000000
namespace Dn
open PySem L2
/-! the next one of the lesser wants -/
def nxt : List Int → List Int → Option (List Int)
  | r :: rs, w :: ws => (match nxt rs ws with
    | some rs' => some (r :: rs')
    | none => if r = w then none else some ((r + 1) :: ws.map fun _ => 0))
  | _, _ => none
theorem les_cons (n : Int) (w : List Int) : les (n :: w) = (upTo n).flatMap fun k => (les w).map (k :: ·) := rfl
theorem les_head : ∀ (w : List Int), (∀ n ∈ w, 0 ≤ n) → ∃ t, les w = (w.map fun _ => 0) :: t
  | [], _ => ⟨[], rfl⟩
  | n :: w, h => by
    obtain ⟨t, ht⟩ := les_head w fun m hm => h m (List.mem_cons_of_mem _ hm)
    have hn := h n (List.mem_cons_self ..)
    have : upTo n = 0 :: (List.range n.toNat).map fun (k : Nat) => ((k + 1 : Nat) : Int) := by
      unfold upTo
      rw [show (n + 1).toNat = n.toNat + 1 by omega, List.range_succ_eq_map, List.map_cons, List.map_map]
      rfl
    rw [les_cons, this, List.flatMap_cons, ht]
    exact ⟨_, rfl⟩
/-- each one's next one is the one behind it -/
theorem les_chain : ∀ (w : List Int), (∀ n ∈ w, 0 ≤ n) → ∀ pre x post, les w = pre ++ x :: post → nxt x w = post.head?
  | [], _, pre, x, post, h => by
    simp only [les] at h
    cases pre with
    | nil =>
      simp at h
      obtain ⟨rfl, rfl⟩ := h
      rfl
    | cons a pre => simp at h
  | n :: w, hw, pre, x, post, h => by
    have hw' := fun m hm => hw m (List.mem_cons_of_mem _ hm)
    have ih := les_chain w hw'
    obtain ⟨t, ht⟩ := les_head w hw'
    -- over the first numbers k, k + 1, .. n
    have go : ∀ (d : Nat) (k : Int), k + d = n + 1 → ∀ pre x post, ((List.range d).map fun (j : Nat) => k + (j : Int)).flatMap (fun k => (les w).map (k :: ·)) = pre ++ x :: post → nxt x (n :: w) = post.head? := by
      intro d
      induction d with
      | zero => intro k _ pre x post h; simp at h
      | succ d ihd =>
        intro k hk pre x post h
        rw [List.range_succ_eq_map, List.map_cons, List.flatMap_cons, List.map_map] at h
        have e1 : ((fun (j : Nat) => k + (j : Int)) ∘ Nat.succ) = fun (j : Nat) => (k + 1) + (j : Int) := by
          funext j; simp; omega
        rw [e1] at h
        simp only [Int.natCast_zero, Int.add_zero] at h
        rcases List.append_eq_append_iff.mp h with ⟨a, h1, h2⟩ | ⟨a, h1, h2⟩
        · -- x stands behind this block
          exact ihd (k + 1) (by omega) a x post h2
        · cases a with
          | nil =>
            simp only [List.nil_append] at h2
            exact ihd (k + 1) (by omega) [] x post (by rw [← h2]; rfl)
          | cons y a =>
            simp only [List.cons_append, List.cons.injEq] at h2
            obtain ⟨rfl, h2⟩ := h2
            obtain ⟨pre', rest', e2, e3, e4⟩ := List.map_eq_append_iff.mp h1
            obtain ⟨x', post', rfl, e5, e6⟩ := List.map_eq_cons_iff.mp e4
            subst e5
            have i1 := ih pre' x' post' e2
            show (match nxt x' w with | some rs' => some (k :: rs') | none => if k = n then none else some ((k + 1) :: w.map fun _ => 0)) = _
            rw [i1, h2]
            cases post' with
            | cons z post' =>
              simp at e6
              subst e6
              rfl
            | nil =>
              simp at e6
              subst e6
              simp only [List.head?_nil, List.nil_append]
              cases d with
              | zero =>
                have : k = n := by omega
                simp [this]
              | succ d =>
                have : ¬ k = n := by omega
                rw [List.range_succ_eq_map, List.map_cons, List.flatMap_cons, ht]
                simp [this]
    refine go (n + 1).toNat 0 (by have := hw n (List.mem_cons_self ..); omega) pre x post ?_
    rw [← h, les_cons, upTo]
    simp
theorem nxt_at : ∀ (r w : List Int) (p : Nat), r.length = w.length → p < r.length → (∀ j, p < j → j < r.length → r.getD j 0 = w.getD j 0) → r.getD p 0 ≠ w.getD p 0 → nxt r w = some (r.take p ++ (r.getD p 0 + 1) :: (w.drop (p + 1)).map fun _ => 0)
  | [], _, p, _, hp, _, _ => by simp at hp
  | _ :: _, [], p, hl, _, _, _ => by simp at hl
  | x :: r, y :: w, 0, hl, hp, hj, hne => by
    have hall : ∀ (r w : List Int), r.length = w.length → (∀ j, j < r.length → r.getD j 0 = w.getD j 0) → nxt r w = none := by
      intro r
      induction r with
      | nil => intro w _ _; cases w <;> rfl
      | cons a r ih =>
        intro w hl h
        cases w with
        | nil => simp at hl
        | cons b w =>
          have h0 := h 0 (by simp)
          simp at h0
          have := ih w (by simpa using hl) fun j hj => by have := h (j + 1) (by simp; omega); simpa using this
          simp [nxt, this, h0]
    have h1 := hall r w (by simpa using hl) fun j hj' => by have := hj (j + 1) (by omega) (by simp; omega); simpa using this
    simp at hne
    simp [nxt, h1, hne]
  | x :: r, y :: w, p + 1, hl, hp, hj, hne => by
    have := nxt_at r w p (by simpa using hl) (by simpa using hp) (fun j h1 h2 => by have := hj (j + 1) (by omega) (by simp; omega); simpa using this) (by simpa using hne)
    simp [nxt, this]
theorem nxt_none (r w : List Int) (hl : r.length = w.length) (h : ∀ j, j < r.length → r.getD j 0 = w.getD j 0) : nxt r w = none := by
  induction r generalizing w with
  | nil => cases w <;> rfl
  | cons a r ih =>
    cases w with
    | nil => simp at hl
    | cons b w =>
      have h0 := h 0 (by simp)
      simp at h0
      have := ih w (by simpa using hl) fun j hj => by have := h (j + 1) (by simp; omega); simpa using this
      simp [nxt, this, h0]
def rowList (r : List Int) : List O := r.map oi
/-- the row as the loop leaves it: the last k numbers are noughts -/
theorem next_ok (r w : List Int) (hl : r.length = w.length) (h4 : w.length ≤ 1000) (hw : 0 < w.length) : sem__law_next [.v (.list (r.map .int)), .v (.list (w.map .int))] = some ((match nxt r w with | some r' => rowO r' | none => .v .none), []) := by
  have hb : r.length ≤ 16777216 := by omega
  let F : Nat → List Int := fun p => r.take p ++ (w.drop p).map fun _ => 0
  have hF : ∀ p, p ≤ r.length → (F p).length = r.length := fun p hp => by simp [F]; omega
  have hFg : ∀ (p : Nat) (hp : p < r.length), (F (p + 1)).getD p 0 = r.getD p 0 := fun p hp => by
    simp [F, List.getD_eq_getElem?_getD, List.getElem?_append, hp]
    rw [if_pos (by omega)]; rfl
  have hFs : ∀ (p : Nat) (hp : p < r.length), (F (p + 1)).set p 0 = F p := fun p hp => by
    simp only [F]
    apply List.ext_getElem?
    intro j
    rw [List.getElem?_set]
    simp only [List.getElem?_append, List.length_take, List.getElem?_take, List.getElem?_map, List.getElem?_drop, List.length_append, List.length_map, List.length_drop]
    by_cases h1 : p = j
    · subst h1
      rw [if_pos rfl, if_pos (by omega), if_neg (by omega)]
      have : p < w.length := by omega
      rw [show p + (p - min p r.length) = p by omega, List.getElem?_eq_getElem this]
      rfl
    · rw [if_neg h1]
      by_cases h2 : j < p
      · rw [if_pos (by omega), if_pos (by omega), if_pos (by omega), if_pos (by omega)]
      · rw [if_neg (by omega), if_neg (by omega)]
        congr 2
        omega
  have hFx : ∀ (p : Nat) (x : Int), p < r.length → (F (p + 1)).set p x = r.take p ++ x :: (w.drop (p + 1)).map fun _ => 0 := fun p x hp => by
    have e1 : F (p + 1) = r.take p ++ r[p] :: (w.drop (p + 1)).map fun _ => 0 := by
      simp only [F]
      rw [List.take_succ_eq_append_getElem hp, List.append_assoc]
      rfl
    rw [e1, List.set_append_right _ _ (by simp; omega)]
    have : p - (r.take p).length = 0 := by simp; omega
    rw [this]
    rfl
  obtain ⟨q, hq, hI, hP⟩ := while_inv (mc := t__law_next_1) (mb := b__law_next_1) (E := fun (q : Nat) => [.own (.v (.list (r.map .int))), .own (.v (.list (w.map .int))), .own (.l ((F q).map oi)), .own (.v (.int ((q : Int) - 1)))])
    (fun q => q ≤ r.length ∧ ∀ j, q ≤ j → j < r.length → r.getD j 0 = w.getD j 0) (fun q => q = 0 ∨ (0 < q ∧ r.getD (q - 1) 0 ≠ w.getD (q - 1) 0)) (fun q => q) (by
    intro q ⟨hq, hI⟩
    cases q with
    | zero =>
      left
      refine ⟨.inl rfl, ?_⟩
      simp [t__law_next_1]
    | succ q =>
      have e1 := atI_getD (F (q + 1)) 0 (k := q) (by rw [hF _ hq]; omega)
      have e2 := atI_getD w 0 (k := q) (by omega)
      rw [hFg q (by omega)] at e1
      have e3 : ((q + 1 : Nat) : Int) - 1 = (q : Int) := by omega
      by_cases hne : r.getD q 0 = w.getD q 0
      · right
        refine ⟨q, ?_, ?_, ⟨by omega, ?_⟩, by omega⟩
        · rw [e3]
          simp only [List.getD_eq_getElem?_getD] at e1 e2 hne
          simp [t__law_next_1, e1, e2, hne]
        · rw [e3]
          have hix : ixN r.length (q : Int) = some q := by rw [ixN_in (by omega) (by omega)]; simp
          have hs : ((F (q + 1)).map oi).set q (oi 0) = (F q).map oi := by rw [← hFs q (by omega), List.map_set]
          have hfl := hF (q + 1) (by omega)
          simp [b__law_next_1, hix, hfl, hs]
        · intro j h1 h2
          by_cases hj : j = q
          · subst hj; exact hne
          · exact hI j (by omega) h2
      · left
        refine ⟨.inr ⟨by omega, by simpa using hne⟩, ?_⟩
        rw [e3]
        simp only [List.getD_eq_getElem?_getD] at e1 e2 hne
        simp [t__law_next_1, e1, e2, hne]) r.length r.length (Nat.le_refl _) ⟨Nat.le_refl _, fun j h1 h2 => by omega⟩
  have e0 : F r.length = r := by simp [F]; omega
  rw [e0] at hq
  rw [hl] at hq
  rcases hP with rfl | hP
  · have := nxt_none r w hl fun j hj => hI.2 j (Nat.zero_le _) hj
    rw [this]
    simp [un__law_next, m__law_next, hb, hq]
  · cases q with
    | zero => have := hP.1; omega
    | succ q =>
      have hP := hP.2
      simp only [Nat.add_sub_cancel] at hP
      rw [nxt_at r w q hl (by omega) (fun j h1 h2 => hI.2 j (by omega) h2) hP]
      have e1 := atI_getD (F (q + 1)) 0 (k := q) (by rw [hF _ hI.1]; omega)
      rw [hFg q (by omega)] at e1
      have e3 : ((q + 1 : Nat) : Int) - 1 = (q : Int) := by omega
      rw [e3] at hq
      have hix : ixN r.length (q : Int) = some q := by rw [ixN_in (by omega) (by omega)]; simp
      have hfl := hF (q + 1) (by omega)
      have hs : ((F (q + 1)).map oi).set q (oi (r.getD q 0 + 1)) = rowList (r.take q ++ (r.getD q 0 + 1) :: (w.drop (q + 1)).map fun _ => 0) := by
        rw [← hFx q _ (by omega), rowList, List.map_set]
      have hq0 : ¬ ((q : Int) < 0) := by omega
      generalize F (q + 1) = fq at *
      generalize r.getD q 0 = x at *
      have hrow : rowO (r.take q ++ (x + 1) :: (w.drop (q + 1)).map fun _ => 0) = .l (rowList (r.take q ++ (x + 1) :: (w.drop (q + 1)).map fun _ => 0)) := rfl
      simp only [hrow]
      simp [un__law_next, m__law_next, hb, hq, hq0, e1, hix, hfl, hs]
def optD : Option (List Int) → PyData
  | some r => rowD r
  | none => .none
theorem due_ok (w : List Int) (hw : ∀ n ∈ w, 0 ≤ n ∧ n ≤ 9) (hl : 1 ≤ w.length ∧ w.length ≤ 4) (hc : (les w).length ≤ 1000) : sem__law_due_4ac3 [.v (.list (w.map .int))] = some (.l ((les w).map fun r => .v (rowD r)), []) := by
  have hw0 : ∀ n ∈ w, 0 ≤ n := fun n hn => (hw n hn).1
  obtain ⟨t, ht⟩ := les_head w hw0
  obtain ⟨s, h, hI, hP⟩ := while_inv (mc := t__law_due_4ac3_1) (mb := b__law_due_4ac3_1) (E := fun (s : List (List Int) × Option (List Int)) => [.own (.v (.list (w.map .int))), .own (.l (s.1.map fun r => .v (rowD r))), .own (.v (optD s.2))])
    (fun s => ∃ rest, les w = s.1 ++ rest ∧ s.2 = rest.head?) (fun s => s.2 = none) (fun s => (les w).length - s.1.length) (by
    intro ⟨pre, row⟩ ⟨rest, h1, h2⟩
    cases rest with
    | nil =>
      simp at h2
      subst h2
      left
      exact ⟨rfl, by simp [t__law_due_4ac3_1, optD]⟩
    | cons r rest =>
      simp at h2
      subst h2
      right
      have hr : r ∈ les w := by rw [h1]; simp
      have hrl := les_len_el hr
      have hn := les_chain w hw0 pre r rest h1
      have hnx := next_ok r w hrl (by omega) (by omega)
      have hpl : pre.length < 16777216 := by
        have := congrArg List.length h1
        simp at this; omega
      refine ⟨(pre ++ [r], rest.head?), ?_, ?_, ⟨rest, by rw [h1]; simp, rfl⟩, ?_⟩
      · simp [t__law_due_4ac3_1, optD]
      · rw [hn] at hnx
        cases hrh : rest.head? with
        | none =>
          rw [hrh] at hnx
          simp [b__law_due_4ac3_1, optD, hnx, hpl]
        | some r' =>
          rw [hrh] at hnx
          simp [b__law_due_4ac3_1, optD, hnx, hpl]
      · have := congrArg List.length h1
        simp at this ⊢; omega) _ ([], some (w.map fun _ => 0)) (Nat.le_refl _) ⟨les w, rfl, by rw [ht]; rfl⟩
  obtain ⟨pre, row⟩ := s
  obtain ⟨rest, h1, h2⟩ := hI
  simp only at hP h2 h1
  rw [hP] at h2
  have : rest = [] := List.head?_eq_none_iff.mp h2.symm
  rw [this, List.append_nil] at h1
  subst hP h1
  have hl2 : 0 ≤ (w.length : Int) := by omega
  have hl3 : (w.length : Int) < 1000 := by omega
  simp only [optD, rowD, reps_eq] at h
  simp at h
  simp [un__law_due_4ac3, m__law_due_4ac3, hl2, hl3, h]
end Dn

set_option Elab.async false
set_option linter.all false
set_option maxRecDepth 100000
set_option maxHeartbeats 4000000
namespace Dn
open PySem L2
/-! lists of ints in order -/
def lexI : List Int → List Int → Bool
  | [], [] => false
  | [], _ :: _ => true
  | _ :: _, [] => false
  | x :: xs, y :: ys => if x = y then lexI xs ys else decide (x < y)
open PySem.W PyProof.Rows in
theorem toks_lex : ∀ a b : List Int, PyProof.Rows.lexLt itemOrd (PySem.W.keyToksAll (a.map .int)) (PySem.W.keyToksAll (b.map .int)) = lexI a b
  | [], [] => by simp [lex_irrefl, lexI]
  | [], y :: b => by
    rw [List.map_cons, PySem.W.toks_all_cons]
    simp only [List.map_nil, PySem.W.keyToksAll]
    rw [lex_diff (O := itemOrd) (by simp)]
    simp [itemLt, lexI]
  | x :: a, [] => by
    rw [List.map_cons, PySem.W.toks_all_cons]
    simp only [List.map_nil, PySem.W.keyToksAll]
    rw [lex_diff (O := itemOrd) (by simp)]
    simp [itemLt, lexI]
  | x :: a, y :: b => by
    rw [List.map_cons, List.map_cons]
    have hal : PySem.W.alike (.int x) (.int y) = true := by simp [PySem.W.alike]
    by_cases h : x = y
    · rw [PySem.W.dataLt_all_yes hal (by simp [PyData.eqv, h]), toks_lex a b]
      simp [lexI, h]
    · rw [PySem.W.dataLt_all_no hal (by simp [PyData.eqv, h]), PySem.W.dataLt_int]
      simp [lexI, h]
theorem dataLt_row (a b : List Int) : PySem.W.dataLt (rowD a) (rowD b) = lexI a b := by
  rw [PySem.W.dataLt_list, toks_lex]
theorem upTo_split {m n : Int} (h0 : 0 ≤ m) (h : m ≤ n) : ∃ t, upTo n = upTo m ++ t ∧ ∀ k ∈ t, m < k := by
  unfold upTo
  have : (n + 1).toNat = (m + 1).toNat + (n - m).toNat := by omega
  rw [this, List.range_add, List.map_append]
  refine ⟨_, rfl, fun k hk => ?_⟩
  simp only [List.map_map, List.mem_map, List.mem_range, Function.comp_apply] at hk
  obtain ⟨a, ha, rfl⟩ := hk
  omega
theorem upTo_snoc {n : Int} (h : 0 ≤ n) : ∃ t, upTo n = t ++ [n] := by
  unfold upTo
  rw [show (n + 1).toNat = n.toNat + 1 by omega, List.range_succ, List.map_append]
  refine ⟨(List.range n.toNat).map fun (k : Nat) => (k : Int), ?_⟩
  simp; omega
theorem les_last : ∀ (w : List Int), (∀ n ∈ w, 0 ≤ n) → ∃ t, les w = t ++ [w]
  | [], _ => ⟨[], rfl⟩
  | n :: w, h => by
    obtain ⟨t, ht⟩ := les_last w fun m hm => h m (List.mem_cons_of_mem _ hm)
    obtain ⟨u, hu⟩ := upTo_snoc (h n (List.mem_cons_self ..))
    rw [les_cons, hu, List.flatMap_append, ht]
    refine ⟨(u.flatMap fun k => (t ++ [w]).map (k :: ·)) ++ t.map (n :: ·), ?_⟩
    simp only [List.flatMap_cons, List.flatMap_nil, List.append_nil, List.map_append, List.map_cons, List.map_nil, ← List.append_assoc]
theorem upTo_pair (n : Int) : (upTo n).Pairwise (· < ·) := by
  unfold upTo
  rw [List.pairwise_map]
  exact List.Pairwise.imp (fun h => by omega) List.pairwise_lt_range
theorem les_pair : ∀ (w : List Int), (les w).Pairwise fun a b => lexI a b = true
  | [] => by simp [les]
  | n :: w => by
    rw [les_cons]
    have ih := les_pair w
    have := upTo_pair n
    generalize upTo n = l at this
    induction l with
    | nil => simp
    | cons k l ihl =>
      obtain ⟨h1, h2⟩ := List.pairwise_cons.mp this
      rw [List.flatMap_cons, List.pairwise_append]
      refine ⟨?_, ihl h2, fun a ha b hb => ?_⟩
      · rw [List.pairwise_map]
        exact ih.imp fun h => by simpa [lexI] using h
      · obtain ⟨a', _, rfl⟩ := List.mem_map.mp ha
        obtain ⟨j, hj, hb⟩ := List.mem_flatMap.mp hb
        obtain ⟨b', _, rfl⟩ := List.mem_map.mp hb
        have := h1 j hj
        have hne : ¬ k = j := by omega
        simp [lexI, hne, this]
/-- contents c have no less than the row r -/
def covB (c r : List Int) : Bool := (c.zip r).all fun p => decide (p.2 ≤ p.1)
theorem les_filter : ∀ (l w : List Int), l.length = w.length → (∀ p ∈ l.zip w, 0 ≤ p.1 ∧ p.1 ≤ p.2) → (les w).filter (covB l) = les l
  | [], [], _, _ => by simp [les, covB]
  | [], _ :: _, h, _ => by simp at h
  | _ :: _, [], h, _ => by simp at h
  | m :: l, n :: w, hl, h => by
    have ih := les_filter l w (by simpa using hl) fun p hp => h p (by simp [hp])
    obtain ⟨h0, h1⟩ := h (m, n) (by simp)
    obtain ⟨t, ht, hk⟩ := upTo_split h0 h1
    rw [les_cons, les_cons, ht, List.flatMap_append, List.filter_append]
    have e1 : ∀ (u : List Int), (∀ k ∈ u, k ≤ m) → (u.flatMap fun k => (les w).map (k :: ·)).filter (covB (m :: l)) = u.flatMap fun k => (les l).map (k :: ·) := by
      intro u
      induction u with
      | nil => intro _; rfl
      | cons k u ihu =>
        intro hu
        rw [List.flatMap_cons, List.flatMap_cons, List.filter_append, ihu fun k hk => hu k (List.mem_cons_of_mem _ hk), List.filter_map, ← ih]
        congr 2
        apply List.filter_congr
        intro r _
        simp [covB, hu k (List.mem_cons_self ..)]
    have e2 : (t.flatMap fun k => (les w).map (k :: ·)).filter (covB (m :: l)) = [] := by
      rw [List.filter_eq_nil_iff]
      intro r hr
      obtain ⟨k, hk', hr⟩ := List.mem_flatMap.mp hr
      obtain ⟨r', _, rfl⟩ := List.mem_map.mp hr
      have := hk k hk'
      simp only [covB, List.zip_cons_cons, List.all_cons, Bool.and_eq_true, decide_eq_true_eq, not_and]
      intro h
      omega
    rw [e1 _ fun k hk => (upTo_mem.mp hk).2, e2, List.append_nil]
theorem covB_iff (c r : List Int) : covB c r = true ↔ ∀ p ∈ r.zip c, p.1 ≤ p.2 := by
  unfold covB
  simp only [List.all_eq_true, decide_eq_true_eq]
  constructor
  · intro h p hp
    have : (p.2, p.1) ∈ c.zip r := by
      induction r generalizing c with
      | nil => simp at hp
      | cons x r ih =>
        cases c with
        | nil => simp at hp
        | cons y c =>
          simp only [List.zip_cons_cons, List.mem_cons] at hp ⊢
          rcases hp with rfl | hp
          · exact .inl rfl
          · exact .inr (ih c (fun q hq => h q (by simp [hq])) hp)
    exact h _ this
  · intro h p hp
    have : (p.2, p.1) ∈ r.zip c := by
      induction c generalizing r with
      | nil => simp at hp
      | cons x c ih =>
        cases r with
        | nil => simp at hp
        | cons y r =>
          simp only [List.zip_cons_cons, List.mem_cons] at hp ⊢
          rcases hp with rfl | hp
          · exact .inl rfl
          · exact .inr (ih r (fun q hq => h q (by simp [hq])) hp)
    exact h _ this
theorem mem_les {w r : List Int} (hr : ∀ x ∈ r, 0 ≤ x) (hl : r.length = w.length) : (r ∈ les w) ↔ covB w r = true := by
  rw [les_mem, covB_iff]
  constructor
  · intro ⟨_, h⟩ p hp
    exact (h p hp).2
  · intro h
    exact ⟨hl, fun p hp => ⟨hr p.1 (List.of_mem_zip hp).1, h p hp⟩⟩
theorem restL_len (w c : List Int) : (restL w c).length = min w.length c.length := by simp [restL]
theorem restL_rest : ∀ (w a b : List Int), (∀ x ∈ b, 0 ≤ x) → restL (restL w a) b = restL w ((a.zip b).map fun p => p.1 + p.2)
  | [], _, _, _ => by simp [restL]
  | _ :: _, [], _, _ => by simp [restL]
  | _ :: _, _ :: _, [], _ => by simp [restL]
  | x :: w, y :: a, z :: b, h => by
    have ih := restL_rest w a b fun u hu => h u (List.mem_cons_of_mem _ hu)
    have := h z (List.mem_cons_self ..)
    simp only [restL, List.zip_cons_cons, List.map_cons, List.cons.injEq] at ih ⊢
    exact ⟨by omega, ih⟩
theorem restL_les {w c : List Int} (hw : ∀ x ∈ w, 0 ≤ x) (hc : ∀ x ∈ c, 0 ≤ x) (hl : c.length = w.length) : restL w c ∈ les w := by
  rw [les_mem]
  refine ⟨by rw [restL_len]; omega, ?_⟩
  induction w generalizing c with
  | nil => simp
  | cons x w ih =>
    cases c with
    | nil => simp at hl
    | cons y c =>
      intro p hp
      simp only [restL, List.zip_cons_cons, List.map_cons, List.mem_cons] at hp
      rcases hp with rfl | hp
      · have h1 := hw x (List.mem_cons_self ..)
        have h2 := hc y (List.mem_cons_self ..)
        simp only; omega
      · exact ih (fun u hu => hw u (List.mem_cons_of_mem _ hu)) (fun u hu => hc u (List.mem_cons_of_mem _ hu)) (by simpa using hl) p hp
theorem restL_zero (w c : List Int) (hl : c.length = w.length) : restL w c = reps w.length 0 ↔ covB c w = true := by
  induction w generalizing c with
  | nil => cases c <;> simp [restL, reps, covB]
  | cons x w ih =>
    cases c with
    | nil => simp at hl
    | cons y c =>
      have := ih c (by simpa using hl)
      simp only [restL, covB, reps, List.zip_cons_cons, List.map_cons, List.length_cons, List.replicate_succ, List.cons.injEq, List.all_cons, Bool.and_eq_true, decide_eq_true_eq] at this ⊢
      rw [this]
      constructor
      · intro ⟨h1, h2⟩; exact ⟨by omega, h2⟩
      · intro ⟨h1, h2⟩; exact ⟨by omega, h2⟩
theorem in_rows (r : List Int) (rows : List (List Int)) : fIn [rowD r, .list (rows.map rowD)] = some (.bool (rows.any fun z => decide (z = r))) := by
  have e : (rows.map rowD).any (fun z => PyData.eqv z (rowD r)) = rows.any fun z => decide (z = r) := by
    rw [List.any_map]
    congr 1
    funext z
    have h := eqv_iff 1 (rowD z) (rowD r) (by simp) (by simp)
    rw [Function.comp_apply, Bool.eq_iff_iff, h, decide_eq_true_eq]
    simp [map_int_inj]
  show (if SeqAt.shaped (rowD r) && SeqAt.shaped (.list (rows.map rowD)) then some (PyData.bool ((rows.map rowD).any fun z => PyData.eqv z (rowD r))) else none) = _
  rw [e]
  simp
theorem notIn_rows (r : List Int) (rows : List (List Int)) : fNotIn [rowD r, .list (rows.map rowD)] = some (.bool (!rows.any fun z => decide (z = r))) := by
  have e : (rows.map rowD).any (fun z => PyData.eqv z (rowD r)) = rows.any fun z => decide (z = r) := by
    rw [List.any_map]
    congr 1
    funext z
    have h := eqv_iff 1 (rowD z) (rowD r) (by simp) (by simp)
    rw [Function.comp_apply, Bool.eq_iff_iff, h, decide_eq_true_eq]
    simp [map_int_inj]
  show (if SeqAt.shaped (rowD r) && SeqAt.shaped (.list (rows.map rowD)) then some (PyData.bool (!(rows.map rowD).any fun z => PyData.eqv z (rowD r))) else none) = _
  rw [e]
  simp
end Dn

set_option Elab.async false
set_option linter.all false
set_option maxRecDepth 100000
set_option maxHeartbeats 4000000
namespace Dn
open PySem L2
/-! shops -/
inductive Off where
  | pack (c : List Int) (p : Int)
  | many (c : List Int) (ts : List (Int × Int))
  | add (c : List Int) (p : Int) (k : Int)
def tierD (t : Int × Int) : PyData := .tuple [.int t.1, .int t.2]
namespace Off
def kd : Off → Str
  | pack _ _ => "pack"
  | many _ _ => "many"
  | add _ _ _ => "add"
def c : Off → List Int
  | pack c _ => c
  | many c _ => c
  | add c _ _ => c
def d : Off → PyData
  | pack c p => .tuple [.str "pack", .list (c.map .int), .int p]
  | many c ts => .tuple [.str "many", .list (c.map .int), .list (ts.map tierD)]
  | add c p k => .tuple [.str "add", .list (c.map .int), .int p, .int k]
def isPack : Off → Bool
  | pack _ _ => true
  | _ => false
def isMany : Off → Bool
  | many _ _ => true
  | _ => false
def isAdd : Off → Bool
  | add _ _ _ => true
  | _ => false
end Off
theorem fEq_str (x y : Str) (hx : PyData.strOk x = true) (hy : PyData.strOk y = true) : fEq [.str x, .str y] = some (.bool (decide (x = y))) := by
  simp [fEq_ap, hx, hy, PyData.eqv]; rfl
theorem ok_pack : PyData.strOk "pack" = true := by decide +kernel
theorem ok_many : PyData.strOk "many" = true := by decide +kernel
theorem ok_add : PyData.strOk "add" = true := by decide +kernel
theorem kd_ok (o : Off) : PyData.strOk o.kd = true := by cases o <;> first | exact ok_pack | exact ok_many | exact ok_add
@[simp] theorem fEq_kp (o : Off) : fEq [.str o.kd, .str "pack"] = some (.bool o.isPack) := by
  rw [fEq_str _ _ (kd_ok o) ok_pack]
  cases o <;> (simp only [Off.kd, Off.isPack]; congr 2)
@[simp] theorem fEq_km (o : Off) : fEq [.str o.kd, .str "many"] = some (.bool o.isMany) := by
  rw [fEq_str _ _ (kd_ok o) ok_many]
  cases o <;> (simp only [Off.kd, Off.isMany]; congr 2)
@[simp] theorem fEq_ka (o : Off) : fEq [.str o.kd, .str "add"] = some (.bool o.isAdd) := by
  rw [fEq_str _ _ (kd_ok o) ok_add]
  cases o <;> (simp only [Off.kd, Off.isAdd]; congr 2)
@[simp] theorem ixO_d0 (o : Off) : ixO [.v o.d, .v (.int 0)] = some (.str o.kd) := by cases o <;> simp [Off.d, Off.kd]
@[simp] theorem ixO_d1 (o : Off) : ixO [.v o.d, .v (.int 1)] = some (.list (o.c.map .int)) := by cases o <;> simp [Off.d, Off.c]
@[simp] theorem nb_d (o : Off) : nb o.d 3 = true := by
  cases o <;> simp [Off.d, ok_pack, ok_many, ok_add, tierD]
/-- tiers as told -/
structure Tiers (ts : List (Int × Int)) : Prop where
  len : 1 ≤ ts.length ∧ ts.length ≤ 4
  one : (ts.map (·.1)).head? = some 1
  up : (ts.map (·.1)).Pairwise (· < ·)
  most : ∀ t ∈ ts, 1 ≤ t.1 ∧ t.1 ≤ 12
  price : ∀ t ∈ ts, 0 ≤ t.2 ∧ t.2 < 2000000000000
/-- an offer that may stand at place i of a shop of n things -/
structure GoodO (n : Nat) (sh : List Off) (i : Nat) (o : Off) : Prop where
  w : Want n o.c
  sum : 0 < o.c.sum
  kind : match o with
    | .pack _ p => 0 ≤ p ∧ p < 1000000000000
    | .many _ ts => Tiers ts
    | .add _ p k => (0 ≤ p ∧ p < 1000000000000) ∧ 0 ≤ k ∧ k < i ∧ ∃ c p', sh[k.toNat]? = some (.pack c p')
def Good (n : Nat) (sh : List Off) : Prop := ∀ i o, sh[i]? = some o → GoodO n sh i o
theorem content_ok (ds : List Int) (many : Int) (hm : 1 ≤ many ∧ many ≤ 4) : ∃ (w ds' : List Int), sem__law_content_9bc7 [.l (ds.map oi), oi many] = some (.l (w.map oi), [.l (ds'.map oi)]) ∧ Want many.toNat w ∧ 0 < w.sum := by
  obtain ⟨w, d1, h1, hw, -⟩ := want_ok ds many hm
  have hnn : ∀ l : List Int, (∀ x ∈ l, 0 ≤ x) → 0 ≤ l.sum ∧ (l.sum = 0 → ∀ x ∈ l, x = 0) := by
    intro l
    induction l with
    | nil => simp
    | cons a l ih =>
      intro h
      obtain ⟨i1, i2⟩ := ih fun x hx => h x (List.mem_cons_of_mem _ hx)
      have ha := h a (List.mem_cons_self ..)
      rw [List.sum_cons]
      refine ⟨by omega, fun hz x hx => ?_⟩
      rcases List.mem_cons.mp hx with rfl | hx
      · omega
      · exact i2 (by omega) x hx
  have hs := hnn w fun x hx => (hw.nine x hx).1
  by_cases h0 : w.sum = 0
  · obtain ⟨a, d2, h2⟩ := pop_ok d1
    obtain ⟨b, d3, h3⟩ := pop_ok d2
    have hj : 0 ≤ b % many ∧ b % many < many := ⟨Int.emod_nonneg _ (by omega), Int.emod_lt_of_pos _ (by omega)⟩
    have hix : ixN w.length (b % many) = some (b % many).toNat := ixN_in hj.1 (by rw [hw.len]; omega)
    have hmod : fMod [.int b, .int many] = some (.int (b % many)) := fMod_s (by omega)
    refine ⟨w.set (b % many).toNat (1 + a % 9), d3, ?_, ⟨by simp [hw.len], fun x hx => ?_⟩, ?_⟩
    · simp [un__law_content_9bc7, m__law_content_9bc7, h1, h0, h2, h3, hmod, hix, List.map_set]
    · rcases List.mem_or_eq_of_mem_set hx with hx | rfl
      · exact hw.nine x hx
      · omega
    · have hjl : (b % many).toNat < w.length := by rw [hw.len]; omega
      have hmem : (1 + a % 9) ∈ w.set (b % many).toNat (1 + a % 9) := List.mem_set hjl _
      have hn2 := hnn (w.set (b % many).toNat (1 + a % 9)) fun x hx => by
        rcases List.mem_or_eq_of_mem_set hx with hx | rfl
        · exact (hw.nine x hx).1
        · omega
      rcases Int.lt_or_eq_of_le hn2.1 with h | h
      · exact h
      · have := hn2.2 h.symm _ hmem
        omega
  · refine ⟨w, d1, ?_, hw, by omega⟩
    simp [un__law_content_9bc7, m__law_content_9bc7, h1, h0]
theorem price_ok (ds : List Int) : ∃ (p : Int) (ds' : List Int), sem__law_price_9bd3 [.l (ds.map oi)] = some (oi p, [.l (ds'.map oi)]) ∧ 0 ≤ p ∧ p < 1000000000000 := by
  obtain ⟨n, d1, h1⟩ := pop_ok ds
  have h3 : 0 ≤ n % 4 ∧ n % 4 < 4 := by omega
  obtain ⟨x, hx, hx2⟩ := atI_in [n / 4 % 30, n / 4 % 1000, 0, n * 7919 % 1000000000000] (i := n % 4) h3.1 (by simp; omega)
  have hm := List.mem_of_getElem? hx2
  have hx' := congrArg (Option.map oi) hx
  rw [← atI_map] at hx'
  simp at hx'
  have hmod : fMod [.int (n * 7919), .int 1000000000000] = some (.int (n * 7919 % 1000000000000)) := fMod_s (by decide)
  refine ⟨x, d1, ?_, ?_, ?_⟩
  · simp [un__law_price_9bd3, m__law_price_9bd3, h1, hx']
  · simp at hm; omega
  · simp at hm; omega
theorem pick3 (x : Int) : ∃ y : Int, atI [oi 1, oi 3, oi 8] (x % 3) = some (oi y) ∧ 0 < y := by
  rcases (show x % 3 = 0 ∨ x % 3 = 1 ∨ x % 3 = 2 by omega) with h | h | h <;> rw [h]
  · exact ⟨1, by simp, by decide⟩
  · exact ⟨3, by simp, by decide⟩
  · exact ⟨8, by simp, by decide⟩
theorem tiers_turn (ds : List Int) (k : Nat) (ts : List (Int × Int)) (at' : Int) (hl : ts.length ≤ 4) : ∃ (p z : Int) (ds' : List Int),
    b__law_tiers_278e_1 [.pin (.l (ds.map oi)), .own (.l (ts.map fun t => .v (tierD t))), .own (.v (.int at')), .own (.v (.int (k : Int))), .no] = some (.nx [.pin (.l (ds'.map oi)), .own (.l ((if at' < 13 then ts ++ [(at', p)] else ts).map fun t => .v (tierD t))), .own (.v (.int (at' + 1 + z))), .no, .no]) ∧ 0 ≤ z ∧ 0 ≤ p ∧ p < 1000000000000 := by
  obtain ⟨n, d1, h1⟩ := pop_ok ds
  obtain ⟨p, d2, h2, hp⟩ := price_ok d1
  obtain ⟨y, hy, hy0⟩ := pick3 (n / 8)
  have hmod : fMod [.int n, .int y] = some (.int (n % y)) := fMod_s hy0
  have hz : 0 ≤ n % y := Int.emod_nonneg _ (by omega)
  have hl2 : ts.length < 16777216 := by omega
  by_cases h : at' < 13
  · refine ⟨p, n % y, d2, ?_, hz, hp⟩
    simp [b__law_tiers_278e_1, h1, h2, h, hy, hmod, hl2, tierD]
  · refine ⟨p, n % y, d1, ?_, hz, hp⟩
    simp [b__law_tiers_278e_1, h1, h, hy, hmod]
/-- tiers so far: where the next one would begin -/
structure TierI (pre : Nat) (ts : List (Int × Int)) (at' : Int) : Prop where
  len : ts.length ≤ pre
  pos : 1 ≤ at' ∧ (ts = [] → at' = 1) ∧ (pre ≠ 0 → ts ≠ [])
  one : ts ≠ [] → (ts.map (·.1)).head? = some 1
  up : (ts.map (·.1)).Pairwise (· < ·)
  most : ∀ t ∈ ts, 1 ≤ t.1 ∧ t.1 ≤ 12 ∧ t.1 < at'
  price : ∀ t ∈ ts, 0 ≤ t.2 ∧ t.2 < 1000000000000
theorem tiers_ok (ds : List Int) : ∃ (ts : List (Int × Int)) (ds' : List Int), sem__law_tiers_278e [.l (ds.map oi)] = some (.l (ts.map fun t => .v (tierD t)), [.l (ds'.map oi)]) ∧ Tiers ts := by
  obtain ⟨n, d1, h1⟩ := pop_ok ds
  obtain ⟨⟨ts, at', d2⟩, h2, hI⟩ := for_inv (tg := .n 3) (body := b__law_tiers_278e_1) (enc := fun (k : Nat) => O.v (.int (k : Int))) (E := fun (s : List (Int × Int) × Int × List Int) => [.pin (.l (s.2.2.map oi)), .own (.l (s.1.map fun t => .v (tierD t))), .own (.v (.int s.2.1)), .no, .no])
    (fun pre s => TierI pre.length s.1 s.2.1) (all := List.range (1 + n % 4).toNat) (List.range (1 + n % 4).toNat) [] ([], 1, d1) rfl { len := Nat.le_refl _, pos := ⟨Int.le_refl 1, fun _ => rfl, fun h => absurd rfl h⟩, one := fun h => absurd rfl h, up := .nil, most := (fun t ht => nomatch ht), price := (fun t ht => nomatch ht) } (by
    intro pre k post ⟨ts, at', ds⟩ hall hI
    have hpl : pre.length < 4 := by have := congrArg List.length hall; simp at this; omega
    have hts := hI.len
    obtain ⟨p, z, ds', hb, hz, hp⟩ := tiers_turn ds k ts at' (by simp only at hts; omega)
    refine ⟨(if at' < 13 then ts ++ [(at', p)] else ts, at' + 1 + z, ds'), _, rfl, hb, ?_⟩
    have hpos := hI.pos
    simp only at hpos
    by_cases h : at' < 13
    · simp only [if_pos h]
      refine ⟨by simp; exact hI.len, ⟨by omega, fun h => by simp at h, fun _ => by simp⟩, fun _ => ?_, ?_, ?_, ?_⟩
      · cases ts with
        | nil => simp [hpos.2.1 rfl]
        | cons t ts => simpa using hI.one (by simp)
      · rw [List.map_append, List.pairwise_append]
        refine ⟨hI.up, by simp, fun a ha b hb => ?_⟩
        obtain ⟨t, ht, rfl⟩ := List.mem_map.mp ha
        simp at hb
        subst hb
        exact (hI.most t ht).2.2
      · intro t ht
        rcases List.mem_append.mp ht with ht | ht
        · obtain ⟨a, b, c⟩ := hI.most t ht
          simp only at c
          exact ⟨a, b, by omega⟩
        · simp at ht; subst ht; simp only; omega
      · intro t ht
        rcases List.mem_append.mp ht with ht | ht
        · exact hI.price t ht
        · simp at ht; subst ht; exact hp
    · simp only [if_neg h]
      have hne : ts ≠ [] := fun z => by have := hpos.2.1 z; omega
      exact ⟨by simp; exact Nat.le_succ_of_le hI.len, ⟨by omega, fun h => absurd h hne, fun _ => hne⟩, hI.one, hI.up, fun t ht => by
        obtain ⟨a, b, c⟩ := hI.most t ht
        simp only at c
        exact ⟨a, b, by omega⟩, hI.price⟩)
  simp only [List.length_range] at hI
  have hne : ts ≠ [] := hI.pos.2.2 (by omega)
  have hb1 : -4611686018427387904 ≤ 1 + n % 4 := by omega
  have hb2 : 1 + n % 4 < 4611686018427387904 := by omega
  refine ⟨ts, d2, ?_, ⟨⟨List.length_pos_iff.mpr hne, by have := hI.len; omega⟩, hI.one hne, hI.up, fun t ht => ⟨(hI.most t ht).1, (hI.most t ht).2.1⟩, fun t ht => ⟨(hI.price t ht).1, by have := (hI.price t ht).2; omega⟩⟩⟩
  simp only [List.map_nil] at h2
  simp [un__law_tiers_278e, m__law_tiers_278e, h1, hb1, hb2, h2]
end Dn

set_option Elab.async false
set_option linter.all false
set_option maxRecDepth 100000
set_option maxHeartbeats 4000000
namespace Dn
open PySem L2
abbrev offO (o : Off) : O := .v o.d
/-- the places of packs -/
def packsL (sh : List Off) : List Int := ((List.range sh.length).filter fun k => match sh[k]? with | some o => o.isPack | none => false).map fun (k : Nat) => (k : Int)
theorem packs_lc (sh : List Off) (e : En) (h3 : e[3]? = some (.own (.l (sh.map offO)))) (h8 : e[8]? = some .no) :
    lcL (.n 8) ct__law_shop_0742_1 ce__law_shop_0742_1 [8] ((List.range sh.length).map fun (k : Nat) => O.v (.int (k : Int))) e = some ((packsL sh).map oi, e) := by
  rw [packsL, List.map_map]
  refine lc_filter1 h8 _ fun k hk e' h1 h2 => ?_
  simp at hk
  obtain ⟨o, ho⟩ : ∃ o, sh[k]? = some o := ⟨_, List.getElem?_eq_getElem hk⟩
  have ha : atI sh (k : Int) = some o := atI_nat rfl ho
  refine ⟨?_, fun _ => ?_⟩
  · simp [ct__law_shop_0742_1, h1, h2, h3, ha, ho]
  · simp [ce__law_shop_0742_1, h1]
theorem packsL_mem {sh : List Off} {x : Int} (h : x ∈ packsL sh) : 0 ≤ x ∧ x < sh.length ∧ ∃ c p, sh[x.toNat]? = some (.pack c p) := by
  unfold packsL at h
  obtain ⟨k, hk, rfl⟩ := List.mem_map.mp h
  obtain ⟨h1, h2⟩ := List.mem_filter.mp hk
  simp at h1
  refine ⟨by omega, by omega, ?_⟩
  cases ho : sh[k]? with
  | none => rw [ho] at h2; simp at h2
  | some o =>
    rw [ho] at h2
    cases o with
    | pack c p => exact ⟨c, p, by simpa using ho⟩
    | many c ts => simp [Off.isPack] at h2
    | add c p k => simp [Off.isPack] at h2
theorem Good.snoc {n : Nat} {sh : List Off} {o : Off} (h : Good n sh) (ho : GoodO n sh sh.length o) : Good n (sh ++ [o]) := by
  have lift : ∀ (i : Nat) (x : Off), GoodO n sh i x → i ≤ sh.length → GoodO n (sh ++ [o]) i x := fun i x hx hi => by
    refine ⟨hx.w, hx.sum, ?_⟩
    have := hx.kind
    cases x with
    | pack c p => exact this
    | many c ts => exact this
    | add c p k =>
      obtain ⟨a, b, c', ⟨c2, p2, h2⟩⟩ := this
      refine ⟨a, b, c', c2, p2, ?_⟩
      rw [List.getElem?_append_left (by omega)]
      exact h2
  intro i x hx
  by_cases hi : i < sh.length
  · rw [List.getElem?_append_left hi] at hx
    exact lift i x (h i x hx) (by omega)
  · have hl := (List.getElem?_eq_some_iff.mp hx).1
    simp at hl
    have : i = sh.length := by omega
    subst this
    simp at hx
    subst hx
    exact lift _ _ ho (Nat.le_refl _)
theorem shop_turn (ds : List Int) (many most : Int) (hm : 1 ≤ many ∧ many ≤ 4) (k : Nat) (sh : List Off) (hg : Good many.toNat sh) (hl : sh.length ≤ 100) : ∃ (o : Off) (ds' : List Int),
    b__law_shop_0742_1 [.pin (.l (ds.map oi)), .own (.v (.int many)), .own (.v (.int most)), .own (.l (sh.map offO)), .own (.v (.int (k : Int))), .no, .no, .no, .no] = some (.nx [.pin (.l (ds'.map oi)), .own (.v (.int many)), .own (.v (.int most)), .own (.l ((sh ++ [o]).map offO)), .no, .no, .no, .no, .no]) ∧ GoodO many.toNat sh sh.length o := by
  obtain ⟨n, d1, h1⟩ := pop_ok ds
  obtain ⟨c, d2, h2, hc, hs⟩ := content_ok d1 many hm
  obtain ⟨p, d3, h3, hp⟩ := price_ok d2
  obtain ⟨ts, d4, h4, ht⟩ := tiers_ok d2
  have hpk := packs_lc sh
  have hb1 : -4611686018427387904 ≤ (sh.length : Int) := by omega
  have hb2 : (sh.length : Int) < 4611686018427387904 := by omega
  have hb3 : sh.length ≤ 16777216 := by omega
  have hb4 : sh.length < 16777216 := by omega
  have hd : O.toDs (ts.map fun t => O.v (tierD t)) = some (ts.map tierD) := toDs_mapv _ _
  by_cases hadd : 4 < n % 8
  · by_cases hne : packsL sh = []
    · -- no pack: n % 8 > 2 then
      have h22 : 2 < n % 8 := by omega
      refine ⟨.many c ts, d4, ?_, ⟨hc, hs, ht⟩⟩
      have hfn := fNe_nil (packsL sh)
      simp [hne] at hfn
      simp [b__law_shop_0742_1, h1, h2, h4, hpk, hb1, hb2, hb3, hb4, hadd, hne, hfn, h22, Off.d]
    · have hpl : 0 < (packsL sh).length := List.length_pos_iff.mpr hne
      obtain ⟨x, hx, hx2⟩ := atI_in (packsL sh) (i := n / 8 % ((packsL sh).length : Int)) (Int.emod_nonneg _ (by omega)) (Int.emod_lt_of_pos _ (by omega))
      obtain ⟨q1, q2, q3⟩ := packsL_mem (List.mem_of_getElem? hx2)
      have hmod : fMod [.int (n / 8), .int ((packsL sh).length : Int)] = some (.int (n / 8 % ((packsL sh).length : Int))) := fMod_s (by omega)
      refine ⟨.add c p x, d3, ?_, ⟨hc, hs, hp, q1, q2, q3⟩⟩
      simp [b__law_shop_0742_1, h1, h2, h3, hpk, hb1, hb2, hb3, hb4, hadd, hne, hx, hmod, Off.d]
  · by_cases hmany : 2 < n % 8
    · refine ⟨.many c ts, d4, ?_, ⟨hc, hs, ht⟩⟩
      simp [b__law_shop_0742_1, h1, h2, h4, hpk, hb1, hb2, hb3, hb4, hadd, hmany, Off.d]
    · refine ⟨.pack c p, d3, ?_, ⟨hc, hs, hp⟩⟩
      simp [b__law_shop_0742_1, h1, h2, h3, hpk, hb1, hb2, hb3, hb4, hadd, hmany, Off.d]
theorem shop_ok (ds : List Int) (many most : Int) (hm : 1 ≤ many ∧ many ≤ 4) (hmo : 0 ≤ most ∧ most ≤ 50) : ∃ (sh : List Off) (ds' : List Int), sem__law_shop_0742 [.l (ds.map oi), oi many, oi most] = some (.l (sh.map offO), [.l (ds'.map oi)]) ∧ Good many.toNat sh ∧ sh.length ≤ most.toNat := by
  obtain ⟨n, d1, h1⟩ := pop_ok ds
  have hmod : fMod [.int n, .int (most + 1)] = some (.int (n % (most + 1))) := fMod_s (by omega)
  have hr : 0 ≤ n % (most + 1) ∧ n % (most + 1) < most + 1 := ⟨Int.emod_nonneg _ (by omega), Int.emod_lt_of_pos _ (by omega)⟩
  obtain ⟨⟨sh, d2⟩, h2, hI⟩ := for_inv (tg := .n 4) (body := b__law_shop_0742_1) (enc := fun (k : Nat) => O.v (.int (k : Int))) (E := fun (s : List Off × List Int) => [.pin (.l (s.2.map oi)), .own (.v (.int many)), .own (.v (.int most)), .own (.l (s.1.map offO)), .no, .no, .no, .no, .no])
    (fun pre s => Good many.toNat s.1 ∧ s.1.length = pre.length) (all := List.range (n % (most + 1)).toNat) (List.range (n % (most + 1)).toNat) [] ([], d1) rfl ⟨fun i o h => by simp at h, rfl⟩ (by
    intro pre k post ⟨sh, ds⟩ hall ⟨hg, hl⟩
    have hpl : pre.length < 51 := by have := congrArg List.length hall; simp at this; omega
    simp only at hg hl
    obtain ⟨o, ds', hb, ho⟩ := shop_turn ds many most hm k sh hg (by omega)
    exact ⟨(sh ++ [o], ds'), _, rfl, hb, hg.snoc ho, by simp [hl]⟩)
  have hb1 : -4611686018427387904 ≤ n % (most + 1) := by omega
  have hb2 : n % (most + 1) < 4611686018427387904 := by omega
  refine ⟨sh, d2, ?_, hI.1, by have := hI.2; simp at this; omega⟩
  simp only [List.map_nil] at h2
  simp [un__law_shop_0742, m__law_shop_0742, h1, hmod, hb1, hb2, h2]
end Dn

set_option Elab.async false
set_option linter.all false
set_option maxRecDepth 100000
set_option maxHeartbeats 4000000
namespace Dn
open PySem L2
theorem cutG_take {α : Type} (xs : List α) (n : Nat) : cutG xs none (some (n : Int)) = xs.take n := by
  unfold cutG
  rw [HT.sIx_none, HT.sIx_nat, List.drop_zero, Nat.sub_zero]
  by_cases h : n ≤ xs.length
  · rw [Nat.min_eq_left h]
  · rw [Nat.min_eq_right (by omega), List.take_length, List.take_of_length_le (by omega)]
theorem cutG_drop {α : Type} (xs : List α) (n : Nat) : cutG xs (some (n : Int)) none = xs.drop n := by
  unfold cutG
  rw [HT.sIx_none, HT.sIx_nat]
  by_cases h : n ≤ xs.length
  · rw [Nat.min_eq_left h, List.take_of_length_le (by simp)]
  · rw [Nat.min_eq_right (by omega), List.drop_of_length_le (by omega), List.drop_of_length_le (by omega)]
    simp
@[simp] theorem slO_l (xs : List O) (lo hi : Option Int) : slO (.l xs) lo hi = some (.l (cutG xs lo hi)) := id rfl
@[simp] theorem slO_v (ds : List PyData) (lo hi : Option Int) : slO (.v (.list ds)) lo hi = some (.l (cutG (ds.map .v) lo hi)) := id rfl
theorem cutG_map1 {α β : Type} (f : α → β) (xs : List α) (lo hi : Option Int) : cutG (xs.map f) lo hi = (cutG xs lo hi).map f := cutG_map f xs lo hi
def startsL (ts : List (Int × Int)) : List Int := ts.map (·.1)
theorem atI_last {α : Type} (xs : List α) (x : α) : atI (xs ++ [x]) (-1) = some x := by
  unfold atI ixN
  rw [if_neg (by decide), if_pos (by simp; omega)]
  have : (-1 + ((xs ++ [x]).length : Int)).toNat = xs.length := by simp; omega
  rw [this]
  simp
theorem tiersR_ok (ts : List (Int × Int)) (h : Tiers ts) : sem_tiers_right [.v (.list (ts.map tierD))] = some (.v (.bool true), []) := by
  have hl : ts.length ≤ 4 := h.len.2
  have hlc : lcL (.tp [(.n 2), (.n 3)]) mYes ce_tiers_right_1 [2, 3] (ts.map fun t => .v (tierD t)) [.own (.v (.list (ts.map tierD))), .no, .no, .no, .no] = some ((startsL ts).map oi, [.own (.v (.list (ts.map tierD))), .no, .no, .no, .no]) := by
    rw [startsL, List.map_map]
    refine lc_map _ fun t _ => ?_
    simp [ce_tiers_right_1, tierD]
  have hsl : (startsL ts).length = ts.length := by simp [startsL]
  obtain ⟨r, hr⟩ : ∃ r, startsL ts = 1 :: r := by
    have := h.one
    cases hs : startsL ts with
    | nil => rw [startsL] at hs; rw [hs] at this; simp at this
    | cons x r => rw [startsL] at hs; rw [hs] at this; simp at this; exact ⟨r, by rw [this]⟩
  obtain ⟨u, z, hz⟩ : ∃ u z, startsL ts = u ++ [z] := by
    have hne : startsL ts ≠ [] := by rw [hr]; simp
    exact ⟨_, _, (List.dropLast_concat_getLast hne).symm⟩
  have hz12 : z ≤ 12 := by
    have : z ∈ startsL ts := by rw [hz]; simp
    obtain ⟨t, ht, rfl⟩ := List.mem_map.mp this
    exact (h.most t ht).2
  have hcut : cutG ((startsL ts).map fun n => O.v (.int n)) none (some 1) = [oi 1] := by
    rw [show (1 : Int) = ((1 : Nat) : Int) from rfl, cutG_take, hr]; rfl
  have hlast : atI (startsL ts) (-1) = some z := by rw [hz]; exact atI_last u z
  have hall : ∀ e : En, e[1]? = some (.own (.v (.list ((startsL ts).map .int)))) → e[4]? = some .no → lcL (.n 4) mYes ce_tiers_right_2 [4] ((List.range (ts.length - 1)).map fun (k : Nat) => O.v (.int (k : Int))) e = some ((List.range (ts.length - 1)).map (fun _ => O.v (.bool true)), e) := fun e h1 h4 => by
    refine lc_map1 h4 _ fun k hk e' g1 g2 => ?_
    simp at hk
    have hp := List.pairwise_iff_getElem.mp h.up k (k + 1) (by simp; omega) (by simp; omega) (by omega)
    obtain ⟨a, ha⟩ : ∃ a, (startsL ts)[k]? = some a := ⟨_, List.getElem?_eq_getElem (by omega)⟩
    obtain ⟨b, hb⟩ : ∃ b, (startsL ts)[k + 1]? = some b := ⟨_, List.getElem?_eq_getElem (by omega)⟩
    have hab : a < b := by
      have e1 := (List.getElem?_eq_some_iff.mp ha).2
      have e2 := (List.getElem?_eq_some_iff.mp hb).2
      simp only [startsL] at e1 e2
      rw [e1, e2] at hp
      exact hp
    have e1 : atI (startsL ts) (k : Int) = some a := atI_nat rfl ha
    have e2 : atI (startsL ts) ((k : Int) + 1) = some b := atI_nat (j := k + 1) (by omega) hb
    simp [ce_tiers_right_2, g1, g2, h1, e1, e2, hab]
  have b1 : -4611686018427387904 ≤ (ts.length : Int) - 1 := by omega
  have b2 : (ts.length : Int) - 1 < 4611686018427387904 := by omega
  have b3 : ((ts.length : Int) - 1).toNat = ts.length - 1 := by omega
  have b4 : ts.length ≤ 16777216 := by omega
  have b5 : ts.length ≤ 16777217 := by omega
  have b6 : ¬ 4 < (ts.length : Int) := by omega
  have b7 : ¬ 12 < z := by omega
  have fne : fNe [.list [.int 1], .list [.int 1]] = some (.bool false) := fNe_same 1 (by decide) (by simp)
  have hne1 : ¬ 4 < ts.length := by omega
  have hbb : (List.range (ts.length - 1)).map (fun _ => PyData.bool true) = ((List.range (ts.length - 1)).map fun _ => true).map .bool := by simp
  simp [un_tiers_right, m_tiers_right, hlc, hcut, fne, hsl, hlast, b1, b2, b3, b4, b5, b6, b7, hne1, hall]
@[simp] theorem ixO_a2 (c : List Int) (p k : Int) : ixO [.v (Off.add c p k).d, .v (.int 2)] = some (.int p) := by simp [Off.d]
@[simp] theorem ixO_a3 (c : List Int) (p k : Int) : ixO [.v (Off.add c p k).d, .v (.int 3)] = some (.int k) := by simp [Off.d]
@[simp] theorem ixO_p2 (c : List Int) (p : Int) : ixO [.v (Off.pack c p).d, .v (.int 2)] = some (.int p) := by simp [Off.d]
@[simp] theorem ixO_m2 (c : List Int) (ts : List (Int × Int)) : ixO [.v (Off.many c ts).d, .v (.int 2)] = some (.list (ts.map tierD)) := by simp [Off.d]
@[simp] theorem isPack_p (c : List Int) (p : Int) : (Off.pack c p).isPack = true := id rfl
@[simp] theorem isPack_m (c : List Int) (ts : List (Int × Int)) : (Off.many c ts).isPack = false := id rfl
@[simp] theorem isPack_a (c : List Int) (p k : Int) : (Off.add c p k).isPack = false := id rfl
@[simp] theorem isMany_p (c : List Int) (p : Int) : (Off.pack c p).isMany = false := id rfl
@[simp] theorem isMany_m (c : List Int) (ts : List (Int × Int)) : (Off.many c ts).isMany = true := id rfl
@[simp] theorem isMany_a (c : List Int) (p k : Int) : (Off.add c p k).isMany = false := id rfl
@[simp] theorem isAdd_p (c : List Int) (p : Int) : (Off.pack c p).isAdd = false := id rfl
@[simp] theorem isAdd_m (c : List Int) (ts : List (Int × Int)) : (Off.many c ts).isAdd = false := id rfl
@[simp] theorem isAdd_a (c : List Int) (p k : Int) : (Off.add c p k).isAdd = true := id rfl
abbrev shopD (sh : List Off) : PyData := .list (sh.map Off.d)
theorem enu_shop (sh : List Off) : enuO 0 (sh.map fun o => O.v o.d) = (sh.zipIdx 0).map fun p => .t [oi (p.2 : Nat), .v p.1.d] := enuO_map _ 0 sh
theorem zipIdx_get {α : Type} {xs : List α} {p : α × Nat} (h : p ∈ xs.zipIdx 0) : xs[p.2]? = some p.1 := by
  have := List.mem_zipIdx_iff_getElem?.mp h
  simpa using this
theorem look_ok (n : Nat) (sh : List Off) (hg : Good n sh) : sem_look [.v (shopD sh)] = some (.v .none, []) := by
  have h := (for_fold (tg := .tp [(.n 1), (.n 2)]) (body := b_look_1) (enc := fun (p : Off × Nat) => O.t [oi (p.2 : Nat), .v p.1.d]) (E := fun (_ : Unit) => [.own (.v (shopD sh)), .no, .no, .no]) (step := fun _ _ => ()) (I := fun _ => True) (sh.zipIdx 0) () trivial (by
    intro ⟨o, i⟩ hp _ _
    have ho := zipIdx_get hp
    simp only at ho
    have hk := (hg i o ho).kind
    cases o with
    | pack c p =>
      refine ⟨trivial, _, rfl, ?_⟩
      simp [b_look_1]
    | many c ts =>
      have := tiersR_ok ts hk
      refine ⟨trivial, _, rfl, ?_⟩
      simp [b_look_1, this]
    | add c p k =>
      obtain ⟨-, k0, ki, c', p', hk'⟩ := hk
      have ha : atI sh k = some (.pack c' p') := atI_nat (j := k.toNat) (by omega) hk'
      refine ⟨trivial, _, rfl, ?_⟩
      simp [b_look_1, k0, ki, ha, sV])).1
  simp [un_look, m_look, enu_shop, h]
end Dn

set_option Elab.async false
set_option linter.all false
set_option maxRecDepth 100000
set_option maxHeartbeats 4000000
namespace Dn
open PySem L2
def isAddOf (place : Int) : Off → Bool
  | .add _ _ k => decide (k = place)
  | _ => false
def addsL (sh : List Off) (place : Int) : List Int := ((sh.zipIdx 0).filter fun p => isAddOf place p.1).map fun p => ((p.2 : Nat) : Int)
theorem adds_of_ok (sh : List Off) (place : Int) (hl : sh.length ≤ 1000) : sem_adds_of [.v (shopD sh), oi place] = some (.l ((addsL sh place).map oi), []) := by
  have h : lcL (.tp [(.n 2), (.n 3)]) ct_adds_of_1 ce_adds_of_1 [2, 3] ((sh.zipIdx 0).map fun p => .t [oi (p.2 : Nat), .v p.1.d]) [.own (.v (shopD sh)), .own (oi place), .no, .no] = some ((addsL sh place).map oi, [.own (.v (shopD sh)), .own (oi place), .no, .no]) := by
    rw [addsL, List.map_map]
    refine lc_filter (p := fun (p : Off × Nat) => isAddOf place p.1) _ fun p _ => ?_
    obtain ⟨o, i⟩ := p
    refine ⟨[.own (.v (shopD sh)), .own (oi place), .own (oi (i : Nat)), .own (.v o.d)], [.own (.v (shopD sh)), .own (oi place), .own (oi (i : Nat)), .own (.v o.d)], [.own (.v (shopD sh)), .own (oi place), .own (oi (i : Nat)), .own (.v o.d)], ?_, ?_, fun _ => ⟨?_, ?_⟩, fun _ => ?_⟩
    · simp
    · cases o with
      | pack c p => simp [ct_adds_of_1, isAddOf]
      | many c ts => simp [ct_adds_of_1, isAddOf]
      | add c p k => simp [ct_adds_of_1, isAddOf]
    · simp [ce_adds_of_1]
    · simp
    · simp
  have hl2 : sh.length ≤ 16777216 := by omega
  simp [un_adds_of, m_adds_of, enu_shop, h, hl2]
/-! choices -/
def dblL (rows : List (List Int)) (x : Int) : List (List Int) := rows ++ rows.map (· ++ [x])
theorem dblRows_rows (x : Int) (rows : List (List Int)) (h : ∀ r ∈ rows, r.length ≤ 1000) : dblRows (.int x) (rows.map rowO) = some ((rows.map (· ++ [x])).map rowO) := by
  induction rows with
  | nil => rfl
  | cons r rows ih =>
    have ih := ih fun r' hr => h r' (List.mem_cons_of_mem _ hr)
    have hr := h r (List.mem_cons_self ..)
    have h1 : dblRow (.int x) (rowO r) = some (rowO (r ++ [x])) := by
      show (match O.allV (r.map oi) with | some ds => if ds.length + 1 ≤ sizeLine then some (O.l ((ds ++ [PyData.int x]).map .v)) else none | none => none) = _
      have : r.length + 1 ≤ 16777216 := by omega
      simp [this]
    rw [List.map_cons, List.map_cons, List.map_cons]
    show (match dblRow (.int x) (rowO r), dblRows (.int x) (rows.map rowO) with | some y, some ys => some (y :: ys) | _, _ => none) = _
    rw [h1, ih]
def sortRows (rows : List (List Int)) : List (List Int) := rows.mergeSort fun a b => !lexI b a
theorem srt_rows (rows : List (List Int)) : srtO [.l (rows.map rowO)] = some (.l ((sortRows rows).map rowO)) := by
  have e1 : (rows.map rowO).zip (rows.map rowD) = rows.map fun r => (rowO r, rowD r) := by
    induction rows with
    | nil => rfl
    | cons r rows ih => simp [ih]
  have e2 : ((rows.map fun r => (rowO r, rowD r)).mergeSort (PySem.W.dataLe false (·.2))).map (·.1) = (sortRows rows).map rowO := by
    rw [merge_map, List.map_map, sortRows]
    congr 1
    congr 1
    funext a b
    rw [PySem.W.dataLe_eq]
    simp [dataLt_row]
  have hal : allAlikeB (rows.map rowD) = true := by
    unfold allAlikeB
    rw [List.all_eq_true]
    intro d hd
    rw [List.all_eq_true]
    intro d' hd'
    obtain ⟨a, _, rfl⟩ := List.mem_map.mp hd
    obtain ⟨b, _, rfl⟩ := List.mem_map.mp hd'
    show PySem.W.alike (.list _) (.list _) = true
    simp [PySem.W.alike, PySem.W.alike_ints]
  have hso : sortableB (rows.map rowD) = true := by
    unfold sortableB
    rw [Bool.or_eq_true]
    right
    rw [List.all_eq_true]
    intro d hd
    obtain ⟨a, _, rfl⟩ := List.mem_map.mp hd
    rfl
  have hdp : (rows.map rowD).all (fun d => decide (d.depth ≤ 60)) = true := by
    rw [List.all_eq_true]
    intro d hd
    obtain ⟨a, _, rfl⟩ := List.mem_map.mp hd
    simp
  show (match O.toDs (rows.map rowO) with | some ds => if allAlikeB ds && sortableB ds && ds.all (fun d => decide (d.depth ≤ 60)) then some (O.l ((((rows.map rowO).zip ds).mergeSort (PySem.W.dataLe false (fun x : O × PyData => x.2))).map (fun x : O × PyData => x.1))) else none | none => none) = _
  rw [toDs_rows]
  simp only [hal, hso, hdp, Bool.and_self, if_true]
  rw [e1, e2]
def choicesL (places : List Int) : List (List Int) := sortRows (places.foldl dblL [[]])
theorem choices_ok (places : List Int) (hl : places.length ≤ 10) : sem_choices [.v (.list (places.map .int))] = some (.l ((choicesL places).map rowO), []) := by
  obtain ⟨rows, h, hr⟩ := for_inv (tg := .n 2) (body := b_choices_1) (enc := fun (n : Int) => O.v (.int n)) (E := fun (rows : List (List Int)) => [.own (.v (.list (places.map .int))), .own (.l (rows.map rowO)), .no, .no])
    (fun pre rows => rows = pre.foldl dblL [[]] ∧ rows.length = 2 ^ pre.length ∧ ∀ r ∈ rows, r.length ≤ pre.length) (all := places) places [] [[]] rfl (by simp) (by
    intro pre x post rows hall ⟨hI, hI2, hI3⟩
    have hpl : pre.length < 10 := by have := congrArg List.length hall; simp at this; omega
    have h1024 : rows.length ≤ 1024 := by
      rw [hI2]
      exact Nat.le_trans (Nat.pow_le_pow_right (by decide) (Nat.le_of_lt hpl)) (by decide)
    have hd := dblRows_rows x rows fun r hr => by have := hI3 r hr; omega
    refine ⟨dblL rows x, _, rfl, ?_, ?_, ?_, ?_⟩
    · have hsz : rows.length + rows.length ≤ 16777216 := by omega
      have : mDbl 1 3 2 [.own (.v (.list (places.map .int))), .own (.l (rows.map rowO)), .own (.v (.int x)), .no] = some (.nx [.own (.v (.list (places.map .int))), .own (.l ((dblL rows x).map rowO)), .own (.v (.int x)), .no]) := by
        show (if (1 : Nat) ≠ 3 ∧ (2 : Nat) ≠ 3 ∧ (rows.map rowO).length + (rows.map rowO).length ≤ sizeLine then (match dblRows (.int x) (rows.map rowO) with | some ys => some (Oc.nx [.own (.v (.list (places.map .int))), .own (.l (rows.map rowO ++ ys)), .own (.v (.int x)), .no]) | none => none) else none) = _
        rw [if_pos ⟨by decide, by decide, by simp; omega⟩, hd]
        simp [dblL]
      simp [b_choices_1, this]
    · rw [hI, List.foldl_append]; rfl
    · simp [dblL, hI2, Nat.pow_succ]; omega
    · intro r hr
      simp only [dblL, List.mem_append, List.mem_map] at hr
      rcases hr with hr | ⟨r', hr, rfl⟩
      · have := hI3 r hr; simp; omega
      · have := hI3 r' hr; simp; omega)
  have hr1 := hr.1
  subst hr1
  have hs := srt_rows (places.foldl dblL [[]])
  simp only [rowO, List.map_cons, List.map_nil] at h
  rw [show choicesL places = sortRows (places.foldl dblL [[]]) from rfl]
  generalize places.foldl dblL [[]] = rows at *
  simp [un_choices, m_choices, h, hs]
/-! lines -/
abbrev Ln := Int × Int × List Int
def lineO (l : Ln) : O := .t [oi l.1, oi l.2.1, rowO l.2.2]
def lineD (l : Ln) : PyData := .tuple [.int l.1, .int l.2.1, rowD l.2.2]
@[simp] theorem toD_line (l : Ln) : (lineO l).toD = some (lineD l) := by simp [lineO, lineD]
@[simp] theorem toDs_lines (ls : List Ln) : O.toDs (ls.map lineO) = some (ls.map lineD) := toDs_map toD_line ls
def counts12 : List Int := [1, 2, 3, 4, 5, 6, 7, 8, 9, 10, 11, 12]
def linesAt (sh : List Off) (i : Nat) : Off → List Ln
  | .pack _ _ => (choicesL (addsL sh (i : Int))).map fun a => ((i : Int), 1, a)
  | .many _ _ => counts12.map fun c => ((i : Int), c, [])
  | .add _ _ _ => []
def linesL (sh : List Off) : List Ln := (sh.zipIdx 0).flatMap fun p => linesAt sh p.2 p.1
theorem dblL_len (places : List Int) : ∀ rows : List (List Int), (places.foldl dblL rows).length = rows.length * 2 ^ places.length := by
  induction places with
  | nil => intro rows; simp
  | cons x places ih =>
    intro rows
    rw [List.foldl_cons, ih]
    simp [dblL, Nat.pow_succ]
    rw [← Nat.two_mul, Nat.mul_comm (2 ^ places.length) 2, ← Nat.mul_assoc, Nat.mul_comm 2]
theorem choicesL_len (places : List Int) : (choicesL places).length = 2 ^ places.length := by
  unfold choicesL sortRows
  rw [List.length_mergeSort, dblL_len]
  simp
theorem addsL_len (sh : List Off) (i : Int) : (addsL sh i).length ≤ sh.length := by
  unfold addsL
  rw [List.length_map]
  exact Nat.le_trans (List.length_filter_le _ _) (by simp)
theorem linesAt_len (sh : List Off) (hs : sh.length ≤ 10) (i : Nat) (o : Off) : (linesAt sh i o).length ≤ 1024 := by
  cases o with
  | pack c p =>
    simp only [linesAt, List.length_map, choicesL_len]
    exact Nat.le_trans (Nat.pow_le_pow_right (by decide) (Nat.le_trans (addsL_len sh i) hs)) (by decide)
  | many c ts => simp [linesAt, counts12]
  | add c p k => simp [linesAt]
theorem rng12 : rngO 1 12 = counts12.map fun c => O.v (.int c) := by
  rw [rng_map]
  rfl
theorem lines_turn (sh : List Off) (hs : sh.length ≤ 10) (acc : List Ln) (ha : acc.length ≤ 100000) (i : Nat) (o : Off) :
    b_lines_1 [.own (.v (shopD sh)), .own (.l (acc.map lineO)), .own (oi (i : Nat)), .own (.v o.d), .no, .no] = some (.nx [.own (.v (shopD sh)), .own (.l ((acc ++ linesAt sh i o).map lineO)), .no, .no, .no, .no]) := by
  cases o with
  | add c p k => simp [b_lines_1, linesAt]
  | pack c p =>
    have hal := addsL_len sh (i : Int)
    have h1 := adds_of_ok sh (i : Int) (by omega)
    have h2 := choices_ok (addsL sh (i : Int)) (by omega)
    have hcl : (choicesL (addsL sh (i : Int))).length ≤ 1024 := by
      rw [choicesL_len]
      exact Nat.le_trans (Nat.pow_le_pow_right (by decide) (Nat.le_trans hal hs)) (by decide)
    have hlc : ∀ e : En, e[2]? = some (.own (oi (i : Nat))) → e[4]? = some .no → lcL (.n 4) mYes ce_lines_1 [4] ((choicesL (addsL sh (i : Int))).map rowO) e = some ((linesAt sh i (.pack c p)).map lineO, e) := fun e g2 g4 => by
      have hlt := (List.getElem?_eq_some_iff.mp g4).1
      rw [linesAt, List.map_map]
      refine lc_map _ fun r hr => ⟨e.set 4 (.own (rowO r)), e.set 4 (.own (rowO r)), e, ?_, rfl, ?_, ?_⟩
      · simp [g4]
      · have g5 : (e.set 4 (.own (rowO r)))[4]? = some (.own (rowO r)) := List.getElem?_set_self hlt
        have g6 : (e.set 4 (.own (rowO r)))[2]? = some (.own (oi (i : Nat))) := by rw [List.getElem?_set_ne (by decide)]; exact g2
        have g7 : (e.set 4 (.own (rowO r))).set 4 .no = e := set_no g4
        simp [ce_lines_1, g5, g6, g7, lineO]
      · show (hide e []).set 4 .no = e
        exact set_self g4
    have hb : (choicesL (addsL sh (i : Int))).length ≤ 16777216 := by omega
    have hb2 : acc.length + (linesAt sh i (.pack c p)).length ≤ 16777216 := by
      have := linesAt_len sh hs i (.pack c p); omega
    simp [b_lines_1, h1, h2, hlc, hb, hb2]
  | many c ts =>
    have hlc : ∀ e : En, e[2]? = some (.own (oi (i : Nat))) → e[5]? = some .no → lcL (.n 5) mYes ce_lines_2 [5] (counts12.map fun c => O.v (.int c)) e = some ((linesAt sh i (.many c ts)).map lineO, e) := fun e g2 g5 => by
      rw [linesAt, List.map_map]
      refine lc_map1 g5 _ fun k hk e' h1 h2 => ?_
      simp [ce_lines_2, h1, h2, g2, lineO]
    have hb2 : acc.length + (linesAt sh i (.many c ts)).length ≤ 16777216 := by
      have := linesAt_len sh hs i (.many c ts); omega
    have h12 : counts12.length ≤ 16777216 := by decide
    simp [b_lines_1, rng12, hlc, hb2, h12]
theorem lines_ok (n : Nat) (sh : List Off) (hg : Good n sh) (hs : sh.length ≤ 10) : sem_lines [.v (shopD sh)] = some (.l ((linesL sh).map lineO), []) := by
  have hlk := look_ok n sh hg
  obtain ⟨acc, h, hI⟩ := for_inv (tg := .tp [(.n 2), (.n 3)]) (body := b_lines_1) (enc := fun (p : Off × Nat) => O.t [oi (p.2 : Nat), .v p.1.d]) (E := fun (acc : List Ln) => [.own (.v (shopD sh)), .own (.l (acc.map lineO)), .no, .no, .no, .no])
    (fun pre acc => acc = pre.flatMap (fun p => linesAt sh p.2 p.1) ∧ acc.length ≤ 1024 * pre.length) (all := sh.zipIdx 0) (sh.zipIdx 0) [] [] rfl ⟨rfl, Nat.le_refl _⟩ (by
    intro pre ⟨o, i⟩ post acc hall ⟨h1, h2⟩
    have hpl : pre.length ≤ 10 := by have := congrArg List.length hall; simp at this; omega
    refine ⟨acc ++ linesAt sh i o, _, rfl, lines_turn sh hs acc (by omega) i o, ?_, ?_⟩
    · rw [h1, List.flatMap_append]; simp
    · have := linesAt_len sh hs i o
      simp; omega)
  have hacc := hI.1
  rw [show acc = linesL sh from hacc] at h
  simp only [List.map_nil] at h
  simp [un_lines, m_lines, hlk, enu_shop, h]
end Dn

set_option Elab.async false
set_option linter.all false
set_option maxRecDepth 100000
set_option maxHeartbeats 4000000
namespace Dn
open PySem L2
/-! all subsets, by masks -/
def bit (m k : Nat) : Bool := m / 2 ^ k % 2 == 1
def subs (places : List Int) (m : Nat) : List Int := ((List.range places.length).filter (bit m)).map fun k => places.getD k 0
theorem bit_hi {m n : Nat} (h : m < 2 ^ n) : bit m n = false := by
  unfold bit
  rw [Nat.div_eq_of_lt h]
  rfl
theorem bit_add_hi {m n : Nat} (h : m < 2 ^ n) : bit (2 ^ n + m) n = true := by
  unfold bit
  rw [Nat.add_div_left m (Nat.two_pow_pos n), Nat.div_eq_of_lt h]
  rfl
theorem bit_add_lo {m n k : Nat} (h : k < n) : bit (2 ^ n + m) k = bit m k := by
  unfold bit
  have : 2 ^ n = 2 ^ k * (2 * 2 ^ (n - k - 1)) := by
    rw [← Nat.pow_succ', ← Nat.pow_add]
    congr 1
    omega
  rw [this, Nat.mul_add_div (Nat.two_pow_pos k), Nat.add_comm, Nat.add_mul_mod_self_left]
theorem subs_snoc (places : List Int) (p : Int) (m : Nat) : subs (places ++ [p]) m = subs places m ++ (if bit m places.length then [p] else []) := by
  unfold subs
  rw [List.length_append, List.length_singleton, List.range_succ, List.filter_append, List.map_append]
  congr 1
  · apply List.map_congr_left
    intro k hk
    have := (List.mem_filter.mp hk).1
    simp at this
    simp [List.getD_eq_getElem?_getD, List.getElem?_append_left this]
  · by_cases h : bit m places.length = true
    · simp [h, List.getD_eq_getElem?_getD]
    · simp [h]
theorem subs_all (places : List Int) : (List.range (2 ^ places.length)).map (subs places) = places.foldl dblL [[]] := by
  have : ∀ (n : Nat) (places : List Int), places.length = n → (List.range (2 ^ places.length)).map (subs places) = places.foldl dblL [[]] := by
    intro n
    induction n with
    | zero => intro places h; rw [List.length_eq_zero_iff.mp h]; rfl
    | succ n ih =>
      intro places h
      have hne : places ≠ [] := fun z => by rw [z] at h; simp at h
      obtain ⟨q, p, rfl⟩ : ∃ q p, places = q ++ [p] := ⟨_, _, (List.dropLast_concat_getLast hne).symm⟩
      have hq : q.length = n := by simpa using h
      rw [List.foldl_append, ← ih q hq]
      simp only [List.length_append, List.length_singleton, List.foldl_cons, List.foldl_nil, dblL]
      rw [Nat.pow_succ, Nat.mul_two, List.range_add, List.map_append, List.map_map, List.map_map]
      congr 1
      · apply List.map_congr_left
        intro m hm
        simp at hm
        rw [subs_snoc, bit_hi hm]; simp
      · apply List.map_congr_left
        intro m hm
        simp at hm
        simp only [Function.comp_apply]
        rw [subs_snoc, bit_add_hi hm]
        simp only [if_true]
        congr 1
        unfold subs
        congr 1
        apply List.filter_congr
        intro k hk
        simp at hk
        exact bit_add_lo hk
  exact this _ places rfl
@[simp] theorem fAnd_ap (i j : Int) : fAnd [.int i, .int j] = some (.int (Builtin.bitAnd i j)) := id rfl
theorem and1 (m k : Nat) : Builtin.bitAnd ((m : Int) / 2 ^ k) 1 = ((m / 2 ^ k % 2 : Nat) : Int) := by
  have h0 : (0 : Int) ≤ (m : Int) / 2 ^ k := Int.ediv_nonneg (by omega) (Int.le_of_lt (Int.pow_pos (by decide)))
  have := Bits.bitAnd_mask (x := (m : Int) / 2 ^ k) 1 h0
  rw [show (2 : Int) ^ 1 - 1 = 1 from rfl] at this
  rw [this]
  simp
theorem subs_lc (places : List Int) (m : Nat) (e : En) (h0 : e[0]? = some (.own (.v (.list (places.map .int))))) (h2 : e[2]? = some (.own (.v (.int (m : Int))))) (h3 : e[3]? = some .no) :
    lcL (.n 3) ct__law_subsets_1 ce__law_subsets_1 [3] ((List.range places.length).map fun (k : Nat) => O.v (.int (k : Int))) e = some ((subs places m).map oi, e) := by
  rw [subs, List.map_map]
  refine lc_filter1 h3 _ fun k hk e' g1 g2 => ?_
  simp at hk
  have ha := atI_getD places 0 hk
  have hb : decide ((((m / 2 ^ k % 2 : Nat) : Int)) = 1) = bit m k := by
    unfold bit
    rcases (show m / 2 ^ k % 2 = 0 ∨ m / 2 ^ k % 2 = 1 by omega) with h | h <;> rw [h] <;> rfl
  refine ⟨?_, fun _ => ?_⟩
  · have := and1 m k
    simp only [Int.natCast_emod, Int.natCast_ediv] at this hb
    simp [ct__law_subsets_1, g1, g2, h2]
    rw [this]
    simpa using hb
  · simp [ce__law_subsets_1, g1, g2, h0, ha]
theorem srt_rowsv (rows : List (List Int)) : srtO [.v (.list (rows.map rowD))] = some (.l ((sortRows rows).map fun r => .v (rowD r))) := by
  have e0 : (rows.map rowD).map O.v = rows.map fun r => O.v (rowD r) := by rw [List.map_map]; rfl
  have e1 : (rows.map fun r => O.v (rowD r)).zip (rows.map rowD) = rows.map fun r => (O.v (rowD r), rowD r) := by
    clear e0
    induction rows with
    | nil => rfl
    | cons r rows ih => rw [List.map_cons, List.map_cons, List.map_cons, List.zip_cons_cons, ih]
  have e2 : ((rows.map fun r => (O.v (rowD r), rowD r)).mergeSort (PySem.W.dataLe false (·.2))).map (·.1) = (sortRows rows).map fun r => .v (rowD r) := by
    rw [merge_map, List.map_map, sortRows]
    congr 1
    congr 1
    funext a b
    rw [PySem.W.dataLe_eq]
    simp [dataLt_row]
  have hal : allAlikeB (rows.map rowD) = true := by
    unfold allAlikeB
    rw [List.all_eq_true]
    intro d hd
    rw [List.all_eq_true]
    intro d' hd'
    obtain ⟨a, _, rfl⟩ := List.mem_map.mp hd
    obtain ⟨b, _, rfl⟩ := List.mem_map.mp hd'
    show PySem.W.alike (.list _) (.list _) = true
    simp [PySem.W.alike, PySem.W.alike_ints]
  have hso : sortableB (rows.map rowD) = true := by
    unfold sortableB
    rw [Bool.or_eq_true]
    right
    rw [List.all_eq_true]
    intro d hd
    obtain ⟨a, _, rfl⟩ := List.mem_map.mp hd
    rfl
  have hdp : (rows.map rowD).all (fun d => decide (d.depth ≤ 60)) = true := by
    rw [List.all_eq_true]
    intro d hd
    obtain ⟨a, _, rfl⟩ := List.mem_map.mp hd
    simp
  show (match O.toDs ((rows.map rowD).map O.v) with | some ds => if allAlikeB ds && sortableB ds && ds.all (fun d => decide (d.depth ≤ 60)) then some (O.l (((((rows.map rowD).map O.v).zip ds).mergeSort (PySem.W.dataLe false (fun x : O × PyData => x.2))).map (fun x : O × PyData => x.1))) else none | none => none) = _
  rw [toDs_vs, e0]
  simp only [hal, hso, hdp, Bool.and_self, if_true]
  rw [e1, e2]
theorem subsets_turn (places : List Int) (hl : places.length ≤ 10) (acc : List (List Int)) (k : Nat) (ha : acc.length ≤ 2000) :
    b__law_subsets_1 [.own (.v (.list (places.map .int))), .own (.l (.l [] :: acc.map fun r => .v (rowD r))), .own (.v (.int (1 + (k : Int)))), .no] = some (.nx [.own (.v (.list (places.map .int))), .own (.l (.l [] :: (acc ++ [subs places (1 + k)]).map fun r => .v (rowD r))), .no, .no]) := by
  have hs := subs_lc places (1 + k)
  rw [show (((1 + k : Nat)) : Int) = 1 + (k : Int) by omega] at hs
  have hb1 : -4611686018427387904 ≤ (places.length : Int) := by omega
  have hb2 : (places.length : Int) < 4611686018427387904 := by omega
  have hb3 : places.length ≤ 16777216 := by omega
  have hb4 : acc.length + 1 < 16777216 := by omega
  simp [b__law_subsets_1, hs, hb1, hb2, hb3, hb4]
theorem subsets_ok (places : List Int) (hl : places.length ≤ 10) : sem__law_subsets [.v (.list (places.map .int))] = some (.l ((choicesL places).map fun r => .v (rowD r)), []) := by
  obtain ⟨N, hN⟩ : ∃ N, N = 2 ^ places.length := ⟨_, rfl⟩
  have h1024 : N ≤ 1024 := by rw [hN]; exact Nat.le_trans (Nat.pow_le_pow_right (by decide) hl) (by decide)
  have hN1 : 1 ≤ N := by rw [hN]; exact Nat.two_pow_pos _
  obtain ⟨acc, h, hI⟩ := for_inv (tg := .n 2) (body := b__law_subsets_1) (enc := fun (k : Nat) => O.v (.int (1 + (k : Int)))) (E := fun (acc : List (List Int)) => [.own (.v (.list (places.map .int))), .own (.l (.l [] :: acc.map fun r => .v (rowD r))), .no, .no])
    (fun pre acc => acc = (List.range pre.length).map fun k => subs places (1 + k)) (all := List.range (N - 1)) (List.range (N - 1)) [] [] rfl rfl (by
    intro pre k post acc hall hacc
    have hk : k = pre.length := by
      have : (List.range (N - 1))[pre.length]? = some k := by rw [hall]; simp
      rw [List.getElem?_range (by have := congrArg List.length hall; simp at this; omega)] at this
      exact (Option.some.inj this).symm
    have hpl : pre.length < 1024 := by
      have := congrArg List.length hall
      simp at this; omega
    have hal : acc.length = pre.length := by rw [hacc]; simp
    refine ⟨acc ++ [subs places (1 + k)], _, rfl, subsets_turn places hl acc k (by omega), ?_⟩
    rw [hacc, List.length_append, List.length_singleton, List.range_succ, List.map_append, hk]; rfl)
  simp only [List.length_range] at hI
  have hrows : [] :: acc = places.foldl dblL [[]] := by
    rw [← subs_all, hI, ← hN]
    have : N = (N - 1) + 1 := by omega
    rw [this, List.range_succ_eq_map, List.map_cons, List.map_map]
    congr 1
    · have : ∀ k, bit 0 k = false := fun k => by simp [bit]
      simp [subs, this]
    · rw [show N - 1 + 1 - 1 = N - 1 by omega]
      apply List.map_congr_left
      intro k _
      rw [Function.comp_apply, Nat.add_comm]
  have hs := srt_rowsv ([] :: acc)
  rw [hrows] at hs
  have e0 : (2 : Int) ^ places.length = (N : Int) := by rw [hN]; simp
  have hb0 : places.length ≤ 1000000 := by omega
  have hb00 : (places.length : Int) ≤ 1000000 := by omega
  have hb1 : -4611686018427387904 ≤ (N : Int) := by omega
  have hb2 : (N : Int) < 4611686018427387904 := by omega
  have hb3 : ((N : Int) - 1).toNat = N - 1 := by omega
  simp only [List.map_nil] at h
  have hfz : (PyData.list [] :: acc.map fun r => PyData.list (r.map .int)) = (places.foldl dblL [[]]).map rowD := by rw [← hrows]; rfl
  have hr1 : rngO 1 (N - 1) = (List.range (N - 1)).map fun (k : Nat) => O.v (.int (1 + (k : Int))) := rng_map 1 _
  rw [show choicesL places = sortRows (places.foldl dblL [[]]) from rfl]
  generalize places.foldl dblL [[]] = rows at *
  simp [un__law_subsets, m__law_subsets, e0, hb0, hb00, hb1, hb2, hb3, hr1, h, hfz, hs]
/-! the law's own lines -/
theorem llines_adds (sh : List Off) (i : Int) (e : En) (h0 : e[0]? = some (.own (.v (shopD sh)))) (h2 : e[2]? = some (.own (.v (.int i)))) (h4 : e[4]? = some .no) :
    lcL (.n 4) ct__law_lines_81be_1 ce__law_lines_81be_2 [4] ((List.range sh.length).map fun (k : Nat) => O.v (.int (k : Int))) e = some ((addsL sh i).map oi, e) := by
  have heq : addsL sh i = ((List.range sh.length).filter fun k => match sh[k]? with | some o => isAddOf i o | none => false).map fun (k : Nat) => (k : Int) := by
    have : ∀ (sh' : List Off) (m : Nat), ((sh'.zipIdx m).filter fun p => isAddOf i p.1).map (fun p => ((p.2 : Nat) : Int)) = (((List.range sh'.length).map (· + m)).filter fun k => match sh'[k - m]? with | some o => isAddOf i o | none => false).map fun (k : Nat) => (k : Int) := by
      intro sh'
      induction sh' with
      | nil => intro m; rfl
      | cons o sh' ih =>
        intro m
        rw [List.zipIdx_cons, List.filter_cons, List.length_cons, List.range_succ_eq_map, List.map_cons, List.filter_cons, List.map_map]
        have ih' := ih (m + 1)
        have e1 : (List.range sh'.length).map ((· + m) ∘ Nat.succ) = (List.range sh'.length).map (· + (m + 1)) := by
          apply List.map_congr_left; intro k _; simp; omega
        rw [e1]
        have e2 : ((List.range sh'.length).map (· + (m + 1))).filter (fun k => match (o :: sh')[k - m]? with | some o => isAddOf i o | none => false) = ((List.range sh'.length).map (· + (m + 1))).filter (fun k => match sh'[k - (m + 1)]? with | some o => isAddOf i o | none => false) := by
          apply List.filter_congr
          intro k hk
          obtain ⟨j, _, rfl⟩ := List.mem_map.mp hk
          rw [show j + (m + 1) - m = j + 1 by omega, show j + (m + 1) - (m + 1) = j by omega, List.getElem?_cons_succ]
        rw [e2]
        simp only [Nat.zero_add, Nat.sub_self, List.getElem?_cons_zero]
        cases isAddOf i o
        · simpa using ih'
        · simpa using ih'
    have := this sh 0
    simpa [addsL] using this
  rw [heq, List.map_map]
  refine lc_filter1 h4 _ fun k hk e' g1 g2 => ?_
  simp at hk
  obtain ⟨o, ho⟩ : ∃ o, sh[k]? = some o := ⟨_, List.getElem?_eq_getElem hk⟩
  have ha : atI sh (k : Int) = some o := atI_nat rfl ho
  refine ⟨?_, fun _ => ?_⟩
  · rw [ho]
    cases o with
    | pack c p => simp [ct__law_lines_81be_1, g1, g2, h0, ha, isAddOf]
    | many c ts => simp [ct__law_lines_81be_1, g1, g2, h0, ha, isAddOf]
    | add c p k => simp [ct__law_lines_81be_1, g1, g2, h0, h2, ha, isAddOf]
  · simp [ce__law_lines_81be_2, g1]
theorem llines_turn (sh : List Off) (hs : sh.length ≤ 10) (os : List O) (ls : List Ln) (hos : O.toDs os = some (ls.map lineD)) (ha : ls.length ≤ 100000) (i : Nat) (o : Off) (ho : sh[i]? = some o) :
    ∃ os', b__law_lines_81be_1 [.own (.v (shopD sh)), .own (.l os), .own (.v (.int (i : Int))), .no, .no, .no, .no] = some (.nx [.own (.v (shopD sh)), .own (.l os'), .no, .no, .no, .no, .no]) ∧ O.toDs os' = some ((ls ++ linesAt sh i o).map lineD) := by
  have hat : atI sh (i : Int) = some o := atI_nat rfl ho
  have hadds := llines_adds sh (i : Int)
  have hal := addsL_len sh (i : Int)
  have hsub := subsets_ok (addsL sh (i : Int)) (by omega)
  have hb1 : -4611686018427387904 ≤ (sh.length : Int) := by omega
  have hb2 : (sh.length : Int) < 4611686018427387904 := by omega
  have hb3 : sh.length ≤ 16777216 := by omega
  cases o with
  | add c p k =>
    refine ⟨os, ?_, by simpa [linesAt] using hos⟩
    simp [b__law_lines_81be_1, hat]
  | many c ts =>
    have hlc : ∀ e : En, e[2]? = some (.own (.v (.int (i : Int)))) → e[5]? = some .no → lcL (.n 5) mYes ce__law_lines_81be_1 [5] (counts12.map fun c => O.v (.int c)) e = some ((linesAt sh i (.many c ts)).map lineO, e) := fun e g2 g5 => by
      rw [linesAt, List.map_map]
      refine lc_map1 g5 _ fun k hk e' h1 h2 => ?_
      simp [ce__law_lines_81be_1, h1, h2, g2, lineO]
    have hb4 := linesAt_len sh hs i (.many c ts)
    have hb5 : ls.length + (linesAt sh i (.many c ts)).length ≤ 16777216 := by omega
    have h12 : counts12.length ≤ 16777216 := by decide
    refine ⟨(ls.map lineD).map .v ++ (linesAt sh i (.many c ts)).map lineO, ?_, ?_⟩
    · simp [b__law_lines_81be_1, hat, hos, rng12, hlc, hb5, h12]
    · simp
  | pack c p =>
    have hlc : ∀ e : En, e[2]? = some (.own (.v (.int (i : Int)))) → e[6]? = some .no → lcL (.n 6) mYes ce__law_lines_81be_3 [6] ((choicesL (addsL sh (i : Int))).map fun r => O.v (rowD r)) e = some ((linesAt sh i (.pack c p)).map (fun l => O.v (lineD l)), e) := fun e g2 g6 => by
      rw [linesAt, List.map_map]
      refine lc_map1 g6 _ fun k hk e' h1 h2 => ?_
      simp [ce__law_lines_81be_3, h1, h2, g2, lineD]
    have hb4 := linesAt_len sh hs i (.pack c p)
    have hb5 : ls.length + (linesAt sh i (.pack c p)).length ≤ 16777216 := by omega
    have hb6 : (choicesL (addsL sh (i : Int))).length ≤ 16777216 := by
      simp [linesAt] at hb4; omega
    refine ⟨(ls.map lineD).map .v ++ (linesAt sh i (.pack c p)).map (fun l => O.v (lineD l)), ?_, ?_⟩
    · simp [b__law_lines_81be_1, hat, hos, hadds, hsub, hlc, hb1, hb2, hb3, hb5, hb6]
    · simp
theorem llines_ok (sh : List Off) (hs : sh.length ≤ 10) : ∃ os, sem__law_lines_81be [.v (shopD sh)] = some (.l os, []) ∧ O.toDs os = some ((linesL sh).map lineD) := by
  obtain ⟨⟨os, ls⟩, h, hI⟩ := for_inv (tg := .n 2) (body := b__law_lines_81be_1) (enc := fun (p : Off × Nat) => O.v (.int (p.2 : Int))) (E := fun (s : List O × List Ln) => [.own (.v (shopD sh)), .own (.l s.1), .no, .no, .no, .no, .no])
    (fun pre s => s.2 = pre.flatMap (fun p => linesAt sh p.2 p.1) ∧ O.toDs s.1 = some (s.2.map lineD) ∧ s.2.length ≤ 1024 * pre.length) (all := sh.zipIdx 0) (sh.zipIdx 0) [] ([], []) rfl ⟨rfl, rfl, Nat.le_refl _⟩ (by
    intro pre ⟨o, i⟩ post ⟨os, ls⟩ hall ⟨h1, h2, h3⟩
    have hpl : pre.length ≤ 10 := by have := congrArg List.length hall; simp at this; omega
    have ho := zipIdx_get (xs := sh) (p := (o, i)) (by rw [hall]; simp)
    obtain ⟨os', hb, hos'⟩ := llines_turn sh hs os ls h2 (by simp only at h3; omega) i o ho
    refine ⟨(os', ls ++ linesAt sh i o), _, rfl, hb, ?_, hos', ?_⟩
    · simp only at h1 ⊢
      rw [h1, List.flatMap_append]; simp
    · have := linesAt_len sh hs i o
      simp only at h3 ⊢
      simp; omega)
  obtain ⟨h1, h2, h3⟩ := hI
  simp only at h1 h2
  rw [show ls = linesL sh from h1] at h2
  have hr : (sh.zipIdx 0).map (fun p => O.v (.int (p.2 : Int))) = (List.range sh.length).map fun (k : Nat) => O.v (.int (k : Int)) := by
    rw [show (fun p : Off × Nat => O.v (.int (p.2 : Int))) = (fun (k : Nat) => O.v (.int (k : Int))) ∘ (·.2) from rfl, ← List.map_map, List.zipIdx_map_snd, List.range_eq_range']
  rw [hr] at h
  have hb1 : -4611686018427387904 ≤ (sh.length : Int) := by omega
  have hb2 : (sh.length : Int) < 4611686018427387904 := by omega
  refine ⟨os, ?_, h2⟩
  simp [un__law_lines_81be, m__law_lines_81be, hb1, hb2, h]
end Dn

set_option Elab.async false
set_option linter.all false
set_option maxRecDepth 100000
set_option maxHeartbeats 4000000
namespace Dn
open PySem L2
theorem slO_tv (ds : List PyData) (lo hi : Option Int) : slO (.v (.tuple ds)) lo hi = (if HT.sIx (ds.map O.v).length 0 lo = 0 ∧ HT.sIx (ds.map O.v).length (ds.map O.v).length hi = (ds.map O.v).length then none else tupO (cutG (ds.map .v) lo hi)) := id rfl
theorem addO_tt (a b : O) (xs : List O) (d : PyData) (ds : List PyData) : addO [.t (a :: xs), .v (.tuple (d :: ds))] = (if (a :: xs).length + (O.v d :: ds.map O.v).length ≤ sizeLine then tupO ((a :: xs) ++ (O.v d :: ds.map O.v)) else none) := id rfl
theorem copied_turn (acc : List Off) (x : O) (o : Off) (ha : acc.length < 100000) (hc : o.c.length ≤ 1000) (ht : ∀ c ts, o = .many c ts → ts.length ≤ 1000) :
    b__law_copied_1 [.own x, .own (.l (acc.map offO)), .own (.v o.d)] = some (.nx [.own x, .own (.l ((acc ++ [o]).map offO)), .no]) := by
  have hpl : acc.length < 16777216 := by omega
  cases o with
  | many c ts =>
    have hb : c.length ≤ 16777216 := by simp [Off.c] at hc; omega
    have hb2 : ts.length ≤ 16777216 := by have := ht c ts rfl; omega
    simp [b__law_copied_1, hpl, Off.c, hb, hb2]
    simp [Off.d]
  | pack c p =>
    have hb : c.length ≤ 16777216 := by simp [Off.c] at hc; omega
    have hsl : slO (.v (Off.pack c p).d) (some 2) none = some (.v (.tuple [.int p])) := by
      rw [Off.d, slO_tv, show (2 : Int) = ((2 : Nat) : Int) from rfl, cutG_drop, HT.sIx_nat]
      simp
    have had : ∀ b : O, addO [.t [.v (.str (Off.pack c p).kd), .l (c.map oi)], .v (.tuple [.int p])] = some (.t [.v (.str "pack"), .l (c.map oi), .v (.int p)]) := fun b => by
      rw [addO_tt _ b]; simp [Off.kd]
    have had' := had (.v .none)
    simp [b__law_copied_1, hpl, Off.c, hb, hsl, had']
    simp [Off.d]
  | add c p k =>
    have hb : c.length ≤ 16777216 := by simp [Off.c] at hc; omega
    have hsl : slO (.v (Off.add c p k).d) (some 2) none = some (.v (.tuple [.int p, .int k])) := by
      rw [Off.d, slO_tv, show (2 : Int) = ((2 : Nat) : Int) from rfl, cutG_drop, HT.sIx_nat]
      simp
    have had' : addO [.t [.v (.str (Off.add c p k).kd), .l (c.map oi)], .v (.tuple [.int p, .int k])] = some (.t [.v (.str "add"), .l (c.map oi), .v (.int p), .v (.int k)]) := by
      rw [addO_tt _ (.v .none)]; simp [Off.kd]
    simp [b__law_copied_1, hpl, Off.c, hb, hsl, had']
    simp [Off.d]
theorem copied_ok (n : Nat) (sh : List Off) (hg : Good n sh) (hn : n ≤ 4) (hs : sh.length ≤ 1000) : sem__law_copied [.v (shopD sh)] = some (.l (sh.map offO), []) := by
  obtain ⟨acc, h, hI⟩ := for_inv (tg := .n 2) (body := b__law_copied_1) (enc := fun (o : Off) => O.v o.d) (E := fun (acc : List Off) => [.own (.v (shopD sh)), .own (.l (acc.map offO)), .no])
    (fun pre acc => acc = pre) (all := sh) sh [] [] rfl rfl (by
    intro pre o post acc hall hacc
    subst hacc
    have ho : sh[acc.length]? = some o := by rw [hall]; simp
    have hgo := hg _ _ ho
    refine ⟨acc ++ [o], _, rfl, copied_turn acc _ o (by have := congrArg List.length hall; simp at this; omega) (by rw [hgo.w.len]; omega) (fun c ts h => ?_), rfl⟩
    subst h
    have := hgo.kind
    have := this.len.2
    omega)
  subst hI
  simp only [List.map_nil] at h
  simp [un__law_copied, m__law_copied, h]
def sumL (a b : List Int) : List Int := (a.zip b).map fun p => p.1 + p.2
theorem put_ok (a b : List Int) (hl : a.length ≤ 1000) : sem_put_together [.v (.list (a.map .int)), .v (.list (b.map .int))] = some (.l ((sumL a b).map oi), []) := by
  have hm : min a.length b.length ≤ 16777216 := by omega
  have h : lcL (.tp [(.n 2), (.n 3)]) mYes ce_put_together_1 [2, 3] (((a.zip b)).map fun p => .t [oi p.1, oi p.2]) [.own (.v (.list (a.map .int))), .own (.v (.list (b.map .int))), .no, .no] = some ((sumL a b).map oi, [.own (.v (.list (a.map .int))), .own (.v (.list (b.map .int))), .no, .no]) := by
    rw [sumL, List.map_map]
    refine lc_map _ fun p _ => ?_
    simp [ce_put_together_1]
  simp [un_put_together, m_put_together, zipO_map, h, hm]
theorem lsum_ok (a b : List Int) (hl : a.length ≤ 1000) (hb : b.length = a.length) : sem__law_sum [.v (.list (a.map .int)), .v (.list (b.map .int))] = some (.l ((sumL a b).map oi), []) := by
  have h : ∀ e : En, e[0]? = some (.own (.v (.list (a.map .int)))) → e[1]? = some (.own (.v (.list (b.map .int)))) → e[2]? = some .no → lcL (.n 2) mYes ce__law_sum_1 [2] ((List.range a.length).map fun (k : Nat) => .v (.int (k : Int))) e = some ((sumL a b).map oi, e) := fun e h0 h1 h2 => by
    rw [sumL, ← range_zip (fun a b : Int => a + b) a b 0 0 rfl hb, List.map_map]
    refine lc_map1 h2 _ fun k hk e' g1 g2 => ?_
    simp at hk
    have e1 := atI_getD a 0 hk
    have e2 := atI_getD b 0 (show k < b.length by omega)
    simp [ce__law_sum_1, g1, g2, h0, h1, e1, e2]
  have hb1 : -4611686018427387904 ≤ (a.length : Int) := by omega
  have hb2 : (a.length : Int) < 4611686018427387904 := by omega
  have hb3 : a.length ≤ 16777216 := by omega
  simp [un__law_sum, m__law_sum, hb1, hb2, hb3, h]
/-! lines' contents -/
def cAt (sh : List Off) (k : Int) : List Int := match atI sh k with
  | some o => o.c
  | none => []
def pAt (sh : List Off) (k : Int) : Int := match atI sh k with
  | some (.add _ p _) => p
  | some (.pack _ p) => p
  | _ => 0
def scaleL (c : Int) (l : List Int) : List Int := l.map fun x => c * x
def lcont (sh : List Off) (l : Ln) : List Int := l.2.2.foldl (fun f a => sumL f (cAt sh a)) (scaleL l.2.1 (cAt sh l.1))
def tierP (ts : List (Int × Int)) (c : Int) : Int := ((ts.filter fun t => decide (t.1 ≤ c)).map (·.2)).getLastD 0
def lprice (sh : List Off) (l : Ln) : Int := match atI sh l.1 with
  | some (.many _ ts) => l.2.1 * tierP ts l.2.1
  | some (.pack _ p) => p + (l.2.2.map (pAt sh)).sum
  | _ => 0
/-- a line that may be asked of the shop -/
structure LnOk (sh : List Off) (l : Ln) : Prop where
  count : 1 ≤ l.2.1 ∧ l.2.1 ≤ 12
  place : ∃ o, atI sh l.1 = some o ∧ o.isAdd = false
  adds : ∀ a ∈ l.2.2, ∃ c p k, atI sh a = some (.add c p k)
  few : l.2.2.length ≤ 1000
theorem Good.at {n : Nat} {sh : List Off} (h : Good n sh) {k : Int} {o : Off} (ho : atI sh k = some o) : ∃ i, GoodO n sh i o := by
  unfold atI at ho
  obtain ⟨j, _, hj⟩ := Option.bind_eq_some_iff.mp ho
  exact ⟨j, h j o hj⟩
theorem cAt_len {n : Nat} {sh : List Off} (h : Good n sh) {k : Int} {o : Off} (ho : atI sh k = some o) : (cAt sh k).length = n := by
  obtain ⟨i, hi⟩ := h.at ho
  unfold cAt
  rw [ho]
  exact hi.w.len
theorem sumL_len (a b : List Int) : (sumL a b).length = min a.length b.length := by simp [sumL]
theorem scaleL_len (c : Int) (l : List Int) : (scaleL c l).length = l.length := by simp [scaleL]
theorem lcontent_ok (n : Nat) (sh : List Off) (hg : Good n sh) (hn : n ≤ 4) (l : Ln) (hl : LnOk sh l) : sem_line_content [.v (shopD sh), .v (lineD l)] = some (.l ((lcont sh l).map oi), []) := by
  obtain ⟨p, c, adds⟩ := l
  obtain ⟨o, ho, -⟩ := hl.place
  have hlk := look_ok n sh hg
  simp only at ho
  have hc0 : cAt sh p = o.c := by unfold cAt; rw [ho]
  have hcl := cAt_len hg ho
  have hcount := hl.count
  simp only at hcount
  have hlc : ∀ e : En, e[3]? = some (.own (.v (.int c))) → e[6]? = some .no → lcL (.n 6) mYes ce_line_content_1 [6] (o.c.map fun n => O.v (.int n)) e = some ((scaleL c (cAt sh p)).map oi, e) := fun e h3 h6 => by
    rw [hc0, scaleL, List.map_map]
    refine lc_map1 h6 _ fun k hk e' g1 g2 => ?_
    have b1 : -18446744073709551616 < c := by omega
    have b2 : c < 18446744073709551616 := by omega
    simp [ce_line_content_1, g1, g2, h3, b1, b2]
  obtain ⟨f, h, hf⟩ := for_inv (tg := .n 7) (body := b_line_content_1) (enc := fun (n : Int) => O.v (.int n)) (E := fun (f : List Int) => [.own (.v (shopD sh)), .own (.v (lineD (p, c, adds))), .own (.v (.int p)), .own (.v (.int c)), .own (.v (rowD adds)), .own (.l (f.map oi)), .no, .no])
    (fun pre f => f = pre.foldl (fun f a => sumL f (cAt sh a)) (scaleL c (cAt sh p)) ∧ f.length = n) (all := adds) adds [] (scaleL c (cAt sh p)) rfl ⟨rfl, by rw [scaleL_len, hcl]⟩ (by
    intro pre a post f hall ⟨h1, h2⟩
    obtain ⟨ca, pa, ka, haa⟩ := hl.adds a (by simp only; rw [hall]; simp)
    have hca : cAt sh a = ca := by unfold cAt; rw [haa]; rfl
    have hcal := cAt_len hg haa
    have hp := put_ok f ca (by omega)
    rw [hca] at hcal
    refine ⟨sumL f (cAt sh a), _, rfl, ?_, ?_, ?_⟩
    · rw [hca]
      simp [b_line_content_1, haa, hp, Off.c]
    · rw [h1, List.foldl_append]; rfl
    · rw [sumL_len, hca]; omega)
  have hfe : f = lcont sh (p, c, adds) := hf.1
  have hb : o.c.length ≤ 16777216 := by rw [← hc0]; omega
  rw [hfe] at h
  simp [un_line_content, m_line_content, hlk, lineD, ho, hlc, hb]
  simp [lineD] at h
  simp [h]
theorem llcontent_ok (n : Nat) (sh : List Off) (hg : Good n sh) (hn : n ≤ 4) (l : Ln) (hl : LnOk sh l) : sem__law_line_content [.v (shopD sh), .v (lineD l)] = some (.l ((lcont sh l).map oi), []) := by
  obtain ⟨p, c, adds⟩ := l
  obtain ⟨o, ho, -⟩ := hl.place
  simp only at ho
  have hc0 : cAt sh p = o.c := by unfold cAt; rw [ho]
  have hcl := cAt_len hg ho
  have hcount := hl.count
  simp only at hcount
  have hlc : ∀ e : En, e[1]? = some (.own (.v (lineD (p, c, adds)))) → e[3]? = some .no → lcL (.n 3) mYes ce__law_line_content_1 [3] (o.c.map fun n => O.v (.int n)) e = some ((scaleL c (cAt sh p)).map oi, e) := fun e h1 h3 => by
    rw [hc0, scaleL, List.map_map]
    refine lc_map1 h3 _ fun k hk e' g1 g2 => ?_
    have b1 : -18446744073709551616 < c := by omega
    have b2 : c < 18446744073709551616 := by omega
    simp [ce__law_line_content_1, g1, g2, h1, lineD, b1, b2]
  obtain ⟨f, h, hf⟩ := for_inv (tg := .n 4) (body := b__law_line_content_1) (enc := fun (n : Int) => O.v (.int n)) (E := fun (f : List Int) => [.own (.v (shopD sh)), .own (.v (lineD (p, c, adds))), .own (.l (f.map oi)), .no, .no])
    (fun pre f => f = pre.foldl (fun f a => sumL f (cAt sh a)) (scaleL c (cAt sh p)) ∧ f.length = n) (all := adds) adds [] (scaleL c (cAt sh p)) rfl ⟨rfl, by rw [scaleL_len, hcl]⟩ (by
    intro pre a post f hall ⟨h1, h2⟩
    obtain ⟨ca, pa, ka, haa⟩ := hl.adds a (by simp only; rw [hall]; simp)
    have hca : cAt sh a = ca := by unfold cAt; rw [haa]; rfl
    have hcal := cAt_len hg haa
    rw [hca] at hcal
    have hp := lsum_ok f ca (by omega) (by omega)
    refine ⟨sumL f (cAt sh a), _, rfl, ?_, ?_, ?_⟩
    · rw [hca]
      simp [b__law_line_content_1, haa, hp, Off.c]
    · rw [h1, List.foldl_append]; rfl
    · rw [sumL_len, hca]; omega)
  have hfe : f = lcont sh (p, c, adds) := hf.1
  have hb : o.c.length ≤ 16777216 := by rw [← hc0]; omega
  rw [hfe] at h
  have i0 : ixO [.v (lineD (p, c, adds)), .v (.int 0)] = some (.int p) := by simp [lineD]
  have i2 : ixO [.v (lineD (p, c, adds)), .v (.int 2)] = some (rowD adds) := by simp [lineD]
  simp [un__law_line_content, m__law_line_content, i0, i2, ho, hlc, hb, h]
/-! prices -/
theorem getLastD_foldl (ts : List (Int × Int)) (c : Int) : ∀ d : Int, ((ts.filter fun t => decide (t.1 ≤ c)).map (·.2)).getLastD d = ts.foldl (fun e t => if t.1 ≤ c then t.2 else e) d := by
  induction ts with
  | nil => intro d; rfl
  | cons t ts ih =>
    intro d
    rw [List.foldl_cons, List.filter_cons]
    by_cases h : t.1 ≤ c
    · simp only [h, decide_true, if_true, List.map_cons, List.getLastD_cons]
      exact ih t.2
    · simp only [h, decide_false, if_false, Bool.false_eq_true]
      exact ih d
theorem tierP_fold (ts : List (Int × Int)) (c : Int) : tierP ts c = ts.foldl (fun e t => if t.1 ≤ c then t.2 else e) 0 := getLastD_foldl ts c 0
theorem tierp_ok (ts : List (Int × Int)) (c : Int) (h : Tiers ts) (hc : 1 ≤ c) : sem_tier_price [.v (.list (ts.map tierD)), oi c] = some (oi (tierP ts c), []) := by
  have hlc : lcL (.tp [(.n 2), (.n 3)]) ct_tier_price_1 ce_tier_price_1 [2, 3] (ts.map fun t => .v (tierD t)) [.own (.v (.list (ts.map tierD))), .own (oi c), .no, .no] = some ((((ts.filter fun t => decide (t.1 ≤ c)).map (·.2))).map oi, [.own (.v (.list (ts.map tierD))), .own (oi c), .no, .no]) := by
    rw [List.map_map]
    refine lc_filter _ fun t _ => ⟨[.own (.v (.list (ts.map tierD))), .own (oi c), .own (oi t.1), .own (oi t.2)], [.own (.v (.list (ts.map tierD))), .own (oi c), .own (oi t.1), .own (oi t.2)], [.own (.v (.list (ts.map tierD))), .own (oi c), .own (oi t.1), .own (oi t.2)], ?_, ?_, fun _ => ⟨?_, ?_⟩, fun _ => ?_⟩
    · simp [tierD]
    · simp [ct_tier_price_1]
    · simp [ce_tier_price_1]
    · simp
    · simp
  have hne : ((ts.filter fun t => decide (t.1 ≤ c)).map (·.2)) ≠ [] := by
    obtain ⟨t, r, rfl⟩ : ∃ t r, ts = t :: r := by
      cases ts with
      | nil => have := h.len.1; simp at this
      | cons t r => exact ⟨t, r, rfl⟩
    have h1 : t.1 = 1 := by have := h.one; simpa using this
    have : t.1 ≤ c := by omega
    simp [this]
  obtain ⟨u, z, hz⟩ : ∃ u z, ((ts.filter fun t => decide (t.1 ≤ c)).map (·.2)) = u ++ [z] := ⟨_, _, (List.dropLast_concat_getLast hne).symm⟩
  have htp : tierP ts c = z := by
    unfold tierP
    rw [hz]
    simp
  rw [hz] at hlc
  have hat : atI ((u ++ [z]).map oi) (-1) = some (oi z) := by rw [List.map_append]; exact atI_last _ _
  have hb : ts.length ≤ 16777216 := by have := h.len.2; omega
  rw [htp]
  simp only [List.map_append, List.map_cons, List.map_nil] at hat hlc
  simp [un_tier_price, m_tier_price, hlc, hb, hat]
theorem price_sum (sh : List Off) (adds : List Int) (ha : ∀ a ∈ adds, ∃ c p k, atI sh a = some (.add c p k)) (e : En) (h0 : e[0]? = some (.own (.v (shopD sh)))) (h5 : e[5]? = some .no) :
    lcL (.n 5) mYes ce_line_price_1 [5] (adds.map fun n => O.v (.int n)) e = some ((adds.map (pAt sh)).map oi, e) := by
  rw [List.map_map]
  refine lc_map1 h5 _ fun a hmem e' g1 g2 => ?_
  obtain ⟨c, p, k, hk⟩ := ha a hmem
  have hp : pAt sh a = p := by unfold pAt; rw [hk]
  simp [ce_line_price_1, g1, g2, h0, hk, hp]
theorem lprice_ok (n : Nat) (sh : List Off) (hg : Good n sh) (l : Ln) (hl : LnOk sh l) : sem_line_price [.v (shopD sh), .v (lineD l)] = some (oi (lprice sh l), []) := by
  obtain ⟨p, c, adds⟩ := l
  obtain ⟨o, ho, hna⟩ := hl.place
  have hlk := look_ok n sh hg
  have hcount := hl.count
  have hfew := hl.few
  simp only at ho hcount hfew
  obtain ⟨i, hgo⟩ := hg.at ho
  have hb : adds.length ≤ 16777216 := by omega
  cases o with
  | add c' p' k' => simp at hna
  | many c' ts =>
    have ht := tierp_ok ts c hgo.kind hcount.1
    have b1 : -18446744073709551616 < c := by omega
    have b2 : c < 18446744073709551616 := by omega
    have hpr : lprice sh (p, c, adds) = c * tierP ts c := by unfold lprice; rw [ho]
    simp [un_line_price, m_line_price, hlk, lineD, ho, ht, hpr, b1, b2]
  | pack c' p' =>
    have hs := price_sum sh adds hl.adds
    have hpr : lprice sh (p, c, adds) = p' + (adds.map (pAt sh)).sum := by unfold lprice; rw [ho]
    generalize adds.map (pAt sh) = ps at hs hpr
    simp [un_line_price, m_line_price, hlk, lineD, ho, hs, hpr, hb]
theorem lprice_sum (sh : List Off) (adds : List Int) (ha : ∀ a ∈ adds, ∃ c p k, atI sh a = some (.add c p k)) (e : En) (h0 : e[0]? = some (.own (.v (shopD sh)))) (h3 : e[3]? = some .no) :
    lcL (.n 3) mYes ce__law_line_price_1 [3] (adds.map fun n => O.v (.int n)) e = some ((adds.map (pAt sh)).map oi, e) := by
  rw [List.map_map]
  refine lc_map1 h3 _ fun a hmem e' g1 g2 => ?_
  obtain ⟨c, p, k, hk⟩ := ha a hmem
  have hp : pAt sh a = p := by unfold pAt; rw [hk]
  simp [ce__law_line_price_1, g1, g2, h0, hk, hp]
theorem llprice_ok (sh : List Off) (l : Ln) (hl : LnOk sh l) : sem__law_line_price [.v (shopD sh), .v (lineD l)] = some (oi (lprice sh l), []) := by
  obtain ⟨p, c, adds⟩ := l
  obtain ⟨o, ho, hna⟩ := hl.place
  have hcount := hl.count
  have hfew := hl.few
  simp only at ho hcount hfew
  have hb : adds.length ≤ 16777216 := by omega
  have i0 : ixO [.v (lineD (p, c, adds)), .v (.int 0)] = some (.int p) := by simp [lineD]
  have i1 : ixO [.v (lineD (p, c, adds)), .v (.int 1)] = some (.int c) := by simp [lineD]
  have i2 : ixO [.v (lineD (p, c, adds)), .v (.int 2)] = some (rowD adds) := by simp [lineD]
  cases o with
  | add c' p' k' => simp at hna
  | many c' ts =>
    have b1 : -18446744073709551616 < c := by omega
    have b2 : c < 18446744073709551616 := by omega
    have hpr : lprice sh (p, c, adds) = c * tierP ts c := by unfold lprice; rw [ho]
    have h := (for_fold (tg := .tp [(.n 5), (.n 6)]) (body := b__law_line_price_1) (enc := fun (t : Int × Int) => O.v (tierD t)) (E := fun (x : Int) => [.own (.v (shopD sh)), .own (.v (lineD (p, c, adds))), .own (.v (Off.many c' ts).d), .no, .own (.v (.int x)), .no, .no]) (step := fun e t => if t.1 ≤ c then t.2 else e) (I := fun _ => True) ts 0 trivial (by
      intro t _ x _
      refine ⟨trivial, _, rfl, ?_⟩
      by_cases ht : t.1 ≤ c
      · simp [b__law_line_price_1, i1, ht]
      · simp [b__law_line_price_1, i1, ht])).1
    rw [← tierP_fold] at h
    simp [un__law_line_price, m__law_line_price, i0, i1, ho, h, hpr, b1, b2]
  | pack c' p' =>
    have hs := lprice_sum sh adds hl.adds
    have hpr : lprice sh (p, c, adds) = p' + (adds.map (pAt sh)).sum := by unfold lprice; rw [ho]
    generalize adds.map (pAt sh) = ps at hs hpr
    simp [un__law_line_price, m__law_line_price, i0, i2, ho, hs, hpr, hb]
/-- the shop's own lines may be asked -/
theorem sortRows_perm (rows : List (List Int)) : (sortRows rows).Perm rows := List.mergeSort_perm _ _
theorem dblL_mem (places : List Int) : ∀ (rows : List (List Int)) (r : List Int), r ∈ places.foldl dblL rows → ∃ r0 ∈ rows, ∃ s, r = r0 ++ s ∧ s.Sublist places := by
  induction places with
  | nil => intro rows r h; exact ⟨r, h, [], by simp, .refl _⟩
  | cons x places ih =>
    intro rows r h
    rw [List.foldl_cons] at h
    obtain ⟨r0, h0, s, hs, sub⟩ := ih _ _ h
    simp only [dblL, List.mem_append, List.mem_map] at h0
    rcases h0 with h0 | ⟨r1, h1, rfl⟩
    · exact ⟨r0, h0, s, hs, sub.cons _⟩
    · exact ⟨r1, h1, x :: s, by rw [hs]; simp, sub.cons_cons _⟩
theorem choicesL_mem {places r : List Int} (h : r ∈ choicesL places) : r.Sublist places := by
  unfold choicesL at h
  have := (sortRows_perm _).mem_iff.mp h
  obtain ⟨r0, h0, s, hs, sub⟩ := dblL_mem places [[]] r this
  simp at h0
  subst h0
  rw [hs]
  simpa using sub
theorem addsL_mem {sh : List Off} {i x : Int} (h : x ∈ addsL sh i) : ∃ c p, atI sh x = some (.add c p i) := by
  unfold addsL at h
  obtain ⟨⟨o, j⟩, hp, rfl⟩ := List.mem_map.mp h
  obtain ⟨h1, h2⟩ := List.mem_filter.mp hp
  have := zipIdx_get h1
  simp only at this h2
  cases o with
  | pack c p => simp [isAddOf] at h2
  | many c ts => simp [isAddOf] at h2
  | add c p k =>
    simp [isAddOf] at h2
    subst h2
    exact ⟨c, p, atI_nat rfl this⟩
theorem linesL_ok {sh : List Off} (hs : sh.length ≤ 10) {l : Ln} (h : l ∈ linesL sh) : LnOk sh l := by
  unfold linesL at h
  obtain ⟨⟨o, i⟩, hp, hl⟩ := List.mem_flatMap.mp h
  have ho := zipIdx_get hp
  simp only at ho hl
  cases o with
  | add c p k => simp [linesAt] at hl
  | many c ts =>
    simp only [linesAt] at hl
    obtain ⟨x, hx, rfl⟩ := List.mem_map.mp hl
    refine ⟨?_, ⟨_, atI_nat rfl ho, rfl⟩, (fun a ha => by cases ha), by simp⟩
    simp [counts12] at hx
    simp only; omega
  | pack c p =>
    simp only [linesAt] at hl
    obtain ⟨r, hr, rfl⟩ := List.mem_map.mp hl
    have hsub := choicesL_mem hr
    refine ⟨⟨by simp, by simp⟩, ⟨_, atI_nat rfl ho, rfl⟩, fun a ha => ?_, ?_⟩
    · obtain ⟨c', p', h'⟩ := addsL_mem (hsub.subset ha)
      exact ⟨c', p', _, h'⟩
    · have := hsub.length_le
      have := addsL_len sh (i : Int)
      simp only; omega
end Dn

set_option Elab.async false
set_option linter.all false
set_option maxRecDepth 100000
set_option maxHeartbeats 4000000
namespace Dn
open PySem L2
def zero0 (n : Nat) (sh : List Off) : List Int := match sh with
  | [] => []
  | _ => reps n 0
def bcont (n : Nat) (sh : List Off) (ls : List Ln) : List Int := ls.foldl (fun f l => sumL f (lcont sh l)) (zero0 n sh)
def bprice (sh : List Off) (ls : List Ln) : Int := (ls.map (lprice sh)).sum
theorem lcont_len {n : Nat} {sh : List Off} (hg : Good n sh) {l : Ln} (hl : LnOk sh l) : (lcont sh l).length = n := by
  obtain ⟨p, c, adds⟩ := l
  obtain ⟨o, ho, -⟩ := hl.place
  have : ∀ (as f : List Int), (∀ a ∈ as, ∃ c p k, atI sh a = some (.add c p k)) → f.length = n → (as.foldl (fun f a => sumL f (cAt sh a)) f).length = n := by
    intro as
    induction as with
    | nil => intro f _ h; exact h
    | cons a as ih =>
      intro f ha hf
      rw [List.foldl_cons]
      refine ih _ (fun b hb => ha b (List.mem_cons_of_mem _ hb)) ?_
      obtain ⟨c', p', k', h'⟩ := ha a (List.mem_cons_self ..)
      rw [sumL_len, cAt_len hg h', hf]; omega
  exact this adds _ hl.adds (by rw [scaleL_len, cAt_len hg ho])
theorem ln_ne {sh : List Off} {l : Ln} (hl : LnOk sh l) : sh ≠ [] := fun h => by
  obtain ⟨o, ho, -⟩ := hl.place
  subst h
  unfold atI ixN at ho
  simp at ho
theorem bcont_len {n : Nat} {sh : List Off} (hg : Good n sh) {ls : List Ln} (hl : ∀ l ∈ ls, LnOk sh l) (hs : sh ≠ []) : (bcont n sh ls).length = n := by
  have : ∀ (ls : List Ln) (f : List Int), (∀ l ∈ ls, LnOk sh l) → f.length = n → (ls.foldl (fun f l => sumL f (lcont sh l)) f).length = n := by
    intro ls
    induction ls with
    | nil => intro f _ h; exact h
    | cons l ls ih =>
      intro f hl hf
      rw [List.foldl_cons]
      refine ih _ (fun b hb => hl b (List.mem_cons_of_mem _ hb)) ?_
      rw [sumL_len, lcont_len hg (hl l (List.mem_cons_self ..)), hf]; omega
  refine this ls _ hl ?_
  cases sh with
  | nil => exact absurd rfl hs
  | cons o sh => simp [zero0]
theorem bought_loop (n : Nat) (hn : n ≤ 4) (sh : List Off) (hg : Good n sh) (ls : List Ln) (hl : ∀ l ∈ ls, LnOk sh l) (hz : (zero0 n sh).length ≤ 4) (hne : ls ≠ [] → sh ≠ []) (pd : PyData) (x : O) (hx : x = .v (.list ((zero0 n sh).map .int)) ∨ x = .l ((zero0 n sh).map oi)) : ∃ x' : O,
    forL (.n 5) b_bought_1 (ls.map fun l => O.v (lineD l)) [.own (.v (shopD sh)), .own (.v pd), .own x, .no, .own (.v (.int 0)), .no] = some (.nx [.own (.v (shopD sh)), .own (.v pd), .own x', .no, .own (.v (.int (bprice sh ls))), .no]) ∧ (ls = [] → x' = x) ∧ (ls ≠ [] → x' = .l ((bcont n sh ls).map oi)) := by
  obtain ⟨⟨f, pr, y⟩, h, hI1, hI2, hI3⟩ := for_inv (tg := .n 5) (body := b_bought_1) (enc := fun (l : Ln) => O.v (lineD l)) (E := fun (s : List Int × Int × O) => [.own (.v (shopD sh)), .own (.v pd), .own s.2.2, .no, .own (.v (.int s.2.1)), .no])
    (fun pre s => s.1 = bcont n sh pre ∧ s.2.1 = bprice sh pre ∧ (s.2.2 = .v (.list (s.1.map .int)) ∨ s.2.2 = .l (s.1.map oi)) ∧ (pre = [] → s.2.2 = x) ∧ (pre ≠ [] → s.2.2 = .l (s.1.map oi)) ∧ s.1.length ≤ 4) (all := ls) ls [] (zero0 n sh, 0, x) rfl ⟨rfl, rfl, hx, fun _ => rfl, fun h => absurd rfl h, hz⟩ (by
    intro pre l post ⟨f, pr, y⟩ hall ⟨h1, h2, h3, h4, h5, h6⟩
    have hlk := hl l (by rw [hall]; simp)
    have c1 := lcontent_ok n sh hg hn l hlk
    have c2 := lprice_ok n sh hg l hlk
    simp only at h1 h2 h3 h6
    have c3 := put_ok f (lcont sh l) (by omega)
    have hbc : bcont n sh (pre ++ [l]) = sumL f (lcont sh l) := by
      rw [h1, bcont, bcont, List.foldl_append]; rfl
    have hbp : bprice sh (pre ++ [l]) = pr + lprice sh l := by
      rw [h2, bprice, bprice]; simp
    refine ⟨(sumL f (lcont sh l), pr + lprice sh l, .l ((sumL f (lcont sh l)).map oi)), _, rfl, ?_, hbc.symm, hbp.symm, .inr rfl, fun h => by simp at h, fun _ => rfl, ?_⟩
    · rcases h3 with rfl | rfl
      · simp [b_bought_1, c1, c2, c3]
      · simp [b_bought_1, c1, c2, c3]
    · simp only; rw [sumL_len]; omega)
  simp only at hI1 hI2
  refine ⟨y, by rw [hI2] at h; exact h, fun he => hI3.2.1 he, fun he => by
    have := hI3.2.2.1 he
    simp only at this
    rw [this, hI1]⟩
theorem bought_ok (n : Nat) (hn : n ≤ 4) (sh : List Off) (hg : Good n sh) (ls : List Ln) (hl : ∀ l ∈ ls, LnOk sh l) : sem_bought [.v (shopD sh), .v (.list (ls.map lineD))] = some (.t [.l ((bcont n sh ls).map oi), oi (bprice sh ls)], []) := by
  have hlk := look_ok n sh hg
  have hne : ls ≠ [] → sh ≠ [] := fun h => by
    cases ls with
    | nil => exact absurd rfl h
    | cons l ls => exact ln_ne (hl l (List.mem_cons_self ..))
  cases sh with
  | nil =>
    have hls : ls = [] := by
      cases ls with
      | nil => rfl
      | cons l ls => exact absurd rfl (hne (by simp))
    subst hls
    have fne : fNe [.list [], .list []] = some (.bool false) := fNe_same 1 (by decide) (by simp)
    have fne : fNe [shopD [], .list []] = some (.bool false) := fne
    simp [un_bought, m_bought, hlk, fne, bcont, bprice, zero0, forL]
  | cons o sh =>
    have hgo := hg 0 o rfl
    have hfne : fNe [shopD (o :: sh), .list []] = some (.bool true) := by
      have h1 := fNe_ap (shopD (o :: sh)) (.list [])
      rw [h1]
      have hs : nb (shopD (o :: sh)) 4 = true := by simp
      obtain ⟨a1, a2⟩ := nb_shape 4 _ hs
      have : PyData.eqv (shopD (o :: sh)) (.list []) = false := by simp [PyData.eqv, PyData.eqvAll]
      rw [this, shaped_eq, shaped_eq, a1]
      simp only [decide_eq_true (Nat.le_trans a2 (show 4 ≤ 64 by decide))]
      simp
    have hzl : (zero0 n (o :: sh)).length ≤ 4 := by simp [zero0]; omega
    have hlc : ∀ e : En, e[3]? = some .no → lcL (.n 3) mYes ce_bought_1 [3] (o.c.map fun n => O.v (.int n)) e = some ((zero0 n (o :: sh)).map oi, e) := fun e h3 => by
      have : zero0 n (o :: sh) = o.c.map fun _ => 0 := by rw [reps_eq, hgo.w.len]; rfl
      rw [this, List.map_map]
      refine lc_map1 h3 _ fun k hk e' g1 g2 => ?_
      simp [ce_bought_1]
    obtain ⟨x', h, h1, h2⟩ := bought_loop n hn (o :: sh) hg ls hl hzl hne (.list (ls.map lineD)) _ (.inr rfl)
    have hcb : o.c.length ≤ 16777216 := by rw [hgo.w.len]; omega
    have hx' : x' = .l ((bcont n (o :: sh) ls).map oi) := by
      cases ls with
      | nil => rw [h1 rfl]; rfl
      | cons l ls => exact h2 (by simp)
    rw [hx'] at h
    simp [un_bought, m_bought, hlk, hfne, hlc, hcb, h]
end Dn

set_option Elab.async false
set_option linter.all false
set_option maxRecDepth 100000
set_option maxHeartbeats 4000000
namespace Dn
open PySem L2
theorem covers_B (c w : List Int) (hl : c.length ≤ 1000) : sem_covers [.v (.list (c.map .int)), .v (.list (w.map .int))] = some (.v (.bool (covB c w)), []) := covers_ok c w hl
theorem sumL_comm : ∀ (a b : List Int), sumL b a = sumL a b
  | [], b => by simp [sumL]
  | _ :: _, [] => by simp [sumL]
  | x :: a, y :: b => by
    have := sumL_comm a b
    simp only [sumL, List.zip_cons_cons, List.map_cons, List.cons.injEq] at this ⊢
    exact ⟨by omega, this⟩
def NN (a : List Int) : Prop := ∀ x ∈ a, 0 ≤ x
theorem sumL_nn : ∀ (a b : List Int), NN a → NN b → NN (sumL a b)
  | [], b, _, _ => by simp [sumL, NN]
  | _ :: _, [], _, _ => by simp [sumL, NN]
  | x :: a, y :: b, ha, hb => by
    have ih := sumL_nn a b (fun z h => ha z (List.mem_cons_of_mem _ h)) (fun z h => hb z (List.mem_cons_of_mem _ h))
    have h1 := ha x (List.mem_cons_self ..)
    have h2 := hb y (List.mem_cons_self ..)
    intro z hz
    simp only [sumL, List.zip_cons_cons, List.map_cons, List.mem_cons] at hz
    rcases hz with rfl | hz
    · omega
    · exact ih z hz
theorem cAt_nn {n : Nat} {sh : List Off} (h : Good n sh) {k : Int} {o : Off} (ho : atI sh k = some o) : NN (cAt sh k) := by
  obtain ⟨i, hi⟩ := h.at ho
  unfold cAt
  rw [ho]
  exact fun x hx => (hi.w.nine x hx).1
theorem lcont_nn {n : Nat} {sh : List Off} (hg : Good n sh) {l : Ln} (hl : LnOk sh l) : NN (lcont sh l) := by
  obtain ⟨p, c, adds⟩ := l
  obtain ⟨o, ho, -⟩ := hl.place
  have : ∀ (as f : List Int), (∀ a ∈ as, ∃ c p k, atI sh a = some (.add c p k)) → NN f → NN (as.foldl (fun f a => sumL f (cAt sh a)) f) := by
    intro as
    induction as with
    | nil => intro f _ h; exact h
    | cons a as ih =>
      intro f ha hf
      rw [List.foldl_cons]
      refine ih _ (fun b hb => ha b (List.mem_cons_of_mem _ hb)) ?_
      obtain ⟨c', p', k', h'⟩ := ha a (List.mem_cons_self ..)
      exact sumL_nn _ _ hf (cAt_nn hg h')
  refine this adds _ hl.adds fun x hx => ?_
  simp only [scaleL, List.mem_map] at hx
  obtain ⟨y, hy, rfl⟩ := hx
  exact Int.mul_nonneg (by have := hl.count.1; simp only at this; omega) (cAt_nn hg ho y hy)
/-- what is left of a want when lines are bought one after another -/
def lefts (sh : List Off) (ls : List Ln) (w : List Int) : List Int := ls.foldl (fun w l => restL w (lcont sh l)) w
theorem restL_nn (w c : List Int) : NN (restL w c) := fun x hx => by
  simp only [restL, List.mem_map] at hx
  obtain ⟨p, -, rfl⟩ := hx
  omega
theorem restL_cov : ∀ (w c : List Int), NN w → NN c → covB w (restL w c) = true
  | [], c, _, _ => by simp [restL, covB]
  | _ :: _, [], _, _ => by simp [restL, covB]
  | x :: w, y :: c, hw, hc => by
    have ih := restL_cov w c (fun z h => hw z (List.mem_cons_of_mem _ h)) (fun z h => hc z (List.mem_cons_of_mem _ h))
    have h1 := hw x (List.mem_cons_self ..)
    have h2 := hc y (List.mem_cons_self ..)
    simp only [restL, covB, List.zip_cons_cons, List.map_cons, List.all_cons, Bool.and_eq_true, decide_eq_true_eq] at ih ⊢
    exact ⟨by omega, ih⟩
theorem lefts_len {n : Nat} {sh : List Off} (hg : Good n sh) : ∀ (ls : List Ln) (w : List Int), (∀ l ∈ ls, LnOk sh l) → w.length = n → (lefts sh ls w).length = n
  | [], w, _, h => h
  | l :: ls, w, hl, h => by
    rw [lefts, List.foldl_cons]
    refine lefts_len hg ls _ (fun b hb => hl b (List.mem_cons_of_mem _ hb)) ?_
    rw [restL_len, lcont_len hg (hl l (List.mem_cons_self ..)), h]; omega
theorem lefts_nn (sh : List Off) : ∀ (ls : List Ln) (w : List Int), NN w → NN (lefts sh ls w)
  | [], w, h => h
  | l :: ls, w, h => lefts_nn sh ls _ (restL_nn _ _)
theorem left_ok (n : Nat) (hn : n ≤ 4) (sh : List Off) (hg : Good n sh) (ls : List Ln) (hl : ∀ l ∈ ls, LnOk sh l) (w : List Int) (hw : w.length = n) (hw0 : NN w) : ∃ x, sem__law_left [.v (shopD sh), .v (.list (ls.map lineD)), .v (.list (w.map .int))] = some (x, []) ∧ x.toD = some (.list ((lefts sh ls w).map .int)) := by
  obtain ⟨⟨f, y⟩, h, hI1, hI2, hI3, hI4⟩ := for_inv (tg := .n 4) (body := b__law_left_1) (enc := fun (l : Ln) => O.v (lineD l)) (E := fun (s : List Int × O) => [.own (.v (shopD sh)), .own (.v (.list (ls.map lineD))), .own (.v (.list (w.map .int))), .own s.2, .no, .no])
    (fun pre s => s.1 = lefts sh pre w ∧ (s.2 = .v (.list (s.1.map .int)) ∨ s.2 = .l (s.1.map oi)) ∧ s.1.length = n ∧ NN s.1) (all := ls) ls [] (w, .l (w.map oi)) rfl ⟨rfl, .inr rfl, hw, hw0⟩ (by
    intro pre l post ⟨f, y⟩ hall ⟨h1, h2, h3, h4⟩
    have hlk := hl l (by rw [hall]; simp)
    simp only at h1 h2 h3 h4
    have hll := lcont_len hg hlk
    have c1 := lcontent_ok n sh hg hn l hlk
    have c2 := rest_ok f (lcont sh l) (by omega)
    have c3 := covers_B f (restL f (lcont sh l)) (by omega)
    rw [restL_cov f _ h4 (lcont_nn hg hlk)] at c3
    refine ⟨(restL f (lcont sh l), .v (.list ((restL f (lcont sh l)).map .int))), _, rfl, ?_, ?_, .inl rfl, ?_, restL_nn _ _⟩
    · rcases h2 with rfl | rfl
      · simp [b__law_left_1, c1, c2, c3]
      · simp [b__law_left_1, c1, c2, c3]
    · simp only; rw [h1, lefts, lefts, List.foldl_append]; rfl
    · simp only; rw [restL_len]; omega)
  simp only at hI1 hI2
  refine ⟨y, ?_, ?_⟩
  · have hb : w.length ≤ 16777216 := by omega
    simp [un__law_left, m__law_left, hb, h]
  · rw [← hI1]
    rcases hI2 with rfl | rfl <;> simp
theorem restL_comm (w a b : List Int) (ha : NN a) (hb : NN b) : restL (restL w a) b = restL (restL w b) a := by
  rw [restL_rest w a b hb, restL_rest w b a ha]
  exact congrArg (restL w) (sumL_comm b a)
theorem lefts_rest {n : Nat} {sh : List Off} (hg : Good n sh) : ∀ (ls : List Ln) (w c : List Int), (∀ l ∈ ls, LnOk sh l) → NN c → lefts sh ls (restL w c) = restL (lefts sh ls w) c
  | [], w, c, _, _ => rfl
  | l :: ls, w, c, hl, hc => by
    have hlk := hl l (List.mem_cons_self ..)
    show lefts sh ls (restL (restL w c) (lcont sh l)) = restL (lefts sh ls (restL w (lcont sh l))) c
    rw [restL_comm w c _ hc (lcont_nn hg hlk)]
    exact lefts_rest hg ls _ _ (fun b hb => hl b (List.mem_cons_of_mem _ hb)) hc
theorem lefts_rev {n : Nat} {sh : List Off} (hg : Good n sh) : ∀ (ls : List Ln) (w : List Int), (∀ l ∈ ls, LnOk sh l) → lefts sh ls.reverse w = lefts sh ls w
  | [], w, _ => rfl
  | l :: ls, w, hl => by
    have hlk := hl l (List.mem_cons_self ..)
    rw [List.reverse_cons]
    show (ls.reverse ++ [l]).foldl _ w = lefts sh ls (restL w (lcont sh l))
    rw [List.foldl_append, lefts_rest hg ls w _ (fun b hb => hl b (List.mem_cons_of_mem _ hb)) (lcont_nn hg hlk)]
    show restL (lefts sh ls.reverse w) (lcont sh l) = _
    rw [lefts_rev hg ls w fun b hb => hl b (List.mem_cons_of_mem _ hb)]
theorem lefts_sum {n : Nat} {sh : List Off} (hg : Good n sh) : ∀ (ls : List Ln) (w c : List Int), (∀ l ∈ ls, LnOk sh l) → lefts sh ls (restL w c) = restL w (ls.foldl (fun f l => sumL f (lcont sh l)) c)
  | [], w, c, _ => rfl
  | l :: ls, w, c, hl => by
    have hlk := hl l (List.mem_cons_self ..)
    show lefts sh ls (restL (restL w c) (lcont sh l)) = _
    rw [restL_rest w c _ (lcont_nn hg hlk)]
    exact lefts_sum hg ls w _ fun b hb => hl b (List.mem_cons_of_mem _ hb)
theorem restL_reps0 : ∀ (w : List Int), NN w → restL w (reps w.length 0) = w
  | [], _ => by simp [restL]
  | x :: w, hw => by
    have ih := restL_reps0 w fun z h => hw z (List.mem_cons_of_mem _ h)
    have h1 := hw x (List.mem_cons_self ..)
    simp only [restL, reps, List.length_cons, List.replicate_succ, List.zip_cons_cons, List.map_cons, List.cons.injEq] at ih ⊢
    exact ⟨by omega, ih⟩
theorem nn_sum0 : ∀ (w : List Int), NN w → (w.sum = 0 ↔ w = reps w.length 0)
  | [], _ => by simp [reps]
  | x :: w, hw => by
    have ih := nn_sum0 w fun z h => hw z (List.mem_cons_of_mem _ h)
    have h1 := hw x (List.mem_cons_self ..)
    have h2 : 0 ≤ w.sum := by
      have : ∀ w : List Int, NN w → 0 ≤ w.sum := fun w => by
        induction w with
        | nil => intro _; simp
        | cons x w ih =>
          intro h
          have := ih fun z hz => h z (List.mem_cons_of_mem _ hz)
          have := h x (List.mem_cons_self ..)
          rw [List.sum_cons]; omega
      exact this w fun z h => hw z (List.mem_cons_of_mem _ h)
    simp only [List.sum_cons, reps, List.length_cons, List.replicate_succ, List.cons.injEq] at ih ⊢
    rw [← ih]
    omega
end Dn

set_option Elab.async false
set_option linter.all false
set_option maxRecDepth 100000
set_option maxHeartbeats 4000000
namespace Dn
open PySem L2
/-! the order of lines -/
theorem lexI_irrefl : ∀ a : List Int, lexI a a = false
  | [] => rfl
  | x :: a => by simp [lexI, lexI_irrefl a]
theorem lexI_tri : ∀ a b : List Int, a ≠ b → lexI a b = false → lexI b a = true
  | [], [], h, _ => absurd rfl h
  | [], _ :: _, _, h => by simp [lexI] at h
  | _ :: _, [], _, _ => by simp [lexI]
  | x :: a, y :: b, h, h2 => by
    by_cases e : x = y
    · subst e
      simp only [lexI, if_true] at h2 ⊢
      exact lexI_tri a b (fun e => h (by rw [e])) h2
    · simp only [lexI, if_neg e, decide_eq_false_iff_not] at h2
      simp only [lexI, if_neg (Ne.symm e), decide_eq_true_eq]
      omega
theorem lexI_trans : ∀ a b c : List Int, lexI a b = true → lexI b c = true → lexI a c = true
  | [], [], c, h, _ => by simp [lexI] at h
  | [], _ :: _, [], _, h => by simp [lexI] at h
  | [], _ :: _, _ :: _, _, _ => by simp [lexI]
  | _ :: _, [], _, h, _ => by simp [lexI] at h
  | _ :: _, _ :: _, [], _, h => by simp [lexI] at h
  | x :: a, y :: b, z :: c, h1, h2 => by
    by_cases e : x = y
    · subst e
      by_cases e2 : x = z
      · subst e2
        simp only [lexI, if_true] at h1 h2 ⊢
        exact lexI_trans a b c h1 h2
      · simp only [lexI, if_neg e2] at h2 ⊢
        exact h2
    · by_cases e2 : y = z
      · subst e2
        simp only [lexI, if_neg e] at h1 ⊢
        exact h1
      · simp only [lexI, if_neg e, if_neg e2, decide_eq_true_eq] at h1 h2
        have : ¬ x = z := by omega
        simp only [lexI, if_neg this, decide_eq_true_eq]
        omega
theorem lexI_asymm (a b : List Int) (h : lexI a b = true) : lexI b a = false := by
  cases e : lexI b a with
  | false => rfl
  | true => have := lexI_trans a b a h e; rw [lexI_irrefl] at this; cases this
theorem lexLe_trans (a b c : List Int) (h1 : (!lexI b a) = true) (h2 : (!lexI c b) = true) : (!lexI c a) = true := by
  simp only [Bool.not_eq_true'] at *
  by_cases e1 : a = b
  · subst e1; exact h2
  · by_cases e2 : b = c
    · subst e2; exact h1
    · exact lexI_asymm _ _ (lexI_trans a b c (lexI_tri b a (Ne.symm e1) h1) (lexI_tri c b (Ne.symm e2) h2))
theorem lexLe_total (a b : List Int) : ((!lexI b a) || (!lexI a b)) = true := by
  cases e : lexI b a with
  | false => rfl
  | true => rw [lexI_asymm _ _ e]; rfl
theorem sortRows_strict {rows : List (List Int)} (h : rows.Nodup) : (sortRows rows).Pairwise fun a b => lexI a b = true := by
  have h1 : (sortRows rows).Pairwise fun a b => (!lexI b a) = true := List.pairwise_mergeSort (le := fun a b => !lexI b a) lexLe_trans lexLe_total rows
  have h2 : (sortRows rows).Nodup := (List.mergeSort_perm rows _).nodup_iff.mpr h
  refine (h1.and h2).imp fun {a b} ⟨p, q⟩ => ?_
  exact lexI_tri b a (Ne.symm q) (by simpa using p)
theorem dblL_nodup : ∀ (places : List Int) (rows : List (List Int)), rows.Nodup → places.Nodup → (∀ r ∈ rows, ∀ x ∈ r, x ∉ places) → (places.foldl dblL rows).Nodup
  | [], rows, h, _, _ => h
  | p :: places, rows, h, hp, hr => by
    rw [List.foldl_cons]
    rw [List.nodup_cons] at hp
    refine dblL_nodup places _ ?_ hp.2 ?_
    · show (rows ++ rows.map (· ++ [p])).Nodup
      rw [List.nodup_append]
      refine ⟨h, ?_, ?_⟩
      · unfold List.Nodup
        rw [List.pairwise_map]
        exact List.Pairwise.imp (fun {a b} hab e => hab (List.append_cancel_right e)) h
      · intro a ha b hb e
        obtain ⟨c, hc, rfl⟩ := List.mem_map.mp hb
        subst e
        exact hr _ ha p (by simp) (List.mem_cons_self ..)
    · intro r hm x hx hxp
      rcases List.mem_append.mp (show r ∈ rows ++ rows.map (· ++ [p]) from hm) with hm | hm
      · exact hr r hm x hx (List.mem_cons_of_mem _ hxp)
      · obtain ⟨c, hc, rfl⟩ := List.mem_map.mp hm
        rcases List.mem_append.mp hx with hx | hx
        · exact hr c hc x hx (List.mem_cons_of_mem _ hxp)
        · simp only [List.mem_singleton] at hx
          subst hx
          exact hp.1 hxp
theorem choicesL_strict {places : List Int} (h : places.Nodup) : (choicesL places).Pairwise fun a b => lexI a b = true :=
  sortRows_strict (dblL_nodup places [[]] (by simp) h (by simp))
theorem zipIdx_pair {α : Type} : ∀ (xs : List α) (k : Nat), (xs.zipIdx k).Pairwise fun p q => p.2 < q.2
  | [], _ => by simp
  | x :: xs, k => by
    rw [List.zipIdx_cons, List.pairwise_cons]
    refine ⟨fun p hp => ?_, zipIdx_pair xs (k + 1)⟩
    have := List.le_snd_of_mem_zipIdx hp
    simp only; omega
theorem addsL_nodup (sh : List Off) (i : Int) : (addsL sh i).Nodup := by
  unfold addsL
  unfold List.Nodup
  rw [List.pairwise_map]
  exact List.Pairwise.imp (fun {a b} h => by omega) ((zipIdx_pair sh 0).sublist List.filter_sublist)
def lnLt (a b : Ln) : Bool := if a.1 = b.1 then (if a.2.1 = b.2.1 then lexI a.2.2 b.2.2 else decide (a.2.1 < b.2.1)) else decide (a.1 < b.1)
theorem dataLt_line (a b : Ln) : PySem.W.dataLt (lineD a) (lineD b) = lnLt a b := by
  have al : ∀ x y : Int, PySem.W.alike (.int x) (.int y) = true := fun x y => by simp [PySem.W.alike]
  have alr : PySem.W.alike (rowD a.2.2) (rowD b.2.2) = true := by
    show PySem.W.alike (.list _) (.list _) = true
    simp [PySem.W.alike, PySem.W.alike_ints]
  unfold lineD lnLt
  rw [PySem.W.dataLt_tuple]
  by_cases h1 : a.1 = b.1
  · rw [PySem.W.dataLt_all_yes (al _ _) (by simp [PyData.eqv, h1]), if_pos h1]
    by_cases h2 : a.2.1 = b.2.1
    · rw [PySem.W.dataLt_all_yes (al _ _) (by simp [PyData.eqv, h2]), if_pos h2]
      by_cases h3 : a.2.2 = b.2.2
      · rw [h3, lexI_irrefl]
        exact PyProof.Rows.lex_irrefl _
      · rw [PySem.W.dataLt_all_no alr ?_, dataLt_row]
        have := eqv_iff 2 (rowD a.2.2) (rowD b.2.2) (by simp [rowD]) (by simp [rowD])
        cases e : PyData.eqv (rowD a.2.2) (rowD b.2.2) with
        | false => rfl
        | true =>
          have := this.mp e
          simp only [rowD, PyData.list.injEq] at this
          exact absurd ((map_int_inj _ _).mp this) h3
    · rw [PySem.W.dataLt_all_no (al _ _) (by simp [PyData.eqv, h2]), if_neg h2, PySem.W.dataLt_int]
  · rw [PySem.W.dataLt_all_no (al _ _) (by simp [PyData.eqv, h1]), if_neg h1, PySem.W.dataLt_int]
theorem linesAt_fst {sh : List Off} {i : Nat} {o : Off} {l : Ln} (h : l ∈ linesAt sh i o) : l.1 = (i : Int) := by
  cases o with
  | pack c p => obtain ⟨a, -, rfl⟩ := List.mem_map.mp h; rfl
  | many c ts => obtain ⟨a, -, rfl⟩ := List.mem_map.mp h; rfl
  | add c p k => cases h
theorem linesAt_strict (sh : List Off) (i : Nat) (o : Off) : (linesAt sh i o).Pairwise fun a b => lnLt a b = true := by
  cases o with
  | pack c p =>
    unfold linesAt
    rw [List.pairwise_map]
    exact (choicesL_strict (addsL_nodup sh i)).imp fun {a b} h => by simp [lnLt, h]
  | many c ts =>
    unfold linesAt
    rw [List.pairwise_map]
    have : counts12.Pairwise (· < ·) := by decide
    exact this.imp fun {a b} h => by
      have : ¬ a = b := by omega
      simp [lnLt, h, this]
  | add c p k => exact .nil
theorem linesL_strict (sh : List Off) : (linesL sh).Pairwise fun a b => lnLt a b = true := by
  unfold linesL
  rw [List.pairwise_flatMap]
  refine ⟨fun p _ => linesAt_strict sh p.2 p.1, (zipIdx_pair sh 0).imp fun {p q} h x hx y hy => ?_⟩
  have h1 := linesAt_fst hx
  have h2 := linesAt_fst hy
  have : ¬ x.1 = y.1 := by omega
  simp only [lnLt, if_neg this, decide_eq_true_eq]
  omega
theorem lnLt_irrefl (a : Ln) : lnLt a a = false := by simp [lnLt, lexI_irrefl]
theorem lnLt_asymm (a b : Ln) (h : lnLt a b = true) : lnLt b a = false := by
  unfold lnLt at h ⊢
  by_cases h1 : a.1 = b.1
  · rw [if_pos h1] at h
    rw [if_pos h1.symm]
    by_cases h2 : a.2.1 = b.2.1
    · rw [if_pos h2] at h
      rw [if_pos h2.symm]
      exact lexI_asymm _ _ h
    · rw [if_neg h2] at h
      rw [if_neg (Ne.symm h2)]
      simp at h ⊢; omega
  · rw [if_neg h1] at h
    rw [if_neg (Ne.symm h1)]
    simp at h ⊢; omega
theorem linesL_nodup (sh : List Off) : (linesL sh).Nodup := (linesL_strict sh).imp fun {a b} h e => by rw [e, lnLt_irrefl] at h; cases h
/-- lines stand in order: sorted leaves them -/
theorem srt_lines (ls : List Ln) (h : ls.Pairwise fun a b => lnLt a b = true) : srtO [.v (.list (ls.map lineD))] = some (.l (ls.map fun l => .v (lineD l))) := by
  have e1 : (ls.map fun l => O.v (lineD l)).zip (ls.map lineD) = ls.map fun r => (O.v (lineD r), lineD r) := by
    clear h
    induction ls with
    | nil => rfl
    | cons r rows ih => simp [ih]
  have e2 : ((ls.map fun r => (O.v (lineD r), lineD r)).mergeSort (PySem.W.dataLe false (·.2))).map (·.1) = ls.map fun l => O.v (lineD l) := by
    rw [List.mergeSort_of_pairwise, List.map_map]
    · rfl
    · rw [List.pairwise_map]
      refine h.imp fun {a b} hab => ?_
      rw [PySem.W.dataLe_eq]
      simp [dataLt_line, lnLt_asymm _ _ hab]
  have hal : allAlikeB (ls.map lineD) = true := by
    unfold allAlikeB
    rw [List.all_eq_true]
    intro d hd
    rw [List.all_eq_true]
    intro d' hd'
    obtain ⟨a, _, rfl⟩ := List.mem_map.mp hd
    obtain ⟨b, _, rfl⟩ := List.mem_map.mp hd'
    simp [lineD, rowD, PySem.W.alike, PySem.W.alikeAll, PySem.W.alike_ints]
  have hso : sortableB (ls.map lineD) = true := by
    unfold sortableB
    rw [Bool.or_eq_true]
    left
    rw [List.all_eq_true]
    intro d hd
    obtain ⟨a, _, rfl⟩ := List.mem_map.mp hd
    rfl
  have hdp : (ls.map lineD).all (fun d => decide (d.depth ≤ 60)) = true := by
    rw [List.all_eq_true]
    intro d hd
    obtain ⟨a, _, rfl⟩ := List.mem_map.mp hd
    simp [lineD, rowD]
  show (match O.toDs ((ls.map lineD).map O.v) with | some ds => if allAlikeB ds && sortableB ds && ds.all (fun d => decide (d.depth ≤ 60)) then some (O.l (((((ls.map lineD).map O.v).zip ds).mergeSort (PySem.W.dataLe false (fun x : O × PyData => x.2))).map (fun x : O × PyData => x.1))) else none | none => none) = _
  rw [List.map_map]
  show (match O.toDs (ls.map fun l => O.v (lineD l)) with | some ds => if allAlikeB ds && sortableB ds && ds.all (fun d => decide (d.depth ≤ 60)) then some (O.l ((((ls.map fun l => O.v (lineD l)).zip ds).mergeSort (PySem.W.dataLe false (fun x : O × PyData => x.2))).map (fun x : O × PyData => x.1))) else none | none => none) = _
  rw [toDs_mapv]
  simp only [hal, hso, hdp, Bool.and_self, if_true]
  rw [e1, e2]
theorem lineD_inj {a b : Ln} (h : lineD a = lineD b) : a = b := by
  obtain ⟨x, y, z⟩ := a
  obtain ⟨x', y', z'⟩ := b
  simp only [lineD, rowD, PyData.tuple.injEq, List.cons.injEq, PyData.int.injEq, PyData.list.injEq, and_true] at h
  obtain ⟨rfl, rfl, h⟩ := h
  rw [(map_int_inj _ _).mp h]
theorem eqv_line (a b : Ln) : PyData.eqv (lineD a) (lineD b) = decide (a = b) := by
  have := eqv_iff 4 (lineD a) (lineD b) (by simp [lineD]) (by simp [lineD])
  rw [Bool.eq_iff_iff, this, decide_eq_true_eq]
  exact ⟨lineD_inj, fun h => by rw [h]⟩
theorem count_line (ls : List Ln) (h : ls.Nodup) (l : Ln) (hl : l ∈ ls) : fCount [.list (ls.map lineD), lineD l] = some (.int 1) := by
  have hnb : nb (.list (ls.map lineD)) 5 = true := by simp [lineD]
  have hnb2 : nb (lineD l) 5 = true := by simp [lineD]
  obtain ⟨a1, a2⟩ := nb_shape 5 _ hnb
  obtain ⟨b1, b2⟩ := nb_shape 5 _ hnb2
  have hc : (ls.map lineD).countP (fun z => PyData.eqv z (lineD l)) = 1 := by
    rw [List.countP_map]
    have : (((fun z => PyData.eqv z (lineD l)) ∘ lineD) : Ln → Bool) = fun x => decide (x = l) := by
      funext x
      simp only [Function.comp, eqv_line]
    rw [this]
    clear this hnb a1 a2 b1 b2 hnb2
    induction ls with
    | nil => cases hl
    | cons x ls ih =>
      rw [List.nodup_cons] at h
      rw [List.countP_cons]
      by_cases e : x = l
      · subst e
        have : ls.countP (fun y => decide (y = x)) = 0 := by
          rw [List.countP_eq_zero]
          intro y hy
          simp only [decide_eq_true_eq]
          intro e
          subst e
          exact h.1 hy
        rw [this]; simp
      · rcases List.mem_cons.mp hl with e2 | hl
        · exact absurd e2.symm e
        · rw [ih h.2 hl]; simp [e]
  show (if SeqAt.shaped (.list (ls.map lineD)) && SeqAt.shaped (lineD l) then some (PyData.int (((ls.map lineD).countP fun z => PyData.eqv z (lineD l)) : Nat)) else none) = _
  rw [hc, shaped_eq, shaped_eq, a1, b1, decide_eq_true (Nat.le_trans a2 (by decide)), decide_eq_true (Nat.le_trans b2 (by decide))]
  rfl
end Dn

set_option Elab.async false
set_option linter.all false
set_option maxRecDepth 100000
set_option maxHeartbeats 4000000
namespace Dn
open PySem L2
/-! the second kind of draws -/
theorem mix_ok (c t : Int) (ht : 0 ≤ t ∧ t ≤ 100000) : ∃ n, sem__law_mix [oi c, oi t] = some (oi n, []) ∧ 0 ≤ n ∧ n < 2147483629 := by
  have b1 : -18446744073709551616 < t := by omega
  have b2 : t < 18446744073709551616 := by omega
  refine ⟨((((c % 2147483647 + t * t * 7919 + 104729) * 48271 % 2147483647) * ((c % 2147483647 + t * t * 7919 + 104729) * 48271 % 2147483647)) + 69621 * t) % 2147483629, ?_, Int.emod_nonneg _ (by decide), Int.emod_lt_of_pos _ (by decide)⟩
  have h1 : 0 ≤ (c % 2147483647 + t * t * 7919 + 104729) * 48271 % 2147483647 := Int.emod_nonneg _ (by decide)
  have h2 : (c % 2147483647 + t * t * 7919 + 104729) * 48271 % 2147483647 < 2147483647 := Int.emod_lt_of_pos _ (by decide)
  generalize hx : (c % 2147483647 + t * t * 7919 + 104729) * 48271 % 2147483647 = x at h1 h2
  have b3 : -18446744073709551616 < x := by omega
  have b4 : x < 18446744073709551616 := by omega
  simp [un__law_mix, m__law_mix, b1, b2, hx, b3, b4]
theorem draws2_ok (ns : List Int) (hl : ns.length ≤ 63) (t m : Int) (ht : 0 ≤ t ∧ t ≤ 100) (hm : 0 ≤ m ∧ m ≤ 1000) : ∃ ds : List Int, sem__law_draws_bf2d [.s ns, oi t, oi m] = some (.l (ds.map oi), []) := by
  obtain ⟨c, hc⟩ : ∃ c : List Int, c = cutG ns none (some 63) ++ [t] := ⟨_, rfl⟩
  have hcl : c.length ≤ 64 := by
    rw [hc, List.length_append, cutG, List.length_take, List.length_drop]
    simp; omega
  have hc0 : 0 < c.length := by rw [hc]; simp
  have hcut : (cutG ns none (some 63)).length ≤ 16777215 := by
    rw [cutG, List.length_take, List.length_drop]; omega
  have hcm : (cutG ns none (some 63)).map PyData.int ++ [PyData.int t] = c.map .int := by rw [hc]; simp
  have hlc : lcL (.n 5) mYes ce__law_draws_bf2d_1 [5] (c.map fun n => .v (.int n)) [.own (.s ns), .own (oi t), .own (oi m), .own (.v (.list (c.map .int))), .no, .no, .no, .no, .no, .no] = some (c.map (fun n => oi (n / 100000)), [.own (.s ns), .own (oi t), .own (oi m), .own (.v (.list (c.map .int))), .no, .no, .no, .no, .no, .no]) := by
    refine lc_map _ fun p _ => ?_
    simp [ce__law_draws_bf2d_1]
  let E1 : List Int × List Int → En := fun s => [.own (.s ns), .own (oi t), .own (oi m), .own (.v (.list (c.map .int))), .own (.l (s.2.map oi)), .no, .own (.l (s.1.map oi)), .no, .no, .no]
  obtain ⟨s1, h1, -⟩ := for_inv (tg := .n 7) (body := b__law_draws_bf2d_1) (enc := fun (k : Nat) => O.v (.int (k : Int))) (E := E1) (fun pre s => s.1.length ≤ pre.length ∧ s.2.length = c.length) (all := List.range (t + m).toNat) (List.range (t + m).toNat) [] ([], c.map (· / 100000)) rfl (by simp) (by
    intro pre k post s hall hI
    have hkl : pre.length < 2000 ∧ k < 2000 := by
      have := congrArg List.length hall
      have hk : k ∈ List.range (t + m).toNat := by rw [hall]; simp
      simp at this hk; omega
    obtain ⟨x, hx, hx2⟩ := atI_in s.2 (i := (k : Int) % (c.length : Int)) (Int.emod_nonneg _ (by omega)) (by rw [hI.2]; exact Int.emod_lt_of_pos _ (by omega))
    obtain ⟨y, hy, hy2⟩ := atI_in c (i := (k : Int) % (c.length : Int)) (Int.emod_nonneg _ (by omega)) (Int.emod_lt_of_pos _ (by omega))
    have hpos : fMod [.int (k : Int), .int (c.length : Int)] = some (.int ((k : Int) % (c.length : Int))) := fMod_s (by omega)
    have hix : ixN s.2.length ((k : Int) % (c.length : Int)) = some (((k : Int) % (c.length : Int)).toNat) := ixN_in (Int.emod_nonneg _ (by omega)) (by rw [hI.2]; exact Int.emod_lt_of_pos _ (by omega))
    obtain ⟨n, hn, hn2⟩ := mix_ok y (k : Int) (by omega)
    have hlf : s.1.length < 16777216 := by omega
    have hn3 : -18446744073709551616 < n := by omega
    have hn4 : n < 18446744073709551616 := by omega
    by_cases hif : (1000000000000000000 ≤ y ∧ 0 < x)
    · refine ⟨(s.1 ++ [x % 2147483587], s.2.set ((k : Int) % (c.length : Int)).toNat (x / 2147483587)), _, rfl, ?_, by simp; omega⟩
      simp [b__law_draws_bf2d_1, E1, hx, hy, hix, hlf, hpos, hn, hn3, hn4, hif.1, hif.2, List.map_set]
    · refine ⟨(s.1 ++ [(n * n + 7 * k) % 2147483587], s.2), _, rfl, ?_, by simp; omega⟩
      by_cases h1 : 1000000000000000000 ≤ y
      · have h2 : ¬ 0 < x := fun z => hif ⟨h1, z⟩
        simp [b__law_draws_bf2d_1, E1, hx, hy, hix, hlf, hpos, hn, hn3, hn4, h1, h2]
      · simp [b__law_draws_bf2d_1, E1, hx, hy, hix, hlf, hpos, hn, hn3, hn4, h1])
  have hb1 : -4611686018427387904 ≤ t + m := by omega
  have hb2 : t + m < 4611686018427387904 := by omega
  have hc64 : c.length ≤ 16777216 := by omega
  simp only [E1, List.map_nil, List.map_map, Function.comp_def] at h1
  have hcut2 : cutG (s1.1.map oi) (some t) none = (s1.1.drop t.toNat).map oi := by
    obtain ⟨k, rfl⟩ : ∃ k : Nat, t = (k : Int) := ⟨t.toNat, by omega⟩
    rw [cutG_map1, cutG_drop]
    simp
  rw [un__law_draws_bf2d]
  refine ⟨s1.1.drop t.toNat, ?_⟩
  have hv : (s1.1.map fun n => O.v (.int n)) = s1.1.map oi := rfl
  simp [m__law_draws_bf2d, slO, hcut, hcm, hlc, hc64, hb1, hb2, h1]
  rw [← List.map_drop]
  exact hcut2
/-! cutting -/
theorem cut_for (w : List Int) (hw : ∀ n ∈ w, 0 ≤ n ∧ n ≤ 10000) (x : Int) : mForS 0 (.n 2) b__law_cut_1 [.own (.l (w.map oi)), .own (oi 1), .no] = some (.nx [.own (.l (w.map oi)), .own (oi (casesI w)), .no]) := by
  have h := (forS_fold (i := 0) (tg := .n 2) (body := b__law_cut_1) (enc := fun (n : Int) => .int n) (E := fun (a : Int) => [.pin (.l (w.map oi)), .own (oi a), .no]) (step := fun a n => a * (n + 1)) (I := fun _ => True) w (fun _ _ => rfl) (fun _ => rfl) (by
    intro n hn s _
    obtain ⟨h1, h2⟩ := hw n hn
    have h3 : -18446744073709551616 < n + 1 := by omega
    have h4 : n + 1 < 18446744073709551616 := by omega
    refine ⟨trivial, _, rfl, ?_⟩
    simp [b__law_cut_1, h3, h4]) w 0 1 rfl trivial).1
  have e : (w.map fun x => O.v (PyData.int x)) = w.map oi := rfl
  have h' : forS 0 (.n 2) b__law_cut_1 (w.map oi).length 0 [.pin (.l (w.map oi)), .own (oi 1), .no] = some (.nx [.pin (.l (w.map oi)), .own (oi (casesI w)), .no]) := by rw [List.length_map]; exact h
  simp only [mForS_ap, List.getElem?_cons_zero, o_own, pinS_own, List.set_cons_zero, h']
  simp [unpin_ap]
theorem nn_sum : ∀ l : List Int, (∀ x ∈ l, 0 ≤ x) → 0 ≤ l.sum ∧ (l.sum = 0 → ∀ x ∈ l, x = 0)
  | [], _ => by simp
  | a :: l, h => by
    obtain ⟨i1, i2⟩ := nn_sum l fun x hx => h x (List.mem_cons_of_mem _ hx)
    have ha := h a (List.mem_cons_self ..)
    rw [List.sum_cons]
    refine ⟨by omega, fun hz x hx => ?_⟩
    rcases List.mem_cons.mp hx with rfl | hx
    · omega
    · exact i2 (by omega) x hx
theorem sum_pos_of {l : List Int} (h : ∀ x ∈ l, 0 ≤ x) {x : Int} (hx : x ∈ l) (hp : 0 < x) : 0 < l.sum := by
  obtain ⟨h1, h2⟩ := nn_sum l h
  rcases Int.lt_or_eq_of_le h1 with h3 | h3
  · exact h3
  · have := h2 h3.symm x hx; omega
theorem cases_two : ∀ (w : List Int), (∀ x ∈ w, 0 ≤ x ∧ x ≤ 1) → ∀ a : Int, 0 ≤ a → w.foldl (fun a n => a * (n + 1)) a ≤ a * 2 ^ w.length
  | [], _, a, h => by simp
  | x :: w, hw, a, h => by
    obtain ⟨h0, h1⟩ := hw x (List.mem_cons_self ..)
    have ih := cases_two w (fun y hy => hw y (List.mem_cons_of_mem _ hy)) (a * (x + 1)) (Int.mul_nonneg h (by omega))
    rw [List.foldl_cons, List.length_cons, Int.pow_succ]
    have h2 : a * (x + 1) ≤ a * 2 := Int.mul_le_mul_of_nonneg_left (by omega) h
    have h3 : (0 : Int) ≤ 2 ^ w.length := Int.le_of_lt (Int.pow_pos (by decide))
    have h4 : a * (x + 1) * 2 ^ w.length ≤ a * 2 * 2 ^ w.length := Int.mul_le_mul_of_nonneg_right h2 h3
    have h5 : a * 2 * 2 ^ w.length = a * (2 ^ w.length * 2) := by rw [Int.mul_assoc, Int.mul_comm 2]
    omega
theorem cut_while (n : Nat) (hn : 1 ≤ n ∧ n ≤ 4) (w : List Int) (hw : Want n w) : ∃ (w' : List Int) (c : Int), mWhile t__law_cut_1 b__law_cut_2 [.own (.l (w.map oi)), .own (oi 401), .no] = some (.nx [.own (.l (w'.map oi)), .own (oi c), .no]) ∧ Want n w' ∧ casesI w' ≤ 400 ∧ (∀ p ∈ w'.zip w, p.1 ≤ p.2) ∧ (casesI w ≤ 400 → w' = w) ∧ (0 < w.sum → 0 < w'.sum) := by
  have key : ∃ s : List Int × Int, mWhile t__law_cut_1 b__law_cut_2 [.own (.l (w.map oi)), .own (oi 401), .no] = some (.nx [.own (.l (s.1.map oi)), .own (oi s.2), .no]) ∧ (Want n s.1 ∧ (s.2 ≤ 400 → s.2 = casesI s.1) ∧ (∀ p ∈ s.1.zip w, p.1 ≤ p.2) ∧ (casesI w ≤ 400 → s.1 = w) ∧ (0 < w.sum → 0 < s.1.sum)) ∧ s.2 ≤ 400 := by
    have base := while_inv (E := fun s : List Int × Int => [.own (.l (s.1.map oi)), .own (oi s.2), .no]) (mc := t__law_cut_1) (mb := b__law_cut_2) (fun s => Want n s.1 ∧ (s.2 ≤ 400 → s.2 = casesI s.1) ∧ (∀ p ∈ s.1.zip w, p.1 ≤ p.2) ∧ (casesI w ≤ 400 → s.1 = w) ∧ (0 < w.sum → 0 < s.1.sum)) (fun s => s.2 ≤ 400) (fun s => 2 * (s.1.map Int.toNat).sum + (if s.2 ≤ 400 then 0 else 1)) (by
      intro ⟨v, c⟩ ⟨hv, hc, hle, heq, hsp⟩
      simp only at hv hc hle heq hsp ⊢
      by_cases h : c ≤ 400
      · refine .inl ⟨h, ?_⟩
        have : ¬ 400 < c := by omega
        simp [t__law_cut_1, this]
      · right
        have h4 : 400 < c := by omega
        have hf := cut_for v (fun x hx => ⟨(hv.nine x hx).1, by have := (hv.nine x hx).2; omega⟩) 0
        by_cases hg : casesI v ≤ 400
        · have hng : ¬ 400 < casesI v := by omega
          refine ⟨(v, casesI v), ?_, ?_, ⟨hv, fun _ => rfl, hle, heq, hsp⟩, ?_⟩
          · simp [t__law_cut_1, h4]
          · simp only [oi] at hf
            simp [b__law_cut_2, hf, hng, -mForS_ap]
          · simp [h, hg]
        · have h5 : 400 < casesI v := by omega
          obtain ⟨x, xs, rfl⟩ : ∃ x xs, v = x :: xs := by
            cases v with
            | nil => have := hv.len; simp at this; omega
            | cons x xs => exact ⟨x, xs, rfl⟩
          obtain ⟨j, hj, hj2⟩ := idx_ok (maxL x xs) (x :: xs) 0 (maxL_in x xs)
          have hm9 := hv.nine _ (maxL_in x xs)
          have hm1 : 1 ≤ maxL x xs := by
            rcases Int.lt_or_le (maxL x xs) 1 with hlt | hge
            · exfalso
              have : casesI (x :: xs) = 1 := cases_zero _ fun y hy => by
                have h1 := (hv.nine y hy).1
                have h2 := maxL_ge x xs
                rcases List.mem_cons.mp hy with rfl | hy
                · have := h2.1; omega
                · have := h2.2 y hy; omega
              omega
            · exact hge
          have hjl := (List.getElem?_eq_some_iff.mp hj2).1
          have hix : ixN (x :: xs).length (j : Int) = some j := by
            rw [ixN_in (by omega) (by omega)]; simp
          have hsh : fIndex [.list ((x :: xs).map .int), .int (maxL x xs)] = some (.int (j : Nat)) := by
            show (if SeqAt.shaped (.list ((x :: xs).map .int)) && SeqAt.shaped (.int (maxL x xs)) then (match idxD (.int (maxL x xs)) ((x :: xs).map .int) 0 with | some j => some (PyData.int (j : Nat)) | none => none) else none) = _
            rw [hj]
            simp
          refine ⟨((x :: xs).set j (maxL x xs - 1), casesI (x :: xs)), ?_, ?_, ⟨⟨?_, ?_⟩, fun z => by omega, fun p hp => ?_, fun z => ?_, fun _ => ?_⟩, ?_⟩
          · simp [t__law_cut_1, h4]
          · simp at hsh hix
            simp only [oi] at hf
            simp only [List.map_cons] at hf
            simp [b__law_cut_2, hf, h5, hsh, hix, List.map_set, -mForS_ap]
          · simp; have := hv.len; simp at this; omega
          · intro y hy
            rcases List.mem_or_eq_of_mem_set hy with hy | rfl
            · exact hv.nine y hy
            · omega
          · obtain ⟨i, hi, rfl⟩ := List.getElem_of_mem hp
            rw [List.getElem_zip]
            simp only
            rw [List.length_zip] at hi
            have hi2 : i < (x :: xs).length := by simp at hi ⊢; omega
            have hold := hle ((x :: xs)[i], w[i]'(by omega)) (by
              rw [← List.getElem_zip (h := by rw [List.length_zip]; omega)]
              exact List.getElem_mem _)
            simp only at hold
            rw [List.getElem_set]
            split
            · rename_i e
              subst e
              rw [List.getElem?_eq_getElem hi2] at hj2
              rw [Option.some.inj hj2] at hold
              omega
            · exact hold
          · exfalso
            have := heq z
            rw [← this] at z
            omega
          · have hm2 : 2 ≤ maxL x xs := by
              rcases Int.lt_or_le (maxL x xs) 2 with hlt | hge
              · exfalso
                have h9 := cases_two (x :: xs) (fun y hy => ⟨(hv.nine y hy).1, by
                  have h2 := maxL_ge x xs
                  rcases List.mem_cons.mp hy with rfl | hy
                  · have := h2.1; omega
                  · have := h2.2 y hy; omega⟩) 1 (by decide)
                have h10 : (2 : Int) ^ (x :: xs).length ≤ 16 := by
                  have hl : (x :: xs).length ≤ 4 := by rw [hv.len]; exact hn.2
                  have := Nat.pow_le_pow_right (n := 2) (by decide) hl
                  have h11 : ((2 ^ (x :: xs).length : Nat) : Int) ≤ ((2 ^ 4 : Nat) : Int) := by exact_mod_cast this
                  simpa using h11
                unfold casesI at h5
                omega
              · exact hge
            refine sum_pos_of (x := maxL x xs - 1) (fun y hy => ?_) (List.mem_set hjl _) (by omega)
            rcases List.mem_or_eq_of_mem_set hy with hy | rfl
            · exact (hv.nine y hy).1
            · omega
          · have := sum_set _ _ _ hj2 hm1
            simp only [h, if_false]
            have h6 : ¬ casesI (x :: xs) ≤ 400 := by omega
            simp only [h6, if_false]
            omega)
    obtain ⟨s, h1, h2, h3⟩ := base _ (w, 401) (Nat.le_refl _) ⟨hw, by omega, fun p hp => by
      obtain ⟨i, hi, rfl⟩ := List.getElem_of_mem hp
      rw [List.getElem_zip]
      exact Int.le_refl _, fun _ => rfl, fun h => h⟩
    exact ⟨s, h1, h2, h3⟩
  obtain ⟨⟨w', c⟩, h1, ⟨h2, h3, h4, h6⟩, h5⟩ := key
  exact ⟨w', c, h1, h2, by rw [← h3 h5]; exact h5, h4, h6⟩
theorem cut_ok (n : Nat) (hn : 1 ≤ n ∧ n ≤ 4) (w : List Int) (hw : Want n w) : ∃ w' : List Int, sem__law_cut [.l (w.map oi)] = some (.l (w'.map oi), []) ∧ Want n w' ∧ casesI w' ≤ 400 ∧ (∀ p ∈ w'.zip w, p.1 ≤ p.2) ∧ (casesI w ≤ 400 → w' = w) ∧ (0 < w.sum → 0 < w'.sum) := by
  obtain ⟨w', c, h1, h2⟩ := cut_while n hn w hw
  refine ⟨w', ?_, h2⟩
  simp [un__law_cut, m__law_cut, h1]
end Dn

set_option Elab.async false
set_option linter.all false
set_option maxRecDepth 100000
set_option maxHeartbeats 4000000
namespace Dn
open PySem L2
theorem pick4 (n x : Int) (hx : 1 ≤ x ∧ x ≤ 9) : ∃ y : Int, atI [oi 0, oi 1, oi x, oi 1] (n % 4) = some (oi y) ∧ 0 ≤ y ∧ y ≤ 9 := by
  rcases (show n % 4 = 0 ∨ n % 4 = 1 ∨ n % 4 = 2 ∨ n % 4 = 3 by omega) with h | h | h | h <;> rw [h]
  · exact ⟨0, by simp, by omega⟩
  · exact ⟨1, by simp, by omega⟩
  · exact ⟨x, by simp, by omega⟩
  · exact ⟨1, by simp, by omega⟩
theorem content2_ok (ds : List Int) (many most : Int) (hm : 1 ≤ many ∧ many ≤ 4) (hmo : 1 ≤ most ∧ most ≤ 9) : ∃ (w ds' : List Int), sem__law_content_e374 [.l (ds.map oi), oi many, oi most] = some (.l (w.map oi), [.l (ds'.map oi)]) ∧ Want many.toNat w ∧ 0 < w.sum ∧ casesI w ≤ 400 := by
  obtain ⟨n0, d1, h1⟩ := pop_ok ds
  obtain ⟨⟨w, n⟩, h2, hI⟩ := for_inv (tg := .n 5) (body := b__law_content_e374_1) (enc := fun (k : Nat) => O.v (.int (k : Int))) (E := fun (s : List Int × Int) => [.pin (.l (d1.map oi)), .own (.v (.int many)), .own (.v (.int most)), .own (.v (.int s.2)), .own (.l (s.1.map oi)), .no])
    (fun pre s => s.1.length = pre.length ∧ ∀ x ∈ s.1, 0 ≤ x ∧ x ≤ 9) (all := List.range many.toNat) (List.range many.toNat) [] ([], n0) rfl ⟨rfl, by simp⟩ (by
    intro pre k post ⟨w, n⟩ hall ⟨hl, hx⟩
    simp only at hl hx
    have hpl : pre.length < 4 := by have := congrArg List.length hall; simp at this; omega
    have hmod : fMod [.int n, .int most] = some (.int (n % most)) := fMod_s (by omega)
    have hr : 1 ≤ 1 + n % most ∧ 1 + n % most ≤ 9 := by
      have a1 := Int.emod_nonneg n (show most ≠ 0 by omega)
      have a2 := Int.emod_lt_of_pos n (show 0 < most by omega)
      omega
    obtain ⟨y, hy, hy2⟩ := pick4 (n / 16) (1 + n % most) hr
    have hlf : w.length < 16777216 := by omega
    refine ⟨(w ++ [y], n / 64), _, rfl, ?_, by simp [hl], ?_⟩
    · simp [b__law_content_e374_1, hmod, hy, hlf]
    · intro x hx2
      rcases List.mem_append.mp hx2 with h | h
      · exact hx x h
      · simp at h; subst h; exact hy2)
  simp only at hI
  have hb1 : -4611686018427387904 ≤ many := by omega
  have hb2 : many < 4611686018427387904 := by omega
  have hb3 : many.toNat ≤ 16777216 := by omega
  have hw : Want many.toNat w := ⟨by rw [hI.1]; simp, hI.2⟩
  have hnn := nn_sum w fun x hx => (hw.nine x hx).1
  simp only [List.map_nil] at h2
  by_cases h0 : w.sum = 0
  · have hj : 0 ≤ n % many ∧ n % many < many := ⟨Int.emod_nonneg _ (by omega), Int.emod_lt_of_pos _ (by omega)⟩
    have hix : ixN w.length (n % many) = some (n % many).toNat := ixN_in hj.1 (by rw [hw.len]; omega)
    have hmod : fMod [.int n, .int many] = some (.int (n % many)) := fMod_s (by omega)
    have hjl : (n % many).toNat < w.length := by rw [hw.len]; omega
    have hw2 : Want many.toNat (w.set (n % many).toNat 1) := ⟨by simp [hw.len], fun x hx => by
      rcases List.mem_or_eq_of_mem_set hx with hx | rfl
      · exact hw.nine x hx
      · omega⟩
    have hp2 : 0 < (w.set (n % many).toNat 1).sum := sum_pos_of (fun x hx => (hw2.nine x hx).1) (List.mem_set hjl _) (by decide)
    obtain ⟨w', c1, c2, c3, -, -, c4⟩ := cut_ok many.toNat (by omega) _ hw2
    refine ⟨w', d1, ?_, c2, c4 hp2, c3⟩
    rw [List.map_set] at c1
    simp [un__law_content_e374, m__law_content_e374, h1, hb1, hb2, hb3, h2, h0, hmod, hix, c1]
  · obtain ⟨w', c1, c2, c3, -, -, c4⟩ := cut_ok many.toNat (by omega) w hw
    refine ⟨w', d1, ?_, c2, c4 (by omega), c3⟩
    simp [un__law_content_e374, m__law_content_e374, h1, hb1, hb2, hb3, h2, h0, c1]
theorem price2_ok (ds : List Int) : ∃ (p : Int) (ds' : List Int), sem__law_price_59e4 [.l (ds.map oi)] = some (oi p, [.l (ds'.map oi)]) ∧ 0 ≤ p ∧ p < 1000000000000 := by
  obtain ⟨n, d1, h1⟩ := pop_ok ds
  have h3 : 0 ≤ n / 12 % 5 ∧ n / 12 % 5 < 5 := by omega
  obtain ⟨x, hx, hx2⟩ := atI_in [n % 12, 20 + n % 100, n % 12, n * 465 % 1000000000000, 0] (i := n / 12 % 5) h3.1 (by simp; omega)
  have hm := List.mem_of_getElem? hx2
  have hx' := congrArg (Option.map oi) hx
  rw [← atI_map] at hx'
  simp at hx'
  have hmod : fMod [.int (n * 465), .int 1000000000000] = some (.int (n * 465 % 1000000000000)) := fMod_s (by decide)
  refine ⟨x, d1, ?_, ?_, ?_⟩
  · simp [un__law_price_59e4, m__law_price_59e4, h1, hx']
  · simp at hm; omega
  · simp at hm; omega
theorem tiers2_turn (ds : List Int) (k : Nat) (ts : List (Int × Int)) (at' : Int) (hl : ts.length ≤ 4) : ∃ (p z : Int) (ds' : List Int),
    b__law_tiers_fe28_1 [.pin (.l (ds.map oi)), .own (.l (ts.map fun t => .v (tierD t))), .own (.v (.int at')), .own (.v (.int (k : Int)))] = some (.nx [.pin (.l (ds'.map oi)), .own (.l ((if at' < 13 then ts ++ [(at', p)] else ts).map fun t => .v (tierD t))), .own (.v (.int (at' + 1 + z))), .no]) ∧ 0 ≤ z ∧ 0 ≤ p ∧ p < 1000000000000 := by
  obtain ⟨p, d2, h2, hp⟩ := price2_ok ds
  have hl2 : ts.length < 16777216 := by omega
  by_cases h : at' < 13
  · obtain ⟨n, d3, h3⟩ := pop_ok d2
    refine ⟨p, n % 5, d3, ?_, by omega, hp⟩
    simp [b__law_tiers_fe28_1, h2, h3, h, hl2, tierD]
  · obtain ⟨n, d3, h3⟩ := pop_ok ds
    refine ⟨p, n % 5, d3, ?_, by omega, hp⟩
    simp [b__law_tiers_fe28_1, h3, h]
theorem tierI_step {pre : Nat} {ts : List (Int × Int)} {at' p z : Int} (hI : TierI pre ts at') (hz : 0 ≤ z) (hp : 0 ≤ p ∧ p < 1000000000000) : TierI (pre + 1) (if at' < 13 then ts ++ [(at', p)] else ts) (at' + 1 + z) := by
  have hpos := hI.pos
  by_cases h : at' < 13
  · simp only [if_pos h]
    refine ⟨by simp; exact hI.len, ⟨by omega, fun h => by simp at h, fun _ => by simp⟩, fun _ => ?_, ?_, ?_, ?_⟩
    · cases ts with
      | nil => simp [hpos.2.1 rfl]
      | cons t ts => simpa using hI.one (by simp)
    · rw [List.map_append, List.pairwise_append]
      refine ⟨hI.up, by simp, fun a ha b hb => ?_⟩
      obtain ⟨t, ht, rfl⟩ := List.mem_map.mp ha
      simp at hb
      subst hb
      exact (hI.most t ht).2.2
    · intro t ht
      rcases List.mem_append.mp ht with ht | ht
      · obtain ⟨a, b, c⟩ := hI.most t ht
        exact ⟨a, b, by omega⟩
      · simp at ht; subst ht; simp only; omega
    · intro t ht
      rcases List.mem_append.mp ht with ht | ht
      · exact hI.price t ht
      · simp at ht; subst ht; exact hp
  · simp only [if_neg h]
    have hne : ts ≠ [] := fun z => by have := hpos.2.1 z; omega
    exact ⟨Nat.le_succ_of_le hI.len, ⟨by omega, fun h => absurd h hne, fun _ => hne⟩, hI.one, hI.up, fun t ht => by
      obtain ⟨a, b, c⟩ := hI.most t ht
      exact ⟨a, b, by omega⟩, hI.price⟩
theorem tierI_0 : TierI 0 [] 1 := { len := Nat.le_refl _, pos := ⟨Int.le_refl 1, fun _ => rfl, fun h => absurd rfl h⟩, one := fun h => absurd rfl h, up := .nil, most := (fun t ht => nomatch ht), price := (fun t ht => nomatch ht) }
theorem tierI_end {pre : Nat} {ts : List (Int × Int)} {at' : Int} (hI : TierI pre ts at') (h1 : 1 ≤ pre) (h2 : pre ≤ 4) : Tiers ts := by
  have hne : ts ≠ [] := hI.pos.2.2 (by omega)
  exact ⟨⟨List.length_pos_iff.mpr hne, by have := hI.len; omega⟩, hI.one hne, hI.up, fun t ht => ⟨(hI.most t ht).1, (hI.most t ht).2.1⟩, fun t ht => ⟨(hI.price t ht).1, by have := (hI.price t ht).2; omega⟩⟩
theorem tiers2_ok (ds : List Int) : ∃ (ts : List (Int × Int)) (ds' : List Int), sem__law_tiers_fe28 [.l (ds.map oi)] = some (.l (ts.map fun t => .v (tierD t)), [.l (ds'.map oi)]) ∧ Tiers ts := by
  obtain ⟨n, d1, h1⟩ := pop_ok ds
  obtain ⟨⟨ts, at', d2⟩, h2, hI⟩ := for_inv (tg := .n 3) (body := b__law_tiers_fe28_1) (enc := fun (k : Nat) => O.v (.int (k : Int))) (E := fun (s : List (Int × Int) × Int × List Int) => [.pin (.l (s.2.2.map oi)), .own (.l (s.1.map fun t => .v (tierD t))), .own (.v (.int s.2.1)), .no])
    (fun pre s => TierI pre.length s.1 s.2.1) (all := List.range (1 + n % 4).toNat) (List.range (1 + n % 4).toNat) [] ([], 1, d1) rfl tierI_0 (by
    intro pre k post ⟨ts, at', ds⟩ hall hI
    have hpl : pre.length < 4 := by have := congrArg List.length hall; simp at this; omega
    have hts := hI.len
    obtain ⟨p, z, ds', hb, hz, hp⟩ := tiers2_turn ds k ts at' (by simp only at hts; omega)
    refine ⟨(if at' < 13 then ts ++ [(at', p)] else ts, at' + 1 + z, ds'), _, rfl, hb, ?_⟩
    rw [List.length_append]
    exact tierI_step hI hz hp)
  simp only [List.length_range] at hI
  have hb1 : -4611686018427387904 ≤ 1 + n % 4 := by omega
  have hb2 : 1 + n % 4 < 4611686018427387904 := by omega
  refine ⟨ts, d2, ?_, tierI_end hI (by omega) (by omega)⟩
  simp only [List.map_nil] at h2
  simp [un__law_tiers_fe28, m__law_tiers_fe28, h1, hb1, hb2, h2]
/-- an offer whose lists are one's own -/
def offT : Off → O
  | .pack c p => .t [.v (.str "pack"), .l (c.map oi), oi p]
  | .many c ts => .t [.v (.str "many"), .l (c.map oi), .l (ts.map fun t => .v (tierD t))]
  | .add c p k => .t [.v (.str "add"), .l (c.map oi), oi p, oi k]
@[simp] theorem toD_offT (o : Off) : (offT o).toD = some o.d := by
  cases o <;> simp [offT, Off.d]
@[simp] theorem toDs_offT (sh : List Off) : O.toDs (sh.map offT) = some (sh.map Off.d) := toDs_map toD_offT sh
def packs2L (sh : List Off) : List Int := ((sh.zipIdx 0).filter fun p => p.1.isPack).map fun p => ((p.2 : Nat) : Int)
theorem packs2L_mem {sh : List Off} {x : Int} (h : x ∈ packs2L sh) : 0 ≤ x ∧ x < sh.length ∧ ∃ c p, sh[x.toNat]? = some (.pack c p) := by
  unfold packs2L at h
  obtain ⟨⟨o, k⟩, hk, rfl⟩ := List.mem_map.mp h
  obtain ⟨h1, h2⟩ := List.mem_filter.mp hk
  have h3 := zipIdx_get h1
  simp only at h3 h2
  have hl := (List.getElem?_eq_some_iff.mp h3).1
  refine ⟨by simp only; omega, by simp only; omega, ?_⟩
  cases o with
  | pack c p => exact ⟨c, p, by simpa using h3⟩
  | many c ts => simp at h2
  | add c p k => simp at h2
theorem set2_get {e : En} {i j : Nat} {x y : Sl} (hi : e[i]? = some .no) (hj : e[j]? = some .no) (hij : i ≠ j) : ((e.set i x).set j y)[i]? = some x ∧ ((e.set i x).set j y)[j]? = some y ∧ (∀ k, k ≠ i → k ≠ j → ((e.set i x).set j y)[k]? = e[k]?) ∧ ((((e.set i x).set j y).set j .no).set i .no) = e := by
  have li := (List.getElem?_eq_some_iff.mp hi).1
  have lj := (List.getElem?_eq_some_iff.mp hj).1
  refine ⟨?_, ?_, fun k h1 h2 => ?_, ?_⟩
  · rw [List.getElem?_set_ne (Ne.symm hij), List.getElem?_set_self li]
  · rw [List.getElem?_set_self (by rw [List.length_set]; exact lj)]
  · rw [List.getElem?_set_ne (Ne.symm h2), List.getElem?_set_ne (Ne.symm h1)]
  · rw [List.set_set, List.set_comm _ _ hij.symm, List.set_set, set_self hi, set_self hj]
/-- a comprehension over pairs -/
theorem lc_filter2 {α : Type} {i j : Nat} {mt : MD Bool} {me : MD O} {encA encB f : α → O} {p : α → Bool} {e : En} (hi : e[i]? = some .no) (hj : e[j]? = some .no) (hij : i ≠ j) (xs : List α) (h : ∀ x ∈ xs, ∀ e' : En, e'[i]? = some (.own (encA x)) → e'[j]? = some (.own (encB x)) → (∀ k, k ≠ i → k ≠ j → e'[k]? = e[k]?) → mt e' = some (p x, e') ∧ (p x = true → me e' = some (f x, e'))) :
    lcL (.tp [.n i, .n j]) mt me [i, j] (xs.map fun x => .t [encA x, encB x]) e = some ((xs.filter p).map f, e) := by
  refine lc_filter (enc := fun x => O.t [encA x, encB x]) xs fun x hx => ?_
  obtain ⟨g1, g2, g3, g4⟩ := set2_get (x := .own (encA x)) (y := .own (encB x)) hi hj hij
  obtain ⟨h1, h2⟩ := h x hx _ g1 g2 g3
  have hj2 : (e.set i (.own (encA x)))[j]? = some .no := by rw [List.getElem?_set_ne hij]; exact hj
  refine ⟨(e.set i (.own (encA x))).set j (.own (encB x)), _, (e.set i (.own (encA x))).set j (.own (encB x)), ?_, h1, fun hp => ⟨h2 hp, ?_⟩, fun _ => ?_⟩
  · simp [hi, hj2]
  · show (((e.set i _).set j _).set j .no).set i .no = e
    exact g4
  · show (((e.set i _).set j _).set j .no).set i .no = e
    exact g4
theorem packs2_lc (sh : List Off) (e : En) (h9 : e[9]? = some .no) (h10 : e[10]? = some .no) :
    lcL (.tp [.n 9, .n 10]) ct__law_shop_7fee_1 ce__law_shop_7fee_1 [9, 10] ((sh.zipIdx 0).map fun p => O.t [oi (p.2 : Nat), .v p.1.d]) e = some ((packs2L sh).map oi, e) := by
  rw [packs2L, List.map_map]
  refine lc_filter2 (encA := fun p : Off × Nat => oi (p.2 : Nat)) (encB := fun p => .v p.1.d) h9 h10 (by decide) _ fun p hp e' g1 g2 g3 => ?_
  exact ⟨by simp [ct__law_shop_7fee_1, g2], fun _ => by simp [ce__law_shop_7fee_1, g1]⟩
theorem free_oi (ns : List Int) : (ns.map oi).all O.free = true := by
  rw [List.all_eq_true]
  intro x hx
  obtain ⟨n, _, rfl⟩ := List.mem_map.mp hx
  simp
theorem shop2_turn (ds : List Int) (many most : Int) (hm : 1 ≤ many ∧ many ≤ 4) (k : Nat) (sh : List Off) (hg : Good many.toNat sh) (hl : sh.length ≤ 100) : ∃ (o : Off) (ds' : List Int),
    b__law_shop_7fee_1 [.pin (.l (ds.map oi)), .own (.v (.int many)), .own (.v (.int most)), .own (.l (sh.map offT)), .own (.v (.int (k : Int))), .no, .no, .no, .no, .no, .no] = some (.nx [.pin (.l (ds'.map oi)), .own (.v (.int many)), .own (.v (.int most)), .own (.l ((sh ++ [o]).map offT)), .no, .no, .no, .no, .no, .no, .no]) ∧ GoodO many.toNat sh sh.length o := by
  obtain ⟨n, d1, h1⟩ := pop_ok ds
  obtain ⟨c, d2, h2, hc, hs, -⟩ := content2_ok d1 many 9 hm (by omega)
  obtain ⟨p, d3, h3, hp⟩ := price2_ok d2
  obtain ⟨ts, d4, h4, ht⟩ := tiers2_ok d2
  have hpk := packs2_lc sh
  have hfr := free_oi (packs2L sh)
  have hb3 : sh.length ≤ 16777216 := by omega
  have hb4 : sh.length < 16777216 := by omega
  have henu : enuO 0 (sh.map fun o => O.v o.d) = (sh.zipIdx 0).map fun p => .t [oi (p.2 : Nat), .v p.1.d] := enuO_map _ 0 sh
  by_cases hmany : n % 8 < 2
  · refine ⟨.many c ts, d4, ?_, ⟨hc, hs, ht⟩⟩
    simp [b__law_shop_7fee_1, h1, h2, h4, pkIn_eq, henu, hpk, hfr, hb3, hb4, hmany, offT]
  · by_cases hadd : n % 8 < 4
    · by_cases hne : packs2L sh = []
      · refine ⟨.pack c p, d3, ?_, ⟨hc, hs, hp⟩⟩
        have hfn := fNe_nil (packs2L sh)
        simp [hne] at hfn
        simp [b__law_shop_7fee_1, h1, h2, h3, pkIn_eq, henu, hpk, hfr, hb3, hb4, hadd, hmany, hne, hfn, offT]
      · have hpl : 0 < (packs2L sh).length := List.length_pos_iff.mpr hne
        obtain ⟨x, hx, hx2⟩ := atI_in (packs2L sh) (i := n / 8 % ((packs2L sh).length : Int)) (Int.emod_nonneg _ (by omega)) (Int.emod_lt_of_pos _ (by omega))
        obtain ⟨q1, q2, q3⟩ := packs2L_mem (List.mem_of_getElem? hx2)
        have hmod : fMod [.int (n / 8), .int ((packs2L sh).length : Int)] = some (.int (n / 8 % ((packs2L sh).length : Int))) := fMod_s (by omega)
        refine ⟨.add c p x, d3, ?_, ⟨hc, hs, hp, q1, q2, q3⟩⟩
        simp [b__law_shop_7fee_1, h1, h2, h3, pkIn_eq, henu, hpk, hfr, hb3, hb4, hadd, hmany, hne, hx, hmod, offT]
    · refine ⟨.pack c p, d3, ?_, ⟨hc, hs, hp⟩⟩
      simp [b__law_shop_7fee_1, h1, h2, h3, pkIn_eq, henu, hpk, hfr, hb3, hb4, hadd, hmany, offT]
theorem shop2_ok (ds : List Int) (many most : Int) (hm : 1 ≤ many ∧ many ≤ 4) (hmo : 0 ≤ most ∧ most ≤ 50) : ∃ (sh : List Off) (ds' : List Int), sem__law_shop_7fee [.l (ds.map oi), oi many, oi most] = some (.l (sh.map offT), [.l (ds'.map oi)]) ∧ Good many.toNat sh ∧ sh.length ≤ most.toNat := by
  obtain ⟨n, d1, h1⟩ := pop_ok ds
  have hmod : fMod [.int n, .int (most + 1)] = some (.int (n % (most + 1))) := fMod_s (by omega)
  have hr : 0 ≤ n % (most + 1) ∧ n % (most + 1) < most + 1 := ⟨Int.emod_nonneg _ (by omega), Int.emod_lt_of_pos _ (by omega)⟩
  obtain ⟨⟨sh, d2⟩, h2, hI⟩ := for_inv (tg := .n 4) (body := b__law_shop_7fee_1) (enc := fun (k : Nat) => O.v (.int (k : Int))) (E := fun (s : List Off × List Int) => [.pin (.l (s.2.map oi)), .own (.v (.int many)), .own (.v (.int most)), .own (.l (s.1.map offT)), .no, .no, .no, .no, .no, .no, .no])
    (fun pre s => Good many.toNat s.1 ∧ s.1.length = pre.length) (all := List.range (n % (most + 1)).toNat) (List.range (n % (most + 1)).toNat) [] ([], d1) rfl ⟨fun i o h => by simp at h, rfl⟩ (by
    intro pre k post ⟨sh, ds⟩ hall ⟨hg, hl⟩
    have hpl : pre.length < 51 := by have := congrArg List.length hall; simp at this; omega
    simp only at hg hl
    obtain ⟨o, ds', hb, ho⟩ := shop2_turn ds many most hm k sh hg (by omega)
    exact ⟨(sh ++ [o], ds'), _, rfl, hb, hg.snoc ho, by simp [hl]⟩)
  have hb1 : -4611686018427387904 ≤ n % (most + 1) := by omega
  have hb2 : n % (most + 1) < 4611686018427387904 := by omega
  refine ⟨sh, d2, ?_, hI.1, by have := hI.2; simp at this; omega⟩
  simp only [List.map_nil] at h2
  simp [un__law_shop_7fee, m__law_shop_7fee, h1, hmod, hb1, hb2, h2]
theorem want2_ok (ds : List Int) (many : Int) (hm : 1 ≤ many ∧ many ≤ 4) : ∃ (w ds' : List Int), sem__law_want_c9ae [.l (ds.map oi), oi many] = some (.l (w.map oi), [.l (ds'.map oi)]) ∧ Want many.toNat w ∧ casesI w ≤ 400 := by
  obtain ⟨n0, d1, h1⟩ := pop_ok ds
  obtain ⟨⟨w, n⟩, h2, hI⟩ := for_inv (tg := .n 4) (body := b__law_want_c9ae_1) (enc := fun (k : Nat) => O.v (.int (k : Int))) (E := fun (s : List Int × Int) => [.pin (.l (d1.map oi)), .own (.v (.int many)), .own (.v (.int s.2)), .own (.l (s.1.map oi)), .no])
    (fun pre s => s.1.length = pre.length ∧ ∀ x ∈ s.1, 0 ≤ x ∧ x ≤ 9) (all := List.range many.toNat) (List.range many.toNat) [] ([], n0) rfl ⟨rfl, by simp⟩ (by
    intro pre k post ⟨w, n⟩ hall ⟨hl, hx⟩
    simp only at hl hx
    have hpl : pre.length < 4 := by have := congrArg List.length hall; simp at this; omega
    have hlf : w.length < 16777216 := by omega
    refine ⟨(w ++ [n % 10], n / 10), _, rfl, ?_, by simp [hl], ?_⟩
    · simp [b__law_want_c9ae_1, hlf]
    · intro x hx2
      rcases List.mem_append.mp hx2 with h | h
      · exact hx x h
      · simp at h; subst h; omega)
  simp only at hI
  have hb1 : -4611686018427387904 ≤ many := by omega
  have hb2 : many < 4611686018427387904 := by omega
  have hb3 : many.toNat ≤ 16777216 := by omega
  have hw : Want many.toNat w := ⟨by rw [hI.1]; simp, hI.2⟩
  simp only [List.map_nil] at h2
  obtain ⟨w', c1, c2, c3, -⟩ := cut_ok many.toNat (by omega) w hw
  refine ⟨w', d1, ?_, c2, c3⟩
  simp [un__law_want_c9ae, m__law_want_c9ae, h1, hb1, hb2, hb3, h2, c1]
theorem pick8 (n : Int) : ∃ y : Int, atI [oi 1, oi 2, oi 2, oi 3, oi 2, oi 3, oi 1, oi 4] (n % 8) = some (oi y) ∧ 1 ≤ y ∧ y ≤ 4 := by
  obtain ⟨x, hx, hx2⟩ := atI_in [(1 : Int), 2, 2, 3, 2, 3, 1, 4] (i := n % 8) (by omega) (by simp; omega)
  have hm := List.mem_of_getElem? hx2
  have hx' := congrArg (Option.map oi) hx
  rw [← atI_map] at hx'
  exact ⟨x, hx', by simp at hm; omega⟩
theorem case2_ok (ns : List Int) (hl : ns.length ≤ 63) (t : Int) (ht : 0 ≤ t ∧ t ≤ 1000) : ∃ (m : Int) (sh : List Off) (w ds : List Int), sem__law_case_2562 [.s ns, oi t] = some (.t [oi m, .l (sh.map offT), .l (w.map oi), .l (ds.map oi)], []) ∧ 1 ≤ m ∧ m ≤ 4 ∧ Good m.toNat sh ∧ sh.length ≤ 8 ∧ Want m.toNat w ∧ casesI w ≤ 400 := by
  obtain ⟨d0, h0⟩ := draws2_ok ns hl 1 t (by omega) ht
  obtain ⟨n, d1, h1⟩ := pop_ok d0
  obtain ⟨m, hm, hm1⟩ := pick8 n
  obtain ⟨sh, d2, h2, hg, hs⟩ := shop2_ok d1 m 8 hm1 (by omega)
  obtain ⟨w, d3, h3, hw, hc⟩ := want2_ok d2 m hm1
  refine ⟨m, sh, w, d3, ?_, hm1.1, hm1.2, hg, by simpa using hs, hw, hc⟩
  simp only [oi] at hm
  simp [un__law_case_2562, m__law_case_2562, h0, h1, hm, h2, h3]
end Dn

set_option Elab.async false
set_option linter.all false
set_option maxRecDepth 100000
set_option maxHeartbeats 4000000
namespace Dn
open PySem L2
/-! the law's groups of adds are the choices -/
def grpS (p : Int) (g : List (List Int)) : List (List Int) := g.take 1 ++ g.map (p :: ·) ++ g.drop 1
def groupsL (ps : List Int) : List (List Int) := ps.foldr grpS [[]]
theorem groupsL_head : ∀ ps : List Int, ∃ r, groupsL ps = [] :: r ∧ ∀ x ∈ r, x ≠ []
  | [] => ⟨[], rfl, by simp⟩
  | p :: ps => by
    obtain ⟨r, h, hr⟩ := groupsL_head ps
    refine ⟨([] :: r).map (p :: ·) ++ r, ?_, fun x hx => ?_⟩
    · show grpS p (groupsL ps) = _
      rw [h]
      rfl
    · rcases List.mem_append.mp hx with hx | hx
      · obtain ⟨y, _, rfl⟩ := List.mem_map.mp hx
        simp
      · exact hr x hx
theorem groupsL_cons (p : Int) (ps : List Int) : groupsL (p :: ps) = [] :: ((groupsL ps).map (p :: ·) ++ (groupsL ps).tail) := by
  obtain ⟨r, h, _⟩ := groupsL_head ps
  show grpS p (groupsL ps) = _
  rw [h]
  rfl
theorem groupsL_mem : ∀ (ps x : List Int), x ∈ groupsL ps ↔ x.Sublist ps
  | [], x => by simp [groupsL]
  | p :: ps, x => by
    have ih := groupsL_mem ps
    obtain ⟨r, h, hr⟩ := groupsL_head ps
    rw [groupsL_cons]
    constructor
    · intro hx
      rcases List.mem_cons.mp hx with rfl | hx
      · exact List.nil_sublist _
      · rcases List.mem_append.mp hx with hx | hx
        · obtain ⟨y, hy, rfl⟩ := List.mem_map.mp hx
          exact ((ih y).mp hy).cons_cons p
        · exact ((ih x).mp (List.mem_of_mem_tail hx)).cons p
    · intro hx
      cases hx with
      | cons _ hs =>
        by_cases e : x = []
        · rw [e]; exact List.mem_cons_self ..
        · have := (ih x).mpr hs
          rw [h] at this
          rcases List.mem_cons.mp this with z | z
          · exact absurd z e
          · refine List.mem_cons_of_mem _ (List.mem_append_right _ ?_)
            rw [h]; exact z
      | cons_cons _ hs => exact List.mem_cons_of_mem _ (List.mem_append_left _ (List.mem_map.mpr ⟨_, (ih _).mpr hs, rfl⟩))
theorem groupsL_strict : ∀ (ps : List Int), ps.Pairwise (· < ·) → (groupsL ps).Pairwise fun a b => lexI a b = true
  | [], _ => by simp [groupsL]
  | p :: ps, hp => by
    rw [List.pairwise_cons] at hp
    have ih := groupsL_strict ps hp.2
    obtain ⟨r, h, hr⟩ := groupsL_head ps
    rw [groupsL_cons, List.pairwise_cons]
    refine ⟨fun x hx => ?_, ?_⟩
    · have : x ≠ [] := by
        rcases List.mem_append.mp hx with hx | hx
        · obtain ⟨y, _, rfl⟩ := List.mem_map.mp hx
          simp
        · rw [h] at hx; exact hr x hx
      cases x with
      | nil => exact absurd rfl this
      | cons a x => rfl
    · rw [List.pairwise_append]
      refine ⟨?_, ?_, fun x hx y hy => ?_⟩
      · rw [List.pairwise_map]
        exact ih.imp fun {a b} hab => by simp [lexI, hab]
      · rw [h] at ih ⊢
        exact (List.pairwise_cons.mp ih).2
      · obtain ⟨x', _, rfl⟩ := List.mem_map.mp hx
        rw [h] at hy
        have hy' : y ∈ r := hy
        have hsub := (groupsL_mem ps y).mp (by rw [h]; exact List.mem_cons_of_mem _ hy')
        cases y with
        | nil => exact absurd rfl (hr _ hy')
        | cons q y =>
          have hq : q ∈ ps := hsub.subset (List.mem_cons_self ..)
          have hlt := hp.1 q hq
          have hne : ¬ p = q := by omega
          simp [lexI, hne, hlt]
theorem dbl_mem : ∀ (ps : List Int) (rows : List (List Int)) (x : List Int), x ∈ ps.foldl dblL rows ↔ ∃ r ∈ rows, ∃ s, s.Sublist ps ∧ x = r ++ s
  | [], rows, x => by simp
  | p :: ps, rows, x => by
    rw [List.foldl_cons, dbl_mem ps]
    constructor
    · rintro ⟨r, hr, s, hs, rfl⟩
      rcases List.mem_append.mp (show r ∈ rows ++ rows.map (· ++ [p]) from hr) with hr | hr
      · exact ⟨r, hr, s, hs.cons p, rfl⟩
      · obtain ⟨r', hr', rfl⟩ := List.mem_map.mp hr
        exact ⟨r', hr', p :: s, hs.cons_cons p, by simp⟩
    · rintro ⟨r, hr, s, hs, rfl⟩
      cases hs with
      | cons _ hs => exact ⟨r, List.mem_append_left _ hr, s, hs, rfl⟩
      | cons_cons _ hs => exact ⟨r ++ [p], List.mem_append_right _ (List.mem_map.mpr ⟨r, hr, rfl⟩), _, hs, by simp⟩
theorem eq_of_strict {α : Type} {lt : α → α → Prop} (hirr : ∀ a, ¬ lt a a) (hasym : ∀ a b, lt a b → ¬ lt b a) : ∀ (a b : List α), a.Pairwise lt → b.Pairwise lt → (∀ x, x ∈ a ↔ x ∈ b) → a = b
  | [], [], _, _, _ => rfl
  | [], y :: b, _, _, h => by have := (h y).mpr (List.mem_cons_self ..); simp at this
  | x :: a, [], _, _, h => by have := (h x).mp (List.mem_cons_self ..); simp at this
  | x :: a, y :: b, ha, hb, h => by
    rw [List.pairwise_cons] at ha hb
    have e : x = y := by
      rcases List.mem_cons.mp ((h x).mp (List.mem_cons_self ..)) with e | hx
      · exact e
      · rcases List.mem_cons.mp ((h y).mpr (List.mem_cons_self ..)) with e | hy
        · exact e.symm
        · exact absurd (hb.1 x hx) (hasym _ _ (ha.1 y hy))
    subst e
    congr 1
    refine eq_of_strict hirr hasym a b ha.2 hb.2 fun z => ⟨fun hz => ?_, fun hz => ?_⟩
    · rcases List.mem_cons.mp ((h z).mp (List.mem_cons_of_mem _ hz)) with e | hz2
      · subst e; exact absurd (ha.1 _ hz) (hirr _)
      · exact hz2
    · rcases List.mem_cons.mp ((h z).mpr (List.mem_cons_of_mem _ hz)) with e | hz2
      · subst e; exact absurd (hb.1 _ hz) (hirr _)
      · exact hz2
theorem groups_choices {ps : List Int} (h : ps.Pairwise (· < ·)) : groupsL ps = choicesL ps := by
  have hnd : ps.Nodup := h.imp fun {a b} hab => by omega
  refine eq_of_strict (lt := fun a b => lexI a b = true) (fun a => by rw [lexI_irrefl]; exact Bool.false_ne_true) (fun a b hab => by rw [lexI_asymm _ _ hab]; exact Bool.false_ne_true) _ _ (groupsL_strict ps h) (choicesL_strict hnd) fun x => ?_
  rw [groupsL_mem]
  unfold choicesL
  rw [(sortRows_perm _).mem_iff, dbl_mem]
  simp
theorem addsL_up (sh : List Off) (i : Int) : (addsL sh i).Pairwise (· < ·) := by
  unfold addsL
  rw [List.pairwise_map]
  exact List.Pairwise.imp (fun {a b} h => by omega) ((zipIdx_pair sh 0).sublist List.filter_sublist)
/-! a slot that holds data in whatever form -/
theorem mVar_toD {e : En} {i : Nat} {x : O} {d : PyData} (h : e[i]? = some (.own x)) (hd : x.toD = some d) : mVar i e = some (.v d, e.set i (.own (.v d))) := by
  cases x with
  | v d' =>
    have : d' = d := by simpa using hd
    subst this
    rw [mVar_ap, h]
    simp only
    rw [set_self h]
  | s ns => simp [O.toD] at hd
  | l xs => rw [mVar_ap, h]; simp only; rw [hd]
  | t xs => rw [mVar_ap, h]; simp only; rw [hd]
  | fx u => simp [O.toD] at hd
  | dk u => simp [O.toD] at hd
  | dt u => simp [O.toD] at hd
  | ob a b c => simp [O.toD] at hd
theorem frzS_toD {x : O} {d : PyData} (hd : x.toD = some d) : frzS (.own x) = .own (.v d) := by
  show (match x.toD with | some d => Sl.own (O.v d) | none => Sl.own x) = _
  rw [hd]
theorem groups_turn (s0 s3 : Sl) (p : Int) (x : O) (rows : List (List Int)) (hx : x.toD = some (.list (rows.map rowD))) (hl : rows.length ≤ 100000) (hr : ∀ r ∈ rows, r.length ≤ 1000) : ∃ x' : O,
    b__law_groups_1 [s0, .own x, .own (.v (.int p)), .no] = some (.nx [s0, .own x', .no, .no]) ∧ x'.toD = some (.list ((grpS p rows).map rowD)) := by
  have hv := fun (e : En) (h : e[1]? = some (.own x)) => mVar_toD h hx
  have hlc : ∀ e : En, e[2]? = some (.own (.v (.int p))) → e[3]? = some .no → lcL (.n 3) mYes ce__law_groups_1 [3] (rows.map fun r => O.v (rowD r)) e = some (rows.map (fun r => rowO (p :: r)), e) := fun e h2 h3 => by
    refine lc_map1 h3 _ fun r hr2 e' g1 g2 => ?_
    have hb : 1 + r.length ≤ 16777216 := by have := hr r hr2; omega
    have hb' : r.length + 1 ≤ 16777216 := by omega
    simp [ce__law_groups_1, g1, g2, h2, hb, hb']
  have c1 : cutG (rows.map fun r => O.v (rowD r)) none (some 1) = (rows.take 1).map fun r => O.v (rowD r) := by rw [cutG_map1]; exact congrArg _ (cutG_take _ 1)
  have c2 : cutG (rows.map fun r => O.v (rowD r)) (some 1) none = (rows.drop 1).map fun r => O.v (rowD r) := by rw [cutG_map1]; exact congrArg _ (cutG_drop _ 1)
  refine ⟨.l ((rows.take 1).map (fun r => O.v (rowD r)) ++ rows.map (fun r => rowO (p :: r)) ++ (rows.drop 1).map fun r => O.v (rowD r)), ?_, ?_⟩
  · have hv1 : mVar 1 [s0, .own x, .own (.v (.int p)), .no] = some (.v (.list (rows.map rowD)), [s0, .own (.v (.list (rows.map rowD))), .own (.v (.int p)), .no]) := hv _ rfl
    have hb1 : rows.length ≤ 16777216 := by omega
    have hb2 : (rows.take 1).length + rows.length ≤ 16777216 := by rw [List.length_take]; omega
    have hb3 : (rows.take 1).length + rows.length + (rows.drop 1).length ≤ 16777216 := by rw [List.length_take, List.length_drop]; omega
    generalize rows.take 1 = ta at c1 hb2 hb3 ⊢
    generalize rows.drop 1 = tb at c2 hb3 ⊢
    simp [b__law_groups_1, hv1, c1, c2, hlc, hb1, hb2, hb3, -mVar_ap]
    simp [hlc, c2, hb1, hb2, hb3]
  · have e1 : O.toDs ((rows.take 1).map fun r => O.v (rowD r)) = some ((rows.take 1).map rowD) := toDs_mapv _ _
    have e2 : O.toDs (rows.map fun r => rowO (p :: r)) = some (rows.map fun r => rowD (p :: r)) := toDs_map (f := fun r : List Int => rowO (p :: r)) (g := fun r => rowD (p :: r)) (fun r => by simp) rows
    have e3 : O.toDs ((rows.drop 1).map fun r => O.v (rowD r)) = some ((rows.drop 1).map rowD) := toDs_mapv _ _
    rw [toD_l, toDs_append, toDs_append, e1, e2, e3]
    simp only [Option.map_some, grpS, List.map_append, List.map_map]
    rfl
theorem groups_ok (ps : List Int) (hl : ps.length ≤ 10) : ∃ x : O, sem__law_groups [.v (.list (ps.map .int))] = some (x, []) ∧ x.toD = some (.list ((groupsL ps).map rowD)) := by
  have glen : ∀ qs : List Int, (groupsL qs).length = 2 ^ qs.length := by
    intro qs
    induction qs with
    | nil => rfl
    | cons q qs ih =>
      rw [groupsL_cons]
      have h1 : 1 ≤ (groupsL qs).length := by rw [ih]; exact Nat.two_pow_pos _
      simp only [List.length_cons, List.length_append, List.length_map, List.length_tail]
      rw [Nat.pow_succ, ← ih]
      omega
  obtain ⟨⟨x, rows⟩, h, hI⟩ := for_inv (tg := .n 2) (body := b__law_groups_1) (enc := fun (n : Int) => O.v (.int n)) (E := fun (s : O × List (List Int)) => [.own (.v (.list (ps.map .int))), .own s.1, .no, .no])
    (fun pre s => s.1.toD = some (.list (s.2.map rowD)) ∧ s.2 = groupsL pre.reverse) (all := ps.reverse) ps.reverse [] (.l [.l []], [[]]) rfl ⟨by simp, rfl⟩ (by
    intro pre p post ⟨x, rows⟩ hall ⟨h1, h2⟩
    simp only at h1 h2
    have hpl : pre.length < 10 := by have := congrArg List.length hall; simp at this; omega
    have hrl : rows.length ≤ 1024 := by
      rw [h2, glen, List.length_reverse]
      exact Nat.le_trans (Nat.pow_le_pow_right (by decide) (show pre.length ≤ 10 by omega)) (by decide)
    obtain ⟨x', g1, g2⟩ := groups_turn (.own (.v (.list (ps.map .int)))) .no p x rows h1 (by omega) (fun r hr => by
      rw [h2] at hr
      have := ((groupsL_mem _ _).mp hr).length_le
      simp at this; omega)
    refine ⟨(x', grpS p rows), _, rfl, g1, g2, ?_⟩
    simp only [List.reverse_append, List.reverse_cons, List.reverse_nil, List.nil_append, List.singleton_append]
    rw [h2]
    rfl)
  simp only [List.reverse_reverse] at hI
  refine ⟨x, ?_, by rw [hI.1, hI.2]⟩
  rw [List.map_reverse] at h
  have hb : ps.length ≤ 16777216 := by omega
  simp at h
  simp [un__law_groups, m__law_groups, h, hb]
end Dn

set_option Elab.async false
set_option linter.all false
set_option maxRecDepth 100000
set_option maxHeartbeats 4000000
namespace Dn
open PySem L2
/-! wares: lines with contents and prices -/
abbrev Wr := Ln × List Int × Int
def wareD (x : Wr) : PyData := .tuple [lineD x.1, rowD x.2.1, .int x.2.2]
def wareOf (sh : List Off) (l : Ln) : Wr := (l, lcont sh l, lprice sh l)
def waresL (sh : List Off) : List Wr := (linesL sh).map (wareOf sh)
theorem scaleL_1 (c : List Int) : scaleL 1 c = c := by
  unfold scaleL
  induction c with
  | nil => rfl
  | cons x c ih => simp
/-- the content and price of a pack with adds -/
theorem ll_adds (n : Nat) (hn : n ≤ 4) (sh : List Off) (hg : Good n sh) (adds : List Int) (ha : ∀ a ∈ adds, ∃ c p k, atI sh a = some (.add c p k)) (c0 : List Int) (p0 : Int) (hc : c0.length = n) (s1 s2 s3 s4 s5 s6 s10 s11 s12 : Sl) :
    forL (.n 9) b__law_lines_9070_1 (adds.map fun n => O.v (.int n)) [.own (.v (shopD sh)), s1, s2, s3, s4, s5, s6, .own (.v (.list (c0.map .int))), .own (.v (.int p0)), .no, s10, s11, s12]
     = some (.nx [.own (.v (shopD sh)), s1, s2, s3, s4, s5, s6, .own (.v (.list ((adds.foldl (fun f a => sumL f (cAt sh a)) c0).map .int))), .own (.v (.int (p0 + (adds.map (pAt sh)).sum))), .no, s10, s11, s12]) := by
  obtain ⟨⟨f, q⟩, h, h1, h2, -⟩ := for_inv (tg := .n 9) (body := b__law_lines_9070_1) (enc := fun (n : Int) => O.v (.int n)) (E := fun (s : List Int × Int) => [.own (.v (shopD sh)), s1, s2, s3, s4, s5, s6, .own (.v (.list (s.1.map .int))), .own (.v (.int s.2)), .no, s10, s11, s12])
    (fun pre s => s.1 = pre.foldl (fun f a => sumL f (cAt sh a)) c0 ∧ s.2 = p0 + (pre.map (pAt sh)).sum ∧ s.1.length = n) (all := adds) adds [] (c0, p0) rfl ⟨rfl, by simp, hc⟩ (by
    intro pre a post ⟨f, q⟩ hall ⟨h1, h2, h3⟩
    simp only at h1 h2 h3
    obtain ⟨ca, pa, ka, haa⟩ := ha a (by rw [hall]; simp)
    have hca : cAt sh a = ca := by unfold cAt; rw [haa]; rfl
    have hpa : pAt sh a = pa := by unfold pAt; rw [haa]
    have hcal := cAt_len hg haa
    rw [hca] at hcal
    have hp := lsum_ok f ca (by omega) (by omega)
    refine ⟨(sumL f (cAt sh a), q + pa), _, rfl, ?_, ?_, ?_, ?_⟩
    · rw [hca]
      simp [b__law_lines_9070_1, haa, hp, Off.c]
    · rw [h1, List.foldl_append]; rfl
    · rw [h2, List.map_append, List.sum_append]; simp [hpa]; omega
    · simp only; rw [sumL_len, hca]; omega)
  simp only at h1 h2
  rw [← h1, ← h2]
  exact h
theorem ll_pack (n : Nat) (hn : n ≤ 4) (sh : List Off) (hg : Good n sh) (i : Nat) (c : List Int) (p : Int) (ho : sh[i]? = some (.pack c p)) (as : List (List Int)) (has : ∀ a ∈ as, ∀ x ∈ a, ∃ c p k, atI sh x = some (.add c p k)) (acc : List Wr) (hl : acc.length + as.length ≤ 100000) (s4 s6 s10 s11 s12 : Sl) :
    forL (.n 5) b__law_lines_9070_2 (as.map fun a => O.v (rowD a)) [.own (.v (shopD sh)), .own (.l (acc.map fun w => .v (wareD w))), .own (.v (.int (i : Int))), .own (.v (Off.pack c p).d), s4, .no, s6, .no, .no, .no, s10, s11, s12]
     = some (.nx [.own (.v (shopD sh)), .own (.l ((acc ++ as.map fun a => wareOf sh ((i : Int), 1, a)).map fun w => .v (wareD w))), .own (.v (.int (i : Int))), .own (.v (Off.pack c p).d), s4, .no, s6, .no, .no, .no, s10, s11, s12]) := by
  have hgo := hg i _ ho
  have hat : atI sh (i : Int) = some (.pack c p) := atI_nat rfl ho
  obtain ⟨acc', h, hI⟩ := for_inv (tg := .n 5) (body := b__law_lines_9070_2) (enc := fun (a : List Int) => O.v (rowD a)) (E := fun (acc : List Wr) => [.own (.v (shopD sh)), .own (.l (acc.map fun w => .v (wareD w))), .own (.v (.int (i : Int))), .own (.v (Off.pack c p).d), s4, .no, s6, .no, .no, .no, s10, s11, s12])
    (fun pre a => a = acc ++ pre.map fun a => wareOf sh ((i : Int), 1, a)) (all := as) as [] acc rfl (by simp) (by
    intro pre a post ac hall hI
    have hpl : pre.length < as.length := by rw [hall]; simp
    have hal : ac.length < 16777216 := by rw [hI]; simp; omega
    have hA := ll_adds n hn sh hg a (has a (by rw [hall]; simp)) c p (by have := hgo.w.len; exact this) (.own (.l (ac.map fun w => .v (wareD w)))) (.own (.v (.int (i : Int)))) (.own (.v (Off.pack c p).d)) s4 (.own (.v (rowD a))) s6 s10 s11 s12
    have hw : wareOf sh ((i : Int), 1, a) = (((i : Int), 1, a), a.foldl (fun f a => sumL f (cAt sh a)) c, p + (a.map (pAt sh)).sum) := by
      unfold wareOf lcont lprice cAt
      simp only [hat, Off.c, scaleL_1]
    refine ⟨ac ++ [wareOf sh ((i : Int), 1, a)], _, rfl, ?_, by rw [hI]; simp⟩
    rw [hw]
    generalize hX : a.foldl (fun f a => sumL f (cAt sh a)) c = X at hA
    generalize hY : (a.map (pAt sh)).sum = Y at hA
    have hd1 : ixO [.v (Off.pack c p).d, .v (.int 1)] = some (.list (c.map .int)) := by simp [Off.d]
    have hal' : (ac.map fun w => O.v (wareD w)).length < 16777216 := by rw [List.length_map]; exact hal
    rw [List.map_append]
    generalize (ac.map fun w => O.v (wareD w)) = A at *
    simp [b__law_lines_9070_2, hd1, hA, hal', wareD, lineD])
  rw [hI] at h
  exact h
theorem ll_many (n : Nat) (hn : n ≤ 4) (sh : List Off) (hg : Good n sh) (i : Nat) (c : List Int) (ts : List (Int × Int)) (ho : sh[i]? = some (.many c ts)) (acc : List Wr) (hl : acc.length ≤ 100000) (s4 s5 s7 s9 s10 : Sl) :
    forL (.n 6) b__law_lines_9070_3 (counts12.map fun a => O.v (.int a)) [.own (.v (shopD sh)), .own (.l (acc.map fun w => .v (wareD w))), .own (.v (.int (i : Int))), .own (.v (Off.many c ts).d), s4, s5, .no, s7, .no, s9, s10, .no, .no]
     = some (.nx [.own (.v (shopD sh)), .own (.l ((acc ++ counts12.map fun k => wareOf sh ((i : Int), k, [])).map fun w => .v (wareD w))), .own (.v (.int (i : Int))), .own (.v (Off.many c ts).d), s4, s5, .no, s7, .no, s9, s10, .no, .no]) := by
  have hgo := hg i _ ho
  have ht : Tiers ts := hgo.kind
  have hat : atI sh (i : Int) = some (.many c ts) := atI_nat rfl ho
  obtain ⟨acc', h, hI⟩ := for_inv (tg := .n 6) (body := b__law_lines_9070_3) (enc := fun (a : Int) => O.v (.int a)) (E := fun (acc : List Wr) => [.own (.v (shopD sh)), .own (.l (acc.map fun w => .v (wareD w))), .own (.v (.int (i : Int))), .own (.v (Off.many c ts).d), s4, s5, .no, s7, .no, s9, s10, .no, .no])
    (fun pre a => a = acc ++ pre.map fun k => wareOf sh ((i : Int), k, [])) (all := counts12) counts12 [] acc rfl (by simp) (by
    intro pre k post ac hall hI
    have hkm : k ∈ counts12 := by rw [hall]; simp
    have hk : 1 ≤ k ∧ k ≤ 12 := by simp [counts12] at hkm; omega
    have hpl : pre.length < 12 := by have := congrArg List.length hall; simp [counts12] at this; omega
    have hal : ac.length < 16777216 := by rw [hI]; simp; omega
    have hlc : ∀ e : En, e[6]? = some (.own (.v (.int k))) → e[12]? = some .no → lcL (.n 12) ct__law_lines_9070_2 ce__law_lines_9070_2 [12] (ts.map fun t => O.v (tierD t)) e = some ((((ts.filter fun t => decide (t.1 ≤ k)).map (·.2))).map oi, e) := fun e h6 h12 => by
      rw [List.map_map]
      refine lc_filter1 h12 _ fun t _ e' g1 g2 => ?_
      exact ⟨by simp [ct__law_lines_9070_2, g1, g2, h6, tierD], fun _ => by simp [ce__law_lines_9070_2, g1, tierD]⟩
    have hne : ((ts.filter fun t => decide (t.1 ≤ k)).map (·.2)) ≠ [] := by
      obtain ⟨t, r, rfl⟩ : ∃ t r, ts = t :: r := by
        cases ts with
        | nil => have := ht.len.1; simp at this
        | cons t r => exact ⟨t, r, rfl⟩
      have h1 : t.1 = 1 := by have := ht.one; simpa using this
      have : t.1 ≤ k := by omega
      simp [this]
    obtain ⟨u, z, hz⟩ : ∃ u z, ((ts.filter fun t => decide (t.1 ≤ k)).map (·.2)) = u ++ [z] := ⟨_, _, (List.dropLast_concat_getLast hne).symm⟩
    have htp : tierP ts k = z := by
      unfold tierP
      rw [hz]
      simp
    have hlc' : ∀ e : En, e[6]? = some (.own (.v (.int k))) → e[12]? = some .no → lcL (.n 12) ct__law_lines_9070_2 ce__law_lines_9070_2 [12] (ts.map fun t => O.v (tierD t)) e = some (u.map oi ++ [oi z], e) := fun e h6 h12 => by
      rw [hlc e h6 h12, hz, List.map_append]; rfl
    have hat2 : atI (u.map oi ++ [oi z]) (-1) = some (oi z) := atI_last _ _
    have hcl : ∀ e : En, e[6]? = some (.own (.v (.int k))) → e[11]? = some .no → lcL (.n 11) mYes ce__law_lines_9070_3 [11] (c.map fun n => O.v (.int n)) e = some ((scaleL k c).map oi, e) := fun e h6 h11 => by
      rw [scaleL, List.map_map]
      refine lc_map1 h11 _ fun x _ e' g1 g2 => ?_
      have b1 : -18446744073709551616 < k := by omega
      have b2 : k < 18446744073709551616 := by omega
      simp [ce__law_lines_9070_3, g1, g2, h6, b1, b2]
    have hw : wareOf sh ((i : Int), k, []) = (((i : Int), k, []), scaleL k c, k * z) := by
      unfold wareOf lcont lprice cAt
      simp only [hat, Off.c, htp]
      rfl
    refine ⟨ac ++ [wareOf sh ((i : Int), k, [])], _, rfl, ?_, by rw [hI]; simp⟩
    rw [hw]
    have b1 : -18446744073709551616 < k := by omega
    have b2 : k < 18446744073709551616 := by omega
    have hcb : c.length ≤ 16777216 := by have : c.length = n := hgo.w.len; omega
    have htb : ts.length ≤ 16777216 := by have := ht.len.2; omega
    have hd1 : ixO [.v (Off.many c ts).d, .v (.int 1)] = some (.list (c.map .int)) := by simp [Off.d]
    have hal' : (ac.map fun w => O.v (wareD w)).length < 16777216 := by rw [List.length_map]; exact hal
    rw [List.map_append]
    generalize (ac.map fun w => O.v (wareD w)) = A at *
    simp [b__law_lines_9070_3, hlc', hat2, hd1, hcl, b1, b2, hal', hcb, htb, wareD, lineD])
  rw [hI] at h
  exact h
theorem ll_own (sh : List Off) (i : Int) (e : En) (h2 : e[2]? = some (.own (.v (.int i)))) (h10 : e[10]? = some .no) (h11 : e[11]? = some .no) :
    lcL (.tp [.n 10, .n 11]) ct__law_lines_9070_1 ce__law_lines_9070_1 [10, 11] ((sh.zipIdx 0).map fun p => O.t [oi (p.2 : Nat), .v p.1.d]) e = some ((addsL sh i).map oi, e) := by
  rw [addsL, List.map_map]
  refine lc_filter2 (encA := fun p : Off × Nat => oi (p.2 : Nat)) (encB := fun p => .v p.1.d) h10 h11 (by decide) _ fun p hp e' g1 g2 g3 => ?_
  refine ⟨?_, fun _ => by simp [ce__law_lines_9070_1, g1]⟩
  have g3' := g3 2 (by decide) (by decide)
  rw [h2] at g3'
  obtain ⟨o, k⟩ := p
  cases o with
  | pack c p => simp [ct__law_lines_9070_1, g2, g3', isAddOf]
  | many c ts => simp [ct__law_lines_9070_1, g2, g3', isAddOf]
  | add c p k => simp [ct__law_lines_9070_1, g2, g3', isAddOf]
theorem ll_turn (n : Nat) (hn : n ≤ 4) (sh : List Off) (hg : Good n sh) (hs : sh.length ≤ 10) (acc : List Wr) (ha : acc.length ≤ 50000) (i : Nat) (o : Off) (ho : sh[i]? = some o) :
    b__law_lines_9070_4 [.own (.v (shopD sh)), .own (.l (acc.map fun w => .v (wareD w))), .own (.v (.int (i : Int))), .own (.v o.d), .no, .no, .no, .no, .no, .no, .no, .no, .no]
     = some (.nx [.own (.v (shopD sh)), .own (.l ((acc ++ (linesAt sh i o).map (wareOf sh)).map fun w => .v (wareD w))), .no, .no, .no, .no, .no, .no, .no, .no, .no, .no, .no]) := by
  have henu : enuO 0 (sh.map fun o => O.v o.d) = (sh.zipIdx 0).map fun p => .t [oi (p.2 : Nat), .v p.1.d] := enuO_map _ 0 sh
  have hb : sh.length ≤ 16777216 := by omega
  cases o with
  | pack c p =>
    have hown := ll_own sh (i : Int)
    have hal := addsL_len sh (i : Int)
    obtain ⟨x, gx, gd⟩ := groups_ok (addsL sh (i : Int)) (by omega)
    rw [groups_choices (addsL_up sh (i : Int))] at gd
    have hcl : (choicesL (addsL sh (i : Int))).length ≤ 1024 := by
      rw [choicesL_len]
      exact Nat.le_trans (Nat.pow_le_pow_right (by decide) (show _ ≤ 10 by omega)) (by decide)
    have hP := fun s4 s6 s10 s11 s12 => ll_pack n hn sh hg i c p ho (choicesL (addsL sh (i : Int))) (fun a hm x hx => by
      obtain ⟨c', p', h'⟩ := addsL_mem ((choicesL_mem hm).subset hx)
      exact ⟨c', p', _, h'⟩) acc (by omega) s4 s6 s10 s11 s12
    have hll : linesAt sh i (.pack c p) = (choicesL (addsL sh (i : Int))).map fun a => ((i : Int), 1, a) := rfl
    rw [hll, List.map_map]
    have e0 : (wareOf sh ∘ fun a => ((i : Int), (1 : Int), a)) = fun a => wareOf sh ((i : Int), 1, a) := rfl
    rw [e0]
    generalize choicesL (addsL sh (i : Int)) = cs at *
    simp [b__law_lines_9070_4, henu, hown, hb, gx, gd, hP]
  | many c ts =>
    have hM := fun s4 s5 s7 s9 s10 => ll_many n hn sh hg i c ts ho acc (by omega) s4 s5 s7 s9 s10
    have hll : linesAt sh i (.many c ts) = counts12.map fun a => ((i : Int), a, []) := rfl
    rw [hll, List.map_map]
    have e0 : (wareOf sh ∘ fun a => ((i : Int), a, ([] : List Int))) = fun a => wareOf sh ((i : Int), a, []) := rfl
    rw [e0]
    simp [b__law_lines_9070_4, rng12, hM]
  | add c p k =>
    simp [b__law_lines_9070_4, linesAt]
theorem lwares_ok (n : Nat) (hn : n ≤ 4) (sh : List Off) (hg : Good n sh) (hs : sh.length ≤ 10) : sem__law_lines_9070 [.v (shopD sh)] = some (.l ((waresL sh).map fun w => .v (wareD w)), []) := by
  have henu : enuO 0 (sh.map fun o => O.v o.d) = (sh.zipIdx 0).map fun p => .t [oi (p.2 : Nat), .v p.1.d] := enuO_map _ 0 sh
  obtain ⟨acc, h, hI, -⟩ := for_inv (tg := .tp [.n 2, .n 3]) (body := b__law_lines_9070_4) (enc := fun (p : Off × Nat) => O.t [oi (p.2 : Nat), .v p.1.d]) (E := fun (acc : List Wr) => [.own (.v (shopD sh)), .own (.l (acc.map fun w => .v (wareD w))), .no, .no, .no, .no, .no, .no, .no, .no, .no, .no, .no])
    (fun pre acc => acc = (pre.flatMap fun p => (linesAt sh p.2 p.1).map (wareOf sh)) ∧ acc.length ≤ 1024 * pre.length) (all := sh.zipIdx 0) (sh.zipIdx 0) [] [] rfl ⟨rfl, by simp⟩ (by
    intro pre p post acc hall ⟨h1, h2⟩
    have hp : p ∈ sh.zipIdx 0 := by rw [hall]; simp
    have hpl : pre.length < 10 := by have := congrArg List.length hall; simp at this; omega
    have := ll_turn n hn sh hg hs acc (by omega) p.2 p.1 (zipIdx_get hp)
    refine ⟨acc ++ (linesAt sh p.2 p.1).map (wareOf sh), _, rfl, this, ?_, ?_⟩
    · rw [h1, List.flatMap_append]; simp
    · have h3 := linesAt_len sh hs p.2 p.1
      rw [List.length_append, List.length_append, List.length_map, List.length_singleton]; omega)
  have hw : waresL sh = acc := by
    rw [hI, waresL, linesL, List.map_flatMap]
  rw [hw]
  have hb : sh.length ≤ 16777216 := by omega
  simp only [List.map_nil] at h
  simp [un__law_lines_9070, m__law_lines_9070, henu, h]
theorem linesL_len (sh : List Off) (hs : sh.length ≤ 10) : (linesL sh).length ≤ 10240 := by
  unfold linesL
  rw [List.length_flatMap]
  have : ∀ (z : List (Off × Nat)), (z.map fun p => (linesAt sh p.2 p.1).length).sum ≤ 1024 * z.length := fun z => by
    induction z with
    | nil => simp
    | cons p z ih =>
      have := linesAt_len sh hs p.2 p.1
      simp at ih ⊢; omega
  have h2 := this (sh.zipIdx 0)
  simp at h2
  have h3 : 1024 * sh.length ≤ 10240 := by omega
  exact Nat.le_trans h2 h3
theorem goods_ok (n : Nat) (hn : n ≤ 4) (sh : List Off) (hg : Good n sh) (hs : sh.length ≤ 10) : ∃ x : O, sem_goods [.v (shopD sh)] = some (x, []) ∧ x.toD = some (.list ((waresL sh).map wareD)) := by
  have h4 := lines_ok n sh hg hs
  have hlen := linesL_len sh hs
  have hlc : ∀ e : En, e[0]? = some (.own (.v (shopD sh))) → e[1]? = some .no → lcL (.n 1) mYes ce_goods_1 [1] ((linesL sh).map fun l => O.v (lineD l)) e = some ((linesL sh).map (fun l => .t [.v (lineD l), .l ((lcont sh l).map oi), oi (lprice sh l)]), e) := fun e h0 h1 => by
    refine lc_map1 h1 _ fun l hl e' g1 g2 => ?_
    have hlk := linesL_ok hs hl
    have c1 := lcontent_ok n sh hg hn l hlk
    have c2 := lprice_ok n sh hg l hlk
    simp [ce_goods_1, g1, g2, h0, c1, c2]
  refine ⟨.l ((linesL sh).map fun l => .t [.v (lineD l), .l ((lcont sh l).map oi), oi (lprice sh l)]), ?_, ?_⟩
  · have hb : (linesL sh).length ≤ 16777216 := by omega
    generalize linesL sh = ls at *
    simp [un_goods, m_goods, h4, hlc, hb]
  · rw [toD_l, toDs_map (g := fun l => wareD (wareOf sh l)) (fun l => by simp [wareD, wareOf])]
    simp [waresL]
end Dn

set_option Elab.async false
set_option linter.all false
set_option maxRecDepth 100000
set_option maxHeartbeats 4000000
namespace Dn
open PySem L2
/-! the least price by cases, plainly -/
abbrev Res := Option (Int × Option Ln)
def bestStep (tab : List Int → Res) (w : List Int) (best : Res) (g : Wr) : Res :=
  if restL w g.2.1 = w then best else (match tab (restL w g.2.1) with
    | some (q, _) => (match best with
      | none => some (g.2.2 + q, some g.1)
      | some (b, l) => if g.2.2 + q < b then some (g.2.2 + q, some g.1) else some (b, l))
    | none => best)
def bestOf (gs : List Wr) (tab : List Int → Res) (w : List Int) : Res := gs.foldl (bestStep tab w) none
def lp (gs : List Wr) : Nat → List Int → Res
  | 0, _ => none
  | k + 1, w => if w.sum = 0 then some (0, none) else bestOf gs (lp gs k) w
def LP (gs : List Wr) (w : List Int) : Res := lp gs (w.sum.toNat + 1) w
/-- goods for n things -/
structure Gds (n : Nat) (gs : List Wr) : Prop where
  len : ∀ g ∈ gs, g.2.1.length = n
  nn : ∀ g ∈ gs, NN g.2.1
  pos : ∀ g ∈ gs, 0 ≤ g.2.2
theorem restL_le : ∀ (w c : List Int), NN w → NN c → (restL w c).sum ≤ w.sum ∧ (w.length = c.length → (restL w c).sum = w.sum → restL w c = w)
  | [], c, _, _ => by simp [restL]
  | x :: w, [], h, _ => by
    refine ⟨?_, fun z => by simp at z⟩
    simp only [restL, List.zip_nil_right, List.map_nil, List.sum_nil]
    exact (nn_sum _ h).1
  | x :: w, y :: c, hw, hc => by
    obtain ⟨h1, h2⟩ := restL_le w c (fun z hz => hw z (List.mem_cons_of_mem _ hz)) (fun z hz => hc z (List.mem_cons_of_mem _ hz))
    have hx := hw x (List.mem_cons_self ..)
    have hy := hc y (List.mem_cons_self ..)
    have e : restL (x :: w) (y :: c) = max 0 (x - y) :: restL w c := rfl
    rw [e, List.sum_cons, List.sum_cons]
    refine ⟨by omega, fun hl hs => ?_⟩
    have := h2 (by simpa using hl) (by omega)
    rw [this]
    congr 1
    omega
theorem restL_lt {w c : List Int} (hw : NN w) (hc : NN c) (hl : w.length = c.length) (h : restL w c ≠ w) : (restL w c).sum < w.sum := by
  obtain ⟨h1, h2⟩ := restL_le w c hw hc
  rcases Int.lt_or_eq_of_le h1 with h3 | h3
  · exact h3
  · exact absurd (h2 hl h3) h
theorem best_congr {gs : List Wr} {t1 t2 : List Int → Res} {w : List Int} (h : ∀ g ∈ gs, restL w g.2.1 ≠ w → t1 (restL w g.2.1) = t2 (restL w g.2.1)) : bestOf gs t1 w = bestOf gs t2 w := by
  unfold bestOf
  generalize (none : Res) = b
  induction gs generalizing b with
  | nil => rfl
  | cons g gs ih =>
    rw [List.foldl_cons, List.foldl_cons]
    have : bestStep t1 w b g = bestStep t2 w b g := by
      unfold bestStep
      by_cases e : restL w g.2.1 = w
      · rw [if_pos e, if_pos e]
      · rw [if_neg e, if_neg e, h g (List.mem_cons_self ..) e]
    rw [this]
    exact ih (fun g' hg' => h g' (List.mem_cons_of_mem _ hg')) _
theorem restL_len' {n : Nat} {w c : List Int} (hw : w.length = n) (hc : c.length = n) : (restL w c).length = n := by rw [restL_len]; omega
theorem lp_fuel {n : Nat} {gs : List Wr} (hg : Gds n gs) : ∀ (m : Nat) (w : List Int), w.length = n → NN w → w.sum.toNat = m → ∀ k, m < k → lp gs k w = LP gs w := by
  intro m
  induction m using Nat.strongRecOn with
  | ind m ih =>
    intro w hl hw hm k hk
    obtain ⟨k, rfl⟩ : ∃ j, k = j + 1 := ⟨k - 1, by omega⟩
    unfold LP
    rw [hm]
    show (if w.sum = 0 then some (0, none) else bestOf gs (lp gs k) w) = (if w.sum = 0 then some (0, none) else bestOf gs (lp gs m) w)
    by_cases h0 : w.sum = 0
    · rw [if_pos h0, if_pos h0]
    · rw [if_neg h0, if_neg h0]
      refine best_congr fun g hgm hne => ?_
      have hlt := restL_lt hw (hg.nn g hgm) (by rw [hl, hg.len g hgm]) hne
      have hnn := (nn_sum _ (restL_nn w g.2.1)).1
      have hlt2 : (restL w g.2.1).sum.toNat < m := by omega
      rw [ih _ hlt2 _ (restL_len' hl (hg.len g hgm)) (restL_nn _ _) rfl k (by omega), ih _ hlt2 _ (restL_len' hl (hg.len g hgm)) (restL_nn _ _) rfl m hlt2]
theorem LP_eq {n : Nat} {gs : List Wr} (hg : Gds n gs) {w : List Int} (hl : w.length = n) (hw : NN w) : LP gs w = if w.sum = 0 then some (0, none) else bestOf gs (LP gs) w := by
  have h1 : LP gs w = if w.sum = 0 then some (0, none) else bestOf gs (lp gs w.sum.toNat) w := rfl
  rw [h1]
  by_cases h0 : w.sum = 0
  · rw [if_pos h0, if_pos h0]
  · rw [if_neg h0, if_neg h0]
    refine best_congr fun g hgm hne => ?_
    have hlt := restL_lt hw (hg.nn g hgm) (by rw [hl, hg.len g hgm]) hne
    have hnn := (nn_sum _ (restL_nn w g.2.1)).1
    exact lp_fuel hg _ _ (restL_len' hl (hg.len g hgm)) (restL_nn _ _) rfl _ (by omega)
/-- what is found is one of the ways -/
theorem best_in (gs : List Wr) (tab : List Int → Res) (w : List Int) : ∀ (b : Res) (p : Int) (o : Option Ln), gs.foldl (bestStep tab w) b = some (p, o) → b = some (p, o) ∨ ∃ g ∈ gs, o = some g.1 ∧ restL w g.2.1 ≠ w ∧ ∃ q o', tab (restL w g.2.1) = some (q, o') ∧ p = g.2.2 + q := by
  induction gs with
  | nil => intro b p o h; exact .inl h
  | cons g gs ih =>
    intro b p o h
    rw [List.foldl_cons] at h
    rcases ih _ p o h with h1 | ⟨g', hg', h2⟩
    · unfold bestStep at h1
      split at h1
      · exact .inl h1
      · rename_i hne
        split at h1
        · rename_i q o' hq
          split at h1
          · cases h1
            exact .inr ⟨g, List.mem_cons_self .., rfl, hne, q, o', hq, rfl⟩
          · split at h1
            · cases h1
              exact .inr ⟨g, List.mem_cons_self .., rfl, hne, q, o', hq, rfl⟩
            · exact .inl h1
        · exact .inl h1
    · exact .inr ⟨g', List.mem_cons_of_mem _ hg', h2⟩
def leR (a b : Res) : Prop := ∀ p o, b = some (p, o) → ∃ p' o', a = some (p', o') ∧ p' ≤ p
theorem leR_refl (a : Res) : leR a a := fun p o h => ⟨p, o, h, Int.le_refl _⟩
theorem leR_trans {a b c : Res} (h1 : leR a b) (h2 : leR b c) : leR a c := fun p o h => by
  obtain ⟨p1, o1, e1, l1⟩ := h2 p o h
  obtain ⟨p2, o2, e2, l2⟩ := h1 p1 o1 e1
  exact ⟨p2, o2, e2, by omega⟩
theorem step_le (tab : List Int → Res) (w : List Int) (b : Res) (g : Wr) : leR (bestStep tab w b g) b := fun p o h => by
  unfold bestStep
  split
  · exact ⟨p, o, h, Int.le_refl _⟩
  · split
    · rename_i q o' hq
      subst h
      simp only
      split
      · exact ⟨_, _, rfl, by omega⟩
      · exact ⟨_, _, rfl, Int.le_refl _⟩
    · exact ⟨p, o, h, Int.le_refl _⟩
theorem fold_le (gs : List Wr) (tab : List Int → Res) (w : List Int) : ∀ b : Res, leR (gs.foldl (bestStep tab w) b) b := by
  induction gs with
  | nil => exact fun b => leR_refl b
  | cons g gs ih => exact fun b => leR_trans (ih _) (step_le tab w b g)
/-- no way is better -/
theorem best_le (gs : List Wr) (tab : List Int → Res) (w : List Int) : ∀ (b : Res) (g : Wr), g ∈ gs → restL w g.2.1 ≠ w → ∀ q o', tab (restL w g.2.1) = some (q, o') → ∃ p o, gs.foldl (bestStep tab w) b = some (p, o) ∧ p ≤ g.2.2 + q := by
  induction gs with
  | nil => intro b g hg; cases hg
  | cons g0 gs ih =>
    intro b g hg hne q o' hq
    rw [List.foldl_cons]
    rcases List.mem_cons.mp hg with rfl | hg
    · have hs : ∃ p o, bestStep tab w b g = some (p, o) ∧ p ≤ g.2.2 + q := by
        unfold bestStep
        rw [if_neg hne, hq]
        cases b with
        | none => exact ⟨_, _, rfl, Int.le_refl _⟩
        | some x =>
          obtain ⟨b0, l0⟩ := x
          simp only
          split
          · exact ⟨_, _, rfl, Int.le_refl _⟩
          · exact ⟨_, _, rfl, by omega⟩
      obtain ⟨p, o, e, l⟩ := hs
      obtain ⟨p', o', e', l'⟩ := fold_le gs tab w _ p o e
      exact ⟨p', o', e', by omega⟩
    · exact ih _ g hg hne q o' hq
/-! purchases -/
def leftW (ps : List Wr) (w : List Int) : List Int := ps.foldl (fun w g => restL w g.2.1) w
def costW (ps : List Wr) : Int := (ps.map (·.2.2)).sum
theorem leftW_len {n : Nat} : ∀ (ps : List Wr) (w : List Int), (∀ g ∈ ps, g.2.1.length = n) → w.length = n → (leftW ps w).length = n
  | [], w, _, h => h
  | g :: ps, w, hp, h => leftW_len ps _ (fun g' hg' => hp g' (List.mem_cons_of_mem _ hg')) (restL_len' h (hp g (List.mem_cons_self ..)))
/-- a purchase that covers costs no less than what is told -/
theorem LP_le {n : Nat} {gs : List Wr} (hg : Gds n gs) : ∀ (ps : List Wr) (w : List Int), w.length = n → NN w → (∀ g ∈ ps, g ∈ gs) → (leftW ps w).sum = 0 → ∃ p o, LP gs w = some (p, o) ∧ p ≤ costW ps
  | [], w, hl, hw, _, hz => by
    have hz' : w.sum = 0 := hz
    rw [LP_eq hg hl hw, if_pos hz']
    exact ⟨0, none, rfl, by simp [costW]⟩
  | g :: ps, w, hl, hw, hm, hz => by
    have hgm := hm g (List.mem_cons_self ..)
    have hm' : ∀ g' ∈ ps, g' ∈ gs := fun g' hg' => hm g' (List.mem_cons_of_mem _ hg')
    have hpos := hg.pos g hgm
    have hcost : costW (g :: ps) = g.2.2 + costW ps := by simp [costW]
    obtain ⟨q, o', e, l⟩ := LP_le hg ps (restL w g.2.1) (restL_len' hl (hg.len g hgm)) (restL_nn _ _) hm' hz
    by_cases hne : restL w g.2.1 = w
    · rw [hne] at e
      exact ⟨q, o', e, by omega⟩
    · rw [LP_eq hg hl hw]
      by_cases h0 : w.sum = 0
      · rw [if_pos h0]
        have : 0 ≤ costW ps := by
          unfold costW
          refine (nn_sum _ fun x hx => ?_).1
          obtain ⟨y, hy, rfl⟩ := List.mem_map.mp hx
          exact hg.pos y (hm' y hy)
        exact ⟨0, none, rfl, by omega⟩
      · rw [if_neg h0]
        obtain ⟨p, o, e2, l2⟩ := best_le gs (LP gs) w none g hgm hne q o' e
        exact ⟨p, o, e2, by omega⟩
/-- what is told is what some purchase costs -/
theorem LP_is {n : Nat} {gs : List Wr} (hg : Gds n gs) : ∀ (m : Nat) (w : List Int), w.length = n → NN w → w.sum.toNat = m → ∀ p o, LP gs w = some (p, o) → ∃ ps, (∀ g ∈ ps, g ∈ gs) ∧ (leftW ps w).sum = 0 ∧ costW ps = p := by
  intro m
  induction m using Nat.strongRecOn with
  | ind m ih =>
    intro w hl hw hm p o h
    rw [LP_eq hg hl hw] at h
    by_cases h0 : w.sum = 0
    · rw [if_pos h0] at h
      cases h
      exact ⟨[], (by simp), h0, rfl⟩
    · rw [if_neg h0] at h
      rcases best_in gs (LP gs) w none p o h with h1 | ⟨g, hgm, _, hne, q, o', e, rfl⟩
      · cases h1
      · have hlt := restL_lt hw (hg.nn g hgm) (by rw [hl, hg.len g hgm]) hne
        have hnn := (nn_sum _ (restL_nn w g.2.1)).1
        obtain ⟨ps, a, b, c⟩ := ih (restL w g.2.1).sum.toNat (by omega) _ (restL_len' hl (hg.len g hgm)) (restL_nn _ _) rfl q o' e
        refine ⟨g :: ps, fun g' hg' => ?_, b, by simp [costW] at c ⊢; omega⟩
        rcases List.mem_cons.mp hg' with rfl | hg'
        · exact hgm
        · exact a g' hg'
def num (r : Res) : Option Int := r.map (·.1)
/-- covered by the sum of the contents -/
def sumW (n : Nat) (ps : List Wr) : List Int := ps.foldl (fun f g => sumL f g.2.1) (reps n 0)
theorem leftW_rest : ∀ (ps : List Wr) (w c : List Int), (∀ g ∈ ps, NN g.2.1) → leftW ps (restL w c) = restL w (ps.foldl (fun f g => sumL f g.2.1) c)
  | [], w, c, _ => rfl
  | g :: ps, w, c, h => by
    have hnn := h g (List.mem_cons_self ..)
    show leftW ps (restL (restL w c) g.2.1) = _
    rw [restL_rest w c g.2.1 hnn]
    exact leftW_rest ps w _ (fun g' hg' => h g' (List.mem_cons_of_mem _ hg'))
theorem leftW_sum {n : Nat} {ps : List Wr} {w : List Int} (hw : w.length = n) (hw0 : NN w) (h : ∀ g ∈ ps, NN g.2.1) : leftW ps w = restL w (sumW n ps) := by
  have := leftW_rest ps w (reps n 0) h
  rw [← hw, restL_reps0 w hw0, hw] at this
  exact this
theorem sumW_len {n : Nat} {ps : List Wr} (h : ∀ g ∈ ps, g.2.1.length = n) : (sumW n ps).length = n := by
  unfold sumW
  have : ∀ (ps : List Wr) (f : List Int), (∀ g ∈ ps, g.2.1.length = n) → f.length = n → (ps.foldl (fun f g => sumL f g.2.1) f).length = n := by
    intro ps
    induction ps with
    | nil => intro f _ hf; exact hf
    | cons g ps ih =>
      intro f hp hf
      rw [List.foldl_cons]
      refine ih _ (fun g' hg' => hp g' (List.mem_cons_of_mem _ hg')) ?_
      rw [sumL_len, hf, hp g (List.mem_cons_self ..)]
      omega
  exact this ps _ h (by simp)
/-- covered: the contents together have no less of each thing -/
theorem cov_iff {n : Nat} {ps : List Wr} {w : List Int} (hw : w.length = n) (hw0 : NN w) (hl : ∀ g ∈ ps, g.2.1.length = n) (h : ∀ g ∈ ps, NN g.2.1) : (leftW ps w).sum = 0 ↔ covB (sumW n ps) w = true := by
  rw [leftW_sum hw hw0 h]
  have h1 := restL_zero w (sumW n ps) (by rw [sumW_len hl, hw])
  have h2 := nn_sum0 (restL w (sumW n ps)) (restL_nn _ _)
  rw [restL_len' hw (sumW_len hl)] at h2
  rw [hw] at h1
  rw [h2, h1]
end Dn

set_option Elab.async false
set_option linter.all false
set_option maxRecDepth 100000
set_option maxHeartbeats 4000000
namespace Dn
open PySem L2
def lnD : Option Ln → PyData
  | none => .none
  | some l => lineD l
def resD : Res → PyData
  | none => .none
  | some (p, o) => .tuple [.int p, lnD o]
@[simp] theorem isN_res (r : Res) : isN (resD r) = r.isNone := by
  cases r with
  | none => rfl
  | some x => rfl
theorem ne_rows (a b : List Int) : fNe [rowD a, rowD b] = some (.bool (!decide (a = b))) := fNe_ints a b
/-- the loop of best_of -/
theorem best_loop (gs all : List Wr) (sub : ∀ g ∈ gs, g ∈ all) (x0 : Sl) (kvs : List (List Key × PyData)) (tab : List Int → Res) (w : List Int) (hw : w.length ≤ 1000) (ht : ∀ g ∈ all, restL w g.2.1 ≠ w → dval kvs (keyI (restL w g.2.1)) = some (resD (tab (restL w g.2.1)))) :
    forL (.tp [.n 4, .n 5, .n 6]) b_best_of_1 (gs.map fun g => .v (wareD g)) [x0, .pin (.dt kvs), .own (.v (rowD w)), .own (.v .none), .no, .no, .no, .no, .no]
     = some (.nx [x0, .pin (.dt kvs), .own (.v (rowD w)), .own (.v (resD (bestOf gs tab w))), .no, .no, .no, .no, .no]) := by
  obtain ⟨b, h, hI⟩ := for_inv (tg := .tp [.n 4, .n 5, .n 6]) (body := b_best_of_1) (enc := fun (g : Wr) => O.v (wareD g)) (E := fun (b : Res) => [x0, .pin (.dt kvs), .own (.v (rowD w)), .own (.v (resD b)), .no, .no, .no, .no, .no])
    (fun pre b => b = pre.foldl (bestStep tab w) none) (all := gs) gs [] none rfl rfl (by
    intro pre g post b hall hb
    have hgm : g ∈ all := sub g (by rw [hall]; simp)
    have hr := rest_ok w g.2.1 hw
    have hne := ne_rows (restL w g.2.1) w
    have hb1 : (restL w g.2.1).length ≤ 16777216 := by rw [restL_len]; omega
    refine ⟨bestStep tab w b g, [x0, .pin (.dt kvs), .own (.v (rowD w)), .own (.v (resD b)), .own (.v (lineD g.1)), .own (.v (rowD g.2.1)), .own (.v (.int g.2.2)), .no, .no], ?_, ?_, by rw [hb, List.foldl_append]; rfl⟩
    · simp [wareD]
    · by_cases e : restL w g.2.1 = w
      · have : bestStep tab w b g = b := by unfold bestStep; rw [if_pos e]
        rw [this]
        simp [e] at hne
        simp [b_best_of_1, hr, e, hne]
      · have hd := ht g hgm e
        cases htr : tab (restL w g.2.1) with
        | none =>
          rw [htr] at hd
          have : bestStep tab w b g = b := by unfold bestStep; rw [if_neg e, htr]
          rw [this]
          simp [e] at hne
          have hd' : dval kvs (keyI (restL w g.2.1)) = some .none := hd
          simp [b_best_of_1, hr, hne, hb1, hd', e]
        | some x =>
          obtain ⟨q, o'⟩ := x
          rw [htr] at hd
          have hd' : dval kvs (keyI (restL w g.2.1)) = some (.tuple [.int q, lnD o']) := hd
          simp [e] at hne
          cases b with
          | none =>
            have : bestStep tab w none g = some (g.2.2 + q, some g.1) := by unfold bestStep; rw [if_neg e, htr]
            rw [this]
            have r0 : resD none = .none := rfl
            have r1 : resD (some (g.2.2 + q, some g.1)) = .tuple [.int (g.2.2 + q), lineD g.1] := rfl
            simp [b_best_of_1, hr, hne, hb1, hd', e, r0, r1]
          | some y =>
            obtain ⟨b0, l0⟩ := y
            have r0 : resD (some (b0, l0)) = .tuple [.int b0, lnD l0] := rfl
            have r1 : resD (some (g.2.2 + q, some g.1)) = .tuple [.int (g.2.2 + q), lineD g.1] := rfl
            by_cases hlt : g.2.2 + q < b0
            · have : bestStep tab w (some (b0, l0)) g = some (g.2.2 + q, some g.1) := by unfold bestStep; rw [if_neg e, htr]; simp [hlt]
              rw [this, r1, r0]
              simp [b_best_of_1, hr, hne, hb1, hd', e, hlt]
            · have : bestStep tab w (some (b0, l0)) g = some (b0, l0) := by unfold bestStep; rw [if_neg e, htr]; simp [hlt]
              rw [this, r0]
              simp [b_best_of_1, hr, hne, hb1, hd', e, hlt])
  rw [hI] at h
  exact h
theorem best_ok (gs : List Wr) (kvs : List (List Key × PyData)) (tab : List Int → Res) (w : List Int) (hw : w.length ≤ 1000) (ht : ∀ g ∈ gs, restL w g.2.1 ≠ w → dval kvs (keyI (restL w g.2.1)) = some (resD (tab (restL w g.2.1)))) :
    sem_best_of [.v (.list (gs.map wareD)), .dt kvs, .v (rowD w)] = some (.v (resD (bestOf gs tab w)), [.dt kvs]) := by
  have h := best_loop gs gs (fun _ h => h) (.own (.v (.list (gs.map wareD)))) kvs tab w hw ht
  simp [un_best_of, m_best_of, h]
/-- the table so far -/
def tabL (gs : List Wr) (rows : List (List Int)) : List (List Int × Res) := rows.map fun r => (r, LP gs r)
theorem tabGet_L (gs : List Wr) : ∀ (rows : List (List Int)) (r : List Int), r ∈ rows → tabGet (tabL gs rows) r = some (LP gs r)
  | [], r, h => by cases h
  | x :: rows, r, h => by
    unfold tabGet tabL
    rw [List.map_cons, List.find?_cons]
    by_cases e : x = r
    · subst e; simp
    · simp only [e, decide_false]
      rcases List.mem_cons.mp h with h | h
      · exact absurd h.symm e
      · exact tabGet_L gs rows r h
theorem dval_L (gs : List Wr) (rows : List (List Int)) {r : List Int} (h : r ∈ rows) : dval (tabD resD (tabL gs rows)) (keyI r) = some (resD (LP gs r)) := by
  rw [dval_tab, tabGet_L gs rows r h]; rfl
theorem les_trans {w r s : List Int} (h1 : r ∈ les w) (h2 : s ∈ les r) : s ∈ les w := by
  rw [les_mem] at h1 h2 ⊢
  refine ⟨by omega, fun p hp => ?_⟩
  obtain ⟨i, hi, rfl⟩ := List.getElem_of_mem hp
  rw [List.length_zip] at hi
  rw [List.getElem_zip]
  simp only
  have a := h2.2 (s[i]'(by omega), r[i]'(by omega)) (by
    rw [← List.getElem_zip (h := by rw [List.length_zip]; omega)]
    exact List.getElem_mem _)
  have b := h1.2 (r[i]'(by omega), w[i]'(by omega)) (by
    rw [← List.getElem_zip (h := by rw [List.length_zip]; omega)]
    exact List.getElem_mem _)
  simp only at a b
  omega
theorem les_nn {w r : List Int} (h : r ∈ les w) : NN r := fun x hx => by
  obtain ⟨hl, hz⟩ := les_mem.mp h
  obtain ⟨i, hi, rfl⟩ := List.getElem_of_mem hx
  have := hz (r[i], w[i]'(by omega)) (by
    rw [← List.getElem_zip (h := by rw [List.length_zip]; omega)]
    exact List.getElem_mem _)
  exact this.1
theorem les_self {w : List Int} (h : NN w) : w ∈ les w := by
  obtain ⟨t, ht⟩ := les_last w h
  rw [ht]; simp
theorem les_lex : ∀ {w r : List Int}, r ∈ les w → r ≠ w → lexI r w = true
  | [], r, h, hne => by
    have := (les_mem.mp h).1
    cases r with
    | nil => exact absurd rfl hne
    | cons _ _ => simp at this
  | x :: w, r, h, hne => by
    obtain ⟨hl, hz⟩ := les_mem.mp h
    cases r with
    | nil => simp at hl
    | cons y r =>
      have h1 := hz (y, x) (by simp)
      simp only at h1
      by_cases e : y = x
      · subst e
        have : r ∈ les w := les_mem.mpr ⟨by simpa using hl, fun p hp => hz p (by rw [List.zip_cons_cons]; exact List.mem_cons_of_mem _ hp)⟩
        have := les_lex this (fun z => hne (by rw [z]))
        simp [lexI, this]
      · have : y < x := by omega
        simp [lexI, e, this]
theorem pre_of_lex {pre post : List (List Int)} {x r : List Int} (hp : (pre ++ x :: post).Pairwise fun a b => lexI a b = true) (hr : r ∈ pre ++ x :: post) (hl : lexI r x = true) : r ∈ pre := by
  rcases List.mem_append.mp hr with h | h
  · exact h
  · exfalso
    rcases List.mem_cons.mp h with rfl | h
    · rw [lexI_irrefl] at hl; cases hl
    · rw [List.pairwise_append] at hp
      have := (List.pairwise_cons.mp hp.2.1).1 r h
      rw [lexI_asymm _ _ this] at hl
      cases hl
theorem les_len9 {w : List Int} (hw : ∀ n ∈ w, 0 ≤ n ∧ n ≤ 9) (hl : w.length ≤ 4) : (les w).length ≤ 10000 := by
  have h1 := les_cases (w := w) fun n hn => (hw n hn).1
  have : ∀ (w : List Int) (a : Int), (∀ n ∈ w, 0 ≤ n ∧ n ≤ 9) → 0 ≤ a → w.foldl (fun a n => a * (n + 1)) a ≤ a * 10 ^ w.length := by
    intro w
    induction w with
    | nil => intro a _ _; simp
    | cons x w ih =>
      intro a hw ha
      obtain ⟨x0, x9⟩ := hw x (List.mem_cons_self ..)
      have := ih (a * (x + 1)) (fun n hn => hw n (List.mem_cons_of_mem _ hn)) (Int.mul_nonneg ha (by omega))
      rw [List.foldl_cons, List.length_cons, Int.pow_succ]
      have h2 : a * (x + 1) ≤ a * 10 := Int.mul_le_mul_of_nonneg_left (by omega) ha
      have h3 : (0 : Int) ≤ 10 ^ w.length := Int.le_of_lt (Int.pow_pos (by decide))
      have h4 := Int.mul_le_mul_of_nonneg_right h2 h3
      have h5 : a * 10 * 10 ^ w.length = a * (10 ^ w.length * 10) := by rw [Int.mul_assoc, Int.mul_comm 10]
      omega
  have h2 := this w 1 hw (by decide)
  have h3 : (10 : Int) ^ w.length ≤ 10000 := by
    have := Nat.pow_le_pow_right (n := 10) (by decide) hl
    have h4 : ((10 ^ w.length : Nat) : Int) ≤ ((10 ^ 4 : Nat) : Int) := by exact_mod_cast this
    simpa using h4
  have h6 : ((les w).length : Int) ≤ 10000 := by rw [← h1]; unfold casesI; omega
  omega
theorem reck_loop (n : Nat) (hn : n ≤ 4) (gs : List Wr) (hg : Gds n gs) (w : List Int) (hw : Want n w) (x0 x1 : Sl) :
    forL (.n 4) b_reckoned_1 ((les w).map fun r => O.v (rowD r)) [x0, x1, .own (.v (.list (gs.map wareD))), .own (.dt []), .no]
     = some (.nx [x0, x1, .own (.v (.list (gs.map wareD))), .own (.dt (tabD resD (tabL gs (les w)))), .no]) := by
  have hlen := les_len9 hw.nine (by rw [hw.len]; exact hn)
  have hpw := les_pair w
  obtain ⟨b, h, hI⟩ := for_inv (tg := .n 4) (body := b_reckoned_1) (enc := fun (r : List Int) => O.v (rowD r)) (E := fun (rows : List (List Int)) => [x0, x1, .own (.v (.list (gs.map wareD))), .own (.dt (tabD resD (tabL gs rows))), .no])
    (fun pre rows => rows = pre) (all := les w) (les w) [] [] rfl rfl (by
    intro pre x post rows hall hr
    subst hr
    have hxm : x ∈ les w := by rw [hall]; simp
    have hxl : x.length = n := by rw [les_len_el hxm]; exact hw.len
    have hxn := les_nn hxm
    have hpl : rows.length < 10000 := by have := congrArg List.length hall; simp at this; omega
    have hb : (tabD resD (tabL gs rows)).length < 16777216 := by simp [tabD, tabL]; omega
    have hnew : ∀ p ∈ tabL gs rows, p.1 ≠ x := fun p hp e => by
      obtain ⟨r, hr, rfl⟩ := List.mem_map.mp hp
      simp only at e
      subst e
      rw [hall, List.pairwise_append] at hpw
      have := hpw.2.2 r hr r (List.mem_cons_self ..)
      rw [lexI_irrefl] at this
      cases this
    have hput := dput_tab resD x (LP gs x) (tabL gs rows) hnew
    have htl : tabL gs rows ++ [(x, LP gs x)] = tabL gs (rows ++ [x]) := by simp [tabL]
    rw [htl] at hput
    refine ⟨rows ++ [x], _, rfl, ?_, rfl⟩
    have hLP := LP_eq hg hxl hxn
    have hb1 : x.length ≤ 16777216 := by omega
    by_cases h0 : x.sum = 0
    · rw [if_pos h0] at hLP
      rw [hLP] at hput
      have r0 : resD (some (0, none)) = .tuple [.int 0, .none] := rfl
      rw [r0] at hput
      simp [b_reckoned_1, h0, hput, hb, hb1]
    · rw [if_neg h0] at hLP
      have hbest := best_ok gs (tabD resD (tabL gs rows)) (LP gs) x (by omega) (fun g hgm hne => by
        refine dval_L gs rows ?_
        have h1 : restL x g.2.1 ∈ les x := restL_les hxn (hg.nn g hgm) (by rw [hg.len g hgm, hxl])
        have h2 : restL x g.2.1 ∈ les w := les_trans hxm h1
        rw [hall] at h2 hpw
        exact pre_of_lex hpw h2 (les_lex h1 hne))
      rw [← hLP] at hbest
      simp [b_reckoned_1, h0, hbest, hput, hb, hb1])
  rw [hI] at h
  exact h
theorem tierP_nn {ts : List (Int × Int)} (h : Tiers ts) (c : Int) : 0 ≤ tierP ts c := by
  rw [tierP_fold]
  have : ∀ (l : List (Int × Int)) (d : Int), (∀ t ∈ l, 0 ≤ t.2) → 0 ≤ d → 0 ≤ l.foldl (fun e t => if t.1 ≤ c then t.2 else e) d := by
    intro l
    induction l with
    | nil => intro d _ hd; exact hd
    | cons t l ih =>
      intro d hl hd
      rw [List.foldl_cons]
      refine ih _ (fun t' ht' => hl t' (List.mem_cons_of_mem _ ht')) ?_
      split
      · exact hl t (List.mem_cons_self ..)
      · exact hd
  exact this ts 0 (fun t ht => (h.price t ht).1) (Int.le_refl 0)
theorem lprice_nn {n : Nat} {sh : List Off} (hg : Good n sh) {l : Ln} (hl : LnOk sh l) : 0 ≤ lprice sh l := by
  obtain ⟨o, ho, hna⟩ := hl.place
  obtain ⟨i, hgo⟩ := hg.at ho
  have hc := hl.count
  unfold lprice
  rw [ho]
  cases o with
  | pack c p =>
    have hk : 0 ≤ p ∧ p < 1000000000000 := hgo.kind
    have : 0 ≤ (l.2.2.map (pAt sh)).sum := (nn_sum _ fun x hx => by
      obtain ⟨a, ha, rfl⟩ := List.mem_map.mp hx
      obtain ⟨c', p', k', h'⟩ := hl.adds a ha
      obtain ⟨j, hj⟩ := hg.at h'
      have hk2 : (0 ≤ p' ∧ p' < 1000000000000) ∧ _ := hj.kind
      unfold pAt
      rw [h']
      exact hk2.1.1).1
    simp only
    omega
  | many c ts =>
    have ht : Tiers ts := hgo.kind
    simp only
    exact Int.mul_nonneg (by omega) (tierP_nn ht _)
  | add c p k => exact Int.le_refl 0
theorem gds_wares {n : Nat} {sh : List Off} (hg : Good n sh) (hs : sh.length ≤ 10) : Gds n (waresL sh) := by
  refine ⟨fun g h => ?_, fun g h => ?_, fun g h => ?_⟩
  · obtain ⟨l, hl, rfl⟩ := List.mem_map.mp h
    exact lcont_len hg (linesL_ok hs hl)
  · obtain ⟨l, hl, rfl⟩ := List.mem_map.mp h
    exact lcont_nn hg (linesL_ok hs hl)
  · obtain ⟨l, hl, rfl⟩ := List.mem_map.mp h
    exact lprice_nn hg (linesL_ok hs hl)
theorem reckoned_ok (n : Nat) (hn : n ≤ 4) (sh : List Off) (hg : Good n sh) (hs : sh.length ≤ 10) (w : List Int) (hw : Want n w) : sem_reckoned [.v (shopD sh), .v (rowD w)] = some (.dt (tabD resD (tabL (waresL sh) (les w))), []) := by
  obtain ⟨x, h1, h2⟩ := goods_ok n hn sh hg hs
  have h3 := lesser_ok w hw.nine (by rw [hw.len]; exact hn)
  have h4 := reck_loop n hn (waresL sh) (gds_wares hg hs) w hw (.own (.v (shopD sh))) (.own (.v (rowD w)))
  simp [un_reckoned, m_reckoned, h1, h2, h3, h4]
end Dn

set_option Elab.async false
set_option linter.all false
set_option maxRecDepth 100000
set_option maxHeartbeats 4000000
namespace Dn
open PySem L2
def sortLn (ls : List Ln) : List Ln := ls.mergeSort fun a b => !lnLt b a
theorem srt_lineO (ls : List Ln) : srtO [.l (ls.map lineO)] = some (.l ((sortLn ls).map lineO)) := by
  have e1 : (ls.map lineO).zip (ls.map lineD) = ls.map fun r => (lineO r, lineD r) := by
    induction ls with
    | nil => rfl
    | cons r rows ih => simp [ih]
  have e2 : ((ls.map fun r => (lineO r, lineD r)).mergeSort (PySem.W.dataLe false (·.2))).map (·.1) = (sortLn ls).map lineO := by
    rw [merge_map, List.map_map, sortLn]
    congr 1
    congr 1
    funext a b
    rw [PySem.W.dataLe_eq]
    simp [dataLt_line]
  have hal : allAlikeB (ls.map lineD) = true := by
    unfold allAlikeB
    rw [List.all_eq_true]
    intro d hd
    rw [List.all_eq_true]
    intro d' hd'
    obtain ⟨a, _, rfl⟩ := List.mem_map.mp hd
    obtain ⟨b, _, rfl⟩ := List.mem_map.mp hd'
    simp [lineD, rowD, PySem.W.alike, PySem.W.alikeAll, PySem.W.alike_ints]
  have hso : sortableB (ls.map lineD) = true := by
    unfold sortableB
    rw [Bool.or_eq_true]
    left
    rw [List.all_eq_true]
    intro d hd
    obtain ⟨a, _, rfl⟩ := List.mem_map.mp hd
    rfl
  have hdp : (ls.map lineD).all (fun d => decide (d.depth ≤ 60)) = true := by
    rw [List.all_eq_true]
    intro d hd
    obtain ⟨a, _, rfl⟩ := List.mem_map.mp hd
    simp [lineD, rowD]
  show (match O.toDs (ls.map lineO) with | some ds => if allAlikeB ds && sortableB ds && ds.all (fun d => decide (d.depth ≤ 60)) then some (O.l ((((ls.map lineO).zip ds).mergeSort (PySem.W.dataLe false (fun x : O × PyData => x.2))).map (fun x : O × PyData => x.1))) else none | none => none) = _
  rw [toDs_lines]
  simp only [hal, hso, hdp, Bool.and_self, if_true]
  rw [e1, e2]
theorem own_line_ok (l : Ln) (h : l.2.2.length ≤ 1000) : sem_own_line [.v (lineD l)] = some (lineO l, []) := by
  have hb : l.2.2.length ≤ 16777216 := by omega
  simp [un_own_line, m_own_line, lineD, lineO, hb]
/-- what is told of wants: the price and a purchase of lines -/
theorem LP_none_line {n : Nat} {gs : List Wr} (hg : Gds n gs) {w : List Int} (hl : w.length = n) (hw : NN w) {p : Int} (h : LP gs w = some (p, none)) : w.sum = 0 ∧ p = 0 := by
  rw [LP_eq hg hl hw] at h
  by_cases h0 : w.sum = 0
  · rw [if_pos h0] at h
    cases h
    exact ⟨h0, rfl⟩
  · rw [if_neg h0] at h
    rcases best_in gs (LP gs) w none p none h with h1 | ⟨g, _, h2, _⟩
    · cases h1
    · cases h2
theorem LP_some_line {n : Nat} {gs : List Wr} (hg : Gds n gs) {w : List Int} (hl : w.length = n) (hw : NN w) {p : Int} {l : Ln} (h : LP gs w = some (p, some l)) : ∃ g ∈ gs, g.1 = l ∧ restL w g.2.1 ≠ w ∧ ∃ q o', LP gs (restL w g.2.1) = some (q, o') ∧ p = g.2.2 + q := by
  rw [LP_eq hg hl hw] at h
  by_cases h0 : w.sum = 0
  · rw [if_pos h0] at h
    cases h
  · rw [if_neg h0] at h
    rcases best_in gs (LP gs) w none p _ h with h1 | ⟨g, hg', h2, h3⟩
    · cases h1
    · cases h2
      exact ⟨g, hg', rfl, h3⟩
structure Buys (n : Nat) (sh : List Off) (w : List Int) (p : Int) (ls : List Ln) : Prop where
  mem : ∀ l ∈ ls, l ∈ linesL sh
  cov : (leftW (ls.map (wareOf sh)) w).sum = 0
  cost : costW (ls.map (wareOf sh)) = p
  few : ls.length ≤ w.sum.toNat
theorem leftW_app (a b : List Wr) (w : List Int) : leftW (a ++ b) w = leftW b (leftW a w) := by unfold leftW; rw [List.foldl_append]
theorem costW_app (a b : List Wr) : costW (a ++ b) = costW a + costW b := by unfold costW; rw [List.map_append, List.sum_append]
theorem least_while (n : Nat) (hn : n ≤ 4) (sh : List Off) (hg : Good n sh) (hs : sh.length ≤ 10) (w : List Int) (hw : Want n w) (p : Int) (o : Option Ln) (hp : LP (waresL sh) w = some (p, o)) : ∃ (ls : List Ln) (v : List Int),
    mWhile t_least_1 b_least_1 [.own (.v (shopD sh)), .own (.v (rowD w)), .own (.dt (tabD resD (tabL (waresL sh) (les w)))), .own (.v (resD (some (p, o)))), .own (.v (.int p)), .own (.l []), .own (.v (rowD w))]
     = some (.nx [.own (.v (shopD sh)), .own (.v (rowD w)), .own (.dt (tabD resD (tabL (waresL sh) (les w)))), .own (.v (resD (some (0, none)))), .own (.v (.int p)), .own (.l (ls.map lineO)), .own (.v (rowD v))]) ∧ Buys n sh w p ls := by
  have hgd := gds_wares hg hs
  have hw0 : NN w := fun x hx => (hw.nine x hx).1
  obtain ⟨⟨ls, v, q, o'⟩, h, hI, hE⟩ := while_inv (mc := t_least_1) (mb := b_least_1) (E := fun s : List Ln × List Int × Int × Option Ln => [.own (.v (shopD sh)), .own (.v (rowD w)), .own (.dt (tabD resD (tabL (waresL sh) (les w)))), .own (.v (resD (some (s.2.2.1, s.2.2.2)))), .own (.v (.int p)), .own (.l (s.1.map lineO)), .own (.v (rowD s.2.1))])
    (fun s => s.2.1 ∈ les w ∧ LP (waresL sh) s.2.1 = some (s.2.2.1, s.2.2.2) ∧ (∀ l ∈ s.1, l ∈ linesL sh) ∧ leftW (s.1.map (wareOf sh)) w = s.2.1 ∧ costW (s.1.map (wareOf sh)) + s.2.2.1 = p ∧ s.1.length + s.2.1.sum.toNat ≤ w.sum.toNat)
    (fun s => s.2.2.2 = none) (fun s => s.2.1.sum.toNat) (by
    rintro ⟨ls, v, q, o'⟩ ⟨hv, hq, hm, hl, hc, hfew⟩
    simp only at hv hq hm hl hc hfew ⊢
    have hvl : v.length = n := by rw [les_len_el hv]; exact hw.len
    have hvn := les_nn hv
    have hws : w.sum.toNat ≤ 36 := by
      have : ∀ (u : List Int), (∀ x ∈ u, 0 ≤ x ∧ x ≤ 9) → u.sum ≤ 9 * u.length := by
        intro u
        induction u with
        | nil => intro _; simp
        | cons x u ih =>
          intro h
          have h1 := h x (List.mem_cons_self ..)
          have h2 := ih fun y hy => h y (List.mem_cons_of_mem _ hy)
          simp; omega
      have h1 := this w hw.nine
      rw [hw.len] at h1
      omega
    cases o' with
    | none =>
      refine .inl ⟨rfl, ?_⟩
      have r0 : resD (some (q, none)) = .tuple [.int q, .none] := rfl
      simp [t_least_1, r0]
    | some l =>
      right
      obtain ⟨g, hgm, rfl, hne, q', o'', hq', hqq⟩ := LP_some_line hgd hvl hvn hq
      obtain ⟨l, hlm, rfl⟩ := List.mem_map.mp hgm
      have hlk := linesL_ok hs hlm
      have c1 := own_line_ok l hlk.few
      have c2 := lcontent_ok n sh hg hn l hlk
      have c3 := rest_ok v (lcont sh l) (by omega)
      have hrl : restL v (lcont sh l) ∈ les v := restL_les hvn (lcont_nn hg hlk) (by rw [lcont_len hg hlk, hvl])
      have hrw := les_trans hv hrl
      have c4 := dval_L (waresL sh) (les w) hrw
      have hq2 : LP (waresL sh) (restL v (lcont sh l)) = some (q', o'') := hq'
      rw [hq2] at c4
      have hlt := restL_lt hvn (lcont_nn hg hlk) (by rw [lcont_len hg hlk, hvl]) hne
      have hnn := (nn_sum _ (restL_nn v (lcont sh l))).1
      refine ⟨(ls ++ [l], restL v (lcont sh l), q', o''), ?_, ?_, ⟨hrw, hq', fun x hx => ?_, ?_, ?_, ?_⟩, ?_⟩
      · have r0 : resD (some (q, some (wareOf sh l).1)) = .tuple [.int q, lineD l] := rfl
        have hnn : isN (lineD l) = false := rfl
        simp [t_least_1, r0, hnn]
      · have r0 : resD (some (q, some (wareOf sh l).1)) = .tuple [.int q, lineD l] := rfl
        have hb : ls.length < 16777216 := by omega
        have hb2 : (restL v (lcont sh l)).length ≤ 16777216 := by rw [restL_len]; omega
        simp [b_least_1, r0, c1, c2, c3, c4, hb, hb2]
      · rcases List.mem_append.mp hx with hx | hx
        · exact hm x hx
        · simp at hx; subst hx; exact hlm
      · rw [List.map_append, leftW_app, hl]; rfl
      · rw [List.map_append, costW_app]
        have : costW ([l].map (wareOf sh)) = (wareOf sh l).2.2 := by simp [costW]
        simp only
        omega
      · have hlt2 : (restL v (lcont sh l)).sum < v.sum := hlt
        simp only [List.length_append, List.length_singleton]
        omega
      · have hlt2 : (restL v (lcont sh l)).sum < v.sum := hlt
        simp only
        omega) _ ([], w, p, o) (Nat.le_refl _) ⟨les_self hw0, hp, by simp, rfl, by simp [costW], by simp⟩
  obtain ⟨hv, hq, hm, hl, hc, hfew⟩ := hI
  simp only at hv hq hm hl hc hfew hE
  subst hE
  have hvl : v.length = n := by rw [les_len_el hv]; exact hw.len
  obtain ⟨h0, rfl⟩ := LP_none_line hgd hvl (les_nn hv) hq
  exact ⟨ls, v, h, hm, by rw [hl]; exact h0, by omega, by omega⟩
theorem sortLn_perm (ls : List Ln) : (sortLn ls).Perm ls := List.mergeSort_perm _ _
/-- least: None, or the price and a purchase in order -/
theorem least_ok (n : Nat) (hn : n ≤ 4) (sh : List Off) (hg : Good n sh) (hs : sh.length ≤ 10) (w : List Int) (hw : Want n w) :
    (LP (waresL sh) w = none ∧ sem_least [.v (shopD sh), .v (rowD w)] = some (.v .none, [])) ∨
    ∃ p o ls, LP (waresL sh) w = some (p, o) ∧ Buys n sh w p ls ∧ sem_least [.v (shopD sh), .v (rowD w)] = some (.t [oi p, .l ((sortLn ls).map lineO)], []) := by
  have hw0 : NN w := fun x hx => (hw.nine x hx).1
  have h1 := reckoned_ok n hn sh hg hs w hw
  have h2 := dval_L (waresL sh) (les w) (les_self hw0)
  have hb : w.length ≤ 16777216 := by rw [hw.len]; omega
  cases hp : LP (waresL sh) w with
  | none =>
    left
    rw [hp] at h2
    have h2' : dval (tabD resD (tabL (waresL sh) (les w))) (keyI w) = some .none := h2
    refine ⟨rfl, ?_⟩
    simp [un_least, m_least, h1, h2', hb]
  | some x =>
    obtain ⟨p, o⟩ := x
    right
    rw [hp] at h2
    obtain ⟨ls, v, h3, h4⟩ := least_while n hn sh hg hs w hw p o hp
    refine ⟨p, o, ls, rfl, h4, ?_⟩
    have h5 := srt_lineO ls
    have r0 : resD (some (p, o)) = .tuple [.int p, lnD o] := rfl
    rw [r0] at h2 h3
    simp [un_least, m_least, h1, h2, h3, h5, hb]
end Dn

set_option Elab.async false
set_option linter.all false
set_option maxRecDepth 100000
set_option maxHeartbeats 4000000
namespace Dn
open PySem L2
def numD : Option Int → PyData
  | none => .none
  | some p => .int p
theorem number_of_ok (r : Res) : sem_number_of [.v (resD r)] = some (.v (numD (num r)), []) := by
  cases r with
  | none => simp [un_number_of, m_number_of, resD, num, numD]
  | some x =>
    obtain ⟨p, o⟩ := x
    simp [un_number_of, m_number_of, resD, num, numD]
/-- a row of a table -/
abbrev Row := List Int × Option Int
def trowD (r : Row) : PyData := .tuple [rowD r.1, numD r.2]
def trowO (r : Row) : O := .t [rowO r.1, .v (numD r.2)]
@[simp] theorem toD_trow (r : Row) : (trowO r).toD = some (trowD r) := by simp [trowO, trowD]
def caseL (gs : List Wr) (w : List Int) : List Row := (les w).map fun r => (r, num (LP gs r))
theorem casesP_ok (n : Nat) (hn : n ≤ 4) (sh : List Off) (hg : Good n sh) (hs : sh.length ≤ 10) (w : List Int) (hw : Want n w) :
    sem_cases [.v (shopD sh), .v (rowD w)] = some (.l ((caseL (waresL sh) w).map trowO), []) := by
  have h1 := reckoned_ok n hn sh hg hs w hw
  have h3 := lesser_ok w hw.nine (by rw [hw.len]; exact hn)
  have hlen := les_len9 hw.nine (by rw [hw.len]; exact hn)
  have hlc : ∀ x0 x1 : Sl, lcL (.n 3) mYes ce_cases_1 [3] ((les w).map rowO) [x0, x1, .own (.dt (tabD resD (tabL (waresL sh) (les w)))), .no] = some ((les w).map (fun r => trowO (r, num (LP (waresL sh) r))), [x0, x1, .own (.dt (tabD resD (tabL (waresL sh) (les w)))), .no]) := fun x0 x1 => by
    refine lc_map (enc := rowO) _ fun r hr => ?_
    have h2 := dval_L (waresL sh) (les w) hr
    have h4 := number_of_ok (LP (waresL sh) r)
    refine ⟨[x0, x1, .own (.dt (tabD resD (tabL (waresL sh) (les w)))), .own (rowO r)], _, [x0, x1, .own (.dt (tabD resD (tabL (waresL sh) (les w)))), .no], rfl, rfl, ?_, rfl⟩
    have hsc : (r.map PyData.int).all scal = true := by
      rw [List.all_eq_true]
      intro d hd
      obtain ⟨i, _, rfl⟩ := List.mem_map.mp hd
      rfl
    simp [ce_cases_1, hsc, h2, h4, trowO]
  have hb : (les w).length ≤ 16777216 := by omega
  have e0 : (caseL (waresL sh) w).map trowO = (les w).map fun r => trowO (r, num (LP (waresL sh) r)) := by unfold caseL; rw [List.map_map]; rfl
  rw [e0]
  generalize hL : les w = L at *
  simp [un_cases, m_cases, h1, h3, hlc, hb]
end Dn

set_option Elab.async false
set_option linter.all false
set_option maxRecDepth 100000
set_option maxHeartbeats 4000000
namespace Dn
open PySem L2
theorem zeros_ok (m : Int) (e : En) (i : Nat) (h : e[i]? = some .no) (me : MD O) (hme : ∀ e, me e = some (oi 0, e)) : lcL (.n i) mYes me [i] ((List.range m.toNat).map fun (k : Nat) => O.v (.int (k : Int))) e = some ((reps m.toNat 0).map oi, e) := by
  have : (reps m.toNat 0).map oi = (List.range m.toNat).map fun _ => oi 0 := by
    have h2 := reps_eq (List.range m.toNat) 0
    rw [List.length_range] at h2
    rw [← h2, List.map_map]; rfl
  rw [this]
  exact lc_map1 h _ fun k hk e' g1 g2 => hme e'
theorem sumW_app (n : Nat) (ps : List Wr) (g : Wr) : sumW n (ps ++ [g]) = sumL (sumW n ps) g.2.1 := by unfold sumW; rw [List.foldl_append]; rfl
theorem cov_trans {S w v : List Int} (h1 : covB S w = true) (h2 : ∀ p ∈ v.zip w, p.1 ≤ p.2) (hl : v.length = w.length) : covB S v = true := by
  rw [covB_iff] at h1 ⊢
  intro p hp
  obtain ⟨i, hi, rfl⟩ := List.getElem_of_mem hp
  rw [List.length_zip] at hi
  rw [List.getElem_zip]
  simp only
  have a := h2 (v[i]'(by omega), w[i]'(by omega)) (by
    rw [← List.getElem_zip (h := by rw [List.length_zip]; omega)]
    exact List.getElem_mem _)
  have b := h1 (w[i]'(by omega), S[i]'(by omega)) (by
    rw [← List.getElem_zip (h := by rw [List.length_zip]; omega)]
    exact List.getElem_mem _)
  simp only at a b
  omega
theorem fold_sumL (g : Wr → List Int) : ∀ (ls : List Wr) (x z : List Int), sumL x (ls.foldl (fun f l => sumL f (g l)) z) = ls.foldl (fun f l => sumL f (g l)) (sumL x z)
  | [], _, _ => rfl
  | l :: ls, x, z => by
    rw [List.foldl_cons, List.foldl_cons, fold_sumL g ls]
    congr 1
    induction x generalizing z l with
    | nil => simp [sumL]
    | cons a x ih =>
      cases z with
      | nil => simp [sumL]
      | cons b z =>
        cases h : g l with
        | nil => simp [sumL]
        | cons c y =>
          simp only [sumL, List.zip_cons_cons, List.map_cons, List.cons.injEq]
          refine ⟨by omega, ?_⟩
          clear ih h
          induction x generalizing z y with
          | nil => simp
          | cons a' x ih2 =>
            cases z with
            | nil => simp
            | cons b' z =>
              cases y with
              | nil => simp
              | cons c' y =>
                simp only [List.zip_cons_cons, List.map_cons, List.cons.injEq]
                exact ⟨by omega, ih2 z y⟩
theorem sumL_reps : ∀ (x : List Int) (n : Nat), x.length = n → sumL x (reps n 0) = x
  | [], n, h => by simp [sumL]
  | a :: x, n, h => by
    subst h
    have := sumL_reps x x.length rfl
    simp only [sumL, reps, List.length_cons, List.replicate_succ, List.zip_cons_cons, List.map_cons, List.cons.injEq] at this ⊢
    exact ⟨by omega, this⟩
theorem sumW_both {n : Nat} {a b : List Wr} (ha : ∀ g ∈ a, g.2.1.length = n) : sumL (sumW n a) (sumW n b) = sumW n (a ++ b) := by
  have e : sumW n (a ++ b) = b.foldl (fun f g => sumL f g.2.1) (sumW n a) := by unfold sumW; rw [List.foldl_append]
  rw [e]
  show sumL (sumW n a) (b.foldl (fun f g => sumL f g.2.1) (reps n 0)) = _
  rw [fold_sumL (fun g : Wr => g.2.1), sumL_reps _ _ (sumW_len ha)]
theorem fInt_t : fInt [.bool true] = some (.int 1) := id rfl
theorem fInt_f : fInt [.bool false] = some (.int 0) := id rfl
theorem fInt_i (i : Int) : fInt [.int i] = some (.int i) := id rfl
theorem addO_vv2 (d : PyData) (ds : List PyData) (e : PyData) (es : List PyData) : addO [.v (.tuple (d :: ds)), .v (.tuple (e :: es))] = (if (d :: ds).length + (e :: es).length ≤ sizeLine then some (.v (.tuple ((d :: ds) ++ (e :: es)))) else none) := by
  have h : addO [.v (.tuple (d :: ds)), .v (.tuple (e :: es))] = (if (O.v d :: ds.map O.v).length + (O.v e :: es.map O.v).length ≤ sizeLine then tupO ((O.v d :: ds.map O.v) ++ (O.v e :: es.map O.v)) else none) := id rfl
  rw [h]
  by_cases hl : (d :: ds).length + (e :: es).length ≤ sizeLine
  · have hl2 : (O.v d :: ds.map O.v).length + (O.v e :: es.map O.v).length ≤ sizeLine := by simpa using hl
    rw [if_pos hl, if_pos hl2]
    have e1 : (O.v d :: ds.map O.v) ++ (O.v e :: es.map O.v) = ((d :: ds) ++ (e :: es)).map O.v := by simp
    rw [e1]
    have : tupO (((d :: ds) ++ (e :: es)).map O.v) = (if (((d :: ds) ++ (e :: es)).map O.v).length ≤ sizeLine then (match O.allV (((d :: ds) ++ (e :: es)).map O.v) with | some ds => some (.v (.tuple ds)) | none => some (.t (((d :: ds) ++ (e :: es)).map O.v))) else none) := id rfl
    rw [this, if_pos (by rw [List.length_map, List.length_append]; exact hl)]
    have h3 := allV_map (fun x : PyData => x) ((d :: ds) ++ (e :: es))
    simp only [List.map_id'] at h3
    rw [h3]
  · have hl2 : ¬ (O.v d :: ds.map O.v).length + (O.v e :: es.map O.v).length ≤ sizeLine := by simpa using hl
    rw [if_neg hl, if_neg hl2]
theorem addO_v0 (d : PyData) (ds : List PyData) : addO [.v (.tuple (d :: ds)), .v (.tuple [])] = (if (ds.map O.v).length < sizeLine then some (.v (.tuple (d :: ds))) else none) := id rfl
theorem sum_mul (t : Int) : ∀ l : List Int, (l.map (t * ·)).sum = t * l.sum
  | [] => by simp
  | x :: l => by rw [List.map_cons, List.sum_cons, List.sum_cons, sum_mul t l, Int.mul_add]
theorem pre_map {α β : Type} (f : α → β) (gs : List α) : ∀ ps : List β, (∀ g ∈ ps, g ∈ gs.map f) → ∃ qs : List α, (∀ g ∈ qs, g ∈ gs) ∧ qs.map f = ps
  | [], _ => ⟨[], by simp, rfl⟩
  | p :: ps, h => by
    obtain ⟨q, hq, rfl⟩ := List.mem_map.mp (h p (List.mem_cons_self ..))
    obtain ⟨qs, h1, h2⟩ := pre_map f gs ps fun g hg => h g (List.mem_cons_of_mem _ hg)
    refine ⟨q :: qs, fun g hg => ?_, by rw [List.map_cons, h2]⟩
    rcases List.mem_cons.mp hg with rfl | hg
    · exact hq
    · exact h1 g hg
/-! an offer more -/
theorem atI_app (sh : List Off) (o : Off) {k : Nat} (h : k < sh.length) : atI (sh ++ [o]) (k : Int) = atI sh (k : Int) := by
  have h1 : (sh ++ [o])[k]? = some sh[k] := by rw [List.getElem?_append_left h]; exact List.getElem?_eq_getElem h
  rw [atI_nat rfl h1, atI_nat rfl (List.getElem?_eq_getElem h)]
theorem addsL_app (sh : List Off) (c : List Int) (p : Int) (i : Int) : addsL (sh ++ [.pack c p]) i = addsL sh i := by
  unfold addsL
  rw [List.zipIdx_append, List.filter_append]
  simp [isAddOf]
theorem addsL_lt {sh : List Off} {i a : Int} (h : a ∈ addsL sh i) : ∃ k : Nat, a = (k : Int) ∧ k < sh.length := by
  unfold addsL at h
  obtain ⟨p, hp, rfl⟩ := List.mem_map.mp h
  have h1 := zipIdx_get (List.mem_filter.mp hp).1
  exact ⟨p.2, rfl, (List.getElem?_eq_some_iff.mp h1).1⟩
theorem linesL_places {sh : List Off} {l : Ln} (h : l ∈ linesL sh) : (∃ k : Nat, l.1 = (k : Int) ∧ k < sh.length) ∧ ∀ a ∈ l.2.2, ∃ k : Nat, a = (k : Int) ∧ k < sh.length := by
  unfold linesL at h
  obtain ⟨⟨o, i⟩, hp, hl⟩ := List.mem_flatMap.mp h
  have hi := (List.getElem?_eq_some_iff.mp (zipIdx_get hp)).1
  simp only at hl hi
  cases o with
  | pack c p =>
    obtain ⟨a, ha, rfl⟩ := List.mem_map.mp hl
    exact ⟨⟨i, rfl, hi⟩, fun x hx => addsL_lt ((choicesL_mem ha).subset hx)⟩
  | many c ts =>
    obtain ⟨a, ha, rfl⟩ := List.mem_map.mp hl
    exact ⟨⟨i, rfl, hi⟩, fun x hx => by cases hx⟩
  | add c p k => cases hl
theorem wareOf_app {sh : List Off} (c : List Int) (p : Int) {l : Ln} (h : l ∈ linesL sh) : wareOf (sh ++ [.pack c p]) l = wareOf sh l := by
  obtain ⟨⟨k, hk, hkl⟩, ha⟩ := linesL_places h
  have hc : ∀ a : Int, (∃ k : Nat, a = (k : Int) ∧ k < sh.length) → cAt (sh ++ [.pack c p]) a = cAt sh a ∧ pAt (sh ++ [.pack c p]) a = pAt sh a := fun a ⟨k, e, hk⟩ => by
    subst e
    unfold cAt pAt
    rw [atI_app sh _ hk]
    exact ⟨rfl, rfl⟩
  have h0 := hc l.1 ⟨k, hk, hkl⟩
  have h1 : lcont (sh ++ [.pack c p]) l = lcont sh l := by
    unfold lcont
    rw [h0.1]
    generalize scaleL l.2.1 (cAt sh l.1) = z
    generalize hA : l.2.2 = A at ha
    clear hA
    induction A generalizing z with
    | nil => rfl
    | cons a A ih =>
      rw [List.foldl_cons, List.foldl_cons, (hc a (ha a (List.mem_cons_self ..))).1]
      exact ih _ (fun x hx => ha x (List.mem_cons_of_mem _ hx))
  have h2 : lprice (sh ++ [.pack c p]) l = lprice sh l := by
    unfold lprice
    rw [hk, atI_app sh _ hkl]
    have : l.2.2.map (pAt (sh ++ [.pack c p])) = l.2.2.map (pAt sh) := List.map_congr_left fun a h => (hc a (ha a h)).2
    rw [this]
  unfold wareOf
  rw [h1, h2]
theorem wares_app {sh : List Off} (c : List Int) (p : Int) {g : Wr} (h : g ∈ waresL sh) : g ∈ waresL (sh ++ [.pack c p]) := by
  obtain ⟨l, hl, rfl⟩ := List.mem_map.mp h
  refine List.mem_map.mpr ⟨l, ?_, wareOf_app c p hl⟩
  unfold linesL at hl ⊢
  obtain ⟨⟨o, i⟩, hp, hm⟩ := List.mem_flatMap.mp hl
  refine List.mem_flatMap.mpr ⟨(o, i), by rw [List.zipIdx_append]; exact List.mem_append_left _ hp, ?_⟩
  cases o with
  | pack c' p' =>
    simp only [linesAt] at hm ⊢
    rw [addsL_app]
    exact hm
  | many c' ts => exact hm
  | add c' p' k => exact hm
/-- lesser wants cost no more; two wants together no more than both -/
theorem LP_mono {n : Nat} {gs : List Wr} (hg : Gds n gs) {w v : List Int} (hl : w.length = n) (hw : NN w) (hv : v ∈ les w) {p : Int} {o : Option Ln} (h : LP gs w = some (p, o)) : ∃ q o', LP gs v = some (q, o') ∧ q ≤ p := by
  obtain ⟨ps, a, b, rfl⟩ := LP_is hg _ w hl hw rfl p o h
  have h1 : ∀ g ∈ ps, g.2.1.length = n := fun g hg2 => hg.len g (a g hg2)
  have h2 : ∀ g ∈ ps, NN g.2.1 := fun g hg2 => hg.nn g (a g hg2)
  have hvl : v.length = n := by rw [les_len_el hv]; exact hl
  have hc := (cov_iff hl hw h1 h2).mp b
  have hc2 : covB (sumW n ps) v = true := by
    rw [covB_iff] at hc ⊢
    intro q hq
    obtain ⟨i, hi, rfl⟩ := List.getElem_of_mem hq
    rw [List.length_zip] at hi
    rw [List.getElem_zip]
    simp only
    have x := (les_mem.mp hv).2 (v[i]'(by omega), w[i]'(by omega)) (by
      rw [← List.getElem_zip (h := by rw [List.length_zip]; omega)]
      exact List.getElem_mem _)
    have y := hc (w[i]'(by omega), (sumW n ps)[i]'(by omega)) (by
      rw [← List.getElem_zip (h := by rw [List.length_zip]; omega)]
      exact List.getElem_mem _)
    simp only at x y
    omega
  exact LP_le hg ps v hvl (les_nn hv) a ((cov_iff hvl (les_nn hv) h1 h2).mpr hc2)
@[simp] theorem isN_num (b : Option Int) : isN (numD b) = b.isNone := by cases b <;> rfl
/-- two wants together cost no more than both -/
theorem LP_add {n : Nat} {gs : List Wr} (hg : Gds n gs) {w a b : List Int} (hl : w.length = n) (hw : NN w) (hal : a.length = n) (ha : NN a) (hbl : b.length = n) (hb : NN b) (hs : sumL a b = w) {p q : Int} {o o' : Option Ln} (h1 : LP gs a = some (p, o)) (h2 : LP gs b = some (q, o')) : ∃ r o'', LP gs w = some (r, o'') ∧ r ≤ p + q := by
  obtain ⟨ps, a1, a2, rfl⟩ := LP_is hg _ a hal ha rfl p o h1
  obtain ⟨qs, b1, b2, rfl⟩ := LP_is hg _ b hbl hb rfl q o' h2
  have l1 : ∀ g ∈ ps, g.2.1.length = n := fun g hg2 => hg.len g (a1 g hg2)
  have n1 : ∀ g ∈ ps, NN g.2.1 := fun g hg2 => hg.nn g (a1 g hg2)
  have l2 : ∀ g ∈ qs, g.2.1.length = n := fun g hg2 => hg.len g (b1 g hg2)
  have n2 : ∀ g ∈ qs, NN g.2.1 := fun g hg2 => hg.nn g (b1 g hg2)
  have c1 := (cov_iff hal ha l1 n1).mp a2
  have c2 := (cov_iff hbl hb l2 n2).mp b2
  have hm : ∀ g ∈ ps ++ qs, g ∈ gs := fun g h => (List.mem_append.mp h).elim (a1 g) (b1 g)
  have l3 : ∀ g ∈ ps ++ qs, g.2.1.length = n := fun g h => hg.len g (hm g h)
  have n3 : ∀ g ∈ ps ++ qs, NN g.2.1 := fun g h => hg.nn g (hm g h)
  have c3 : covB (sumW n (ps ++ qs)) w = true := by
    rw [← sumW_both l1, ← hs]
    have e1 := sumW_len l1
    have e2 := sumW_len l2
    generalize sumW n ps = A at c1 e1
    generalize sumW n qs = B at c2 e2
    rw [covB_iff] at c1 c2 ⊢
    intro x hx
    obtain ⟨i, hi, rfl⟩ := List.getElem_of_mem hx
    rw [List.length_zip, sumL_len, sumL_len] at hi
    rw [List.getElem_zip]
    simp only [sumL, List.getElem_map, List.getElem_zip]
    have y := c1 (a[i]'(by omega), A[i]'(by omega)) (by
      rw [← List.getElem_zip (h := by rw [List.length_zip]; omega)]
      exact List.getElem_mem _)
    have z := c2 (b[i]'(by omega), B[i]'(by omega)) (by
      rw [← List.getElem_zip (h := by rw [List.length_zip]; omega)]
      exact List.getElem_mem _)
    simp only at y z
    omega
  obtain ⟨r, o'', e, l⟩ := LP_le hg (ps ++ qs) w hl hw hm ((cov_iff hl hw l3 n3).mpr c3)
  exact ⟨r, o'', e, by rw [costW_app] at l; exact l⟩
end Dn

set_option Elab.async false
set_option linter.all false
set_option maxRecDepth 100000
set_option maxHeartbeats 4000000
namespace Dn
open PySem L2
theorem strOk_iff (x : Str) : PyData.strOk x = true ↔ ∀ c ∈ x.cps.toList, c < 0x110000 := by
  unfold PyData.strOk
  rw [← Array.all_toList, List.all_eq_true]
  simp
theorem strOk_app {a b : Str} (h1 : PyData.strOk a = true) (h2 : PyData.strOk b = true) : PyData.strOk (a ++ b) = true := by
  rw [strOk_iff] at *
  intro c hc
  rw [Str.cps_append, Array.toList_append, List.mem_append] at hc
  rcases hc with hc | hc
  · exact h1 c hc
  · exact h2 c hc
theorem strOk_of (s : String) : PyData.strOk (Str.ofString s) = true := by
  rw [strOk_iff]
  intro c hc
  rw [PyProof.Rows.signs_ofString] at hc
  obtain ⟨ch, _, rfl⟩ := List.mem_map.mp hc
  have := ch.valid
  rcases this with h | ⟨_, h⟩
  · have : ch.val.toNat < 0xd800 := h
    show ch.val.toNat < _
    omega
  · exact h
theorem strOk_from : ∀ (ts : List Str) (k : Nat) (acc : Str), PyData.strOk acc = true → (∀ t ∈ ts, PyData.strOk t = true) → PyData.strOk (textFrom k acc ts) = true
  | [], k, acc, h, _ => h
  | t :: r, k, acc, h, ht => strOk_from r (k + 1) _ (strOk_app (strOk_app h (by split <;> exact strOk_of _)) (ht t (List.mem_cons_self ..))) fun x hx => ht x (List.mem_cons_of_mem _ hx)
theorem strOk_join : ∀ (ts : List Str), (∀ t ∈ ts, PyData.strOk t = true) → PyData.strOk (Str.join ", " ts) = true
  | [], _ => strOk_of ""
  | [x], h => h x (List.mem_cons_self ..)
  | x :: y :: r, h => strOk_app (strOk_app (h x (List.mem_cons_self ..)) (strOk_of _)) (strOk_join (y :: r) fun z hz => h z (List.mem_cons_of_mem _ hz))
theorem strOk_all {ds : List PyData} (h : ∀ d ∈ ds, PyData.strOk d.shown = true) : ∀ t ∈ PyData.shownAll ds, PyData.strOk t = true := by
  induction ds with
  | nil => intro t ht; cases ht
  | cons d ds ih =>
    intro t ht
    rcases List.mem_cons.mp (show t ∈ d.shown :: PyData.shownAll ds from ht) with rfl | ht
    · exact h d (List.mem_cons_self ..)
    · exact ih (fun x hx => h x (List.mem_cons_of_mem _ hx)) t ht
theorem strOk_list {ds : List PyData} (h : ∀ d ∈ ds, PyData.strOk d.shown = true) : PyData.strOk (PyData.shown (.list ds)) = true :=
  strOk_app (strOk_from _ _ _ (strOk_of _) (strOk_all h)) (strOk_of _)
theorem strOk_tuple {ds : List PyData} (h : ∀ d ∈ ds, PyData.strOk d.shown = true) : PyData.strOk (PyData.shown (.tuple ds)) = true :=
  strOk_app (strOk_app (strOk_of _) (strOk_join _ (strOk_all h))) (strOk_of _)
/-! data whose text is not too long -/
structure Sm (W k : Nat) (d : PyData) : Prop where
  shw : d.showable = true
  nod : d.hasDict = false
  shr : d.leavesShort 20 = true
  wt : d.weight ≤ W
  dp : d.depth ≤ k
  txt : PyData.strOk d.shown = true
theorem Sm.mono {W W' k k' : Nat} {d : PyData} (h : Sm W k d) (h1 : W ≤ W') (h2 : k ≤ k') : Sm W' k' d := ⟨h.shw, h.nod, h.shr, Nat.le_trans h.wt h1, Nat.le_trans h.dp h2, h.txt⟩
theorem sm_none : Sm 0 0 .none := ⟨rfl, rfl, rfl, Nat.le_refl _, Nat.le_refl _, strOk_of _⟩
theorem sm_bool (b : Bool) : Sm 0 0 (.bool b) := ⟨rfl, rfl, rfl, Nat.le_refl _, Nat.le_refl _, by cases b <;> exact strOk_of _⟩
theorem sm_int {i : Int} (h : i.natAbs < 10 ^ 18) : Sm 60 0 (.int i) := by
  have hlog : i.natAbs.log2 ≤ 59 := by
    by_cases h0 : i.natAbs = 0
    · rw [h0]; decide
    · have h1 : i.natAbs < 2 ^ 60 := Nat.lt_trans h (by decide)
      have := (Nat.log2_lt h0).mpr h1
      omega
  refine ⟨?_, rfl, ?_, ?_, Nat.le_refl _, strOk_of _⟩
  · show decide (i.natAbs.log2 < 1920) = true
    exact decide_eq_true (by omega)
  · show decide ((PyData.shown (.int i)).length ≤ 20) = true
    have e := int_text_length_le10 (k := 18) (by decide) h
    refine decide_eq_true ?_
    show (Str.ofString (toString i)).length ≤ 20
    rw [ofString_length]
    omega
  · show (if i == 0 then 0 else i.natAbs.log2 + 1) ≤ 60
    split <;> omega
theorem sm_all {W k : Nat} : ∀ {ds : List PyData}, (∀ d ∈ ds, Sm W k d) → PyData.showableAll ds = true ∧ PyData.hasDictAll ds = false ∧ PyData.leavesShortAll 20 ds = true ∧ PyData.weightAll ds ≤ ds.length * (W + 1) ∧ PyData.depthAll ds ≤ k
  | [], _ => ⟨rfl, rfl, rfl, Nat.zero_le _, Nat.zero_le _⟩
  | d :: ds, h => by
    have hd := h d (List.mem_cons_self ..)
    obtain ⟨a, b, c, e, f⟩ := sm_all fun x hx => h x (List.mem_cons_of_mem _ hx)
    refine ⟨?_, ?_, ?_, ?_, ?_⟩
    · show (d.showable && PyData.showableAll ds) = true
      rw [hd.shw, a]; rfl
    · show (d.hasDict || PyData.hasDictAll ds) = false
      rw [hd.nod, b]; rfl
    · show (d.leavesShort 20 && PyData.leavesShortAll 20 ds) = true
      rw [hd.shr, c]; rfl
    · show d.weight + 1 + PyData.weightAll ds ≤ (ds.length + 1) * (W + 1)
      have := hd.wt
      rw [Nat.add_mul]
      omega
    · rw [depthAll_le]
      intro x hx
      exact (h x hx).dp
theorem sm_list {W k : Nat} {ds : List PyData} (h : ∀ d ∈ ds, Sm W k d) {n : Nat} (hn : ds.length ≤ n) : Sm (n * (W + 1)) (k + 1) (.list ds) := by
  obtain ⟨a, b, c, e, f⟩ := sm_all h
  exact ⟨a, b, c, Nat.le_trans e (Nat.mul_le_mul_right _ hn), by rw [depth_list]; exact fun d hd => (h d hd).dp, strOk_list fun d hd => (h d hd).txt⟩
theorem sm_tuple {W k : Nat} {ds : List PyData} (h : ∀ d ∈ ds, Sm W k d) {n : Nat} (hn : ds.length ≤ n) : Sm (n * (W + 1)) (k + 1) (.tuple ds) := by
  obtain ⟨a, b, c, e, f⟩ := sm_all h
  exact ⟨a, b, c, Nat.le_trans e (Nat.mul_le_mul_right _ hn), by rw [depth_tuple]; exact fun d hd => (h d hd).dp, strOk_tuple fun d hd => (h d hd).txt⟩
theorem sm_fit {W k : Nat} {d : PyData} (h : Sm W k d) (hW : W ≤ 700000) (hk : k ≤ 60) : strFit d = true := by
  have h1 := PyData.shown_le 20 (by decide) d h.shr
  have h2 : d.shown.length ≤ 16777216 := by
    have := h.wt
    have : (20 + 2) * d.weight ≤ 22 * 700000 := Nat.mul_le_mul_left _ (by omega)
    omega
  unfold strFit
  rw [h.shw, h.nod]
  simp only [Bool.not_false, Bool.and_self, Bool.true_and, Bool.and_eq_true, decide_eq_true_eq]
  exact ⟨Nat.le_trans h.dp hk, h2⟩
theorem fStrD_l {ds : List PyData} (h : strFit (.list ds) = true) : fStrD [.list ds] = some (.str (PyData.shown (.list ds))) := by
  show (if shut (strFit (.list ds)) = true then some (PyData.str (PyData.shown (.list ds))) else none) = _
  rw [shut_eq, if_pos h]
theorem fStrD_t {ds : List PyData} (h : strFit (.tuple ds) = true) : fStrD [.tuple ds] = some (.str (PyData.shown (.tuple ds))) := by
  show (if shut (strFit (.tuple ds)) = true then some (PyData.str (PyData.shown (.tuple ds))) else none) = _
  rw [shut_eq, if_pos h]
theorem fStrD_i {i : Int} (h : i.natAbs < 10 ^ 18) : fStrD [.int i] = some (.str (toString i)) := by
  show (if shut (decide (i.natAbs.log2 < 1920)) = true then some (PyData.str (toString i)) else none) = _
  rw [shut_eq, if_pos]
  exact decide_eq_true (by
    have := (sm_int h).shw
    exact of_decide_eq_true this)
theorem sm_str {x : Str} {n : Nat} (h : x.cps.toList.all (fun c => decide (c < 16 ^ 8)) = true) (hl : x.cps.size ≤ n) (ht : PyData.strOk (reprText x) = true) : Sm n 0 (.str x) := ⟨rfl, rfl, h, hl, Nat.le_refl _, ht⟩
theorem sm_row {n B : Nat} {r : List Int} (hl : r.length ≤ n) (h : ∀ x ∈ r, x.natAbs < 10 ^ 18) : Sm (n * 61) 1 (rowD r) := by
  refine sm_list (W := 60) (k := 0) (fun d hd => ?_) (by rw [List.length_map]; exact hl)
  obtain ⟨i, hi, rfl⟩ := List.mem_map.mp hd
  exact sm_int (h i hi)
theorem kd_sm (o : Off) : Sm 10 0 (.str o.kd) := by
  cases o
  · exact sm_str (show ("pack" : Str).cps.toList.all (fun c => decide (c < 16 ^ 8)) = true by decide +kernel) (show ("pack" : Str).cps.size ≤ 10 by decide +kernel) (show PyData.strOk (reprText ("pack" : Str)) = true by decide +kernel)
  · exact sm_str (show ("many" : Str).cps.toList.all (fun c => decide (c < 16 ^ 8)) = true by decide +kernel) (show ("many" : Str).cps.size ≤ 10 by decide +kernel) (show PyData.strOk (reprText ("many" : Str)) = true by decide +kernel)
  · exact sm_str (show ("add" : Str).cps.toList.all (fun c => decide (c < 16 ^ 8)) = true by decide +kernel) (show ("add" : Str).cps.size ≤ 10 by decide +kernel) (show PyData.strOk (reprText ("add" : Str)) = true by decide +kernel)
theorem off_sm {n : Nat} {sh : List Off} {i : Nat} {o : Off} (hg : GoodO n sh i o) (hn : n ≤ 4) (hi : i ≤ 100) : Sm 4000 3 o.d := by
  have hk := kd_sm o
  have hc : Sm 244 1 (rowD o.c) := by
    have := sm_row (n := 4) (B := 0) (r := o.c) (by rw [hg.w.len]; exact hn) (fun x hx => by
      have := hg.w.nine x hx
      have h9 : x.natAbs ≤ 9 := by omega
      exact Nat.lt_of_le_of_lt h9 (by decide))
    exact this
  have ip : ∀ p : Int, 0 ≤ p ∧ p < 2000000000000 → Sm 60 0 (.int p) := fun p h => sm_int (by
    have : p.natAbs < 2000000000000 := by omega
    exact Nat.lt_trans this (by decide))
  cases o with
  | pack c p =>
    have hp : 0 ≤ p ∧ p < 1000000000000 := hg.kind
    refine (sm_tuple (W := 244) (k := 1) (n := 4) (ds := [.str "pack", .list (c.map .int), .int p]) (fun d hd => ?_) (by simp)).mono (by decide) (by decide)
    simp only [List.mem_cons, List.not_mem_nil, or_false] at hd
    rcases hd with rfl | rfl | rfl
    · exact hk.mono (by decide) (by decide)
    · exact hc
    · exact (ip p ⟨hp.1, by omega⟩).mono (by decide) (by decide)
  | many c ts =>
    have ht : Tiers ts := hg.kind
    have hts : Sm 500 2 (.list (ts.map tierD)) := by
      refine (sm_list (W := 122) (k := 1) (n := 4) (fun d hd => ?_) (by rw [List.length_map]; exact ht.len.2)).mono (by decide) (by decide)
      obtain ⟨x, hx, rfl⟩ := List.mem_map.mp hd
      refine sm_tuple (W := 60) (k := 0) (n := 2) (ds := [.int x.1, .int x.2]) (fun d hd => ?_) (by simp)
      simp only [List.mem_cons, List.not_mem_nil, or_false] at hd
      rcases hd with rfl | rfl
      · have := ht.most x hx
        exact ip x.1 ⟨by omega, by omega⟩
      · exact ip x.2 (ht.price x hx)
    refine (sm_tuple (W := 500) (k := 2) (n := 4) (ds := [.str "many", .list (c.map .int), .list (ts.map tierD)]) (fun d hd => ?_) (by simp)).mono (by decide) (by decide)
    simp only [List.mem_cons, List.not_mem_nil, or_false] at hd
    rcases hd with rfl | rfl | rfl
    · exact hk.mono (by decide) (by decide)
    · exact hc.mono (by decide) (by decide)
    · exact hts
  | add c p k =>
    obtain ⟨hp, h0, h1, _⟩ := hg.kind
    refine (sm_tuple (W := 244) (k := 1) (n := 4) (ds := [.str "add", .list (c.map .int), .int p, .int k]) (fun d hd => ?_) (by simp)).mono (by decide) (by decide)
    simp only [List.mem_cons, List.not_mem_nil, or_false] at hd
    rcases hd with rfl | rfl | rfl | rfl
    · exact hk.mono (by decide) (by decide)
    · exact hc
    · exact (ip p ⟨hp.1, by omega⟩).mono (by decide) (by decide)
    · exact (ip k ⟨h0, by omega⟩).mono (by decide) (by decide)
theorem shop_sm {n : Nat} {sh : List Off} (hg : Good n sh) (hn : n ≤ 4) (hs : sh.length ≤ 10) : Sm 50000 4 (shopD sh) := by
  refine (sm_list (W := 4000) (k := 3) (n := 10) (fun d hd => ?_) (by rw [List.length_map]; exact hs)).mono (by decide) (by decide)
  obtain ⟨o, ho, rfl⟩ := List.mem_map.mp hd
  obtain ⟨i, hi⟩ := List.getElem?_of_mem ho
  have hl := (List.getElem?_eq_some_iff.mp hi).1
  exact off_sm (hg i o hi) hn (by omega)
theorem want_sm {n : Nat} {w : List Int} (hw : Want n w) (hn : n ≤ 4) : Sm 250 1 (rowD w) :=
  (sm_row (n := 4) (B := 0) (by rw [hw.len]; exact hn) (fun x hx => by
    have := hw.nine x hx
    have h9 : x.natAbs ≤ 9 := by omega
    exact Nat.lt_of_le_of_lt h9 (by decide))).mono (by decide) (by decide)
/-! how great the numbers are -/
theorem LP_bound {n : Nat} {gs : List Wr} (hg : Gds n gs) {M : Int} (hM : ∀ g ∈ gs, g.2.2 ≤ M) (hM0 : 0 ≤ M) : ∀ (m : Nat) (w : List Int), w.length = n → NN w → w.sum.toNat = m → ∀ p o, LP gs w = some (p, o) → 0 ≤ p ∧ p ≤ m * M := by
  intro m
  induction m using Nat.strongRecOn with
  | ind m ih =>
    intro w hl hw hm p o h
    rw [LP_eq hg hl hw] at h
    by_cases h0 : w.sum = 0
    · rw [if_pos h0] at h
      cases h
      exact ⟨Int.le_refl _, Int.mul_nonneg (by omega) hM0⟩
    · rw [if_neg h0] at h
      rcases best_in gs (LP gs) w none p o h with h1 | ⟨g, hgm, _, hne, q, o', e, rfl⟩
      · cases h1
      · have hlt := restL_lt hw (hg.nn g hgm) (by rw [hl, hg.len g hgm]) hne
        have hnn := (nn_sum _ (restL_nn w g.2.1)).1
        obtain ⟨a, b⟩ := ih (restL w g.2.1).sum.toNat (by omega) _ (restL_len' hl (hg.len g hgm)) (restL_nn _ _) rfl q o' e
        have h1 := hM g hgm
        have h2 := hg.pos g hgm
        refine ⟨by omega, ?_⟩
        have h3 : ((restL w g.2.1).sum.toNat : Int) + 1 ≤ (m : Int) := by omega
        have h4 : (((restL w g.2.1).sum.toNat : Int) + 1) * M ≤ (m : Int) * M := Int.mul_le_mul_of_nonneg_right h3 hM0
        rw [Int.add_mul] at h4
        omega
theorem lprice_le {n : Nat} {sh : List Off} (hg : Good n sh) (hs : sh.length ≤ 10) {l : Ln} (hl : l ∈ linesL sh) : lprice sh l ≤ 100000000000000 := by
  have hk := linesL_ok hs hl
  obtain ⟨o, ho, hna⟩ := hk.place
  obtain ⟨i, hgo⟩ := hg.at ho
  have hc := hk.count
  unfold lprice
  rw [ho]
  cases o with
  | pack c p =>
    have hkd : 0 ≤ p ∧ p < 1000000000000 := hgo.kind
    have hlen : l.2.2.length ≤ 10 := by
      have h9 : ∀ l ∈ linesL sh, l.2.2.length ≤ 10 := fun l hl => by
        unfold linesL at hl
        obtain ⟨⟨o, j⟩, hp, hm⟩ := List.mem_flatMap.mp hl
        cases o with
        | pack c p =>
          obtain ⟨a, ha, rfl⟩ := List.mem_map.mp hm
          have h7 := (choicesL_mem ha).length_le
          have h8 := addsL_len sh (j : Int)
          simp only at h7 ⊢
          omega
        | many c ts => obtain ⟨a, ha, rfl⟩ := List.mem_map.mp hm; simp
        | add c p k => cases hm
      exact h9 l hl
    have : ∀ (as : List Int), (∀ a ∈ as, ∃ c p k, atI sh a = some (.add c p k)) → (as.map (pAt sh)).sum ≤ as.length * 1000000000000 := by
      intro as
      induction as with
      | nil => intro _; simp
      | cons a as ih =>
        intro h
        obtain ⟨c', p', k', h'⟩ := h a (List.mem_cons_self ..)
        obtain ⟨j, hj⟩ := hg.at h'
        have hk2 : (0 ≤ p' ∧ p' < 1000000000000) ∧ _ := hj.kind
        have hpa : pAt sh a = p' := by unfold pAt; rw [h']
        have := ih fun x hx => h x (List.mem_cons_of_mem _ hx)
        have := hk2.1.2
        simp only [List.map_cons, List.sum_cons, List.length_cons, hpa]
        push_cast
        omega
    have h2 := this l.2.2 hk.adds
    simp only
    omega
  | many c ts =>
    have ht : Tiers ts := hgo.kind
    have : tierP ts l.2.1 ≤ 2000000000000 := by
      rw [tierP_fold]
      have : ∀ (l' : List (Int × Int)) (d : Int), (∀ t ∈ l', t.2 ≤ 2000000000000) → d ≤ 2000000000000 → l'.foldl (fun e t => if t.1 ≤ l.2.1 then t.2 else e) d ≤ 2000000000000 := by
        intro l'
        induction l' with
        | nil => intro d _ hd; exact hd
        | cons t l' ih =>
          intro d hl2 hd
          rw [List.foldl_cons]
          refine ih _ (fun t' ht' => hl2 t' (List.mem_cons_of_mem _ ht')) ?_
          split
          · exact hl2 t (List.mem_cons_self ..)
          · exact hd
      exact this ts 0 (fun t ht' => by have := (ht.price t ht').2; omega) (by decide)
    have h0 := tierP_nn ht l.2.1
    simp only
    have h3 : l.2.1 * tierP ts l.2.1 ≤ 12 * tierP ts l.2.1 := Int.mul_le_mul_of_nonneg_right hc.2 h0
    omega
  | add c p k => simp only; omega
theorem sum36 {n : Nat} {w : List Int} (hw : Want n w) (hn : n ≤ 4) : w.sum.toNat ≤ 36 := by
  have : ∀ (u : List Int), (∀ x ∈ u, 0 ≤ x ∧ x ≤ 9) → u.sum ≤ 9 * u.length := by
    intro u
    induction u with
    | nil => intro _; simp
    | cons x u ih =>
      intro h
      have h1 := h x (List.mem_cons_self ..)
      have h2 := ih fun y hy => h y (List.mem_cons_of_mem _ hy)
      simp; omega
  have h1 := this w hw.nine
  rw [hw.len] at h1
  omega
theorem want_les {n : Nat} {w v : List Int} (hw : Want n w) (hv : v ∈ les w) : Want n v := ⟨by rw [les_len_el hv]; exact hw.len, fun x hx => by
  obtain ⟨i, hi, rfl⟩ := List.getElem_of_mem hx
  have hvl := les_len_el hv
  have h6 := (les_mem.mp hv).2 (v[i], w[i]'(by omega)) (by
    rw [← List.getElem_zip (h := by rw [List.length_zip]; omega)]
    exact List.getElem_mem _)
  have h7 := hw.nine (w[i]'(by omega)) (List.getElem_mem _)
  simp only at h6
  omega⟩
theorem LP_small {n : Nat} (hn : n ≤ 4) {sh : List Off} (hg : Good n sh) (hs : sh.length ≤ 10) {w : List Int} (hw : Want n w) {p : Int} {o : Option Ln} (h : LP (waresL sh) w = some (p, o)) : 0 ≤ p ∧ p ≤ 10000000000000000 := by
  have hw0 : NN w := fun x hx => (hw.nine x hx).1
  obtain ⟨a, b⟩ := LP_bound (gds_wares hg hs) (M := 100000000000000) (fun g h => by
    obtain ⟨l, hl, rfl⟩ := List.mem_map.mp h
    exact lprice_le hg hs hl) (by decide) _ w hw.len hw0 rfl p o h
  have h36 := sum36 hw hn
  refine ⟨a, ?_⟩
  have : (w.sum.toNat : Int) * 100000000000000 ≤ 36 * 100000000000000 := Int.mul_le_mul_of_nonneg_right (by omega) (by decide)
  omega
end Dn

set_option Elab.async false
set_option linter.all false
set_option maxRecDepth 100000
set_option maxHeartbeats 4000000
namespace Dn
open PySem L2
/-- a for that hands back where a test fails -/
theorem for_all {α : Type} {tg : Tg} {body : MS} {enc : α → O} {e : En} (p : α → Bool) (er : α → En) (y : O) : ∀ (xs : List α), (∀ x ∈ xs, ∃ e1, asg tg (enc x) e = some e1 ∧ body e1 = if p x then some (.nx e) else some (.rt y (er x))) →
    (xs.all p = true ∧ forL tg body (xs.map enc) e = some (.nx e)) ∨ (xs.all p = false ∧ ∃ x, forL tg body (xs.map enc) e = some (.rt y (er x)))
  | [], _ => .inl ⟨rfl, rfl⟩
  | x :: xs, h => by
    obtain ⟨e1, h1, h2⟩ := h x (List.mem_cons_self ..)
    rw [List.map_cons, List.all_cons]
    cases hp : p x with
    | true =>
      rw [hp, if_pos rfl] at h2
      rcases for_all p er y xs fun z hz => h z (List.mem_cons_of_mem _ hz) with ⟨a, b⟩ | ⟨a, z, b⟩
      · exact .inl ⟨by rw [a]; rfl, by simp only [forL, h1, h2, b]⟩
      · exact .inr ⟨by rw [a]; rfl, z, by simp only [forL, h1, h2, b]⟩
    | false =>
      rw [hp, if_neg Bool.false_ne_true] at h2
      exact .inr ⟨rfl, x, by simp only [forL, h1, h2]⟩
def okB (here there : Option Int) (price : Int) : Bool := match there with
  | none => true
  | some t => (match here with
    | none => false
    | some h => decide (h ≤ price + t))
theorem line_shows_ok (kvs : List (List Key × PyData)) (w c : List Int) (price : Int) (hw : w.length ≤ 1000) (here there : Option Int) (h1 : dval kvs (keyI w) = some (numD here)) (h2 : dval kvs (keyI (restL w c)) = some (numD there)) :
    sem_line_shows [.dt kvs, .v (rowD w), .v (rowD c), oi price] = some (.v (.bool (okB here there price)), [.dt kvs]) := by
  have hr := rest_ok w c hw
  have hb1 : w.length ≤ 16777216 := by omega
  have hb2 : (restL w c).length ≤ 16777216 := by rw [restL_len]; omega
  cases there with
  | none =>
    have h2' : dval kvs (keyI (restL w c)) = some .none := h2
    simp [un_line_shows, m_line_shows, h1, hr, h2', hb1, hb2, okB]
  | some t =>
    have h2' : dval kvs (keyI (restL w c)) = some (.int t) := h2
    cases here with
    | none =>
      have h1' : dval kvs (keyI w) = some .none := h1
      simp [un_line_shows, m_line_shows, h1', hr, h2', hb1, hb2, okB]
    | some h =>
      have h1' : dval kvs (keyI w) = some (.int h) := h1
      simp [un_line_shows, m_line_shows, h1', hr, h2', hb1, hb2, okB]
def getT (tab : List Row) (r : List Int) : Option Int := (tabGet tab r).getD none
def showsB (gs : List Wr) (tab : List Row) (w : List Int) : Bool := gs.all fun g => okB (getT tab w) (getT tab (restL w g.2.1)) g.2.2
def negB : Option Int → Bool
  | some k => decide (k ≤ 0)
  | none => false
def firstB : List Row → Bool
  | r :: _ => negB r.2
  | [] => false
/-- whether a table shows -/
def showsT (gs : List Wr) (wants : List (List Int)) (tab : List Row) : Bool := decide (tab.map (·.1) = wants) && firstB tab && wants.all (showsB gs tab)
theorem tabGet_row {tab : List Row} {r : List Int} (h : r ∈ tab.map (·.1)) : dval (tabD numD tab) (keyI r) = some (numD (getT tab r)) := by
  rw [dval_tab]
  obtain ⟨v, h1, _⟩ := tabGet_mem h
  unfold getT
  rw [h1]
  rfl
theorem rowD_inj {a b : List Int} (h : rowD a = rowD b) : a = b := by
  simp only [rowD, PyData.list.injEq] at h
  exact (map_int_inj _ _).mp h
theorem rowsD_inj {a b : List (List Int)} (h : a.map rowD = b.map rowD) : a = b := (List.map_inj_right (f := rowD) fun x y => rowD_inj).mp h
theorem fNe_rows (a b : List (List Int)) : fNe [.list (a.map rowD), .list (b.map rowD)] = some (.bool (!decide (a = b))) := by
  have h1 : nb (.list (a.map rowD)) 3 = true := by simp
  have h2 : nb (.list (b.map rowD)) 3 = true := by simp
  obtain ⟨a1, a2⟩ := nb_shape 3 _ h1
  obtain ⟨b1, b2⟩ := nb_shape 3 _ h2
  have h3 := eqv_iff 3 (.list (a.map rowD)) (.list (b.map rowD)) h1 h2
  rw [fNe_ap, shaped_eq, shaped_eq, a1, b1, decide_eq_true (Nat.le_trans a2 (by decide)), decide_eq_true (Nat.le_trans b2 (by decide))]
  simp only [Bool.and_self, if_true]
  have : PyData.eqv (.list (a.map rowD)) (.list (b.map rowD)) = decide (a = b) := by
    rw [Bool.eq_iff_iff, h3, decide_eq_true_eq]
    constructor
    · intro h
      simp only [PyData.list.injEq] at h
      exact rowsD_inj h
    · intro h; rw [h]
  rw [this]
/-- the numbers of a table -/
theorem nums_loop (tab : List Row) (hn : (tab.map (·.1)).Nodup) (hl : tab.length ≤ 100000) (hr : ∀ r ∈ tab, r.1.length ≤ 1000) (x0 x1 x2 x3 x4 : Sl) (s5 s9 s10 s11 : Sl) :
    forL (.tp [.n 7, .n 8]) b_shows_1 (tab.map fun r => .v (trowD r)) [x0, x1, x2, x3, x4, s5, .own (.dt []), .no, .no, s9, s10, s11]
     = some (.nx [x0, x1, x2, x3, x4, s5, .own (.dt (tabD numD tab)), .no, .no, s9, s10, s11]) := by
  obtain ⟨pre, h, hI⟩ := for_inv (tg := .tp [.n 7, .n 8]) (body := b_shows_1) (enc := fun (r : Row) => O.v (trowD r)) (E := fun (pre : List Row) => [x0, x1, x2, x3, x4, s5, .own (.dt (tabD numD pre)), .no, .no, s9, s10, s11])
    (fun pre s => s = pre) (all := tab) tab [] [] rfl rfl (by
    intro pre r post s hall hs
    subst hs
    have hnew : ∀ p ∈ s, p.1 ≠ r.1 := fun p hp e => by
      rw [hall, List.map_append, List.map_cons, List.nodup_append] at hn
      exact hn.2.2 p.1 (List.mem_map.mpr ⟨p, hp, rfl⟩) r.1 (List.mem_cons_self ..) e
    have hput := dput_tab numD r.1 r.2 s hnew
    have hb1 : r.1.length ≤ 16777216 := by have := hr r (by rw [hall]; simp); omega
    have hb2 : (tabD numD s).length < 16777216 := by
      have := congrArg List.length hall
      simp [tabD] at this ⊢; omega
    refine ⟨s ++ [r], [x0, x1, x2, x3, x4, s5, .own (.dt (tabD numD s)), .own (.v (rowD r.1)), .own (.v (numD r.2)), s9, s10, s11], ?_, ?_, rfl⟩
    · simp [trowD]
    · simp [b_shows_1, hb1, hb2, hput])
  rw [hI] at h
  exact h
theorem shows_comp (gs : List Wr) (tab : List Row) (w : List Int) (hw : w.length ≤ 1000) (h1 : w ∈ tab.map (·.1)) (h2 : ∀ g ∈ gs, restL w g.2.1 ∈ tab.map (·.1)) (x0 x1 x2 x3 x4 s5 s8 : Sl) :
    lcL (.tp [.n 9, .n 10, .n 11]) mYes ce_shows_2 [9, 10, 11] (gs.map fun g => .v (wareD g)) [x0, x1, x2, x3, x4, s5, .own (.dt (tabD numD tab)), .own (.v (rowD w)), s8, .no, .no, .no]
     = some (gs.map (fun g => .v (.bool (okB (getT tab w) (getT tab (restL w g.2.1)) g.2.2))), [x0, x1, x2, x3, x4, s5, .own (.dt (tabD numD tab)), .own (.v (rowD w)), s8, .no, .no, .no]) := by
  refine lc_map (enc := fun g => O.v (wareD g)) _ fun g hg => ?_
  have h3 := line_shows_ok (tabD numD tab) w g.2.1 g.2.2 hw _ _ (tabGet_row h1) (tabGet_row (h2 g hg))
  refine ⟨[x0, x1, x2, x3, x4, s5, .own (.dt (tabD numD tab)), .own (.v (rowD w)), s8, .own (.v (lineD g.1)), .own (.v (rowD g.2.1)), .own (.v (.int g.2.2))], _, [x0, x1, x2, x3, x4, s5, .own (.dt (tabD numD tab)), .own (.v (rowD w)), s8, .own (.v (lineD g.1)), .own (.v (rowD g.2.1)), .own (.v (.int g.2.2))], ?_, rfl, ?_, ?_⟩
  · simp [wareD]
  · simp [ce_shows_2, h3]
  · simp
theorem les_nodup (w : List Int) : (les w).Nodup := (les_pair w).imp fun {a b} h e => by rw [e, lexI_irrefl] at h; cases h
theorem shows_ok (n : Nat) (hn : n ≤ 4) (sh : List Off) (hg : Good n sh) (hs : sh.length ≤ 10) (w : List Int) (hw : Want n w) (tab : List Row) (hl : tab.length ≤ 100000) :
    sem_shows [.v (shopD sh), .v (rowD w), .v (.list (tab.map trowD))] = some (.v (.bool (showsT (waresL sh) (les w) tab)), []) := by
  obtain ⟨x, g1, g2⟩ := goods_ok n hn sh hg hs
  have h3 := lesser_ok w hw.nine (by rw [hw.len]; exact hn)
  have hlen := les_len9 hw.nine (by rw [hw.len]; exact hn)
  have hgd := gds_wares hg hs
  have hwl : (waresL sh).length ≤ 100000 := by
    have := linesL_len sh hs
    unfold waresL; rw [List.length_map]; omega
  have hlc : ∀ e : En, e[5]? = some .no → lcL (.n 5) mYes ce_shows_1 [5] (tab.map fun r => O.v (trowD r)) e = some ((tab.map (·.1)).map (fun r => O.v (rowD r)), e) := fun e h5 => by
    rw [List.map_map]
    refine lc_map1 h5 _ fun r _ e' q1 q2 => ?_
    simp [ce_shows_1, q1, trowD]
  have hne := fNe_rows (tab.map (·.1)) (les w)
  have hb1 : tab.length ≤ 16777216 := by omega
  by_cases hk : tab.map (·.1) = les w
  · have hnd : (tab.map (·.1)).Nodup := by rw [hk]; exact les_nodup w
    have hrl : ∀ r ∈ tab, r.1.length ≤ 1000 := fun r hr => by
      have : r.1 ∈ les w := by rw [← hk]; exact List.mem_map.mpr ⟨r, hr, rfl⟩
      rw [les_len_el this, hw.len]; omega
    have hloop := fun x0 x1 x2 x3 x4 s5 s9 s10 s11 => nums_loop tab hnd hl hrl x0 x1 x2 x3 x4 s5 s9 s10 s11
    obtain ⟨⟨r0, k0⟩, trest, htab⟩ : ∃ r t, tab = r :: t := by
      cases tab with
      | nil =>
        have hw0 : NN w := fun x hx => (hw.nine x hx).1
        obtain ⟨t, ht⟩ := les_last w hw0
        rw [ht] at hk
        simp at hk
      | cons r t => exact ⟨r, t, rfl⟩
    have hat : atI (tab.map trowD) 0 = some (.tuple [rowD r0, numD k0]) := by rw [htab]; simp [trowD]
    have hcmp := fun v (hv : v ∈ les w) x0 x1 x2 x3 x4 s5 s8 => shows_comp (waresL sh) tab v (by rw [les_len_el hv, hw.len]; omega) (by rw [hk]; exact hv) (fun g hg' => by
      rw [hk]
      exact les_trans hv (restL_les (les_nn hv) (hgd.nn g hg') (by rw [hgd.len g hg', les_len_el hv, hw.len]))) x0 x1 x2 x3 x4 s5 s8
    have hres : showsT (waresL sh) (les w) tab = (negB k0 && (les w).all (showsB (waresL sh) tab)) := by
      have hf : firstB tab = negB k0 := by rw [htab]; rfl
      unfold showsT
      rw [hk, hf]
      simp
    rw [hres]
    simp only [hk, decide_true, Bool.not_true] at hne
    rw [hk] at hlc
    have hd1 : O.toDs ((les w).map fun r => O.v (rowD r)) = some ((les w).map rowD) := toDs_mapv _ _
    have hfin := for_all (tg := .n 7) (body := b_shows_2) (enc := fun (r : List Int) => O.v (rowD r)) (e := [.own (.v (shopD sh)), .own (.v (rowD w)), .own (.v (.list (tab.map trowD))), .own (.v (.list ((waresL sh).map wareD))), .own (.v (.list ((les w).map rowD))), .no, .own (.dt (tabD numD tab)), .no, .no, .no, .no, .no])
      (showsB (waresL sh) tab) (fun r => [.own (.v (shopD sh)), .own (.v (rowD w)), .own (.v (.list (tab.map trowD))), .own (.v (.list ((waresL sh).map wareD))), .own (.v (.list ((les w).map rowD))), .no, .own (.dt (tabD numD tab)), .own (.v (rowD r)), .no, .no, .no, .no]) (.v (.bool false)) (les w) (fun v hv => by
      refine ⟨_, rfl, ?_⟩
      have hc := hcmp v hv
      have hbw : (waresL sh).length ≤ 16777216 := by omega
      cases hB : showsB (waresL sh) tab v with
      | true =>
        have hB' : ((waresL sh).all fun x => okB (getT tab v) (getT tab (restL v x.2.1)) x.2.2) = true := hB
        simp [b_shows_2, hc, hbw, hB']
      | false =>
        have hB' : ((waresL sh).all fun x => okB (getT tab v) (getT tab (restL v x.2.1)) x.2.2) = false := hB
        simp [b_shows_2, hc, hbw, hB'])
    have hb3 : (les w).length ≤ 16777216 := by omega
    have hmv : (tab.map fun r => O.v (trowD r)) = (tab.map trowD).map O.v := by rw [List.map_map]; rfl
    have hloop' := fun x0 x1 x2 x3 x4 s5 s9 s10 s11 => hloop x0 x1 x2 x3 x4 s5 s9 s10 s11
    have hlc' := hlc
    rw [hmv] at hlc'
    simp only [hmv] at hloop'
    have hTl : (tab.map trowD).length ≤ 16777216 := by rw [List.length_map]; exact hb1
    generalize (les w).all (showsB (waresL sh) tab) = ALL at *
    generalize tab.map trowD = TD at *
    generalize tabD numD tab = ND at *
    cases k0 with
    | none =>
      have hat' : atI TD 0 = some (.tuple [rowD r0, .none]) := hat
      simp [un_shows, m_shows, g1, g2, h3, hlc', hTl, hne, hloop', hat', negB]
    | some k =>
      have hat' : atI TD 0 = some (.tuple [rowD r0, .int k]) := hat
      by_cases hk0 : 0 < k
      · have hkn : ¬ k ≤ 0 := by omega
        simp [un_shows, m_shows, g1, g2, h3, hlc', hTl, hne, hloop', hat', negB, hk0, hkn]
      · have hkn : k ≤ 0 := by omega
        rcases hfin with ⟨q1, q2⟩ | ⟨q1, y, q2⟩
        · rw [q1]
          simp [un_shows, m_shows, g1, g2, h3, hlc', hTl, hne, hloop', hat', negB, hk0, hkn, q2]
        · rw [q1]
          simp [un_shows, m_shows, g1, g2, h3, hlc', hTl, hne, hloop', hat', negB, hk0, hkn, q2]
  · have hres : showsT (waresL sh) (les w) tab = false := by unfold showsT; simp [hk]
    rw [hres]
    simp only [hk, decide_false, Bool.not_false] at hne
    have hb2 : (tab.map (·.1)).length ≤ 16777216 := by rw [List.length_map]; exact hb1
    generalize tab.map (·.1) = ks at *
    simp [un_shows, m_shows, g1, g2, h3, hlc, hb1, hne]
end Dn

set_option Elab.async false
set_option linter.all false
set_option maxRecDepth 100000
set_option maxHeartbeats 4000000
namespace Dn
open PySem L2
/-- a for that hands back where a test fails, in any state -/
theorem for_all2 {α : Type} {tg : Tg} {body : MS} {enc : α → O} {e : En} (p : α → Bool) (y : O) (R : En → Prop) : ∀ (xs : List α), (∀ x ∈ xs, ∃ e1, asg tg (enc x) e = some e1 ∧ (p x = true → body e1 = some (.nx e)) ∧ (p x = false → ∃ er, body e1 = some (.rt y er) ∧ R er)) →
    (xs.all p = true ∧ forL tg body (xs.map enc) e = some (.nx e)) ∨ (xs.all p = false ∧ ∃ er, forL tg body (xs.map enc) e = some (.rt y er) ∧ R er)
  | [], _ => .inl ⟨rfl, rfl⟩
  | x :: xs, h => by
    obtain ⟨e1, h1, h2, h3⟩ := h x (List.mem_cons_self ..)
    rw [List.map_cons, List.all_cons]
    cases hp : p x with
    | true =>
      have h2 := h2 hp
      rcases for_all2 p y R xs fun z hz => h z (List.mem_cons_of_mem _ hz) with ⟨a, b⟩ | ⟨a, z, b, c⟩
      · exact .inl ⟨by rw [a]; rfl, by simp only [forL, h1, h2, b]⟩
      · exact .inr ⟨by rw [a]; rfl, z, by simp only [forL, h1, h2, b], c⟩
    | false =>
      obtain ⟨er, h3, h4⟩ := h3 hp
      exact .inr ⟨rfl, er, by simp only [forL, h1, h3], h4⟩
theorem lrest_ok (w c : List Int) (hl : w.length ≤ 1000) (hc : c.length = w.length) : sem__law_rest [.v (rowD w), .v (rowD c)] = some (.l ((restL w c).map oi), []) := by
  have h : ∀ e : En, e[0]? = some (.own (.v (rowD w))) → e[1]? = some (.own (.v (rowD c))) → e[2]? = some .no → lcL (.n 2) mYes ce__law_rest_1 [2] ((List.range w.length).map fun (k : Nat) => .v (.int (k : Int))) e = some ((restL w c).map oi, e) := fun e h0 h1 h2 => by
    rw [restL, ← range_zip (fun a b : Int => max 0 (a - b)) w c 0 0 rfl hc, List.map_map]
    refine lc_map1 h2 _ fun k hk e' g1 g2 => ?_
    simp at hk
    have e1 := atI_getD w 0 hk
    have e2 := atI_getD c 0 (show k < c.length by omega)
    have hmx : fMax [.int 0, .int (w.getD k 0 - c.getD k 0)] = some (.int (max 0 (w.getD k 0 - c.getD k 0))) := by
      have : fMax [.int 0, .int (w.getD k 0 - c.getD k 0)] = some (.int (if w.getD k 0 - c.getD k 0 > 0 then w.getD k 0 - c.getD k 0 else 0)) := rfl
      rw [this]
      congr 2
      omega
    simp [ce__law_rest_1, g1, g2, h0, h1, e1, e2, hmx]
    omega
  have hb1 : -4611686018427387904 ≤ (w.length : Int) := by omega
  have hb2 : (w.length : Int) < 4611686018427387904 := by omega
  have hb3 : w.length ≤ 16777216 := by omega
  simp [un__law_rest, m__law_rest, hb1, hb2, hb3, h]
/-! the law's lesser wants -/
theorem llesser_in (s0 s1 : Sl) (n : Int) (hn : 0 ≤ n ∧ n ≤ 9) (r : List Int) (hr : r.length ≤ 1000) (acc : List (List Int)) (ha : acc.length ≤ 1000000) :
    b__law_lesser_2 [s0, s1, .own (.v (.int n)), .own (.l (acc.map fun r => .v (rowD r))), .own (.v (rowD r)), .no] = some (.nx [s0, s1, .own (.v (.int n)), .own (.l ((acc ++ (upTo n).map fun k => r ++ [k]).map fun r => .v (rowD r))), .no, .no]) := by
  obtain ⟨acc', h, hI⟩ := for_inv (tg := .n 5) (body := b__law_lesser_1) (enc := fun (k : Nat) => O.v (.int (k : Int))) (E := fun (acc : List (List Int)) => [s0, s1, .own (.v (.int n)), .own (.l (acc.map fun r => .v (rowD r))), .own (.v (rowD r)), .no])
    (fun pre a => a = acc ++ pre.map fun (k : Nat) => r ++ [(k : Int)]) (all := List.range (n + 1).toNat) (List.range (n + 1).toNat) [] acc rfl (by simp) (by
    intro pre k post a hall hI
    have hpl : pre.length < 10 := by have := congrArg List.length hall; simp at this; omega
    have hb1 : r.length + 1 ≤ 16777216 := by omega
    have hb2 : a.length < 16777216 := by rw [hI]; simp; omega
    refine ⟨a ++ [r ++ [(k : Int)]], _, rfl, ?_, by rw [hI]; simp⟩
    simp [b__law_lesser_1, hb1, hb2])
  have hb1 : -4611686018427387904 ≤ n + 1 := by omega
  have hb2 : n + 1 < 4611686018427387904 := by omega
  have hup : (upTo n).map (fun k => r ++ [k]) = (List.range (n + 1).toNat).map fun (k : Nat) => r ++ [(k : Int)] := by unfold upTo; rw [List.map_map]; rfl
  rw [hup, ← hI]
  simp [b__law_lesser_2, hb1, hb2, h]
theorem llesser_turn (s0 : Sl) (x : O) (rows : List (List Int)) (hx : x.toD = some (.list (rows.map rowD))) (n : Int) (hn : 0 ≤ n ∧ n ≤ 9) (hr : ∀ r ∈ rows, r.length ≤ 1000) (hl : rows.length ≤ 10000) : ∃ x' : O,
    b__law_lesser_3 [s0, .own x, .own (.v (.int n)), .no, .no, .no] = some (.nx [s0, .own x', .no, .no, .no, .no]) ∧ x'.toD = some (.list ((lesStep rows n).map rowD)) := by
  obtain ⟨acc', h, hI, -⟩ := for_inv (tg := .n 4) (body := b__law_lesser_2) (enc := fun (r : List Int) => O.v (rowD r)) (E := fun (acc : List (List Int)) => [s0, .own (.v (.list (rows.map rowD))), .own (.v (.int n)), .own (.l (acc.map fun r => .v (rowD r))), .no, .no])
    (fun pre a => a = lesStep pre n ∧ a.length ≤ 10 * pre.length) (all := rows) rows [] [] rfl ⟨rfl, by simp⟩ (by
    intro pre r post a hall ⟨h1, h2⟩
    have hpl : pre.length < 10000 := by have := congrArg List.length hall; simp at this; omega
    have hin := llesser_in s0 (.own (.v (.list (rows.map rowD)))) n hn r (hr r (by rw [hall]; simp)) a (by omega)
    refine ⟨a ++ (upTo n).map (fun k => r ++ [k]), _, rfl, hin, ?_, ?_⟩
    · rw [h1]; unfold lesStep; rw [List.flatMap_append]; simp
    · have := upTo_len hn
      rw [List.length_append, List.length_append, List.length_map, List.length_singleton]; omega)
  have hv1 : mVar 1 [s0, .own x, .own (.v (.int n)), .own (.l []), .no, .no] = some (.v (.list (rows.map rowD)), [s0, .own (.v (.list (rows.map rowD))), .own (.v (.int n)), .own (.l []), .no, .no]) := mVar_toD rfl hx
  refine ⟨.v (.list ((lesStep rows n).map rowD)), ?_, rfl⟩
  rw [← hI]
  simp only [List.map_nil] at h
  simp [b__law_lesser_3, hv1, h, -mVar_ap]
  simp
theorem llesser_ok (w : List Int) (hw : ∀ n ∈ w, 0 ≤ n ∧ n ≤ 9) (hlen : w.length ≤ 4) : ∃ x : O, sem__law_lesser [.v (rowD w)] = some (x, []) ∧ x.toD = some (.list ((les w).map rowD)) := by
  obtain ⟨⟨x, rows⟩, h, hI⟩ := for_inv (tg := .n 2) (body := b__law_lesser_3) (enc := fun (n : Int) => O.v (.int n)) (E := fun (s : O × List (List Int)) => [.own (.v (rowD w)), .own s.1, .no, .no, .no, .no])
    (fun pre s => s.1.toD = some (.list (s.2.map rowD)) ∧ s.2 = pre.foldl lesStep [[]] ∧ (∀ r ∈ s.2, r.length ≤ pre.length) ∧ s.2.length ≤ 10 ^ pre.length) (all := w) w [] (.l [.l []], [[]]) rfl ⟨by simp, rfl, by simp, by simp⟩ (by
    intro pre n post ⟨x, rows⟩ hall ⟨h1, h2, h3, h4⟩
    simp only at h1 h2 h3 h4
    have hn := hw n (by rw [hall]; simp)
    have hpl : pre.length < 4 := by have := congrArg List.length hall; simp at this; omega
    have h5 : rows.length ≤ 1000 := Nat.le_trans h4 (Nat.le_trans (Nat.pow_le_pow_right (by decide) (show pre.length ≤ 3 by omega)) (by decide))
    obtain ⟨x', g1, g2⟩ := llesser_turn (.own (.v (rowD w))) x rows h1 n hn (fun r hr => by have := h3 r hr; omega) (by omega)
    refine ⟨(x', lesStep rows n), _, rfl, g1, g2, ?_, ?_, ?_⟩
    · rw [h2, List.foldl_append]; rfl
    · intro r hr
      unfold lesStep at hr
      obtain ⟨r0, hr0, hr1⟩ := List.mem_flatMap.mp hr
      obtain ⟨k, _, rfl⟩ := List.mem_map.mp hr1
      have := h3 r0 hr0
      simp; omega
    · have := lesStep_len rows hn
      simp only
      rw [List.length_append, List.length_singleton, Nat.pow_succ]
      omega)
  simp only at hI
  refine ⟨x, ?_, by rw [hI.1, hI.2.1, les_eq]⟩
  have h0 : [PyData.list []] = ([[]] : List (List Int)).map rowD := rfl
  simp at h
  simp [un__law_lesser, m__law_lesser, h]
/-! the law's look at a table -/
theorem lnums_loop (tab : List Row) (hn : (tab.map (·.1)).Nodup) (hl : tab.length ≤ 100000) (hr : ∀ r ∈ tab, r.1.length ≤ 1000) (x0 x1 x2 x3 x4 s8 s9 s10 s11 s12 : Sl) :
    forL (.tp [.n 6, .n 7]) b__law_shows_1 (tab.map fun r => .v (trowD r)) [x0, x1, x2, x3, x4, .own (.dt []), .no, .no, s8, s9, s10, s11, s12]
     = some (.nx [x0, x1, x2, x3, x4, .own (.dt (tabD numD tab)), .no, .no, s8, s9, s10, s11, s12]) := by
  obtain ⟨pre, h, hI⟩ := for_inv (tg := .tp [.n 6, .n 7]) (body := b__law_shows_1) (enc := fun (r : Row) => O.v (trowD r)) (E := fun (pre : List Row) => [x0, x1, x2, x3, x4, .own (.dt (tabD numD pre)), .no, .no, s8, s9, s10, s11, s12])
    (fun pre s => s = pre) (all := tab) tab [] [] rfl rfl (by
    intro pre r post s hall hs
    subst hs
    have hnew : ∀ p ∈ s, p.1 ≠ r.1 := fun p hp e => by
      rw [hall, List.map_append, List.map_cons, List.nodup_append] at hn
      exact hn.2.2 p.1 (List.mem_map.mpr ⟨p, hp, rfl⟩) r.1 (List.mem_cons_self ..) e
    have hput := dput_tab numD r.1 r.2 s hnew
    have hb1 : r.1.length ≤ 16777216 := by have := hr r (by rw [hall]; simp); omega
    have hb2 : (tabD numD s).length < 16777216 := by
      have := congrArg List.length hall
      simp [tabD] at this ⊢; omega
    refine ⟨s ++ [r], [x0, x1, x2, x3, x4, .own (.dt (tabD numD s)), .own (.v (rowD r.1)), .own (.v (numD r.2)), s8, s9, s10, s11, s12], ?_, ?_, rfl⟩
    · simp [trowD]
    · simp [b__law_shows_1, hb1, hb2, hput])
  rw [hI] at h
  exact h
theorem lshow_one (tab : List Row) (g : Wr) (v : List Int) (hv : v.length ≤ 1000) (hgl : g.2.1.length = v.length) (h1 : v ∈ tab.map (·.1)) (h2 : restL v g.2.1 ∈ tab.map (·.1)) (x0 x1 x2 x3 x4 s7 s8 : Sl) :
    b__law_shows_2 [x0, x1, x2, x3, x4, .own (.dt (tabD numD tab)), .own (.v (rowD v)), s7, s8, .own (.v (rowD g.2.1)), .own (.v (.int g.2.2)), .no, .no]
     = if okB (getT tab v) (getT tab (restL v g.2.1)) g.2.2 then some (.nx [x0, x1, x2, x3, x4, .own (.dt (tabD numD tab)), .no, s7, s8, .own (.v (rowD g.2.1)), .own (.v (.int g.2.2)), .no, .no]) else some (.rt (.v (.bool false)) [x0, x1, x2, x3, x4, .own (.dt (tabD numD tab)), .own (.v (rowD v)), s7, s8, .own (.v (rowD g.2.1)), .own (.v (.int g.2.2)), .own (.v (numD (getT tab v))), .own (.v (numD (getT tab (restL v g.2.1))))]) := by
  have hr := lrest_ok v g.2.1 hv hgl
  have d1 := tabGet_row h1
  have d2 := tabGet_row h2
  have hb1 : v.length ≤ 16777216 := by omega
  have hb2 : (restL v g.2.1).length ≤ 16777216 := by rw [restL_len]; omega
  cases e2 : getT tab (restL v g.2.1) with
  | none =>
    rw [e2] at d2
    have d2' : dval (tabD numD tab) (keyI (restL v g.2.1)) = some .none := d2
    simp [b__law_shows_2, d1, hr, d2', hb1, hb2, okB]
  | some t =>
    rw [e2] at d2
    have d2' : dval (tabD numD tab) (keyI (restL v g.2.1)) = some (.int t) := d2
    cases e1 : getT tab v with
    | none =>
      rw [e1] at d1
      have d1' : dval (tabD numD tab) (keyI v) = some .none := d1
      simp [b__law_shows_2, d1', hr, d2', hb1, hb2, okB, numD]
    | some h =>
      rw [e1] at d1
      have d1' : dval (tabD numD tab) (keyI v) = some (.int h) := d1
      by_cases hc : h ≤ g.2.2 + t
      · have hn : ¬ g.2.2 + t < h := by omega
        simp [b__law_shows_2, d1', hr, d2', hb1, hb2, okB, numD, hc, hn]
      · have hn : g.2.2 + t < h := by omega
        simp [b__law_shows_2, d1', hr, d2', hb1, hb2, okB, numD, hc, hn]
theorem all_swap {α β : Type} (p : α → β → Bool) (xs : List α) (ys : List β) : xs.all (fun x => ys.all fun y => p x y) = ys.all fun y => xs.all fun x => p x y := by
  rw [Bool.eq_iff_iff]
  simp only [List.all_eq_true]
  exact ⟨fun h y hy x hx => h x hx y hy, fun h x hx y hy => h y hy x hx⟩
theorem lshows_ok (n : Nat) (hn : n ≤ 4) (sh : List Off) (hg : Good n sh) (hs : sh.length ≤ 10) (w : List Int) (hw : Want n w) (tab : List Row) (hl : tab.length ≤ 100000) :
    sem__law_shows [.v (shopD sh), .v (rowD w), .v (.list (tab.map trowD))] = some (.v (.bool (showsT (waresL sh) (les w) tab)), []) := by
  obtain ⟨x, g1, g2⟩ := llesser_ok w hw.nine (by rw [hw.len]; exact hn)
  have h3 := lwares_ok n hn sh hg hs
  have hlen := les_len9 hw.nine (by rw [hw.len]; exact hn)
  have hgd := gds_wares hg hs
  have hlc : ∀ e : En, e[4]? = some .no → lcL (.n 4) mYes ce__law_shows_1 [4] (tab.map fun r => O.v (trowD r)) e = some ((tab.map (·.1)).map (fun r => O.v (rowD r)), e) := fun e h5 => by
    rw [List.map_map]
    refine lc_map1 h5 _ fun r _ e' q1 q2 => ?_
    simp [ce__law_shows_1, q1, trowD]
  have hne := fNe_rows (tab.map (·.1)) (les w)
  have hb1 : tab.length ≤ 16777216 := by omega
  by_cases hk : tab.map (·.1) = les w
  · have hnd : (tab.map (·.1)).Nodup := by rw [hk]; exact les_nodup w
    have hrl : ∀ r ∈ tab, r.1.length ≤ 1000 := fun r hr => by
      have : r.1 ∈ les w := by rw [← hk]; exact List.mem_map.mpr ⟨r, hr, rfl⟩
      rw [les_len_el this, hw.len]; omega
    have hloop := fun x0 x1 x2 x3 x4 s8 s9 s10 s11 s12 => lnums_loop tab hnd hl hrl x0 x1 x2 x3 x4 s8 s9 s10 s11 s12
    obtain ⟨⟨r0, k0⟩, trest, htab⟩ : ∃ r t, tab = r :: t := by
      cases tab with
      | nil =>
        have hw0 : NN w := fun x hx => (hw.nine x hx).1
        obtain ⟨t, ht⟩ := les_last w hw0
        rw [ht] at hk
        simp at hk
      | cons r t => exact ⟨r, t, rfl⟩
    have hat : atI (tab.map trowD) 0 = some (.tuple [rowD r0, numD k0]) := by rw [htab]; simp [trowD]
    have hres : showsT (waresL sh) (les w) tab = (negB k0 && (waresL sh).all fun g => (les w).all fun v => okB (getT tab v) (getT tab (restL v g.2.1)) g.2.2) := by
      have hf : firstB tab = negB k0 := by rw [htab]; rfl
      unfold showsT
      rw [hk, hf, all_swap]
      simp
      rfl
    rw [hres]
    simp only [hk, decide_true, Bool.not_true] at hne
    rw [hk] at hlc
    have hfin := for_all2 (tg := .tp [.n 8, .n 9, .n 10]) (body := b__law_shows_3) (enc := fun (g : Wr) => O.v (wareD g)) (e := [.own (.v (shopD sh)), .own (.v (rowD w)), .own (.v (.list (tab.map trowD))), .own (.v (.list ((les w).map rowD))), .no, .own (.dt (tabD numD tab)), .no, .no, .no, .no, .no, .no, .no])
      (fun g => (les w).all fun v => okB (getT tab v) (getT tab (restL v g.2.1)) g.2.2) (.v (.bool false)) (fun er => pinsOf [false, false, false] er = some []) (waresL sh) (fun g hgm => by
      refine ⟨[.own (.v (shopD sh)), .own (.v (rowD w)), .own (.v (.list (tab.map trowD))), .own (.v (.list ((les w).map rowD))), .no, .own (.dt (tabD numD tab)), .no, .no, .own (.v (lineD g.1)), .own (.v (rowD g.2.1)), .own (.v (.int g.2.2)), .no, .no], by simp [wareD], ?_⟩
      have hin := for_all2 (tg := .n 6) (body := b__law_shows_2) (enc := fun (v : List Int) => O.v (rowD v)) (e := [.own (.v (shopD sh)), .own (.v (rowD w)), .own (.v (.list (tab.map trowD))), .own (.v (.list ((les w).map rowD))), .no, .own (.dt (tabD numD tab)), .no, .no, .own (.v (lineD g.1)), .own (.v (rowD g.2.1)), .own (.v (.int g.2.2)), .no, .no])
        (fun v => okB (getT tab v) (getT tab (restL v g.2.1)) g.2.2) (.v (.bool false)) (fun er => pinsOf [false, false, false] er = some []) (les w) (fun v hv => by
        have hvl : v.length = n := by rw [les_len_el hv, hw.len]
        have h := lshow_one tab g v (by omega) (by rw [hgd.len g hgm, hvl]) (by rw [hk]; exact hv) (by
          rw [hk]
          exact les_trans hv (restL_les (les_nn hv) (hgd.nn g hgm) (by rw [hgd.len g hgm, hvl]))) (.own (.v (shopD sh))) (.own (.v (rowD w))) (.own (.v (.list (tab.map trowD)))) (.own (.v (.list ((les w).map rowD)))) .no .no (.own (.v (lineD g.1)))
        refine ⟨_, rfl, fun hp => ?_, fun hp => ?_⟩
        · rw [if_pos hp] at h
          exact h
        · rw [if_neg (by rw [hp]; exact Bool.false_ne_true)] at h
          exact ⟨_, h, rfl⟩)
      generalize (les w).all (fun v => okB (getT tab v) (getT tab (restL v g.2.1)) g.2.2) = ALL at *
      generalize tab.map trowD = TD at *
      generalize tabD numD tab = ND at *
      rcases hin with ⟨q1, q2⟩ | ⟨q1, er, q2, q3⟩
      · refine ⟨fun _ => ?_, fun hp => (by rw [q1] at hp; cases hp)⟩
        simp [b__law_shows_3, q2]
      · refine ⟨fun hp => (by rw [q1] at hp; cases hp), fun _ => ⟨er, ?_, q3⟩⟩
        simp [b__law_shows_3, q2])
    have hb3 : (les w).length ≤ 16777216 := by omega
    have hmv : (tab.map fun r => O.v (trowD r)) = (tab.map trowD).map O.v := by rw [List.map_map]; rfl
    have hloop' := fun x0 x1 x2 x3 x4 s8 s9 s10 s11 s12 => hloop x0 x1 x2 x3 x4 s8 s9 s10 s11 s12
    have hlc' := hlc
    rw [hmv] at hlc'
    simp only [hmv] at hloop'
    have hTl : (tab.map trowD).length ≤ 16777216 := by rw [List.length_map]; exact hb1
    generalize ((waresL sh).all fun g => (les w).all fun v => okB (getT tab v) (getT tab (restL v g.2.1)) g.2.2) = ALL at *
    generalize tab.map trowD = TD at *
    generalize tabD numD tab = ND at *
    cases k0 with
    | none =>
      have hat' : atI TD 0 = some (.tuple [rowD r0, .none]) := hat
      simp [un__law_shows, m__law_shows, g1, g2, h3, hlc', hTl, hne, hloop', hat', negB]
    | some k =>
      have hat' : atI TD 0 = some (.tuple [rowD r0, .int k]) := hat
      by_cases hk0 : 0 < k
      · have hkn : ¬ k ≤ 0 := by omega
        simp [un__law_shows, m__law_shows, g1, g2, h3, hlc', hTl, hne, hloop', hat', negB, hk0, hkn]
      · have hkn : k ≤ 0 := by omega
        rcases hfin with ⟨q1, q2⟩ | ⟨q1, y, q2, q3⟩
        · rw [q1]
          simp [un__law_shows, m__law_shows, g1, g2, h3, hlc', hTl, hne, hloop', hat', negB, hk0, hkn, q2]
        · rw [q1]
          simp [un__law_shows, m__law_shows, g1, g2, h3, hlc', hTl, hne, hloop', hat', negB, hk0, hkn, q2, q3]
  · have hres : showsT (waresL sh) (les w) tab = false := by unfold showsT; simp [hk]
    rw [hres]
    simp only [hk, decide_false, Bool.not_false] at hne
    have hb2 : (tab.map (·.1)).length ≤ 16777216 := by rw [List.length_map]; exact hb1
    generalize tab.map (·.1) = ks at *
    simp [un__law_shows, m__law_shows, g1, g2, hlc, hb1, hne]
end Dn

set_option Elab.async false
set_option linter.all false
set_option maxRecDepth 100000
set_option maxHeartbeats 4000000
namespace Dn
open PySem L2
/-! bent tables -/
structure RowOk (B : Nat) (r : Row) : Prop where
  len : r.1.length ≤ 5
  sml : ∀ x ∈ r.1, x.natAbs ≤ 100
  num : ∀ k, r.2 = some k → k.natAbs ≤ B
def RowsOk (B : Nat) (ds : List PyData) : Prop := ∀ d ∈ ds, ∃ r : Row, d = trowD r ∧ RowOk B r
theorem RowOk.mono {B B' : Nat} {r : Row} (h : RowOk B r) (hB : B ≤ B') : RowOk B' r := ⟨h.len, h.sml, fun k hk => Nat.le_trans (h.num k hk) hB⟩
theorem RowsOk.mono {B B' : Nat} {ds : List PyData} (h : RowsOk B ds) (hB : B ≤ B') : RowsOk B' ds := fun d hd => by
  obtain ⟨r, e, hr⟩ := h d hd
  exact ⟨r, e, hr.mono hB⟩
theorem RowsOk.tab {B : Nat} : ∀ {ds : List PyData}, RowsOk B ds → ∃ tab : List Row, ds = tab.map trowD ∧ ∀ r ∈ tab, RowOk B r
  | [], _ => ⟨[], rfl, by simp⟩
  | d :: ds, h => by
    obtain ⟨r, e, hr⟩ := h d (List.mem_cons_self ..)
    obtain ⟨tab, e2, h2⟩ := RowsOk.tab fun x hx => h x (List.mem_cons_of_mem _ hx)
    refine ⟨r :: tab, by rw [e, e2]; rfl, fun x hx => ?_⟩
    rcases List.mem_cons.mp hx with rfl | hx
    · exact hr
    · exact h2 x hx
theorem RowsOk.app {B : Nat} {a b : List PyData} (h1 : RowsOk B a) (h2 : RowsOk B b) : RowsOk B (a ++ b) := fun d hd => by
  rcases List.mem_append.mp hd with h | h
  · exact h1 d h
  · exact h2 d h
theorem RowsOk.take {B n : Nat} {a : List PyData} (h1 : RowsOk B a) : RowsOk B (a.take n) := fun d hd => h1 d (List.mem_of_mem_take hd)
theorem RowsOk.drop {B n : Nat} {a : List PyData} (h1 : RowsOk B a) : RowsOk B (a.drop n) := fun d hd => h1 d (List.mem_of_mem_drop hd)
theorem RowsOk.one {B : Nat} {r : Row} (h : RowOk B r) : RowsOk B [trowD r] := fun d hd => by
  rw [List.mem_singleton] at hd
  exact ⟨r, hd, h⟩
theorem nd_none : numD none = .none := rfl
theorem nd_some (k : Int) : numD (some k) = .int k := rfl
theorem emod_nat (n : Int) {k : Nat} (hk : 0 < k) : ∃ a : Nat, a < k ∧ n % (k : Int) = (a : Int) := by
  have h1 := Int.emod_nonneg n (show (k : Int) ≠ 0 by omega)
  have h2 := Int.emod_lt_of_pos n (show (0 : Int) < k by omega)
  exact ⟨(n % (k : Int)).toNat, by omega, by omega⟩
theorem cutv {ds : List PyData} (a : Nat) : cutG (ds.map O.v) none (some (a : Int)) = (ds.take a).map O.v := by rw [cutG_map1]; exact congrArg _ (cutG_take _ a)
theorem cutv2 {ds : List PyData} (a : Nat) : cutG (ds.map O.v) (some ((a : Int) + 1)) none = (ds.drop (a + 1)).map O.v := by rw [cutG_map1]; exact congrArg _ (cutG_drop _ (a + 1))
theorem cutv3 {ds : List PyData} (a : Nat) : cutG (ds.map O.v) (some (a : Int)) none = (ds.drop a).map O.v := by rw [cutG_map1]; exact congrArg _ (cutG_drop _ a)
theorem atI_4 {α : Type} (x y z u w : α) (xs : List α) : atI (x :: y :: z :: u :: w :: xs) 4 = some w := atI_nat (j := 4) rfl rfl
theorem atI_5 {α : Type} (x y z u w t : α) (xs : List α) : atI (x :: y :: z :: u :: w :: t :: xs) 5 = some t := atI_nat (j := 5) rfl rfl
theorem toD_vs (A : List PyData) : (O.l (A.map .v)).toD = some (.list A) := by
  have h : O.toDs (A.map O.v) = some A := by
    have := toDs_mapv (fun x : PyData => x) A
    simpa using this
  simp [h]
theorem toD_cut (A C : List PyData) (d : PyData) : (O.l (A.map .v ++ (.v d :: C.map .v))).toD = some (.list (A ++ d :: C)) := by
  rw [show A.map O.v ++ (.v d :: C.map .v) = (A ++ d :: C).map O.v by rw [List.map_append, List.map_cons]]
  exact toD_vs _
theorem rep_two (d : PyData) : repO [.v (.list [d]), .v (.int 2)] = some (.l [.v d, .v d]) := by
  rw [repO_eq]
  show (if -(2 ^ 63) ≤ (2 : Int) ∧ (2 : Int) < 2 ^ 63 ∧ 1 * (2 : Int).toNat ≤ sizeLine then some (O.l ((List.replicate (2 : Int).toNat [d]).flatten.map .v)) else none) = _
  rw [if_pos ⟨by decide, by decide, by rw [sizeLine_eq]; decide⟩]
  rfl
theorem one_bent_ok (B : Nat) (ts : List PyData) (hB : RowsOk B ts) (hne : ts ≠ []) (hl : ts.length ≤ 1000) (ds : List Int) : ∃ (x' : O) (ts' : List PyData) (ds' : List Int),
    sem__law_one_bent [.v (.list ts), .l (ds.map oi)] = some (x', [.l (ds'.map oi)]) ∧ x'.toD = some (.list ts') ∧ ts'.length = ts.length ∧ RowsOk (B + 50) ts' := by
  obtain ⟨n, d1, h1⟩ := pop_ok ds
  have hpos : 0 < ts.length := List.length_pos_iff.mpr hne
  obtain ⟨a, ha, hae⟩ := emod_nat n hpos
  have hat : atI ts (a : Int) = some ts[a] := atI_nat rfl (List.getElem?_eq_getElem ha)
  obtain ⟨⟨r0, k0⟩, hr, hrok⟩ := hB ts[a] (List.getElem_mem _)
  rw [hr] at hat
  have hmod : fMod [.int n, .int (ts.length : Int)] = some (.int (a : Int)) := by rw [← hae]; exact fMod_s (by omega)
  have key : ∀ k1 : Option Int, (∀ k, k1 = some k → k.natAbs ≤ B + 50) → ∃ ts' : List PyData, ts.take a ++ (trowD (r0, k1) :: ts.drop (a + 1)) = ts' ∧ ts'.length = ts.length ∧ RowsOk (B + 50) ts' := fun k1 hk1 => by
    refine ⟨_, rfl, ?_, ?_⟩
    · rw [List.length_append, List.length_cons, List.length_take, List.length_drop]; omega
    · have : RowsOk (B + 50) (ts.take a ++ ([trowD (r0, k1)] ++ ts.drop (a + 1))) := (hB.take.mono (by omega)).app ((RowsOk.one (r := (r0, k1)) ⟨hrok.len, hrok.sml, hk1⟩).app (hB.drop.mono (by omega)))
      exact this
  have hb1 : min a ts.length + 1 ≤ 16777216 := by omega
  have hb2 : min a ts.length + 1 + (ts.length - (a + 1)) ≤ 16777216 := by omega
  have hb3 : min a ts.length + (1 + (ts.length - (a + 1))) ≤ 16777216 := by omega
  cases k0 with
  | none =>
    obtain ⟨j, hj, hje⟩ := emod_nat (n / 512) (k := 3) (by decide)
    have hm2 : n / 512 % 3 = (j : Int) := hje
    have hat' : atI ts (a : Int) = some (.tuple [rowD r0, .none]) := hat
    match j, hj with
    | 0, _ =>
      have hm3 : n / 512 % 3 = 0 := hm2
      obtain ⟨ts', e1, e2, e3⟩ := key (some 0) (fun k' hk => (by cases hk; simp))
      refine ⟨.l ((ts.take a).map .v ++ (.v (.tuple [rowD r0, .int 0]) :: (ts.drop (a + 1)).map .v)), ts', d1, ?_, ?_, e2, e3⟩
      · simp [un__law_one_bent, m__law_one_bent, h1, hmod, hat', hm3, cutv, cutv2, hb1, hb2, hb3, atI_4, atI_5]
      · rw [← e1]; exact toD_cut _ _ _
    | 1, _ =>
      have hm3 : n / 512 % 3 = 1 := hm2
      obtain ⟨ts', e1, e2, e3⟩ := key (some 5) (fun k' hk => (by cases hk; simp))
      refine ⟨.l ((ts.take a).map .v ++ (.v (.tuple [rowD r0, .int 5]) :: (ts.drop (a + 1)).map .v)), ts', d1, ?_, ?_, e2, e3⟩
      · simp [un__law_one_bent, m__law_one_bent, h1, hmod, hat', hm3, cutv, cutv2, hb1, hb2, hb3, atI_4, atI_5]
      · rw [← e1]; exact toD_cut _ _ _
    | 2, _ =>
      have hm3 : n / 512 % 3 = 2 := hm2
      obtain ⟨ts', e1, e2, e3⟩ := key (none) (fun k' hk => (by cases hk))
      refine ⟨.l ((ts.take a).map .v ++ (.v (.tuple [rowD r0, .none]) :: (ts.drop (a + 1)).map .v)), ts', d1, ?_, ?_, e2, e3⟩
      · simp [un__law_one_bent, m__law_one_bent, h1, hmod, hat', hm3, cutv, cutv2, hb1, hb2, hb3, atI_4, atI_5]
      · rw [← e1]; exact toD_cut _ _ _
  | some k =>
    have hk0 := hrok.num k rfl
    obtain ⟨j, hj, hje⟩ := emod_nat (n / 512) (k := 6) (by decide)
    have hm2 : n / 512 % 6 = (j : Int) := hje
    have hat' : atI ts (a : Int) = some (.tuple [rowD r0, .int k]) := hat
    match j, hj with
    | 0, _ =>
      have hm3 : n / 512 % 6 = 0 := hm2
      obtain ⟨ts', e1, e2, e3⟩ := key (some (k + 1)) (fun k' hk => (by cases hk; omega))
      refine ⟨.l ((ts.take a).map .v ++ (.v (.tuple [rowD r0, .int (k + 1)]) :: (ts.drop (a + 1)).map .v)), ts', d1, ?_, ?_, e2, e3⟩
      · simp [un__law_one_bent, m__law_one_bent, h1, hmod, hat', hm3, cutv, cutv2, hb1, hb2, hb3, atI_4, atI_5]
      · rw [← e1]; exact toD_cut _ _ _
    | 1, _ =>
      have hm3 : n / 512 % 6 = 1 := hm2
      obtain ⟨ts', e1, e2, e3⟩ := key (some (k - 1)) (fun k' hk => (by cases hk; omega))
      refine ⟨.l ((ts.take a).map .v ++ (.v (.tuple [rowD r0, .int (k - 1)]) :: (ts.drop (a + 1)).map .v)), ts', d1, ?_, ?_, e2, e3⟩
      · simp [un__law_one_bent, m__law_one_bent, h1, hmod, hat', hm3, cutv, cutv2, hb1, hb2, hb3, atI_4, atI_5]
      · rw [← e1]; exact toD_cut _ _ _
    | 2, _ =>
      have hm3 : n / 512 % 6 = 2 := hm2
      obtain ⟨ts', e1, e2, e3⟩ := key (some (k - 3)) (fun k' hk => (by cases hk; omega))
      refine ⟨.l ((ts.take a).map .v ++ (.v (.tuple [rowD r0, .int (k - 3)]) :: (ts.drop (a + 1)).map .v)), ts', d1, ?_, ?_, e2, e3⟩
      · simp [un__law_one_bent, m__law_one_bent, h1, hmod, hat', hm3, cutv, cutv2, hb1, hb2, hb3, atI_4, atI_5]
      · rw [← e1]; exact toD_cut _ _ _
    | 3, _ =>
      have hm3 : n / 512 % 6 = 3 := hm2
      obtain ⟨ts', e1, e2, e3⟩ := key (none) (fun k' hk => (by cases hk))
      refine ⟨.l ((ts.take a).map .v ++ (.v (.tuple [rowD r0, .none]) :: (ts.drop (a + 1)).map .v)), ts', d1, ?_, ?_, e2, e3⟩
      · simp [un__law_one_bent, m__law_one_bent, h1, hmod, hat', hm3, cutv, cutv2, hb1, hb2, hb3, atI_4, atI_5]
      · rw [← e1]; exact toD_cut _ _ _
    | 4, _ =>
      have hm3 : n / 512 % 6 = 4 := hm2
      obtain ⟨ts', e1, e2, e3⟩ := key (some (0)) (fun k' hk => (by cases hk; omega))
      refine ⟨.l ((ts.take a).map .v ++ (.v (.tuple [rowD r0, .int (0)]) :: (ts.drop (a + 1)).map .v)), ts', d1, ?_, ?_, e2, e3⟩
      · simp [un__law_one_bent, m__law_one_bent, h1, hmod, hat', hm3, cutv, cutv2, hb1, hb2, hb3, atI_4, atI_5]
      · rw [← e1]; exact toD_cut _ _ _
    | 5, _ =>
      have hm3 : n / 512 % 6 = 5 := hm2
      obtain ⟨ts', e1, e2, e3⟩ := key (some (k + 50)) (fun k' hk => (by cases hk; omega))
      refine ⟨.l ((ts.take a).map .v ++ (.v (.tuple [rowD r0, .int (k + 50)]) :: (ts.drop (a + 1)).map .v)), ts', d1, ?_, ?_, e2, e3⟩
      · simp [un__law_one_bent, m__law_one_bent, h1, hmod, hat', hm3, cutv, cutv2, hb1, hb2, hb3, atI_4, atI_5]
      · rw [← e1]; exact toD_cut _ _ _
/-- the law's lesser number -/
theorem lless_ok (k : Option Int) (by' : Int) : sem__law_less [.v (numD k), oi by'] = some (.v (numD (k.map (· - by'))), []) := by
  cases k <;> simp [un__law_less, m__law_less, numD]
structure Row0 (B : Nat) (r : Row) : Prop where
  len : r.1.length ≤ 4
  sml : ∀ x ∈ r.1, 0 ≤ x ∧ x ≤ 9
  num : ∀ k, r.2 = some k → k.natAbs ≤ B
theorem Row0.ok {B : Nat} {r : Row} (h : Row0 B r) : RowOk B r := ⟨by have := h.len; omega, fun x hx => by have := h.sml x hx; omega, h.num⟩
theorem bent_loop (B : Nat) (x2 x3 x4 : Sl) : ∀ (m : Nat) (xs : List Nat), xs.length = m → ∀ (B : Nat) (x : O) (ts : List PyData), x.toD = some (.list ts) → RowsOk B ts → ts ≠ [] → ts.length ≤ 1000 → ∀ ds : List Int, ∃ (x' : O) (ts' : List PyData) (ds' : List Int),
    forL (.n 11) b__law_bent_2788_1 (xs.map fun (k : Nat) => O.v (.int (k : Int))) [.own x, .pin (.l (ds.map oi)), x2, x3, x4, .no, .no, .no, .no, .no, .no, .no] = some (.nx [.own x', .pin (.l (ds'.map oi)), x2, x3, x4, .no, .no, .no, .no, .no, .no, .no]) ∧ x'.toD = some (.list ts') ∧ ts'.length = ts.length ∧ RowsOk (B + 50 * m) ts' := by
  intro m
  induction m with
  | zero =>
    intro xs hxs B x ts hx hB hne hl ds
    have : xs = [] := List.eq_nil_of_length_eq_zero hxs
    subst this
    exact ⟨x, ts, ds, rfl, hx, rfl, hB⟩
  | succ m ih =>
    intro xs hxs B x ts hx hB hne hl ds
    cases xs with
    | nil => cases hxs
    | cons k xs =>
      obtain ⟨x1, ts1, d1, h1, h2, h3, h4⟩ := one_bent_ok B ts hB hne hl ds
      obtain ⟨x', ts', d', g1, g2, g3, g4⟩ := ih xs (by simpa using hxs) (B + 50) x1 ts1 h2 h4 (fun e => by rw [e] at h3; simp at h3; exact hne (List.eq_nil_of_length_eq_zero h3.symm)) (by omega) d1
      refine ⟨x', ts', d', ?_, g2, by omega, g4.mono (by omega)⟩
      have hv : mVar 0 [.own x, .pin (.l (ds.map oi)), x2, x3, x4, .no, .no, .no, .no, .no, .no, .own (.v (.int (k : Int)))] = some (.v (.list ts), [.own (.v (.list ts)), .pin (.l (ds.map oi)), x2, x3, x4, .no, .no, .no, .no, .no, .no, .own (.v (.int (k : Int)))]) := mVar_toD rfl hx
      have hb : b__law_bent_2788_1 [.own x, .pin (.l (ds.map oi)), x2, x3, x4, .no, .no, .no, .no, .no, .no, .own (.v (.int (k : Int)))] = some (.nx [.own x1, .pin (.l (d1.map oi)), x2, x3, x4, .no, .no, .no, .no, .no, .no, .no]) := by
        simp [b__law_bent_2788_1, hv, h1, -mVar_ap]
      rw [List.map_cons]
      have ha : asg (.n 11) (O.v (.int (k : Int))) [.own x, .pin (.l (ds.map oi)), x2, x3, x4, .no, .no, .no, .no, .no, .no, .no] = some [.own x, .pin (.l (ds.map oi)), x2, x3, x4, .no, .no, .no, .no, .no, .no, .own (.v (.int (k : Int)))] := rfl
      simp only [forL, ha, hb, g1]
theorem bent_ok (B : Nat) (tab : List Row) (hB : ∀ r ∈ tab, Row0 B r) (hne : tab ≠ []) (hl : tab.length ≤ 400) (ds : List Int) : ∃ (x' : O) (ts' : List PyData) (ds' : List Int),
    sem__law_bent_2788 [.v (.list (tab.map trowD)), .l (ds.map oi)] = some (x', [.l (ds'.map oi)]) ∧ x'.toD = some (.list ts') ∧ ts'.length ≤ 801 ∧ RowsOk (B + 300) ts' := by
  obtain ⟨n, d1, h1⟩ := pop_ok ds
  have hpos : 0 < tab.length := List.length_pos_iff.mpr hne
  obtain ⟨a, ha, hae⟩ := emod_nat (n / 6) hpos
  obtain ⟨kd, hkd, hke⟩ := emod_nat n (k := 6) (by decide)
  have hke : n % 6 = (kd : Int) := hke
  have hmod : fMod [.int (n / 6), .int (tab.length : Int)] = some (.int (a : Int)) := by rw [← hae]; exact fMod_s (by omega)
  have hRB : RowsOk B (tab.map trowD) := fun d hd => by
    obtain ⟨r, hr, rfl⟩ := List.mem_map.mp hd
    exact ⟨r, rfl, (hB r hr).ok⟩
  have hb0 : tab.length ≤ 16777216 := by omega
  match kd, hkd with
  | 0, _ =>
    have hke' : n % 6 = 0 := hke
    obtain ⟨⟨r0, k0⟩, hr0⟩ : ∃ r, tab[a]? = some r := ⟨_, List.getElem?_eq_getElem ha⟩
    have hrm := List.mem_of_getElem? hr0
    have hrk := hB _ hrm
    have hat : atI tab (a : Int) = some (r0, k0) := atI_nat rfl hr0
    have hat' : atI (tab.map trowD) (a : Int) = some (.tuple [rowD r0, numD k0]) := by rw [atI_map, hat]; rfl
    have c1 := cutv (ds := tab.map trowD) a
    have c2 := cutv2 (ds := tab.map trowD) a
    have c3 := cutv3 (ds := tab.map trowD) a
    have r1 : RowsOk (B + 300) ((tab.map trowD).take a) := hRB.take.mono (by omega)
    have r2 : RowsOk (B + 300) ((tab.map trowD).drop (a + 1)) := hRB.drop.mono (by omega)
    have r3 : RowsOk (B + 300) ((tab.map trowD).drop a) := hRB.drop.mono (by omega)
    have l1 : ((tab.map trowD).take a).length = a := by rw [List.length_take, List.length_map]; omega
    have l2 : ((tab.map trowD).drop (a + 1)).length ≤ 400 := by rw [List.length_drop, List.length_map]; omega
    have l3 : ((tab.map trowD).drop a).length ≤ 400 := by rw [List.length_drop, List.length_map]; omega
    have lT : (tab.map trowD).length ≤ 400 := by rw [List.length_map]; exact hl
    have hlenT : (tab.map trowD).length = tab.length := List.length_map ..
    rw [← hlenT] at hmod
    have rT : RowsOk (B + 300) (tab.map trowD) := hRB.mono (by omega)
    generalize (tab.map trowD).take a = A at *
    generalize (tab.map trowD).drop (a + 1) = C at *
    generalize (tab.map trowD).drop a = D at *
    generalize tab.map trowD = T at *
    obtain ⟨j, hj, hje⟩ := emod_nat (n / 30000) (k := 4) (by decide)
    have hje : n / 30000 % 4 = (j : Int) := hje
    have hlc1 : ∀ e : En, e[9]? = some .no → lcL (.n 9) mYes ce__law_bent_2788_2 [9] (r0.map fun n => O.v (.int n)) e = some ((r0.map fun x => x + 9).map oi, e) := fun e h9 => by
      rw [List.map_map]
      refine lc_map1 h9 _ fun y hy e' q1 q2 => ?_
      simp [ce__law_bent_2788_2, q1]
    have hlc2 : ∀ e : En, e[9]? = some .no → lcL (.n 9) mYes ce__law_bent_2788_1 [9] (r0.map fun n => O.v (.int n)) e = some ((r0.map fun x => 0 - x).map oi, e) := fun e h9 => by
      rw [List.map_map]
      refine lc_map1 h9 _ fun y hy e' q1 q2 => ?_
      simp [ce__law_bent_2788_1, q1]
    have hcut : cutG (r0.map fun n => O.v (.int n)) none (some (-1)) = (r0.dropLast).map oi := by
      rw [cutG_map1]
      congr 1
      unfold cutG
      simp [HT.sIx]
      rw [List.dropLast_eq_take]
      congr 1
      omega
    have hrl := hrk.len
    have hrs := hrk.sml
    simp only at hrl hrs
    have o1 : RowOk (B + 300) (r0 ++ [0], k0) := ⟨by simp; omega, fun x hx => by
      simp only [List.mem_append, List.mem_singleton] at hx
      rcases hx with hx | hx
      · have := hrs x hx; omega
      · omega, fun k hk => by have := hrk.num k hk; omega⟩
    have o2 : RowOk (B + 300) (r0.dropLast, k0) := ⟨by simp; omega, fun x hx => by have := hrs x (List.dropLast_subset _ hx); omega, fun k hk => by have := hrk.num k hk; omega⟩
    have o3 : RowOk (B + 300) (r0.map (fun x => x + 9), k0) := ⟨by simp; omega, fun x hx => by
      obtain ⟨y, hy, rfl⟩ := List.mem_map.mp hx
      have := hrs y hy; omega, fun k hk => by have := hrk.num k hk; omega⟩
    have o4 : RowOk (B + 300) (r0.map (fun x => 0 - x), k0) := ⟨by simp; omega, fun x hx => by
      obtain ⟨y, hy, rfl⟩ := List.mem_map.mp hx
      have := hrs y hy; omega, fun k hk => by have := hrk.num k hk; omega⟩
    have hb1 : r0.length + 1 ≤ 16777216 := by omega
    have hb2 : r0.length ≤ 16777216 := by omega
    generalize r0.dropLast = R2 at *
    generalize r0.map (fun x => x + 9) = R3 at *
    generalize r0.map (fun x => 0 - x) = R4 at *
    obtain ⟨r1', hr1', hw1⟩ : ∃ r' : List Int, atI [PyData.list (r0.map .int ++ [.int 0]), .list (R2.map .int), .list (R3.map .int), .list (R4.map .int)] (j : Int) = some (rowD r') ∧ RowOk (B + 300) (r', k0) := by
      match j, hj with
      | 0, _ => exact ⟨_, by rw [show PyData.list (r0.map .int ++ [.int 0]) = rowD (r0 ++ [0]) by simp [rowD]]; rfl, o1⟩
      | 1, _ => exact ⟨_, rfl, o2⟩
      | 2, _ => exact ⟨_, rfl, o3⟩
      | 3, _ => exact ⟨_, rfl, o4⟩
    obtain ⟨i, hi, hie⟩ := emod_nat (n / 6000) (k := 5) (by decide)
    have hie : n / 6000 % 5 = (i : Int) := hie
    have rR : RowsOk (B + 300) [PyData.tuple [rowD r0, numD k0]] := RowsOk.one (r := (r0, k0)) (hrk.ok.mono (by omega))
    have rN : RowsOk (B + 300) [PyData.tuple [rowD r1', numD k0]] := RowsOk.one (r := (r1', k0)) hw1
    obtain ⟨ts', h5, h6, h7⟩ : ∃ ts' : List PyData, atI (α := PyData) [.list (A ++ C), .list (T ++ [.tuple [rowD r0, numD k0]]), .list (D ++ A), .list (A ++ (.tuple [rowD r1', numD k0] :: C)), .list (A ++ (.tuple [rowD r1', numD k0] :: C))] (i : Int) = some (.list ts') ∧ ts'.length ≤ 801 ∧ RowsOk (B + 300) ts' := by
      match i, hi with
      | 0, _ => exact ⟨_, rfl, by simp; omega, r1.app r2⟩
      | 1, _ => exact ⟨_, rfl, by simp; omega, rT.app rR⟩
      | 2, _ => exact ⟨_, rfl, by simp; omega, r3.app r1⟩
      | 3, _ => exact ⟨_, rfl, by simp; omega, r1.app (rN.app r2)⟩
      | 4, _ => exact ⟨_, rfl, by simp; omega, r1.app (rN.app r2)⟩
    have q1 : A.length + C.length ≤ 16777216 := by omega
    have q2 : T.length + 1 ≤ 16777216 := by omega
    have q3 : D.length + A.length ≤ 16777216 := by omega
    have q4 : A.length + 1 ≤ 16777216 := by omega
    have q5 : A.length + 1 + C.length ≤ 16777216 := by omega
    have q6 : A.length + (1 + C.length) ≤ 16777216 := by omega
    refine ⟨.v (.list ts'), ts', d1, ?_, rfl, h6, h7⟩
    simp [un__law_bent_2788, m__law_bent_2788, h1, hke', hmod, hat', hlc1, hlc2, hcut, hb1, hb2, hje, hr1', h5, hie, c1, c2, c3, q1, q2, q3, q4, q5, q6, rep_two]
  | 1, _ =>
    have hke' : n % 6 = 1 := hke
    obtain ⟨b, hb, hb2⟩ : ∃ b : Int, b.natAbs ≤ 7 ∧ atI [O.v (.int 1), O.v (.int 7), O.v (.int (-1))] (n / 6000 % 3) = some (O.v (.int b)) := by
      obtain ⟨j, hj, hje⟩ := emod_nat (n / 6000) (k := 3) (by decide)
      have hje : n / 6000 % 3 = (j : Int) := hje
      rw [hje]
      match j, hj with
      | 0, _ => exact ⟨1, by decide, by simp⟩
      | 1, _ => exact ⟨7, by decide, by simp⟩
      | 2, _ => exact ⟨-1, by decide, by simp⟩
    have hlc : lcL (.tp [.n 7, .n 8]) mYes ce__law_bent_2788_3 [7, 8] (tab.map fun r => O.v (trowD r)) [.own (.v (.list (tab.map trowD))), .pin (.l (d1.map oi)), .own (.v (.int n)), .own (.v (.int 1)), .own (.v (.int (a : Int))), .no, .no, .no, .no, .no, .own (.v (.int b)), .no]
       = some (tab.map (fun r => .v (trowD (r.1, r.2.map (· - b)))), [.own (.v (.list (tab.map trowD))), .pin (.l (d1.map oi)), .own (.v (.int n)), .own (.v (.int 1)), .own (.v (.int (a : Int))), .no, .no, .no, .no, .no, .own (.v (.int b)), .no]) := by
      refine lc_map (enc := fun r => O.v (trowD r)) _ fun r hr => ?_
      have h3 := lless_ok r.2 b
      refine ⟨[.own (.v (.list (tab.map trowD))), .pin (.l (d1.map oi)), .own (.v (.int n)), .own (.v (.int 1)), .own (.v (.int (a : Int))), .no, .no, .own (.v (rowD r.1)), .own (.v (numD r.2)), .no, .own (.v (.int b)), .no], _, [.own (.v (.list (tab.map trowD))), .pin (.l (d1.map oi)), .own (.v (.int n)), .own (.v (.int 1)), .own (.v (.int (a : Int))), .no, .no, .own (.v (rowD r.1)), .own (.v (numD r.2)), .no, .own (.v (.int b)), .no], ?_, rfl, ?_, ?_⟩
      · simp [trowD]
      · generalize tab.map trowD = T at *
        simp [ce__law_bent_2788_3, h3, trowD]
      · simp
    have hmv : (tab.map fun r => O.v (trowD r)) = (tab.map trowD).map O.v := by rw [List.map_map]; rfl
    rw [hmv] at hlc
    have hout : (O.l (tab.map fun r => .v (trowD (r.1, r.2.map (· - b))))).toD = some (.list (tab.map fun r => trowD (r.1, r.2.map (· - b)))) := by
      have := toD_vs (tab.map fun r => trowD (r.1, r.2.map (· - b)))
      rw [List.map_map] at this
      exact this
    refine ⟨.l (tab.map fun r => .v (trowD (r.1, r.2.map (· - b)))), tab.map fun r => trowD (r.1, r.2.map (· - b)), d1, ?_, hout, by rw [List.length_map]; omega, ?_⟩
    · have lT : (tab.map trowD).length ≤ 16777216 := by rw [List.length_map]; exact hb0
      have hlenT : (tab.map trowD).length = tab.length := List.length_map ..
      rw [← hlenT] at hmod
      generalize (tab.map fun r => O.v (trowD (r.1, r.2.map (· - b)))) = Z at *
      generalize tab.map trowD = T at *
      simp [un__law_bent_2788, m__law_bent_2788, h1, hke', hmod, hb2, hlc, lT]
    · intro d hd
      obtain ⟨r, hr, rfl⟩ := List.mem_map.mp hd
      have h9 := hB r hr
      refine ⟨_, rfl, h9.ok.len, h9.ok.sml, fun k hk => ?_⟩
      simp only at hk
      cases e : r.2 with
      | none => rw [e] at hk; cases hk
      | some k1 =>
        rw [e] at hk
        cases hk
        have := h9.num k1 e
        show (k1 - b).natAbs ≤ B + 300
        omega
  | 2, _ =>
    have hke' : n % 6 = 2 := hke
    have hlc : lcL (.tp [.n 7, .n 8]) mYes ce__law_bent_2788_4 [7, 8] (tab.map fun r => O.v (trowD r)) [.own (.v (.list (tab.map trowD))), .pin (.l (d1.map oi)), .own (.v (.int n)), .own (.v (.int 2)), .own (.v (.int (a : Int))), .no, .no, .no, .no, .no, .no, .no]
       = some (tab.map (fun r => .v (trowD (r.1, some 0))), [.own (.v (.list (tab.map trowD))), .pin (.l (d1.map oi)), .own (.v (.int n)), .own (.v (.int 2)), .own (.v (.int (a : Int))), .no, .no, .no, .no, .no, .no, .no]) := by
      refine lc_map (enc := fun r => O.v (trowD r)) _ fun r hr => ?_
      refine ⟨[.own (.v (.list (tab.map trowD))), .pin (.l (d1.map oi)), .own (.v (.int n)), .own (.v (.int 2)), .own (.v (.int (a : Int))), .no, .no, .own (.v (rowD r.1)), .own (.v (numD r.2)), .no, .no, .no], _, [.own (.v (.list (tab.map trowD))), .pin (.l (d1.map oi)), .own (.v (.int n)), .own (.v (.int 2)), .own (.v (.int (a : Int))), .no, .no, .own (.v (rowD r.1)), .own (.v (numD r.2)), .no, .no, .no], ?_, rfl, ?_, ?_⟩
      · simp [trowD]
      · generalize tab.map trowD = T at *
        simp [ce__law_bent_2788_4, trowD, numD]
      · simp
    have hmv : (tab.map fun r => O.v (trowD r)) = (tab.map trowD).map O.v := by rw [List.map_map]; rfl
    rw [hmv] at hlc
    have hout : (O.l (tab.map fun r => .v (trowD (r.1, some 0)))).toD = some (.list (tab.map fun r => trowD (r.1, some 0))) := by
      have := toD_vs (tab.map fun r => trowD (r.1, some 0))
      rw [List.map_map] at this
      exact this
    refine ⟨.l (tab.map fun r => .v (trowD (r.1, some 0))), tab.map fun r => trowD (r.1, some 0), d1, ?_, hout, by rw [List.length_map]; omega, ?_⟩
    · have lT : (tab.map trowD).length ≤ 16777216 := by rw [List.length_map]; exact hb0
      have hlenT : (tab.map trowD).length = tab.length := List.length_map ..
      rw [← hlenT] at hmod
      generalize (tab.map fun r => O.v (trowD (r.1, some 0))) = Z at *
      generalize tab.map trowD = T at *
      simp [un__law_bent_2788, m__law_bent_2788, h1, hke', hmod, hlc, lT]
    · intro d hd
      obtain ⟨r, hr, rfl⟩ := List.mem_map.mp hd
      have h9 := hB r hr
      exact ⟨_, rfl, h9.ok.len, h9.ok.sml, fun k hk => by cases hk; simp⟩
  | 3, _ =>
    obtain ⟨x', ts', d', g1, g2, g3, g4⟩ := bent_loop B (.own (.v (.int n))) (.own (.v (.int 3))) (.own (.v (.int (a : Int)))) 2 (List.range 2) rfl B (.v (.list (tab.map trowD))) (tab.map trowD) rfl hRB (by simpa using hne) (by rw [List.length_map]; omega) d1
    refine ⟨x', ts', d', ?_, g2, by rw [g3, List.length_map]; omega, g4.mono (by omega)⟩
    have hke' : n % 6 = 3 := hke
    simp [un__law_bent_2788, m__law_bent_2788, h1, hke', hmod, g1]
  | 4, _ =>
    obtain ⟨x', ts', d', g1, g2, g3, g4⟩ := bent_loop B (.own (.v (.int n))) (.own (.v (.int 4))) (.own (.v (.int (a : Int)))) 3 (List.range 3) rfl B (.v (.list (tab.map trowD))) (tab.map trowD) rfl hRB (by simpa using hne) (by rw [List.length_map]; omega) d1
    refine ⟨x', ts', d', ?_, g2, by rw [g3, List.length_map]; omega, g4.mono (by omega)⟩
    have hke' : n % 6 = 4 := hke
    simp [un__law_bent_2788, m__law_bent_2788, h1, hke', hmod, g1]
  | 5, _ =>
    obtain ⟨x', ts', d', g1, g2, g3, g4⟩ := bent_loop B (.own (.v (.int n))) (.own (.v (.int 5))) (.own (.v (.int (a : Int)))) 4 (List.range 4) rfl B (.v (.list (tab.map trowD))) (tab.map trowD) rfl hRB (by simpa using hne) (by rw [List.length_map]; omega) d1
    refine ⟨x', ts', d', ?_, g2, by rw [g3, List.length_map]; omega, g4.mono (by omega)⟩
    have hke' : n % 6 = 5 := hke
    simp [un__law_bent_2788, m__law_bent_2788, h1, hke', hmod, g1]
end Dn

set_option Elab.async false
set_option linter.all false
set_option maxRecDepth 100000
set_option maxHeartbeats 4000000
namespace Dn
open PySem L2
/-! the law's table of prices -/
def tabN (gs : List Wr) (rows : List (List Int)) : List Row := rows.map fun r => (r, num (LP gs r))
theorem tabN_get {gs : List Wr} {rows : List (List Int)} {r : List Int} (h : r ∈ rows) : getT (tabN gs rows) r = num (LP gs r) := by
  have h1 : r ∈ (tabN gs rows).map (·.1) := by
    unfold tabN
    rw [List.map_map]
    exact List.mem_map.mpr ⟨r, h, rfl⟩
  obtain ⟨v, h2, h3⟩ := tabGet_mem h1
  unfold getT
  rw [h2]
  unfold tabN at h3
  obtain ⟨r', _, e⟩ := List.mem_map.mp h3
  simp only [Prod.mk.injEq] at e
  obtain ⟨rfl, rfl⟩ := e
  rfl
theorem tabN_val {gs : List Wr} {rows : List (List Int)} {r : List Int} (h : r ∈ rows) : dval (tabD numD (tabN gs rows)) (keyI r) = some (numD (num (LP gs r))) := by
  have h1 : r ∈ (tabN gs rows).map (·.1) := by
    unfold tabN
    rw [List.map_map]
    exact List.mem_map.mpr ⟨r, h, rfl⟩
  rw [tabGet_row h1, tabN_get h]
theorem minL_in : ∀ (m : Int) (xs : List Int), minL m xs ∈ m :: xs ∧ ∀ x ∈ m :: xs, minL m xs ≤ x
  | m, [] => ⟨by simp [minL], by simp [minL]⟩
  | m, x :: xs => by
    obtain ⟨h1, h2⟩ := minL_in (min m x) xs
    unfold minL
    refine ⟨?_, fun y hy => ?_⟩
    · rcases List.mem_cons.mp h1 with h | h
      · rw [h]
        rcases Int.min_def m x ▸ (show (if m ≤ x then m else x) = m ∨ (if m ≤ x then m else x) = x by split <;> simp) with e | e
        · rw [e]; simp
        · rw [e]; simp
      · simp [h]
    · have h0 := h2 (min m x) (List.mem_cons_self ..)
      rcases List.mem_cons.mp hy with rfl | hy
      · omega
      · rcases List.mem_cons.mp hy with rfl | hy
        · omega
        · exact h2 y (List.mem_cons_of_mem _ hy)
/-- the prices that one line leads to -/
def gPrice (gs : List Wr) (x : List Int) (g : Wr) : Option Int := if restL x g.2.1 = x then none else (num (LP gs (restL x g.2.1))).map (g.2.2 + ·)
def pricesL (gs all : List Wr) (x : List Int) : List Int := (if x.sum = 0 then [0] else []) ++ gs.filterMap (gPrice all x)
def minO : List Int → Option Int
  | [] => none
  | n :: ns => some (minL n ns)
theorem prices_min {n : Nat} {gs : List Wr} (hg : Gds n gs) {x : List Int} (hl : x.length = n) (hx : NN x) : minO (pricesL gs gs x) = num (LP gs x) := by
  have hLP := LP_eq hg hl hx
  by_cases h0 : x.sum = 0
  · have : gs.filterMap (gPrice gs x) = [] := by
      rw [List.filterMap_eq_nil_iff]
      intro g hgm
      unfold gPrice
      rw [if_pos]
      by_cases h : restL x g.2.1 = x
      · exact h
      · have h1 := restL_lt hx (hg.nn g hgm) (by rw [hl, hg.len g hgm]) h
        have h2 := (nn_sum _ (restL_nn x g.2.1)).1
        omega
    unfold pricesL
    rw [if_pos h0, this, hLP, if_pos h0]
    rfl
  · rw [if_neg h0] at hLP
    unfold pricesL
    rw [if_neg h0, hLP, List.nil_append]
    have hin : ∀ p o, bestOf gs (LP gs) x = some (p, o) → p ∈ gs.filterMap (gPrice gs x) := fun p o h => by
      rcases best_in gs (LP gs) x none p o h with h | ⟨g, hgm, _, hne, q, o', e, rfl⟩
      · cases h
      · refine List.mem_filterMap.mpr ⟨g, hgm, ?_⟩
        unfold gPrice
        rw [if_neg hne, e]
        rfl
    have hle : ∀ p ∈ gs.filterMap (gPrice gs x), ∃ p' o, bestOf gs (LP gs) x = some (p', o) ∧ p' ≤ p := fun p hp => by
      obtain ⟨g, hgm, hgp⟩ := List.mem_filterMap.mp hp
      unfold gPrice at hgp
      split at hgp
      · cases hgp
      · rename_i hne
        cases e : LP gs (restL x g.2.1) with
        | none => rw [e] at hgp; cases hgp
        | some z =>
          rw [e] at hgp
          cases hgp
          exact best_le gs (LP gs) x none g hgm hne z.1 z.2 e
    cases hP : gs.filterMap (gPrice gs x) with
    | nil =>
      cases e : bestOf gs (LP gs) x with
      | none => rfl
      | some z =>
        have := hin z.1 z.2 e
        rw [hP] at this
        cases this
    | cons p ps =>
      rw [hP] at hin hle
      obtain ⟨m1, m2⟩ := minL_in p ps
      obtain ⟨p', o, e1, e2⟩ := hle _ m1
      have h3 := m2 _ (hin p' o e1)
      rw [e1]
      show some (minL p ps) = some p'
      congr 1
      omega
theorem dput_last {α : Type} (enc : α → PyData) (k : List Int) (v v' : α) (t : List (List Int × α)) (h : ∀ p ∈ t, p.1 ≠ k) : dput (tabD enc (t ++ [(k, v)])) (keyI k) (enc v') = tabD enc (t ++ [(k, v')]) := by
  have h1 : ((tabD enc (t ++ [(k, v)])).any fun kv => decide (kv.1 = keyI k)) = true := by
    rw [List.any_eq_true]
    exact ⟨(keyI k, enc v), by simp [tabD], by simp⟩
  unfold dput
  rw [h1]
  simp only [if_true]
  unfold tabD
  rw [List.map_append, List.map_append, List.map_append, List.map_map]
  congr 1
  · refine List.map_congr_left fun p hp => ?_
    simp only [Function.comp]
    rw [if_neg]
    exact fun z => h p hp (keyI_inj z)
  · simp
theorem ltable_one (all : List Wr) (rows : List (List Int)) (x : List Int) (hx : x.length ≤ 1000) (hxr : ∀ g ∈ all, restL x g.2.1 ≠ x → restL x g.2.1 ∈ rows) (g : Wr) (hg : g ∈ all) (hgl : g.2.1.length = x.length) (P : List Int) (hP : P.length ≤ 1000000) (x0 x1 x2 s6 : Sl) :
    b__law_table_1 [x0, x1, x2, .own (.dt (tabD numD (tabN all rows))), .own (.v (rowD x)), .own (.l (P.map oi)), s6, .own (.v (rowD g.2.1)), .own (.v (.int g.2.2)), .no]
     = some (.nx [x0, x1, x2, .own (.dt (tabD numD (tabN all rows))), .own (.v (rowD x)), .own (.l ((P ++ (gPrice all x g).toList).map oi)), .no, .no, .no, .no]) := by
  have hr := lrest_ok x g.2.1 (by omega) hgl
  have hb2 : (restL x g.2.1).length ≤ 16777216 := by rw [restL_len]; omega
  have hb3 : P.length < 16777216 := by omega
  have hrd : (O.l ((restL x g.2.1).map oi)).toD = some (rowD (restL x g.2.1)) := by simp [rowD]
  by_cases hne : restL x g.2.1 = x
  · have : gPrice all x g = none := by unfold gPrice; rw [if_pos hne]
    rw [this]
    simp [b__law_table_1, hr, hne]
  · have hv := tabN_val (gs := all) (hxr g hg hne)
    cases e : LP all (restL x g.2.1) with
    | none =>
      rw [e] at hv
      have hv' : dval (tabD numD (tabN all rows)) (keyI (restL x g.2.1)) = some .none := hv
      have : gPrice all x g = none := by unfold gPrice; rw [if_neg hne, e]; rfl
      rw [this]
      generalize restL x g.2.1 = R at *
      simp [b__law_table_1, hr, hne, hv', hb2]
    | some z =>
      rw [e] at hv
      have hv' : dval (tabD numD (tabN all rows)) (keyI (restL x g.2.1)) = some (.int z.1) := hv
      have : gPrice all x g = some (g.2.2 + z.1) := by unfold gPrice; rw [if_neg hne, e]; rfl
      rw [this]
      generalize restL x g.2.1 = R at *
      simp [b__law_table_1, hr, hne, hv', hb2, hb3]
theorem fne_cons (p : Int) (ps : List Int) : fNe [.list (.int p :: ps.map .int), .list []] = some (.bool true) := by
  have := fNe_nil (p :: ps)
  simpa using this
theorem fne_nil : fNe [.list [], .list []] = some (.bool false) := by
  have := fNe_nil []
  simpa using this
theorem fmin_cons (p : Int) (ps : List Int) : fMin [.list (.int p :: ps.map .int)] = some (.int (minL p ps)) := by
  have h : asInts (.int p :: ps.map .int) = some (p :: ps) := asInts_map (p :: ps)
  rw [fMin_l, h]
theorem ltable_turn (n : Nat) (hn : n ≤ 4) (gs : List Wr) (hg : Gds n gs) (hgl : gs.length ≤ 100000) (rows : List (List Int)) (hrl : rows.length < 10000) (x : List Int) (hx : x.length = n) (hx0 : NN x) (hnew : ∀ r ∈ rows, r ≠ x) (hxr : ∀ g ∈ gs, restL x g.2.1 ≠ x → restL x g.2.1 ∈ rows) (x0 x1 : Sl) :
    b__law_table_2 [x0, x1, .own (.v (.list (gs.map wareD))), .own (.dt (tabD numD (tabN gs rows))), .own (.v (rowD x)), .no, .no, .no, .no, .no]
     = some (.nx [x0, x1, .own (.v (.list (gs.map wareD))), .own (.dt (tabD numD (tabN gs (rows ++ [x])))), .no, .no, .no, .no, .no, .no]) := by
  have hmin := prices_min hg hx hx0
  have hnew' : ∀ p ∈ tabN gs rows, p.1 ≠ x := fun p hp => by
    obtain ⟨r, hr, rfl⟩ := List.mem_map.mp hp
    exact hnew r hr
  have hput := dput_tab numD x none (tabN gs rows) hnew'
  have hput2 := dput_last numD x none (num (LP gs x)) (tabN gs rows) hnew'
  have htl : tabN gs rows ++ [(x, num (LP gs x))] = tabN gs (rows ++ [x]) := by simp [tabN]
  rw [htl] at hput2
  have hloop : ∀ (P0 : List Int), P0.length ≤ 1 → forL (.tp [.n 6, .n 7, .n 8]) b__law_table_1 (gs.map fun g => O.v (wareD g)) [x0, x1, .own (.v (.list (gs.map wareD))), .own (.dt (tabD numD (tabN gs rows))), .own (.v (rowD x)), .own (.l (P0.map oi)), .no, .no, .no, .no]
     = some (.nx [x0, x1, .own (.v (.list (gs.map wareD))), .own (.dt (tabD numD (tabN gs rows))), .own (.v (rowD x)), .own (.l ((P0 ++ gs.filterMap (gPrice gs x)).map oi)), .no, .no, .no, .no]) := fun P0 hP0 => by
    obtain ⟨P, h, hI, -⟩ := for_inv (tg := .tp [.n 6, .n 7, .n 8]) (body := b__law_table_1) (enc := fun (g : Wr) => O.v (wareD g)) (E := fun (P : List Int) => [x0, x1, .own (.v (.list (gs.map wareD))), .own (.dt (tabD numD (tabN gs rows))), .own (.v (rowD x)), .own (.l (P.map oi)), .no, .no, .no, .no])
      (fun pre P => P = P0 ++ pre.filterMap (gPrice gs x) ∧ P.length ≤ pre.length + 1) (all := gs) gs [] P0 rfl ⟨by simp, by simpa using hP0⟩ (by
      intro pre g post P hall ⟨i1, i2⟩
      have hgm : g ∈ gs := by rw [hall]; simp
      have hpl : pre.length < 100000 := by have := congrArg List.length hall; simp at this; omega
      refine ⟨P ++ (gPrice gs x g).toList, [x0, x1, .own (.v (.list (gs.map wareD))), .own (.dt (tabD numD (tabN gs rows))), .own (.v (rowD x)), .own (.l (P.map oi)), .own (.v (lineD g.1)), .own (.v (rowD g.2.1)), .own (.v (.int g.2.2)), .no], by simp [wareD], ltable_one gs rows x (by omega) hxr g hgm (by rw [hg.len g hgm, hx]) P (by omega) _ _ _ _, ?_, ?_⟩
      · rw [i1, List.filterMap_append]
        cases e : gPrice gs x g <;> simp [e]
      · rw [List.length_append, List.length_append, List.length_singleton]
        cases e : gPrice gs x g <;> simp <;> omega)
    rw [hI] at h
    exact h
  have hb1 : x.length ≤ 16777216 := by omega
  have hb2 : (tabD numD (tabN gs rows)).length < 16777216 := by simp [tabD, tabN]; omega
  have hb3 : (tabD numD (tabN gs rows ++ [(x, none)])).length < 16777216 := by simp [tabD, tabN]; omega
  have hmv : (gs.map fun g => O.v (wareD g)) = (gs.map wareD).map O.v := by rw [List.map_map]; rfl
  simp only [hmv] at hloop
  have hgl2 : (gs.map wareD).length ≤ 16777216 := by rw [List.length_map]; omega
  have n0 : numD none = .none := rfl
  rw [n0] at hput
  generalize gs.map wareD = GD at *
  generalize hT1 : tabN gs rows ++ [(x, none)] = T1 at *
  generalize hT2 : tabN gs (rows ++ [x]) = T2 at *
  generalize tabN gs rows = T0 at *
  by_cases h0 : x.sum = 0
  · have hlp := hloop [0] (by simp)
    have hP : pricesL gs gs x = [0] ++ gs.filterMap (gPrice gs x) := by unfold pricesL; rw [if_pos h0]
    rw [hP] at hmin
    generalize gs.filterMap (gPrice gs x) = FP at *
    rw [← hmin] at hput2
    have hp2 : dput (tabD numD T1) (keyI x) (.int (minL 0 FP)) = tabD numD T2 := hput2
    have c0 : cutG [O.v (.int 0)] none (some 1) = [O.v (.int 0)] := rfl
    have z1 : ([0] : List Int).map oi = [O.v (.int 0)] := rfl
    have z2 : ([0] ++ FP).map oi = (0 :: FP).map oi := rfl
    rw [z1, z2] at hlp
    have f1 := fne_cons 0 FP
    have f2 := fmin_cons 0 FP
    simp [b__law_table_2, h0, fInt_t, c0, hlp, hput, hp2, hb1, hb2, hb3, hgl2, f1, f2]
  · have hlp := hloop [] (by simp)
    have hP : pricesL gs gs x = gs.filterMap (gPrice gs x) := by unfold pricesL; rw [if_neg h0]; rfl
    rw [hP] at hmin
    rw [List.nil_append] at hlp
    have c0 : cutG [O.v (.int 0)] none (some 0) = [] := rfl
    generalize gs.filterMap (gPrice gs x) = FP at *
    cases FP with
    | nil =>
      rw [← hmin] at hput2
      have z1 : ([] : List Int).map oi = [] := rfl
      rw [z1] at hlp
      have e0 : T2 = T1 := by rw [← htl, ← hT1, ← hmin]; rfl
      rw [e0]
      have f0 : fNe [.list [], .list []] = some (.bool false) := fne_nil
      simp [b__law_table_2, h0, fInt_f, c0, hlp, hput, hb1, hb2, hb3, hgl2, f0]
    | cons p ps =>
      rw [← hmin] at hput2
      have hp2 : dput (tabD numD T1) (keyI x) (.int (minL p ps)) = tabD numD T2 := hput2
      have z1 : ([] : List Int).map oi = [] := rfl
      rw [z1] at hlp
      have f1 := fne_cons p ps
      have f2 := fmin_cons p ps
      simp [b__law_table_2, h0, fInt_f, c0, hlp, hput, hp2, hb1, hb2, hb3, hgl2, f1, f2]
theorem ltable_ok (n : Nat) (hn : n ≤ 4) (sh : List Off) (hg : Good n sh) (hs : sh.length ≤ 10) (w : List Int) (hw : Want n w) : sem__law_table [.v (shopD sh), .v (rowD w)] = some (.dt (tabD numD (caseL (waresL sh) w)), []) := by
  obtain ⟨x, g1, g2⟩ := llesser_ok w hw.nine (by rw [hw.len]; exact hn)
  have h3 := lwares_ok n hn sh hg hs
  have hlen := les_len9 hw.nine (by rw [hw.len]; exact hn)
  have hgd := gds_wares hg hs
  have hpw := les_pair w
  have hwl : (waresL sh).length ≤ 100000 := by
    have := linesL_len sh hs
    unfold waresL; rw [List.length_map]; omega
  have hloop : ∀ x0 x1 : Sl, forL (.n 4) b__law_table_2 ((les w).map fun r => O.v (rowD r)) [x0, x1, .own (.v (.list ((waresL sh).map wareD))), .own (.dt []), .no, .no, .no, .no, .no, .no]
     = some (.nx [x0, x1, .own (.v (.list ((waresL sh).map wareD))), .own (.dt (tabD numD (tabN (waresL sh) (les w)))), .no, .no, .no, .no, .no, .no]) := fun x0 x1 => by
    obtain ⟨b, h, hI⟩ := for_inv (tg := .n 4) (body := b__law_table_2) (enc := fun (r : List Int) => O.v (rowD r)) (E := fun (rows : List (List Int)) => [x0, x1, .own (.v (.list ((waresL sh).map wareD))), .own (.dt (tabD numD (tabN (waresL sh) rows))), .no, .no, .no, .no, .no, .no])
      (fun pre rows => rows = pre) (all := les w) (les w) [] [] rfl rfl (by
      intro pre y post rows hall hr
      subst hr
      have hym : y ∈ les w := by rw [hall]; simp
      have hyl : y.length = n := by rw [les_len_el hym]; exact hw.len
      have hyn := les_nn hym
      have hpl : rows.length < 10000 := by have := congrArg List.length hall; simp at this; omega
      refine ⟨rows ++ [y], _, rfl, ltable_turn n hn (waresL sh) hgd hwl rows hpl y hyl hyn (fun r hr e => ?_) (fun g hgm hne => ?_) _ _, rfl⟩
      · subst e
        rw [hall, List.pairwise_append] at hpw
        have := hpw.2.2 r hr r (List.mem_cons_self ..)
        rw [lexI_irrefl] at this
        cases this
      · have h1 : restL y g.2.1 ∈ les y := restL_les hyn (hgd.nn g hgm) (by rw [hgd.len g hgm, hyl])
        have h2 : restL y g.2.1 ∈ les w := les_trans hym h1
        rw [hall] at h2 hpw
        exact pre_of_lex hpw h2 (les_lex h1 hne))
    rw [hI] at h
    exact h
  have hcase : tabN (waresL sh) (les w) = caseL (waresL sh) w := rfl
  rw [hcase] at hloop
  have hmv : ((les w).map fun r => O.v (rowD r)) = ((les w).map rowD).map O.v := by rw [List.map_map]; rfl
  simp only [hmv] at hloop
  have hb : ((les w).map rowD).length ≤ 16777216 := by rw [List.length_map]; omega
  generalize (les w).map rowD = LD at *
  generalize tabD numD (caseL (waresL sh) w) = TD at *
  simp [un__law_table, m__law_table, h3, g1, g2, hloop, hb]
/-- the told table shows -/
theorem case_shows {n : Nat} {gs : List Wr} (hg : Gds n gs) {w : List Int} (hl : w.length = n) (hw : NN w) : showsT gs (les w) (caseL gs w) = true := by
  have h1 : (caseL gs w).map (·.1) = les w := by unfold caseL; rw [List.map_map]; exact List.map_id _
  have hget : ∀ r ∈ les w, getT (caseL gs w) r = num (LP gs r) := fun r hr => tabN_get (gs := gs) hr
  unfold showsT
  rw [h1]
  simp only [decide_true, Bool.true_and, Bool.and_eq_true, List.all_eq_true]
  refine ⟨?_, fun v hv => ?_⟩
  · obtain ⟨t, ht⟩ := les_head w hw
    have hz : (w.map fun _ => (0 : Int)).sum = 0 := by
      clear h1 hget ht hw hl
      induction w with
      | nil => rfl
      | cons a w ih => rw [List.map_cons, List.sum_cons, ih]; rfl
    have h0 := LP_eq hg (w := w.map fun _ => 0) (by rw [List.length_map]; exact hl) (fun x hx => by
      obtain ⟨y, _, rfl⟩ := List.mem_map.mp hx
      exact Int.le_refl _)
    rw [if_pos hz] at h0
    unfold caseL
    rw [ht, List.map_cons, h0]
    rfl
  · unfold showsB
    rw [List.all_eq_true]
    intro g hgm
    have hvl : v.length = n := by rw [les_len_el hv]; exact hl
    have hvn := les_nn hv
    have h2 : restL v g.2.1 ∈ les w := les_trans hv (restL_les hvn (hg.nn g hgm) (by rw [hg.len g hgm, hvl]))
    rw [hget v hv, hget _ h2]
    unfold okB
    cases e : LP gs (restL v g.2.1) with
    | none => rfl
    | some z =>
      obtain ⟨ps, p1, p2, p3⟩ := LP_is hg _ _ (restL_len' hvl (hg.len g hgm)) (restL_nn _ _) rfl z.1 z.2 e
      obtain ⟨p, o, q1, q2⟩ := LP_le hg (g :: ps) v hvl hvn (fun g' hg' => by
        rcases List.mem_cons.mp hg' with rfl | hg'
        · exact hgm
        · exact p1 g' hg') p2
      rw [q1]
      have : costW (g :: ps) = g.2.2 + costW ps := by simp [costW]
      show decide (p ≤ g.2.2 + z.1) = true
      rw [decide_eq_true_eq]
      omega
end Dn

set_option Elab.async false
set_option linter.all false
set_option maxRecDepth 100000
set_option maxHeartbeats 4000000
namespace Dn
open PySem L2 StrLaws Builtin Builtin.Str
/-! a joined text is split into its pieces -/
def CS (l : List Nat) : Prop := ∀ i : Nat, l[i]? = some 44 → l[i + 1]? = some 32
theorem occ_keeps (s sub : Str) (hi limit : Nat) : ∀ (l : List Nat) (st : Array Nat × Nat) (j : Nat), j ∈ st.1.toList → j ∈ (forIn l st (occBody s sub hi limit)).run.fst.toList
  | [], _, _, h => h
  | a :: l, st, j, h => by
    rw [List.forIn_cons]
    unfold occBody
    split
    · exact occ_keeps s sub hi limit l _ j (by
        show j ∈ (st.fst.push a).toList
        rw [Array.toList_push]
        exact List.mem_append_left _ h)
    · exact occ_keeps s sub hi limit l _ j h
theorem occ_all (x sub : Str) (hsub : sub.cps.toList = [44, 32]) (hx : CS x.cps.toList) : ∀ (m k : Nat) (st : Array Nat × Nat), k + m = x.length + 1 → st.1.size ≤ k → (∀ j, k ≤ j → x.cps.toList[j]? = some 44 → st.2 ≤ j) →
    ∀ j, k ≤ j → x.cps.toList[j]? = some 44 → j ∈ (forIn (List.range' k m) st (occBody x sub x.length (x.length + 1))).run.fst.toList := by
  have hlen : sub.length = 2 := by
    show sub.cps.size = 2
    rw [← Array.length_toList, hsub]; rfl
  intro m
  induction m with
  | zero =>
    intro k st hk _ _ j hj hc
    have := (List.getElem?_eq_some_iff.mp hc).1
    rw [Array.length_toList] at this
    have h2 : x.cps.size = x.length := rfl
    omega
  | succ m ih =>
    intro k st hk hs hf j hj hc
    rw [List.range'_succ, List.forIn_cons]
    have hat : subAt x sub k = true ↔ x.cps.toList[k]? = some 44 := by
      rw [subAt_eq, hlen, hsub, beq_iff_eq]
      constructor
      · intro h
        have h1 : ((x.cps.toList.drop k).take 2)[0]? = some 44 := by rw [h]; rfl
        simpa using h1
      · intro h
        have h1 := hx k h
        obtain ⟨l1, e1⟩ := List.getElem?_eq_some_iff.mp h
        obtain ⟨l2, e2⟩ := List.getElem?_eq_some_iff.mp h1
        rw [List.drop_eq_getElem_cons l1, e1, List.drop_eq_getElem_cons l2, e2]
        rfl
    unfold occBody
    by_cases hk4 : x.cps.toList[k]? = some 44
    · have h1 := hx k hk4
      have h2 := (List.getElem?_eq_some_iff.mp h1).1
      rw [Array.length_toList] at h2
      have h3 : x.cps.size = x.length := rfl
      rw [if_pos ⟨⟨⟨by omega, hf k (Nat.le_refl _) hk4⟩, by omega⟩, hat.mpr hk4⟩]
      by_cases hjk : j = k
      · subst hjk
        refine occ_keeps x sub _ _ _ _ _ ?_
        show j ∈ (st.fst.push j).toList
        rw [Array.toList_push]
        simp
      · refine ih (k + 1) (st.fst.push k, k + sub.length) (by omega) (by rw [Array.size_push]; omega) (fun i hi hc' => ?_) j (by omega) hc
        show k + sub.length ≤ i
        have : i ≠ k + 1 := fun z => by rw [z, h1] at hc'; cases hc'
        omega
    · rw [if_neg (fun z => hk4 (hat.mp z.2))]
      have hjk : j ≠ k := fun z => hk4 (z ▸ hc)
      exact ih (k + 1) st (by omega) (by omega) (fun i hi hc' => hf i (by omega) hc') j (by omega) hc
theorem parts_free (x sub : Str) (hsub : sub.cps.toList = [44, 32]) : ∀ (cuts : List Nat) (a f : Nat), ChainTo x sub x.length a cuts f → (∀ i, a ≤ i → x.cps.toList[i]? = some 44 → i ∈ cuts) → ∀ q ∈ partsFrom x sub.length a cuts, 44 ∉ q.cps.toList := by
  have hlen : sub.length = 2 := by
    show sub.cps.size = 2
    rw [← Array.length_toList, hsub]; rfl
  have hin : ∀ {a c : Nat}, 44 ∈ (strSub x a c).cps.toList → ∃ i, a ≤ i ∧ i < c ∧ x.cps.toList[i]? = some 44 := fun {a c} h => by
    rw [strSub_toList] at h
    obtain ⟨j, hj⟩ := List.getElem?_of_mem h
    rw [List.getElem?_take] at hj
    split at hj
    · rw [List.getElem?_drop] at hj
      exact ⟨a + j, by omega, by omega, hj⟩
    · cases hj
  have hge : ∀ (cuts : List Nat) (a f : Nat), ChainTo x sub x.length a cuts f → ∀ i ∈ cuts, a ≤ i := by
    intro cuts
    induction cuts with
    | nil => intro a f _ i hi; cases hi
    | cons c r ih =>
      intro a f h i hi
      rcases List.mem_cons.mp hi with rfl | hi
      · exact h.1
      · have := ih _ _ h.2.2 i hi
        have := h.1
        omega
  intro cuts
  induction cuts with
  | nil =>
    intro a f h hc q hq
    have : q = strSub x a x.length := by simpa [partsFrom] using hq
    subst this
    intro h44
    obtain ⟨i, h1, h2, h3⟩ := hin h44
    have := hc i h1 h3
    cases this
  | cons c r ih =>
    intro a f h hc q hq
    rcases List.mem_cons.mp (show q ∈ strSub x a c :: partsFrom x sub.length (c + sub.length) r from hq) with rfl | hq
    · intro h44
      obtain ⟨i, h1, h2, h3⟩ := hin h44
      rcases List.mem_cons.mp (hc i h1 h3) with rfl | h4
      · omega
      · have := hge r _ f h.2.2 i h4
        omega
    · refine ih (c + sub.length) f h.2.2 (fun i hi h3 => ?_) q hq
      rcases List.mem_cons.mp (hc i (by have := h.1; omega) h3) with rfl | h4
      · omega
      · exact h4
theorem split_free (x sub : Str) (hsub : sub.cps.toList = [44, 32]) (hx : CS x.cps.toList) : ∀ q ∈ Txt.split x sub, 44 ∉ q.cps.toList := by
  have hall := occ_all x sub hsub hx (x.length + 1) 0 (#[], 0) (by omega) (by simp) (fun j _ _ => Nat.zero_le _)
  have hoc : occurrences x sub 0 x.length (x.length + 1) = (forIn (List.range' 0 (x.length + 1)) (#[], 0) (occBody x sub x.length (x.length + 1))).run.fst.toList := occ_eq x sub 0 x.length (x.length + 1)
  rw [← hoc] at hall
  obtain ⟨f, hch⟩ := occ_chain x sub (x.length + 1)
  intro q hq
  unfold Txt.split at hq
  split at hq
  · rename_i hshort
    rw [List.mem_singleton] at hq
    subst hq
    have hlen : sub.length = 2 := by
      show sub.cps.size = 2
      rw [← Array.length_toList, hsub]; rfl
    have hk : Builtin.Str.strKind sub = 1 := by
      have : sub = ⟨#[44, 32]⟩ := mk_of_toList (l := [44, 32]) hsub
      rw [this]
      decide +kernel
    have hk2 : ¬ Builtin.Str.strKind q < 1 := by
      unfold Builtin.Str.strKind
      split
      · omega
      · split <;> omega
    rw [Bool.or_eq_true, decide_eq_true_eq, decide_eq_true_eq, hlen, hk] at hshort
    intro h44
    obtain ⟨i, hi⟩ := List.getElem?_of_mem h44
    have h1 := (List.getElem?_eq_some_iff.mp (hx i hi)).1
    rw [Array.length_toList] at h1
    have h2 : q.cps.size = q.length := rfl
    rcases hshort with h | h
    · omega
    · exact hk2 h
  · split at hq
    · rename_i he
      rw [List.mem_singleton] at hq
      subst hq
      intro h44
      obtain ⟨i, hi⟩ := List.getElem?_of_mem h44
      have := hall i (Nat.zero_le _) hi
      rw [List.isEmpty_iff.mp he] at this
      cases this
    · rw [partsBetween_eq] at hq
      exact parts_free x sub hsub _ 0 f hch (fun i _ h3 => hall i (Nat.zero_le _) h3) q hq
theorem cut44 : ∀ (l1 l2 t1 t2 : List Nat), 44 ∉ l1 → 44 ∉ l2 → l1 ++ 44 :: t1 = l2 ++ 44 :: t2 → l1 = l2 ∧ t1 = t2
  | [], [], t1, t2, _, _, h => ⟨rfl, (List.cons.inj h).2⟩
  | [], b :: l2, t1, t2, _, h2, h => absurd (by rw [List.nil_append, List.cons_append] at h; rw [← (List.cons.inj h).1]; exact List.mem_cons_self ..) h2
  | a :: l1, [], t1, t2, h1, _, h => absurd (by rw [List.nil_append, List.cons_append] at h; rw [(List.cons.inj h).1]; exact List.mem_cons_self ..) h1
  | a :: l1, b :: l2, t1, t2, h1, h2, h => by
    rw [List.cons_append, List.cons_append] at h
    obtain ⟨e1, e2⟩ := List.cons.inj h
    obtain ⟨e3, e4⟩ := cut44 l1 l2 t1 t2 (fun z => h1 (List.mem_cons_of_mem _ z)) (fun z => h2 (List.mem_cons_of_mem _ z)) e2
    exact ⟨by rw [e1, e3], e4⟩
theorem str_ext {a b : Str} (h : a.cps.toList = b.cps.toList) : a = b := PySem.Str.ext' (by rw [← Array.toArray_toList (xs := a.cps), ← Array.toArray_toList (xs := b.cps), h])
theorem join_toL (sep a b : Str) (hsep : sep.cps.toList = [44, 32]) (r : List Str) : (Str.join sep (a :: b :: r)).cps.toList = a.cps.toList ++ 44 :: 32 :: (Str.join sep (b :: r)).cps.toList := by
  show (a ++ sep ++ Str.join sep (b :: r)).cps.toList = _
  rw [Str.cps_append, Str.cps_append, Array.toList_append, Array.toList_append, hsep]
  simp
/-- one way alone to lay a text out as pieces without a comma -/
theorem join_inj (sep : Str) (hsep : sep.cps.toList = [44, 32]) : ∀ (A B : List Str), A ≠ [] → B ≠ [] → (∀ a ∈ A, 44 ∉ a.cps.toList) → (∀ b ∈ B, 44 ∉ b.cps.toList) → Str.join sep A = Str.join sep B → A = B
  | [], _, h, _, _, _, _ => absurd rfl h
  | _, [], _, h, _, _, _ => absurd rfl h
  | [a], [b], _, _, _, _, h => by
    have : a = b := h
    rw [this]
  | [a], b :: c :: r, _, _, h1, _, h => by
    have h3 : a.cps.toList = b.cps.toList ++ 44 :: 32 :: (Str.join sep (c :: r)).cps.toList := by rw [← join_toL sep b c hsep r, ← h]; rfl
    exact absurd (by rw [h3]; simp) (h1 a (List.mem_cons_self ..))
  | a :: c :: r, [b], _, _, _, h1, h => by
    have h3 : b.cps.toList = a.cps.toList ++ 44 :: 32 :: (Str.join sep (c :: r)).cps.toList := by rw [← join_toL sep a c hsep r, h]; rfl
    exact absurd (by rw [h3]; simp) (h1 b (List.mem_cons_self ..))
  | a :: c :: r, b :: d :: t, _, _, h1, h2, h => by
    have h3 := congrArg (fun z : Str => z.cps.toList) h
    simp only [join_toL sep _ _ hsep] at h3
    obtain ⟨e1, e2⟩ := cut44 _ _ _ _ (h1 a (List.mem_cons_self ..)) (h2 b (List.mem_cons_self ..)) h3
    have e3 : Str.join sep (c :: r) = Str.join sep (d :: t) := str_ext (List.cons.inj e2).2
    have := join_inj sep hsep (c :: r) (d :: t) (by simp) (by simp) (fun x hx => h1 x (List.mem_cons_of_mem _ hx)) (fun x hx => h2 x (List.mem_cons_of_mem _ hx)) e3
    rw [str_ext e1, this]
theorem join_cs (sep : Str) (hsep : sep.cps.toList = [44, 32]) : ∀ (A : List Str), (∀ a ∈ A, 44 ∉ a.cps.toList) → CS (Str.join sep A).cps.toList
  | [], _ => fun i h => by
    have : (Str.join sep []).cps.toList = [] := rfl
    rw [this] at h
    simp at h
  | [a], h => fun i hi => absurd (List.mem_of_getElem? hi) (h a (List.mem_cons_self ..))
  | a :: b :: r, h => fun i hi => by
    have ih := join_cs sep hsep (b :: r) fun x hx => h x (List.mem_cons_of_mem _ hx)
    rw [join_toL sep a b hsep] at hi ⊢
    by_cases h1 : i < a.cps.toList.length
    · rw [List.getElem?_append_left h1] at hi
      exact absurd (List.mem_of_getElem? hi) (h a (List.mem_cons_self ..))
    · rw [List.getElem?_append_right (by omega)] at hi ⊢
      obtain ⟨j, hj⟩ : ∃ j, j = i - a.cps.toList.length := ⟨_, rfl⟩
      rw [show i + 1 - a.cps.toList.length = j + 1 by omega]
      rw [← hj] at hi
      match j with
      | 0 => rfl
      | 1 => simp at hi
      | j + 2 =>
        simp only [List.getElem?_cons_succ] at hi ⊢
        exact ih j hi
theorem split_join (sep : Str) (hsep : sep.cps.toList = [44, 32]) (A : List Str) (hA : A ≠ []) (h : ∀ a ∈ A, 44 ∉ a.cps.toList) : Txt.split (Str.join sep A) sep = A := by
  refine join_inj sep hsep _ _ ?_ hA (split_free _ sep hsep (join_cs sep hsep A h)) h (join_split _ _)
  unfold Txt.split
  split
  · simp
  · split
    · simp
    · rw [partsBetween_eq]
      obtain ⟨p, r, e⟩ := partsFrom_ne (Str.join sep A) sep.length 0 (occurrences (Str.join sep A) sep 0 (Str.join sep A).length ((Str.join sep A).length + 1))
      rw [e]
      simp
end Dn

set_option Elab.async false
set_option linter.all false
set_option maxRecDepth 100000
set_option maxHeartbeats 4000000
namespace Dn
open PySem L2
/-! names -/
abbrev so' (x : Str) : O := .v (.str x)
def one (c : Nat) : Str := ⟨#[c]⟩
structure Nm (x : Str) : Prop where
  low : ∀ c ∈ x.cps.toList, 97 ≤ c ∧ c ≤ 122
  len : x.length ≤ 8
theorem strsO_map {α : Type} (g : α → Str) : ∀ xs : List α, strsO (xs.map fun x => O.v (.str (g x))) = some (xs.map g)
  | [] => rfl
  | x :: xs => by
    rw [List.map_cons, List.map_cons]
    unfold strsO
    rw [strsO_map g xs]
theorem joinO_l (a : Str) (os : List O) : joinO [.v (.str a), .l os] = (match strsO os with
      | some ys => if (ys.map (·.length)).sum + ys.length * a.length ≤ sizeLine then some (.v (.str (Txt.join a ys))) else none
      | none => none) := id rfl
theorem joinO_v (a : Str) (ds : List PyData) : joinO [.v (.str a), .v (.list ds)] = (match strsO (ds.map .v) with
      | some ys => if (ys.map (·.length)).sum + ys.length * a.length ≤ sizeLine then some (.v (.str (Txt.join a ys))) else none
      | none => none) := id rfl
theorem txt_join (a : Str) (ys : List Str) : Txt.join a ys = Str.join a ys := StrLaws.glued_eq_join a ys
theorem join_one : ∀ cs : List Nat, (Str.join "" (cs.map one)).cps.toList = cs
  | [] => rfl
  | [c] => rfl
  | c :: d :: r => by
    have ih := join_one (d :: r)
    show (one c ++ ("" : Str) ++ Str.join "" ((d :: r).map one)).cps.toList = _
    rw [Str.cps_append, Str.cps_append, Array.toList_append, Array.toList_append, ih]
    rfl
def abc : Str := "abcdefghijklmnopqrstuvwxyz"
theorem abc_l : abc.cps.toList = (List.range 26).map (· + 97) := by decide +kernel
def lAtN (n : Int) (j : Nat) : Nat := (n / (100 * (1 + 2 * (j : Int) * j)) % 26).toNat + 97
theorem abc_at (k : Nat) (hk : k < 26) : atI abc.cps.toList (k : Int) = some (k + 97) := by
  rw [abc_l, atI_map, atI_nat (j := k) (x := k) rfl (by rw [List.getElem?_range hk])]
  rfl
theorem str_of (x : Str) (l : List Nat) (h : x.cps.toList = l) : x.length = l.length := by rw [← h, Array.length_toList]; rfl
theorem one_len (c : Nat) : (one c).length = 1 := rfl
theorem ixO_str (z : Str) (i : Int) (c : Nat) (hl : z.length ≤ 16777216) (h : atI z.cps.toList i = some c) : ixO [.v (.str z), .v (.int i)] = some (.str (one c)) := by
  show (if z.length ≤ sizeLine then (match atI z.cps.toList i with | some c => some (PyData.str ⟨#[c]⟩) | none => none) else none) = _
  rw [if_pos (by rw [sizeLine_eq]; exact hl), h]
  rfl
theorem name_lc (n : Int) (m : Nat) (hm : m ≤ 7) (e : En) (h5 : e[5]? = some (.own (.v (.int n)))) (h6 : e[6]? = some (.own (.v (.str abc)))) (h8 : e[8]? = some .no) :
    lcL (.n 8) mYes ce__law_names_1 [8] ((List.range m).map fun (k : Nat) => O.v (.int (k : Int))) e = some ((List.range m).map fun k => O.v (.str (one (lAtN n k))), e) := by
  refine lc_map1 h8 _ fun k hk e' q1 q2 => ?_
  have hk : k < m := List.mem_range.mp hk
  have h5' := (q2 5 (by decide)).trans h5
  have h6' := (q2 6 (by decide)).trans h6
  have hkk : (2 * (k : Int) * k) ≤ 2 * 6 * 6 := Int.mul_le_mul (by omega) (by omega) (by omega) (by omega)
  have hk0 : 0 ≤ (2 * (k : Int) * k) := Int.mul_nonneg (by omega) (by omega)
  have hb1 : -18446744073709551616 < 1 + 2 * (k : Int) * k := by omega
  have hb2 : 1 + 2 * (k : Int) * k < 18446744073709551616 := by omega
  have hb3 : 0 < 100 * (1 + 2 * (k : Int) * k) := by omega
  have hb4 : 100 * (1 + 2 * (k : Int) * k) < 18446744073709551616 := by omega
  have hb5 : -18446744073709551616 < (k : Int) := by omega
  have hb6 : (k : Int) < 18446744073709551616 := by omega
  obtain ⟨a, ha, hae⟩ := emod_nat (n / (100 * (1 + 2 * (k : Int) * k))) (k := 26) (by decide)
  have hae' : n / (100 * (1 + 2 * (k : Int) * k)) % 26 = (a : Int) := hae
  have hc : lAtN n k = a + 97 := by unfold lAtN; rw [hae']; simp
  have hat := abc_at a ha
  have hal : abc.length ≤ 16777216 := by
    have := str_of abc _ abc_l
    rw [this]; simp
  have hix := ixO_str abc (a : Int) (a + 97) hal hat
  rw [hc]
  simp [ce__law_names_1, q1, h5', h6', hb1, hb2, hb3, hb4, hb5, hb6, hae', hix]
/-- the texts of a list of data -/
theorem fIn_strs (x : Str) (ys : List Str) (hx : PyData.strOk x = true) (hy : ∀ y ∈ ys, PyData.strOk y = true) : fIn [.str x, .list (ys.map .str)] = some (.bool (decide (x ∈ ys))) ∧ fNotIn [.str x, .list (ys.map .str)] = some (.bool (!decide (x ∈ ys))) := by
  have h1 : nb (.str x) 2 = true := by unfold nb; exact hx
  have h2 : nb (.list (ys.map .str)) 2 = true := by
    rw [nb_list, List.all_eq_true]
    intro d hd
    obtain ⟨y, hy', rfl⟩ := List.mem_map.mp hd
    unfold nb
    exact hy y hy'
  obtain ⟨a1, a2⟩ := nb_shape 2 _ h1
  obtain ⟨b1, b2⟩ := nb_shape 2 _ h2
  have s1 : SeqAt.shaped (.str x) = true := by rw [shaped_eq, a1, decide_eq_true (Nat.le_trans a2 (by decide))]; rfl
  have s2 : SeqAt.shaped (.list (ys.map .str)) = true := by rw [shaped_eq, b1, decide_eq_true (Nat.le_trans b2 (by decide))]; rfl
  have hany : ((ys.map PyData.str).any fun z => PyData.eqv z (.str x)) = decide (x ∈ ys) := by
    rw [Bool.eq_iff_iff, List.any_eq_true, decide_eq_true_eq]
    constructor
    · rintro ⟨z, hz, he⟩
      obtain ⟨y, hy', rfl⟩ := List.mem_map.mp hz
      have : (y == x) = true := he
      rw [beq_iff_eq] at this
      rw [← this]; exact hy'
    · intro h
      exact ⟨.str x, List.mem_map.mpr ⟨x, h, rfl⟩, by show (x == x) = true; simp⟩
  constructor
  · show (if SeqAt.shaped (.str x) && SeqAt.shaped (.list (ys.map .str)) then some (PyData.bool ((ys.map PyData.str).any fun z => PyData.eqv z (.str x))) else none) = _
    rw [s1, s2, hany]; rfl
  · show (if SeqAt.shaped (.str x) && SeqAt.shaped (.list (ys.map .str)) then some (PyData.bool (!(ys.map PyData.str).any fun z => PyData.eqv z (.str x))) else none) = _
    rw [s1, s2, hany]; rfl
theorem Nm.ok {x : Str} (h : Nm x) : PyData.strOk x = true := by
  rw [strOk_iff]
  intro c hc
  have := h.low c hc
  omega
def oddL : List Str := ["for", "many", "with", "nothing", "x", "things", "none", "i"]
def nmB (x : Str) : Bool := (x.cps.toList.all fun c => decide (97 ≤ c) && decide (c ≤ 122)) && decide (x.length ≤ 7)
theorem nmB_ok {x : Str} (h : nmB x = true) : Nm x ∧ x.length ≤ 7 := by
  unfold nmB at h
  rw [Bool.and_eq_true, List.all_eq_true, decide_eq_true_eq] at h
  refine ⟨⟨fun c hc => ?_, by omega⟩, h.2⟩
  have := h.1 c hc
  rw [Bool.and_eq_true, decide_eq_true_eq, decide_eq_true_eq] at this
  exact this
theorem odd_ok : ∀ x ∈ oddL, Nm x ∧ x.length ≤ 7 := fun x hx => nmB_ok (by
  have : oddL.all nmB = true := by decide +kernel
  exact List.all_eq_true.mp this x hx)
theorem repS_l (c : Nat) : (repS (one c) 8).cps.toList = List.replicate 8 c := by
  unfold repS one
  simp
theorem rep_nm (j : Nat) (hj : j < 4) : Nm (repS (one (97 + j)) 8) := by
  have h := repS_l (97 + j)
  refine ⟨fun c hc => ?_, by rw [str_of _ _ h]; simp⟩
  rw [h] at hc
  have := List.eq_of_mem_replicate hc
  omega
structure Names (k : Nat) (ys : List Str) : Prop where
  len : ys.length = k
  nm : ∀ y ∈ ys, Nm y
  nod : ys.Nodup
  how : ∀ y ∈ ys, y.length ≤ 7 ∨ ∃ j < k, y = repS (one (97 + j)) 8
theorem Names.snoc {k : Nat} {ys : List Str} (h : Names k ys) {x : Str} (hx : Nm x) (hn : x ∉ ys) (hh : x.length ≤ 7 ∨ x = repS (one (97 + k)) 8) : Names (k + 1) (ys ++ [x]) := by
  refine ⟨by simp [h.len], fun y hy => ?_, ?_, fun y hy => ?_⟩
  · rcases List.mem_append.mp hy with hy | hy
    · exact h.nm y hy
    · rw [List.mem_singleton] at hy; rw [hy]; exact hx
  · rw [List.nodup_append]
    refine ⟨h.nod, by simp, fun a ha b hb => ?_⟩
    rw [List.mem_singleton] at hb
    rw [hb]
    exact fun z => hn (z ▸ ha)
  · rcases List.mem_append.mp hy with hy | hy
    · rcases h.how y hy with h1 | ⟨j, h1, h2⟩
      · exact .inl h1
      · exact .inr ⟨j, by omega, h2⟩
    · rw [List.mem_singleton] at hy
      rw [hy]
      rcases hh with h1 | h1
      · exact .inl h1
      · exact .inr ⟨k, by omega, h1⟩
theorem Names.rep {k : Nat} {ys : List Str} (h : Names k ys) : repS (one (97 + k)) 8 ∉ ys := fun hm => by
  rcases h.how _ hm with h1 | ⟨j, h1, h2⟩
  · rw [str_of _ _ (repS_l (97 + k))] at h1
    simp at h1
  · have h3 := congrArg (fun z : Str => z.cps.toList) h2
    simp only [repS_l] at h3
    have : (List.replicate 8 (97 + k))[0]? = (List.replicate 8 (97 + j))[0]? := by rw [h3]
    simp at this
    omega
theorem name_w (n : Int) (m : Nat) (hm : m ≤ 7) : nmB (Str.join "" (((List.range m).map fun k => one (lAtN n k)))) = true := by
  have h := join_one ((List.range m).map (lAtN n))
  rw [List.map_map] at h
  have h' : (Str.join "" ((List.range m).map fun k => one (lAtN n k))).cps.toList = (List.range m).map (lAtN n) := h
  unfold nmB
  rw [h', str_of _ _ h', Bool.and_eq_true, List.all_eq_true, decide_eq_true_eq]
  refine ⟨fun c hc => ?_, by simp; omega⟩
  obtain ⟨k, _, rfl⟩ := List.mem_map.mp hc
  have h1 := Int.emod_nonneg (n / (100 * (1 + 2 * (k : Int) * k))) (show (26 : Int) ≠ 0 by decide)
  have h2 := Int.emod_lt_of_pos (n / (100 * (1 + 2 * (k : Int) * k))) (show (0 : Int) < 26 by decide)
  rw [Bool.and_eq_true, decide_eq_true_eq, decide_eq_true_eq]
  unfold lAtN
  omega
theorem toDs_so (ys : List Str) : O.toDs (ys.map so') = some (ys.map .str) := toDs_map (fun _ => rfl) ys
theorem abcd_at (k : Nat) (hk : k < 4) : ixO [.v (.str "abcd"), .v (.int (k : Int))] = some (.str (one (97 + k))) := by
  match k, hk with
  | 0, _ => exact ixO_str _ _ _ (by decide +kernel) (by decide +kernel)
  | 1, _ => exact ixO_str _ _ _ (by decide +kernel) (by decide +kernel)
  | 2, _ => exact ixO_str _ _ _ (by decide +kernel) (by decide +kernel)
  | 3, _ => exact ixO_str _ _ _ (by decide +kernel) (by decide +kernel)
theorem fMulS_one (c : Nat) : fMulS [.str (one c), .int 8] = some (.str (repS (one c) 8)) := by
  show (if (2 ≤ (8 : Int) ∧ (8 : Int) ≤ 1000) ∧ (1 ≤ (one c).length ∧ (one c).length ≤ 1000) then some (PyData.str (repS (one c) 8)) else none) = _
  rw [if_pos ⟨⟨by decide, by decide⟩, by rw [one_len]; decide⟩]
theorem names_turn (ds : List Int) (many : Sl) (k : Nat) (hk : k < 4) (ys : List Str) (hy : Names k ys) : ∃ (x : Str) (ds' : List Int), Names (k + 1) (ys ++ [x]) ∧
    b__law_names_1 [.pin (.l (ds.map oi)), many, .own (.v (.list (oddL.map .str))), .own (.l (ys.map so')), .own (.v (.int (k : Int))), .no, .no, .no, .no] = some (.nx [.pin (.l (ds'.map oi)), many, .own (.v (.list (oddL.map .str))), .own (.l ((ys ++ [x]).map so')), .no, .no, .no, .no, .no]) := by
  obtain ⟨n, d1, h1⟩ := pop_ok ds
  obtain ⟨m, hm, hme⟩ : ∃ m : Nat, m ≤ 7 ∧ 1 + n % 7 = (m : Int) := by
    have h1 := Int.emod_nonneg n (show (7 : Int) ≠ 0 by decide)
    have h2 := Int.emod_lt_of_pos n (show (0 : Int) < 7 by decide)
    exact ⟨(1 + n % 7).toNat, by omega, by omega⟩
  have hw := name_w n m hm
  obtain ⟨a, ha, hae⟩ := emod_nat (n / 21) (k := 8) (by decide)
  have hae : n / 21 % 8 = (a : Int) := hae
  obtain ⟨od, hod⟩ : ∃ od, oddL[a]? = some od := ⟨_, List.getElem?_eq_getElem (by simpa [oddL] using ha)⟩
  have hodm := odd_ok od (List.mem_of_getElem? hod)
  have hoat : atI (oddL.map PyData.str) (a : Int) = some (.str od) := by rw [atI_map, atI_nat rfl hod]; rfl
  have hlc := name_lc n m hm
  generalize hW : Str.join "" ((List.range m).map fun k => one (lAtN n k)) = W at *
  have hjoin : joinO [.v (.str ""), .l ((List.range m).map fun k => O.v (.str (one (lAtN n k))))] = some (.v (.str W)) := by
    rw [joinO_l, strsO_map]
    simp only
    rw [if_pos, txt_join, hW]
    rw [sizeLine_eq]
    have e0 : ("" : Str).length = 0 := by decide +kernel
    have : ((List.range m).map fun k => one (lAtN n k)).map (·.length) = (List.range m).map fun _ => 1 := by rw [List.map_map]; rfl
    rw [e0, this]
    have hs : ∀ m : Nat, ((List.range m).map fun _ => 1).sum = m := fun m => by
      induction m with
      | zero => rfl
      | succ m ih => rw [List.range_succ, List.map_append, List.sum_append_nat, ih]; rfl
    rw [hs]
    omega
  have hwo := nmB_ok hw
  obtain ⟨nm0, hn0, hb0⟩ : ∃ nm0 : Str, (Nm nm0 ∧ nm0.length ≤ 7) ∧ nm0 = if n / 7 % 3 = 0 then od else W := by
    by_cases hc : n / 7 % 3 = 0
    · exact ⟨od, hodm, by rw [if_pos hc]⟩
    · exact ⟨W, hwo, by rw [if_neg hc]⟩
  obtain ⟨hin, -⟩ := fIn_strs nm0 ys hn0.1.ok (fun y hy' => (hy.nm y hy').ok)
  have hyl := hy.len
  have hb1 : ys.length < 16777216 := by omega
  have hb2 : -4611686018427387904 ≤ 1 + n % 7 := by omega
  have hb3 : 1 + n % 7 < 4611686018427387904 := by omega
  have hb4 : (1 + n % 7).toNat = m := by omega
  have hb5 : m ≤ 16777216 := by omega
  have hab := abcd_at k hk
  have hmu := fMulS_one (97 + k)
  have habc : Str.ofString "abcdefghijklmnopqrstuvwxyz" = abc := rfl
  by_cases hmem : nm0 ∈ ys
  · rw [decide_eq_true hmem] at hin
    refine ⟨repS (one (97 + k)) 8, d1, hy.snoc (rep_nm k hk) hy.rep (.inr rfl), ?_⟩
    by_cases hc : n / 7 % 3 = 0
    · rw [if_pos hc] at hb0
      rw [hb0] at hin
      generalize oddL.map PyData.str = OD at *
      simp [b__law_names_1, h1, hlc, hjoin, hc, hae, hoat, hin, hab, hmu, hb1, hb2, hb3, hb4, hb5, toDs_so, habc]
    · rw [if_neg hc] at hb0
      rw [hb0] at hin
      generalize oddL.map PyData.str = OD at *
      simp [b__law_names_1, h1, hlc, hjoin, hc, hae, hoat, hin, hab, hmu, hb1, hb2, hb3, hb4, hb5, toDs_so, habc]
  · rw [decide_eq_false hmem] at hin
    refine ⟨nm0, d1, hy.snoc hn0.1 hmem (.inl hn0.2), ?_⟩
    by_cases hc : n / 7 % 3 = 0
    · rw [if_pos hc] at hb0
      rw [hb0] at hin ⊢
      generalize oddL.map PyData.str = OD at *
      simp [b__law_names_1, h1, hlc, hjoin, hc, hae, hoat, hin, hab, hmu, hb1, hb2, hb3, hb4, hb5, toDs_so, habc]
    · rw [if_neg hc] at hb0
      rw [hb0] at hin ⊢
      generalize oddL.map PyData.str = OD at *
      simp [b__law_names_1, h1, hlc, hjoin, hc, hae, hoat, hin, hab, hmu, hb1, hb2, hb3, hb4, hb5, toDs_so, habc]
theorem names_ok (ds : List Int) (m : Int) (hm : 1 ≤ m ∧ m ≤ 4) : ∃ (ys : List Str) (ds' : List Int), Names m.toNat ys ∧ sem__law_names [.l (ds.map oi), oi m] = some (.l (ys.map so'), [.l (ds'.map oi)]) := by
  obtain ⟨⟨ys, d'⟩, h, hI⟩ := for_inv (tg := .n 4) (body := b__law_names_1) (enc := fun (k : Nat) => O.v (.int (k : Int))) (E := fun (s : List Str × List Int) => [.pin (.l (s.2.map oi)), .own (.v (.int m)), .own (.v (.list (oddL.map .str))), .own (.l (s.1.map so')), .no, .no, .no, .no, .no])
    (fun pre s => Names pre.length s.1) (all := List.range m.toNat) (List.range m.toNat) [] ([], ds) rfl ⟨rfl, by simp, by simp, by simp⟩ (by
    intro pre k post ⟨ys, ds⟩ hall hI
    simp only at hI
    have hkp : k = pre.length := by
      have h1 : (List.range m.toNat)[pre.length]? = some k := by rw [hall]; simp
      have h2 := (List.getElem?_eq_some_iff.mp h1).1
      rw [List.length_range] at h2
      rw [List.getElem?_range h2] at h1
      cases h1
      rfl
    have hk4 : k < 4 := by
      have := congrArg List.length hall
      simp at this
      omega
    subst hkp
    obtain ⟨x, ds', g1, g2⟩ := names_turn ds (.own (.v (.int m))) pre.length hk4 ys hI
    exact ⟨(ys ++ [x], ds'), _, rfl, g2, by rw [List.length_append]; exact g1⟩)
  refine ⟨ys, d', by simpa using hI, ?_⟩
  have hb1 : -4611686018427387904 ≤ m := by omega
  have hb2 : m < 4611686018427387904 := by omega
  have e0 : oddL.map PyData.str = [.str "for", .str "many", .str "with", .str "nothing", .str "x", .str "things", .str "none", .str "i"] := rfl
  rw [e0] at h
  simp only [List.map_nil] at h
  simp [un__law_names, m__law_names, hb1, hb2, h]
end Dn

set_option Elab.async false
set_option linter.all false
set_option maxRecDepth 100000
set_option maxHeartbeats 4000000
namespace Dn
open PySem L2 StrLaws Builtin Builtin.Str
/-! contents as texts -/
theorem digit_text (n : Int) (h : 1 ≤ n ∧ n ≤ 9) : Str.ofString (toString n) = one (48 + n.toNat) := by
  have : n = 1 ∨ n = 2 ∨ n = 3 ∨ n = 4 ∨ n = 5 ∨ n = 6 ∨ n = 7 ∨ n = 8 ∨ n = 9 := by omega
  rcases this with rfl | rfl | rfl | rfl | rfl | rfl | rfl | rfl | rfl <;> decide +kernel
theorem fEqS {a b : Str} (ha : PyData.strOk a = true) (hb : PyData.strOk b = true) : fEq [.str a, .str b] = some (.bool (decide (a = b))) ∧ fNe [.str a, .str b] = some (.bool (!decide (a = b))) := by
  have h1 : nb (.str a) 1 = true := by unfold nb; exact ha
  have h2 : nb (.str b) 1 = true := by unfold nb; exact hb
  obtain ⟨a1, a2⟩ := nb_shape 1 _ h1
  obtain ⟨b1, b2⟩ := nb_shape 1 _ h2
  have s1 : SeqAt.shaped (.str a) = true := by rw [shaped_eq, a1, decide_eq_true (Nat.le_trans a2 (by decide))]; rfl
  have s2 : SeqAt.shaped (.str b) = true := by rw [shaped_eq, b1, decide_eq_true (Nat.le_trans b2 (by decide))]; rfl
  have he : PyData.eqv (.str a) (.str b) = decide (a = b) := by
    show (a == b) = decide (a = b)
    rw [Bool.eq_iff_iff, beq_iff_eq, decide_eq_true_eq]
  constructor
  · rw [fEq_ap, s1, s2, he]; rfl
  · rw [fNe_ap, s1, s2, he]; rfl
theorem one_ok (c : Nat) (h : c < 1000) : PyData.strOk (one c) = true := by
  rw [strOk_iff]
  intro x hx
  have : x = c := by simpa [one] using hx
  omega
theorem digit_facts (n : Int) (h : 1 ≤ n ∧ n ≤ 9) : fNotIn [.str (one (48 + n.toNat)), .str "0123456789"] = some (.bool false) ∧ fInt [.str (one (48 + n.toNat))] = some (.int n) ∧ fEq [.str (one (48 + n.toNat)), .str "0"] = some (.bool false) := by
  have h1 : (!(!(occurrences ("0123456789" : Str) (one (48 + n.toNat)) 0 ("0123456789" : Str).length 1).isEmpty)) = false := by
    have : n = 1 ∨ n = 2 ∨ n = 3 ∨ n = 4 ∨ n = 5 ∨ n = 6 ∨ n = 7 ∨ n = 8 ∨ n = 9 := by omega
    rcases this with rfl | rfl | rfl | rfl | rfl | rfl | rfl | rfl | rfl <;> decide +kernel
  have h2 : intText? (one (48 + n.toNat)) = some n := by
    have : n = 1 ∨ n = 2 ∨ n = 3 ∨ n = 4 ∨ n = 5 ∨ n = 6 ∨ n = 7 ∨ n = 8 ∨ n = 9 := by omega
    rcases this with rfl | rfl | rfl | rfl | rfl | rfl | rfl | rfl | rfl <;> decide +kernel
  have h3 : one (48 + n.toNat) ≠ "0" := fun z => by
    have := congrArg (fun z : Str => z.cps.toList) z
    have h0 : ("0" : Str).cps.toList = [48] := by decide +kernel
    simp only [h0] at this
    simp [one] at this
    omega
  refine ⟨?_, ?_, ?_⟩
  · show some (PyData.bool (!(!(occurrences ("0123456789" : Str) (one (48 + n.toNat)) 0 ("0123456789" : Str).length 1).isEmpty))) = _
    rw [h1]
  · show (match intText? (one (48 + n.toNat)) with | some n' => if (one (48 + n.toNat)).length ≤ 640 then some (PyData.int n') else none | none => none) = _
    rw [h2]
    simp only
    rw [if_pos (by rw [one_len]; decide)]
  · rw [(fEqS (one_ok _ (by omega)) (strOk_of "0")).1, decide_eq_false h3]
def piece (n : Int) (y : Str) : Str := one (48 + n.toNat) ++ " " ++ y
theorem piece_l (n : Int) (y : Str) : (piece n y).cps.toList = (48 + n.toNat) :: 32 :: y.cps.toList := by
  unfold piece
  rw [Str.cps_append, Str.cps_append, Array.toList_append, Array.toList_append]
  rfl
theorem piece_part (n : Int) (y : Str) (h : 1 ≤ n) : Txt.partition (piece n y) " " = (one (48 + n.toNat), (" " : Str), y) := by
  have hl := piece_l n y
  have hb : (" " : Str).cps.toList = [32] := by decide +kernel
  have hb1 : (" " : Str).length = 1 := by decide +kernel
  have hlen : (piece n y).length = y.length + 2 := by
    rw [str_of _ _ hl]
    simp
    rfl
  have hat : ∀ i, subAt (piece n y) " " i = true ↔ (piece n y).cps.toList[i]? = some 32 := fun i => by
    rw [subAt_eq, hb1, hb]
    exact take1_drop
  have h1 : At (piece n y) " " (piece n y).length 1 := ⟨by omega, (hat 1).mpr (by rw [hl]; rfl)⟩
  rcases occ_head (piece n y) " " 1 (Nat.le_refl _) with ⟨_, hn⟩ | ⟨i, r, e, ha, hn⟩
  · exact absurd h1 (hn 1)
  · have hi : i = 1 := by
      have h2 : ¬ 1 < i := fun z => hn 1 z h1
      have h3 : i ≠ 0 := fun z => by
        subst z
        have := (hat 0).mp ha.2
        rw [hl] at this
        simp at this
        omega
      omega
    subst hi
    unfold Txt.partition
    rw [e]
    simp only
    rw [hb1, hlen]
    refine Prod.ext (str_ext ?_) (Prod.ext rfl (str_ext ?_))
    · rw [strSub_toList, hl]; rfl
    · simp only
      rw [strSub_toList, hl]
      simp
      exact List.take_of_length_le (by rw [Array.length_toList]; exact Nat.le_refl _)
theorem read_digit (n : Int) (h : 1 ≤ n ∧ n ≤ 9) : sem_read_number [.v (.str (one (48 + n.toNat))), oi 1] = some (.v (.int n), []) := by
  obtain ⟨f1, f2, f3⟩ := digit_facts n h
  have hl : fLen [.str (one (48 + n.toNat))] = some (.int 1) := id rfl
  have hs : sgO (one (48 + n.toNat)) = [.v (.str (one (48 + n.toNat)))] := rfl
  have hix := ixO_str (one (48 + n.toNat)) 0 (48 + n.toNat) (by rw [one_len]; decide) rfl
  generalize one (48 + n.toNat) = D at *
  simp [un_read_number, m_read_number, ce_read_number_1, hl, hs, f1, f2, f3, hix, sV, lcL]
end Dn

set_option Elab.async false
set_option linter.all false
set_option maxRecDepth 100000
set_option maxHeartbeats 4000000
namespace Dn
open PySem L2
def piecesL (w : List Int) (ys : List Str) : List Str := ((w.zip ys).filter fun p => decide (0 < p.1)).map fun p => piece p.1 p.2
def textOf (ps : List Str) : Str := if ps = [] then "nothing" else Str.join ", " ps
structure Pc (x : Str) : Prop where
  com : 44 ∉ x.cps.toList
  len : x.length ≤ 10
  ok : PyData.strOk x = true
  hd : ∃ c t, x.cps.toList = c :: t ∧ c ≤ 57
theorem piece_pc (n : Int) (h : 0 < n ∧ n ≤ 9) (y : Str) (hy : Nm y) : Pc (piece n y) := by
  have hl := piece_l n y
  have hyl : y.cps.toList.length = y.length := by rw [Array.length_toList]; rfl
  refine ⟨?_, ?_, ?_, ?_⟩
  · rw [hl]
    intro hm
    simp only [List.mem_cons] at hm
    rcases hm with h1 | h1 | h1
    · omega
    · omega
    · have := hy.low 44 h1; omega
  · rw [str_of _ _ hl]
    simp only [List.length_cons, hyl]
    have := hy.len; omega
  · rw [strOk_iff, hl]
    intro c hc
    simp only [List.mem_cons] at hc
    rcases hc with h1 | h1 | h1
    · omega
    · omega
    · have := hy.low c h1; omega
  · exact ⟨_, _, hl, by omega⟩
theorem pieces_pc {n : Nat} {w : List Int} {ys : List Str} (hw : Want n w) (hy : ∀ y ∈ ys, Nm y) : ∀ p ∈ piecesL w ys, Pc p := fun p hp => by
  obtain ⟨q, hq, rfl⟩ := List.mem_map.mp hp
  obtain ⟨h1, h2⟩ := List.mem_filter.mp hq
  have h3 := List.of_mem_zip h1
  rw [decide_eq_true_eq] at h2
  exact piece_pc q.1 ⟨h2, (hw.nine _ h3.1).2⟩ q.2 (hy _ h3.2)
theorem pieces_len (w : List Int) (ys : List Str) : (piecesL w ys).length ≤ ys.length := by
  unfold piecesL
  rw [List.length_map]
  refine Nat.le_trans (List.length_filter_le _ _) ?_
  rw [List.length_zip]
  omega
theorem sumLen : ∀ (ps : List Str), (∀ p ∈ ps, Pc p) → (ps.map (·.length)).sum ≤ 10 * ps.length
  | [], _ => by simp
  | p :: ps, h => by
    have h1 := sumLen ps fun x hx => h x (List.mem_cons_of_mem _ hx)
    have h2 := (h p (List.mem_cons_self ..)).len
    simp only [List.map_cons, List.sum_cons, List.length_cons]
    omega
theorem strsO_v (ps : List Str) : strsO ((ps.map PyData.str).map O.v) = some ps := by
  rw [List.map_map]
  have := strsO_map (fun x : Str => x) ps
  simpa using this
theorem cs_len : (", " : Str).length = 2 := by decide +kernel
theorem joinP (ps : List Str) (h : ∀ p ∈ ps, Pc p) (hl : ps.length ≤ 4) : joinO [.v (.str ", "), .v (.list (ps.map .str))] = some (.v (.str (Str.join ", " ps))) := by
  rw [joinO_v, strsO_v]
  simp only
  have := sumLen ps h
  rw [if_pos (by rw [sizeLine_eq, cs_len]; omega), txt_join]
theorem fEqP (ps : List Str) (h : ∀ p ∈ ps, Pc p) : fEq [.list (ps.map .str), .list []] = some (.bool (decide (ps = []))) := by
  have h1 : nb (.list (ps.map .str)) 2 = true := by
    rw [nb_list, List.all_eq_true]
    intro d hd
    obtain ⟨y, hy', rfl⟩ := List.mem_map.mp hd
    unfold nb
    exact (h y hy').ok
  have h2 : nb (.list []) 2 = true := by rw [nb_list]; rfl
  obtain ⟨a1, a2⟩ := nb_shape 2 _ h1
  obtain ⟨b1, b2⟩ := nb_shape 2 _ h2
  have s1 : SeqAt.shaped (.list (ps.map .str)) = true := by rw [shaped_eq, a1, decide_eq_true (Nat.le_trans a2 (by decide))]; rfl
  have s2 : SeqAt.shaped (.list []) = true := by rw [shaped_eq, b1, decide_eq_true (Nat.le_trans b2 (by decide))]; rfl
  rw [fEq_ap, s1, s2]
  cases ps <;> rfl
theorem ce_piece (n : Int) (h : 0 < n ∧ n ≤ 9) (y : Str) (hy : Nm y) : ∃ D E : Str, fStrD [.int n] = some (.str D) ∧ addO [.v (.str D), .v (.str " ")] = some (.v (.str E)) ∧ addO [.v (.str E), .v (.str y)] = some (.v (.str (piece n y))) := by
  have ht := digit_text n ⟨by omega, h.2⟩
  have hyl := hy.len
  have hb : (" " : Str).length = 1 := by decide +kernel
  refine ⟨one (48 + n.toNat), one (48 + n.toNat) ++ " ", ?_, ?_, ?_⟩
  · rw [fStrD_i (by
      have h9 : n.natAbs ≤ 9 := by omega
      exact Nat.lt_of_le_of_lt h9 (by decide)), ht]
  · rw [addO_s, if_pos (by rw [sizeLine_eq, one_len, hb]; omega)]
  · rw [addO_s, if_pos (by
      rw [sizeLine_eq, Str.length_append, one_len, hb]; omega)]
    rfl
theorem show_ok {n : Nat} (hn : n ≤ 4) {w : List Int} (hw : Want n w) {ys : List Str} (hy : Names n ys) : sem_show_content [.v (.list (ys.map .str)), .v (rowD w)] = some (.v (.str (textOf (piecesL w ys))), []) := by
  have hpc := pieces_pc hw hy.nm
  have hpl : (piecesL w ys).length ≤ 4 := by have := pieces_len w ys; have := hy.len; omega
  have hlc : ∀ e : En, e[3]? = some .no → e[4]? = some .no → lcL (.tp [.n 3, .n 4]) ct_show_content_1 ce_show_content_1 [3, 4] ((w.zip ys).map fun p => O.t [oi p.1, so' p.2]) e = some ((piecesL w ys).map so', e) := fun e h3 h4 => by
    rw [piecesL, List.map_map]
    refine lc_filter2 (encA := fun p : Int × Str => oi p.1) (encB := fun p => so' p.2) h3 h4 (by decide) _ fun p hp e' g1 g2 g3 => ?_
    have hz := List.of_mem_zip hp
    refine ⟨by simp [ct_show_content_1, g1], fun hpos => ?_⟩
    rw [decide_eq_true_eq] at hpos
    obtain ⟨D, E, f1, f2, f3⟩ := ce_piece p.1 ⟨hpos, (hw.nine _ hz.1).2⟩ p.2 (hy.nm _ hz.2)
    obtain ⟨PP, hPP⟩ : ∃ PP, PP = piece p.1 p.2 := ⟨_, rfl⟩
    rw [← hPP] at f3
    simp [ce_show_content_1, g1, g2, f1, f2, f3, -addO_s]
    exact hPP
  have hj := joinP (piecesL w ys) hpc hpl
  have hf := fEqP (piecesL w ys) hpc
  have hto := toDs_so (piecesL w ys)
  have hzip : zipO (w.map fun n => O.v (.int n)) ((ys.map PyData.str).map O.v) = (w.zip ys).map fun p => O.t [oi p.1, so' p.2] := by
    rw [List.map_map]
    exact zipO_map _ _ w ys
  have hbz : ((w.zip ys).map fun p => O.t [oi p.1, so' p.2]).length ≤ 16777216 := by
    rw [List.length_map, List.length_zip]
    have := hy.len
    omega
  generalize (w.zip ys).map (fun p => O.t [oi p.1, so' p.2]) = ZZ at *
  generalize ys.map PyData.str = YD at *
  generalize (piecesL w ys).map so' = PO at *
  unfold textOf
  by_cases h0 : piecesL w ys = []
  · rw [decide_eq_true h0] at hf
    rw [if_pos h0]
    generalize (piecesL w ys).map PyData.str = PD at *
    simp [un_show_content, m_show_content, hzip, hlc, hbz, hto, hf]
  · rw [decide_eq_false h0] at hf
    rw [if_neg h0]
    generalize (piecesL w ys).map PyData.str = PD at *
    simp [un_show_content, m_show_content, hzip, hlc, hbz, hto, hf, hj]
theorem zip_range (w : List Int) (ys : List Str) (h : w.length = ys.length) : (List.range ys.length).map (fun k => (w.getD k 0, ys.getD k "")) = w.zip ys := by
  refine List.ext_getElem (by simp [h]) fun i h1 h2 => ?_
  simp only [List.length_map, List.length_range] at h1
  simp [List.getElem_zip, h1, show i < w.length by omega]
theorem ltext_ok {n : Nat} (hn : n ≤ 4) {w : List Int} (hw : Want n w) {ys : List Str} (hy : Names n ys) : sem__law_content_text [.v (.list (ys.map .str)), .v (rowD w)] = some (.v (.str (textOf (piecesL w ys))), []) := by
  have hpc := pieces_pc hw hy.nm
  have hyl := hy.len
  have hwl := hw.len
  have hpl : (piecesL w ys).length ≤ 4 := by have := pieces_len w ys; omega
  have hlc : ∀ e : En, e[0]? = some (.own (.v (.list (ys.map .str)))) → e[1]? = some (.own (.v (rowD w))) → e[3]? = some .no → lcL (.n 3) ct__law_content_text_1 ce__law_content_text_1 [3] ((List.range ys.length).map fun (k : Nat) => O.v (.int (k : Int))) e = some ((piecesL w ys).map so', e) := fun e h0 h1 h3 => by
    have e1 : (piecesL w ys).map so' = ((List.range ys.length).filter fun k => decide (0 < w.getD k 0)).map fun k => so' (piece (w.getD k 0) (ys.getD k "")) := by
      rw [piecesL, ← zip_range w ys (by omega), List.filter_map, List.map_map, List.map_map]
      rfl
    rw [e1]
    refine lc_filter1 (enc := fun (k : Nat) => O.v (.int (k : Int))) h3 _ fun k hk e' g1 g2 => ?_
    have hk : k < ys.length := List.mem_range.mp hk
    have h0' := (g2 0 (by decide)).trans h0
    have h1' := (g2 1 (by decide)).trans h1
    have a1 := atI_getD w 0 (show k < w.length by omega)
    have a2 := atI_getD ys "" hk
    have hwm : w.getD k 0 ∈ w := by
      rw [List.getD_eq_getElem?_getD, List.getElem?_eq_getElem (show k < w.length by omega)]
      exact List.getElem_mem _
    have hym : ys.getD k "" ∈ ys := by
      rw [List.getD_eq_getElem?_getD, List.getElem?_eq_getElem hk]
      exact List.getElem_mem _
    generalize w.getD k 0 = wk at *
    generalize ys.getD k "" = yk at *
    refine ⟨by simp [ct__law_content_text_1, g1, h0', h1', a1], fun hpos => ?_⟩
    rw [decide_eq_true_eq] at hpos
    obtain ⟨D, E, f1, f2, f3⟩ := ce_piece wk ⟨hpos, (hw.nine _ hwm).2⟩ yk (hy.nm _ hym)
    obtain ⟨PP, hPP⟩ : ∃ PP, PP = piece wk yk := ⟨_, rfl⟩
    rw [← hPP] at f3
    simp [ce__law_content_text_1, g1, h0', h1', a1, a2, f1, f2, f3, -addO_s]
    exact hPP
  have hj := joinP (piecesL w ys) hpc hpl
  have hf := fEqP (piecesL w ys) hpc
  have hto := toDs_so (piecesL w ys)
  have hb1 : -4611686018427387904 ≤ (ys.length : Int) := by omega
  have hb2 : (ys.length : Int) < 4611686018427387904 := by omega
  have hb3 : ys.length ≤ 16777216 := by omega
  have hlY : (ys.map PyData.str).length = ys.length := List.length_map ..
  rw [← hlY] at hlc hb1 hb2 hb3
  generalize ys.map PyData.str = YD at *
  generalize (piecesL w ys).map so' = PO at *
  unfold textOf
  by_cases h0 : piecesL w ys = []
  · rw [decide_eq_true h0] at hf
    rw [if_pos h0]
    generalize (piecesL w ys).map PyData.str = PD at *
    simp [un__law_content_text, m__law_content_text, hlc, hb1, hb2, hb3, hto, hf]
  · rw [decide_eq_false h0] at hf
    rw [if_neg h0]
    generalize (piecesL w ys).map PyData.str = PD at *
    simp [un__law_content_text, m__law_content_text, hlc, hb1, hb2, hb3, hto, hf, hj]
end Dn

set_option Elab.async false
set_option linter.all false
set_option maxRecDepth 100000
set_option maxHeartbeats 4000000
namespace Dn
open PySem L2
theorem idx_str (y : Str) : ∀ (ys : List Str) (m k : Nat), ys[k]? = some y → ys.Nodup → idxD (.str y) (ys.map .str) m = some (m + k)
  | [], m, k, h, _ => by simp at h
  | z :: ys, m, k, h, hn => by
    rw [List.map_cons]
    unfold idxD
    have he : PyData.eqv (.str z) (.str y) = decide (z = y) := by
      show (z == y) = decide (z = y)
      rw [Bool.eq_iff_iff, beq_iff_eq, decide_eq_true_eq]
    rw [he]
    obtain ⟨h1, h2⟩ := List.nodup_cons.mp hn
    cases k with
    | zero =>
      simp at h
      rw [decide_eq_true h]
      rfl
    | succ k =>
      simp at h
      have hzy : z ≠ y := fun e => h1 (e ▸ List.mem_of_getElem? h)
      rw [decide_eq_false hzy]
      have := idx_str y ys (m + 1) k h h2
      simp only [Bool.false_eq_true, if_false]
      rw [this]
      congr 1
      omega
theorem fIndexS {n : Nat} {ys : List Str} (hy : Names n ys) {k : Nat} {y : Str} (hk : ys[k]? = some y) : fIndex [.list (ys.map .str), .str y] = some (.int (k : Nat)) := by
  have h1 : nb (.str y) 2 = true := by unfold nb; exact (hy.nm y (List.mem_of_getElem? hk)).ok
  have h2 : nb (.list (ys.map .str)) 2 = true := by
    rw [nb_list, List.all_eq_true]
    intro d hd
    obtain ⟨z, hz, rfl⟩ := List.mem_map.mp hd
    unfold nb
    exact (hy.nm z hz).ok
  obtain ⟨a1, a2⟩ := nb_shape 2 _ h1
  obtain ⟨b1, b2⟩ := nb_shape 2 _ h2
  have s1 : SeqAt.shaped (.str y) = true := by rw [shaped_eq, a1, decide_eq_true (Nat.le_trans a2 (by decide))]; rfl
  have s2 : SeqAt.shaped (.list (ys.map .str)) = true := by rw [shaped_eq, b1, decide_eq_true (Nat.le_trans b2 (by decide))]; rfl
  show (if SeqAt.shaped (.list (ys.map .str)) && SeqAt.shaped (.str y) then (match idxD (.str y) (ys.map .str) 0 with | some j => some (PyData.int (j : Nat)) | none => none) else none) = _
  rw [s1, s2, idx_str y ys 0 k hk hy.nod, Nat.zero_add]
  rfl
theorem partP (n : Int) (y : Str) (h : 1 ≤ n) (hl : (piece n y).length ≤ 10) : partO [.v (.str (piece n y)), .v (.str " ")] = some (.t [.v (.str (one (48 + n.toNat))), .v (.str " "), .v (.str y)]) := by
  show (if ((" " : Str).length == 0) = false ∧ (piece n y).length ≤ sizeLine then some (O.t [.v (.str (Txt.partition (piece n y) " ").1), .v (.str (Txt.partition (piece n y) " ").2.1), .v (.str (Txt.partition (piece n y) " ").2.2)]) else none) = _
  rw [if_pos ⟨by decide +kernel, by rw [sizeLine_eq]; omega⟩, piece_part n y h]
theorem rd_step {m : Nat} (hm : m ≤ 4) {ys : List Str} (hy : Names m ys) {k : Nat} {y : Str} (hk : ys[k]? = some y) (n : Int) (hn : 1 ≤ n ∧ n ≤ 9) (fd : List Int) (hf : fd.length = m) (last : Int) (hl : last < k) (c : Int) (hc : 0 ≤ c ∧ c ≤ 100000) (s1 : Sl) :
    b_content_of_1 [.own (.v (.list (ys.map .str))), s1, .own (.l (fd.map oi)), .no, .own (.v (.int last)), .own (.v (.int c)), .own (.v (.str (piece n y))), .no, .no, .no]
     = some (.nx [.own (.v (.list (ys.map .str))), s1, .own (.l ((fd.set k n).map oi)), .no, .own (.v (.int (k : Int))), .own (.v (.int (c * (n + 1)))), .no, .no, .no, .no]) := by
  have hym := List.mem_of_getElem? hk
  have hpc := piece_pc n ⟨by omega, hn.2⟩ y (hy.nm y hym)
  have hp := partP n y hn.1 hpc.len
  have hr := read_digit n hn
  have hni := (fIn_strs y ys (hy.nm y hym).ok (fun z hz => (hy.nm z hz).ok)).2
  rw [decide_eq_true hym] at hni
  have hix := fIndexS hy hk
  have hkl : k < fd.length := by have := (List.getElem?_eq_some_iff.mp hk).1; rw [hy.len] at this; omega
  have hn0 : ¬ n = 0 := by omega
  have hle : ¬ (k : Int) ≤ last := by omega
  have hb1 : -18446744073709551616 < c := by omega
  have hb2 : c < 18446744073709551616 := by omega
  have hixn := ixN_nat (n := fd.length) hkl
  generalize ys.map PyData.str = YD at *
  generalize one (48 + n.toNat) = D at *
  generalize piece n y = PP at *
  simp [b_content_of_1, hp, hr, hni, hix, hn0, hle, hb1, hb2, hixn]
theorem pieces_cons (n : Int) (w : List Int) (y : Str) (ys : List Str) : piecesL (n :: w) (y :: ys) = if 0 < n then piece n y :: piecesL w ys else piecesL w ys := by
  unfold piecesL
  rw [List.zip_cons_cons, List.filter_cons]
  by_cases h : 0 < n
  · rw [if_pos h]
    simp [h]
  · rw [if_neg h]
    simp [h]
theorem casesI_snoc (w : List Int) (n : Int) : casesI (w ++ [n]) = casesI w * (n + 1) := by
  unfold casesI
  rw [List.foldl_append]
  rfl
theorem casesI_bd {w : List Int} (hw : ∀ x ∈ w, 0 ≤ x ∧ x ≤ 9) (hl : w.length ≤ 4) : 0 ≤ casesI w ∧ casesI w ≤ 100000 := by
  have h1 := les_cases (w := w) fun x hx => (hw x hx).1
  have h2 := les_len9 hw hl
  omega
theorem rd_loop {m : Nat} (hm : m ≤ 4) {ys : List Str} (hy : Names m ys) (s1 : Sl) : ∀ (w2 : List Int) (y2 : List Str) (w1 : List Int) (y1 : List Str) (last : Int), w2.length = y2.length → ys = y1 ++ y2 → y1.length = w1.length → (∀ x ∈ w1 ++ w2, 0 ≤ x ∧ x ≤ 9) → last < w1.length → ∃ last' : Int,
    forL (.n 6) b_content_of_1 ((piecesL w2 y2).map so') [.own (.v (.list (ys.map .str))), s1, .own (.l ((w1 ++ reps w2.length 0).map oi)), .no, .own (.v (.int last)), .own (.v (.int (casesI w1))), .no, .no, .no, .no]
     = some (.nx [.own (.v (.list (ys.map .str))), s1, .own (.l ((w1 ++ w2).map oi)), .no, .own (.v (.int last')), .own (.v (.int (casesI (w1 ++ w2)))), .no, .no, .no, .no])
  | [], [], w1, y1, last, _, _, _, _, _ => ⟨last, by
    have : reps ([] : List Int).length 0 = [] := rfl
    rw [this, List.append_nil]
    rfl⟩
  | [], _ :: _, _, _, _, h, _, _, _, _ => by cases h
  | _ :: _, [], _, _, _, h, _, _, _, _ => by cases h
  | n :: w2, y :: y2, w1, y1, last, hl, hys, hyl, hall, hlast => by
    have hn := hall n (by simp)
    have hmlen := hy.len
    have hlen : w1.length + (w2.length + 1) = m := by
      rw [hys, List.length_append] at hmlen
      simp at hmlen hl
      omega
    have hall' : ∀ x ∈ (w1 ++ [n]) ++ w2, 0 ≤ x ∧ x ≤ 9 := fun x hx => hall x (by simpa [List.append_assoc] using hx)
    obtain ⟨z0, hz0⟩ : ∃ z, z = reps w2.length 0 := ⟨_, rfl⟩
    have hrep : reps (n :: w2).length 0 = 0 :: reps w2.length 0 := by
      rw [List.length_cons]
      unfold reps
      rw [List.replicate_succ]
    have happ : w1 ++ n :: w2 = (w1 ++ [n]) ++ w2 := by simp
    by_cases hp : 0 < n
    · obtain ⟨last', ih⟩ := rd_loop hm hy s1 w2 y2 (w1 ++ [n]) (y1 ++ [y]) (w1.length : Int) (by simpa using hl) (by rw [hys]; simp) (by simp [hyl]) hall' (by rw [List.length_append]; simp; omega)
      refine ⟨last', ?_⟩
      have hk : ys[w1.length]? = some y := by rw [hys, ← hyl]; simp
      have hst := rd_step hm hy hk n ⟨by omega, hn.2⟩ (w1 ++ reps (n :: w2).length 0) (by rw [List.length_append, reps_len, List.length_cons]; exact hlen) last hlast (casesI w1) (casesI_bd (fun x hx => hall x (List.mem_append_left _ hx)) (by omega)) s1
      have hset : (w1 ++ reps (n :: w2).length 0).set w1.length n = (w1 ++ [n]) ++ reps w2.length 0 := by
        rw [hrep, List.set_append]
        simp
      rw [hset, ← casesI_snoc] at hst
      rw [pieces_cons, if_pos hp, List.map_cons, happ]
      have ha : asg (.n 6) (so' (piece n y)) [.own (.v (.list (ys.map .str))), s1, .own (.l ((w1 ++ reps (n :: w2).length 0).map oi)), .no, .own (.v (.int last)), .own (.v (.int (casesI w1))), .no, .no, .no, .no] = some [.own (.v (.list (ys.map .str))), s1, .own (.l ((w1 ++ reps (n :: w2).length 0).map oi)), .no, .own (.v (.int last)), .own (.v (.int (casesI w1))), .own (.v (.str (piece n y))), .no, .no, .no] := rfl
      simp only [forL, ha, hst, ih]
    · have h0 : n = 0 := by omega
      subst h0
      obtain ⟨last', ih⟩ := rd_loop hm hy s1 w2 y2 (w1 ++ [0]) (y1 ++ [y]) last (by simpa using hl) (by rw [hys]; simp) (by simp [hyl]) hall' (by rw [List.length_append]; simp; omega)
      refine ⟨last', ?_⟩
      rw [pieces_cons, if_neg (by decide), happ]
      have e1 : w1 ++ reps ((0 : Int) :: w2).length 0 = (w1 ++ [0]) ++ reps w2.length 0 := by rw [hrep]; simp
      have e2 : casesI (w1 ++ [0]) = casesI w1 := by rw [casesI_snoc]; simp
      rw [e2] at ih
      rw [e1]
      exact ih
theorem sep_l : (", " : Str).cps.toList = [44, 32] := by decide +kernel
theorem join_head (p : Str) (r : List Str) : ∃ t, (Str.join ", " (p :: r)).cps.toList = p.cps.toList ++ t := by
  cases r with
  | nil => exact ⟨[], by rw [List.append_nil]; rfl⟩
  | cons b r => exact ⟨_, join_toL ", " p b sep_l r⟩
theorem split_ok (ps : List Str) (h : ∀ p ∈ ps, Pc p) (hl : ps.length ≤ 4) (hne : ps ≠ []) : splitO [.v (.str (Str.join ", " ps)), .v (.str ", ")] = some (.l (ps.map so')) := by
  have h1 := StrLaws.join_length_le ", " ps
  have h2 := sumLen ps h
  rw [cs_len] at h1
  show (if ((", " : Str).length == 0) = false ∧ (Str.join ", " ps).length + 2 ≤ sizeLine then some (O.l ((Txt.split (Str.join ", " ps) ", ").map fun x => .v (.str x))) else none) = _
  rw [if_pos ⟨by decide +kernel, by rw [sizeLine_eq]; omega⟩, split_join ", " sep_l ps hne fun p hp => (h p hp).com]
theorem text_eq (ps : List Str) (h : ∀ p ∈ ps, Pc p) : fEq [.str (textOf ps), .str "nothing"] = some (.bool (decide (ps = []))) := by
  by_cases h0 : ps = []
  · subst h0
    rw [show textOf [] = "nothing" from rfl, (fEqS (strOk_of "nothing") (strOk_of "nothing")).1]
    rfl
  · have ht : textOf ps = Str.join ", " ps := by unfold textOf; rw [if_neg h0]
    have hok : PyData.strOk (Str.join ", " ps) = true := strOk_join ps fun p hp => (h p hp).ok
    rw [ht, (fEqS hok (strOk_of "nothing")).1, decide_eq_false h0, decide_eq_false]
    intro z
    cases ps with
    | nil => exact h0 rfl
    | cons p r =>
      obtain ⟨t, e⟩ := join_head p r
      obtain ⟨c, t', e2, hc⟩ := (h p (List.mem_cons_self ..)).hd
      have hn : ("nothing" : Str).cps.toList = [110, 111, 116, 104, 105, 110, 103] := by decide +kernel
      rw [z, hn, e2] at e
      simp at e
      omega
theorem content_of_ok {n : Nat} (hn : n ≤ 4) {w : List Int} (hw : Want n w) (hc : casesI w ≤ 400) {ys : List Str} (hy : Names n ys) : sem_content_of [.v (.list (ys.map .str)), .v (.str (textOf (piecesL w ys)))] = some (.l (w.map oi), []) := by
  have hpc := pieces_pc hw hy.nm
  have hyl := hy.len
  have hwl := hw.len
  have hpl : (piecesL w ys).length ≤ 4 := by have := pieces_len w ys; omega
  have hte := text_eq (piecesL w ys) hpc
  obtain ⟨last', hloop⟩ := rd_loop hn hy (.own (.v (.str (textOf (piecesL w ys))))) w ys [] [] (-1) (by omega) rfl rfl (by simpa using hw.nine) (by simp)
  have hz : ∀ e : En, e[3]? = some .no → lcL (.n 3) mYes ce_content_of_1 [3] ((ys.map PyData.str).map O.v) e = some ((reps w.length 0).map oi, e) := fun e h3 => by
    have e1 : (reps w.length 0).map oi = ys.map fun _ => oi 0 := by
      unfold reps
      rw [List.map_replicate, hwl, ← hyl]
      exact (List.map_const' ..).symm
    rw [e1, List.map_map]
    refine lc_map1 h3 _ fun k hk e' g1 g2 => ?_
    simp [ce_content_of_1]
  have hb3 : (ys.map PyData.str).length ≤ 16777216 := by rw [List.length_map]; omega
  simp only [List.nil_append] at hloop
  have c1 : casesI [] = 1 := rfl
  rw [c1] at hloop
  by_cases h0 : piecesL w ys = []
  · rw [decide_eq_true h0] at hte
    rw [h0] at hloop
    have hz0 : (reps w.length 0).map oi = w.map oi := by
      have := hloop
      simp [forL] at this
      exact this.1
    rw [hz0] at hz
    generalize ys.map PyData.str = YD at *
    generalize textOf (piecesL w ys) = TT at *
    simp [un_content_of, m_content_of, hz, hb3, hte]
  · rw [decide_eq_false h0] at hte
    have ht : textOf (piecesL w ys) = Str.join ", " (piecesL w ys) := by unfold textOf; rw [if_neg h0]
    have hsp := split_ok (piecesL w ys) hpc hpl h0
    rw [← ht] at hsp
    have hb4 : ((piecesL w ys).map so').length ≤ 16777216 := by rw [List.length_map]; omega
    have hcn : ¬ 400 < casesI w := by omega
    generalize (piecesL w ys).map so' = PO at *
    generalize (reps w.length 0).map oi = ZO at *
    generalize ys.map PyData.str = YD at *
    generalize textOf (piecesL w ys) = TT at *
    simp [un_content_of, m_content_of, hz, hb3, hte, hsp, hloop, hb4, hcn]
theorem read_content_ok {n : Nat} (hn : n ≤ 4) {w : List Int} (hw : Want n w) (hc : casesI w ≤ 400) {ys : List Str} (hy : Names n ys) : sem_read_content [.v (.list (ys.map .str)), .v (.str (textOf (piecesL w ys)))] = some (.l (w.map oi), []) := by
  have h := content_of_ok hn hw hc hy
  generalize ys.map PyData.str = YD at *
  generalize textOf (piecesL w ys) = TT at *
  simp [un_read_content, m_read_content, h]
theorem text_ok (ps : List Str) (h : ∀ p ∈ ps, Pc p) : PyData.strOk (textOf ps) = true := by
  unfold textOf
  split
  · exact strOk_of _
  · exact strOk_join ps fun p hp => (h p hp).ok
end Dn

set_option Elab.async false
set_option linter.all false
set_option maxRecDepth 100000
set_option maxHeartbeats 4000000
namespace K36
open PySem L2 Dn

def topS (i : Nat) : Stmt := PySem.Challenge.pw_packwants_k36_contents_as_texts.main.body.getD i (.Pass ⟨0, 0, 0, 0⟩)
structure Bl (mg : Str → Option Value) : Prop where
  z_any : mg "any" = none
  z_bool : mg "bool" = none
  z_int : mg "int" = none
  z_isinstance : mg "isinstance" = none
  z_len : mg "len" = none
  z_list : mg "list" = none
  z_max : mg "max" = none
  z_range : mg "range" = none
  z_str : mg "str" = none
  z_zip : mg "zip" = none
  g_FIGURES : ∃ t, mg "FIGURES" = some (.str "0123456789" t)
  g_MOST_CASES : ∃ t, mg "MOST_CASES" = some (.int 400 t)
abbrev N__law_draws_e473 : List Str := ["_law_script", "_law_turn", "_law_many", "_law_cells", "_law_found", "_law_left", "_law_k", "_law_at", "_law_cell", "_law_place", "_law_number"]
theorem sc__law_draws_e473 : FnScope N__law_draws_e473 ["_law_script", "_law_turn", "_law_many"] (defScope (topS 11)) := ⟨rfl, rfl, rfl, by decide +kernel, rfl, by decide +kernel, by decide +kernel⟩
abbrev N__law_pop : List Str := ["_law_draws_here"]
theorem sc__law_pop : FnScope N__law_pop ["_law_draws_here"] (defScope (topS 12)) := ⟨rfl, rfl, rfl, by decide +kernel, rfl, by decide +kernel, by decide +kernel⟩
abbrev N__law_names : List Str := ["_law_draws_here", "_law_many", "_law_odd", "_law_found", "_law_k", "_law_number", "_law_letters", "_law_name", "_law_j"]
theorem sc__law_names : FnScope N__law_names ["_law_draws_here", "_law_many"] (defScope (topS 17)) := ⟨rfl, rfl, rfl, by decide +kernel, rfl, by decide +kernel, by decide +kernel⟩
abbrev N__law_cases : List Str := ["_law_want_here", "_law_found", "_law_number"]
theorem sc__law_cases : FnScope N__law_cases ["_law_want_here"] (defScope (topS 16)) := ⟨rfl, rfl, rfl, by decide +kernel, rfl, by decide +kernel, by decide +kernel⟩
abbrev N__law_want_aecb : List Str := ["_law_draws_here", "_law_many", "_law_number", "_law_found", "_law_k"]
theorem sc__law_want_aecb : FnScope N__law_want_aecb ["_law_draws_here", "_law_many"] (defScope (topS 15)) := ⟨rfl, rfl, rfl, by decide +kernel, rfl, by decide +kernel, by decide +kernel⟩
abbrev N__law_content_text : List Str := ["_law_names_here", "_law_content", "_law_pieces", "_law_k"]
theorem sc__law_content_text : FnScope N__law_content_text ["_law_names_here", "_law_content"] (defScope (topS 18)) := ⟨rfl, rfl, rfl, by decide +kernel, rfl, by decide +kernel, by decide +kernel⟩
abbrev N_show_content : List Str := ["names", "content", "pieces", "number", "name"]
theorem sc_show_content : FnScope N_show_content ["names", "content"] (defScope (topS 6)) := ⟨rfl, rfl, rfl, by decide +kernel, rfl, by decide +kernel, by decide +kernel⟩
abbrev N_read_number : List Str := ["text", "figures", "sign"]
theorem sc_read_number : FnScope N_read_number ["text", "figures"] (defScope (topS 7)) := ⟨rfl, rfl, rfl, by decide +kernel, rfl, by decide +kernel, by decide +kernel⟩
abbrev N_content_of : List Str := ["names", "text", "found", "name", "last", "cases", "piece", "many", "number", "blank"]
theorem sc_content_of : FnScope N_content_of ["names", "text"] (defScope (topS 8)) := ⟨rfl, rfl, rfl, by decide +kernel, rfl, by decide +kernel, by decide +kernel⟩
abbrev N_read_content : List Str := ["names", "text", "found"]
theorem sc_read_content : FnScope N_read_content ["names", "text"] (defScope (topS 9)) := ⟨rfl, rfl, rfl, by decide +kernel, rfl, by decide +kernel, by decide +kernel⟩
abbrev N__law_whole : List Str := ["_law_found"]
theorem sc__law_whole : FnScope N__law_whole ["_law_found"] (defScope (topS 13)) := ⟨rfl, rfl, rfl, by decide +kernel, rfl, by decide +kernel, by decide +kernel⟩
abbrev N__law_numbers : List Str := ["_law_found", "_law_due", "_law_one"]
theorem sc__law_numbers : FnScope N__law_numbers ["_law_found", "_law_due"] (defScope (topS 14)) := ⟨rfl, rfl, rfl, by decide +kernel, rfl, by decide +kernel, by decide +kernel⟩
abbrev N_law_k36 : List Str := ["_law_script", "_law_draws_here", "_law_many", "_law_names_here", "_law_turn", "_law_content", "_law_handed", "_law_text", "_law_found", "_law_again", "_law_told"]
theorem sc_law_k36 : FnScope N_law_k36 ["_law_script"] (defScope (topS 19)) := ⟨rfl, rfl, rfl, by decide +kernel, rfl, by decide +kernel, by decide +kernel⟩
section
variable {P : Program} {w : World} {K : PySem.W.Frag} {mg : Str → Option Value} {base : Heap}
structure T__law_draws_e473 (P : Program) (w : World) (K : PySem.W.Frag) (mg : Str → Option Value) (base : Heap) : Prop extends Bl mg where
  tr_ : True
theorem ok__law_draws_e473 {f : Addr} {fd : FuncData} (F : Fun K "_law_draws" "_law_draws" (topS 11) f fd) (T : T__law_draws_e473 P w K mg base) : FnG P w K mg base CX0 1 f fd ["_law_script", "_law_turn", "_law_many"] (spOf K (List.replicate 3 false) sem__law_draws_e473) :=
  okD F sc__law_draws_e473 rfl fun cdv A outer s H E hr =>
    (dss_cons (ds_set (i := 3) sc__law_draws_e473.nd rfl (.inl rfl) (d_fz (d_add (d_sl (d_var 0 (pv 0)) do_none (do_some d_int)) (d_lst (da_cons (d_var 1 (pv 1)) da_nil)) (as_cons (as_cons as_nil))))) (dss_cons (ds_set (i := 4) sc__law_draws_e473.nd rfl (.inl rfl) (d_lst da_nil)) (dss_cons (ds_if (dt_cmp (op_eqD hr.units) sc_eq (d_op op_mod sc_mod (d_op op_fdivW sc_div (d_ix (pv 3) d_int (fun _ _ => rfl) (ls_see (ls_cons ls_nil))) d_int (ls_cons (ls_cons ls_nil))) d_int (ls_cons (ls_cons ls_nil))) d_int (nomark _) (ls_cons (ls_cons ls_nil))) (dss_cons (ds_setLc (i := 5) (own := [("_law_cell", 8)]) rfl sc__law_draws_e473.nd rfl rfl (sw_true rfl rfl rfl (by decide +kernel)) (di_list (d_var 3 (pv 3))) (blkOk_by (own := [("_law_cell", 8)]) (N := N__law_draws_e473) (sc := defScope (topS 11)) (by decide +kernel)) (fun _ _ _ _ _ => (dg_name (i := 8) sc__law_draws_e473.nd rfl (.inl rfl))) (fun _ _ _ _ _ => dts_nil) (fun _ _ _ _ _ => (d_op op_fdivW sc_div (pv 8) d_int (ls_see (ls_cons ls_nil))))) (dss_cons (ds_for PassesOwn.never rfl (di_r1 (by rfl) T.z_range (dl_cons (d_add (d_var 1 (pv 1)) (d_var 2 (pv 2)) (as_cons (as_cons as_nil))) dl_nil)) (dg_name (i := 6) sc__law_draws_e473.nd rfl (.inl rfl)) (dss_cons (ds_set (i := 7) sc__law_draws_e473.nd rfl (.inl rfl) (d_op op_mod sc_mod (pv 6) (d_callB call_len sc_len (by rfl) T.z_len bb_len (dl_see (pv 5) dl_nil)) (ls_see (ls_cons ls_nil)))) (dss_cons (ds_if (dt_cmp op_ge sc_ge (pv 6) (pv 1) (nomark _) (ls_see (ls_see ls_nil))) (dss_cons (ds_expr (d_up PySem.F.slot_list_append PySem.F.type_list_append mt_append up_app (pv 4) (da_cons (d_op op_mod sc_mod (d_ix (pv 5) (pv 7) (fun _ _ => rfl) (ls_see (ls_see ls_nil))) d_int (ls_cons (ls_cons ls_nil))) da_nil))) dss_nil) dss_nil) (dss_cons (ds_setI (d_op op_fdivW sc_div (d_ix (pv 5) (pv 7) (fun _ _ => rfl) (ls_see (ls_see ls_nil))) d_int (ls_cons (ls_cons ls_nil))) (pv 5) (d_var 7 (pv 7))) (dss_kill dss_nil))))) (dss_kill (dss_cons (ds_ret (d_mv 4 (pv 4))) dss_nil)))) dss_nil) (dss_kill (dss_cons (ds_for PassesOwn.never rfl (di_frz (di_r1 (by rfl) T.z_range (dl_see (pv 2) dl_nil))) (dg_name (i := 6) sc__law_draws_e473.nd rfl (.inl rfl)) (dss_cons (ds_set (i := 9) sc__law_draws_e473.nd rfl (.inl rfl) (d_fz (d_add (d_op op_mulA sc_mul (d_op op_mulA sc_mul (d_add (d_var 6 (pv 6)) (d_var 1 (pv 1)) (as_cons (as_cons as_nil))) (d_add (d_var 6 (pv 6)) (d_var 1 (pv 1)) (as_cons (as_cons as_nil))) (ls_cons (ls_cons ls_nil))) d_int (ls_cons (ls_cons ls_nil))) d_int (as_cons (as_cons as_nil))))) (dss_cons (ds_set (i := 10) sc__law_draws_e473.nd rfl (.inl rfl) (d_op op_mod sc_mod (d_op op_mulA sc_mul (d_add (d_op op_mod sc_mod (d_ix (pv 3) (d_op op_mod sc_mod (pv 6) (d_callB call_len sc_len (by rfl) T.z_len bb_len (dl_see (pv 3) dl_nil)) (ls_see (ls_cons ls_nil))) (fun _ _ => rfl) (ls_see (ls_cons ls_nil))) d_int (ls_cons (ls_cons ls_nil))) (d_var 9 (pv 9)) (as_cons (as_cons as_nil))) d_int (ls_cons (ls_cons ls_nil))) d_int (ls_cons (ls_cons ls_nil)))) (dss_cons (ds_set (i := 10) sc__law_draws_e473.nd rfl (.inl rfl) (d_op op_mod sc_mod (d_add (d_op op_mulA sc_mul (pv 10) (pv 10) (ls_see (ls_see ls_nil))) (d_op op_mulA sc_mul d_int (pv 6) (ls_cons (ls_see ls_nil))) (as_cons (as_cons as_nil))) d_int (ls_cons (ls_cons ls_nil)))) (dss_cons (ds_expr (d_up PySem.F.slot_list_append PySem.F.type_list_append mt_append up_app (pv 4) (da_cons (d_op op_mod sc_mod (d_op op_mulA sc_mul (pv 10) (pv 10) (ls_see (ls_see ls_nil))) d_int (ls_cons (ls_cons ls_nil))) da_nil))) (dss_kill dss_nil)))))) (dss_kill (dss_cons (ds_ret (d_mv 4 (pv 4))) dss_nil)))))))
structure T__law_pop (P : Program) (w : World) (K : PySem.W.Frag) (mg : Str → Option Value) (base : Heap) : Prop extends Bl mg where
  tr_ : True
theorem ok__law_pop {f : Addr} {fd : FuncData} (F : Fun K "_law_pop" "_law_pop" (topS 12) f fd) (T : T__law_pop P w K mg base) : FnG P w K mg base CX0 1 f fd ["_law_draws_here"] (spOf K [true] sem__law_pop) :=
  okD F sc__law_pop rfl fun cdv A outer s H E hr =>
    (dss_cons (ds_if (dt_cmp (op_eqD hr.units) sc_eq (pv 0) (d_lst da_nil) (nomark _) (ls_see (ls_cons ls_nil))) (dss_cons (ds_ret d_int) dss_nil) dss_nil) (dss_cons (ds_ret (d_up PySem.F.slot_list_pop PySem.F.type_list_pop mt_popAt up_pop0 (pv 0) (da_cons d_int da_nil))) dss_nil))
structure T__law_names (P : Program) (w : World) (K : PySem.W.Frag) (mg : Str → Option Value) (base : Heap) : Prop extends Bl mg where
  c__law_pop : Cal P w K mg base 1 "_law_pop" ["_law_draws_here"] (spOf K [true] sem__law_pop)
theorem ok__law_names {f : Addr} {fd : FuncData} (F : Fun K "_law_names" "_law_names" (topS 17) f fd) (T : T__law_names P w K mg base) : FnG P w K mg base CX0 2 f fd ["_law_draws_here", "_law_many"] (spOf K [true, false] sem__law_names) :=
  okD F sc__law_names rfl fun cdv A outer s H E hr =>
    (dss_cons (ds_set (i := 2) sc__law_names.nd rfl (.inl rfl) (d_fz (d_lst (da_cons d_str (da_cons d_str (da_cons d_str (da_cons d_str (da_cons d_str (da_cons d_str (da_cons d_str (da_cons d_str da_nil))))))))))) (dss_cons (ds_set (i := 3) sc__law_names.nd rfl (.inl rfl) (d_lst da_nil)) (dss_cons (ds_for PassesOwn.never rfl (di_r1 (by rfl) T.z_range (dl_see (pv 1) dl_nil)) (dg_name (i := 4) sc__law_names.nd rfl (.inl rfl)) (dss_cons (ds_set (i := 5) sc__law_names.nd rfl (.inr rfl) (d_fz (c_callR T.c__law_pop (hr.mono (by decide)) (by rfl) (dr_ref (pv 0) dr_nil)))) (dss_cons (ds_set (i := 6) sc__law_names.nd rfl (.inr rfl) d_str) (dss_cons (ds_set (i := 7) sc__law_names.nd rfl (.inl rfl) (d_fz (d_m1 PySem.F.slot_str_join PySem.F.type_str_join mt_join al_join hf_join d_str (d_lc (own := [("_law_j", 8)]) rfl sc__law_names.nd (di_r1 (by rfl) T.z_range (dl_cons (d_add d_int (d_op op_mod sc_mod (pv 5) d_int (ls_see (ls_cons ls_nil))) (as_cons (as_cons as_nil))) dl_nil)) (blkOk_by (own := [("_law_j", 8)]) (N := N__law_names) (sc := defScope (topS 17)) (by decide +kernel)) (fun _ _ _ _ _ => (dg_name (i := 8) sc__law_names.nd rfl (.inl rfl))) (fun _ _ _ _ _ => dts_nil) (fun _ _ _ _ _ => (d_ix (pv 6) (d_op op_mod sc_mod (d_op op_fdivW sc_div (pv 5) (d_op op_mulA sc_mul d_int (d_add d_int (d_op op_mulA sc_mul (d_op op_mulA sc_mul d_int (pv 8) (ls_cons (ls_see ls_nil))) (pv 8) (ls_cons (ls_see ls_nil))) (as_cons (as_cons as_nil))) (ls_cons (ls_cons ls_nil))) (ls_see (ls_cons ls_nil))) d_int (ls_cons (ls_cons ls_nil))) (fun _ _ => rfl) (ls_see (ls_cons ls_nil)))))))) (dss_cons (ds_if (dt_cmp (op_eqD hr.units) sc_eq (d_op op_mod sc_mod (d_op op_fdivW sc_div (pv 5) d_int (ls_see (ls_cons ls_nil))) d_int (ls_cons (ls_cons ls_nil))) d_int (nomark _) (ls_cons (ls_cons ls_nil))) (dss_cons (ds_set (i := 7) sc__law_names.nd rfl (.inl rfl) (d_ix (pv 2) (d_op op_mod sc_mod (d_op op_fdivW sc_div (pv 5) d_int (ls_see (ls_cons ls_nil))) d_int (ls_cons (ls_cons ls_nil))) (fun _ _ => rfl) (ls_see (ls_cons ls_nil)))) dss_nil) dss_nil) (dss_cons (ds_if (dt_cmp (op_inA (hu65 hr)) sc_in (pv 7) (pv 3) (by rfl) (ls_see (ls_see ls_nil))) (dss_cons (ds_set (i := 7) sc__law_names.nd rfl (.inl rfl) (d_op op_mulS sc_mulS (d_ix d_str (pv 4) (fun _ _ => rfl) (ls_cons (ls_see ls_nil))) d_int (ls_cons (ls_cons ls_nil)))) dss_nil) dss_nil) (dss_cons (ds_expr (d_up PySem.F.slot_list_append PySem.F.type_list_append mt_append up_app (pv 3) (da_cons (d_var 7 (pv 7)) da_nil))) (dss_kill dss_nil)))))))) (dss_kill (dss_cons (ds_ret (d_mv 3 (pv 3))) dss_nil)))))
structure T__law_cases (P : Program) (w : World) (K : PySem.W.Frag) (mg : Str → Option Value) (base : Heap) : Prop extends Bl mg where
  tr_ : True
theorem ok__law_cases {f : Addr} {fd : FuncData} (F : Fun K "_law_cases" "_law_cases" (topS 16) f fd) (T : T__law_cases P w K mg base) : FnG P w K mg base CX0 1 f fd ["_law_want_here"] (spOf K (List.replicate 1 false) sem__law_cases) :=
  okD F sc__law_cases rfl fun cdv A outer s H E hr =>
    (dss_cons (ds_set (i := 1) sc__law_cases.nd rfl (.inl rfl) d_int) (dss_cons (ds_for PassesOwn.never rfl (di_list (d_var 0 (pv 0))) (dg_name (i := 2) sc__law_cases.nd rfl (.inl rfl)) (dss_cons (ds_set (i := 1) sc__law_cases.nd rfl (.inl rfl) (d_op op_mulA sc_mul (pv 1) (d_add (d_var 2 (pv 2)) d_int (as_cons (as_cons as_nil))) (ls_see (ls_cons ls_nil)))) (dss_kill dss_nil))) (dss_kill (dss_cons (ds_ret (d_mv 1 (pv 1))) dss_nil))))
structure T__law_want_aecb (P : Program) (w : World) (K : PySem.W.Frag) (mg : Str → Option Value) (base : Heap) : Prop extends Bl mg where
  c__law_pop : Cal P w K mg base 1 "_law_pop" ["_law_draws_here"] (spOf K [true] sem__law_pop)
  c__law_cases : Cal P w K mg base 1 "_law_cases" ["_law_want_here"] (spOf K (List.replicate 1 false) sem__law_cases)
theorem ok__law_want_aecb {f : Addr} {fd : FuncData} (F : Fun K "_law_want" "_law_want" (topS 15) f fd) (T : T__law_want_aecb P w K mg base) : FnG P w K mg base CX0 2 f fd ["_law_draws_here", "_law_many"] (spOf K [true, false] sem__law_want_aecb) :=
  okD F sc__law_want_aecb rfl fun cdv A outer s H E hr =>
    (dss_cons (ds_set (i := 2) sc__law_want_aecb.nd rfl (.inr rfl) (d_fz (c_callR T.c__law_pop (hr.mono (by decide)) (by rfl) (dr_ref (pv 0) dr_nil)))) (dss_cons (ds_setLc (i := 3) (own := [("_law_k", 4)]) rfl sc__law_want_aecb.nd rfl rfl (sw_true rfl rfl rfl (by decide +kernel)) (di_r1 (by rfl) T.z_range (dl_see (pv 1) dl_nil)) (blkOk_by (own := [("_law_k", 4)]) (N := N__law_want_aecb) (sc := defScope (topS 15)) (by decide +kernel)) (fun _ _ _ _ _ => (dg_name (i := 4) sc__law_want_aecb.nd rfl (.inl rfl))) (fun _ _ _ _ _ => dts_nil) (fun _ _ _ _ _ => (d_ix (d_lst (da_cons d_int (da_cons d_int (da_cons d_int (da_cons d_int (da_cons d_int (da_cons d_int (da_cons d_int (da_cons d_int da_nil))))))))) (d_op op_mod sc_mod (d_op op_fdivW sc_div (pv 2) (d_op op_shl sc_shl d_int (d_op op_mulA sc_mul d_int (pv 4) (ls_cons (ls_see ls_nil))) (ls_cons (ls_cons ls_nil))) (ls_see (ls_cons ls_nil))) d_int (ls_cons (ls_cons ls_nil))) (fun _ _ => rfl) (ls_cons (ls_cons ls_nil))))) (dss_cons (ds_if (dt_cmp (op_eqD hr.units) sc_eq (d_op op_mod sc_mod (d_op op_fdivW sc_div (pv 2) d_int (ls_see (ls_cons ls_nil))) d_int (ls_cons (ls_cons ls_nil))) d_int (nomark _) (ls_cons (ls_cons ls_nil))) (dss_cons (ds_setLc (i := 3) (own := [("_law_k", 4)]) rfl sc__law_want_aecb.nd rfl rfl (sw_true rfl rfl rfl (by decide +kernel)) (di_r1 (by rfl) T.z_range (dl_see (pv 1) dl_nil)) (blkOk_by (own := [("_law_k", 4)]) (N := N__law_want_aecb) (sc := defScope (topS 15)) (by decide +kernel)) (fun _ _ _ _ _ => (dg_name (i := 4) sc__law_want_aecb.nd rfl (.inl rfl))) (fun _ _ _ _ _ => dts_nil) (fun _ _ _ _ _ => (d_op op_mod sc_mod (c_callR T.c__law_pop (hr.mono (by decide)) (by rfl) (dr_ref (pv 0) dr_nil)) d_int (ls_cons (ls_cons ls_nil))))) dss_nil) dss_nil) (dss_cons (ds_while PassesOwn.never (dt_cmp op_gt sc_gt (c_callL T.c__law_cases (hr.mono (by decide)) (by rfl) (n_see n_nil) (dl_see (pv 3) dl_nil)) d_int (nomark _) (ls_cons (ls_cons ls_nil))) (dss_cons (ds_setI (d_op op_sub sc_sub (d_callB (call_maxA rfl) sc_max (by rfl) T.z_max bb_max (dl_see (pv 3) dl_nil)) d_int (ls_cons (ls_cons ls_nil))) (pv 3) (d_lm PySem.F.slot_list_index PySem.F.type_list_index (mt_indexD (hu65 hr)) sc_index (pv 3) (dl_cons (d_callB (call_maxA rfl) sc_max (by rfl) T.z_max bb_max (dl_see (pv 3) dl_nil)) dl_nil))) dss_nil)) (dss_cons (ds_ret (d_mv 3 (pv 3))) dss_nil)))))
structure T__law_content_text (P : Program) (w : World) (K : PySem.W.Frag) (mg : Str → Option Value) (base : Heap) : Prop extends Bl mg where
  tr_ : True
theorem ok__law_content_text {f : Addr} {fd : FuncData} (F : Fun K "_law_content_text" "_law_content_text" (topS 18) f fd) (T : T__law_content_text P w K mg base) : FnG P w K mg base CX0 1 f fd ["_law_names_here", "_law_content"] (spOf K (List.replicate 2 false) sem__law_content_text) :=
  okD F sc__law_content_text rfl fun cdv A outer s H E hr =>
    (dss_cons (ds_setLcF (i := 2) (own := [("_law_k", 3)]) rfl sc__law_content_text.nd rfl rfl (sw_true rfl rfl rfl (by decide +kernel)) (di_r1 (by rfl) T.z_range (dl_cons (d_callB call_len sc_len (by rfl) T.z_len bb_len (dl_see (pv 0) dl_nil)) dl_nil)) (blkOk_by (own := [("_law_k", 3)]) (N := N__law_content_text) (sc := defScope (topS 18)) (by decide +kernel)) (fun _ _ _ _ _ => (dg_name (i := 3) sc__law_content_text.nd rfl (.inl rfl))) (fun _ _ _ _ _ => (dts_one (dt_cmp op_gt sc_gt (d_ix (pv 1) (pv 3) (fun _ _ => rfl) (ls_see (ls_see ls_nil))) d_int (nomark _) (ls_cons (ls_cons ls_nil))))) (fun _ _ _ _ _ => (d_add (d_add (d_callTy (call_strA (hu65 hr) hr.gd) sc_strD (by rfl) T.z_str bb_str (dl_cons (d_ix (pv 1) (pv 3) (fun _ _ => rfl) (ls_see (ls_see ls_nil))) dl_nil)) d_str (as_cons (as_cons as_nil))) (d_ix (pv 0) (pv 3) (fun _ _ => rfl) (ls_see (ls_see ls_nil))) (as_cons (as_cons as_nil))))) (dss_cons (ds_if (dt_cmp (op_eqD hr.units) sc_eq (pv 2) (d_lst da_nil) (nomark _) (ls_see (ls_cons ls_nil))) (dss_cons (ds_ret d_str) dss_nil) dss_nil) (dss_cons (ds_ret (d_m1 PySem.F.slot_str_join PySem.F.type_str_join mt_join al_join hf_join d_str (d_var 2 (pv 2)))) dss_nil)))
structure T_show_content (P : Program) (w : World) (K : PySem.W.Frag) (mg : Str → Option Value) (base : Heap) : Prop extends Bl mg where
  tr_ : True
theorem ok_show_content {f : Addr} {fd : FuncData} (F : Fun K "show_content" "show_content" (topS 6) f fd) (T : T_show_content P w K mg base) : FnG P w K mg base CX0 1 f fd ["names", "content"] (spOf K (List.replicate 2 false) sem_show_content) :=
  okD F sc_show_content rfl fun cdv A outer s H E hr =>
    (dss_cons (ds_setLcF (i := 2) (own := [("number", 3), ("name", 4)]) rfl sc_show_content.nd rfl rfl (sw_true rfl rfl rfl (by decide +kernel)) (di_zip (by rfl) T.z_zip (da_cons (d_var 1 (pv 1)) (da_cons (d_var 0 (pv 0)) da_nil))) (blkOk_by (own := [("number", 3), ("name", 4)]) (N := N_show_content) (sc := defScope (topS 6)) (by decide +kernel)) (fun _ _ _ _ _ => (dg_tup rfl (dgs_cons (dg_name (i := 3) sc_show_content.nd rfl (.inl rfl)) (dgs_cons (dg_name (i := 4) sc_show_content.nd rfl (.inl rfl)) dgs_nil)))) (fun _ _ _ _ _ => (dts_one (dt_cmp op_gt sc_gt (pv 3) d_int (nomark _) (ls_see (ls_cons ls_nil))))) (fun _ _ _ _ _ => (d_add (d_add (d_callTy (call_strA (hu65 hr) hr.gd) sc_strD (by rfl) T.z_str bb_str (dl_see (pv 3) dl_nil)) d_str (as_cons (as_cons as_nil))) (d_var 4 (pv 4)) (as_cons (as_cons as_nil))))) (dss_cons (ds_if (dt_cmp (op_eqD hr.units) sc_eq (pv 2) (d_lst da_nil) (nomark _) (ls_see (ls_cons ls_nil))) (dss_cons (ds_ret d_str) dss_nil) dss_nil) (dss_cons (ds_ret (d_m1 PySem.F.slot_str_join PySem.F.type_str_join mt_join al_join hf_join d_str (d_var 2 (pv 2)))) dss_nil)))
structure T_read_number (P : Program) (w : World) (K : PySem.W.Frag) (mg : Str → Option Value) (base : Heap) : Prop extends Bl mg where
  tr_ : True
theorem ok_read_number {f : Addr} {fd : FuncData} (F : Fun K "read_number" "read_number" (topS 7) f fd) (T : T_read_number P w K mg base) : FnG P w K mg base CX0 1 f fd ["text", "figures"] (spOf K (List.replicate 2 false) sem_read_number) :=
  okD F sc_read_number rfl fun cdv A outer s H E hr =>
    (dss_cons (ds_if (PW.pt (dw_or (dt_not (dt_chain op_le op_le sc_le sc_le d_int (d_callB call_len sc_len (by rfl) T.z_len bb_len (dl_see (pv 0) dl_nil)) (d_var 1 (pv 1)) (ls_cons (ls_cons ls_nil)))) (dw_or1 (dt_val (d_callB (cr_any rfl) sc_any (by rfl) T.z_any bb_any (dl_cons (d_lc (own := [("sign", 2)]) rfl sc_read_number.nd (di_str (d_var 0 (pv 0))) (blkOk_by (own := [("sign", 2)]) (N := N_read_number) (sc := defScope (topS 7)) (by decide +kernel)) (fun _ _ _ _ _ => (dg_name (i := 2) sc_read_number.nd rfl (.inl rfl))) (fun _ _ _ _ _ => dts_nil) (fun _ _ _ _ _ => (d_cmp (op_notInA (hu65 hr)) sc_notIn (pv 2) (d_globS (by rfl) T.g_FIGURES) (by rfl) (ls_see (ls_cons ls_nil))))) dl_nil)))))) (dss_cons (ds_ret d_non) dss_nil) dss_nil) (dss_cons (ds_if (PW.pt (dw_and (dt_cmp (op_eqD hr.units) sc_eq (d_ix (pv 0) d_int (fun _ _ => rfl) (ls_see (ls_cons ls_nil))) d_str (nomark _) (ls_cons (ls_cons ls_nil))) (dw_and1 (dt_cmp (op_neD hr.units) sc_ne (pv 0) d_str (nomark _) (ls_see (ls_cons ls_nil)))))) (dss_cons (ds_ret d_non) dss_nil) dss_nil) (dss_cons (ds_ret (d_callTy call_intA sc_int (by rfl) T.z_int bb_int (dl_see (pv 0) dl_nil))) dss_nil)))
structure T_content_of (P : Program) (w : World) (K : PySem.W.Frag) (mg : Str → Option Value) (base : Heap) : Prop extends Bl mg where
  c_read_number : Cal P w K mg base 1 "read_number" ["text", "figures"] (spOf K (List.replicate 2 false) sem_read_number)
theorem ok_content_of {f : Addr} {fd : FuncData} (F : Fun K "content_of" "content_of" (topS 8) f fd) (T : T_content_of P w K mg base) : FnG P w K mg base CX0 2 f fd ["names", "text"] (spOf K (List.replicate 2 false) sem_content_of) :=
  okD F sc_content_of rfl fun cdv A outer s H E hr =>
    (dss_cons (ds_setLc (i := 2) (own := [("name", 3)]) rfl sc_content_of.nd rfl rfl (sw_true rfl rfl rfl (by decide +kernel)) (di_list (d_var 0 (pv 0))) (blkOk_by (own := [("name", 3)]) (N := N_content_of) (sc := defScope (topS 8)) (by decide +kernel)) (fun _ _ _ _ _ => (dg_name (i := 3) sc_content_of.nd rfl (.inl rfl))) (fun _ _ _ _ _ => dts_nil) (fun _ _ _ _ _ => d_int)) (dss_cons (ds_if (dt_cmp (op_eqD hr.units) sc_eq (pv 1) d_str (nomark _) (ls_see (ls_cons ls_nil))) (dss_cons (ds_ret (d_mv 2 (pv 2))) dss_nil) dss_nil) (dss_cons (ds_set (i := 4) sc_content_of.nd rfl (.inl rfl) (d_un un_neg sc_neg d_int (ls_cons ls_nil))) (dss_cons (ds_set (i := 5) sc_content_of.nd rfl (.inl rfl) d_int) (dss_cons (ds_for PassesOwn.never rfl (di_list (d_m1 PySem.F.slot_str_split PySem.F.type_str_split mt_split al_split hf_split (d_var 1 (pv 1)) d_str)) (dg_name (i := 6) sc_content_of.nd rfl (.inl rfl)) (dss_cons (ds_asg (d_m1 PySem.F.slot_str_partition PySem.F.type_str_partition mt_partition al_part hf_part (d_var 6 (pv 6)) d_str) (dg_tup rfl (dgs_cons (dg_name (i := 8) sc_content_of.nd rfl (.inl rfl)) (dgs_cons (dg_name (i := 9) sc_content_of.nd rfl (.inl rfl)) (dgs_cons (dg_name (i := 3) sc_content_of.nd rfl (.inl rfl)) dgs_nil))))) (dss_cons (ds_set (i := 7) sc_content_of.nd rfl (.inl rfl) (d_fz (c_callM T.c_read_number (hr.mono (by decide)) (by rfl) (n_cons (n_cons n_nil)) (da_cons (d_var 8 (pv 8)) (da_cons d_int da_nil))))) (dss_cons (ds_if (PW.pt (dw_or (dt_cmp op_isN sc_isN (pv 7) d_non (nomark _) (ls_see (ls_cons ls_nil))) (dw_or (dt_cmp (op_eqD hr.units) sc_eq (pv 7) d_int (nomark _) (ls_see (ls_cons ls_nil))) (dw_or (dt_cmp (op_notInA (hu65 hr)) sc_notIn (pv 3) (pv 0) (by rfl) (ls_see (ls_see ls_nil))) (dw_or1 (dt_cmp op_le sc_le (d_lm PySem.F.slot_list_index PySem.F.type_list_index (mt_indexD (hu65 hr)) sc_index (pv 0) (dl_see (pv 3) dl_nil)) (pv 4) (nomark _) (ls_cons (ls_see ls_nil)))))))) (dss_cons (ds_ret d_non) dss_nil) dss_nil) (dss_cons (ds_set (i := 4) sc_content_of.nd rfl (.inl rfl) (d_fz (d_lm PySem.F.slot_list_index PySem.F.type_list_index (mt_indexD (hu65 hr)) sc_index (pv 0) (dl_see (pv 3) dl_nil)))) (dss_cons (ds_setI (d_var 7 (pv 7)) (pv 2) (d_var 4 (pv 4))) (dss_cons (ds_set (i := 5) sc_content_of.nd rfl (.inl rfl) (d_op op_mulA sc_mul (pv 5) (d_add (d_var 7 (pv 7)) d_int (as_cons (as_cons as_nil))) (ls_see (ls_cons ls_nil)))) (dss_kill dss_nil)))))))) (dss_kill (dss_cons (ds_if (dt_cmp op_gt sc_gt (pv 5) (d_globI (by rfl) T.g_MOST_CASES) (nomark _) (ls_see (ls_cons ls_nil))) (dss_cons (ds_ret d_non) dss_nil) dss_nil) (dss_cons (ds_ret (d_mv 2 (pv 2))) dss_nil))))))))
structure T_read_content (P : Program) (w : World) (K : PySem.W.Frag) (mg : Str → Option Value) (base : Heap) : Prop extends Bl mg where
  c_content_of : Cal P w K mg base 2 "content_of" ["names", "text"] (spOf K (List.replicate 2 false) sem_content_of)
theorem ok_read_content {f : Addr} {fd : FuncData} (F : Fun K "read_content" "read_content" (topS 9) f fd) (T : T_read_content P w K mg base) : FnG P w K mg base CX0 3 f fd ["names", "text"] (spOf K (List.replicate 2 false) sem_read_content) :=
  okD F sc_read_content rfl fun cdv A outer s H E hr =>
    (dss_cons (ds_set (i := 2) sc_read_content.nd rfl (.inl rfl) (c_callM T.c_content_of (hr.mono (by decide)) (by rfl) (n_cons (n_cons n_nil)) (da_cons (d_var 0 (pv 0)) (da_cons (d_var 1 (pv 1)) da_nil)))) (dss_cons (ds_if (dt_cmp op_isN sc_isN (pv 2) d_non (nomark _) (ls_see (ls_cons ls_nil))) (dss_cons ds_never dss_nil) dss_nil) (dss_cons (ds_ret (d_mv 2 (pv 2))) dss_nil)))
structure T__law_whole (P : Program) (w : World) (K : PySem.W.Frag) (mg : Str → Option Value) (base : Heap) : Prop extends Bl mg where
  tr_ : True
theorem ok__law_whole {f : Addr} {fd : FuncData} (F : Fun K "_law_whole" "_law_whole" (topS 13) f fd) (T : T__law_whole P w K mg base) : FnG P w K mg base CX0 1 f fd ["_law_found"] (spOf K (List.replicate 1 false) sem__law_whole) :=
  okD F sc__law_whole rfl fun cdv A outer s H E hr =>
    (dss_cons (ds_ret (d_and (d_isi isi_int (by rfl) T.z_isinstance (d_ty (by rfl) T.z_int bb_int) (pv 0) (ls_see ls_nil)) (d_one (d_not (d_isi isi_bool (by rfl) T.z_isinstance (d_ty (by rfl) T.z_bool bb_bool) (pv 0) (ls_see ls_nil)))))) dss_nil)
structure T__law_numbers (P : Program) (w : World) (K : PySem.W.Frag) (mg : Str → Option Value) (base : Heap) : Prop extends Bl mg where
  c__law_whole : Cal P w K mg base 1 "_law_whole" ["_law_found"] (spOf K (List.replicate 1 false) sem__law_whole)
theorem ok__law_numbers {f : Addr} {fd : FuncData} (F : Fun K "_law_numbers" "_law_numbers" (topS 14) f fd) (T : T__law_numbers P w K mg base) : FnG P w K mg base CX0 2 f fd ["_law_found", "_law_due"] (spOf K (List.replicate 2 false) sem__law_numbers) :=
  okD F sc__law_numbers rfl fun cdv A outer s H E hr =>
    (dss_cons (ds_if (PW.pt (dw_or (dt_not (dt_val (d_isi isi_list (by rfl) T.z_isinstance (d_ty (by rfl) T.z_list bb_list) (pv 0) (ls_see ls_nil)))) (dw_or1 (dt_cmp op_gt sc_gt (d_callB call_len sc_len (by rfl) T.z_len bb_len (dl_cons (d_lc (own := [("_law_one", 2)]) rfl sc__law_numbers.nd (di_list (d_var 0 (pv 0))) (blkOk_by (own := [("_law_one", 2)]) (N := N__law_numbers) (sc := defScope (topS 14)) (by decide +kernel)) (fun _ _ _ _ _ => (dg_name (i := 2) sc__law_numbers.nd rfl (.inl rfl))) (fun _ _ _ _ _ => (dts_one (dt_not (dt_val (c_callM T.c__law_whole (hr.mono (by decide)) (by rfl) (n_cons n_nil) (da_cons (d_var 2 (pv 2)) da_nil)))))) (fun _ _ _ _ _ => (d_var 2 (pv 2)))) dl_nil)) d_int (nomark _) (ls_cons (ls_cons ls_nil)))))) (dss_cons (ds_ret d_bl) dss_nil) dss_nil) (dss_cons (ds_ret (d_cmp (op_eqD hr.units) sc_eq (pv 0) (pv 1) (nomark _) (ls_see (ls_see ls_nil)))) dss_nil))
structure T_law_k36 (P : Program) (w : World) (K : PySem.W.Frag) (mg : Str → Option Value) (base : Heap) : Prop extends Bl mg where
  c__law_draws : Cal P w K mg base 1 "_law_draws" ["_law_script", "_law_turn", "_law_many"] (spOf K (List.replicate 3 false) sem__law_draws_e473)
  c__law_pop : Cal P w K mg base 1 "_law_pop" ["_law_draws_here"] (spOf K [true] sem__law_pop)
  c__law_names : Cal P w K mg base 2 "_law_names" ["_law_draws_here", "_law_many"] (spOf K [true, false] sem__law_names)
  c__law_want : Cal P w K mg base 2 "_law_want" ["_law_draws_here", "_law_many"] (spOf K [true, false] sem__law_want_aecb)
  c__law_content_text : Cal P w K mg base 1 "_law_content_text" ["_law_names_here", "_law_content"] (spOf K (List.replicate 2 false) sem__law_content_text)
  c_show_content : Cal P w K mg base 1 "show_content" ["names", "content"] (spOf K (List.replicate 2 false) sem_show_content)
  c_read_content : Cal P w K mg base 3 "read_content" ["names", "text"] (spOf K (List.replicate 2 false) sem_read_content)
  c__law_numbers : Cal P w K mg base 2 "_law_numbers" ["_law_found", "_law_due"] (spOf K (List.replicate 2 false) sem__law_numbers)
theorem ok_law_k36 {f : Addr} {fd : FuncData} (F : Fun K "law" "law" (topS 19) f fd) (T : T_law_k36 P w K mg base) : FnG P w K mg base CX0 4 f fd ["_law_script"] (spOf K (List.replicate 1 false) sem_law_k36) :=
  okD F sc_law_k36 rfl fun cdv A outer s H E hr =>
    (dss_cons (ds_set (i := 1) sc_law_k36.nd rfl (.inl rfl) (c_callM T.c__law_draws (hr.mono (by decide)) (by rfl) (n_cons (n_cons (n_cons n_nil))) (da_cons (d_var 0 (pv 0)) (da_cons d_int (da_cons d_int da_nil))))) (dss_cons (ds_set (i := 2) sc_law_k36.nd rfl (.inl rfl) (d_fz (d_add d_int (d_op op_mod sc_mod (c_callR T.c__law_pop (hr.mono (by decide)) (by rfl) (dr_ref (pv 1) dr_nil)) d_int (ls_cons (ls_cons ls_nil))) (as_cons (as_cons as_nil))))) (dss_cons (ds_set (i := 3) sc_law_k36.nd rfl (.inl rfl) (d_fz (c_callR T.c__law_names (hr.mono (by decide)) (by rfl) (dr_ref (pv 1) (dr_cons (d_var 2 (pv 2)) dr_nil))))) (dss_cons (ds_for PassesOwn.never rfl (di_frz (di_r1 (by rfl) T.z_range (dl_cons d_int dl_nil))) (dg_name (i := 4) sc_law_k36.nd rfl (.inl rfl)) (dss_cons (ds_set (i := 5) sc_law_k36.nd rfl (.inl rfl) (d_ix (d_fz (d_lst (da_cons (c_callR T.c__law_want (hr.mono (by decide)) (by rfl) (dr_ref (pv 1) (dr_cons (d_var 2 (pv 2)) dr_nil))) (da_cons (d_rep (d_lst (da_cons d_int da_nil)) (d_var 2 (pv 2)) (as_cons (as_cons as_nil))) da_nil)))) (d_callTy call_intA sc_int (by rfl) T.z_int bb_int (dl_cons (d_cmp (op_eqD hr.units) sc_eq (pv 4) d_int (nomark _) (ls_see (ls_cons ls_nil))) dl_nil)) (fun _ _ => rfl) (ls_cons (ls_cons ls_nil)))) (dss_cons (ds_set (i := 6) sc_law_k36.nd rfl (.inl rfl) (d_fz (d_lst (da_cons (d_callTyA call_list_of al_list (by rfl) T.z_list bb_list (da_cons (d_var 3 (pv 3)) da_nil)) (da_cons (d_callTyA call_list_of al_list (by rfl) T.z_list bb_list (da_cons (d_var 5 (pv 5)) da_nil)) da_nil))))) (dss_cons (ds_set (i := 7) sc_law_k36.nd rfl (.inl rfl) (d_fz (c_callM T.c__law_content_text (hr.mono (by decide)) (by rfl) (n_cons (n_cons n_nil)) (da_cons (d_var 3 (pv 3)) (da_cons (d_var 5 (pv 5)) da_nil))))) (dss_cons (ds_set (i := 8) sc_law_k36.nd rfl (.inl rfl) (d_fz (c_callM T.c_show_content (hr.mono (by decide)) (by rfl) (n_cons (n_cons n_nil)) (da_cons (d_ix (pv 6) d_int (fun _ _ => rfl) (ls_see (ls_cons ls_nil))) (da_cons (d_ix (pv 6) d_int (fun _ _ => rfl) (ls_see (ls_cons ls_nil))) da_nil))))) (dss_cons (ds_if (PW.pt (dw_or (dt_not (dt_val (d_isi isi_str (by rfl) T.z_isinstance (d_ty (by rfl) T.z_str bb_str) (pv 8) (ls_see ls_nil)))) (dw_or (dt_cmp (op_neD hr.units) sc_ne (pv 8) (pv 7) (nomark _) (ls_see (ls_see ls_nil))) (dw_or1 (dt_cmp (op_neD hr.units) sc_ne (pv 6) (d_lst (da_cons (d_var 3 (pv 3)) (da_cons (d_var 5 (pv 5)) da_nil))) (nomark _) (ls_see (ls_cons ls_nil))))))) (dss_cons (ds_ret d_bl) dss_nil) dss_nil) (dss_cons (ds_for PassesOwn.never rfl (di_frz (di_r1 (by rfl) T.z_range (dl_cons d_int dl_nil))) (dg_name (i := 9) sc_law_k36.nd rfl (.inl rfl)) (dss_cons (ds_set (i := 10) sc_law_k36.nd rfl (.inl rfl) (c_callM T.c_read_content (hr.mono (by decide)) (by rfl) (n_cons (n_cons n_nil)) (da_cons (d_ix (pv 6) d_int (fun _ _ => rfl) (ls_see (ls_cons ls_nil))) (da_cons (d_var 7 (pv 7)) da_nil)))) (dss_cons (ds_if (PW.pt (dw_or (dt_not (dt_val (c_callL T.c__law_numbers (hr.mono (by decide)) (by rfl) (n_see (n_see n_nil)) (dl_see (pv 10) (dl_see (pv 5) dl_nil))))) (dw_or1 (dt_cmp (op_neD hr.units) sc_ne (d_ix (pv 6) d_int (fun _ _ => rfl) (ls_see (ls_cons ls_nil))) (pv 3) (nomark _) (ls_cons (ls_see ls_nil)))))) (dss_cons (ds_ret d_bl) dss_nil) dss_nil) (dss_cons (ds_expr (d_up PySem.F.slot_list_append PySem.F.type_list_append mt_append up_app (pv 10) (da_cons d_int da_nil))) (dss_kill dss_nil))))) (dss_kill dss_nil)))))))) (dss_kill (dss_cons (ds_ret d_bl) dss_nil))))))
end
/-- what is asked of the law: True, whatever the script -/
def LawTrue : Prop := ∀ ns : List Int, ns.length ≤ 63 → sem_law_k36 [.s ns] = some (.v (.bool true), [])
theorem all_mk {l : PySem.W.OpenLaw} {w : World} {K : PySem.W.Frag} {h : Heap} {mg : Str → Option Value} {fa f0 f1 f2 f3 f4 f5 f6 f7 f8 f9 f10 f11 f12 : Addr} (X : K.In h) (G : h.Ns mainGlobals mg) (hfa : mg "law" = some (.ref fa))
    {od0 an0 od1 an1 od2 an2 od3 an3 od4 an4 od5 an5 od6 an6 od7 an7 od8 an8 od9 an9 od10 an10 od11 an11 od12 an12 : Option Addr} {sl0 sl1 sl2 sl3 sl4 sl5 sl6 sl7 sl8 sl9 sl10 sl11 sl12 : Array (Option Value)} {oc0 kV0 dc0 pm0 cd0 ct0 oc1 kV1 dc1 pm1 cd1 ct1 oc2 kV2 dc2 pm2 cd2 ct2 oc3 kV3 dc3 pm3 cd3 ct3 oc4 kV4 dc4 pm4 cd4 ct4 oc5 kV5 dc5 pm5 cd5 ct5 oc6 kV6 dc6 pm6 cd6 ct6 oc7 kV7 dc7 pm7 cd7 ct7 oc8 kV8 dc8 pm8 cd8 ct8 oc9 kV9 dc9 pm9 cd9 ct9 oc10 kV10 dc10 pm10 cd10 ct10 oc11 kV11 dc11 pm11 cd11 ct11 oc12 kV12 dc12 pm12 cd12 ct12 : Value}
    (a0 : PySem.W.nsIn K mainGlobals "_law_draws" = some (some (.ref f0))) (l0 : K.lookup f0 = some ⟨oc0, od0, .func (PySem.W.fnOf "_law_draws" "_law_draws" (defArgs (topS 11)) (defBody (topS 11)) (defScope (topS 11)) .none kV0 dc0 pm0 an0 cd0 ct0), sl0⟩) (c0 : PySem.W.codeIn K cd0 "_law_draws" = true) (k0 : PySem.W.keepIn K (.ref f0) = true)
    (a1 : PySem.W.nsIn K mainGlobals "_law_pop" = some (some (.ref f1))) (l1 : K.lookup f1 = some ⟨oc1, od1, .func (PySem.W.fnOf "_law_pop" "_law_pop" (defArgs (topS 12)) (defBody (topS 12)) (defScope (topS 12)) .none kV1 dc1 pm1 an1 cd1 ct1), sl1⟩) (c1 : PySem.W.codeIn K cd1 "_law_pop" = true) (k1 : PySem.W.keepIn K (.ref f1) = true)
    (a2 : PySem.W.nsIn K mainGlobals "_law_names" = some (some (.ref f2))) (l2 : K.lookup f2 = some ⟨oc2, od2, .func (PySem.W.fnOf "_law_names" "_law_names" (defArgs (topS 17)) (defBody (topS 17)) (defScope (topS 17)) .none kV2 dc2 pm2 an2 cd2 ct2), sl2⟩) (c2 : PySem.W.codeIn K cd2 "_law_names" = true) (k2 : PySem.W.keepIn K (.ref f2) = true)
    (a3 : PySem.W.nsIn K mainGlobals "_law_cases" = some (some (.ref f3))) (l3 : K.lookup f3 = some ⟨oc3, od3, .func (PySem.W.fnOf "_law_cases" "_law_cases" (defArgs (topS 16)) (defBody (topS 16)) (defScope (topS 16)) .none kV3 dc3 pm3 an3 cd3 ct3), sl3⟩) (c3 : PySem.W.codeIn K cd3 "_law_cases" = true) (k3 : PySem.W.keepIn K (.ref f3) = true)
    (a4 : PySem.W.nsIn K mainGlobals "_law_want" = some (some (.ref f4))) (l4 : K.lookup f4 = some ⟨oc4, od4, .func (PySem.W.fnOf "_law_want" "_law_want" (defArgs (topS 15)) (defBody (topS 15)) (defScope (topS 15)) .none kV4 dc4 pm4 an4 cd4 ct4), sl4⟩) (c4 : PySem.W.codeIn K cd4 "_law_want" = true) (k4 : PySem.W.keepIn K (.ref f4) = true)
    (a5 : PySem.W.nsIn K mainGlobals "_law_content_text" = some (some (.ref f5))) (l5 : K.lookup f5 = some ⟨oc5, od5, .func (PySem.W.fnOf "_law_content_text" "_law_content_text" (defArgs (topS 18)) (defBody (topS 18)) (defScope (topS 18)) .none kV5 dc5 pm5 an5 cd5 ct5), sl5⟩) (c5 : PySem.W.codeIn K cd5 "_law_content_text" = true) (k5 : PySem.W.keepIn K (.ref f5) = true)
    (a6 : PySem.W.nsIn K mainGlobals "show_content" = some (some (.ref f6))) (l6 : K.lookup f6 = some ⟨oc6, od6, .func (PySem.W.fnOf "show_content" "show_content" (defArgs (topS 6)) (defBody (topS 6)) (defScope (topS 6)) .none kV6 dc6 pm6 an6 cd6 ct6), sl6⟩) (c6 : PySem.W.codeIn K cd6 "show_content" = true) (k6 : PySem.W.keepIn K (.ref f6) = true)
    (a7 : PySem.W.nsIn K mainGlobals "read_number" = some (some (.ref f7))) (l7 : K.lookup f7 = some ⟨oc7, od7, .func (PySem.W.fnOf "read_number" "read_number" (defArgs (topS 7)) (defBody (topS 7)) (defScope (topS 7)) .none kV7 dc7 pm7 an7 cd7 ct7), sl7⟩) (c7 : PySem.W.codeIn K cd7 "read_number" = true) (k7 : PySem.W.keepIn K (.ref f7) = true)
    (a8 : PySem.W.nsIn K mainGlobals "content_of" = some (some (.ref f8))) (l8 : K.lookup f8 = some ⟨oc8, od8, .func (PySem.W.fnOf "content_of" "content_of" (defArgs (topS 8)) (defBody (topS 8)) (defScope (topS 8)) .none kV8 dc8 pm8 an8 cd8 ct8), sl8⟩) (c8 : PySem.W.codeIn K cd8 "content_of" = true) (k8 : PySem.W.keepIn K (.ref f8) = true)
    (a9 : PySem.W.nsIn K mainGlobals "read_content" = some (some (.ref f9))) (l9 : K.lookup f9 = some ⟨oc9, od9, .func (PySem.W.fnOf "read_content" "read_content" (defArgs (topS 9)) (defBody (topS 9)) (defScope (topS 9)) .none kV9 dc9 pm9 an9 cd9 ct9), sl9⟩) (c9 : PySem.W.codeIn K cd9 "read_content" = true) (k9 : PySem.W.keepIn K (.ref f9) = true)
    (a10 : PySem.W.nsIn K mainGlobals "_law_whole" = some (some (.ref f10))) (l10 : K.lookup f10 = some ⟨oc10, od10, .func (PySem.W.fnOf "_law_whole" "_law_whole" (defArgs (topS 13)) (defBody (topS 13)) (defScope (topS 13)) .none kV10 dc10 pm10 an10 cd10 ct10), sl10⟩) (c10 : PySem.W.codeIn K cd10 "_law_whole" = true) (k10 : PySem.W.keepIn K (.ref f10) = true)
    (a11 : PySem.W.nsIn K mainGlobals "_law_numbers" = some (some (.ref f11))) (l11 : K.lookup f11 = some ⟨oc11, od11, .func (PySem.W.fnOf "_law_numbers" "_law_numbers" (defArgs (topS 14)) (defBody (topS 14)) (defScope (topS 14)) .none kV11 dc11 pm11 an11 cd11 ct11), sl11⟩) (c11 : PySem.W.codeIn K cd11 "_law_numbers" = true) (k11 : PySem.W.keepIn K (.ref f11) = true)
    (a12 : PySem.W.nsIn K mainGlobals "law" = some (some (.ref f12))) (l12 : K.lookup f12 = some ⟨oc12, od12, .func (PySem.W.fnOf "law" "law" (defArgs (topS 19)) (defBody (topS 19)) (defScope (topS 19)) .none kV12 dc12 pm12 an12 cd12 ct12), sl12⟩) (c12 : PySem.W.codeIn K cd12 "law" = true) (k12 : PySem.W.keepIn K (.ref f12) = true)
    (z_any : PySem.W.nsIn K mainGlobals "any" = some none)
    (z_bool : PySem.W.nsIn K mainGlobals "bool" = some none)
    (z_int : PySem.W.nsIn K mainGlobals "int" = some none)
    (z_isinstance : PySem.W.nsIn K mainGlobals "isinstance" = some none)
    (z_len : PySem.W.nsIn K mainGlobals "len" = some none)
    (z_list : PySem.W.nsIn K mainGlobals "list" = some none)
    (z_max : PySem.W.nsIn K mainGlobals "max" = some none)
    (z_range : PySem.W.nsIn K mainGlobals "range" = some none)
    (z_str : PySem.W.nsIn K mainGlobals "str" = some none)
    (z_zip : PySem.W.nsIn K mainGlobals "zip" = some none)
    {t_FIGURES : Tok} (g_FIGURES : PySem.W.nsIn K mainGlobals "FIGURES" = some (some (.str "0123456789" t_FIGURES)))
    {t_MOST_CASES : Tok} (g_MOST_CASES : PySem.W.nsIn K mainGlobals "MOST_CASES" = some (some (.int 400 t_MOST_CASES))) :
    ∃ fd : FuncData, (∀ (s : Shared) (v : Value), BindsTo s fd ⟨[v], []⟩ [("_law_script", v)]) ∧ ∀ base : Heap, K.In base → base.Ns mainGlobals mg → FnG l.prog w K mg base CX0 4 fa fd ["_law_script"] (spOf K (List.replicate 1 false) sem_law_k36) := by
  have e := hfa.symm.trans (PySem.W.mg_of X G a12)
  cases e
  have B : Bl mg := ⟨PySem.W.mg_none_of X G z_any, PySem.W.mg_none_of X G z_bool, PySem.W.mg_none_of X G z_int, PySem.W.mg_none_of X G z_isinstance, PySem.W.mg_none_of X G z_len, PySem.W.mg_none_of X G z_list, PySem.W.mg_none_of X G z_max, PySem.W.mg_none_of X G z_range, PySem.W.mg_none_of X G z_str, PySem.W.mg_none_of X G z_zip, ⟨_, PySem.W.mg_of X G g_FIGURES⟩, ⟨_, PySem.W.mg_of X G g_MOST_CASES⟩⟩
  have F0 := fun_mk (st := topS 11) l0 c0 k0
  have b0 := F0.binds (ps := ["_law_script", "_law_turn", "_law_many"]) fun _ _ _ _ _ _ us hl => match us, hl with | [_, _, _], _ => rfl
  have F1 := fun_mk (st := topS 12) l1 c1 k1
  have b1 := F1.binds (ps := ["_law_draws_here"]) fun _ _ _ _ _ _ us hl => match us, hl with | [_], _ => rfl
  have F2 := fun_mk (st := topS 17) l2 c2 k2
  have b2 := F2.binds (ps := ["_law_draws_here", "_law_many"]) fun _ _ _ _ _ _ us hl => match us, hl with | [_, _], _ => rfl
  have F3 := fun_mk (st := topS 16) l3 c3 k3
  have b3 := F3.binds (ps := ["_law_want_here"]) fun _ _ _ _ _ _ us hl => match us, hl with | [_], _ => rfl
  have F4 := fun_mk (st := topS 15) l4 c4 k4
  have b4 := F4.binds (ps := ["_law_draws_here", "_law_many"]) fun _ _ _ _ _ _ us hl => match us, hl with | [_, _], _ => rfl
  have F5 := fun_mk (st := topS 18) l5 c5 k5
  have b5 := F5.binds (ps := ["_law_names_here", "_law_content"]) fun _ _ _ _ _ _ us hl => match us, hl with | [_, _], _ => rfl
  have F6 := fun_mk (st := topS 6) l6 c6 k6
  have b6 := F6.binds (ps := ["names", "content"]) fun _ _ _ _ _ _ us hl => match us, hl with | [_, _], _ => rfl
  have F7 := fun_mk (st := topS 7) l7 c7 k7
  have b7 := F7.binds (ps := ["text", "figures"]) fun _ _ _ _ _ _ us hl => match us, hl with | [_, _], _ => rfl
  have F8 := fun_mk (st := topS 8) l8 c8 k8
  have b8 := F8.binds (ps := ["names", "text"]) fun _ _ _ _ _ _ us hl => match us, hl with | [_, _], _ => rfl
  have F9 := fun_mk (st := topS 9) l9 c9 k9
  have b9 := F9.binds (ps := ["names", "text"]) fun _ _ _ _ _ _ us hl => match us, hl with | [_, _], _ => rfl
  have F10 := fun_mk (st := topS 13) l10 c10 k10
  have b10 := F10.binds (ps := ["_law_found"]) fun _ _ _ _ _ _ us hl => match us, hl with | [_], _ => rfl
  have F11 := fun_mk (st := topS 14) l11 c11 k11
  have b11 := F11.binds (ps := ["_law_found", "_law_due"]) fun _ _ _ _ _ _ us hl => match us, hl with | [_, _], _ => rfl
  refine ⟨PySem.W.fnOf "law" "law" (defArgs (topS 19)) (defBody (topS 19)) (defScope (topS 19)) .none kV12 dc12 pm12 an12 cd12 ct12, fun s v => .of_eq rfl, fun base _ _ => ?_⟩
  have C__law_draws : Cal l.prog w K mg base 1 "_law_draws" ["_law_script", "_law_turn", "_law_many"] (spOf K (List.replicate 3 false) sem__law_draws_e473) := .mk' (ok__law_draws_e473 F0 ⟨B, trivial⟩) (PySem.W.mg_of X G a0) k0 b0
  have C__law_pop : Cal l.prog w K mg base 1 "_law_pop" ["_law_draws_here"] (spOf K [true] sem__law_pop) := .mk' (ok__law_pop F1 ⟨B, trivial⟩) (PySem.W.mg_of X G a1) k1 b1
  have C__law_names : Cal l.prog w K mg base 2 "_law_names" ["_law_draws_here", "_law_many"] (spOf K [true, false] sem__law_names) := .mk' (ok__law_names F2 ⟨B, C__law_pop⟩) (PySem.W.mg_of X G a2) k2 b2
  have C__law_cases : Cal l.prog w K mg base 1 "_law_cases" ["_law_want_here"] (spOf K (List.replicate 1 false) sem__law_cases) := .mk' (ok__law_cases F3 ⟨B, trivial⟩) (PySem.W.mg_of X G a3) k3 b3
  have C__law_want : Cal l.prog w K mg base 2 "_law_want" ["_law_draws_here", "_law_many"] (spOf K [true, false] sem__law_want_aecb) := .mk' (ok__law_want_aecb F4 ⟨B, C__law_pop, C__law_cases⟩) (PySem.W.mg_of X G a4) k4 b4
  have C__law_content_text : Cal l.prog w K mg base 1 "_law_content_text" ["_law_names_here", "_law_content"] (spOf K (List.replicate 2 false) sem__law_content_text) := .mk' (ok__law_content_text F5 ⟨B, trivial⟩) (PySem.W.mg_of X G a5) k5 b5
  have C_show_content : Cal l.prog w K mg base 1 "show_content" ["names", "content"] (spOf K (List.replicate 2 false) sem_show_content) := .mk' (ok_show_content F6 ⟨B, trivial⟩) (PySem.W.mg_of X G a6) k6 b6
  have C_read_number : Cal l.prog w K mg base 1 "read_number" ["text", "figures"] (spOf K (List.replicate 2 false) sem_read_number) := .mk' (ok_read_number F7 ⟨B, trivial⟩) (PySem.W.mg_of X G a7) k7 b7
  have C_content_of : Cal l.prog w K mg base 2 "content_of" ["names", "text"] (spOf K (List.replicate 2 false) sem_content_of) := .mk' (ok_content_of F8 ⟨B, C_read_number⟩) (PySem.W.mg_of X G a8) k8 b8
  have C_read_content : Cal l.prog w K mg base 3 "read_content" ["names", "text"] (spOf K (List.replicate 2 false) sem_read_content) := .mk' (ok_read_content F9 ⟨B, C_content_of⟩) (PySem.W.mg_of X G a9) k9 b9
  have C__law_whole : Cal l.prog w K mg base 1 "_law_whole" ["_law_found"] (spOf K (List.replicate 1 false) sem__law_whole) := .mk' (ok__law_whole F10 ⟨B, trivial⟩) (PySem.W.mg_of X G a10) k10 b10
  have C__law_numbers : Cal l.prog w K mg base 2 "_law_numbers" ["_law_found", "_law_due"] (spOf K (List.replicate 2 false) sem__law_numbers) := .mk' (ok__law_numbers F11 ⟨B, C__law_whole⟩) (PySem.W.mg_of X G a11) k11 b11
  exact ok_law_k36 (fun_mk (st := topS 19) l12 c12 k12) ⟨B, C__law_draws, C__law_pop, C__law_names, C__law_want, C__law_content_text, C_show_content, C_read_content, C__law_numbers⟩
theorem law_sp {K : PySem.W.Frag} (hL : LawTrue) (a : Addr) (ns : List Int) (hl : ns.length ≤ 63) (H : Hp) (hS : SqL K H a (ns.map V.int)) (Q : VK) (E : XK) (hQ : ∀ H', Q (.bl true) H') : spOf K (List.replicate 1 false) sem_law_k36 [.ref a] H Q E := by
  refine ⟨H, H, [.s ns], _, [], rfl, rfl, ⟨.refl _, .refl _, fun p o e => .inl e, .refl _, [], .cons (T1 := []) (.s hS) .nil, .nil, fun p hp => nomatch hp⟩, hL ns hl, fun F' H' v r => ?_⟩
  obtain rfl := df_bool (Rel.dp r)
  exact hQ H'
end K36

set_option Elab.async false
set_option linter.all false
set_option maxRecDepth 100000
set_option maxHeartbeats 4000000
namespace K36
open PySem L2 Dn
theorem nb_names {n : Nat} {ys : List Str} (hy : Names n ys) : nb (.list (ys.map .str)) 3 = true := by
  rw [nb_list, List.all_eq_true]
  intro d hd
  obtain ⟨z, hz, rfl⟩ := List.mem_map.mp hd
  unfold nb
  exact (hy.nm z hz).ok
theorem inner {n : Nat} (hn : n ≤ 4) {w : List Int} (hw : Want n w) (hc : casesI w ≤ 400) {ys : List Str} (hy : Names n ys) (s0 s1 s2 s4 s8 : Sl) (k : Int) :
    b_law_k36_1 [s0, s1, s2, .own (.v (.list (ys.map .str))), s4, .own (.v (rowD w)), .own (.v (.list [.list (ys.map .str), rowD w])), .own (.v (.str (textOf (piecesL w ys)))), s8, .own (.v (.int k)), .no]
     = some (.nx [s0, s1, s2, .own (.v (.list (ys.map .str))), s4, .own (.v (rowD w)), .own (.v (.list [.list (ys.map .str), rowD w])), .own (.v (.str (textOf (piecesL w ys)))), s8, .no, .no]) := by
  have h1 := read_content_ok hn hw hc hy
  have hwl := hw.len
  have h2 := numbers_ok w w (by omega)
  rw [decide_eq_true (rfl : w = w)] at h2
  have h3 : fNe [.list (ys.map .str), .list (ys.map .str)] = some (.bool false) := fNe_same 3 (by decide) (nb_names hy)
  have hb : w.length < 16777216 := by omega
  generalize ys.map PyData.str = YD at *
  generalize textOf (piecesL w ys) = TT at *
  simp [b_law_k36_1, h1, h2, h3, sV, hb]
theorem turn (m : Int) (hm : 1 ≤ m ∧ m ≤ 4) {ys : List Str} (hy : Names m.toNat ys) (ns ds : List Int) (k : Nat) : ∃ ds' : List Int,
    b_law_k36_2 [.own (.s ns), .own (.l (ds.map oi)), .own (.v (.int m)), .own (.v (.list (ys.map .str))), .own (.v (.int (k : Int))), .no, .no, .no, .no, .no, .no]
     = some (.nx [.own (.s ns), .own (.l (ds'.map oi)), .own (.v (.int m)), .own (.v (.list (ys.map .str))), .no, .no, .no, .no, .no, .no, .no]) := by
  obtain ⟨w0, d1, h1, hw0, hc0⟩ := want_ok ds m hm
  have hn : m.toNat ≤ 4 := by omega
  have hz : Want m.toNat (reps m.toNat 0) := ⟨by simp, fun x hx => by simp [reps] at hx; omega⟩
  have hcz : casesI (reps m.toNat 0) ≤ 400 := by
    have : casesI (reps m.toNat 0) = 1 := cases_zero _ fun x hx => by simp [reps] at hx; omega
    omega
  refine ⟨d1, ?_⟩
  have fin : ∀ w : List Int, Want m.toNat w → casesI w ≤ 400 → ∀ s4 : Sl, True := fun _ _ _ _ => trivial
  obtain ⟨w, hw, hc, hsel⟩ : ∃ w : List Int, Want m.toNat w ∧ casesI w ≤ 400 ∧ ∃ b : Bool, decide ((k : Int) = 5) = b ∧ atI [rowD w0, rowD (reps m.toNat 0)] (if b then 1 else 0) = some (rowD w) := by
    by_cases h5 : (k : Int) = 5
    · exact ⟨_, hz, hcz, true, decide_eq_true h5, rfl⟩
    · exact ⟨_, hw0, hc0, false, decide_eq_false h5, rfl⟩
  obtain ⟨b, hb5, hat⟩ := hsel
  have hs := show_ok hn hw hy
  have ht := ltext_ok hn hw hy
  have hin := fun s0 s1 s2 s4 s8 k => inner hn hw hc hy s0 s1 s2 s4 s8 k
  have hok := text_ok (piecesL w ys) (pieces_pc hw hy.nm)
  have hte : fNe [.str (textOf (piecesL w ys)), .str (textOf (piecesL w ys))] = some (.bool false) := by rw [(fEqS hok hok).2]; simp
  have hne : fNe [.list [.list (ys.map .str), rowD w], .list [.list (ys.map .str), rowD w]] = some (.bool false) := fNe_same 4 (by decide) (by
    rw [nb_list]
    simp only [List.all_cons, List.all_nil, Bool.and_true, nb_names hy, Bool.true_and]
    rw [nb_list, List.all_eq_true]
    intro d hd
    obtain ⟨z, hz, rfl⟩ := List.mem_map.mp hd
    unfold nb
    rfl)
  have hloop : ∀ s1 s8 : Sl, forL (.n 9) b_law_k36_1 ((List.range 2).map fun (k : Nat) => O.v (.int (k : Int))) [.own (.s ns), s1, .own (.v (.int m)), .own (.v (.list (ys.map .str))), .own (.v (.int (k : Int))), .own (.v (rowD w)), .own (.v (.list [.list (ys.map .str), rowD w])), .own (.v (.str (textOf (piecesL w ys)))), s8, .no, .no] = some (.nx [.own (.s ns), s1, .own (.v (.int m)), .own (.v (.list (ys.map .str))), .own (.v (.int (k : Int))), .own (.v (rowD w)), .own (.v (.list [.list (ys.map .str), rowD w])), .own (.v (.str (textOf (piecesL w ys)))), s8, .no, .no]) := fun s1 s8 => by
    obtain ⟨_, h, _⟩ := for_inv (tg := .n 9) (body := b_law_k36_1) (enc := fun (k : Nat) => O.v (.int (k : Int))) (E := fun (_ : Unit) => [.own (.s ns), s1, .own (.v (.int m)), .own (.v (.list (ys.map .str))), .own (.v (.int (k : Int))), .own (.v (rowD w)), .own (.v (.list [.list (ys.map .str), rowD w])), .own (.v (.str (textOf (piecesL w ys)))), s8, .no, .no])
      (fun _ _ => True) (all := List.range 2) (List.range 2) [] () rfl trivial (fun pre j post _ _ _ => ⟨(), _, rfl, hin _ _ _ _ _ _, trivial⟩)
    exact h
  have hyl := hy.len
  have hwl := hw.len
  have q1 : (ys.map PyData.str).length ≤ 16777216 := by rw [List.length_map]; omega
  have q2 : w.length ≤ 16777216 := by omega
  have q3 : 0 ≤ m := by omega
  have q4 : m < 1000 := by omega
  have hfi : fInt [.bool b] = some (.int (if b then 1 else 0)) := id rfl
  generalize ys.map PyData.str = YD at *
  generalize textOf (piecesL w ys) = TT at *
  simp [b_law_k36_2, h1, hb5, hfi, hat, hs, ht, hte, hne, hloop, q1, q2, q3, q4, fIsi, tyN, isiB]
theorem law_true : ∀ ns : List Int, ns.length ≤ 63 → sem_law_k36 [.s ns] = some (.v (.bool true), []) := by
  intro ns hl
  obtain ⟨d0, h0⟩ := draws_ok ns hl 2 60 (by decide) (by decide)
  obtain ⟨n, d1, h1⟩ := pop_ok d0
  obtain ⟨m, hm, hm1⟩ : ∃ m : Int, 1 + n % 4 = m ∧ 1 ≤ m ∧ m ≤ 4 := ⟨_, rfl, by omega, by omega⟩
  obtain ⟨ys, d2, hy, h2⟩ := names_ok d1 m hm1
  obtain ⟨d3, h3, -⟩ := for_inv (tg := .n 4) (body := b_law_k36_2) (enc := fun (k : Nat) => O.v (.int (k : Int))) (E := fun (ds : List Int) => [.own (.s ns), .own (.l (ds.map oi)), .own (.v (.int m)), .own (.v (.list (ys.map .str))), .no, .no, .no, .no, .no, .no, .no])
    (fun _ _ => True) (all := List.range 6) (List.range 6) [] d2 rfl trivial (fun pre k post ds _ _ => by
    obtain ⟨ds', h⟩ := turn m hm1 hy ns ds k
    exact ⟨ds', _, rfl, h, trivial⟩)
  have hto := toDs_so ys
  generalize ys.map PyData.str = YD at *
  generalize ys.map so' = YO at *
  simp [un_law_k36, m_law_k36, h0, h1, hm, h2, hto, h3]
end K36

set_option Elab.async false
set_option linter.all false
set_option maxRecDepth 100000
open PySem PySem.W PyProof.Rows
set_option maxHeartbeats 0 in
theorem PySem.Challenge.cw_packwants_k36_contents_as_texts_holds : PySem.Challenge.rw_packwants_k36_contents_as_texts.Holds := by
  w_on; o_law; k_head; (case hw => w_witness2)
  k_fill
  refine Dn.walkG (l := PySem.Challenge.rw_packwants_k36_contents_as_texts) (n := 63) (k := 4) (x := "_law_script") (C := fun _ => L2.CX0) (sp := fun w => Dn.spOf _ (List.replicate 1 false) Dn.sem_law_k36) rfl (by decide) rfl ⟨rfl, by decide, by decide⟩ (fun w h Y => PySem.W.kIn_of Y) ?F (fun _ _ a ns hl _ hS => K36.law_sp K36.law_true a ns hl _ hS _ _ fun _ => rfl) (fun _ _ _ _ _ h => h)
  case F =>
    intro w mg fa h KX G hmg
    refine' K36.all_mk KX G hmg ?a0 ?l0 ?c0 ?k0 ?a1 ?l1 ?c1 ?k1 ?a2 ?l2 ?c2 ?k2 ?a3 ?l3 ?c3 ?k3 ?a4 ?l4 ?c4 ?k4 ?a5 ?l5 ?c5 ?k5 ?a6 ?l6 ?c6 ?k6 ?a7 ?l7 ?c7 ?k7 ?a8 ?l8 ?c8 ?k8 ?a9 ?l9 ?c9 ?k9 ?a10 ?l10 ?c10 ?k10 ?a11 ?l11 ?c11 ?k11 ?a12 ?l12 ?c12 ?k12 ?z_any ?z_bool ?z_int ?z_isinstance ?z_len ?z_list ?z_max ?z_range ?z_str ?z_zip ?g_FIGURES ?g_MOST_CASES
    (case a0 => k_is)
    (case l0 => k_is)
    (case c0 => k_is)
    (case k0 => k_is)
    (case a1 => k_is)
    (case l1 => k_is)
    (case c1 => k_is)
    (case k1 => k_is)
    (case a2 => k_is)
    (case l2 => k_is)
    (case c2 => k_is)
    (case k2 => k_is)
    (case a3 => k_is)
    (case l3 => k_is)
    (case c3 => k_is)
    (case k3 => k_is)
    (case a4 => k_is)
    (case l4 => k_is)
    (case c4 => k_is)
    (case k4 => k_is)
    (case a5 => k_is)
    (case l5 => k_is)
    (case c5 => k_is)
    (case k5 => k_is)
    (case a6 => k_is)
    (case l6 => k_is)
    (case c6 => k_is)
    (case k6 => k_is)
    (case a7 => k_is)
    (case l7 => k_is)
    (case c7 => k_is)
    (case k7 => k_is)
    (case a8 => k_is)
    (case l8 => k_is)
    (case c8 => k_is)
    (case k8 => k_is)
    (case a9 => k_is)
    (case l9 => k_is)
    (case c9 => k_is)
    (case k9 => k_is)
    (case a10 => k_is)
    (case l10 => k_is)
    (case c10 => k_is)
    (case k10 => k_is)
    (case a11 => k_is)
    (case l11 => k_is)
    (case c11 => k_is)
    (case k11 => k_is)
    (case a12 => k_is)
    (case l12 => k_is)
    (case c12 => k_is)
    (case k12 => k_is)
    (case z_any => k_is)
    (case z_bool => k_is)
    (case z_int => k_is)
    (case z_isinstance => k_is)
    (case z_len => k_is)
    (case z_list => k_is)
    (case z_max => k_is)
    (case z_range => k_is)
    (case z_str => k_is)
    (case z_zip => k_is)
    (case g_FIGURES => k_is)
    (case g_MOST_CASES => k_is)
