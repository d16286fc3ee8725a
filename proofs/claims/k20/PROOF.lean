import PyProof.Rows.All
import Wide.All
import OpenK.AllK
import Wide.FinOn
import KE.KStateDown
import PyProof.ReprReads
import PyProof.ReprRoads
import HandS.ForMost
import HandS.WordsExc
import HandS.Defaults
import HandS.HeadEnd
import HandS.Small
import HandS.TryOnly
import HandS.TryMany
import HandS.Codes
import HandS.RaiseMore
import HandS.IsInst
import HandS.Conv
import HandS.TupAny
import PyProof.ReprLen
import HandS.Style
import PyProof.FitsInt
import HandS.Head0
import HandS.Head1
import HandS.Head2
import HandS.HeadHook1
import HandS.HeadHook2
import PySem.Challenge.RW_everymap_k20_labels_and_tracks
set_option Elab.async false
set_option linter.all false
set_option maxRecDepth 100000
set_option maxHeartbeats 2000000
namespace Hk
open PySem PySem.Spec PyProof.Rows
open L2
/-! ### a def's promise at a point where no repr is under way -/
structure FnG (P : Program) (w : World) (K : PySem.W.Frag) (mg : Str → Option Value) (base : Heap) (Z : CXT) (k : Nat) (f : Addr) (fd : FuncData) (ps : List Str) (sp : Sp) : Prop where
  lenG : ∀ xs G Y B, sp xs G Y B → xs.length = ps.length
  runG : ∀ (A : Around) (out : List Env) (s : Shared) (G : Hp) (ar : Args) (us : List Value) (xs : List V) (Y : VK) (B : XK), A.guards = some [] → Room k A → Env0 P w K mg base A out s G → BindsTo s fd ar (ps.zip us) →
    Vals xs us → sp xs G Y B → codeAny (model P w) A (.call (.ref f) ar) (CR Z out P w G s Y B) s
theorem FnG.ofOk {P : Program} {w : World} {K : PySem.W.Frag} {mg : Str → Option Value} {base : Heap} {Z : CXT} {k : Nat} {f : Addr} {fd : FuncData} {ps : List Str} {sp : Sp} (F : FnOk P w K mg base Z k f fd ps sp) : FnG P w K mg base Z k f fd ps sp :=
  ⟨F.len, fun A out s G ar us xs Y B _ hr e0 hb hv h => F.run A out s G ar us xs Y B hr e0 hb hv h⟩
/-- by its body -/
theorem fnG_of {Z : CXT} {P : Program} {w : World} {K : PySem.W.Frag} {mg : Str → Option Value} {base : Heap} {k : Nat} {f : Addr} {name qual : Str} {params : Arguments} {body : List Stmt} {scope : Scope} {dV kV doc pm cdv ct oc : Value} {an od : Option Addr}
    {osl : Array (Option Value)} {N ps : List Str} {sp : Sp} (lk : K.lookup f = some ⟨oc, od, .func (PySem.W.fnOf name qual params body scope dV kV doc pm an cdv ct), osl⟩) (hcd : PySem.W.codeIn K cdv qual = true) (S : FnScope N ps scope)
    (ln : ∀ xs G Y B, sp xs G Y B → xs.length = ps.length)
    (hb : ∀ (A : Around) (out : List Env) (s : Shared) (G : Hp) (xs : List V) (Y : VK) (B : XK), A.guards = some [] → Room k (A.deeper (envOfC qual scope s.heap.objs.size f cdv)) → sp xs G Y B →
      ∃ t, PSs (cxOf Z P w K mg base N qual scope f cdv A out s G B) body t ∧ t { nx := fun _ G' => Y .non G', rt := Y } (start N xs) G) :
    FnG P w K mg base Z (k + 1) f (PySem.W.fnOf name qual params body scope dV kV doc pm an cdv ct) ps sp := by
  refine ⟨ln, fun A out s G ar us xs Y B hg hr e0 hbd r hsp => ?_⟩
  have hl := ln _ _ _ _ hsp
  have KX : K.In s.heap := e0.mod.kin.keeps (fun b o e => (e0.bs b o e).1)
  have lim : s.heap.NoLimit := e0.mod.nolimit.keeps (fun b o e => (e0.bs b o e).1)
  have hkd : ∀ y ∈ ps.zip us, scope.names.lookup y.1 = some .local ∨ (scope.names.lookup y.1 = some .cell ∧ ((cellsFrom (s.heap.objs.size + 1) scope.names []).lookup y.1).isSome = true) := by
    rintro ⟨n, v⟩ hy
    rcases S.par n (List.of_mem_zip hy).1 with z | z
    · exact .inl z
    · exact .inr ⟨z, PySem.W.cellsFrom_some _ _ _ (.inl z)⟩
  refine codeAny_call_function hr.depth (KX _ _ lk) rfl S.co S.gen rfl (PySem.W.codeRec_of KX hcd) (hbd _ _ _ _ ?_)
  refine wpAny_newFunctionEnv_cells S.kind hkd (fun env he s1 x => ?_)
  subst he
  refine ⟨lim.keeps x.toInCall.keep, codeAny_func ?_⟩
  obtain ⟨t, ht, hq⟩ := hb A out s G xs Y B hg (hr.deeper _) hsp
  have I : Inv (cxOf Z P w K mg base N qual scope f cdv A out s G B) [] (start N xs) G s1 := inv_start S hr.hd e0 hl r x
  refine wpAny_mono (ht.run [] s1 (start N xs) G _ I hq) (fun fl s' hs => ?_) (fun _ _ hs => hs)
  cases fl with
  | ret u =>
    obtain ⟨v, σ', G', J, rv, z⟩ := hs
    exact ⟨v, G', J.os, J.bare, J.base, J.hok, rv, z⟩
  | next =>
    obtain ⟨σ', G', J, z⟩ := hs
    exact ⟨V.non, G', J.os, J.bare, J.base, J.hok, rfl, z⟩
  | brk =>
    obtain ⟨_, _, _, z⟩ := hs
    exact False.elim z
  | cont =>
    obtain ⟨_, _, _, z⟩ := hs
    exact False.elim z
theorem deeper_guards (A : Around) (env : Env) : (A.deeper env).guards = A.guards := rfl

/-! ### what the text says of a def, what a def is worth, by its name -/
/-- the def x of the text stands where the module's name x points -/
def Src (K : PySem.W.Frag) (mg : Str → Option Value) (x : Str) (st : Stmt) : Prop :=
  ∃ (f : Addr) (fd : FuncData), mg x = some (.ref f) ∧ FunD K x x (defArgs st) (defBody st) (defScope st) [] [] f fd
/-- how arguments come to the parameters: one each -/
def BindsE (fd : FuncData) (ps : List Str) : Prop := ∀ (s : Shared) (us : List Value), us.length = ps.length → BindsTo s fd ⟨us, []⟩ (ps.zip us)
theorem BindsE.b {K : PySem.W.Frag} {fd : FuncData} {ps : List Str} (h : BindsE fd ps) : Binds K fd ps [] := fun s us _ hl => by
  rw [List.append_nil] at hl ⊢
  exact h s us hl
/-- the def x keeps the promise sp -/
def Has (P : Program) (w : World) (K : PySem.W.Frag) (mg : Str → Option Value) (base : Heap) (Z : CXT) (x : Str) (k : Nat) (ps : List Str) (sp : Sp) : Prop :=
  ∃ (f : Addr) (fd : FuncData), mg x = some (.ref f) ∧ PySem.W.keepIn K (.ref f) = true ∧ BindsE fd ps ∧ FnOk P w K mg base Z k f fd ps sp
def HasG (P : Program) (w : World) (K : PySem.W.Frag) (mg : Str → Option Value) (base : Heap) (Z : CXT) (x : Str) (k : Nat) (ps : List Str) (sp : Sp) : Prop :=
  ∃ (f : Addr) (fd : FuncData), mg x = some (.ref f) ∧ PySem.W.keepIn K (.ref f) = true ∧ BindsE fd ps ∧ FnG P w K mg base Z k f fd ps sp
section
variable {P : Program} {w : World} {K : PySem.W.Frag} {mg : Str → Option Value} {base : Heap} {Z : CXT} {x : Str} {k : Nat} {ps N : List Str} {sp : Sp} {st : Stmt}
theorem Has.g (h : Has P w K mg base Z x k ps sp) : HasG P w K mg base Z x k ps sp := by
  obtain ⟨f, fd, a, b, c, F⟩ := h
  exact ⟨f, fd, a, b, c, .ofOk F⟩
/-- THE RULE: no exception leaves the def -/
theorem Src.has (S : Src K mg x st) (sc : FnScope N ps (defScope st))
    (bd : ∀ (kV doc pm : Value) (an : Option Addr) (cdv ct : Value) (us : List Value), us.length = ps.length → bindArgs (PySem.W.fnOf x x (defArgs st) (defBody st) (defScope st) .none kV doc pm an cdv ct) ⟨us, []⟩ = pure (ps.zip us))
    (ln : ∀ vs H Q E, sp vs H Q E → vs.length = ps.length)
    (body : ∀ (f : Addr) (cdv : Value) (A : Around) (out : List Env) (s : Shared) (H : Hp) (vs : List V) (Q : VK) (E : XK), Room k (A.deeper (envOfC x (defScope st) s.heap.objs.size f cdv)) → sp vs H Q E →
      ∃ t, PSs (cxOf CX0 P w K mg base N x (defScope st) f cdv A out s H E).nox (defBody st) t ∧ t { nx := fun _ H' => Q .non H', rt := Q } (start N vs) H) : Has P w K mg base CX0 x (k + 1) ps sp := by
  obtain ⟨f, fd, gm, F⟩ := S
  refine ⟨f, fd, gm, F.kp, F.bindsA bd, ?_⟩
  refine F.ok sc ln (fun cdv A out s H vs Q E hr h => ?_)
  obtain ⟨t, h1, h2⟩ := body f cdv A out s H vs Q E hr h
  exact ⟨t, h1.nox, h2⟩
/-- THE RULE: exceptions may leave the def -/
theorem Src.hasX (S : Src K mg x st) (sc : FnScope N ps (defScope st))
    (bd : ∀ (kV doc pm : Value) (an : Option Addr) (cdv ct : Value) (us : List Value), us.length = ps.length → bindArgs (PySem.W.fnOf x x (defArgs st) (defBody st) (defScope st) .none kV doc pm an cdv ct) ⟨us, []⟩ = pure (ps.zip us))
    (ln : ∀ vs H Q E, sp vs H Q E → vs.length = ps.length)
    (body : ∀ (f : Addr) (cdv : Value) (A : Around) (out : List Env) (s : Shared) (H : Hp) (vs : List V) (Q : VK) (E : XK), Room k (A.deeper (envOfC x (defScope st) s.heap.objs.size f cdv)) → sp vs H Q E →
      ∃ t, PSs (cxOf (L2.CX P w) P w K mg base N x (defScope st) f cdv A out s H E) (defBody st) t ∧ t { nx := fun _ H' => Q .non H', rt := Q } (start N vs) H) : Has P w K mg base (L2.CX P w) x (k + 1) ps sp := by
  obtain ⟨f, fd, gm, F⟩ := S
  exact ⟨f, fd, gm, F.kp, F.bindsA bd, F.ok sc ln (fun cdv A out s H vs Q E hr h => body f cdv A out s H vs Q E hr h)⟩
/-- THE RULE where repr is asked -/
theorem Src.hasG (S : Src K mg x st) (sc : FnScope N ps (defScope st))
    (bd : ∀ (kV doc pm : Value) (an : Option Addr) (cdv ct : Value) (us : List Value), us.length = ps.length → bindArgs (PySem.W.fnOf x x (defArgs st) (defBody st) (defScope st) .none kV doc pm an cdv ct) ⟨us, []⟩ = pure (ps.zip us))
    (ln : ∀ vs H Q E, sp vs H Q E → vs.length = ps.length)
    (body : ∀ (f : Addr) (cdv : Value) (A : Around) (out : List Env) (s : Shared) (H : Hp) (vs : List V) (Q : VK) (E : XK), A.guards = some [] → Room k (A.deeper (envOfC x (defScope st) s.heap.objs.size f cdv)) → sp vs H Q E →
      ∃ t, PSs (cxOf CX0 P w K mg base N x (defScope st) f cdv A out s H E).nox (defBody st) t ∧ t { nx := fun _ H' => Q .non H', rt := Q } (start N vs) H) : HasG P w K mg base CX0 x (k + 1) ps sp := by
  obtain ⟨f, fd, gm, F⟩ := S
  refine ⟨f, fd, gm, F.kp, F.bindsA bd, ?_⟩
  obtain ⟨oc, od, dV, kV, doc, pm, an, cdv, ct, osl, rfl, lk, hcd, _, _⟩ := F.ex
  refine fnG_of lk hcd sc ln (fun A out s H vs Q E hg hr h => ?_)
  obtain ⟨t, h1, h2⟩ := body f cdv A out s H vs Q E hg hr h
  exact ⟨t, h1.nox, h2⟩
end
section
variable {X : Cx} {Z : CXT} {k : Nat} {ps : List Str} {sp : Sp} {E : XK} {x : Str} {p pos : Pos} {e : Expr} {es : List Expr} {t : TA}
/-- x(e, ..) -/
theorem pe_has (h : Has X.prog X.w X.K X.mg X.base Z x k ps sp) (hr : Room k X.A) (hg : Gl X x) (hx : Passes Z X E) (ha : PA X (e :: es) t) (hdb : (x == ("__debug__" : Str)) = false := by decide)
    (he : starEach (e :: es) X.env = (false, eval e X.env) :: starEach es X.env := by rfl) (hpl : (backTo pos (starEach es X.env)).any (·.1) = false := by rfl) : PE X (.Call (.Name x p) (e :: es) [] pos) (tCall sp [] E t) := by
  obtain ⟨f, fd, a, b, c, F⟩ := h
  exact pe_call F hr hg a b c.b .nil hx ha hdb he hpl
theorem pe_has0 (h : Has X.prog X.w X.K X.mg X.base Z x k ps sp) (hr : Room k X.A) (hg : Gl X x) (hx : Passes Z X E) (hdb : (x == ("__debug__" : Str)) = false := by decide) : PE X (.Call (.Name x p) [] [] pos) (tCall sp [] E tNil) := by
  obtain ⟨f, fd, a, b, c, F⟩ := h
  exact pe_call0 F hr hg a b c.b .nil hx hdb
/-- the same of a def that asks repr -/
theorem pe_hasG (h : HasG X.prog X.w X.K X.mg X.base Z x k ps sp) (gd : X.A.guards = some []) (hr : Room k X.A) (hg : Gl X x) (hx : Passes Z X E) (ha : PA X (e :: es) t) (hdb : (x == ("__debug__" : Str)) = false := by decide)
    (he : starEach (e :: es) X.env = (false, eval e X.env) :: starEach es X.env := by rfl) (hpl : (backTo pos (starEach es X.env)).any (·.1) = false := by rfl) : PE X (.Call (.Name x p) (e :: es) [] pos) (tCall sp [] E t) := by
  obtain ⟨f, fd, a, b, c, F⟩ := h
  refine ⟨fun pins s σ H Q I hw => ?_⟩
  refine wpAny_Call_Name_kw (ld_glob I hg a ?_ hdb)
  refine PySem.W.callWith_K (h₀ := X.base) I.ok.mod.kin b (thn (ha.run pos pins s σ H _ I hw) fun us s1 ⟨vs, H1, I1, r, z⟩ => ⟨I1.kIn, ?_⟩) he hpl
  have r2 : Vals (vs ++ []) (us ++ []) := r.append .nil
  have hl : (us ++ []).length = ps.length := by rw [← r2.length]; exact F.lenG _ _ _ _ z
  refine wpAny_call (codeAny_mono (F.runG X.A X.stack s1 H1 ⟨us, []⟩ (us ++ []) (vs ++ []) Q E gd hr I1.env0 (c.b (K := X.K) s1 us I1.kIn hl) r2 z) fun r s' hq => ?_)
  cases r with
  | error ev => exact hx pins σ H1 s1 ev s' I1 hq
  | ok fl =>
    cases fl with
    | ret u => exact I1.after hq
    | next | brk | cont => exact False.elim hq
end
end Hk
set_option maxRecDepth 100000
set_option maxHeartbeats 2000000
namespace Hk
open PySem PySem.Spec PyProof.Rows
open L2
theorem law_callG {P : Program} {w : World} {K : PySem.W.Frag} {mg mb : Str → Option Value} {Z : CXT} {k : Nat} {fa a : Addr} {x : Str} {sp : Sp} {z : Shared} {vs : List Value} {ns : List Int}
    (KX : K.In z.heap) (hns : z.heap.Ns mainGlobals mg) (hb : z.heap.Ns builtinsNs mb) (hbb : ∀ y : Str, y ≠ "__name__" → mb y = bootBuiltins y) (lim : z.heap.NoLimit) (hg : z.gens = #[])
    (ha : z.heap.get? a = some { cls := .type "list", data := .seq vs.toArray }) (hi : IntsAre vs ns) (hl : ns.length ≤ sizeLine) (hr : Room k callerA)
    (F : ∀ base : Heap, K.In base → base.Ns mainGlobals mg → ∃ fd : FuncData, FnG P w K mg base Z k fa fd [x] sp ∧ ∀ (s : Shared) (u : Value), BindsTo s fd ⟨[u], []⟩ [(x, u)])
    (hsp : ∀ H : Hp, Only H → SqL K H a (ns.map V.int) → sp [.ref a] H (fun v _ => v = .bl true) fun _ _ _ => False)
    (hZ : ∀ H e s', Z [] H z (fun _ _ _ => False) e s' → False) :
    codeAny (model P w) callerA (.call (.ref fa) ⟨[.ref a], []⟩) (fun r s' => r = .ok (.ret (.bool true)) ∧ OldK z.heap s'.heap ∧ s'.os = z.os ∧ AllBare s'.gens) z := by
  have rv := vals_ints hi
  have lenV := hi.length
  have core : ∀ H : Hp, Only H → SqL K H a (ns.map V.int) → HOk P w H z.heap → (∀ b, H b ≠ none → b = a) → (H a ≠ none → K.lookup a = none) →
      codeAny (model P w) callerA (.call (.ref fa) ⟨[.ref a], []⟩) (fun r s' => r = .ok (.ret (.bool true)) ∧ OldK z.heap s'.heap ∧ s'.os = z.os ∧ AllBare s'.gens) z := by
    intro H hO hS hok hA hK
    have baseOf : ∀ {b : Addr} {o : Obj}, z.heap.get? b = some o → H b = none → (hidT z.heap H).get? b = some o := fun e n => hidT_get e n
    have isA : ∀ {b : Addr} {u : HO}, H b = some u → b = a := fun {b u} q => hA b (fun e => by rw [q] at e; cases e)
    have noA : ∀ {b : Addr} {o : Obj} {es : Array DictEntry} {ep : Nat}, z.heap.get? b = some o → o.data = .dict es ep → H b = none := by
      intro b o es ep e d
      cases q : H b with
      | none => rfl
      | some u =>
        obtain rfl := isA q
        rw [ha] at e; cases e
        cases (show Data.seq vs.toArray _ = Data.dict es ep from d)
    have nsK : ∀ {b : Addr} {m : Str → Option Value}, z.heap.Ns b m → (hidT z.heap H).Ns b m := fun ⟨o, es, ep, e, d, r⟩ => ⟨o, es, ep, baseOf e (noA e d), d, r⟩
    have hKb : K.In (hidT z.heap H) := fun b o e => baseOf (KX b o e) (by
      cases q : H b with
      | none => rfl
      | some u =>
        obtain rfl := isA q
        rw [hK (fun e => by rw [q] at e; cases e)] at e; cases e)
    have hM : Mod K mg (hidT z.heap H) := ⟨hKb, nsK hns, ⟨mb, nsK hb, hbb⟩, let ⟨mc, h1, h2⟩ := lim; ⟨mc, nsK h1, h2⟩⟩
    have none_in : ∀ b : Addr, b ∉ ([] : List Addr) := fun b => by simp
    have e0 : Env0 P w K mg (hidT z.heap H) callerA [] z H := ⟨rfl, hM, fun b o e => of_hidT e, Nat.le_of_eq (hidT_size _ _), trivial, fun b hb => absurd (show b ∈ ([] : List Addr) from hb) (none_in b), hok, .of_eq hg⟩
    obtain ⟨fd, FG, hbd⟩ := F _ hKb (nsK hns)
    refine codeAny_mono (FG.runG callerA [] z H ⟨[.ref a], []⟩ [.ref a] [.ref a] _ _ rfl hr e0 (hbd z (.ref a)) (.cons rfl .nil) (hsp H hO hS)) fun r s' h => ?_
    cases r with
    | error e => exact (hZ H e s' h).elim
    | ok fl =>
      cases fl with
      | next | brk | cont => exact False.elim h
      | ret u =>
        obtain ⟨v, H', os, bare, un, hok', r', q⟩ := h
        obtain rfl : v = .bl true := q
        obtain rfl : u = Value.bool true := r'
        refine ⟨rfl, OldK.of_keep fun b o e => ?_, os, bare⟩
        cases q : H b with
        | none => exact un.keep b o e q (fun y => absurd (show b ∈ ([] : List Addr) from y) (none_in b)) (none_in b)
        | some u =>
          rcases hO b with y | ⟨ob, xs, y⟩
          · rw [q] at y; cases y
          · obtain ⟨e1, _⟩ := hok b _ y
            obtain ⟨e2, _⟩ := hok' b _ (un.frzs b ob _ y)
            rw [e] at e1; cases e1
            exact e2
  cases hk : K.lookup a with
  | some o =>
    have e := KX a o hk
    rw [ha] at e
    cases e
    exact core (fun _ => none) (fun _ => .inl rfl) (.inr ⟨_, vs.toArray, _, hk, rfl, rfl, rfl, by rw [List.size_toArray, lenV]; exact hl, by simpa using rv⟩) (fun b u y => nomatch (show (none : Option HO) = some u from y)) (fun b y => absurd rfl y) (fun y => absurd rfl y)
  | none =>
    refine core (fun b => if b = a then some (.frz { cls := .type "list", data := .seq vs.toArray } (.lst (ns.map V.int))) else none) (fun b => ?_) (.inl (.inr ⟨{ cls := .type "list", data := .seq vs.toArray }, if_pos rfl⟩)) (fun b u y => ?_) (fun b y => ?_) (fun _ => hk)
    · by_cases hb : b = a
      · exact .inr ⟨_, _, if_pos hb⟩
      · exact .inl (if_neg hb)
    · by_cases hb : b = a
      · cases (if_pos hb).symm.trans y
        subst hb
        exact ⟨ha, by rw [List.length_map]; exact hl, vs, _, rv, ha⟩
      · cases (if_neg hb).symm.trans y
    · by_cases hb : b = a
      · exact hb
      · exact absurd (if_neg hb) y
/-- the law over a head by facts -/
theorem walk_ofG {l : PySem.W.OpenLaw} {n k : Nat} {q : Program} {loose : List Str} {XP : (Str → Option Value) → Heap → Prop} {YP : World → Heap → Prop} {d : DefRec} {Z : CXT} {x : Str}
    (hn : l.most = some n) (hn2 : n ≤ sizeLine) (hdf : d.params.defaults = []) (hr : Room k callerA)
    (F : ∀ (w : World) (mg : Str → Option Value) (fa : Addr) (h : Heap), YP w h → h.Ns mainGlobals mg → mg d.name = some (.ref fa) →
      ∃ (K : PySem.W.Frag) (sp : Sp), K.In h ∧
        (∀ (H : Hp) (a : Addr) (ns : List Int), ns.length ≤ n → Only H → SqL K H a (ns.map V.int) → sp [.ref a] H (fun v _ => v = .bl true) fun _ _ _ => False) ∧
        ∀ base : Heap, K.In base → base.Ns mainGlobals mg → ∃ fd : FuncData, FnG l.prog w K mg base Z k fa fd [x] sp ∧ ∀ (s : Shared) (u : Value), BindsTo s fd ⟨[u], []⟩ [(x, u)])
    (hZ : ∀ (H : Hp) (s : Shared) (e : Value) (s' : Shared), Z [] H s (fun _ _ _ => False) e s' → False) :
    PySem.W.WalkO q loose XP YP l.row.toRowW d [] (fun f vs => PySem.call f vs) := by
  refine Att.attach_call hn hdf (fun w s₀ z mg mb fa o pm cd doc a vs ns G Y ho hd hcd hmg hobj hints hlen hg => ?_)
  obtain ⟨K, sp, KX, hsp, hF⟩ := F w mg fa _ Y G.T.g hmg
  exact law_callG KX G.T.g G.T.b G.T.builtins G.T.nolimit hg hobj hints (Nat.le_trans hlen hn2) hr hF (fun H hO hS => hsp H a ns hlen hO hS) (fun H e s' => hZ H z e s')
end Hk
set_option maxRecDepth 100000
set_option maxHeartbeats 2000000
namespace Hk
open PySem PySem.Spec PyProof.Rows
open L2
/-! ### heaps -/
/-- tuples stay (they do under whatever a program does) -/
def KeepT (H H' : Hp) : Prop := (∀ a xs, H a = some (.tup xs) → H' a = some (.tup xs)) ∧ ∀ a o u, H a = some (.frz o u) → H' a = some (.frz o u)
theorem KeepT.refl (H : Hp) : KeepT H H := ⟨fun _ _ h => h, fun _ _ _ h => h⟩
theorem KeepT.trans {H H1 H2 : Hp} (a : KeepT H H1) (b : KeepT H1 H2) : KeepT H H2 := ⟨fun c xs h => b.1 c xs (a.1 c xs h), fun c o u h => b.2 c o u (a.2 c o u h)⟩
theorem Same.kt {H H' : Hp} (s : Same H H') : KeepT H H' := ⟨fun a xs h => s a _ h, fun a o u h => s a _ h⟩
theorem sameUpd {H : Hp} {p : Addr} {o : HO} (h : H p = none) : Same H (upd H p o) := fun b x e => by
  rw [upd_ne (ne_of_none e h)]; exact e
theorem ktUpd {H : Hp} {p : Addr} {xs : List V} {o : HO} (h : H p = some (.lst xs)) : KeepT H (upd H p o) := by
  refine ⟨fun a ys e => ?_, fun a ob u e => ?_⟩
  · rw [upd_ne (ne_of e h (fun z => nomatch z))]; exact e
  · rw [upd_ne (ne_of e h (fun z => nomatch z))]; exact e
/-- all but the object at b stays -/
def Keep1 (b : Addr) (H H' : Hp) : Prop := ∀ a o, a ≠ b → H a = some o → H' a = some o
theorem Keep1.refl (b : Addr) (H : Hp) : Keep1 b H H := fun _ _ _ h => h
theorem Keep1.trans {b : Addr} {H H1 H2 : Hp} (x : Keep1 b H H1) (y : Keep1 b H1 H2) : Keep1 b H H2 := fun a o n h => y a o n (x a o n h)
theorem Same.k1 {b : Addr} {H H' : Hp} (s : Same H H') : Keep1 b H H' := fun a o _ h => s a o h
theorem k1Upd {H : Hp} {b : Addr} {o : HO} : Keep1 b H (upd H b o) := fun a u n h => by rw [upd_ne n]; exact h
theorem Keep1.kt {b : Addr} {xs : List V} {H H' : Hp} (s : Keep1 b H H') (h : H b = some (.lst xs)) : KeepT H H' :=
  ⟨fun a ys e => s a _ (ne_of e h (fun z => nomatch z)) e, fun a o u e => s a _ (ne_of e h (fun z => nomatch z)) e⟩
theorem SqT.kt {K : PySem.W.Frag} {H H' : Hp} {a : Addr} {xs : List V} (s : KeepT H H') (h : SqT K H a xs) : SqT K H' a xs := by
  rcases h with (h | ⟨o, h⟩) | h
  · exact .inl (.inl (s.1 a xs h))
  · exact .inl (.inr ⟨o, s.2 a o _ h⟩)
  · exact .inr h
/-! ### data without lists -/
mutual
inductive Im (K : PySem.W.Frag) (H : Hp) : V → PyData → Prop
  | non : Im K H .non .none
  | bl (b : Bool) : Im K H (.bl b) (.bool b)
  | int (i : Int) : Im K H (.int i) (.int i)
  | str (x : Str) : Im K H (.str x) (.str x)
  | tup {a : Addr} {xs : List V} {ds : List PyData} (h : SqT K H a xs) (r : Ims K H xs ds) : Im K H (.ref a) (.tuple ds)
inductive Ims (K : PySem.W.Frag) (H : Hp) : List V → List PyData → Prop
  | nil : Ims K H [] []
  | cons {v : V} {vs : List V} {d : PyData} {ds : List PyData} (h : Im K H v d) (r : Ims K H vs ds) : Ims K H (v :: vs) (d :: ds)
end
section
variable {K : PySem.W.Frag} {H H' : Hp}
mutual
theorem Im.kt (s : KeepT H H') : ∀ {v : V} {d : PyData}, Im K H v d → Im K H' v d
  | _, _, .non => .non
  | _, _, .bl b => .bl b
  | _, _, .int i => .int i
  | _, _, .str x => .str x
  | _, _, .tup h r => .tup (SqT.kt s h) (Ims.kt s r)
theorem Ims.kt (s : KeepT H H') : ∀ {vs : List V} {ds : List PyData}, Ims K H vs ds → Ims K H' vs ds
  | _, _, .nil => .nil
  | _, _, .cons h r => .cons (Im.kt s h) (Ims.kt s r)
end
mutual
theorem Im.dp : ∀ {v : V} {d : PyData}, Im K H v d → Dp K H v d
  | _, _, .non => .non
  | _, _, .bl b => .bl b
  | _, _, .int i => .int i
  | _, _, .str x => .str x
  | _, _, .tup h r => .tup h (Ims.dp r)
theorem Ims.dp : ∀ {vs : List V} {ds : List PyData}, Ims K H vs ds → DpAll K H vs ds
  | _, _, .nil => .nil
  | _, _, .cons h r => .cons (Im.dp h) (Ims.dp r)
end
theorem Ims.len : ∀ {vs : List V} {ds : List PyData}, Ims K H vs ds → vs.length = ds.length
  | _, _, .nil => rfl
  | _, _, .cons _ r => congrArg (· + 1) (Ims.len r)
theorem Ims.app : ∀ {vs ws : List V} {ds es : List PyData}, Ims K H vs ds → Ims K H ws es → Ims K H (vs ++ ws) (ds ++ es)
  | _, _, _, _, .nil, s => s
  | _, _, _, _, .cons h r, s => .cons h (Ims.app r s)
theorem Ims.one {v : V} {d : PyData} (h : Im K H v d) : Ims K H [v] [d] := .cons h .nil
theorem Ims.get : ∀ {vs : List V} {ds : List PyData} {i : Nat} {v : V}, Ims K H vs ds → vs[i]? = some v → ∃ d, ds[i]? = some d ∧ Im K H v d
  | _, _, 0, v, .cons h _, e => ⟨_, rfl, by obtain rfl := Option.some.inj e; exact h⟩
  | _, _, i + 1, v, .cons _ r, e => Ims.get (i := i) r e
  | _, _, _, _, .nil, e => by simp at e
theorem Ims.get' : ∀ {vs : List V} {ds : List PyData} {i : Nat} {d : PyData}, Ims K H vs ds → ds[i]? = some d → ∃ v, vs[i]? = some v ∧ Im K H v d
  | _, _, 0, v, .cons h _, e => ⟨_, rfl, by obtain rfl := Option.some.inj e; exact h⟩
  | _, _, i + 1, v, .cons _ r, e => Ims.get' (i := i) r e
  | _, _, _, _, .nil, e => by simp at e
theorem Ims.drop : ∀ {vs : List V} {ds : List PyData} (n : Nat), Ims K H vs ds → Ims K H (vs.drop n) (ds.drop n)
  | _, _, 0, r => r
  | _, _, _ + 1, .nil => .nil
  | _, _, n + 1, .cons _ r => Ims.drop n r
theorem Ims.take : ∀ {vs : List V} {ds : List PyData} (n : Nat), Ims K H vs ds → Ims K H (vs.take n) (ds.take n)
  | _, _, 0, _ => .nil
  | _, _, _ + 1, .nil => .nil
  | _, _, n + 1, .cons h r => .cons h (Ims.take n r)
theorem Ims.ints : ∀ ns : List Int, Ims K H (ns.map V.int) (ns.map PyData.int)
  | [] => .nil
  | n :: ns => .cons (.int n) (Ims.ints ns)
theorem Ims.intsOf : ∀ {vs : List V} {ns : List Int}, Ims K H vs (ns.map PyData.int) → vs = ns.map V.int
  | _, [], .nil => rfl
  | _, n :: ns, .cons h r => by
    cases h
    rw [Ims.intsOf r]; rfl
end
/-! ### data that may be shown and compared -/
def okd (d : PyData) : Bool := SeqAt.shaped d && (d.showable && (d.leavesShort 13 && decide (d.weight ≤ 1048576)))
section
variable {d : PyData}
theorem okd.shaped (h : okd d = true) : SeqAt.shaped d = true := (Bool.and_eq_true_iff.mp h).1
theorem okd.showable (h : okd d = true) : d.showable = true := (Bool.and_eq_true_iff.mp (Bool.and_eq_true_iff.mp h).2).1
theorem okd.dict (h : okd d = true) : d.hasDict = false := PyData.hasDict_of_canLay d (SeqAt.canLay_of_shaped (okd.shaped h))
theorem okd.short (h : okd d = true) : d.shown.length ≤ sizeLine := by
  have h1 := Bool.and_eq_true_iff.mp (Bool.and_eq_true_iff.mp (Bool.and_eq_true_iff.mp h).2).2
  exact PyData.shown_fits (B := 13) (by decide) (by decide) h1.1 (Nat.le_trans (of_decide_eq_true h1.2) (by decide))
theorem okd.refl (h : okd d = true) : PyData.eqv d d = true := SeqAt.eqv_refl d (SeqAt.canLay_of_shaped (okd.shaped h))
end
section
variable {X : Cx}
/-- repr(x), x data -/
def rRepr (K : PySem.W.Frag) : List V → Hp → VK → Prop := fun xs H Q => ∃ x d, xs = [x] ∧ Dp K H x d ∧ okd d = true ∧ Q (.str d.shown) H
theorem call_reprD (gd : X.A.guards = some []) (hu : X.A.units + 66 < cLine) : CallR X (.builtin "repr") (rRepr X.K) := by
  intro pins s σ H xs us Q I r h
  obtain ⟨x, d, rfl, hd, ok, q⟩ := h
  obtain ⟨u, rfl, ru⟩ := vals1 r
  have hdep : d.depth ≤ 64 := SeqAt.depth_of_shaped (okd.shaped ok)
  have big : ∀ a : Addr, x = .ref a → wpAny (model X.prog X.w) X.A (call (.builtin "repr") [u]) (EP X pins σ Q) X.xe s := by
    rintro a rfl
    obtain ⟨as, rd⟩ := Dp.reads I d _ _ hd ru
    obtain rfl : u = Value.ref a := ru
    exact repr_of_reads' rd (okd.showable ok) (PyData.noDict_hsm (okd.dict ok)) gd (by omega) (fun _ _ e => e) (fun h' tu tk hk => ⟨.str d.shown, H, I.kept hk, ⟨tu, rfl⟩, q⟩) (okd.short ok)
  cases hd with
  | non =>
    obtain rfl : u = Value.none := ru
    exact PySem.P.repr_of_none ⟨.str _, H, I.tok _, ⟨_, rfl⟩, q⟩
  | bl b =>
    obtain rfl : u = Value.bool b := ru
    refine PySem.P.repr_of_bool ⟨.str (PyData.bool b).shown, H, I.tok _, ⟨s.toks, ?_⟩, q⟩
    cases b <;> rfl
  | int i =>
    obtain ⟨t, rfl⟩ := ru
    exact PySem.P.repr_of_int (of_decide_eq_true (okd.showable ok)) ⟨.str _, H, I.tok _, ⟨_, rfl⟩, q⟩
  | str z =>
    obtain ⟨t, rfl⟩ := ru
    exact PySem.P.repr_of_str ⟨.str _, H, I.tok _, ⟨_, rfl⟩, q⟩ (okd.short ok)
  | lst _ _ => exact big _ rfl
  | tup _ _ => exact big _ rfl
/-- xs[i] of a list, for xs[i] op= e -/
def rGetL (K : PySem.W.Frag) : V → V → Hp → VK → Prop := fun o i H Q => ∃ (p : Addr) (xs : List V) (k : Nat) (v : V), o = .ref p ∧ i = .int k ∧ SqL K H p xs ∧ xs[k]? = some v ∧ Q v H
theorem get_list : PGet X (rGetL X.K) := by
  intro pins s σ H o i ov iv Q I ro ri h
  obtain ⟨p, xs, k, v, rfl, rfl, hS, hv, q⟩ := h
  obtain rfl : ov = Value.ref p := ro
  obtain ⟨t, rfl⟩ := ri
  obtain ⟨its, rv, pl, hz⟩ := I.list hS
  obtain ⟨u, eu, ru⟩ := rv.get hv
  have hk : k < xs.length := (List.getElem?_eq_some_iff.mp hv).1
  have hn := line63
  exact wpAny_getItem_list pl.isList (Int.natCast_nonneg k) (by omega) (by simpa using eu) ⟨v, H, I, ru, q⟩
/-- raise C(), C an own class over ValueError -/
theorem pmk_own0 {C : Addr} {bmB : List Value} {B newId initId : String} {x : Str} {p pos : Pos} (F : ExcBaseFacts B newId initId bmB) (q : PySem.W.excIn X.K C bmB newId = true) (gC : X.mg x = some (.ref C)) (kC : PySem.W.keepIn X.K (.ref C) = true)
    (r : Raises X (.ref C)) (hg : Gl X x) (hdb : (x == ("__debug__" : Str)) = false := by decide) : PMk X (.Call (.Name x p) [] [] pos) (fun _ H Q => Q (.ref C) none H) := by
  intro pins s σ H Q I h
  refine wpAny_Call_Name_kw (ld_glob I hg gC ?_ hdb)
  refine PySem.W.callWith_K0 I.kIn kC ?_
  show wpAny _ _ (call (.ref C) []) _ _ _
  obtain ⟨bm, N, nm, qn, bs, hdct, sn, sub, ab, col, dd, k0, k1, k2, k3, k5, mN, hC, hN, hni, T⟩ := exc_obj I.kIn q
  exact wpAny_call_exc_subT F T hC hN hni (fun h' e hm => mk_of I hm r h (I.hok.gone hm.new)) (Nat.zero_le _)
end
end Hk
set_option maxRecDepth 100000
set_option maxHeartbeats 2000000
namespace Hk
open PySem PySem.Spec PyProof.Rows
open L2
abbrev lo (xs : List Value) (n : Nat) : Obj := { cls := .type "list", data := .seq xs.toArray n }
section
variable {prog : Program} {w : World} {A : Around} {R : Result → Shared → Prop} {I l : Addr}
/-- the loop over a list of lists: the state's list at S holds the sum so far, at T -/
theorem sumLists_loop (hh : A.handled = none) (hne : l ≠ I) (bs : List Addr) (its : List (List Value)) (hlen : its.length = bs.length) (S : Addr) (hSI : S ≠ I) (hSl : S ≠ l) :
    ∀ (k i : Nat) (s : Shared) (T : Addr) (acc : List Value) (c cT : Nat), bs.length - i = k → i ≤ bs.length → s.heap.IsListIter I l i → s.heap.IsList l (bs.map Value.ref).toArray →
    s.heap.get? S = some { cls := .type "list", dict := none, data := .seq #[.ref T] c, slots := #[] } → s.heap.get? T = some (lo acc cT) → T ≠ I → T ≠ S →
    (∀ (j : Nat) (b : Addr), i ≤ j → bs[j]? = some b → ∃ (xs : List Value) (n : Nat), its[j]? = some xs ∧ s.heap.get? b = some (lo xs n) ∧ b ≠ I ∧ b ≠ S) → acc.length + (its.drop i).flatten.length ≤ sizeLine →
    (∀ h' tk p cp, (∀ b o, b ≠ I → b ≠ S → s.heap.get? b = some o → h'.get? b = some o) → (p = T ∧ i = bs.length ∨ s.heap.objs.size ≤ p) → h'.get? p = some (lo (acc ++ (its.drop i).flatten) cp) → R (.ok (.ret (.ref p))) { s with heap := h', toks := tk }) →
    codeAny (model prog w) A (.builtin "sum.loop" ⟨[.ref I, .ref S, rawInt 2, rawInt 0], []⟩) R s := by
  have W : Walks prog w A.in1 I [I, l] [I] (bs.map Value.ref).toArray.size (fun i v => (bs.map Value.ref).toArray[i]? = some v) (fun i h => h.IsListIter I l i ∧ h.IsList l (bs.map Value.ref).toArray) := Walks.list (A := A.in1) hh I l hne _
  have hsz : (bs.map Value.ref).toArray.size = bs.length := by simp
  intro k
  induction k with
  | zero =>
    intro i s T acc c cT hk hi h1 h2 hS hT hTI hTS hb hz hR
    have hin : i = bs.length := by omega
    subst hin
    refine codeAny_builtin F.entry_sum_loop ?_
    rw [Around.under_plainId F.plain_sum_loop _]
    show wpAny _ A.in1 (seqItems? (.ref S) >>= _) _ _ s
    refine wpAny_bind (wpAny_seqItems hS rfl ?_)
    show wpAny _ A.in1 (tryCatch (pyNext (.ref I)) _ >>= _) _ _ s
    have hst : (fun i (h : Heap) => h.IsListIter I l i ∧ h.IsList l (bs.map Value.ref).toArray) (bs.map Value.ref).toArray.size s.heap := by
      rw [hsz]; exact ⟨h1, h2⟩
    refine wpAny_bind (wpAny_tryCatch (W.done s _ _ hst fun h' tk hk' => ?_))
    refine wpAny_pure (hR h' tk T cT (fun b o n1 _ e => hk' b o (by simpa using n1) e) (.inl ⟨rfl, rfl⟩) ?_)
    rw [show its.drop bs.length = [] from List.drop_eq_nil_of_le (by omega), List.flatten_nil, List.append_nil]
    exact hk' T _ (by simpa using hTI) hT
  | succ k ih =>
    intro i s T acc c cT hk hi h1 h2 hS hT hTI hTS hb hz hR
    have hlt : i < bs.length := by omega
    refine codeAny_builtin F.entry_sum_loop ?_
    rw [Around.under_plainId F.plain_sum_loop _]
    show wpAny _ A.in1 (seqItems? (.ref S) >>= _) _ _ s
    refine wpAny_bind (wpAny_seqItems hS rfl ?_)
    show wpAny _ A.in1 (tryCatch (pyNext (.ref I)) _ >>= _) _ _ s
    obtain ⟨b, hbi⟩ : ∃ b, bs[i]? = some b := ⟨bs[i], List.getElem?_eq_getElem hlt⟩
    obtain ⟨xs, n, hx, hbo, hbI, hbS⟩ := hb i b (Nat.le_refl _) hbi
    refine wpAny_bind (wpAny_tryCatch (wpAny_pyNext_list_item h1 h2 (x := .ref b) (by simp [hbi]) fun h' hit' hs' => ?_))
    have hk' : ∀ q o, q ∉ [I] → s.heap.get? q = some o → h'.get? q = some o := fun q o hq e => hs'.extBut q o (by simpa using hq) e
    have hst' : h'.IsListIter I l (i + 1) ∧ h'.IsList l (bs.map Value.ref).toArray := ⟨hit', h2.extBut hs'.extBut hne⟩
    have hge : s.heap.objs.size ≤ h'.objs.size := Nat.le_of_eq hs'.1.symm
    have hS' := hk' S _ (by simpa using hSI) hS
    have hT' := hk' T _ (by simpa using hTI) hT
    have hb' := hk' b _ (by simpa using hbI) hbo
    have hdrop : its.drop i = xs :: its.drop (i + 1) := by
      rw [List.drop_eq_getElem_cons (by omega)]
      have e : its[i]? = some its[i] := List.getElem?_eq_getElem (by omega)
      rw [hx] at e
      rw [← Option.some.inj e]
    have hz' : acc.length + xs.length + (its.drop (i + 1)).flatten.length ≤ sizeLine := by
      rw [hdrop, List.flatten_cons, List.length_append] at hz
      omega
    show wpAny _ A.in1 ((holding [.ref b] (binaryOp .Add (.ref T) (.ref b))).attempt >>= _) _ _ _
    refine wpAny_bind (wpAny_attempt (wpAny_holding (PySem.P.add_list hT' hb' ?_ (by rw [List.size_toArray, List.size_toArray]; omega))))
    have ea : acc.toArray ++ xs.toArray = (acc ++ xs).toArray := by simp
    rw [ea]
    have hSne : S ≠ h'.objs.size := Nat.ne_of_lt (Heap.lt_size hS')
    have hS2 : (h'.push (lo (acc ++ xs) 0)).get? S = some { cls := .type "list", dict := none, data := .seq #[.ref T] c, slots := #[] } := Heap.get?_push_of_some _ hS'
    show wpAny _ A.in1 (updateSeq S (fun _ => #[.ref h'.objs.size]) >>= _) _ _ _
    refine wpAny_bind (wpAny_updateSeq hS2 rfl ?_)
    refine wpAny_bind (wpAny_letGo ?_)
    have hS3 := Heap.get?_update_self (Obj.mapSeq fun _ => #[Value.ref h'.objs.size]) hS2 rfl
    show wpAny _ A.in1 (updateSeq S (fun _ => #[.ref h'.objs.size]) >>= _) _ _ _
    refine wpAny_bind (wpAny_updateSeq hS3 rfl ?_)
    have hS4 := Heap.get?_update_self (Obj.mapSeq fun _ => #[Value.ref h'.objs.size]) hS3 rfl
    have other : ∀ q : Addr, q ≠ S → (((h'.push (lo (acc ++ xs) 0)).update S (Obj.mapSeq fun _ => #[Value.ref h'.objs.size])).update S (Obj.mapSeq fun _ => #[Value.ref h'.objs.size])).get? q = (h'.push (lo (acc ++ xs) 0)).get? q := fun q hq =>
      (Heap.get?_update_other _ _ (Ne.symm hq)).trans (Heap.get?_update_other _ _ (Ne.symm hq))
    have kept : ∀ q o, q ≠ S → h'.get? q = some o → (((h'.push (lo (acc ++ xs) 0)).update S (Obj.mapSeq fun _ => #[Value.ref h'.objs.size])).update S (Obj.mapSeq fun _ => #[Value.ref h'.objs.size])).get? q = some o := fun q o hq e =>
      (other q hq).trans (Heap.get?_push_of_some _ e)
    have hI' : I < h'.objs.size := by
      obtain ⟨o, e, _⟩ := hst'.1
      exact Heap.lt_size e
    refine wpAny_pure ⟨plainId_quiet F.plain_sum_loop _, ih (i + 1) _ h'.objs.size (acc ++ xs) _ 0 (by omega) hlt ?_ ?_ hS4 ?_ (Nat.ne_of_gt hI') (Ne.symm hSne) (fun j b2 hj hb2 => ?_) ?_ (fun h2 tk2 p cp hk2 hp ho => ?_)⟩
    · exact hst'.1.at fun o e => kept I o (Ne.symm hSI) e
    · exact hst'.2.at fun o e => kept l o (Ne.symm hSl) e
    · exact (other _ (Ne.symm hSne)).trans (Heap.get?_push_size _ rfl)
    · obtain ⟨ys, n2, hy, hyo, hyI, hyS⟩ := hb j b2 (by omega) hb2
      exact ⟨ys, n2, hy, kept b2 _ hyS (hk' b2 _ (by simpa using hyI) hyo), hyI, hyS⟩
    · rw [List.length_append]; exact hz'
    · refine hR h2 tk2 p cp (fun q o n1 n2 e => hk2 q o n1 n2 (kept q o n2 (hk' q o (by simpa using n1) e))) (.inr ?_) ?_
      · rcases hp with ⟨z, _⟩ | z
        · rw [z]; exact hge
        · refine Nat.le_trans hge (Nat.le_trans ?_ z)
          show h'.objs.size ≤ ((h'.push _).update S _ |>.update S _).objs.size
          simp
      · rw [hdrop, List.flatten_cons, ← List.append_assoc]
        exact ho
end
namespace F3
theorem args_sum2 (a b : Value) : argsOk "sum" ⟨[a, b], []⟩ := by unfold argsOk; kernel_rfl
theorem sub_list_str : isSubtype (.type "list") (.type "str") = pure false := by rw [isSubtype_type]; kernel_rfl
theorem sub_list_bytes : isSubtype (.type "list") (.type "bytes") = pure false := by rw [isSubtype_type]; kernel_rfl
theorem sub_list_bytearray : isSubtype (.type "list") (.type "bytearray") = pure false := by rw [isSubtype_type]; kernel_rfl
end F3
section
variable {prog : Program} {w : World} {A : Around} {E : Value → Shared → Prop} {s : Shared} {l T : Addr}
theorem sumLists_raw (hh : A.handled = none) (bs : List Addr) (its : List (List Value)) (hlen : its.length = bs.length) {acc : List Value} {c : Nat} {Q : Value → Shared → Prop}
    (hl : s.heap.IsList l (bs.map Value.ref).toArray) (hT : s.heap.get? T = some (lo acc c)) (hb : ∀ (j : Nat) (b : Addr), bs[j]? = some b → ∃ (xs : List Value) (n : Nat), its[j]? = some xs ∧ s.heap.get? b = some (lo xs n)) (hz : acc.length + its.flatten.length ≤ sizeLine)
    (hq : ∀ h' tk p cp, (∀ b o, s.heap.get? b = some o → h'.get? b = some o) → (p = T ∧ bs = [] ∨ s.heap.objs.size ≤ p) → h'.get? p = some (lo (acc ++ its.flatten) cp) → Q (.ref p) { s with heap := h', toks := tk }) :
    wpAny (model prog w) A (call (.builtin "sum") [.ref l, .ref T]) Q E s := by
  have hlt : l < s.heap.objs.size := by obtain ⟨_, e, _⟩ := hl; exact Heap.lt_size e
  have hTt : T < s.heap.objs.size := Heap.lt_size hT
  refine call_function_tree F.kind_sum F.plain_sum F.entry_sum (F3.args_sum2 _ _) ?_
  unfold Builtin.«sum»
  simp only [List.length_cons, List.length_nil]
  rw [if_neg (by decide)]
  refine wpAny_bind (wpAny_of_eq (show Builtin.Builtins.bindParams "sum" ["start"] 0 ⟨[.ref T], []⟩ = pure [some (.ref T)] from rfl) ?_)
  refine wpAny_bind (wpAny_pyIter_list hl ?_)
  refine wpAny_bind (wpAny_pure ?_)
  have tyT : Shared.TypeIs { s with heap := s.heap.push { cls := .type "list_iterator", data := .fields #[.ref l, .int 0 0] } } (.ref T) "list" := ⟨_, Heap.get?_push_of_some _ hT, rfl⟩
  simp only [List.forIn_cons, List.forIn_nil]
  refine wpAny_bind (wpAny_bind (wpAny_bind (wpAny_isInstance (T := "list") (b := false) tyT F3.sub_list_str ?_)))
  simp only [Bool.false_eq_true, if_false]
  refine wpAny_pure (wpAny_bind (wpAny_bind (wpAny_isInstance (T := "list") (b := false) tyT F3.sub_list_bytes ?_)))
  simp only [Bool.false_eq_true, if_false]
  refine wpAny_pure (wpAny_bind (wpAny_bind (wpAny_isInstance (T := "list") (b := false) tyT F3.sub_list_bytearray ?_)))
  simp only [Bool.false_eq_true, if_false]
  refine wpAny_pure (wpAny_pure ?_)
  refine wpAny_bind (wpAny_newObj_type ?_)
  have sz1 : (s.heap.push { cls := .type "list_iterator", data := .fields #[.ref l, .int 0 0] }).objs.size = s.heap.objs.size + 1 := Heap.size_push ..
  have keep2 : ∀ b o, s.heap.get? b = some o → ((s.heap.push { cls := .type "list_iterator", data := .fields #[.ref l, .int 0 0] }).push { cls := .type "list", data := .seq #[Value.ref T] }).get? b = some o := fun b o e => Heap.get?_push_of_some _ (Heap.get?_push_of_some _ e)
  refine wpAny_pure ⟨plainId_quiet F.plain_sum_loop _, sumLists_loop (I := s.heap.objs.size) hh (Nat.ne_of_lt hlt) bs its hlen _ ?_ ?_ bs.length 0 _ T acc 0 c (by omega) (Nat.zero_le _) ?_ ?_ (Heap.get?_push_size _ rfl) (keep2 _ _ hT) (Nat.ne_of_lt hTt) ?_ (fun j b _ hj => ?_) (by simpa using hz) (fun h' tk p cp hk hp ho => ?_)⟩
  · rw [sz1]; exact Nat.succ_ne_self _
  · rw [sz1]; exact Nat.ne_of_gt (Nat.lt_succ_of_lt hlt)
  · exact ⟨_, Heap.get?_push_of_some _ (Heap.get?_push_size _ rfl), rfl, rfl⟩
  · exact (hl.push _).push _
  · rw [sz1]; exact Nat.ne_of_lt (Nat.lt_succ_of_lt hTt)
  · obtain ⟨xs, n, hx, ho⟩ := hb j b hj
    have hb0 := Heap.lt_size ho
    exact ⟨xs, n, hx, keep2 _ _ ho, Nat.ne_of_lt hb0, by rw [sz1]; exact Nat.ne_of_lt (Nat.lt_succ_of_lt hb0)⟩
  · refine hq h' tk p cp (fun b o e => hk b o (Nat.ne_of_lt (Heap.lt_size e)) (by rw [sz1]; exact Nat.ne_of_lt (Nat.lt_succ_of_lt (Heap.lt_size e))) (keep2 b o e)) ?_ (by simpa using ho)
    rcases hp with ⟨z, y⟩ | z
    · exact .inl ⟨z, List.length_eq_zero_iff.mp y.symm⟩
    · refine .inr (Nat.le_trans ?_ z)
      show s.heap.objs.size ≤ ((s.heap.push _).push _).objs.size
      rw [Heap.size_push, Heap.size_push]; omega
end
section
variable {X : Cx}
/-- sum(xs, ys): xs a list of lists, ys a list -/
def rSumL (K : PySem.W.Frag) : List V → Hp → VK → Prop := fun vs H Q => ∃ (a t : Addr) (bs : List Addr) (its : List (List V)) (acc : List V), vs = [.ref a, .ref t] ∧ SqL K H a (bs.map V.ref) ∧ H t = some (.lst acc) ∧ its.length = bs.length ∧
  (∀ (j : Nat) (b : Addr), bs[j]? = some b → ∃ xs, its[j]? = some xs ∧ H b = some (.lst xs)) ∧ acc.length + its.flatten.length ≤ sizeLine ∧ (bs = [] → Q (.ref t) H) ∧ ∀ p, H p = none → Q (.ref p) (upd H p (.lst (acc ++ its.flatten)))
theorem vals_refs : ∀ {bs : List Addr} {us : List Value}, Vals (bs.map V.ref) us → us = bs.map Value.ref
  | [], _, .nil => rfl
  | b :: bs, _, .cons r t => by
    obtain rfl : _ = Value.ref b := r
    rw [vals_refs t]; rfl
theorem lists_of {pins : List (Addr × Obj)} {σ : L2.St} {H : Hp} {s : Shared} (I : Inv X pins σ H s) : ∀ (bs : List Addr) (its : List (List V)), its.length = bs.length → (∀ (j : Nat) (b : Addr), bs[j]? = some b → ∃ xs, its[j]? = some xs ∧ H b = some (.lst xs)) →
    ∃ us : List (List Value), us.length = bs.length ∧ (∀ (j : Nat) (b : Addr), bs[j]? = some b → ∃ (xs : List Value) (n : Nat), us[j]? = some xs ∧ s.heap.get? b = some (lo xs n)) ∧ Vals its.flatten us.flatten
  | [], [], _, _ => ⟨[], rfl, fun j b h => by simp at h, .nil⟩
  | b :: bs, x :: its, hl, h => by
    obtain ⟨us, h1, h2, h3⟩ := lists_of I bs its (by simpa using hl) (fun j b hj => h (j + 1) b (by simpa using hj))
    obtain ⟨y, hy, hb⟩ := h 0 b rfl
    obtain rfl : x = y := Option.some.inj hy
    obtain ⟨xs, n, rx, ho, _⟩ := I.lst hb
    refine ⟨xs :: us, by simp [h1], fun j c hj => ?_, ?_⟩
    · cases j with
      | zero =>
        obtain rfl : b = c := Option.some.inj hj
        exact ⟨xs, n, rfl, ho⟩
      | succ j => exact h2 j c (by simpa using hj)
    · rw [List.flatten_cons, List.flatten_cons]
      exact rx.append h3
theorem call_sumL (hc : X.calm = true) : CallR X (.builtin "sum") (rSumL X.K) := by
  intro pins s σ H xs us Q I r h
  obtain ⟨a, t, bs, its, acc, rfl, hS, hT, hlen, hb, hz, q0, q⟩ := h
  obtain ⟨u, w', rfl, ru, rw'⟩ := vals2 r
  obtain rfl : u = Value.ref a := ru
  obtain rfl : w' = Value.ref t := rw'
  obtain ⟨ls, rl, pl, _⟩ := I.list hS
  rw [vals_refs rl] at pl
  obtain ⟨us, h1, h2, h3⟩ := lists_of I bs its hlen hb
  obtain ⟨ac, n, ra, hao, _⟩ := I.lst hT
  have e1 := ra.length
  have e2 := h3.length
  refine sumLists_raw (I.ok.hd hc) bs us h1 pl.isList hao h2 (by omega) (fun h' tk p cp hk hp ho => ?_)
  rcases hp with ⟨rfl, y⟩ | hp
  · exact ⟨.ref p, H, I.kept hk, rfl, q0 y⟩
  · have hf : H p = none := I.hok.fresh hp
    exact ⟨.ref p, _, I.laid (o := .lst (acc ++ its.flatten)) hk hp ⟨by rw [List.length_append]; exact hz, _, cp, ra.append h3, ho⟩, rfl, q p hf⟩
end
end Hk
set_option maxRecDepth 100000
set_option maxHeartbeats 2000000
namespace Hk
open PySem PySem.Spec PyProof.Rows
open L2
section
variable {X : Cx}
/-! ### + -/
inductive UAdd (K : PySem.W.Frag) : V → V → Hp → VK → Prop
  | int {i j : Int} {H : Hp} {Q : VK} (q : Q (.int (i + j)) H) : UAdd K (.int i) (.int j) H Q
  | str {i j : Str} {H : Hp} {Q : VK} (h : i.length + j.length ≤ sizeLine) (q : Q (.str (i ++ j)) H) : UAdd K (.str i) (.str j) H Q
  | lst {a b : Addr} {xs ys : List V} {H : Hp} {Q : VK} (h1 : H a = some (.lst xs)) (h2 : H b = some (.lst ys)) (h : xs.length + ys.length ≤ sizeLine) (q : ∀ p, H p = none → Q (.ref p) (upd H p (.lst (xs ++ ys)))) : UAdd K (.ref a) (.ref b) H Q
  | tup {a b : Addr} {xs ys : List V} {H : Hp} {Q : VK} (h1 : SqT K H a xs) (h2 : SqT K H b ys) (h : xs.length + ys.length ≤ sizeLine) (q : ∀ p H', Same H H' → SqT K H' p (xs ++ ys) → Q (.ref p) H') : UAdd K (.ref a) (.ref b) H Q
theorem op_uadd {K : PySem.W.Frag} (hK : X.K = K := by rfl) : OpR X (binaryOp .Add) (UAdd K) := by
  subst hK
  intro pins s σ H x y v u Q I rx ry h
  cases h with
  | int q => exact op_add pins s σ H _ _ v u Q I rx ry ⟨_, _, rfl, rfl, q⟩
  | str h q => exact op_add_str pins s σ H _ _ v u Q I rx ry ⟨_, _, rfl, rfl, h, q⟩
  | lst h1 h2 h q => exact op_cat pins s σ H _ _ v u Q I rx ry ⟨_, _, _, _, rfl, rfl, h1, h2, h, q⟩
  | tup h1 h2 h q =>
    refine op_catA pins s σ H _ _ v u Q I rx ry ⟨_, _, _, _, rfl, rfl, h1, h2, h, fun e => ?_, fun _ e => ?_, fun _ _ p hp => ?_⟩
    · subst e; exact q _ _ (Same.refl _) h2
    · subst e; exact q _ _ (Same.refl _) (by rw [List.append_nil]; exact h1)
    · exact q _ _ (sameUpd hp) (.inl (.inl upd_same))
/-! ### the other operators, ints -/
def UMul : R2 := fun x y H Q => ∃ i j, x = .int i ∧ y = .int j ∧ CMul i j ∧ Q (.int (i * j)) H
theorem op_umul : OpR X (binaryOp .Mult) UMul := op_mul
def USub : R2 := rI0 fun i j => .int (i - j)
theorem op_usub : OpR X (binaryOp .Sub) USub := op_sub
def UMod : R2 := fun x y H Q => ∃ i j, x = .int i ∧ y = .int j ∧ j ≠ 0 ∧ Q (.int (i.fmod j)) H
theorem op_umod : OpR X (binaryOp .Mod) UMod := op_modN
def UFdiv : R2 := fun x y H Q => ∃ i j, x = .int i ∧ y = .int j ∧ CDivN i j ∧ Q (.int (i.fdiv j)) H
theorem op_ufdiv : OpR X (binaryOp .FloorDiv) UFdiv := op_fdivN
def UPow : R2 := fun x y H Q => ∃ i j, x = .int i ∧ y = .int j ∧ CPow i j ∧ Q (.int (i ^ j.toNat)) H
theorem op_upow : OpR X (binaryOp .Pow) UPow := op_pow
/-! ### ==, != -/
inductive UEq (K : PySem.W.Frag) : V → V → Hp → VK → Prop
  | int {i j : Int} {H : Hp} {Q : VK} (q : Q (.bl (decide (i = j))) H) : UEq K (.int i) (.int j) H Q
  | str {i j : Str} {H : Hp} {Q : VK} (q : Q (.bl (decide (i = j))) H) : UEq K (.str i) (.str j) H Q
  | dat {x y : V} {d e : PyData} {H : Hp} {Q : VK} (h1 : Dp K H x d) (h2 : Dp K H y e) (s1 : SeqAt.shaped d = true) (s2 : SeqAt.shaped e = true) (q : Q (.bl (PyData.eqv d e)) H) : UEq K x y H Q
inductive UNe (K : PySem.W.Frag) : V → V → Hp → VK → Prop
  | int {i j : Int} {H : Hp} {Q : VK} (q : Q (.bl (!decide (i = j))) H) : UNe K (.int i) (.int j) H Q
  | str {i j : Str} {H : Hp} {Q : VK} (q : Q (.bl (!decide (i = j))) H) : UNe K (.str i) (.str j) H Q
  | dat {x y : V} {d e : PyData} {H : Hp} {Q : VK} (h1 : Dp K H x d) (h2 : Dp K H y e) (s1 : SeqAt.shaped d = true) (s2 : SeqAt.shaped e = true) (q : Q (.bl (!PyData.eqv d e)) H) : UNe K x y H Q
theorem op_ueq {K : PySem.W.Frag} (hu : X.A.units + 64 < cLine) (hK : X.K = K := by rfl) : OpR X (compareOp .Eq) (UEq K) := by
  subst hK
  intro pins s σ H x y v u Q I rx ry h
  cases h with
  | int q => exact op_eq pins s σ H _ _ v u Q I rx ry ⟨rfl, by simpa using q⟩
  | str q => exact op_eq pins s σ H _ _ v u Q I rx ry ⟨rfl, by simpa using q⟩
  | dat h1 h2 s1 s2 q => exact op_eqD hu pins s σ H _ _ v u Q I rx ry ⟨_, _, h1, h2, s1, s2, q⟩
theorem op_une {K : PySem.W.Frag} (hu : X.A.units + 64 < cLine) (hK : X.K = K := by rfl) : OpR X (compareOp .NotEq) (UNe K) := by
  subst hK
  intro pins s σ H x y v u Q I rx ry h
  cases h with
  | int q => exact op_ne pins s σ H _ _ v u Q I rx ry ⟨rfl, by simpa using q⟩
  | str q => exact op_ne pins s σ H _ _ v u Q I rx ry ⟨rfl, by simpa using q⟩
  | dat h1 h2 s1 s2 q => exact op_neD hu pins s σ H _ _ v u Q I rx ry ⟨_, _, h1, h2, s1, s2, q⟩
/-! ### <, <=, >, >= of ints -/
def ULt : R2 := rI0 fun i j => .bl (decide (i < j))
def ULe : R2 := rI0 fun i j => .bl (decide (i ≤ j))
def UGt : R2 := rI0 fun i j => .bl (decide (j < i))
def UGe : R2 := rI0 fun i j => .bl (decide (j ≤ i))
theorem op_ult : OpR X (compareOp .Lt) ULt := op_lt
theorem op_ule : OpR X (compareOp .LtE) ULe := op_le
theorem op_ugt : OpR X (compareOp .Gt) UGt := op_gt
theorem op_uge : OpR X (compareOp .GtE) UGe := op_ge
/-! ### subscripts -/
inductive UIx (K : PySem.W.Frag) : V → V → Hp → VK → Prop
  | lst {a : Addr} {xs : List V} {i : Int} {v : V} {H : Hp} {Q : VK} (h : SqL K H a xs) (e : atI xs i = some v) (q : Q v H) : UIx K (.ref a) (.int i) H Q
  | tup {a : Addr} {xs : List V} {i : Int} {v : V} {H : Hp} {Q : VK} (h : SqT K H a xs) (e : atI xs i = some v) (q : Q v H) : UIx K (.ref a) (.int i) H Q
  | str {z : Str} {i : Int} {c : Nat} {H : Hp} {Q : VK} (h : z.length ≤ sizeLine) (e : atI z.cps.toList i = some c) (q : Q (.str ⟨#[c]⟩) H) : UIx K (.str z) (.int i) H Q
theorem ix_u {K : PySem.W.Frag} (hK : X.K = K := by rfl) : IxR X (UIx K) := by
  subst hK
  intro value slice pins s σ H x y v u Q I rx ry h hs
  cases h with
  | lst h e q => exact ix_list value slice pins s σ H _ _ v u Q I rx ry ⟨_, _, _, _, rfl, rfl, h, e, q⟩ hs
  | tup h e q => exact ix_tup value slice pins s σ H _ _ v u Q I rx ry ⟨_, _, _, _, rfl, rfl, h, e, q⟩ hs
  | str h e q => exact ix_str value slice pins s σ H _ _ v u Q I rx ry ⟨_, _, _, rfl, rfl, h, e, q⟩ hs
theorem atL {xs : List V} {k : Nat} {v : V} (h : xs[k]? = some v) : atI xs (k : Int) = some v := atI_nat h
/-- a slice of a list, of a tuple -/
inductive USl (K : PySem.W.Frag) : V → Option Int → Option Int → Hp → VK → Prop
  | lst {a : Addr} {xs : List V} {l u : Option Int} {H : Hp} {Q : VK} (h : SqL K H a xs) (q : ∀ p, H p = none → Q (.ref p) (upd H p (.lst (cutV xs l u)))) : USl K (.ref a) l u H Q
  | tup {a : Addr} {xs : List V} {l u : Option Int} {H : Hp} {Q : VK} (h : SqT K H a xs) (q : ∀ p H', Same H H' → SqT K H' p (cutV xs l u) → Q (.ref p) H') : USl K (.ref a) l u H Q
theorem sl_u {K : PySem.W.Frag} (hK : X.K = K := by rfl) : SlR X (USl K) := by
  subst hK
  intro pins s σ H x v vl vu l u sl Q I rx hs pl pu h
  cases h with
  | lst h q => exact sl_list pins s σ H _ v vl vu _ _ sl Q I rx hs pl pu ⟨_, _, rfl, h, q⟩
  | @tup a xs _ _ _ _ h q =>
    refine sl_tupA pins s σ H _ v vl vu _ _ sl Q I rx hs pl pu ⟨_, _, rfl, h, fun e => ?_, fun _ p hp => q p _ (sameUpd hp) (.inl (.inl upd_same))⟩
    refine q _ _ (Same.refl _) ?_
    have e2 : cutV xs l u = xs := by
      unfold cutV
      rw [e.1, e.2]
      simp
    rw [e2]; exact h
/-! ### calls of built-ins -/
inductive ULen (K : PySem.W.Frag) : List V → Hp → VK → Prop
  | lst {a : Addr} {xs : List V} {H : Hp} {Q : VK} (h : SqL K H a xs) (q : Q (.int xs.length) H) : ULen K [.ref a] H Q
  | tup {a : Addr} {xs : List V} {H : Hp} {Q : VK} (h : SqT K H a xs) (q : Q (.int xs.length) H) : ULen K [.ref a] H Q
  | str {z : Str} {H : Hp} {Q : VK} (h : z.length ≤ sizeLine) (q : Q (.int z.length) H) : ULen K [.str z] H Q
theorem call_ulen {K : PySem.W.Frag} (hK : X.K = K := by rfl) : CallR X (.builtin "len") (ULen K) := by
  subst hK
  intro pins s σ H xs us Q I r h
  cases h with
  | lst h q => exact call_len_seq pins s σ H _ us Q I r ⟨_, _, rfl, .inl h, q⟩
  | tup h q => exact call_len_seq pins s σ H _ us Q I r ⟨_, _, rfl, .inr h, q⟩
  | str h q => exact call_len_str pins s σ H _ us Q I r ⟨_, rfl, h, q⟩
inductive UInt : List V → Hp → VK → Prop
  | int {i : Int} {H : Hp} {Q : VK} (q : Q (.int i) H) : UInt [.int i] H Q
  | bl {b : Bool} {H : Hp} {Q : VK} (q : Q (.int (if b then 1 else 0)) H) : UInt [.bl b] H Q
theorem call_uint : CallR X (.type "int") UInt := by
  intro pins s σ H xs us Q I r h
  cases h with
  | int q => exact call_int1 pins s σ H _ us Q I r (.inl ⟨_, rfl, q⟩)
  | bl q => exact call_int1 pins s σ H _ us Q I r (.inr ⟨_, rfl, q⟩)
inductive UTup (K : PySem.W.Frag) : List V → Hp → VK → Prop
  | lst {a : Addr} {xs : List V} {H : Hp} {Q : VK} (h : SqL K H a xs) (q : ∀ p, H p = none → Q (.ref p) (upd H p (.tup xs))) : UTup K [.ref a] H Q
  | tup {a : Addr} {xs : List V} {H : Hp} {Q : VK} (h : SqT K H a xs) (q : Q (.ref a) H) : UTup K [.ref a] H Q
theorem call_utup {K : PySem.W.Frag} (hK : X.K = K := by rfl) : CallR X (.type "tuple") (UTup K) := by
  subst hK
  intro pins s σ H xs us Q I r h
  cases h with
  | lst h q => exact call_tuple_of pins s σ H _ us Q I r ⟨_, _, rfl, .inl ⟨h, q⟩⟩
  | tup h q => exact call_tuple_of pins s σ H _ us Q I r ⟨_, _, rfl, .inr ⟨h, q⟩⟩
inductive UAbs : List V → Hp → VK → Prop
  | int {i : Int} {H : Hp} {Q : VK} (q : Q (.int (if i < 0 then -i else i)) H) : UAbs [.int i] H Q
theorem call_uabs : CallR X (.builtin "abs") UAbs := by
  intro pins s σ H xs us Q I r h
  cases h with
  | int q => exact call_abs pins s σ H _ us Q I r ⟨_, rfl, q⟩
/-! ### isinstance of data -/
/-- the name of data's class -/
def tyD : PyData → String
  | .none => "NoneType"
  | .bool _ => "bool"
  | .int _ => "int"
  | .str _ => "str"
  | .list _ => "list"
  | .tuple _ => "tuple"
  | .dict _ => "dict"
theorem tyX_of {K : PySem.W.Frag} {H : Hp} : ∀ {v : V} {d : PyData}, Dp K H v d → TyX K H v (.type (tyD d))
  | _, _, .non => .base .non
  | _, _, .bl b => .base (.bl b)
  | _, _, .int i => .base (.int i)
  | _, _, .str x => .base (.str x)
  | _, _, .lst h _ => by
    rcases h with (h | ⟨o, h⟩) | ⟨o, its, n, h, hc, _⟩
    · exact .base (.lst h)
    · exact .base (.frz h)
    · exact .kList h hc
  | _, _, .tup h _ => by
    rcases h with (h | ⟨o, h⟩) | ⟨o, its, n, h, hc, _⟩
    · exact .base (.tup h)
    · exact .fTuple h
    · exact .kTuple h hc
/-- isinstance of data and a built-in class -/
def isT (d : PyData) (T : String) : Bool := tyD d == T || (T == "int" && tyD d == "bool")
theorem kit_isT {T : String} (hT : T ∈ ["int", "bool", "str", "tuple", "list"]) : ∀ d : PyData, kitB (tyD d) T = some (isT d T) := by
  simp only [List.mem_cons, List.not_mem_nil, or_false] at hT
  intro d
  rcases hT with rfl | rfl | rfl | rfl | rfl <;> cases d <;> (first | (simp only [tyD, isT]; decide +kernel))
inductive UIsi (K : PySem.W.Frag) : List V → Hp → VK → Prop
  | dat {x : V} {d : PyData} {T : String} {H : Hp} {Q : VK} (h : Dp K H x d) (hT : T ∈ ["int", "bool", "str", "tuple", "list"]) (q : Q (.bl (isT d T)) H) : UIsi K [x, .ty T] H Q
theorem call_uisi {K : PySem.W.Frag} (hK : X.K = K := by rfl) : CallR X (.builtin "isinstance") (UIsi K) := by
  subst hK
  intro pins s σ H xs us Q I r h
  cases h with
  | dat h hT q => exact call_isi pins s σ H _ us Q I r ⟨_, _, _, _, _, rfl, .ty _, tyX_of h, kit_ty (kit_isT hT _), q⟩
end
/-! ### what stands in a comprehension's block: the written part by its own name -/
section
variable {X : Cx} {K : PySem.W.Frag} {tg l : Expr} {tl : TE}
theorem pi_ulist (hK : X.K = K := by rfl) (hl : PE X l tl) : PI X tg l (iList K tl) := by
  subst hK
  exact pi_list hl
theorem pi_utup (hK : X.K = K := by rfl) (hl : PE X l tl) : PI X tg l (iTup K tl) := by
  subst hK
  exact pi_tup hl
theorem call_usumL (hc : X.calm = true) (hK : X.K = K := by rfl) : CallR X (.builtin "sum") (rSumL K) := by
  subst hK
  exact call_sumL hc
theorem get_ulist (hK : X.K = K := by rfl) : PGet X (rGetL K) := by
  subst hK
  exact get_list
end
/-! ### constants of the module, built-in classes as values -/
section
variable {X : Cx} {x : Str} {pos : Pos}
theorem pe_cint {i : Int} (h : ∃ t, X.mg x = some (.int i t)) (hg : Gl X x) (hd : (x == ("__debug__" : Str)) = false := by decide) : PE X (.Name x pos) (tC (.int i)) := by
  obtain ⟨t, e⟩ := h
  exact pe_glob hg e ⟨t, rfl⟩ hd
theorem pe_cstr {z : Str} (h : ∃ t, X.mg x = some (.str z t)) (hg : Gl X x) (hd : (x == ("__debug__" : Str)) = false := by decide) : PE X (.Name x pos) (tC (.str z)) := by
  obtain ⟨t, e⟩ := h
  exact pe_glob hg e ⟨t, rfl⟩ hd
theorem pe_cty {T : String} (hv : bootBuiltins x = some (.type T)) (h : X.mg x = none) (hg : Gl X x) (hn : x ≠ "__name__" := by decide) (hd : (x == ("__debug__" : Str)) = false := by decide) : PE X (.Name x pos) (tC (.ty T)) :=
  pe_bltn hg h hv rfl hn hd
theorem bb_int : bootBuiltins "int" = some (.type "int") := by decide +kernel
theorem bb_bool : bootBuiltins "bool" = some (.type "bool") := by decide +kernel
theorem bb_str : bootBuiltins "str" = some (.type "str") := by decide +kernel
theorem bb_tuple : bootBuiltins "tuple" = some (.type "tuple") := by decide +kernel
theorem bb_list : bootBuiltins "list" = some (.type "list") := by decide +kernel
theorem bb_len : bootBuiltins "len" = some (.builtin "len") := by decide +kernel
theorem bb_abs : bootBuiltins "abs" = some (.builtin "abs") := by decide +kernel
theorem bb_sum : bootBuiltins "sum" = some (.builtin "sum") := by decide +kernel
theorem bb_repr : bootBuiltins "repr" = some (.builtin "repr") := by decide +kernel
theorem bb_isinstance : bootBuiltins "isinstance" = some (.builtin "isinstance") := by decide +kernel
theorem bb_all : bootBuiltins "all" = some (.builtin "all") := by decide +kernel
theorem bb_any : bootBuiltins "any" = some (.builtin "any") := by decide +kernel
theorem bb_sorted : bootBuiltins "sorted" = some (.builtin "sorted") := by decide +kernel
theorem bb_max : bootBuiltins "max" = some (.builtin "max") := by decide +kernel
theorem bb_min : bootBuiltins "min" = some (.builtin "min") := by decide +kernel
end
end Hk
set_option maxRecDepth 100000
set_option maxHeartbeats 2000000
namespace Hk
open PySem PySem.Spec PyProof.Rows
open L2
/-! ### a bag: the number that is parted, the stir, the place, the cells -/
structure BagAt (H : Hp) (b : Addr) : Prop where
  ex : ∃ (x y z : Int) (c : Addr) (ns : List Int), H b = some (.lst [.int x, .int y, .int z, .ref c]) ∧ H c = some (.lst (ns.map V.int)) ∧ 0 ≤ y ∧ y < 2147483647 ∧ ns.length ≤ 63
theorem BagAt.lst {H : Hp} {b : Addr} (h : BagAt H b) : ∃ xs, H b = some (.lst xs) := by
  obtain ⟨x, y, z, c, ns, e, _⟩ := h
  exact ⟨_, e⟩
theorem bag_ne {H : Hp} {b c : Addr} {x y z : Int} {ns : List Int} (h : H b = some (.lst [.int x, .int y, .int z, .ref c])) (h' : H c = some (.lst (ns.map V.int))) : c ≠ b := by
  intro e
  subst e
  rw [h] at h'
  have e2 : [V.int x, V.int y, V.int z, V.ref c] = ns.map V.int := by injection (Option.some.inj h')
  have m : V.ref c ∈ ns.map V.int := by rw [← e2]; simp
  obtain ⟨n, _, e3⟩ := List.mem_map.mp m
  cases e3
theorem BagAt.same {H H' : Hp} {b : Addr} (h : BagAt H b) (s : Same H H') : BagAt H' b := by
  obtain ⟨x, y, z, c, ns, e, ec, r⟩ := h
  exact ⟨x, y, z, c, ns, s _ _ e, s _ _ ec, r⟩
theorem Keep1.same {b : Addr} {H H1 H2 : Hp} (x : Keep1 b H H1) (y : Same H1 H2) : Keep1 b H H2 := fun a o n h => y a o (x a o n h)
theorem at4_0 {a b c d : V} : atI [a, b, c, d] 0 = some a := rfl
theorem at4_1 {a b c d : V} : atI [a, b, c, d] 1 = some b := rfl
theorem at4_2 {a b c d : V} : atI [a, b, c, d] 2 = some c := rfl
theorem at4_3 {a b c d : V} : atI [a, b, c, d] 3 = some d := rfl
theorem cut_ints (ns : List Int) (l u : Option Int) : ∃ ms : List Int, cutV (ns.map V.int) l u = ms.map V.int ∧ ms.length ≤ ns.length := by
  refine ⟨(ns.drop (HT.sIx (ns.map V.int).length 0 l)).take (HT.sIx (ns.map V.int).length (ns.map V.int).length u - HT.sIx (ns.map V.int).length 0 l), ?_, ?_⟩
  · unfold cutV
    rw [List.map_take, List.map_drop]
  · rw [List.length_take, List.length_drop]; omega
def spTake : Sp := fun vs H Q _ => ∃ (b : Addr) (m : Int), vs = [.ref b, .int m] ∧ 0 < m ∧ m < 1073741824 ∧ BagAt H b ∧ ∀ (d : Int) (H' : Hp), 0 ≤ d → d < m → Keep1 b H H' → BagAt H' b → Q (.int d) H'
def spBag (K : PySem.W.Frag) : Sp := fun vs H Q _ => ∃ (a : Addr) (ns : List Int), vs = [.ref a] ∧ SqL K H a (ns.map V.int) ∧ ∀ (b : Addr) (H' : Hp), Same H H' → H b = none → BagAt H' b → Q (.ref b) H'
/-- an item of a list or tuple that is not the bag -/
def spSome (K : PySem.W.Frag) : Sp := fun vs H Q _ => ∃ (b t : Addr) (xs : List V), vs = [.ref b, .ref t] ∧ BagAt H b ∧ t ≠ b ∧ (SqL K H t xs ∨ SqT K H t xs) ∧ xs ≠ [] ∧ xs.length < 1073741824 ∧
  ∀ (i : Nat) (x : V) (H' : Hp), xs[i]? = some x → Keep1 b H H' → BagAt H' b → Q x H'
/-- two like values -/
def spAlike (K : PySem.W.Frag) : Sp := fun vs H Q _ => ∃ (x y : V) (d : PyData), vs = [x, y] ∧ Dp K H x d ∧ Dp K H y d ∧ okd d = true ∧ Q (.bl true) H
theorem fmod_lt {a b : Int} (h : 0 < b) : 0 ≤ a.fmod b ∧ a.fmod b < b := by
  rw [Int.fmod_eq_emod_of_nonneg _ (Int.le_of_lt h)]
  exact ⟨Int.emod_nonneg _ (by omega), Int.emod_lt_of_pos _ h⟩
theorem SqL.k1 {K : PySem.W.Frag} {H H' : Hp} {a b : Addr} {xs : List V} (h : SqL K H a xs) (n : a ≠ b) (k : Keep1 b H H') : SqL K H' a xs := by
  rcases h with (h | ⟨o, h⟩) | h
  · exact .inl (.inl (k a _ n h))
  · exact .inl (.inr ⟨o, k a _ n h⟩)
  · exact .inr h
theorem SqT.k1 {K : PySem.W.Frag} {H H' : Hp} {a b : Addr} {xs : List V} (h : SqT K H a xs) (n : a ≠ b) (k : Keep1 b H H') : SqT K H' a xs := by
  rcases h with (h | ⟨o, h⟩) | h
  · exact .inl (.inl (k a _ n h))
  · exact .inl (.inr ⟨o, k a _ n h⟩)
  · exact .inr h
end Hk
set_option maxRecDepth 100000
set_option maxHeartbeats 2000000
namespace Hk
open PySem PySem.Spec PyProof.Rows
open L2
section
variable {K : PySem.W.Frag} {a : Addr} {xs : List V} {H0 : Hp} {Qd : Hp → Prop} {B : V → Hp → (Hp → Prop) → Prop}
/-- over a list that stands still, whatever a turn is -/
theorem walk_list (Pv : Nat → Hp → Prop) (h0 : Pv 0 H0) (hl : ∀ i H, i ≤ xs.length → Pv i H → SqL K H a xs) (hs : ∀ i x H, xs[i]? = some x → Pv i H → B x H (Pv (i + 1))) (hd : ∀ H, Pv xs.length H → Qd H) :
    ∃ W : Nat → Nat → Hp → Prop, (∃ m, W 0 m H0) ∧ ∀ i m H, W i m H → ((Itl K a).stop i H ∧ Qd H) ∨ ((Itl K a).go i H ∧ ∃ Nx : Hp → Prop, (∀ H', Nx H' → ∃ m', m' < m ∧ W (i + 1) m' H') ∧ ∀ x H', (Itl K a).yld i H x H' → B x H' Nx) := by
  refine ⟨fun i m H => m = xs.length - i ∧ i ≤ xs.length ∧ Pv i H, ⟨xs.length, rfl, Nat.zero_le _, h0⟩, ?_⟩
  rintro i m H ⟨rfl, hi, p⟩
  have z := hl i H hi p
  by_cases lt : i < xs.length
  · refine .inr ⟨⟨xs, xs[i], z, by simp [lt]⟩, Pv (i + 1), fun H' p' => ⟨xs.length - (i + 1), by omega, rfl, lt, p'⟩, ?_⟩
    rintro x H' ⟨rfl, y⟩
    exact hs i x _ (y xs z) p
  · obtain rfl : i = xs.length := by omega
    exact .inl ⟨⟨xs, z, Nat.le_refl _⟩, hd H p⟩
theorem walk_tup (Pv : Nat → Hp → Prop) (h0 : Pv 0 H0) (hl : ∀ i H, i ≤ xs.length → Pv i H → SqT K H a xs) (hs : ∀ i x H, xs[i]? = some x → Pv i H → B x H (Pv (i + 1))) (hd : ∀ H, Pv xs.length H → Qd H) :
    ∃ W : Nat → Nat → Hp → Prop, (∃ m, W 0 m H0) ∧ ∀ i m H, W i m H → ((Itt K a).stop i H ∧ Qd H) ∨ ((Itt K a).go i H ∧ ∃ Nx : Hp → Prop, (∀ H', Nx H' → ∃ m', m' < m ∧ W (i + 1) m' H') ∧ ∀ x H', (Itt K a).yld i H x H' → B x H' Nx) := by
  refine ⟨fun i m H => m = xs.length - i ∧ i ≤ xs.length ∧ Pv i H, ⟨xs.length, rfl, Nat.zero_le _, h0⟩, ?_⟩
  rintro i m H ⟨rfl, hi, p⟩
  have z := hl i H hi p
  by_cases lt : i < xs.length
  · refine .inr ⟨⟨xs, xs[i], z, by simp [lt]⟩, Pv (i + 1), fun H' p' => ⟨xs.length - (i + 1), by omega, rfl, lt, p'⟩, ?_⟩
    rintro x H' ⟨rfl, y⟩
    exact hs i x _ (y xs z) p
  · obtain rfl : i = xs.length := by omega
    exact .inl ⟨⟨xs, z, Nat.le_refl _⟩, hd H p⟩
theorem walk_range {l : Int} {n : Nat} (Pv : Nat → Hp → Prop) (h0 : Pv 0 H0) (hs : ∀ i H, i < n → Pv i H → B (.int (l + i)) H (Pv (i + 1))) (hd : ∀ H, Pv n H → Qd H) :
    ∃ W : Nat → Nat → Hp → Prop, (∃ m, W 0 m H0) ∧ ∀ i m H, W i m H → ((Itr l n).stop i H ∧ Qd H) ∨ ((Itr l n).go i H ∧ ∃ Nx : Hp → Prop, (∀ H', Nx H' → ∃ m', m' < m ∧ W (i + 1) m' H') ∧ ∀ x H', (Itr l n).yld i H x H' → B x H' Nx) := by
  refine ⟨fun i m H => m = n - i ∧ i ≤ n ∧ Pv i H, ⟨n, rfl, Nat.zero_le _, h0⟩, ?_⟩
  rintro i m H ⟨rfl, hi, p⟩
  by_cases lt : i < n
  · refine .inr ⟨lt, Pv (i + 1), fun H' p' => ⟨n - (i + 1), by omega, rfl, lt, p'⟩, ?_⟩
    rintro x H' ⟨rfl, rfl⟩
    exact hs i _ lt p
  · obtain rfl : i = n := by omega
    exact .inl ⟨Nat.le_refl _, hd H p⟩
end
theorem szl {n : Nat} (h : n ≤ 1000 := by simp) : n ≤ sizeLine := Nat.le_of_lt (small1000 h)
/-! ### a list of data at D, new since H0 -/
structure Grow (K : PySem.W.Frag) (H0 : Hp) (D : Addr) (ds : List PyData) (H : Hp) : Prop where
  same : Same H0 H
  free : H0 D = none
  at_ : ∃ vs, H D = some (.lst vs) ∧ Ims K H vs ds
section
variable {K : PySem.W.Frag} {H0 H H' : Hp} {D : Addr} {ds : List PyData}
theorem Grow.start (h : H0 D = none) : Grow K H0 D [] (upd H0 D (.lst [])) := ⟨sameUpd h, h, [], upd_same, .nil⟩
theorem Grow.ext (g : Grow K H0 D ds H) (s : Same H H') : Grow K H0 D ds H' := by
  obtain ⟨vs, e, r⟩ := g.at_
  exact ⟨g.same.trans s, g.free, vs, s _ _ e, Ims.kt (Same.kt s) r⟩
theorem Grow.push (g : Grow K H0 D ds H) {y : V} {d : PyData} (h : Im K H y d) (hz : ds.length < sizeLine) :
    ∃ acc, H D = some (.lst acc) ∧ acc.length < sizeLine ∧ Grow K H0 D (ds ++ [d]) (upd H D (.lst (acc ++ [y]))) := by
  obtain ⟨vs, e, r⟩ := g.at_
  refine ⟨vs, e, by rw [Ims.len r]; exact hz, fun b o q => ?_, g.free, vs ++ [y], upd_same, Ims.kt (ktUpd e) (Ims.app r (.one h))⟩
  rw [upd_ne (ne_of_none q g.free)]
  exact g.same b o q
/-- what is new is not what was -/
theorem Grow.fresh (g : Grow K H0 D ds H) {s0 : Hp} (s : Same s0 H0) : s0 D = none := s.free g.free
end
theorem SqL.same {K : PySem.W.Frag} {H H' : Hp} {a : Addr} {xs : List V} (s : Same H H') (h : SqL K H a xs) : SqL K H' a xs := L2.Same.seq s h
theorem SqT.same {K : PySem.W.Frag} {H H' : Hp} {a : Addr} {xs : List V} (s : Same H H') (h : SqT K H a xs) : SqT K H' a xs := SqT.kt (Same.kt s) h
/-- a new tuple of data -/
theorem Im.new {K : PySem.W.Frag} {H : Hp} {p : Addr} {vs : List V} {ds : List PyData} (h : H p = none) (r : Ims K H vs ds) : Im K (upd H p (.tup vs)) (.ref p) (.tuple ds) := .tup (.inl (.inl upd_same)) (Ims.kt (Same.kt (sameUpd h)) r)
theorem Ims.nil_iff {K : PySem.W.Frag} {H : Hp} {vs : List V} {ds : List PyData} (r : Ims K H vs ds) : vs = [] ↔ ds = [] := by
  cases r <;> simp
/-! ### tests whose answer is known -/
theorem iteD {p A B : Prop} [Decidable p] (h : p) (a : A) : if decide p = true then A else B := by
  rw [decide_eq_true h]; exact iteT a
theorem iteND {p A B : Prop} [Decidable p] (h : ¬ p) (b : B) : if decide p = true then A else B := by
  rw [decide_eq_false h]; exact iteF b
theorem iteNF {p A B : Prop} [Decidable p] (h : ¬ p) (a : A) : if (!decide p) = true then A else B := by
  rw [decide_eq_false h]; exact iteT a
/-! ### exceptions without data -/
structure ExcF (K : PySem.W.Frag) (mg : Str → Option Value) (x : Str) (C : Addr) : Prop where
  g : mg x = some (.ref C)
  ex : PySem.W.excIn K C [.type "ValueError", .type "Exception", .type "BaseException", .type "object"] "ValueError.__new__" = true
  kp : PySem.W.keepIn K (.ref C) = true
  sub : PySem.W.subIn K (.ref C) (.type "BaseException") = some true
  ty : PySem.W.typeIn K (.ref C) = some (.type "type")
  me : PySem.W.exmOne K (.ref C) (.ref C) = some true
section
variable {X : Cx} {Z : CXT} {k : Nat} {ps : List Str} {sp : Sp} {E : L2.St → XK} {x : Str} {p pos : Pos} {e : Expr} {es : List Expr} {t : TA}
/-- x(e, ..) of a def that may raise, in a try's body -/
theorem pe_hasS (h : Has X.prog X.w X.K X.mg X.base Z x k ps sp) (hr : Room k X.A) (hg : Gl X x) (hx : ∀ σ, PassesAt Z X σ (E σ)) (ha : PA X (e :: es) t) (hdb : (x == ("__debug__" : Str)) = false := by decide)
    (he : starEach (e :: es) X.env = (false, eval e X.env) :: starEach es X.env := by rfl) (hpl : (backTo pos (starEach es X.env)).any (·.1) = false := by rfl) : PE X (.Call (.Name x p) (e :: es) [] pos) (tCallS sp E t) := by
  obtain ⟨f, fd, a, b, c, F⟩ := h
  exact pe_callS F hr hg a b c.b hx ha hdb he hpl
end
end Hk
set_option maxRecDepth 100000
set_option maxHeartbeats 2000000
namespace Hk
open PySem PySem.Spec PyProof.Rows
open L2
/-- at most so deep, at most so heavy -/
structure OkAt (n w : Nat) (d : PyData) : Prop where
  lay : d.canLay0 = true
  dep : d.depth ≤ n
  sho : d.showable = true
  lea : d.leavesShort 13 = true
  wei : d.weight ≤ w
theorem OkAt.okd {n w : Nat} {d : PyData} (h : OkAt n w d) (hn : n ≤ 64) (hw : w ≤ 1048576) : okd d = true := by
  unfold Hk.okd SeqAt.shaped
  rw [h.lay, h.sho, h.lea, decide_eq_true (Nat.le_trans h.dep hn), decide_eq_true (Nat.le_trans h.wei hw)]; rfl
theorem OkAt.mono {n w n' w' : Nat} {d : PyData} (h : OkAt n w d) (hn : n ≤ n') (hw : w ≤ w') : OkAt n' w' d := ⟨h.lay, Nat.le_trans h.dep hn, h.sho, h.lea, Nat.le_trans h.wei hw⟩
theorem OkAt.non : OkAt 0 0 .none := ⟨rfl, Nat.le_refl _, rfl, rfl, Nat.le_refl _⟩
theorem OkAt.bl (b : Bool) : OkAt 0 0 (.bool b) := ⟨rfl, Nat.le_refl _, rfl, rfl, Nat.le_refl _⟩
theorem log2_lt {n k : Nat} (h : n < 2 ^ k) (hk : 0 < k) : n.log2 < k := by
  by_cases z : n = 0
  · subst z; simpa using hk
  · exact (Nat.log2_lt z).mpr h
theorem OkAt.int {i : Int} (h : i.natAbs < 1000000000000) : OkAt 0 40 (.int i) := by
  have hl : i.natAbs.log2 < 40 := log2_lt (Nat.lt_trans h (by decide)) (by decide)
  refine ⟨rfl, Nat.le_refl _, ?_, ?_, ?_⟩
  · exact decide_eq_true (Nat.lt_trans hl (by decide))
  · have e := int_text_length_le10 (a := i) (k := 12) (by decide) (Nat.lt_of_lt_of_le h (by decide))
    refine decide_eq_true (show (Str.ofString (toString i)).length ≤ 13 from ?_)
    rw [PySem.ofString_length]; exact e
  · show (if i == 0 then 0 else i.natAbs.log2 + 1) ≤ 40
    split <;> omega
section
variable {n w : Nat}
theorem okAll : ∀ {ds : List PyData}, (∀ d ∈ ds, OkAt n w d) → PyData.canLayAll0 ds = true ∧ PyData.depthAll ds ≤ n ∧ PyData.showableAll ds = true ∧ PyData.leavesShortAll 13 ds = true ∧ PyData.weightAll ds ≤ (w + 1) * ds.length
  | [], _ => ⟨rfl, Nat.zero_le _, rfl, rfl, Nat.zero_le _⟩
  | d :: ds, h => by
    obtain ⟨a, b, c, e, f⟩ := okAll (ds := ds) (fun x hx => h x (List.mem_cons_of_mem _ hx))
    have hd := h d List.mem_cons_self
    refine ⟨?_, ?_, ?_, ?_, ?_⟩
    · show (d.canLay0 && PyData.canLayAll0 ds) = true
      rw [hd.lay, a]; rfl
    · exact Nat.max_le.mpr ⟨hd.dep, b⟩
    · show (d.showable && PyData.showableAll ds) = true
      rw [hd.sho, c]; rfl
    · show (d.leavesShort 13 && PyData.leavesShortAll 13 ds) = true
      rw [hd.lea, e]; rfl
    · show d.weight + 1 + PyData.weightAll ds ≤ (w + 1) * (ds.length + 1)
      have := hd.wei
      rw [Nat.mul_add, Nat.mul_one]; omega
theorem OkAt.tup {ds : List PyData} (h : ∀ d ∈ ds, OkAt n w d) {m : Nat} (hm : ds.length ≤ m) : OkAt (n + 1) ((w + 1) * m) (.tuple ds) := by
  obtain ⟨a, b, c, e, f⟩ := okAll h
  refine ⟨a, Nat.succ_le_succ b, c, e, Nat.le_trans f (Nat.mul_le_mul_left _ hm)⟩
theorem OkAt.lst {ds : List PyData} (h : ∀ d ∈ ds, OkAt n w d) {m : Nat} (hm : ds.length ≤ m) : OkAt (n + 1) ((w + 1) * m) (.list ds) := by
  obtain ⟨a, b, c, e, f⟩ := okAll h
  refine ⟨a, Nat.succ_le_succ b, c, e, Nat.le_trans f (Nat.mul_le_mul_left _ hm)⟩
end
end Hk
set_option maxRecDepth 100000
set_option maxHeartbeats 2000000
namespace Hk
open PySem PySem.Spec PyProof.Rows
open L2
section
variable {fa : List He.Fa} {fn : List He.DefD} {K : PySem.W.Frag} {h : Heap} {mg : Str → Option Value}
theorem src_of (X : K.In h) (G : h.Ns mainGlobals mg) (c : He.SaysD fa fn K) (i j : Nat) {x : Str} {st : Stmt} (hi : fa[i]? = some (.glo x) := by rfl) (hj : fn[j]? = some ⟨(x, none), x, x, defArgs st, defBody st, defScope st, [], []⟩ := by rfl) : Src K mg x st := by
  obtain ⟨fd, F⟩ := c.def_ j hj
  exact ⟨_, fd, He.glo_ok X G (c.fact i hi), F⟩
theorem exc_of (X : K.In h) (G : h.Ns mainGlobals mg) (c : He.SaysD fa fn K) (i j k : Nat) {x : Str} (hi : fa[i]? = some (.glo x) := by rfl) (hj : fa[j]? = some (.exc x) := by rfl) (hk : fa[k]? = some (.exm x x true) := by rfl) : ExcF K mg x (He.ga K x) := by
  obtain ⟨a, b, d, e⟩ := He.exc_ok (c.fact j hj)
  exact ⟨He.glo_ok X G (c.fact i hi), a, b, d, e, He.exm_ok (c.fact k hk)⟩
theorem int_of (X : K.In h) (G : h.Ns mainGlobals mg) (c : He.SaysD fa fn K) (i : Nat) {x : Str} {n : Int} (hi : fa[i]? = some (.int x n) := by rfl) : ∃ t, mg x = some (.int n t) := He.int_ok X G (c.fact i hi)
theorem str_of (X : K.In h) (G : h.Ns mainGlobals mg) (c : He.SaysD fa fn K) (i : Nat) {x z : Str} (hi : fa[i]? = some (.str x z) := by rfl) : ∃ t, mg x = some (.str z t) := He.str_ok X G (c.fact i hi)
theorem free_of (X : K.In h) (G : h.Ns mainGlobals mg) (c : He.SaysD fa fn K) (i : Nat) {x : Str} (hi : fa[i]? = some (.free x) := by rfl) : mg x = none := He.free_ok X G (c.fact i hi)
end
/-- what the law promises -/
def spLaw (K : PySem.W.Frag) : Sp := fun vs H Q _ => ∃ (a : Addr) (ns : List Int), vs = [.ref a] ∧ SqL K H a (ns.map V.int) ∧ ∀ H', Q (.bl true) H'
/-- THE END: the law keeps its promise over the head's facts -/
theorem law_end {l : PySem.W.OpenLaw} {k : Nat} {q : Program} {loose : List Str} {XP : (Str → Option Value) → Heap → Prop} {d : DefRec} {n : Nat} {fa : List He.Fa} {fn : List He.DefD}
    (hn : l.most = some 63) (hdf : d.params.defaults = []) (hd : d.name = "law") (hr : Room k callerA)
    (F : ∀ (w : World) (K : PySem.W.Frag) (mg : Str → Option Value) (h : Heap), K.In h → h.Ns mainGlobals mg → He.SaysD fa fn K → ∀ base : Heap, HasG l.prog w K mg base CX0 "law" k ["script"] (spLaw K)) :
    PySem.W.WalkO q loose XP (He.hookD n fa fn).says l.row.toRowW d [] (fun f vs => PySem.call f vs) := by
  refine walk_ofG (n := 63) (k := k) (x := "script") (Z := CX0) hn (by decide) hdf hr ?_ (fun _ _ _ _ z => z)
  intro w mg f h Y G hmg
  obtain ⟨K, KX, c⟩ := Y
  rw [hd] at hmg
  refine ⟨K, spLaw K, KX, fun H a ns _ _ hS => ⟨a, ns, rfl, hS, fun _ => rfl⟩, fun base _ _ => ?_⟩
  obtain ⟨f2, fd, g2, _, bd, FG⟩ := F w K mg h KX G c base
  obtain rfl : f2 = f := by
    rw [hmg] at g2
    injection Option.some.inj g2 with e
    exact e.symm
  exact ⟨fd, FG, fun s u => bd s [u] rfl⟩
end Hk
set_option maxRecDepth 100000
set_option maxHeartbeats 4000000
namespace K20
open PySem PySem.Spec PyProof.Rows
open L2 Hk
/-- the i-th row of the top -/
def tp (i : Nat) : Stmt := PySem.Challenge.pw_everymap_k20_labels_and_tracks.main.body.getD i (.Pass ⟨0, 0, 0, 0⟩)
abbrev s_is_number : Stmt := tp 7
theorem sc_is_number : FnScope ["thing"] ["thing"] (defScope s_is_number) := ⟨rfl, rfl, rfl, by decide +kernel, rfl, by decide +kernel, by decide +kernel⟩
abbrev s_is_between : Stmt := tp 8
theorem sc_is_between : FnScope ["thing", "low", "high"] ["thing", "low", "high"] (defScope s_is_between) := ⟨rfl, rfl, rfl, by decide +kernel, rfl, by decide +kernel, by decide +kernel⟩
abbrev s_all_labels : Stmt := tp 11
theorem sc_all_labels : FnScope ["hues", "many", "found", "hue", "lap", "label", "mark"] ["hues", "many"] (defScope s_all_labels) := ⟨rfl, rfl, rfl, by decide +kernel, rfl, by decide +kernel, by decide +kernel⟩
abbrev s_check_tracks : Stmt := tp 12
theorem sc_check_tracks : FnScope ["hues", "things", "sets"] ["hues", "things", "sets"] (defScope s_check_tracks) := ⟨rfl, rfl, rfl, by decide +kernel, rfl, by decide +kernel, by decide +kernel⟩
abbrev s_labels_of : Stmt := tp 13
theorem sc_labels_of : FnScope ["hues", "things", "sets"] ["hues", "things", "sets"] (defScope s_labels_of) := ⟨rfl, rfl, rfl, by decide +kernel, rfl, by decide +kernel, by decide +kernel⟩
abbrev s_law_bag : Stmt := tp 15
theorem sc_law_bag : FnScope ["script", "cell"] ["script"] (defScope s_law_bag) := ⟨rfl, rfl, rfl, by decide +kernel, rfl, by decide +kernel, by decide +kernel⟩
abbrev s_law_take : Stmt := tp 16
theorem sc_law_take : FnScope ["bag", "many", "cell", "stirred", "drawn", "begin", "second"] ["bag", "many"] (defScope s_law_take) := ⟨rfl, rfl, rfl, by decide +kernel, rfl, by decide +kernel, by decide +kernel⟩
abbrev s_law_alike : Stmt := tp 17
theorem sc_law_alike : FnScope ["found", "due"] ["found", "due"] (defScope s_law_alike) := ⟨rfl, rfl, rfl, by decide +kernel, rfl, by decide +kernel, by decide +kernel⟩
abbrev s_law_labels : Stmt := tp 18
theorem sc_law_labels : FnScope ["hues", "many", "found", "hue", "lap", "label"] ["hues", "many"] (defScope s_law_labels) := ⟨rfl, rfl, rfl, by decide +kernel, rfl, by decide +kernel, by decide +kernel⟩
abbrev s_law_refused : Stmt := tp 19
theorem sc_law_refused : FnScope ["hues", "things", "sets"] ["hues", "things", "sets"] (defScope s_law_refused) := ⟨rfl, rfl, rfl, by decide +kernel, rfl, by decide +kernel, by decide +kernel⟩
abbrev s_law : Stmt := tp 20
theorem sc_law : FnScope ["script", "bag", "lap", "hues", "things", "sets", "bad", "one"] ["script"] (defScope s_law) := ⟨rfl, rfl, rfl, by decide +kernel, rfl, by decide +kernel, by decide +kernel⟩
end K20
set_option maxRecDepth 100000
set_option maxHeartbeats 4000000
namespace K20
open PySem PySem.Spec PyProof.Rows
open L2 Hk
section
variable {P : Program} {w : World} {K : PySem.W.Frag} {mg : Str → Option Value} {base : Heap}
/-! ### whole numbers -/
def isNum : PyData → Bool
  | .int _ => true
  | _ => false
theorem isNum_eq (d : PyData) : (isT d "int" && !isT d "bool") = isNum d := by cases d <;> rfl
def spNum (K : PySem.W.Frag) : Sp := fun vs H Q _ => ∃ x d, vs = [x] ∧ Dp K H x d ∧ Q (.bl (isNum d)) H
theorem ok_is_number (S : Src K mg "is_number" s_is_number) (m_isinstance : mg "isinstance" = none) (m_int : mg "int" = none) (m_bool : mg "bool" = none) :
    Has P w K mg base CX0 "is_number" 1 ["thing"] (spNum K) := by
  refine S.has sc_is_number (fun _ _ _ _ _ _ us hl => match us, hl with | [_], _ => rfl) (fun vs H Q E ⟨x, d, e, _⟩ => e ▸ rfl) (fun f cdv A out s H vs Q E hr ⟨x, d, e, hd, q⟩ => ⟨_, (pss_one (ps_ret (pe_and (pe_callB (call_uisi (K := K)) rfl m_isinstance bb_isinstance (pa_cons (pv 0) (pa_cons (pe_cty bb_int m_int rfl) pa_nil))) (pe_one (pe_not (pe_callB (call_uisi (K := K)) rfl m_isinstance bb_isinstance (pa_cons (pv 0) (pa_cons (pe_cty bb_bool m_bool rfl) pa_nil)))))))), ?_⟩)
  subst e
  refine ⟨x, rfl, .dat hd (by decide) ⟨_, rfl, ?_⟩⟩
  rw [← isNum_eq] at q
  cases h : isT d "int" with
  | false => rw [h] at q; exact q
  | true =>
    rw [h] at q
    exact ⟨x, rfl, .dat hd (by decide) ⟨_, rfl, q⟩⟩
def isBet (d : PyData) (a b : Int) : Bool := match d with
  | .int i => decide (a ≤ i) && decide (i ≤ b)
  | _ => false
def spBet (K : PySem.W.Frag) : Sp := fun vs H Q _ => ∃ x d a b, vs = [x, .int a, .int b] ∧ Dp K H x d ∧ Q (.bl (isBet d a b)) H
theorem ok_is_between (S : Src K mg "is_between" s_is_between) (h_is_number : Has P w K mg base CX0 "is_number" 1 ["thing"] (spNum K)) : Has P w K mg base CX0 "is_between" 2 ["thing", "low", "high"] (spBet K) := by
  refine S.has sc_is_between (fun _ _ _ _ _ _ us hl => match us, hl with | [_, _, _], _ => rfl) (fun vs H Q E ⟨x, d, a, b, e, _⟩ => e ▸ rfl) (fun f cdv A out s H vs Q E hr ⟨x, d, a, b, e, hd, q⟩ => ⟨_, (pss_one (ps_ret (pe_and (pe_has h_is_number (hr.mono (by decide)) rfl pass0 (pa_cons (pv 0) pa_nil)) (pe_one (pe_chain op_ule op_ule (pv 1) (pv 0) (pv 2)))))), ?_⟩)
  subst e
  refine ⟨x, rfl, x, d, rfl, hd, _, rfl, ?_⟩
  cases hd with
  | int i =>
    refine ⟨_, rfl, _, rfl, _, _, rfl, rfl, _, rfl, ?_⟩
    simp only [isBet] at q
    by_cases h : a ≤ i
    · simp only [h, decide_true, Bool.true_and, if_true] at q ⊢
      exact ⟨_, rfl, _, _, rfl, rfl, q⟩
    · simpa only [h, decide_false, Bool.false_and, Bool.false_eq_true, if_false] using q
  | _ => exact q
end
end K20
set_option maxRecDepth 100000
set_option maxHeartbeats 4000000
namespace K20
open PySem PySem.Spec PyProof.Rows
open L2 Hk
section
variable {P : Program} {w : World} {K : PySem.W.Frag} {mg : Str → Option Value} {base : Heap}
theorem ok_law_take (S : Src K mg "_law_take" s_law_take) (m_int : mg "int" = none) : Has P w K mg base CX0 "_law_take" 1 ["bag", "many"] spTake := by
  refine S.has sc_law_take (fun _ _ _ _ _ _ us hl => match us, hl with | [_, _], _ => rfl) (fun vs H Q E ⟨b, m, e, _⟩ => e ▸ rfl) (fun f cdv A out s H vs Q E hr ⟨b, m, e, m0, m1, bag, q⟩ => ?_)
  have hu64 := hr.units
  refine ⟨_, (C8.pss_cut (ps_if (pt_cmpR (op_ueq (K := K) hu64) (pe_ix (ix_u (K := K)) (pv 0) pe_int (fun _ _ => rfl)) pe_int (nomark _))
      (pss_cons (ps_set (i := 2) sc_law_take.nd rfl (by first | exact Or.inl rfl | exact Or.inr rfl) (pe_ix (ix_u (K := K)) (pe_op (op_uadd (K := K)) (pe_slice (sl_u (K := K)) (pe_ix (ix_u (K := K)) (pv 0) pe_int (fun _ _ => rfl)) (po_some (pe_ix (ix_u (K := K)) (pv 0) pe_int (fun _ _ => rfl))) po_none) (pe_lst (pa_cons pe_int pa_nil))) pe_int (fun _ _ => rfl)))
    (pss_cons (ps_augS (pv 0) pe_int (get_ulist (K := K)) pe_int ip_add set_list)
    (C8.pss_cut (ps_if (pt_cmpR op_uge (pv 2) (pe_op op_upow pe_int pe_int) (nomark _))
      (pss_one (ps_asg (pv 2) (pg_sub (pv 0) pe_int set_list)))
      pss_nil)
    (pss_cons (ps_set (i := 3) sc_law_take.nd rfl (by first | exact Or.inl rfl | exact Or.inr rfl) (pe_op (op_uadd (K := K)) (pe_op (op_uadd (K := K)) (pe_op op_umul (pe_ix (ix_u (K := K)) (pv 0) pe_int (fun _ _ => rfl)) pe_int) (pe_op op_umod (pe_callTy call_uint rfl m_int bb_int (pa_cons (pv 2) pa_nil)) pe_int)) (pe_op op_umul pe_int (pe_ix (ix_u (K := K)) (pv 0) pe_int (fun _ _ => rfl)))))
    (pss_one (ps_asg (pe_op op_umod (pe_callTy call_uint rfl m_int bb_int (pa_cons (pv 3) pa_nil)) pe_int) (pg_sub (pv 0) pe_int set_list)))))))
      pss_nil)
    (pss_cons (ps_if (pt_cmpR op_ugt (pe_ix (ix_u (K := K)) (pv 0) pe_int (fun _ _ => rfl)) pe_int (nomark _))
      (pss_cons (ps_set (i := 4) sc_law_take.nd rfl (by first | exact Or.inl rfl | exact Or.inr rfl) (pe_op op_umod (pe_callTy call_uint rfl m_int bb_int (pa_cons (pe_ix (ix_u (K := K)) (pv 0) pe_int (fun _ _ => rfl)) pa_nil)) (pv 1)))
    (pss_cons (ps_asg (pe_op op_ufdiv (pe_callTy call_uint rfl m_int bb_int (pa_cons (pe_ix (ix_u (K := K)) (pv 0) pe_int (fun _ _ => rfl)) pa_nil)) (pv 1)) (pg_sub (pv 0) pe_int set_list))
    (pss_one (ps_ret (pv 4)))))
      pss_nil)
    (pss_cons (ps_set (i := 5) sc_law_take.nd rfl (by first | exact Or.inl rfl | exact Or.inr rfl) (pe_op op_umod (pe_callTy call_uint rfl m_int bb_int (pa_cons (pe_op op_umul (pe_op (op_uadd (K := K)) (pe_ix (ix_u (K := K)) (pv 0) pe_int (fun _ _ => rfl)) pe_int) pe_int) pa_nil)) pe_int))
    (pss_cons (ps_set (i := 6) sc_law_take.nd rfl (by first | exact Or.inl rfl | exact Or.inr rfl) (pe_op op_umod (pe_callTy call_uint rfl m_int bb_int (pa_cons (pe_op op_umul (pe_op op_umod (pe_callTy call_uint rfl m_int bb_int (pa_cons (pe_op op_umul (pv 5) (pv 5)) pa_nil)) pe_int) pe_int) pa_nil)) pe_int))
    (pss_one (ps_ret (pe_op op_umod (pe_callTy call_uint rfl m_int bb_int (pa_cons (pe_op op_ufdiv (pv 6) pe_int) pa_nil)) (pv 1)))))))), ?_⟩
  subst e
  obtain ⟨x, y, z, c, ns, hb, hc, y0, y1, hn⟩ := bag
  have cb : c ≠ b := bag_ne hb hc
  -- bag[0] == 0
  refine ⟨fun σ H' => ∃ (s2 s3 : Option V) (x y z : Int), σ = [some (.ref b), some (.int m), s2, s3, none, none, none] ∧ Keep1 b H H' ∧ H' b = some (.lst [.int x, .int y, .int z, .ref c]) ∧ H' c = some (.lst (ns.map V.int)) ∧ 0 ≤ y ∧ y < 2147483647, ?_, ?_⟩
  · refine ⟨_, rfl, .lst (SqL.of hb) at4_0 (.int ⟨_, rfl, ite2 (fun h => ?_) (fun _ => ?_)⟩)⟩
    · -- cell = (bag[3][bag[2]:] + [0])[0]
      refine ⟨_, rfl, .lst (SqL.of hb) at4_3 ⟨_, rfl, .lst (SqL.of hb) at4_2 ⟨_, rfl, .lst (SqL.of hc) (fun p np => ?_)⟩⟩⟩
      obtain ⟨ms, em, lm⟩ := cut_ints ns (some z) none
      rw [em]
      have s1 : Same H (upd H p (.lst (ms.map V.int))) := sameUpd np
      refine ⟨Nat.le_of_lt (small1000 (by decide)), fun p2 np2 => .lst (sameUpd np2 _ _ upd_same) upd_same (Nat.le_of_lt (small1000 (by simp; omega))) (fun p3 np3 => ?_)⟩
      have s2 := s1.trans (sameUpd (o := .lst [V.int 0]) np2)
      have s3 := s2.trans (sameUpd (o := .lst (ms.map V.int ++ [V.int 0])) np3)
      obtain ⟨cell, e0⟩ : ∃ cell, (ms.map V.int ++ [V.int 0])[0]? = some (V.int cell) := by cases ms with
        | nil => exact ⟨0, rfl⟩
        | cons a r => exact ⟨a, rfl⟩
      refine .lst (.inl (.inl upd_same)) (atL (k := 0) e0) ?_
      generalize upd (upd (upd H p (.lst (ms.map V.int))) p2 (.lst [V.int 0])) p3 (.lst (ms.map V.int ++ [V.int 0])) = H3 at s3 ⊢
      have hb3 := s3 _ _ hb
      have hc3 := s3 _ _ hc
      -- bag[2] += 1
      refine ⟨_, rfl, b, _, 2, _, rfl, rfl, SqL.of hb3, rfl, _, _, rfl, rfl, b, _, 2, 2, rfl, rfl, hb3, rfl, ?_⟩
      have k4 : Keep1 b H (upd H3 b (.lst [.int x, .int y, .int (z + 1), .ref c])) := (Same.k1 s3).trans k1Upd
      have hc4 : (upd H3 b (.lst [.int x, .int y, .int (z + 1), .ref c])) c = some (.lst (ns.map V.int)) := by rw [upd_ne cb]; exact hc3
      -- if cell >= 10 ** 18
      refine ⟨fun σ H' => ∃ (x : Int), σ = [some (.ref b), some (.int m), some (.int cell), none, none, none, none] ∧ Keep1 b H H' ∧ H' b = some (.lst [.int x, .int y, .int (z + 1), .ref c]) ∧ H' c = some (.lst (ns.map V.int)), ?_, ?_⟩
      · refine ⟨_, rfl, _, _, rfl, rfl, ⟨by decide, by decide, by decide⟩, _, _, rfl, rfl, _, rfl, ite2 (fun _ => ?_) (fun _ => ?_)⟩
        · refine ⟨_, rfl, _, rfl, b, _, 0, 0, rfl, rfl, upd_same, rfl, cell, rfl, k4.trans k1Upd, upd_same, ?_⟩
          rw [upd_ne cb]; exact hc4
        · exact ⟨x, rfl, k4, upd_same, hc4⟩
      · rintro σ H5 ⟨x, rfl, k5, hb5, hc5⟩
        -- stirred
        refine ⟨_, rfl, .lst (SqL.of hb5) at4_1 ⟨_, _, rfl, rfl, .inl ⟨by omega, by omega⟩, _, rfl, .int ⟨_, _, rfl, rfl, by decide, .int ⟨_, rfl, .lst (SqL.of hb5) at4_2 ⟨_, _, rfl, rfl, .inl ⟨by decide, by decide⟩, .int ?_⟩⟩⟩⟩⟩
        refine ⟨_, rfl, .int ⟨_, _, rfl, rfl, by decide, _, rfl, b, _, 1, 1, rfl, rfl, hb5, rfl, ?_⟩⟩
        obtain ⟨f0, f1⟩ := fmod_lt (a := y * 48271 + cell.fmod 2147483647 + 7919 * (z + 1)) (b := 2147483647) (by decide)
        refine ⟨_, _, x, _, z + 1, rfl, k5.trans k1Upd, upd_same, ?_, f0, f1⟩
        rw [upd_ne cb]; exact hc5
    · exact ⟨none, none, x, y, z, rfl, Keep1.refl _ _, hb, hc, y0, y1⟩
  · rintro σ H1 ⟨t2, t3, x, y, z, rfl, k1, hb, hc, y0, y1⟩
    have m2 : m ≠ 0 := by omega
    -- if bag[0] > 0
    refine ⟨_, rfl, .lst (SqL.of hb) at4_0 ⟨_, _, rfl, rfl, _, rfl, ite2 (fun _ => ?_) (fun _ => ?_)⟩⟩
    · refine ⟨_, rfl, .lst (SqL.of hb) at4_0 (.int ⟨_, rfl, _, _, rfl, rfl, m2, ?_⟩)⟩
      refine ⟨_, rfl, .lst (SqL.of hb) at4_0 (.int ⟨_, rfl, _, _, rfl, rfl, ⟨m2, by omega⟩, _, rfl, b, _, 0, 0, rfl, rfl, hb, rfl, _, rfl, ?_⟩)⟩
      obtain ⟨f0, f1⟩ := fmod_lt (a := x) m0
      refine q _ _ f0 f1 (k1.trans k1Upd) ⟨_, y, z, c, ns, upd_same, ?_, y0, y1, hn⟩
      rw [upd_ne cb]; exact hc
    · -- begin, second
      refine ⟨_, rfl, .lst (SqL.of hb) at4_1 (.int ⟨_, _, rfl, rfl, .inl ⟨by omega, by omega⟩, .int ⟨_, _, rfl, rfl, by decide, ?_⟩⟩)⟩
      obtain ⟨g0, g1⟩ := fmod_lt (a := (y + 1) * 39373) (b := 1000000007) (by decide)
      generalize ((y + 1) * 39373).fmod 1000000007 = g at g0 g1 ⊢
      refine ⟨_, rfl, _, rfl, _, _, rfl, rfl, .inl ⟨by omega, by omega⟩, .int ⟨_, _, rfl, rfl, by decide, ?_⟩⟩
      obtain ⟨i0, i1⟩ := fmod_lt (a := g * g) (b := 998244353) (by decide)
      generalize (g * g).fmod 998244353 = i at i0 i1 ⊢
      refine ⟨_, _, rfl, rfl, .inl ⟨by omega, by omega⟩, .int ⟨_, _, rfl, rfl, by decide, ?_⟩⟩
      refine ⟨_, rfl, _, _, rfl, rfl, ⟨by decide, by decide⟩, .int ⟨_, rfl, _, _, rfl, rfl, m2, ?_⟩⟩
      generalize ((i * 30011).fmod 998244353).fdiv 7 = j
      obtain ⟨f0, f1⟩ := fmod_lt (a := j) m0
      exact q _ _ f0 f1 k1 ⟨x, y, z, c, ns, hb, hc, y0, y1, hn⟩
end
end K20
set_option maxRecDepth 100000
set_option maxHeartbeats 4000000
namespace K20
open PySem PySem.Spec PyProof.Rows
open L2 Hk
/-! ### the mathematics -/
abbrev enc (l : List Int) : PyData := .tuple (l.map PyData.int)
def step1 (x : List Int) : List (List Int) := [x ++ [0], x ++ [1]]
def labs (h : Nat) : Nat → List (List Int)
  | 0 => (List.range h).map fun i : Nat => [(i : Int)]
  | n + 1 => (labs h n).flatMap step1
theorem flat2_len (l : List (List Int)) : (l.flatMap step1).length = 2 * l.length := by
  induction l with
  | nil => rfl
  | cons x l ih =>
    rw [List.flatMap_cons, List.length_append, ih, List.length_cons]
    show 2 + _ = _
    omega
theorem labs_len (h n : Nat) : (labs h n).length = h * 2 ^ n := by
  induction n with
  | zero => simp [labs]
  | succ n ih => rw [labs, flat2_len, ih, Nat.pow_succ, Nat.mul_left_comm, Nat.mul_comm 2]
theorem labs_short {h n : Nat} (hh : h ≤ 3) (hn : n ≤ 10) : (labs h n).length ≤ 3072 := by
  rw [labs_len]
  have : 2 ^ n ≤ 2 ^ 10 := Nat.pow_le_pow_right (by decide) hn
  calc h * 2 ^ n ≤ 3 * 2 ^ 10 := Nat.mul_le_mul hh this
    _ = 3072 := by decide
theorem labs_wide (h n : Nat) : ∀ x ∈ labs h n, x.length = n + 1 := by
  induction n with
  | zero => intro x hx; obtain ⟨i, _, rfl⟩ := List.mem_map.mp hx; rfl
  | succ n ih =>
    intro x hx
    obtain ⟨y, hy, hx⟩ := List.mem_flatMap.mp hx
    have e := ih y hy
    rcases List.mem_cons.mp hx with rfl | hx
    · simp [e]
    · obtain rfl := List.mem_singleton.mp hx
      simp [e]
section
variable {P : Program} {w : World} {K : PySem.W.Frag} {mg : Str → Option Value} {base : Heap}
/-- a new list of the labels -/
def spLabs (K : PySem.W.Frag) : Sp := fun vs H Q _ => ∃ (h n : Nat), vs = [.int h, .int n] ∧ h ≤ 3 ∧ n ≤ 10 ∧ ∀ (p : Addr) (H' : Hp) (us : List V), Same H H' → H p = none → H' p = some (.lst us) → Ims K H' us ((labs h n).map enc) → Q (.ref p) H'
theorem ok_all_labels (S : Src K mg "all_labels" s_all_labels) (m_range : mg "range" = none) : Has P w K mg base CX0 "all_labels" 1 ["hues", "many"] (spLabs K) := by
  refine S.has sc_all_labels (fun _ _ _ _ _ _ us hl => match us, hl with | [_, _], _ => rfl) (fun vs H Q E ⟨h, n, e, _⟩ => e ▸ rfl) (fun f cdv A out s H vs Q E hr ⟨h, n, e, hh, hn, q⟩ => ⟨_, (pss_cons (ps_setLc (i := 2) (own := [("hue", 3)]) (by rfl) sc_all_labels.nd rfl rfl (sw_true rfl rfl rfl (by decide +kernel)) (pi_range1 rfl m_range (pa_cons (pv 0) pa_nil)) (blkOk_by (N := ["hues", "many", "found", "hue", "lap", "label", "mark"]) (own := [("hue", 3)]) (sc := defScope s_all_labels) (by decide +kernel)) (fun _ _ _ _ _ => (pg_name (i := 3) sc_all_labels.nd rfl (by first | exact Or.inl rfl | exact Or.inr rfl))) (fun _ _ _ _ _ => pts_nil) (fun _ _ _ _ _ => (pe_tup (pa_cons (pv 3) pa_nil))))
    (pss_cons (ps_for PassesOwn.never rfl (pi_range1 rfl m_range (pa_cons (pv 1) pa_nil)) (pg_name (i := 4) sc_all_labels.nd rfl (by first | exact Or.inl rfl | exact Or.inr rfl))
      (pss_one (ps_setLc2 (i := 2) (own := [("label", 5), ("mark", 6)]) (by rfl) sc_all_labels.nd rfl rfl (sw_true rfl rfl rfl (by decide +kernel)) (pi_ulist (K := K) rfl (pv 2)) (blkOk_by (N := ["hues", "many", "found", "hue", "lap", "label", "mark"]) (own := [("label", 5), ("mark", 6)]) (sc := defScope s_all_labels) (by decide +kernel)) (vs1 := [6]) (by decide) (fun _ _ _ _ _ => (pg_name (i := 5) sc_all_labels.nd rfl (by first | exact Or.inl rfl | exact Or.inr rfl))) (fun _ _ _ _ _ => pts_nil) (fun _ _ _ _ _ => (pi_utup (K := K) rfl (pe_tup (pa_cons pe_int (pa_cons pe_int pa_nil))))) (fun _ _ _ _ _ => (pg_name (i := 6) sc_all_labels.nd rfl (by first | exact Or.inl rfl | exact Or.inr rfl))) (fun _ _ _ _ _ => pts_nil) (fun _ _ _ _ _ => (pe_op (op_uadd (K := K)) (pv 5) (pe_tup (pa_cons (pv 6) pa_nil)))))))
    (pss_one (ps_ret (pv 2))))), ?_⟩)
  subst e
  refine ⟨.int h, rfl, h, rfl, by omega, by omega, fun D nD => ?_⟩
  refine walk_range (Pv := fun i H1 => Grow K H D (((List.range i).map fun j : Nat => [(j : Int)]).map enc) H1) (Grow.start nD) (fun i H1 hi g => ?_) (fun H1 g => ?_)
  · refine ⟨rfl, _, rfl, szl, fun p np => ?_⟩
    have g2 := g.ext (sameUpd (o := .tup [V.int (0 + (i : Int))]) np)
    have im : Im K (upd H1 p (.tup [V.int (0 + (i : Int))])) (.ref p) (enc [(i : Int)]) := Im.new np (by rw [Int.zero_add]; exact .one (.int _))
    have e : ((List.range (i + 1)).map fun j : Nat => [(j : Int)]).map enc = ((List.range i).map fun j : Nat => [(j : Int)]).map enc ++ [enc [(i : Int)]] := by
      rw [List.range_succ, List.map_append, List.map_append]; rfl
    rw [e]
    exact g2.push im (small1000 (by simp; omega))
  · -- for lap in range(many)
    refine ⟨.int n, rfl, n, rfl, by omega, by omega, ?_⟩
    refine for_range (Pv := fun i σ H2 => ∃ (D : Addr) (s4 : Option V), σ = [some (.int h), some (.int n), some (.ref D), none, s4, none, none] ∧ Grow K H D ((labs h i).map enc) H2) ⟨D, none, rfl, g⟩ ?_ ?_
    · rintro i σ H2 hi ⟨D, s4, rfl, g⟩
      have hl : (labs h i).length ≤ 3072 := labs_short hh (by omega)
      obtain ⟨vs, eD, rs⟩ := g.at_
      refine ⟨.ref D, rfl, D, rfl, ⟨vs, SqL.of eD⟩, fun D2 nD2 => ?_⟩
      refine walk_list (xs := vs) (Pv := fun j H3 => Same H2 H3 ∧ Grow K H2 D2 (((labs h i).take j).flatMap step1 |>.map enc) H3) ⟨sameUpd nD2, Grow.start nD2⟩ (fun j H3 _ z => SqL.of (z.1 _ _ eD)) (fun j x H3 hx z => ?_) (fun H3 z => ?_)
      · obtain ⟨d, hd, ix⟩ := Ims.get rs hx
        obtain ⟨s3, g3⟩ := z
        obtain ⟨l, hl2, rfl⟩ : ∃ l, (labs h i)[j]? = some l ∧ enc l = d := by
          rw [List.getElem?_map] at hd
          cases e : (labs h i)[j]? with
          | none => rw [e] at hd; cases hd
          | some l => rw [e] at hd; exact ⟨l, rfl, Option.some.inj hd⟩
        have wl := labs_wide h i l (List.mem_of_getElem? hl2)
        have jl : j < (labs h i).length := (List.getElem?_eq_some_iff.mp hl2).1
        refine ⟨rfl, szl, fun T nT => ⟨T, rfl, ⟨_, SqT.of upd_same⟩, ?_⟩⟩
        refine walk_tup (xs := [V.int 0, V.int 1]) (Pv := fun k H4 => Same H2 H4 ∧ H4 T = some (.tup [V.int 0, V.int 1]) ∧ Grow K H2 D2 ((((labs h i).take j).flatMap step1 ++ (step1 l).take k).map enc) H4)
          ⟨s3.trans (sameUpd nT), upd_same, by rw [List.take_zero, List.append_nil]; exact g3.ext (sameUpd nT)⟩ (fun k H4 _ z => SqT.of z.2.1) (fun k y H4 hy z => ?_) (fun H4 z => ?_)
        · obtain ⟨s4, eT, g4⟩ := z
          obtain ⟨m, rfl, em⟩ : ∃ m : Int, y = .int m ∧ (step1 l).take (k + 1) = (step1 l).take k ++ [l ++ [m]] := by
            match k, hy with
            | 0, hy => exact ⟨0, (Option.some.inj hy).symm, rfl⟩
            | 1, hy => exact ⟨1, (Option.some.inj hy).symm, rfl⟩
          have ix4 := Im.kt (Same.kt s4) ix
          obtain ⟨xs, hT, rT⟩ : ∃ (a : Addr) (xs : List V), x = .ref a ∧ SqT K H4 a xs ∧ Ims K H4 xs (l.map PyData.int) := by
            cases ix4 with
            | tup h r => exact ⟨_, _, rfl, h, r⟩
          obtain ⟨rfl, hT, rT⟩ := rT
          have ll := Ims.len rT
          refine ⟨rfl, _, rfl, _, rfl, szl, fun p np => .tup (SqT.same (sameUpd np) hT) (SqT.of upd_same) (szl (by simp [ll]; omega)) (fun p2 H5 s5 ht => ?_)⟩
          have s45 := (sameUpd (o := .tup [V.int m]) np).trans s5
          have im : Im K H5 (.ref p2) (enc (l ++ [m])) := .tup ht (by rw [List.map_append]; exact Ims.app (Ims.kt (Same.kt s45) rT) (.one (.int m)))
          obtain ⟨acc, ea, la, g5⟩ := (g4.ext s45).push im (by
            rw [List.length_map, List.length_append, flat2_len, List.length_take]
            have : ((step1 l).take k).length ≤ 2 := by rw [List.length_take]; exact Nat.min_le_right _ _
            rw [sizeLine_eq]; omega)
          refine ⟨acc, ea, la, fun b o e => g5.same b o e, ?_, ?_⟩
          · rw [upd_ne]
            · exact s45 _ _ eT
            · rintro rfl
              rw [s45 _ _ eT] at ea
              cases ea
          · rw [em, ← List.append_assoc, List.map_append]
            exact g5
        · obtain ⟨s4, eT, g4⟩ := z
          refine ⟨s4, ?_⟩
          have e : ((labs h i).take (j + 1)).flatMap step1 = ((labs h i).take j).flatMap step1 ++ step1 l := by
            rw [List.take_add_one, hl2, List.flatMap_append]
            simp
          rw [e]
          exact g4
      · refine ⟨D2, some (.int (0 + (i : Int))), rfl, ?_⟩
        obtain ⟨s3, g3⟩ := z
        rw [Ims.len rs, List.length_map, List.take_length] at g3
        exact ⟨g.same.trans g3.same, g.same.free g3.free, g3.at_⟩
    · rintro σ H2 ⟨D, s4, rfl, g⟩
      obtain ⟨vs, eD, rs⟩ := g.at_
      exact ⟨_, rfl, q D H2 vs g.same g.free eD rs⟩
theorem ok_law_labels (S : Src K mg "_law_labels" s_law_labels) (m_range : mg "range" = none) (m_sum : mg "sum" = none) : Has P w K mg base CX0 "_law_labels" 1 ["hues", "many"] (spLabs K) := by
  refine S.has sc_law_labels (fun _ _ _ _ _ _ us hl => match us, hl with | [_, _], _ => rfl) (fun vs H Q E ⟨h, n, e, _⟩ => e ▸ rfl) (fun f cdv A out s H vs Q E hr ⟨h, n, e, hh, hn, q⟩ => ⟨_, (pss_cons (ps_setLc (i := 2) (own := [("hue", 3)]) (by rfl) sc_law_labels.nd rfl rfl (sw_true rfl rfl rfl (by decide +kernel)) (pi_range1 rfl m_range (pa_cons (pv 0) pa_nil)) (blkOk_by (N := ["hues", "many", "found", "hue", "lap", "label"]) (own := [("hue", 3)]) (sc := defScope s_law_labels) (by decide +kernel)) (fun _ _ _ _ _ => (pg_name (i := 3) sc_law_labels.nd rfl (by first | exact Or.inl rfl | exact Or.inr rfl))) (fun _ _ _ _ _ => pts_nil) (fun _ _ _ _ _ => (pe_tup (pa_cons (pv 3) pa_nil))))
    (pss_cons (ps_for PassesOwn.never rfl (pi_range1 rfl m_range (pa_cons (pv 1) pa_nil)) (pg_name (i := 4) sc_law_labels.nd rfl (by first | exact Or.inl rfl | exact Or.inr rfl))
      (pss_one (ps_set (i := 2) sc_law_labels.nd rfl (by first | exact Or.inl rfl | exact Or.inr rfl) (pe_callB (call_usumL (K := K) rfl) rfl m_sum bb_sum (pa_cons (pe_lc (own := [("label", 5)]) (by rfl) sc_law_labels.nd (pi_ulist (K := K) rfl (pv 2)) (blkOk_by (N := ["hues", "many", "found", "hue", "lap", "label"]) (own := [("label", 5)]) (sc := defScope s_law_labels) (by decide +kernel)) (fun _ _ _ _ _ => (pg_name (i := 5) sc_law_labels.nd rfl (by first | exact Or.inl rfl | exact Or.inr rfl))) (fun _ _ _ _ _ => pts_nil) (fun _ _ _ _ _ => (pe_lst (pa_cons (pe_op (op_uadd (K := K)) (pv 5) (pe_tup (pa_cons pe_int pa_nil))) (pa_cons (pe_op (op_uadd (K := K)) (pv 5) (pe_tup (pa_cons pe_int pa_nil))) pa_nil))))) (pa_cons (pe_lst pa_nil) pa_nil))))))
    (pss_one (ps_ret (pv 2))))), ?_⟩)
  subst e
  refine ⟨.int h, rfl, h, rfl, by omega, by omega, fun D nD => ?_⟩
  refine walk_range (Pv := fun i H1 => Grow K H D (((List.range i).map fun j : Nat => [(j : Int)]).map enc) H1) (Grow.start nD) (fun i H1 hi g => ?_) (fun H1 g => ?_)
  · refine ⟨rfl, _, rfl, szl, fun p np => ?_⟩
    have g2 := g.ext (sameUpd (o := .tup [V.int (0 + (i : Int))]) np)
    have im : Im K (upd H1 p (.tup [V.int (0 + (i : Int))])) (.ref p) (enc [(i : Int)]) := Im.new np (by rw [Int.zero_add]; exact .one (.int _))
    have e : ((List.range (i + 1)).map fun j : Nat => [(j : Int)]).map enc = ((List.range i).map fun j : Nat => [(j : Int)]).map enc ++ [enc [(i : Int)]] := by
      rw [List.range_succ, List.map_append, List.map_append]; rfl
    rw [e]
    exact g2.push im (small1000 (by simp; omega))
  · -- for lap in range(many)
    refine ⟨.int n, rfl, n, rfl, by omega, by omega, ?_⟩
    refine for_range (Pv := fun i σ H2 => ∃ (D : Addr) (s4 : Option V), σ = [some (.int h), some (.int n), some (.ref D), none, s4, none] ∧ Grow K H D ((labs h i).map enc) H2) ⟨D, none, rfl, g⟩ ?_ ?_
    · rintro i σ H2 hi ⟨D, s4, rfl, g⟩
      have hl : (labs h i).length ≤ 3072 := labs_short hh (by omega)
      obtain ⟨vs, eD, rs⟩ := g.at_
      refine ⟨.ref D, rfl, D, rfl, ⟨vs, SqL.of eD⟩, fun D2 nD2 => ?_⟩
      -- the list of lists at D2: its items are lists of two new labels
      refine walk_list (xs := vs) (Pv := fun j H3 => Same H2 H3 ∧ H2 D2 = none ∧ ∃ (bs : List Addr) (its : List (List V)), H3 D2 = some (.lst (bs.map V.ref)) ∧ its.length = bs.length ∧ bs.length = min j vs.length ∧ (∀ (k : Nat) (b : Addr), bs[k]? = some b → b ≠ D2 ∧ ∃ xs, its[k]? = some xs ∧ H3 b = some (.lst xs)) ∧
          Ims K H3 its.flatten ((((labs h i).take j).flatMap step1).map enc)) ⟨sameUpd nD2, nD2, [], [], upd_same, rfl, by simp, fun k b hk => by simp at hk, .nil⟩ (fun j H3 _ z => SqL.of (z.1 _ _ eD)) (fun j x H3 hx z => ?_) (fun H3 z => ?_)
      · obtain ⟨s3, f2, bs, its, e2, li, lb, hb, ri⟩ := z
        obtain ⟨d, hd, ix⟩ := Ims.get rs hx
        obtain ⟨l, hl2, rfl⟩ : ∃ l, (labs h i)[j]? = some l ∧ enc l = d := by
          rw [List.getElem?_map] at hd
          cases e : (labs h i)[j]? with
          | none => rw [e] at hd; cases hd
          | some l => rw [e] at hd; exact ⟨l, rfl, Option.some.inj hd⟩
        have wl := labs_wide h i l (List.mem_of_getElem? hl2)
        have jl : j < (labs h i).length := (List.getElem?_eq_some_iff.mp hl2).1
        have jv : j < vs.length := (List.getElem?_eq_some_iff.mp hx).1
        have lv : vs.length = (labs h i).length := by rw [Ims.len rs, List.length_map]
        obtain ⟨a, xs, rfl, hT, rT⟩ : ∃ (a : Addr) (xs : List V), x = .ref a ∧ SqT K H3 a xs ∧ Ims K H3 xs (l.map PyData.int) := by
          cases Im.kt (Same.kt s3) ix with
          | tup h r => exact ⟨_, _, rfl, h, r⟩
        have ll := Ims.len rT
        refine ⟨rfl, _, rfl, szl, fun p np => .tup (SqT.same (sameUpd np) hT) (SqT.of upd_same) (szl (by simp [ll]; omega)) (fun p2 H4 s4 ht2 => ?_)⟩
        have s34 := (sameUpd (o := .tup [V.int 0]) np).trans s4
        refine ⟨_, rfl, szl, fun p3 np3 => .tup (SqT.same (s34.trans (sameUpd np3)) hT) (SqT.of upd_same) (szl (by simp [ll]; omega)) (fun p4 H6 s6 ht4 => ?_)⟩
        have s46 := (sameUpd (o := .tup [V.int 1]) np3).trans s6
        have s36 := s34.trans s46
        refine ⟨szl, fun L nL => ⟨bs.map V.ref, ?_, ?_, ?_⟩⟩
        · exact (sameUpd nL) _ _ (s36 _ _ e2)
        · rw [List.length_map, sizeLine_eq]; omega
        · have LD : L ≠ D2 := by
            rintro rfl
            rw [s36 _ _ e2] at nL; cases nL
          have s37 : Same H3 (upd H6 L (.lst [.ref p2, .ref p4])) := s36.trans (sameUpd nL)
          have kt : KeepT H3 (upd (upd H6 L (.lst [.ref p2, .ref p4])) D2 (.lst (bs.map V.ref ++ [.ref L]))) := (Same.kt s37).trans (ktUpd (s37 _ _ e2))
          refine ⟨fun b o e => ?_, f2, bs ++ [L], its ++ [[.ref p2, .ref p4]], ?_, by simp [li], ?_, fun k b hk => ?_, ?_⟩
          · rw [upd_ne (ne_of_none e f2)]
            exact s37 _ _ (s3 _ _ e)
          · rw [upd_same, List.map_append]; rfl
          · rw [List.length_append, lb, List.length_singleton]; omega
          · by_cases hk2 : k < bs.length
            · rw [List.getElem?_append_left hk2] at hk
              obtain ⟨n2, xs2, h1, h2⟩ := hb k b hk
              refine ⟨n2, xs2, by rw [List.getElem?_append_left (by omega)]; exact h1, ?_⟩
              rw [upd_ne n2]; exact s37 _ _ h2
            · rw [List.getElem?_append_right (by omega)] at hk
              have hk3 : k - bs.length = 0 := by
                have := (List.getElem?_eq_some_iff.mp hk).1
                simp at this; omega
              rw [hk3] at hk
              obtain rfl := Option.some.inj hk
              refine ⟨LD, [.ref p2, .ref p4], by rw [List.getElem?_append_right (by omega), li, hk3]; rfl, ?_⟩
              rw [upd_ne LD]; exact upd_same
          · have e : ((labs h i).take (j + 1)).flatMap step1 = ((labs h i).take j).flatMap step1 ++ step1 l := by
              rw [List.take_add_one, hl2, List.flatMap_append]
              simp
            rw [e, List.map_append, List.flatten_append]
            refine Ims.app (Ims.kt kt ri) ?_
            have i2 : Im K H4 (.ref p2) (enc (l ++ [0])) := .tup ht2 (by rw [List.map_append]; exact Ims.app (Ims.kt (Same.kt s34) rT) (.one (.int 0)))
            have i4 : Im K H6 (.ref p4) (enc (l ++ [1])) := .tup ht4 (by rw [List.map_append]; exact Ims.app (Ims.kt (Same.kt s36) rT) (.one (.int 1)))
            have k6 : KeepT H6 (upd (upd H6 L (.lst [.ref p2, .ref p4])) D2 (.lst (bs.map V.ref ++ [.ref L]))) := (Same.kt (sameUpd nL)).trans (ktUpd (s37 _ _ e2))
            exact .cons (Im.kt ((Same.kt s46).trans k6) i2) (.cons (Im.kt k6 i4) .nil)
      · obtain ⟨s3, f2, bs, its, e2, li, lb, hb, ri⟩ := z
        have lv : vs.length = (labs h i).length := by rw [Ims.len rs, List.length_map]
        refine ⟨Nat.zero_le _, fun T nT => ?_⟩
        have sT : Same H3 (upd H3 T (.lst [])) := sameUpd nT
        have hl3 : (labs h i).take vs.length = labs h i := by rw [lv, List.take_length]
        rw [hl3] at ri
        have lf : its.flatten.length = 2 * (labs h i).length := by rw [Ims.len ri, List.length_map, flat2_len]
        refine ⟨D2, T, bs, its, [], rfl, SqL.of (sT _ _ e2), upd_same, li, fun k b hk => ?_, by rw [sizeLine_eq, lf, List.length_nil]; omega, fun e => ?_, fun p np => ?_⟩
        · obtain ⟨_, xs, h1, h2⟩ := hb k b hk
          exact ⟨xs, h1, sT _ _ h2⟩
        · -- no label at all: hues = 0
          have e3 : labs h i = [] := by
            have : its = [] := List.length_eq_zero_iff.mp (by rw [li, e]; rfl)
            rw [this] at lf
            exact List.length_eq_zero_iff.mp (by rw [List.flatten_nil, List.length_nil] at lf; omega)
          refine ⟨T, _, rfl, g.same.trans (s3.trans sT), g.same.free (s3.free nT), [], upd_same, ?_⟩
          rw [labs, e3]; exact .nil
        · refine ⟨p, _, rfl, g.same.trans (s3.trans (sT.trans (sameUpd np))), g.same.free (s3.free (sT.free np)), its.flatten, upd_same, ?_⟩
          exact Ims.kt (Same.kt (sT.trans (sameUpd np))) ri
    · rintro σ H2 ⟨D, s4, rfl, g⟩
      obtain ⟨vs, eD, rs⟩ := g.at_
      exact ⟨_, rfl, q D H2 vs g.same g.free eD rs⟩
end
end K20
set_option maxRecDepth 100000
set_option maxHeartbeats 4000000
namespace K20
open PySem PySem.Spec PyProof.Rows
open L2 Hk
section
variable {P : Program} {w : World} {K : PySem.W.Frag} {mg : Str → Option Value} {base : Heap}
theorem ok_law_bag (S : Src K mg "_law_bag" s_law_bag) (m_abs : mg "abs" = none) : Has P w K mg base CX0 "_law_bag" 1 ["script"] (spBag K) := by
  refine S.has sc_law_bag (fun _ _ _ _ _ _ us hl => match us, hl with | [_], _ => rfl) (fun vs H Q E ⟨a, ns, e, _⟩ => e ▸ rfl) (fun f cdv A out s H vs Q E hr ⟨a, ns, e, hS, q⟩ => ⟨_, (pss_one (ps_ret (pe_lst (pa_cons pe_int (pa_cons pe_int (pa_cons pe_int (pa_cons (pe_lc (own := [("cell", 1)]) (by rfl) sc_law_bag.nd (pi_ulist (K := K) rfl (pe_slice (sl_u (K := K)) (pv 0) po_none (po_some pe_int))) (blkOk_by (N := ["script", "cell"]) (own := [("cell", 1)]) (sc := defScope s_law_bag) (by decide +kernel)) (fun _ _ _ _ _ => (pg_name (i := 1) sc_law_bag.nd rfl (by first | exact Or.inl rfl | exact Or.inr rfl))) (fun _ _ _ _ _ => pts_nil) (fun _ _ _ _ _ => (pe_callB call_uabs rfl m_abs bb_abs (pa_cons (pv 1) pa_nil)))) pa_nil))))))), ?_⟩)
  subst e
  obtain ⟨ms, em, lm⟩ := cut_ints ns none (some 63)
  have l63 : ms.length ≤ 63 := by
    have e1 : (cutV (ns.map V.int) none (some 63)).length ≤ 63 := by
      unfold cutV
      rw [List.length_take, show HT.sIx (ns.map V.int).length (ns.map V.int).length (some 63) = min 63 (ns.map V.int).length from HT.sIx_nat _ _ 63]
      omega
    rw [em, List.length_map] at e1
    exact e1
  refine ⟨.ref a, rfl, 63, rfl, .lst hS (fun p np => ⟨p, rfl, ⟨_, SqL.of upd_same⟩, fun D nD => ?_⟩)⟩
  rw [em] at nD ⊢
  refine walk_list (xs := ms.map V.int) (Pv := fun i H1 => Same (upd H p (.lst (ms.map V.int))) H1 ∧ ∃ ks : List Int, ks.length = min i ms.length ∧ H1 D = some (.lst (ks.map V.int))) ⟨sameUpd nD, [], by simp, upd_same⟩ (fun i H1 _ z => SqL.of (z.1 _ _ upd_same)) (fun i x H1 hx z => ?_) (fun H1 z => ?_)
  · obtain ⟨s1, ks, lk, e1⟩ := z
    rw [List.getElem?_map] at hx
    have li : i < ms.length := by
      cases e : ms[i]? with
      | none => rw [e] at hx; cases hx
      | some n => exact (List.getElem?_eq_some_iff.mp e).1
    obtain ⟨n, rfl⟩ : ∃ n : Int, x = .int n := by
      cases e : ms[i]? with
      | none => rw [e] at hx; cases hx
      | some n => rw [e] at hx; exact ⟨n, (Option.some.inj hx).symm⟩
    refine ⟨rfl, _, rfl, .int ⟨ks.map V.int, e1, small1000 (by rw [List.length_map, lk]; omega), fun b o hb => ?_, ks ++ [if n < 0 then -n else n], by rw [List.length_append, lk, List.length_singleton]; omega, by rw [upd_same, List.map_append]; rfl⟩⟩
    rw [upd_ne (ne_of_none hb nD)]
    exact s1 _ _ hb
  · obtain ⟨s1, ks, lk, e1⟩ := z
    have s2 : Same H H1 := (sameUpd np).trans s1
    refine ⟨szl, fun b nb => q b _ (s2.trans (sameUpd nb)) (s2.free nb) ⟨0, 1234567891, 0, D, ks, upd_same, ?_, by decide, by decide, by rw [lk]; simp; omega⟩⟩
    exact sameUpd nb _ _ e1
theorem ok_law_alike (S : Src K mg "_law_alike" s_law_alike) (m_repr : mg "repr" = none) : HasG P w K mg base CX0 "_law_alike" 1 ["found", "due"] (spAlike K) := by
  refine S.hasG sc_law_alike (fun _ _ _ _ _ _ us hl => match us, hl with | [_, _], _ => rfl) (fun vs H Q E ⟨x, y, d, e, _⟩ => e ▸ rfl) (fun f cdv A out s H vs Q E gd hr ⟨x, y, d, e, hx, hy, ok, q⟩ => ?_)
  have hu64 := hr.units
  have hu66 : (A.deeper (envOfC "_law_alike" (defScope s_law_alike) s.heap.objs.size f cdv)).units + 66 < cLine := by have := hr.un; omega
  refine ⟨_, (pss_one (ps_ret (pe_and (pe_cmpR (op_ueq (K := K) hu64) (pe_callB (call_reprD gd hu66) rfl m_repr bb_repr (pa_cons (pv 0) pa_nil)) (pe_callB (call_reprD gd hu66) rfl m_repr bb_repr (pa_cons (pv 1) pa_nil)) (nomark _)) (pe_one (pe_cmpR (op_ueq (K := K) hu64) (pv 0) (pv 1) (nomark _)))))), ?_⟩
  subst e
  refine ⟨_, rfl, x, d, rfl, hx, ok, _, rfl, y, d, rfl, hy, ok, .str ⟨_, rfl, iteD rfl ?_⟩⟩
  refine ⟨_, rfl, _, rfl, .dat hx hy (okd.shaped ok) (okd.shaped ok) ?_⟩
  rw [okd.refl ok]; exact q
end
end K20
set_option maxRecDepth 100000
set_option maxHeartbeats 4000000
namespace K20
open PySem PySem.Spec PyProof.Rows
open L2 Hk
section
variable {P : Program} {w : World} {K : PySem.W.Frag} {mg : Str → Option Value} {base : Heap} {C : Addr}
def okT (a b c : PyData) : Bool := isBet a 1 3 && (isBet b 0 8 && isBet c 0 2)
theorem isBet_int {d : PyData} {a b : Int} (h : isBet d a b = true) : ∃ i, d = .int i ∧ a ≤ i ∧ i ≤ b := by
  cases d with
  | int i =>
    simp only [isBet, Bool.and_eq_true, decide_eq_true_eq] at h
    exact ⟨i, rfl, h.1, h.2⟩
  | _ => cases h
theorem okT_ints {a b c : PyData} (h : okT a b c = true) : ∃ i j k : Nat, a = .int i ∧ b = .int j ∧ c = .int k ∧ i ≤ 3 ∧ j ≤ 8 ∧ k ≤ 2 := by
  simp only [okT, Bool.and_eq_true] at h
  obtain ⟨h1, h2, h3⟩ := h
  obtain ⟨i, rfl, i0, i1⟩ := isBet_int h1
  obtain ⟨j, rfl, j0, j1⟩ := isBet_int h2
  obtain ⟨k, rfl, k0, k1⟩ := isBet_int h3
  refine ⟨i.toNat, j.toNat, k.toNat, ?_, ?_, ?_, by omega, by omega, by omega⟩ <;> congr 1 <;> omega
def spCheck (K : PySem.W.Frag) (C : Addr) : Sp := fun vs H Q E => ∃ (x y z : V) (a b c : PyData), vs = [x, y, z] ∧ Dp K H x a ∧ Dp K H y b ∧ Dp K H z c ∧ (okT a b c = true → Q .non H) ∧ (okT a b c = false → E (.ref C) none H)
theorem ok_check_tracks (S : Src K mg "check_tracks" s_check_tracks) (x_Nothing : ExcF K mg "Nothing" C) (c_MOST_HUES : ∃ t, mg "MOST_HUES" = some (.int 3 t)) (c_MOST_SETS : ∃ t, mg "MOST_SETS" = some (.int 2 t)) (c_MOST_TRACKS : ∃ t, mg "MOST_TRACKS" = some (.int 8 t))
    (h_is_between : Has P w K mg base CX0 "is_between" 2 ["thing", "low", "high"] (spBet K)) : Has P w K mg base (L2.CX P w) "check_tracks" 3 ["hues", "things", "sets"] (spCheck K C) := by
  refine S.hasX sc_check_tracks (fun _ _ _ _ _ _ us hl => match us, hl with | [_, _, _], _ => rfl) (fun vs H Q E ⟨x, y, z, a, b, c, e, _⟩ => e ▸ rfl) (fun f cdv A out s H vs Q E hr ⟨x, y, z, a, b, c, e, hx, hy, hz, q1, q2⟩ => ⟨_, (pss_cons (ps_if (PW.pt (pw_or (pt_not (pt_val (pe_has h_is_between (hr.mono (by decide)) rfl pass0 (pa_cons (pv 0) (pa_cons pe_int (pa_cons (pe_cint c_MOST_HUES rfl) pa_nil)))))) (pw_or1 (pt_not (pt_val (pe_has h_is_between (hr.mono (by decide)) rfl pass0 (pa_cons (pv 1) (pa_cons pe_int (pa_cons (pe_cint c_MOST_TRACKS rfl) pa_nil)))))))))
      (pss_one (ps_raise rfl (takes_of rfl rfl rfl rfl) (pmk_own0 PySem.F.excBase_ValueError x_Nothing.ex x_Nothing.g x_Nothing.kp (raises_own x_Nothing.sub x_Nothing.ty) (by exact rfl))))
      pss_nil)
    (pss_one (ps_if (pt_not (pt_val (pe_has h_is_between (hr.mono (by decide)) rfl pass0 (pa_cons (pv 2) (pa_cons pe_int (pa_cons (pe_cint c_MOST_SETS rfl) pa_nil))))))
      (pss_one (ps_raise rfl (takes_of rfl rfl rfl rfl) (pmk_own0 PySem.F.excBase_ValueError x_Nothing.ex x_Nothing.g x_Nothing.kp (raises_own x_Nothing.sub x_Nothing.ty) (by exact rfl))))
      pss_nil))), ?_⟩)
  subst e
  simp only [okT] at q1 q2
  refine ⟨x, rfl, x, a, 1, 3, rfl, hx, _, rfl, ?_⟩
  cases h1 : isBet a 1 3 with
  | false => rw [h1] at q2; exact q2 rfl
  | true =>
    rw [h1] at q1 q2
    refine ⟨y, rfl, y, b, 0, 8, rfl, hy, _, rfl, ?_⟩
    cases h2 : isBet b 0 8 with
    | false => rw [h2] at q2; exact q2 rfl
    | true =>
      rw [h2] at q1 q2
      refine ⟨z, rfl, z, c, 0, 2, rfl, hz, _, rfl, ?_⟩
      cases h3 : isBet c 0 2 with
      | false => rw [h3] at q2; exact q2 rfl
      | true => rw [h3] at q1; exact q1 rfl
def spLabelsOf (K : PySem.W.Frag) (C : Addr) : Sp := fun vs H Q E => ∃ (x y z : V) (a b c : PyData), vs = [x, y, z] ∧ Dp K H x a ∧ Dp K H y b ∧ Dp K H z c ∧ (okT a b c = false → E (.ref C) none H) ∧
  (∀ (i j k : Nat) (p : Addr) (H' : Hp) (us : List V), a = .int i → b = .int j → c = .int k → i ≤ 3 → j ≤ 8 → k ≤ 2 → okT a b c = true → Same H H' → H' p = some (.tup us) → Ims K H' us ((labs i (j + k)).map enc) → Q (.ref p) H')
theorem ok_labels_of (S : Src K mg "labels_of" s_labels_of) (m_tuple : mg "tuple" = none) (h_check_tracks : Has P w K mg base (L2.CX P w) "check_tracks" 3 ["hues", "things", "sets"] (spCheck K C))
    (h_all_labels : Has P w K mg base CX0 "all_labels" 1 ["hues", "many"] (spLabs K)) : Has P w K mg base (L2.CX P w) "labels_of" 4 ["hues", "things", "sets"] (spLabelsOf K C) := by
  refine S.hasX sc_labels_of (fun _ _ _ _ _ _ us hl => match us, hl with | [_, _, _], _ => rfl) (fun vs H Q E ⟨x, y, z, a, b, c, e, _⟩ => e ▸ rfl) (fun f cdv A out s H vs Q E hr ⟨x, y, z, a, b, c, e, hx, hy, hz, q2, q1⟩ => ⟨_, (pss_cons (ps_expr (pe_has h_check_tracks (hr.mono (by decide)) rfl (passes_call (takes_of rfl rfl rfl rfl) (fun _ _ _ _ z => z)) (pa_cons (pv 0) (pa_cons (pv 1) (pa_cons (pv 2) pa_nil)))))
    (pss_one (ps_ret (pe_callTy (call_utup (K := K)) rfl m_tuple bb_tuple (pa_cons (pe_has h_all_labels (hr.mono (by decide)) rfl pass0 (pa_cons (pv 0) (pa_cons (pe_op (op_uadd (K := K)) (pv 1) (pv 2)) pa_nil))) pa_nil))))), ?_⟩)
  subst e
  refine ⟨x, rfl, y, rfl, z, rfl, x, y, z, a, b, c, rfl, hx, hy, hz, fun ok => ?_, q2⟩
  obtain ⟨i, j, k, rfl, rfl, rfl, li, lj, lk⟩ := okT_ints ok
  cases hx
  cases hy
  cases hz
  refine ⟨_, rfl, _, rfl, _, rfl, .int ⟨i, j + k, rfl, li, by omega, fun p H' us s1 np ep rs => .lst (SqL.of ep) (fun p2 np2 => ?_)⟩⟩
  exact q1 i j k p2 _ us rfl rfl rfl li lj lk ok (s1.trans (sameUpd np2)) upd_same (Ims.kt (Same.kt (sameUpd np2)) rs)
def spRefused (K : PySem.W.Frag) : Sp := fun vs H Q _ => ∃ (x y z : V) (a b c : PyData), vs = [x, y, z] ∧ Dp K H x a ∧ Dp K H y b ∧ Dp K H z c ∧ ∀ H', Same H H' → Q (.bl (!okT a b c)) H'
theorem ok_law_refused (S : Src K mg "_law_refused" s_law_refused) (x_Nothing : ExcF K mg "Nothing" C) (h_labels_of : Has P w K mg base (L2.CX P w) "labels_of" 4 ["hues", "things", "sets"] (spLabelsOf K C)) : Has P w K mg base CX0 "_law_refused" 5 ["hues", "things", "sets"] (spRefused K) := by
  refine S.has sc_law_refused (fun _ _ _ _ _ _ us hl => match us, hl with | [_, _, _], _ => rfl) (fun vs H Q E ⟨x, y, z, a, b, c, e, _⟩ => e ▸ rfl) (fun f cdv A out s H vs Q E hr ⟨x, y, z, a, b, c, e, hx, hy, hz, q⟩ => ⟨_, (pss_cons (ps_try_only rfl rfl ⟨rfl, by decide, .inl x_Nothing.g⟩ takes0 (fun W pn xe tk po => (pss_one (ps_expr (pe_hasS h_labels_of (hr.mono (by decide)) rfl (fun σ => passAt tk σ) (pa_cons (pv 0) (pa_cons (pv 1) (pa_cons (pv 2) pa_nil))))))) (fun ha oe cls d pn _ _ => (pss_one (ps_ret pe_bl))))
    (pss_one (ps_ret pe_bl))), ?_⟩)
  subst e
  refine ⟨x, rfl, y, rfl, z, rfl, x, y, z, a, b, c, rfl, hx, hy, hz, fun ok => ?_, fun i j k p H' us _ _ _ _ _ _ ok s1 _ _ => ?_⟩
  · refine ⟨true, x_Nothing.me, fun _ _ _ => ?_, fun z => Bool.noConfusion z⟩
    rw [ok] at q
    exact q H (Same.refl _)
  · rw [ok] at q
    exact q H' s1
end
end K20
set_option maxRecDepth 100000
set_option maxHeartbeats 4000000
namespace K20
open PySem PySem.Spec PyProof.Rows
open L2 Hk
/-! ### labels may be shown -/
theorem labs_small (h n : Nat) (hh : h ≤ 3) : ∀ x ∈ labs h n, ∀ i ∈ x, 0 ≤ i ∧ i ≤ 3 := by
  induction n with
  | zero =>
    intro x hx i hi
    obtain ⟨j, hj, rfl⟩ := List.mem_map.mp hx
    obtain rfl := List.mem_singleton.mp hi
    have := List.mem_range.mp hj
    omega
  | succ n ih =>
    intro x hx i hi
    obtain ⟨y, hy, hx⟩ := List.mem_flatMap.mp hx
    have e := ih y hy
    rcases List.mem_cons.mp hx with rfl | hx
    · rcases List.mem_append.mp hi with hi | hi
      · exact e i hi
      · obtain rfl := List.mem_singleton.mp hi
        decide
    · obtain rfl := List.mem_singleton.mp hx
      rcases List.mem_append.mp hi with hi | hi
      · exact e i hi
      · obtain rfl := List.mem_singleton.mp hi
        decide
theorem labs_okd {h n : Nat} (hh : h ≤ 3) (hn : n ≤ 6) : okd (.tuple ((labs h n).map enc)) = true := by
  refine OkAt.okd (n := 2) (w := (41 * 7 + 1) * 192) (OkAt.tup (n := 1) (w := 41 * 7) (fun d hd => ?_) ?_) (by decide) (by decide)
  · obtain ⟨x, hx, rfl⟩ := List.mem_map.mp hd
    refine OkAt.tup (n := 0) (w := 40) (fun d hd => ?_) (by rw [List.length_map, labs_wide h n x hx]; omega)
    obtain ⟨i, hi, rfl⟩ := List.mem_map.mp hd
    have := labs_small h n hh x hx i hi
    exact OkAt.int (by omega)
  · rw [List.length_map, labs_len]
    have : 2 ^ n ≤ 2 ^ 6 := Nat.pow_le_pow_right (by decide) hn
    calc h * 2 ^ n ≤ 3 * 2 ^ 6 := Nat.mul_le_mul hh this
      _ = 192 := by decide
/-! ### values that are none -/
def BadI (K : PySem.W.Frag) (vs : List V) : Prop := ∃ (x y z : V) (a b c : PyData), vs = [x, y, z] ∧ (∀ H, Dp K H x a) ∧ (∀ H, Dp K H y b) ∧ (∀ H, Dp K H z c) ∧ okT a b c = false
def BadL (K : PySem.W.Frag) (H : Hp) (xs : List V) : Prop := ∀ x ∈ xs, ∃ (t : Addr) (vs : List V), x = .ref t ∧ H t = some (.tup vs) ∧ BadI K vs
theorem BadL.nil {K : PySem.W.Frag} (H : Hp) : BadL K H [] := fun x hx => by simp at hx
theorem BadL.same {K : PySem.W.Frag} {H H' : Hp} {xs : List V} (h : BadL K H xs) (s : Same H H') : BadL K H' xs := fun x hx => by
  obtain ⟨t, vs, e, ht, hb⟩ := h x hx
  exact ⟨t, vs, e, s _ _ ht, hb⟩
theorem BadL.snoc {K : PySem.W.Frag} {H : Hp} {xs vs : List V} {p : Addr} (h : BadL K H xs) (n : H p = none) (hb : BadI K vs) : BadL K (upd H p (.tup vs)) (xs ++ [.ref p]) := fun x hx => by
  rcases List.mem_append.mp hx with hx | hx
  · exact h.same (sameUpd n) x hx
  · obtain rfl := List.mem_singleton.mp hx
    exact ⟨p, vs, rfl, upd_same, hb⟩
section
variable {P : Program} {w : World} {K : PySem.W.Frag} {mg : Str → Option Value} {base : Heap} {C : Addr}
theorem ok_law (S : Src K mg "law" s_law) (m_range : mg "range" = none) (m_tuple : mg "tuple" = none) (m_len : mg "len" = none)
    (h_law_bag : Has P w K mg base CX0 "_law_bag" 1 ["script"] (spBag K)) (h_law_take : Has P w K mg base CX0 "_law_take" 1 ["bag", "many"] spTake) (h_law_alike : HasG P w K mg base CX0 "_law_alike" 1 ["found", "due"] (spAlike K))
    (h_labels_of : Has P w K mg base (L2.CX P w) "labels_of" 4 ["hues", "things", "sets"] (spLabelsOf K C)) (h_law_labels : Has P w K mg base CX0 "_law_labels" 1 ["hues", "many"] (spLabs K))
    (h_law_refused : Has P w K mg base CX0 "_law_refused" 5 ["hues", "things", "sets"] (spRefused K)) : HasG P w K mg base CX0 "law" 6 ["script"] (spLaw K) := by
  refine S.hasG sc_law (fun _ _ _ _ _ _ us hl => match us, hl with | [_], _ => rfl) (fun vs H Q E ⟨a, ns, e, _⟩ => e ▸ rfl) (fun f cdv A out s H vs Q E gd hr ⟨a, ns, e, hS, q⟩ => ?_)
  have hu64 := hr.units
  refine ⟨_, (pss_cons (ps_set (i := 1) sc_law.nd rfl (by first | exact Or.inl rfl | exact Or.inr rfl) (pe_has h_law_bag (hr.mono (by decide)) rfl pass0 (pa_cons (pv 0) pa_nil)))
    (pss_cons (ps_for PassesOwn.never rfl (pi_range1 rfl m_range (pa_cons pe_int pa_nil)) (pg_name (i := 2) sc_law.nd rfl (by first | exact Or.inl rfl | exact Or.inr rfl))
      (pss_cons (ps_par3 (i := 3) (j := 4) (l := 5) (by rfl) sc_law.nd rfl rfl rfl (by decide) (by decide) (by decide) rfl rfl rfl (pa_cons (pe_op (op_uadd (K := K)) pe_int (pe_has h_law_take (hr.mono (by decide)) rfl pass0 (pa_cons (pv 1) (pa_cons pe_int pa_nil)))) (pa_cons (pe_has h_law_take (hr.mono (by decide)) rfl pass0 (pa_cons (pv 1) (pa_cons pe_int pa_nil))) (pa_cons (pe_has h_law_take (hr.mono (by decide)) rfl pass0 (pa_cons (pv 1) (pa_cons pe_int pa_nil))) pa_nil))) (by rfl))
    (pss_one (ps_if (pt_not (pt_val (pe_hasG h_law_alike gd (hr.mono (by decide)) rfl pass0 (pa_cons (pe_has h_labels_of (hr.mono (by decide)) rfl passL (pa_cons (pv 3) (pa_cons (pv 4) (pa_cons (pv 5) pa_nil)))) (pa_cons (pe_callTy (call_utup (K := K)) rfl m_tuple bb_tuple (pa_cons (pe_has h_law_labels (hr.mono (by decide)) rfl pass0 (pa_cons (pv 3) (pa_cons (pe_op (op_uadd (K := K)) (pv 4) (pv 5)) pa_nil))) pa_nil)) pa_nil)))))
      (pss_one (ps_ret pe_bl))
      pss_nil))))
    (pss_cons (ps_if (PW.pt (pw_or (pt_cmpR (op_une (K := K) hu64) (pe_callB (call_ulen (K := K)) rfl m_len bb_len (pa_cons (pe_has h_labels_of (hr.mono (by decide)) rfl passL (pa_cons pe_int (pa_cons pe_int (pa_cons pe_int pa_nil)))) pa_nil)) pe_int (nomark _)) (pw_or1 (pt_cmpR (op_une (K := K) hu64) (pe_has h_labels_of (hr.mono (by decide)) rfl passL (pa_cons pe_int (pa_cons pe_int (pa_cons pe_int pa_nil)))) (pe_tup (pa_cons (pe_tup (pa_cons pe_int pa_nil)) pa_nil)) (nomark _)))))
      (pss_one (ps_ret pe_bl))
      pss_nil)
    (pss_cons (ps_set (i := 6) sc_law.nd rfl (by first | exact Or.inl rfl | exact Or.inr rfl) (pe_lst (pa_cons (pe_tup (pa_cons pe_int (pa_cons pe_int (pa_cons pe_int pa_nil)))) (pa_cons (pe_tup (pa_cons pe_int (pa_cons pe_int (pa_cons pe_int pa_nil)))) (pa_cons (pe_tup (pa_cons pe_int (pa_cons (pe_un un_neg pe_int) (pa_cons pe_int pa_nil)))) (pa_cons (pe_tup (pa_cons pe_int (pa_cons pe_int (pa_cons pe_int pa_nil)))) (pa_cons (pe_tup (pa_cons pe_int (pa_cons pe_int (pa_cons pe_int pa_nil)))) (pa_cons (pe_tup (pa_cons pe_int (pa_cons pe_int (pa_cons (pe_un un_neg pe_int) pa_nil)))) (pa_cons (pe_tup (pa_cons pe_bl (pa_cons pe_int (pa_cons pe_int pa_nil)))) (pa_cons (pe_tup (pa_cons pe_int (pa_cons pe_bl (pa_cons pe_int pa_nil)))) (pa_cons (pe_tup (pa_cons pe_int (pa_cons pe_int (pa_cons pe_non pa_nil)))) (pa_cons (pe_tup (pa_cons pe_non (pa_cons pe_int (pa_cons pe_int pa_nil)))) pa_nil))))))))))))
    (pss_one (ps_ret (pe_cmpR (op_ueq (K := K) hu64) (pe_lc (own := [("one", 7)]) (by rfl) sc_law.nd (pi_ulist (K := K) rfl (pv 6)) (blkOk_by (N := ["script", "bag", "lap", "hues", "things", "sets", "bad", "one"]) (own := [("one", 7)]) (sc := defScope s_law) (by decide +kernel)) (fun _ _ _ _ _ => (pg_name (i := 7) sc_law.nd rfl (by first | exact Or.inl rfl | exact Or.inr rfl))) (fun _ _ _ _ _ => pts_one (pt_not (pt_val (pe_has h_law_refused (hr.mono (by decide)) rfl pass0 (pa_cons (pe_ix (ix_u (K := K)) (pv 7) pe_int (fun _ _ => rfl)) (pa_cons (pe_ix (ix_u (K := K)) (pv 7) pe_int (fun _ _ => rfl)) (pa_cons (pe_ix (ix_u (K := K)) (pv 7) pe_int (fun _ _ => rfl)) pa_nil))))))) (fun _ _ _ _ _ => (pv 7))) (pe_lst pa_nil) (nomark _)))))))), ?_⟩
  subst e
  refine ⟨.ref a, rfl, a, ns, rfl, hS, fun b H1 s1 nb bag => ?_⟩
  refine ⟨4, rfl, by decide, by decide, for_range (n := 4) (Pv := fun i σ H2 => ∃ (s2 s3 s4 s5 : Option V), σ = [some (.ref a), some (.ref b), s2, s3, s4, s5, none, none] ∧ BagAt H2 b) ⟨none, none, none, none, rfl, bag⟩ ?_ ?_⟩
  · rintro i σ H2 _ ⟨s2, s3, s4, s5, rfl, bag⟩
    -- hues, things, sets
    refine ⟨_, rfl, b, 3, rfl, by decide, by decide, bag, fun d H3 d0 d1 k3 bag3 => .int ?_⟩
    refine ⟨_, rfl, b, 5, rfl, by decide, by decide, bag3, fun e H4 e0 e1 k4 bag4 => ?_⟩
    refine ⟨_, rfl, b, 3, rfl, by decide, by decide, bag4, fun g H5 g0 g1 k5 bag5 => ⟨_, _, _, rfl, ?_⟩⟩
    obtain ⟨i1, ed, l1, l2⟩ : ∃ n : Nat, 1 + d = n ∧ 1 ≤ n ∧ n ≤ 3 := ⟨(1 + d).toNat, by omega, by omega, by omega⟩
    obtain ⟨j1, rfl, l3⟩ : ∃ n : Nat, e = n ∧ n ≤ 4 := ⟨e.toNat, by omega, by omega⟩
    obtain ⟨k1, rfl, l4⟩ : ∃ n : Nat, g = n ∧ n ≤ 2 := ⟨g.toNat, by omega, by omega⟩
    rw [ed]
    have ok : okT (.int i1) (.int j1) (.int k1) = true := by
      simp only [okT, isBet, Bool.and_eq_true, decide_eq_true_eq]; omega
    -- labels_of, _law_labels
    refine ⟨_, rfl, _, rfl, _, rfl, _, _, _, _, _, _, rfl, .int _, .int _, .int _, (fun z => by rw [ok] at z; cases z), fun i j k p H6 us ei ej ek li lj lk _ s6 ep rs => ?_⟩
    obtain rfl : i1 = i := by injection ei with z; omega
    obtain rfl : j1 = j := by injection ej with z; omega
    obtain rfl : k1 = k := by injection ek with z; omega
    refine ⟨_, rfl, _, rfl, _, rfl, .int ⟨i1, j1 + k1, by rw [Int.natCast_add]; rfl, li, by omega, fun p2 H7 us2 s7 np2 ep2 rs2 => .lst (SqL.of ep2) (fun p3 np3 => ?_)⟩⟩
    have s78 := s7.trans (sameUpd (o := .tup us2) np3)
    refine ⟨.ref p, .ref p3, .tuple ((labs i1 (j1 + k1)).map enc), rfl, .tup (SqT.of (s78 _ _ ep)) (Ims.dp (Ims.kt (Same.kt s78) rs)), .tup (SqT.of upd_same) (Ims.dp (Ims.kt (Same.kt (sameUpd np3)) rs2)), labs_okd li (by omega), _, rfl, ?_⟩
    exact ⟨_, _, _, _, rfl, bag5.same (s6.trans s78)⟩
  · rintro σ H2 ⟨s2, s3, s4, s5, rfl, bag⟩
    have ok1 : okT (.int 3) (.int 8) (.int 2) = true := by decide
    refine ⟨_, _, _, _, _, _, rfl, .int _, .int _, .int _, (fun z => by rw [ok1] at z; cases z), fun i j k p H6 us ei ej ek _ _ _ _ s6 ep rs => ?_⟩
    obtain rfl : i = 3 := by injection ei with z; omega
    obtain rfl : j = 8 := by injection ej with z; omega
    obtain rfl : k = 2 := by injection ek with z; omega
    have lus : us.length = 3072 := by rw [Ims.len rs, List.length_map, labs_len]
    refine .tup (SqT.of ep) (.int ⟨_, rfl, ?_⟩)
    rw [lus]
    refine iteNS rfl ?_
    -- labels_of(1, 0, 0) != ((0,),)
    have ok2 : okT (.int 1) (.int 0) (.int 0) = true := by decide
    refine ⟨_, _, _, _, _, _, rfl, .int _, .int _, .int _, (fun z => by rw [ok2] at z; cases z), fun i j k p2 H7 us2 ei ej ek _ _ _ _ s7 ep2 rs2 => ?_⟩
    obtain rfl : i = 1 := by injection ei with z; omega
    obtain rfl : j = 0 := by injection ej with z; omega
    obtain rfl : k = 0 := by injection ek with z; omega
    refine ⟨szl, fun p3 np3 => ⟨szl, fun p4 np4 => .dat (d := .tuple [enc [0]]) (e := .tuple [enc [0]]) (Im.dp (Im.kt (Same.kt ((sameUpd np3).trans (sameUpd np4))) (.tup (SqT.of ep2) rs2))) (Im.dp (Im.new np4 (.one (Im.new np3 (.one (.int 0)))))) (by decide) (by decide) ⟨_, rfl, ?_⟩⟩⟩
    rw [show (!PyData.eqv (.tuple [enc [0]]) (.tuple [enc [0]])) = false by decide]
    refine iteF ?_
    generalize upd (upd H7 p3 (.tup [V.int 0])) p4 (.tup [V.ref p3]) = H8
    -- bad
    refine ⟨szl, fun t1 n1 => ⟨szl, fun t2 n2 => ⟨_, rfl, szl, fun t3 n3 => ⟨szl, fun t4 n4 => ⟨szl, fun t5 n5 => ⟨_, rfl, szl, fun t6 n6 => ⟨szl, fun t7 n7 => ⟨szl, fun t8 n8 => ⟨szl, fun t9 n9 => ⟨szl, fun t10 n10 => ⟨szl, fun D nD => ?_⟩⟩⟩⟩⟩⟩⟩⟩⟩⟩⟩
    have B := ((((((((((BadL.nil (K := K) H8).snoc n1 ⟨_, _, _, _, _, _, rfl, fun _ => .int _, fun _ => .int _, fun _ => .int _, by decide⟩).snoc n2 ⟨_, _, _, _, _, _, rfl, fun _ => .int _, fun _ => .int _, fun _ => .int _, by decide⟩).snoc n3 ⟨_, _, _, _, _, _, rfl, fun _ => .int _, fun _ => .int _, fun _ => .int _, by decide⟩).snoc n4
      ⟨_, _, _, _, _, _, rfl, fun _ => .int _, fun _ => .int _, fun _ => .int _, by decide⟩).snoc n5 ⟨_, _, _, _, _, _, rfl, fun _ => .int _, fun _ => .int _, fun _ => .int _, by decide⟩).snoc n6 ⟨_, _, _, _, _, _, rfl, fun _ => .int _, fun _ => .int _, fun _ => .int _, by decide⟩).snoc n7
      ⟨_, _, _, _, _, _, rfl, fun _ => .bl _, fun _ => .int _, fun _ => .int _, by decide⟩).snoc n8 ⟨_, _, _, _, _, _, rfl, fun _ => .int _, fun _ => .bl _, fun _ => .int _, by decide⟩).snoc n9 ⟨_, _, _, _, _, _, rfl, fun _ => .int _, fun _ => .int _, fun _ => .non, by decide⟩).snoc (vs := [.non, .int 0, .int 0]) n10
      ⟨_, _, _, _, _, _, rfl, fun _ => .non, fun _ => .int _, fun _ => .int _, by decide⟩
    have B2 := B.same (sameUpd (o := .lst [.ref t1, .ref t2, .ref t3, .ref t4, .ref t5, .ref t6, .ref t7, .ref t8, .ref t9, .ref t10]) nD)
    clear B
    refine ⟨.ref D, rfl, D, rfl, ⟨_, SqL.of upd_same⟩, fun D2 nD2 => ?_⟩
    generalize eH : upd (upd _ t10 (.tup [V.non, V.int 0, V.int 0])) D _ = H9 at B2 nD2 ⊢
    have eD : H9 D = some (.lst [.ref t1, .ref t2, .ref t3, .ref t4, .ref t5, .ref t6, .ref t7, .ref t8, .ref t9, .ref t10]) := by rw [← eH]; exact upd_same
    refine walk_list (xs := [.ref t1, .ref t2, .ref t3, .ref t4, .ref t5, .ref t6, .ref t7, .ref t8, .ref t9, .ref t10]) (Pv := fun i H' => Same H9 H' ∧ H' D2 = some (.lst [])) ⟨sameUpd nD2, upd_same⟩ (fun i H' _ z => SqL.of (z.1 _ _ eD)) (fun i x H' hx z => ?_) (fun H' z => ?_)
    · obtain ⟨s9, e9⟩ := z
      obtain ⟨t, vs, rfl, ht, x, y, z, da, db, dc, rfl, ha, hb, hc, hno⟩ := B2 _ (List.mem_of_getElem? hx)
      have hT := SqT.of (K := K) (s9 _ _ ht)
      refine ⟨rfl, _, rfl, .tup hT rfl ⟨_, rfl, .tup hT rfl ⟨_, rfl, .tup hT rfl ⟨x, y, z, da, db, dc, rfl, ha _, hb _, hc _, fun H'' s10 => ⟨_, rfl, ?_⟩⟩⟩⟩⟩
      rw [hno]
      exact ⟨s9.trans s10, s10 _ _ e9⟩
    · refine ⟨szl, fun p5 np5 => .dat (d := .list []) (e := .list []) (.lst (SqL.of (sameUpd np5 _ _ z.2)) .nil) (.lst (SqL.of upd_same) .nil) (by decide) (by decide) (q _)⟩
end
end K20
set_option maxRecDepth 100000
set_option maxHeartbeats 0
namespace K20
open PySem PySem.Spec PyProof.Rows
open L2 Hk
def fn : List He.DefD := [⟨("is_number", none), "is_number", "is_number", defArgs s_is_number, defBody s_is_number, defScope s_is_number, [], []⟩,
  ⟨("is_between", none), "is_between", "is_between", defArgs s_is_between, defBody s_is_between, defScope s_is_between, [], []⟩,
  ⟨("all_labels", none), "all_labels", "all_labels", defArgs s_all_labels, defBody s_all_labels, defScope s_all_labels, [], []⟩,
  ⟨("check_tracks", none), "check_tracks", "check_tracks", defArgs s_check_tracks, defBody s_check_tracks, defScope s_check_tracks, [], []⟩,
  ⟨("labels_of", none), "labels_of", "labels_of", defArgs s_labels_of, defBody s_labels_of, defScope s_labels_of, [], []⟩,
  ⟨("_law_bag", none), "_law_bag", "_law_bag", defArgs s_law_bag, defBody s_law_bag, defScope s_law_bag, [], []⟩,
  ⟨("_law_take", none), "_law_take", "_law_take", defArgs s_law_take, defBody s_law_take, defScope s_law_take, [], []⟩,
  ⟨("_law_alike", none), "_law_alike", "_law_alike", defArgs s_law_alike, defBody s_law_alike, defScope s_law_alike, [], []⟩,
  ⟨("_law_labels", none), "_law_labels", "_law_labels", defArgs s_law_labels, defBody s_law_labels, defScope s_law_labels, [], []⟩,
  ⟨("_law_refused", none), "_law_refused", "_law_refused", defArgs s_law_refused, defBody s_law_refused, defScope s_law_refused, [], []⟩,
  ⟨("law", none), "law", "law", defArgs s_law, defBody s_law, defScope s_law, [], []⟩]
def fa : List He.Fa := [.glo "is_number", .glo "is_between", .glo "all_labels", .glo "check_tracks", .glo "labels_of", .glo "_law_bag", .glo "_law_take", .glo "_law_alike", .glo "_law_labels", .glo "_law_refused", .glo "law", .int "MOST_HUES" 3, .int "MOST_SETS" 2, .int "MOST_TRACKS" 8, .glo "MapError", .glo "Nothing", .exc "MapError", .exc "Nothing", .exm "MapError" "MapError" true, .exm "MapError" "Nothing" false, .exm "Nothing" "MapError" true, .exm "Nothing" "Nothing" true, .free "abs", .free "bool", .free "int", .free "isinstance", .free "len", .free "range", .free "repr", .free "sum", .free "tuple"]
abbrev R : PySem.W.OpenRow := PySem.W.OpenLaw.row PySem.Challenge.rw_everymap_k20_labels_and_tracks
abbrev hk : PySem.W.Hook := He.hookD 4 fa fn
def obs (s : PySem.W.SharedT) : He.AlD := He.obsDG 4 fa fn (HandSHeadRun.getT s)
theorem obs_eq (s : PySem.W.SharedT) : obs s = hk.obs s.abs := He.obsDG_eq (HandSHeadRun.getT_eq s)
def loose : List PySem.Str := (["_wall", "MapError", "Nothing", "MOST_HUES", "MOST_SETS", "is_number", "is_between", "MOST_TRACKS", "all_labels", "check_tracks", "labels_of", "_law_bag", "_law_take", "_law_alike", "_law_labels", "_law_refused"] : List PySem.Str)
theorem ran (w : World) : HandSHeadRun.RunEq R (PySem.W.view R.prog [20]) hk obs 20000 loose w := by
  intro os
  kernel_rfl
theorem fact (K : PySem.W.Frag) (c : He.SaysD fa fn K) (i : Nat) {f : He.Fa} (h : fa[i]? = some f := by rfl) : f.ok K = true := c.fact i h
theorem all_ok {w : World} {K : PySem.W.Frag} {mg : Str → Option Value} {h : Heap} (X : K.In h) (G : h.Ns mainGlobals mg) (c : He.SaysD fa fn K) (base : Heap) : HasG (PySem.Challenge.rw_everymap_k20_labels_and_tracks).prog w K mg base CX0 "law" 6 ["script"] (spLaw K) := by
  have S_is_number : Src K mg "is_number" s_is_number := src_of X G c 0 0
  have S_is_between : Src K mg "is_between" s_is_between := src_of X G c 1 1
  have S_all_labels : Src K mg "all_labels" s_all_labels := src_of X G c 2 2
  have S_check_tracks : Src K mg "check_tracks" s_check_tracks := src_of X G c 3 3
  have S_labels_of : Src K mg "labels_of" s_labels_of := src_of X G c 4 4
  have S_law_bag : Src K mg "_law_bag" s_law_bag := src_of X G c 5 5
  have S_law_take : Src K mg "_law_take" s_law_take := src_of X G c 6 6
  have S_law_alike : Src K mg "_law_alike" s_law_alike := src_of X G c 7 7
  have S_law_labels : Src K mg "_law_labels" s_law_labels := src_of X G c 8 8
  have S_law_refused : Src K mg "_law_refused" s_law_refused := src_of X G c 9 9
  have S_law : Src K mg "law" s_law := src_of X G c 10 10
  have c_MOST_HUES : ∃ t, mg "MOST_HUES" = some (.int 3 t) := int_of X G c 11
  have c_MOST_SETS : ∃ t, mg "MOST_SETS" = some (.int 2 t) := int_of X G c 12
  have c_MOST_TRACKS : ∃ t, mg "MOST_TRACKS" = some (.int 8 t) := int_of X G c 13
  have x_MapError := exc_of (x := "MapError") X G c 14 16 18
  have x_Nothing := exc_of (x := "Nothing") X G c 15 17 21
  have m_abs : mg "abs" = none := free_of X G c 22
  have m_bool : mg "bool" = none := free_of X G c 23
  have m_int : mg "int" = none := free_of X G c 24
  have m_isinstance : mg "isinstance" = none := free_of X G c 25
  have m_len : mg "len" = none := free_of X G c 26
  have m_range : mg "range" = none := free_of X G c 27
  have m_repr : mg "repr" = none := free_of X G c 28
  have m_sum : mg "sum" = none := free_of X G c 29
  have m_tuple : mg "tuple" = none := free_of X G c 30
  have n1 := ok_is_number (P := (PySem.Challenge.rw_everymap_k20_labels_and_tracks).prog) (w := w) (base := base) S_is_number m_isinstance m_int m_bool
  have n2 := ok_is_between S_is_between n1
  have n3 := ok_all_labels (P := (PySem.Challenge.rw_everymap_k20_labels_and_tracks).prog) (w := w) (base := base) S_all_labels m_range
  have n4 := ok_check_tracks S_check_tracks x_Nothing c_MOST_HUES c_MOST_SETS c_MOST_TRACKS n2
  have n5 := ok_labels_of S_labels_of m_tuple n4 n3
  have n6 := ok_law_bag (P := (PySem.Challenge.rw_everymap_k20_labels_and_tracks).prog) (w := w) (base := base) S_law_bag m_abs
  have n7 := ok_law_take (P := (PySem.Challenge.rw_everymap_k20_labels_and_tracks).prog) (w := w) (base := base) S_law_take m_int
  have n8 := ok_law_alike (P := (PySem.Challenge.rw_everymap_k20_labels_and_tracks).prog) (w := w) (base := base) S_law_alike m_repr
  have n9 := ok_law_labels (P := (PySem.Challenge.rw_everymap_k20_labels_and_tracks).prog) (w := w) (base := base) S_law_labels m_range m_sum
  have n10 := ok_law_refused S_law_refused x_Nothing n5
  exact ok_law S_law m_range m_tuple m_len n6 n7 n8 n5 n9 n10
end K20
open PySem PySem.W PySem.Calls PyProof.Rows
theorem PySem.Challenge.cw_everymap_k20_labels_and_tracks_holds : PySem.Challenge.rw_everymap_k20_labels_and_tracks.Holds := by
  w_on; o_law
  refine HandSHeadRun.head_any (r := OpenLaw.row PySem.Challenge.rw_everymap_k20_labels_and_tracks) (q := view (OpenLaw.row PySem.Challenge.rw_everymap_k20_labels_and_tracks).prog [20]) (H := K20.hk) (ob := K20.obs) (M := 20000) (loose := K20.loose) (d := HandSHeadRun.topDef (OpenLaw.row PySem.Challenge.rw_everymap_k20_labels_and_tracks).prog 20) (kwd := []) K20.obs_eq
    (by kernel_rfl) (fun s => by kernel_rfl) K20.ran (by kernel_rfl) (by kernel_rfl) (by kernel_rfl) (by rfl) (by first | assumption | decide +kernel) (by decide +kernel) ⟨rfl, rfl, rfl, rfl, rfl, by decide +kernel⟩ ?hw ?hc
  case hw => w_witness2
  case hc => exact Hk.law_end (k := 6) rfl (by kernel_rfl) (by kernel_rfl) ⟨rfl, by decide, by decide⟩ (fun w K mg h X G c base => K20.all_ok X G c base)
#print axioms PySem.Challenge.cw_everymap_k20_labels_and_tracks_holds
