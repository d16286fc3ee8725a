import PyProof.Rows.All
import Wide.All
import OpenK.AllK
import Wide.FinOn
import KE.KStateDown
import PyProof.ReprReads
import PyProof.ReprRoads
import HandS.ForMost
import HandS.WordsExc
import HandS.Defaults
import HandS.HeadEnd
import HandS.Small
import HandS.TryOnly
import HandS.TryMany
import HandS.Codes
import HandS.RaiseMore
import HandS.IsInst
import HandS.Conv
import HandS.TupAny
import PyProof.ReprLen
import HandS.Style
import HandS.Text
import PyProof.FitsInt
import HandS.Head0
import HandS.Head1
import HandS.Head2
import HandS.HeadHook1
import HandS.HeadHook2
import KE.KExcSuper
import KE.KSuper
import HandS.ExcInit
import HandS.ExcField
import HandS.Lambda
import HandS.HeadHook3
import HandS.HeadHook4
import HandS.EndTab
import KE.IntTextLaws
import PySem.Challenge.RW_everymap_k02_tokens_with_their_places
set_option Elab.async false
set_option linter.all false
set_option maxRecDepth 100000
set_option maxHeartbeats 2000000
namespace Hk
open PySem PySem.Spec PyProof.Rows
open L2
/-! ### a def's promise at a point where no repr is under way -/
structure FnG (P : Program) (w : World) (K : PySem.W.Frag) (mg : Str → Option Value) (base : Heap) (Z : CXT) (k : Nat) (f : Addr) (fd : FuncData) (ps : List Str) (sp : Sp) : Prop where
  lenG : ∀ xs G Y B, sp xs G Y B → xs.length = ps.length
  runG : ∀ (A : Around) (out : List Env) (s : Shared) (G : Hp) (ar : Args) (us : List Value) (xs : List V) (Y : VK) (B : XK), A.guards = some [] → Room k A → Env0 P w K mg base A out s G → BindsTo s fd ar (ps.zip us) →
    Vals xs us → sp xs G Y B → codeAny (model P w) A (.call (.ref f) ar) (CR Z out P w G s Y B) s
theorem FnG.ofOk {P : Program} {w : World} {K : PySem.W.Frag} {mg : Str → Option Value} {base : Heap} {Z : CXT} {k : Nat} {f : Addr} {fd : FuncData} {ps : List Str} {sp : Sp} (F : FnOk P w K mg base Z k f fd ps sp) : FnG P w K mg base Z k f fd ps sp :=
  ⟨F.len, fun A out s G ar us xs Y B _ hr e0 hb hv h => F.run A out s G ar us xs Y B hr e0 hb hv h⟩
/-- by its body -/
theorem fnG_of {Z : CXT} {P : Program} {w : World} {K : PySem.W.Frag} {mg : Str → Option Value} {base : Heap} {k : Nat} {f : Addr} {name qual : Str} {params : Arguments} {body : List Stmt} {scope : Scope} {dV kV doc pm cdv ct oc : Value} {an od : Option Addr}
    {osl : Array (Option Value)} {N ps : List Str} {sp : Sp} (lk : K.lookup f = some ⟨oc, od, .func (PySem.W.fnOf name qual params body scope dV kV doc pm an cdv ct), osl⟩) (hcd : PySem.W.codeIn K cdv qual = true) (S : FnScope N ps scope)
    (ln : ∀ xs G Y B, sp xs G Y B → xs.length = ps.length)
    (hb : ∀ (A : Around) (out : List Env) (s : Shared) (G : Hp) (xs : List V) (Y : VK) (B : XK), A.guards = some [] → Room k (A.deeper (envOfC qual scope s.heap.objs.size f cdv)) → sp xs G Y B →
      ∃ t, PSs (cxOf Z P w K mg base N qual scope f cdv A out s G B) body t ∧ t { nx := fun _ G' => Y .non G', rt := Y } (start N xs) G) :
    FnG P w K mg base Z (k + 1) f (PySem.W.fnOf name qual params body scope dV kV doc pm an cdv ct) ps sp := by
  refine ⟨ln, fun A out s G ar us xs Y B hg hr e0 hbd r hsp => ?_⟩
  have hl := ln _ _ _ _ hsp
  have KX : K.In s.heap := e0.mod.kin.keeps (fun b o e => (e0.bs b o e).1)
  have lim : s.heap.NoLimit := e0.mod.nolimit.keeps (fun b o e => (e0.bs b o e).1)
  have hkd : ∀ y ∈ ps.zip us, scope.names.lookup y.1 = some .local ∨ (scope.names.lookup y.1 = some .cell ∧ ((cellsFrom (s.heap.objs.size + 1) scope.names []).lookup y.1).isSome = true) := by
    rintro ⟨n, v⟩ hy
    rcases S.par n (List.of_mem_zip hy).1 with z | z
    · exact .inl z
    · exact .inr ⟨z, PySem.W.cellsFrom_some _ _ _ (.inl z)⟩
  refine codeAny_call_function hr.depth (KX _ _ lk) rfl S.co S.gen rfl (PySem.W.codeRec_of KX hcd) (hbd _ _ _ _ ?_)
  refine wpAny_newFunctionEnv_cells S.kind hkd (fun env he s1 x => ?_)
  subst he
  refine ⟨lim.keeps x.toInCall.keep, codeAny_func ?_⟩
  obtain ⟨t, ht, hq⟩ := hb A out s G xs Y B hg (hr.deeper _) hsp
  have I : Inv (cxOf Z P w K mg base N qual scope f cdv A out s G B) [] (start N xs) G s1 := inv_start S hr.hd e0 hl r x
  refine wpAny_mono (ht.run [] s1 (start N xs) G _ I hq) (fun fl s' hs => ?_) (fun _ _ hs => hs)
  cases fl with
  | ret u =>
    obtain ⟨v, σ', G', J, rv, z⟩ := hs
    exact ⟨v, G', J.os, J.bare, J.base, J.hok, rv, z⟩
  | next =>
    obtain ⟨σ', G', J, z⟩ := hs
    exact ⟨V.non, G', J.os, J.bare, J.base, J.hok, rfl, z⟩
  | brk =>
    obtain ⟨_, _, _, z⟩ := hs
    exact False.elim z
  | cont =>
    obtain ⟨_, _, _, z⟩ := hs
    exact False.elim z
theorem deeper_guards (A : Around) (env : Env) : (A.deeper env).guards = A.guards := rfl

/-! ### what the text says of a def, what a def is worth, by its name -/
/-- the def x of the text stands where the module's name x points -/
def Src (K : PySem.W.Frag) (mg : Str → Option Value) (x : Str) (st : Stmt) : Prop :=
  ∃ (f : Addr) (fd : FuncData), mg x = some (.ref f) ∧ FunD K x x (defArgs st) (defBody st) (defScope st) [] [] f fd
/-- how arguments come to the parameters: one each -/
def BindsE (fd : FuncData) (ps : List Str) : Prop := ∀ (s : Shared) (us : List Value), us.length = ps.length → BindsTo s fd ⟨us, []⟩ (ps.zip us)
theorem BindsE.b {K : PySem.W.Frag} {fd : FuncData} {ps : List Str} (h : BindsE fd ps) : Binds K fd ps [] := fun s us _ hl => by
  rw [List.append_nil] at hl ⊢
  exact h s us hl
/-- the def x keeps the promise sp -/
def Has (P : Program) (w : World) (K : PySem.W.Frag) (mg : Str → Option Value) (base : Heap) (Z : CXT) (x : Str) (k : Nat) (ps : List Str) (sp : Sp) : Prop :=
  ∃ (f : Addr) (fd : FuncData), mg x = some (.ref f) ∧ PySem.W.keepIn K (.ref f) = true ∧ BindsE fd ps ∧ FnOk P w K mg base Z k f fd ps sp
def HasG (P : Program) (w : World) (K : PySem.W.Frag) (mg : Str → Option Value) (base : Heap) (Z : CXT) (x : Str) (k : Nat) (ps : List Str) (sp : Sp) : Prop :=
  ∃ (f : Addr) (fd : FuncData), mg x = some (.ref f) ∧ PySem.W.keepIn K (.ref f) = true ∧ BindsE fd ps ∧ FnG P w K mg base Z k f fd ps sp
section
variable {P : Program} {w : World} {K : PySem.W.Frag} {mg : Str → Option Value} {base : Heap} {Z : CXT} {x : Str} {k : Nat} {ps N : List Str} {sp : Sp} {st : Stmt}
theorem Has.g (h : Has P w K mg base Z x k ps sp) : HasG P w K mg base Z x k ps sp := by
  obtain ⟨f, fd, a, b, c, F⟩ := h
  exact ⟨f, fd, a, b, c, .ofOk F⟩
/-- THE RULE: no exception leaves the def -/
theorem Src.has (S : Src K mg x st) (sc : FnScope N ps (defScope st))
    (bd : ∀ (kV doc pm : Value) (an : Option Addr) (cdv ct : Value) (us : List Value), us.length = ps.length → bindArgs (PySem.W.fnOf x x (defArgs st) (defBody st) (defScope st) .none kV doc pm an cdv ct) ⟨us, []⟩ = pure (ps.zip us))
    (ln : ∀ vs H Q E, sp vs H Q E → vs.length = ps.length)
    (body : ∀ (f : Addr) (cdv : Value) (A : Around) (out : List Env) (s : Shared) (H : Hp) (vs : List V) (Q : VK) (E : XK), Room k (A.deeper (envOfC x (defScope st) s.heap.objs.size f cdv)) → sp vs H Q E →
      ∃ t, PSs (cxOf CX0 P w K mg base N x (defScope st) f cdv A out s H E).nox (defBody st) t ∧ t { nx := fun _ H' => Q .non H', rt := Q } (start N vs) H) : Has P w K mg base CX0 x (k + 1) ps sp := by
  obtain ⟨f, fd, gm, F⟩ := S
  refine ⟨f, fd, gm, F.kp, F.bindsA bd, ?_⟩
  refine F.ok sc ln (fun cdv A out s H vs Q E hr h => ?_)
  obtain ⟨t, h1, h2⟩ := body f cdv A out s H vs Q E hr h
  exact ⟨t, h1.nox, h2⟩
/-- THE RULE: exceptions may leave the def -/
theorem Src.hasX (S : Src K mg x st) (sc : FnScope N ps (defScope st))
    (bd : ∀ (kV doc pm : Value) (an : Option Addr) (cdv ct : Value) (us : List Value), us.length = ps.length → bindArgs (PySem.W.fnOf x x (defArgs st) (defBody st) (defScope st) .none kV doc pm an cdv ct) ⟨us, []⟩ = pure (ps.zip us))
    (ln : ∀ vs H Q E, sp vs H Q E → vs.length = ps.length)
    (body : ∀ (f : Addr) (cdv : Value) (A : Around) (out : List Env) (s : Shared) (H : Hp) (vs : List V) (Q : VK) (E : XK), Room k (A.deeper (envOfC x (defScope st) s.heap.objs.size f cdv)) → sp vs H Q E →
      ∃ t, PSs (cxOf (L2.CX P w) P w K mg base N x (defScope st) f cdv A out s H E) (defBody st) t ∧ t { nx := fun _ H' => Q .non H', rt := Q } (start N vs) H) : Has P w K mg base (L2.CX P w) x (k + 1) ps sp := by
  obtain ⟨f, fd, gm, F⟩ := S
  exact ⟨f, fd, gm, F.kp, F.bindsA bd, F.ok sc ln (fun cdv A out s H vs Q E hr h => body f cdv A out s H vs Q E hr h)⟩
/-- THE RULE where repr is asked -/
theorem Src.hasG (S : Src K mg x st) (sc : FnScope N ps (defScope st))
    (bd : ∀ (kV doc pm : Value) (an : Option Addr) (cdv ct : Value) (us : List Value), us.length = ps.length → bindArgs (PySem.W.fnOf x x (defArgs st) (defBody st) (defScope st) .none kV doc pm an cdv ct) ⟨us, []⟩ = pure (ps.zip us))
    (ln : ∀ vs H Q E, sp vs H Q E → vs.length = ps.length)
    (body : ∀ (f : Addr) (cdv : Value) (A : Around) (out : List Env) (s : Shared) (H : Hp) (vs : List V) (Q : VK) (E : XK), A.guards = some [] → Room k (A.deeper (envOfC x (defScope st) s.heap.objs.size f cdv)) → sp vs H Q E →
      ∃ t, PSs (cxOf CX0 P w K mg base N x (defScope st) f cdv A out s H E).nox (defBody st) t ∧ t { nx := fun _ H' => Q .non H', rt := Q } (start N vs) H) : HasG P w K mg base CX0 x (k + 1) ps sp := by
  obtain ⟨f, fd, gm, F⟩ := S
  refine ⟨f, fd, gm, F.kp, F.bindsA bd, ?_⟩
  obtain ⟨oc, od, dV, kV, doc, pm, an, cdv, ct, osl, rfl, lk, hcd, _, _⟩ := F.ex
  refine fnG_of lk hcd sc ln (fun A out s H vs Q E hg hr h => ?_)
  obtain ⟨t, h1, h2⟩ := body f cdv A out s H vs Q E hg hr h
  exact ⟨t, h1.nox, h2⟩
end
section
variable {X : Cx} {Z : CXT} {k : Nat} {ps : List Str} {sp : Sp} {E : XK} {x : Str} {p pos : Pos} {e : Expr} {es : List Expr} {t : TA}
/-- x(e, ..) -/
theorem pe_has (h : Has X.prog X.w X.K X.mg X.base Z x k ps sp) (hr : Room k X.A) (hg : Gl X x) (hx : Passes Z X E) (ha : PA X (e :: es) t) (hdb : (x == ("__debug__" : Str)) = false := by decide)
    (he : starEach (e :: es) X.env = (false, eval e X.env) :: starEach es X.env := by rfl) (hpl : (backTo pos (starEach es X.env)).any (·.1) = false := by rfl) : PE X (.Call (.Name x p) (e :: es) [] pos) (tCall sp [] E t) := by
  obtain ⟨f, fd, a, b, c, F⟩ := h
  exact pe_call F hr hg a b c.b .nil hx ha hdb he hpl
theorem pe_has0 (h : Has X.prog X.w X.K X.mg X.base Z x k ps sp) (hr : Room k X.A) (hg : Gl X x) (hx : Passes Z X E) (hdb : (x == ("__debug__" : Str)) = false := by decide) : PE X (.Call (.Name x p) [] [] pos) (tCall sp [] E tNil) := by
  obtain ⟨f, fd, a, b, c, F⟩ := h
  exact pe_call0 F hr hg a b c.b .nil hx hdb
/-- the same of a def that asks repr -/
theorem pe_hasG (h : HasG X.prog X.w X.K X.mg X.base Z x k ps sp) (gd : X.A.guards = some []) (hr : Room k X.A) (hg : Gl X x) (hx : Passes Z X E) (ha : PA X (e :: es) t) (hdb : (x == ("__debug__" : Str)) = false := by decide)
    (he : starEach (e :: es) X.env = (false, eval e X.env) :: starEach es X.env := by rfl) (hpl : (backTo pos (starEach es X.env)).any (·.1) = false := by rfl) : PE X (.Call (.Name x p) (e :: es) [] pos) (tCall sp [] E t) := by
  obtain ⟨f, fd, a, b, c, F⟩ := h
  refine ⟨fun pins s σ H Q I hw => ?_⟩
  refine wpAny_Call_Name_kw (ld_glob I hg a ?_ hdb)
  refine PySem.W.callWith_K (h₀ := X.base) I.ok.mod.kin b (thn (ha.run pos pins s σ H _ I hw) fun us s1 ⟨vs, H1, I1, r, z⟩ => ⟨I1.kIn, ?_⟩) he hpl
  have r2 : Vals (vs ++ []) (us ++ []) := r.append .nil
  have hl : (us ++ []).length = ps.length := by rw [← r2.length]; exact F.lenG _ _ _ _ z
  refine wpAny_call (codeAny_mono (F.runG X.A X.stack s1 H1 ⟨us, []⟩ (us ++ []) (vs ++ []) Q E gd hr I1.env0 (c.b (K := X.K) s1 us I1.kIn hl) r2 z) fun r s' hq => ?_)
  cases r with
  | error ev => exact hx pins σ H1 s1 ev s' I1 hq
  | ok fl =>
    cases fl with
    | ret u => exact I1.after hq
    | next | brk | cont => exact False.elim hq
end
end Hk
set_option maxRecDepth 100000
set_option maxHeartbeats 2000000
namespace Hk
open PySem PySem.Spec PyProof.Rows
open L2
theorem law_callG {P : Program} {w : World} {K : PySem.W.Frag} {mg mb : Str → Option Value} {Z : CXT} {k : Nat} {fa a : Addr} {x : Str} {sp : Sp} {z : Shared} {vs : List Value} {ns : List Int}
    (KX : K.In z.heap) (hns : z.heap.Ns mainGlobals mg) (hb : z.heap.Ns builtinsNs mb) (hbb : ∀ y : Str, y ≠ "__name__" → mb y = bootBuiltins y) (lim : z.heap.NoLimit) (hg : z.gens = #[])
    (ha : z.heap.get? a = some { cls := .type "list", data := .seq vs.toArray }) (hi : IntsAre vs ns) (hl : ns.length ≤ sizeLine) (hr : Room k callerA)
    (F : ∀ base : Heap, K.In base → base.Ns mainGlobals mg → ∃ fd : FuncData, FnG P w K mg base Z k fa fd [x] sp ∧ ∀ (s : Shared) (u : Value), BindsTo s fd ⟨[u], []⟩ [(x, u)])
    (hsp : ∀ H : Hp, Only H → SqL K H a (ns.map V.int) → sp [.ref a] H (fun v _ => v = .bl true) fun _ _ _ => False)
    (hZ : ∀ H e s', Z [] H z (fun _ _ _ => False) e s' → False) :
    codeAny (model P w) callerA (.call (.ref fa) ⟨[.ref a], []⟩) (fun r s' => r = .ok (.ret (.bool true)) ∧ OldK z.heap s'.heap ∧ s'.os = z.os ∧ AllBare s'.gens) z := by
  have rv := vals_ints hi
  have lenV := hi.length
  have core : ∀ H : Hp, Only H → SqL K H a (ns.map V.int) → HOk P w H z.heap → (∀ b, H b ≠ none → b = a) → (H a ≠ none → K.lookup a = none) →
      codeAny (model P w) callerA (.call (.ref fa) ⟨[.ref a], []⟩) (fun r s' => r = .ok (.ret (.bool true)) ∧ OldK z.heap s'.heap ∧ s'.os = z.os ∧ AllBare s'.gens) z := by
    intro H hO hS hok hA hK
    have baseOf : ∀ {b : Addr} {o : Obj}, z.heap.get? b = some o → H b = none → (hidT z.heap H).get? b = some o := fun e n => hidT_get e n
    have isA : ∀ {b : Addr} {u : HO}, H b = some u → b = a := fun {b u} q => hA b (fun e => by rw [q] at e; cases e)
    have noA : ∀ {b : Addr} {o : Obj} {es : Array DictEntry} {ep : Nat}, z.heap.get? b = some o → o.data = .dict es ep → H b = none := by
      intro b o es ep e d
      cases q : H b with
      | none => rfl
      | some u =>
        obtain rfl := isA q
        rw [ha] at e; cases e
        cases (show Data.seq vs.toArray _ = Data.dict es ep from d)
    have nsK : ∀ {b : Addr} {m : Str → Option Value}, z.heap.Ns b m → (hidT z.heap H).Ns b m := fun ⟨o, es, ep, e, d, r⟩ => ⟨o, es, ep, baseOf e (noA e d), d, r⟩
    have hKb : K.In (hidT z.heap H) := fun b o e => baseOf (KX b o e) (by
      cases q : H b with
      | none => rfl
      | some u =>
        obtain rfl := isA q
        rw [hK (fun e => by rw [q] at e; cases e)] at e; cases e)
    have hM : Mod K mg (hidT z.heap H) := ⟨hKb, nsK hns, ⟨mb, nsK hb, hbb⟩, let ⟨mc, h1, h2⟩ := lim; ⟨mc, nsK h1, h2⟩⟩
    have none_in : ∀ b : Addr, b ∉ ([] : List Addr) := fun b => by simp
    have e0 : Env0 P w K mg (hidT z.heap H) callerA [] z H := ⟨rfl, hM, fun b o e => of_hidT e, Nat.le_of_eq (hidT_size _ _), trivial, fun b hb => absurd (show b ∈ ([] : List Addr) from hb) (none_in b), hok, .of_eq hg⟩
    obtain ⟨fd, FG, hbd⟩ := F _ hKb (nsK hns)
    refine codeAny_mono (FG.runG callerA [] z H ⟨[.ref a], []⟩ [.ref a] [.ref a] _ _ rfl hr e0 (hbd z (.ref a)) (.cons rfl .nil) (hsp H hO hS)) fun r s' h => ?_
    cases r with
    | error e => exact (hZ H e s' h).elim
    | ok fl =>
      cases fl with
      | next | brk | cont => exact False.elim h
      | ret u =>
        obtain ⟨v, H', os, bare, un, hok', r', q⟩ := h
        obtain rfl : v = .bl true := q
        obtain rfl : u = Value.bool true := r'
        refine ⟨rfl, OldK.of_keep fun b o e => ?_, os, bare⟩
        cases q : H b with
        | none => exact un.keep b o e q (fun y => absurd (show b ∈ ([] : List Addr) from y) (none_in b)) (none_in b)
        | some u =>
          rcases hO b with y | ⟨ob, xs, y⟩
          · rw [q] at y; cases y
          · obtain ⟨e1, _⟩ := hok b _ y
            obtain ⟨e2, _⟩ := hok' b _ (un.frzs b ob _ y)
            rw [e] at e1; cases e1
            exact e2
  cases hk : K.lookup a with
  | some o =>
    have e := KX a o hk
    rw [ha] at e
    cases e
    exact core (fun _ => none) (fun _ => .inl rfl) (.inr ⟨_, vs.toArray, _, hk, rfl, rfl, rfl, by rw [List.size_toArray, lenV]; exact hl, by simpa using rv⟩) (fun b u y => nomatch (show (none : Option HO) = some u from y)) (fun b y => absurd rfl y) (fun y => absurd rfl y)
  | none =>
    refine core (fun b => if b = a then some (.frz { cls := .type "list", data := .seq vs.toArray } (.lst (ns.map V.int))) else none) (fun b => ?_) (.inl (.inr ⟨{ cls := .type "list", data := .seq vs.toArray }, if_pos rfl⟩)) (fun b u y => ?_) (fun b y => ?_) (fun _ => hk)
    · by_cases hb : b = a
      · exact .inr ⟨_, _, if_pos hb⟩
      · exact .inl (if_neg hb)
    · by_cases hb : b = a
      · cases (if_pos hb).symm.trans y
        subst hb
        exact ⟨ha, by rw [List.length_map]; exact hl, vs, _, rv, ha⟩
      · cases (if_neg hb).symm.trans y
    · by_cases hb : b = a
      · exact hb
      · exact absurd (if_neg hb) y
/-- the law over a head by facts -/
theorem walk_ofG {l : PySem.W.OpenLaw} {n k : Nat} {q : Program} {loose : List Str} {XP : (Str → Option Value) → Heap → Prop} {YP : World → Heap → Prop} {d : DefRec} {Z : CXT} {x : Str}
    (hn : l.most = some n) (hn2 : n ≤ sizeLine) (hdf : d.params.defaults = []) (hr : Room k callerA)
    (F : ∀ (w : World) (mg : Str → Option Value) (fa : Addr) (h : Heap), YP w h → h.Ns mainGlobals mg → mg d.name = some (.ref fa) →
      ∃ (K : PySem.W.Frag) (sp : Sp), K.In h ∧
        (∀ (H : Hp) (a : Addr) (ns : List Int), ns.length ≤ n → Only H → SqL K H a (ns.map V.int) → sp [.ref a] H (fun v _ => v = .bl true) fun _ _ _ => False) ∧
        ∀ base : Heap, K.In base → base.Ns mainGlobals mg → ∃ fd : FuncData, FnG l.prog w K mg base Z k fa fd [x] sp ∧ ∀ (s : Shared) (u : Value), BindsTo s fd ⟨[u], []⟩ [(x, u)])
    (hZ : ∀ (H : Hp) (s : Shared) (e : Value) (s' : Shared), Z [] H s (fun _ _ _ => False) e s' → False) :
    PySem.W.WalkO q loose XP YP l.row.toRowW d [] (fun f vs => PySem.call f vs) := by
  refine Att.attach_call hn hdf (fun w s₀ z mg mb fa o pm cd doc a vs ns G Y ho hd hcd hmg hobj hints hlen hg => ?_)
  obtain ⟨K, sp, KX, hsp, hF⟩ := F w mg fa _ Y G.T.g hmg
  exact law_callG KX G.T.g G.T.b G.T.builtins G.T.nolimit hg hobj hints (Nat.le_trans hlen hn2) hr hF (fun H hO hS => hsp H a ns hlen hO hS) (fun H e s' => hZ H z e s')
end Hk
set_option maxRecDepth 100000
set_option maxHeartbeats 2000000
namespace Hk
open PySem PySem.Spec PyProof.Rows
open L2
/-! ### heaps -/
/-- tuples stay (they do under whatever a program does) -/
def KeepT (H H' : Hp) : Prop := (∀ a xs, H a = some (.tup xs) → H' a = some (.tup xs)) ∧ ∀ a o u, H a = some (.frz o u) → H' a = some (.frz o u)
theorem KeepT.refl (H : Hp) : KeepT H H := ⟨fun _ _ h => h, fun _ _ _ h => h⟩
theorem KeepT.trans {H H1 H2 : Hp} (a : KeepT H H1) (b : KeepT H1 H2) : KeepT H H2 := ⟨fun c xs h => b.1 c xs (a.1 c xs h), fun c o u h => b.2 c o u (a.2 c o u h)⟩
theorem Same.kt {H H' : Hp} (s : Same H H') : KeepT H H' := ⟨fun a xs h => s a _ h, fun a o u h => s a _ h⟩
theorem sameUpd {H : Hp} {p : Addr} {o : HO} (h : H p = none) : Same H (upd H p o) := fun b x e => by
  rw [upd_ne (ne_of_none e h)]; exact e
theorem ktUpd {H : Hp} {p : Addr} {xs : List V} {o : HO} (h : H p = some (.lst xs)) : KeepT H (upd H p o) := by
  refine ⟨fun a ys e => ?_, fun a ob u e => ?_⟩
  · rw [upd_ne (ne_of e h (fun z => nomatch z))]; exact e
  · rw [upd_ne (ne_of e h (fun z => nomatch z))]; exact e
/-- all but the object at b stays -/
def Keep1 (b : Addr) (H H' : Hp) : Prop := ∀ a o, a ≠ b → H a = some o → H' a = some o
theorem Keep1.refl (b : Addr) (H : Hp) : Keep1 b H H := fun _ _ _ h => h
theorem Keep1.trans {b : Addr} {H H1 H2 : Hp} (x : Keep1 b H H1) (y : Keep1 b H1 H2) : Keep1 b H H2 := fun a o n h => y a o n (x a o n h)
theorem Same.k1 {b : Addr} {H H' : Hp} (s : Same H H') : Keep1 b H H' := fun a o _ h => s a o h
theorem k1Upd {H : Hp} {b : Addr} {o : HO} : Keep1 b H (upd H b o) := fun a u n h => by rw [upd_ne n]; exact h
theorem Keep1.kt {b : Addr} {xs : List V} {H H' : Hp} (s : Keep1 b H H') (h : H b = some (.lst xs)) : KeepT H H' :=
  ⟨fun a ys e => s a _ (ne_of e h (fun z => nomatch z)) e, fun a o u e => s a _ (ne_of e h (fun z => nomatch z)) e⟩
theorem SqT.kt {K : PySem.W.Frag} {H H' : Hp} {a : Addr} {xs : List V} (s : KeepT H H') (h : SqT K H a xs) : SqT K H' a xs := by
  rcases h with (h | ⟨o, h⟩) | h
  · exact .inl (.inl (s.1 a xs h))
  · exact .inl (.inr ⟨o, s.2 a o _ h⟩)
  · exact .inr h
/-! ### data without lists -/
mutual
inductive Im (K : PySem.W.Frag) (H : Hp) : V → PyData → Prop
  | non : Im K H .non .none
  | bl (b : Bool) : Im K H (.bl b) (.bool b)
  | int (i : Int) : Im K H (.int i) (.int i)
  | str (x : Str) : Im K H (.str x) (.str x)
  | tup {a : Addr} {xs : List V} {ds : List PyData} (h : SqT K H a xs) (r : Ims K H xs ds) : Im K H (.ref a) (.tuple ds)
inductive Ims (K : PySem.W.Frag) (H : Hp) : List V → List PyData → Prop
  | nil : Ims K H [] []
  | cons {v : V} {vs : List V} {d : PyData} {ds : List PyData} (h : Im K H v d) (r : Ims K H vs ds) : Ims K H (v :: vs) (d :: ds)
end
section
variable {K : PySem.W.Frag} {H H' : Hp}
mutual
theorem Im.kt (s : KeepT H H') : ∀ {v : V} {d : PyData}, Im K H v d → Im K H' v d
  | _, _, .non => .non
  | _, _, .bl b => .bl b
  | _, _, .int i => .int i
  | _, _, .str x => .str x
  | _, _, .tup h r => .tup (SqT.kt s h) (Ims.kt s r)
theorem Ims.kt (s : KeepT H H') : ∀ {vs : List V} {ds : List PyData}, Ims K H vs ds → Ims K H' vs ds
  | _, _, .nil => .nil
  | _, _, .cons h r => .cons (Im.kt s h) (Ims.kt s r)
end
mutual
theorem Im.dp : ∀ {v : V} {d : PyData}, Im K H v d → Dp K H v d
  | _, _, .non => .non
  | _, _, .bl b => .bl b
  | _, _, .int i => .int i
  | _, _, .str x => .str x
  | _, _, .tup h r => .tup h (Ims.dp r)
theorem Ims.dp : ∀ {vs : List V} {ds : List PyData}, Ims K H vs ds → DpAll K H vs ds
  | _, _, .nil => .nil
  | _, _, .cons h r => .cons (Im.dp h) (Ims.dp r)
end
theorem Ims.len : ∀ {vs : List V} {ds : List PyData}, Ims K H vs ds → vs.length = ds.length
  | _, _, .nil => rfl
  | _, _, .cons _ r => congrArg (· + 1) (Ims.len r)
theorem Ims.app : ∀ {vs ws : List V} {ds es : List PyData}, Ims K H vs ds → Ims K H ws es → Ims K H (vs ++ ws) (ds ++ es)
  | _, _, _, _, .nil, s => s
  | _, _, _, _, .cons h r, s => .cons h (Ims.app r s)
theorem Ims.one {v : V} {d : PyData} (h : Im K H v d) : Ims K H [v] [d] := .cons h .nil
theorem Ims.get : ∀ {vs : List V} {ds : List PyData} {i : Nat} {v : V}, Ims K H vs ds → vs[i]? = some v → ∃ d, ds[i]? = some d ∧ Im K H v d
  | _, _, 0, v, .cons h _, e => ⟨_, rfl, by obtain rfl := Option.some.inj e; exact h⟩
  | _, _, i + 1, v, .cons _ r, e => Ims.get (i := i) r e
  | _, _, _, _, .nil, e => by simp at e
theorem Ims.get' : ∀ {vs : List V} {ds : List PyData} {i : Nat} {d : PyData}, Ims K H vs ds → ds[i]? = some d → ∃ v, vs[i]? = some v ∧ Im K H v d
  | _, _, 0, v, .cons h _, e => ⟨_, rfl, by obtain rfl := Option.some.inj e; exact h⟩
  | _, _, i + 1, v, .cons _ r, e => Ims.get' (i := i) r e
  | _, _, _, _, .nil, e => by simp at e
theorem Ims.drop : ∀ {vs : List V} {ds : List PyData} (n : Nat), Ims K H vs ds → Ims K H (vs.drop n) (ds.drop n)
  | _, _, 0, r => r
  | _, _, _ + 1, .nil => .nil
  | _, _, n + 1, .cons _ r => Ims.drop n r
theorem Ims.take : ∀ {vs : List V} {ds : List PyData} (n : Nat), Ims K H vs ds → Ims K H (vs.take n) (ds.take n)
  | _, _, 0, _ => .nil
  | _, _, _ + 1, .nil => .nil
  | _, _, n + 1, .cons h r => .cons h (Ims.take n r)
theorem Ims.ints : ∀ ns : List Int, Ims K H (ns.map V.int) (ns.map PyData.int)
  | [] => .nil
  | n :: ns => .cons (.int n) (Ims.ints ns)
theorem Ims.intsOf : ∀ {vs : List V} {ns : List Int}, Ims K H vs (ns.map PyData.int) → vs = ns.map V.int
  | _, [], .nil => rfl
  | _, n :: ns, .cons h r => by
    cases h
    rw [Ims.intsOf r]; rfl
end
/-! ### data that may be shown and compared -/
def okd (d : PyData) : Bool := SeqAt.shaped d && (d.showable && (d.leavesShort 13 && decide (d.weight ≤ 1048576)))
section
variable {d : PyData}
theorem okd.shaped (h : okd d = true) : SeqAt.shaped d = true := (Bool.and_eq_true_iff.mp h).1
theorem okd.showable (h : okd d = true) : d.showable = true := (Bool.and_eq_true_iff.mp (Bool.and_eq_true_iff.mp h).2).1
theorem okd.dict (h : okd d = true) : d.hasDict = false := PyData.hasDict_of_canLay d (SeqAt.canLay_of_shaped (okd.shaped h))
theorem okd.short (h : okd d = true) : d.shown.length ≤ sizeLine := by
  have h1 := Bool.and_eq_true_iff.mp (Bool.and_eq_true_iff.mp (Bool.and_eq_true_iff.mp h).2).2
  exact PyData.shown_fits (B := 13) (by decide) (by decide) h1.1 (Nat.le_trans (of_decide_eq_true h1.2) (by decide))
theorem okd.refl (h : okd d = true) : PyData.eqv d d = true := SeqAt.eqv_refl d (SeqAt.canLay_of_shaped (okd.shaped h))
end
section
variable {X : Cx}
/-- repr(x), x data -/
def rRepr (K : PySem.W.Frag) : List V → Hp → VK → Prop := fun xs H Q => ∃ x d, xs = [x] ∧ Dp K H x d ∧ okd d = true ∧ Q (.str d.shown) H
theorem call_reprD (gd : X.A.guards = some []) (hu : X.A.units + 66 < cLine) : CallR X (.builtin "repr") (rRepr X.K) := by
  intro pins s σ H xs us Q I r h
  obtain ⟨x, d, rfl, hd, ok, q⟩ := h
  obtain ⟨u, rfl, ru⟩ := vals1 r
  have hdep : d.depth ≤ 64 := SeqAt.depth_of_shaped (okd.shaped ok)
  have big : ∀ a : Addr, x = .ref a → wpAny (model X.prog X.w) X.A (call (.builtin "repr") [u]) (EP X pins σ Q) X.xe s := by
    rintro a rfl
    obtain ⟨as, rd⟩ := Dp.reads I d _ _ hd ru
    obtain rfl : u = Value.ref a := ru
    exact repr_of_reads' rd (okd.showable ok) (PyData.noDict_hsm (okd.dict ok)) gd (by omega) (fun _ _ e => e) (fun h' tu tk hk => ⟨.str d.shown, H, I.kept hk, ⟨tu, rfl⟩, q⟩) (okd.short ok)
  cases hd with
  | non =>
    obtain rfl : u = Value.none := ru
    exact PySem.P.repr_of_none ⟨.str _, H, I.tok _, ⟨_, rfl⟩, q⟩
  | bl b =>
    obtain rfl : u = Value.bool b := ru
    refine PySem.P.repr_of_bool ⟨.str (PyData.bool b).shown, H, I.tok _, ⟨s.toks, ?_⟩, q⟩
    cases b <;> rfl
  | int i =>
    obtain ⟨t, rfl⟩ := ru
    exact PySem.P.repr_of_int (of_decide_eq_true (okd.showable ok)) ⟨.str _, H, I.tok _, ⟨_, rfl⟩, q⟩
  | str z =>
    obtain ⟨t, rfl⟩ := ru
    exact PySem.P.repr_of_str ⟨.str _, H, I.tok _, ⟨_, rfl⟩, q⟩ (okd.short ok)
  | lst _ _ => exact big _ rfl
  | tup _ _ => exact big _ rfl
/-- xs[i] of a list, for xs[i] op= e -/
def rGetL (K : PySem.W.Frag) : V → V → Hp → VK → Prop := fun o i H Q => ∃ (p : Addr) (xs : List V) (k : Nat) (v : V), o = .ref p ∧ i = .int k ∧ SqL K H p xs ∧ xs[k]? = some v ∧ Q v H
theorem get_list : PGet X (rGetL X.K) := by
  intro pins s σ H o i ov iv Q I ro ri h
  obtain ⟨p, xs, k, v, rfl, rfl, hS, hv, q⟩ := h
  obtain rfl : ov = Value.ref p := ro
  obtain ⟨t, rfl⟩ := ri
  obtain ⟨its, rv, pl, hz⟩ := I.list hS
  obtain ⟨u, eu, ru⟩ := rv.get hv
  have hk : k < xs.length := (List.getElem?_eq_some_iff.mp hv).1
  have hn := line63
  exact wpAny_getItem_list pl.isList (Int.natCast_nonneg k) (by omega) (by simpa using eu) ⟨v, H, I, ru, q⟩
/-- raise C(), C an own class over ValueError -/
theorem pmk_own0 {C : Addr} {bmB : List Value} {B newId initId : String} {x : Str} {p pos : Pos} (F : ExcBaseFacts B newId initId bmB) (q : PySem.W.excIn X.K C bmB newId = true) (gC : X.mg x = some (.ref C)) (kC : PySem.W.keepIn X.K (.ref C) = true)
    (r : Raises X (.ref C)) (hg : Gl X x) (hdb : (x == ("__debug__" : Str)) = false := by decide) : PMk X (.Call (.Name x p) [] [] pos) (fun _ H Q => Q (.ref C) none H) := by
  intro pins s σ H Q I h
  refine wpAny_Call_Name_kw (ld_glob I hg gC ?_ hdb)
  refine PySem.W.callWith_K0 I.kIn kC ?_
  show wpAny _ _ (call (.ref C) []) _ _ _
  obtain ⟨bm, N, nm, qn, bs, hdct, sn, sub, ab, col, dd, k0, k1, k2, k3, k5, mN, hC, hN, hni, T⟩ := exc_obj I.kIn q
  exact wpAny_call_exc_subT F T hC hN hni (fun h' e hm => mk_of I hm r h (I.hok.gone hm.new)) (Nat.zero_le _)
end
end Hk
set_option maxRecDepth 100000
set_option maxHeartbeats 2000000
namespace Hk
open PySem PySem.Spec PyProof.Rows
open L2
abbrev lo (xs : List Value) (n : Nat) : Obj := { cls := .type "list", data := .seq xs.toArray n }
section
variable {prog : Program} {w : World} {A : Around} {R : Result → Shared → Prop} {I l : Addr}
/-- the loop over a list of lists: the state's list at S holds the sum so far, at T -/
theorem sumLists_loop (hh : A.handled = none) (hne : l ≠ I) (bs : List Addr) (its : List (List Value)) (hlen : its.length = bs.length) (S : Addr) (hSI : S ≠ I) (hSl : S ≠ l) :
    ∀ (k i : Nat) (s : Shared) (T : Addr) (acc : List Value) (c cT : Nat), bs.length - i = k → i ≤ bs.length → s.heap.IsListIter I l i → s.heap.IsList l (bs.map Value.ref).toArray →
    s.heap.get? S = some { cls := .type "list", dict := none, data := .seq #[.ref T] c, slots := #[] } → s.heap.get? T = some (lo acc cT) → T ≠ I → T ≠ S →
    (∀ (j : Nat) (b : Addr), i ≤ j → bs[j]? = some b → ∃ (xs : List Value) (n : Nat), its[j]? = some xs ∧ s.heap.get? b = some (lo xs n) ∧ b ≠ I ∧ b ≠ S) → acc.length + (its.drop i).flatten.length ≤ sizeLine →
    (∀ h' tk p cp, (∀ b o, b ≠ I → b ≠ S → s.heap.get? b = some o → h'.get? b = some o) → (p = T ∧ i = bs.length ∨ s.heap.objs.size ≤ p) → h'.get? p = some (lo (acc ++ (its.drop i).flatten) cp) → R (.ok (.ret (.ref p))) { s with heap := h', toks := tk }) →
    codeAny (model prog w) A (.builtin "sum.loop" ⟨[.ref I, .ref S, rawInt 2, rawInt 0], []⟩) R s := by
  have W : Walks prog w A.in1 I [I, l] [I] (bs.map Value.ref).toArray.size (fun i v => (bs.map Value.ref).toArray[i]? = some v) (fun i h => h.IsListIter I l i ∧ h.IsList l (bs.map Value.ref).toArray) := Walks.list (A := A.in1) hh I l hne _
  have hsz : (bs.map Value.ref).toArray.size = bs.length := by simp
  intro k
  induction k with
  | zero =>
    intro i s T acc c cT hk hi h1 h2 hS hT hTI hTS hb hz hR
    have hin : i = bs.length := by omega
    subst hin
    refine codeAny_builtin F.entry_sum_loop ?_
    rw [Around.under_plainId F.plain_sum_loop _]
    show wpAny _ A.in1 (seqItems? (.ref S) >>= _) _ _ s
    refine wpAny_bind (wpAny_seqItems hS rfl ?_)
    show wpAny _ A.in1 (tryCatch (pyNext (.ref I)) _ >>= _) _ _ s
    have hst : (fun i (h : Heap) => h.IsListIter I l i ∧ h.IsList l (bs.map Value.ref).toArray) (bs.map Value.ref).toArray.size s.heap := by
      rw [hsz]; exact ⟨h1, h2⟩
    refine wpAny_bind (wpAny_tryCatch (W.done s _ _ hst fun h' tk hk' => ?_))
    refine wpAny_pure (hR h' tk T cT (fun b o n1 _ e => hk' b o (by simpa using n1) e) (.inl ⟨rfl, rfl⟩) ?_)
    rw [show its.drop bs.length = [] from List.drop_eq_nil_of_le (by omega), List.flatten_nil, List.append_nil]
    exact hk' T _ (by simpa using hTI) hT
  | succ k ih =>
    intro i s T acc c cT hk hi h1 h2 hS hT hTI hTS hb hz hR
    have hlt : i < bs.length := by omega
    refine codeAny_builtin F.entry_sum_loop ?_
    rw [Around.under_plainId F.plain_sum_loop _]
    show wpAny _ A.in1 (seqItems? (.ref S) >>= _) _ _ s
    refine wpAny_bind (wpAny_seqItems hS rfl ?_)
    show wpAny _ A.in1 (tryCatch (pyNext (.ref I)) _ >>= _) _ _ s
    obtain ⟨b, hbi⟩ : ∃ b, bs[i]? = some b := ⟨bs[i], List.getElem?_eq_getElem hlt⟩
    obtain ⟨xs, n, hx, hbo, hbI, hbS⟩ := hb i b (Nat.le_refl _) hbi
    refine wpAny_bind (wpAny_tryCatch (wpAny_pyNext_list_item h1 h2 (x := .ref b) (by simp [hbi]) fun h' hit' hs' => ?_))
    have hk' : ∀ q o, q ∉ [I] → s.heap.get? q = some o → h'.get? q = some o := fun q o hq e => hs'.extBut q o (by simpa using hq) e
    have hst' : h'.IsListIter I l (i + 1) ∧ h'.IsList l (bs.map Value.ref).toArray := ⟨hit', h2.extBut hs'.extBut hne⟩
    have hge : s.heap.objs.size ≤ h'.objs.size := Nat.le_of_eq hs'.1.symm
    have hS' := hk' S _ (by simpa using hSI) hS
    have hT' := hk' T _ (by simpa using hTI) hT
    have hb' := hk' b _ (by simpa using hbI) hbo
    have hdrop : its.drop i = xs :: its.drop (i + 1) := by
      rw [List.drop_eq_getElem_cons (by omega)]
      have e : its[i]? = some its[i] := List.getElem?_eq_getElem (by omega)
      rw [hx] at e
      rw [← Option.some.inj e]
    have hz' : acc.length + xs.length + (its.drop (i + 1)).flatten.length ≤ sizeLine := by
      rw [hdrop, List.flatten_cons, List.length_append] at hz
      omega
    show wpAny _ A.in1 ((holding [.ref b] (binaryOp .Add (.ref T) (.ref b))).attempt >>= _) _ _ _
    refine wpAny_bind (wpAny_attempt (wpAny_holding (PySem.P.add_list hT' hb' ?_ (by rw [List.size_toArray, List.size_toArray]; omega))))
    have ea : acc.toArray ++ xs.toArray = (acc ++ xs).toArray := by simp
    rw [ea]
    have hSne : S ≠ h'.objs.size := Nat.ne_of_lt (Heap.lt_size hS')
    have hS2 : (h'.push (lo (acc ++ xs) 0)).get? S = some { cls := .type "list", dict := none, data := .seq #[.ref T] c, slots := #[] } := Heap.get?_push_of_some _ hS'
    show wpAny _ A.in1 (updateSeq S (fun _ => #[.ref h'.objs.size]) >>= _) _ _ _
    refine wpAny_bind (wpAny_updateSeq hS2 rfl ?_)
    refine wpAny_bind (wpAny_letGo ?_)
    have hS3 := Heap.get?_update_self (Obj.mapSeq fun _ => #[Value.ref h'.objs.size]) hS2 rfl
    show wpAny _ A.in1 (updateSeq S (fun _ => #[.ref h'.objs.size]) >>= _) _ _ _
    refine wpAny_bind (wpAny_updateSeq hS3 rfl ?_)
    have hS4 := Heap.get?_update_self (Obj.mapSeq fun _ => #[Value.ref h'.objs.size]) hS3 rfl
    have other : ∀ q : Addr, q ≠ S → (((h'.push (lo (acc ++ xs) 0)).update S (Obj.mapSeq fun _ => #[Value.ref h'.objs.size])).update S (Obj.mapSeq fun _ => #[Value.ref h'.objs.size])).get? q = (h'.push (lo (acc ++ xs) 0)).get? q := fun q hq =>
      (Heap.get?_update_other _ _ (Ne.symm hq)).trans (Heap.get?_update_other _ _ (Ne.symm hq))
    have kept : ∀ q o, q ≠ S → h'.get? q = some o → (((h'.push (lo (acc ++ xs) 0)).update S (Obj.mapSeq fun _ => #[Value.ref h'.objs.size])).update S (Obj.mapSeq fun _ => #[Value.ref h'.objs.size])).get? q = some o := fun q o hq e =>
      (other q hq).trans (Heap.get?_push_of_some _ e)
    have hI' : I < h'.objs.size := by
      obtain ⟨o, e, _⟩ := hst'.1
      exact Heap.lt_size e
    refine wpAny_pure ⟨plainId_quiet F.plain_sum_loop _, ih (i + 1) _ h'.objs.size (acc ++ xs) _ 0 (by omega) hlt ?_ ?_ hS4 ?_ (Nat.ne_of_gt hI') (Ne.symm hSne) (fun j b2 hj hb2 => ?_) ?_ (fun h2 tk2 p cp hk2 hp ho => ?_)⟩
    · exact hst'.1.at fun o e => kept I o (Ne.symm hSI) e
    · exact hst'.2.at fun o e => kept l o (Ne.symm hSl) e
    · exact (other _ (Ne.symm hSne)).trans (Heap.get?_push_size _ rfl)
    · obtain ⟨ys, n2, hy, hyo, hyI, hyS⟩ := hb j b2 (by omega) hb2
      exact ⟨ys, n2, hy, kept b2 _ hyS (hk' b2 _ (by simpa using hyI) hyo), hyI, hyS⟩
    · rw [List.length_append]; exact hz'
    · refine hR h2 tk2 p cp (fun q o n1 n2 e => hk2 q o n1 n2 (kept q o n2 (hk' q o (by simpa using n1) e))) (.inr ?_) ?_
      · rcases hp with ⟨z, _⟩ | z
        · rw [z]; exact hge
        · refine Nat.le_trans hge (Nat.le_trans ?_ z)
          show h'.objs.size ≤ ((h'.push _).update S _ |>.update S _).objs.size
          simp
      · rw [hdrop, List.flatten_cons, ← List.append_assoc]
        exact ho
end
namespace F3
theorem args_sum2 (a b : Value) : argsOk "sum" ⟨[a, b], []⟩ := by unfold argsOk; kernel_rfl
theorem sub_list_str : isSubtype (.type "list") (.type "str") = pure false := by rw [isSubtype_type]; kernel_rfl
theorem sub_list_bytes : isSubtype (.type "list") (.type "bytes") = pure false := by rw [isSubtype_type]; kernel_rfl
theorem sub_list_bytearray : isSubtype (.type "list") (.type "bytearray") = pure false := by rw [isSubtype_type]; kernel_rfl
end F3
section
variable {prog : Program} {w : World} {A : Around} {E : Value → Shared → Prop} {s : Shared} {l T : Addr}
theorem sumLists_raw (hh : A.handled = none) (bs : List Addr) (its : List (List Value)) (hlen : its.length = bs.length) {acc : List Value} {c : Nat} {Q : Value → Shared → Prop}
    (hl : s.heap.IsList l (bs.map Value.ref).toArray) (hT : s.heap.get? T = some (lo acc c)) (hb : ∀ (j : Nat) (b : Addr), bs[j]? = some b → ∃ (xs : List Value) (n : Nat), its[j]? = some xs ∧ s.heap.get? b = some (lo xs n)) (hz : acc.length + its.flatten.length ≤ sizeLine)
    (hq : ∀ h' tk p cp, (∀ b o, s.heap.get? b = some o → h'.get? b = some o) → (p = T ∧ bs = [] ∨ s.heap.objs.size ≤ p) → h'.get? p = some (lo (acc ++ its.flatten) cp) → Q (.ref p) { s with heap := h', toks := tk }) :
    wpAny (model prog w) A (call (.builtin "sum") [.ref l, .ref T]) Q E s := by
  have hlt : l < s.heap.objs.size := by obtain ⟨_, e, _⟩ := hl; exact Heap.lt_size e
  have hTt : T < s.heap.objs.size := Heap.lt_size hT
  refine call_function_tree F.kind_sum F.plain_sum F.entry_sum (F3.args_sum2 _ _) ?_
  unfold Builtin.«sum»
  simp only [List.length_cons, List.length_nil]
  rw [if_neg (by decide)]
  refine wpAny_bind (wpAny_of_eq (show Builtin.Builtins.bindParams "sum" ["start"] 0 ⟨[.ref T], []⟩ = pure [some (.ref T)] from rfl) ?_)
  refine wpAny_bind (wpAny_pyIter_list hl ?_)
  refine wpAny_bind (wpAny_pure ?_)
  have tyT : Shared.TypeIs { s with heap := s.heap.push { cls := .type "list_iterator", data := .fields #[.ref l, .int 0 0] } } (.ref T) "list" := ⟨_, Heap.get?_push_of_some _ hT, rfl⟩
  simp only [List.forIn_cons, List.forIn_nil]
  refine wpAny_bind (wpAny_bind (wpAny_bind (wpAny_isInstance (T := "list") (b := false) tyT F3.sub_list_str ?_)))
  simp only [Bool.false_eq_true, if_false]
  refine wpAny_pure (wpAny_bind (wpAny_bind (wpAny_isInstance (T := "list") (b := false) tyT F3.sub_list_bytes ?_)))
  simp only [Bool.false_eq_true, if_false]
  refine wpAny_pure (wpAny_bind (wpAny_bind (wpAny_isInstance (T := "list") (b := false) tyT F3.sub_list_bytearray ?_)))
  simp only [Bool.false_eq_true, if_false]
  refine wpAny_pure (wpAny_pure ?_)
  refine wpAny_bind (wpAny_newObj_type ?_)
  have sz1 : (s.heap.push { cls := .type "list_iterator", data := .fields #[.ref l, .int 0 0] }).objs.size = s.heap.objs.size + 1 := Heap.size_push ..
  have keep2 : ∀ b o, s.heap.get? b = some o → ((s.heap.push { cls := .type "list_iterator", data := .fields #[.ref l, .int 0 0] }).push { cls := .type "list", data := .seq #[Value.ref T] }).get? b = some o := fun b o e => Heap.get?_push_of_some _ (Heap.get?_push_of_some _ e)
  refine wpAny_pure ⟨plainId_quiet F.plain_sum_loop _, sumLists_loop (I := s.heap.objs.size) hh (Nat.ne_of_lt hlt) bs its hlen _ ?_ ?_ bs.length 0 _ T acc 0 c (by omega) (Nat.zero_le _) ?_ ?_ (Heap.get?_push_size _ rfl) (keep2 _ _ hT) (Nat.ne_of_lt hTt) ?_ (fun j b _ hj => ?_) (by simpa using hz) (fun h' tk p cp hk hp ho => ?_)⟩
  · rw [sz1]; exact Nat.succ_ne_self _
  · rw [sz1]; exact Nat.ne_of_gt (Nat.lt_succ_of_lt hlt)
  · exact ⟨_, Heap.get?_push_of_some _ (Heap.get?_push_size _ rfl), rfl, rfl⟩
  · exact (hl.push _).push _
  · rw [sz1]; exact Nat.ne_of_lt (Nat.lt_succ_of_lt hTt)
  · obtain ⟨xs, n, hx, ho⟩ := hb j b hj
    have hb0 := Heap.lt_size ho
    exact ⟨xs, n, hx, keep2 _ _ ho, Nat.ne_of_lt hb0, by rw [sz1]; exact Nat.ne_of_lt (Nat.lt_succ_of_lt hb0)⟩
  · refine hq h' tk p cp (fun b o e => hk b o (Nat.ne_of_lt (Heap.lt_size e)) (by rw [sz1]; exact Nat.ne_of_lt (Nat.lt_succ_of_lt (Heap.lt_size e))) (keep2 b o e)) ?_ (by simpa using ho)
    rcases hp with ⟨z, y⟩ | z
    · exact .inl ⟨z, List.length_eq_zero_iff.mp y.symm⟩
    · refine .inr (Nat.le_trans ?_ z)
      show s.heap.objs.size ≤ ((s.heap.push _).push _).objs.size
      rw [Heap.size_push, Heap.size_push]; omega
end
section
variable {X : Cx}
/-- sum(xs, ys): xs a list of lists, ys a list -/
def rSumL (K : PySem.W.Frag) : List V → Hp → VK → Prop := fun vs H Q => ∃ (a t : Addr) (bs : List Addr) (its : List (List V)) (acc : List V), vs = [.ref a, .ref t] ∧ SqL K H a (bs.map V.ref) ∧ H t = some (.lst acc) ∧ its.length = bs.length ∧
  (∀ (j : Nat) (b : Addr), bs[j]? = some b → ∃ xs, its[j]? = some xs ∧ H b = some (.lst xs)) ∧ acc.length + its.flatten.length ≤ sizeLine ∧ (bs = [] → Q (.ref t) H) ∧ ∀ p, H p = none → Q (.ref p) (upd H p (.lst (acc ++ its.flatten)))
theorem vals_refs : ∀ {bs : List Addr} {us : List Value}, Vals (bs.map V.ref) us → us = bs.map Value.ref
  | [], _, .nil => rfl
  | b :: bs, _, .cons r t => by
    obtain rfl : _ = Value.ref b := r
    rw [vals_refs t]; rfl
theorem lists_of {pins : List (Addr × Obj)} {σ : L2.St} {H : Hp} {s : Shared} (I : Inv X pins σ H s) : ∀ (bs : List Addr) (its : List (List V)), its.length = bs.length → (∀ (j : Nat) (b : Addr), bs[j]? = some b → ∃ xs, its[j]? = some xs ∧ H b = some (.lst xs)) →
    ∃ us : List (List Value), us.length = bs.length ∧ (∀ (j : Nat) (b : Addr), bs[j]? = some b → ∃ (xs : List Value) (n : Nat), us[j]? = some xs ∧ s.heap.get? b = some (lo xs n)) ∧ Vals its.flatten us.flatten
  | [], [], _, _ => ⟨[], rfl, fun j b h => by simp at h, .nil⟩
  | b :: bs, x :: its, hl, h => by
    obtain ⟨us, h1, h2, h3⟩ := lists_of I bs its (by simpa using hl) (fun j b hj => h (j + 1) b (by simpa using hj))
    obtain ⟨y, hy, hb⟩ := h 0 b rfl
    obtain rfl : x = y := Option.some.inj hy
    obtain ⟨xs, n, rx, ho, _⟩ := I.lst hb
    refine ⟨xs :: us, by simp [h1], fun j c hj => ?_, ?_⟩
    · cases j with
      | zero =>
        obtain rfl : b = c := Option.some.inj hj
        exact ⟨xs, n, rfl, ho⟩
      | succ j => exact h2 j c (by simpa using hj)
    · rw [List.flatten_cons, List.flatten_cons]
      exact rx.append h3
theorem call_sumL (hc : X.calm = true) : CallR X (.builtin "sum") (rSumL X.K) := by
  intro pins s σ H xs us Q I r h
  obtain ⟨a, t, bs, its, acc, rfl, hS, hT, hlen, hb, hz, q0, q⟩ := h
  obtain ⟨u, w', rfl, ru, rw'⟩ := vals2 r
  obtain rfl : u = Value.ref a := ru
  obtain rfl : w' = Value.ref t := rw'
  obtain ⟨ls, rl, pl, _⟩ := I.list hS
  rw [vals_refs rl] at pl
  obtain ⟨us, h1, h2, h3⟩ := lists_of I bs its hlen hb
  obtain ⟨ac, n, ra, hao, _⟩ := I.lst hT
  have e1 := ra.length
  have e2 := h3.length
  refine sumLists_raw (I.ok.hd hc) bs us h1 pl.isList hao h2 (by omega) (fun h' tk p cp hk hp ho => ?_)
  rcases hp with ⟨rfl, y⟩ | hp
  · exact ⟨.ref p, H, I.kept hk, rfl, q0 y⟩
  · have hf : H p = none := I.hok.fresh hp
    exact ⟨.ref p, _, I.laid (o := .lst (acc ++ its.flatten)) hk hp ⟨by rw [List.length_append]; exact hz, _, cp, ra.append h3, ho⟩, rfl, q p hf⟩
end
end Hk
set_option maxRecDepth 100000
set_option maxHeartbeats 2000000
namespace Hk
open PySem PySem.Spec PyProof.Rows
open L2
section
variable {X : Cx}
/-! ### + -/
inductive UAdd (K : PySem.W.Frag) : V → V → Hp → VK → Prop
  | int {i j : Int} {H : Hp} {Q : VK} (q : Q (.int (i + j)) H) : UAdd K (.int i) (.int j) H Q
  | str {i j : Str} {H : Hp} {Q : VK} (h : i.length + j.length ≤ sizeLine) (q : Q (.str (i ++ j)) H) : UAdd K (.str i) (.str j) H Q
  | lst {a b : Addr} {xs ys : List V} {H : Hp} {Q : VK} (h1 : H a = some (.lst xs)) (h2 : H b = some (.lst ys)) (h : xs.length + ys.length ≤ sizeLine) (q : ∀ p, H p = none → Q (.ref p) (upd H p (.lst (xs ++ ys)))) : UAdd K (.ref a) (.ref b) H Q
  | tup {a b : Addr} {xs ys : List V} {H : Hp} {Q : VK} (h1 : SqT K H a xs) (h2 : SqT K H b ys) (h : xs.length + ys.length ≤ sizeLine) (q : ∀ p H', Same H H' → SqT K H' p (xs ++ ys) → Q (.ref p) H') : UAdd K (.ref a) (.ref b) H Q
theorem op_uadd {K : PySem.W.Frag} (hK : X.K = K := by rfl) : OpR X (binaryOp .Add) (UAdd K) := by
  subst hK
  intro pins s σ H x y v u Q I rx ry h
  cases h with
  | int q => exact op_add pins s σ H _ _ v u Q I rx ry ⟨_, _, rfl, rfl, q⟩
  | str h q => exact op_add_str pins s σ H _ _ v u Q I rx ry ⟨_, _, rfl, rfl, h, q⟩
  | lst h1 h2 h q => exact op_cat pins s σ H _ _ v u Q I rx ry ⟨_, _, _, _, rfl, rfl, h1, h2, h, q⟩
  | tup h1 h2 h q =>
    refine op_catA pins s σ H _ _ v u Q I rx ry ⟨_, _, _, _, rfl, rfl, h1, h2, h, fun e => ?_, fun _ e => ?_, fun _ _ p hp => ?_⟩
    · subst e; exact q _ _ (Same.refl _) h2
    · subst e; exact q _ _ (Same.refl _) (by rw [List.append_nil]; exact h1)
    · exact q _ _ (sameUpd hp) (.inl (.inl upd_same))
/-! ### the other operators, ints -/
def UMul : R2 := fun x y H Q => ∃ i j, x = .int i ∧ y = .int j ∧ CMul i j ∧ Q (.int (i * j)) H
theorem op_umul : OpR X (binaryOp .Mult) UMul := op_mul
def USub : R2 := rI0 fun i j => .int (i - j)
theorem op_usub : OpR X (binaryOp .Sub) USub := op_sub
def UMod : R2 := fun x y H Q => ∃ i j, x = .int i ∧ y = .int j ∧ j ≠ 0 ∧ Q (.int (i.fmod j)) H
theorem op_umod : OpR X (binaryOp .Mod) UMod := op_modN
def UFdiv : R2 := fun x y H Q => ∃ i j, x = .int i ∧ y = .int j ∧ CDivN i j ∧ Q (.int (i.fdiv j)) H
theorem op_ufdiv : OpR X (binaryOp .FloorDiv) UFdiv := op_fdivN
def UPow : R2 := fun x y H Q => ∃ i j, x = .int i ∧ y = .int j ∧ CPow i j ∧ Q (.int (i ^ j.toNat)) H
theorem op_upow : OpR X (binaryOp .Pow) UPow := op_pow
/-! ### ==, != -/
inductive UEq (K : PySem.W.Frag) : V → V → Hp → VK → Prop
  | int {i j : Int} {H : Hp} {Q : VK} (q : Q (.bl (decide (i = j))) H) : UEq K (.int i) (.int j) H Q
  | str {i j : Str} {H : Hp} {Q : VK} (q : Q (.bl (decide (i = j))) H) : UEq K (.str i) (.str j) H Q
  | dat {x y : V} {d e : PyData} {H : Hp} {Q : VK} (h1 : Dp K H x d) (h2 : Dp K H y e) (s1 : SeqAt.shaped d = true) (s2 : SeqAt.shaped e = true) (q : Q (.bl (PyData.eqv d e)) H) : UEq K x y H Q
inductive UNe (K : PySem.W.Frag) : V → V → Hp → VK → Prop
  | int {i j : Int} {H : Hp} {Q : VK} (q : Q (.bl (!decide (i = j))) H) : UNe K (.int i) (.int j) H Q
  | str {i j : Str} {H : Hp} {Q : VK} (q : Q (.bl (!decide (i = j))) H) : UNe K (.str i) (.str j) H Q
  | dat {x y : V} {d e : PyData} {H : Hp} {Q : VK} (h1 : Dp K H x d) (h2 : Dp K H y e) (s1 : SeqAt.shaped d = true) (s2 : SeqAt.shaped e = true) (q : Q (.bl (!PyData.eqv d e)) H) : UNe K x y H Q
theorem op_ueq {K : PySem.W.Frag} (hu : X.A.units + 64 < cLine) (hK : X.K = K := by rfl) : OpR X (compareOp .Eq) (UEq K) := by
  subst hK
  intro pins s σ H x y v u Q I rx ry h
  cases h with
  | int q => exact op_eq pins s σ H _ _ v u Q I rx ry ⟨rfl, by simpa using q⟩
  | str q => exact op_eq pins s σ H _ _ v u Q I rx ry ⟨rfl, by simpa using q⟩
  | dat h1 h2 s1 s2 q => exact op_eqD hu pins s σ H _ _ v u Q I rx ry ⟨_, _, h1, h2, s1, s2, q⟩
theorem op_une {K : PySem.W.Frag} (hu : X.A.units + 64 < cLine) (hK : X.K = K := by rfl) : OpR X (compareOp .NotEq) (UNe K) := by
  subst hK
  intro pins s σ H x y v u Q I rx ry h
  cases h with
  | int q => exact op_ne pins s σ H _ _ v u Q I rx ry ⟨rfl, by simpa using q⟩
  | str q => exact op_ne pins s σ H _ _ v u Q I rx ry ⟨rfl, by simpa using q⟩
  | dat h1 h2 s1 s2 q => exact op_neD hu pins s σ H _ _ v u Q I rx ry ⟨_, _, h1, h2, s1, s2, q⟩
/-! ### <, <=, >, >= of ints -/
def ULt : R2 := rI0 fun i j => .bl (decide (i < j))
def ULe : R2 := rI0 fun i j => .bl (decide (i ≤ j))
def UGt : R2 := rI0 fun i j => .bl (decide (j < i))
def UGe : R2 := rI0 fun i j => .bl (decide (j ≤ i))
theorem op_ult : OpR X (compareOp .Lt) ULt := op_lt
theorem op_ule : OpR X (compareOp .LtE) ULe := op_le
theorem op_ugt : OpR X (compareOp .Gt) UGt := op_gt
theorem op_uge : OpR X (compareOp .GtE) UGe := op_ge
/-! ### subscripts -/
inductive UIx (K : PySem.W.Frag) : V → V → Hp → VK → Prop
  | lst {a : Addr} {xs : List V} {i : Int} {v : V} {H : Hp} {Q : VK} (h : SqL K H a xs) (e : atI xs i = some v) (q : Q v H) : UIx K (.ref a) (.int i) H Q
  | tup {a : Addr} {xs : List V} {i : Int} {v : V} {H : Hp} {Q : VK} (h : SqT K H a xs) (e : atI xs i = some v) (q : Q v H) : UIx K (.ref a) (.int i) H Q
  | str {z : Str} {i : Int} {c : Nat} {H : Hp} {Q : VK} (h : z.length ≤ sizeLine) (e : atI z.cps.toList i = some c) (q : Q (.str ⟨#[c]⟩) H) : UIx K (.str z) (.int i) H Q
theorem ix_u {K : PySem.W.Frag} (hK : X.K = K := by rfl) : IxR X (UIx K) := by
  subst hK
  intro value slice pins s σ H x y v u Q I rx ry h hs
  cases h with
  | lst h e q => exact ix_list value slice pins s σ H _ _ v u Q I rx ry ⟨_, _, _, _, rfl, rfl, h, e, q⟩ hs
  | tup h e q => exact ix_tup value slice pins s σ H _ _ v u Q I rx ry ⟨_, _, _, _, rfl, rfl, h, e, q⟩ hs
  | str h e q => exact ix_str value slice pins s σ H _ _ v u Q I rx ry ⟨_, _, _, rfl, rfl, h, e, q⟩ hs
theorem atL {xs : List V} {k : Nat} {v : V} (h : xs[k]? = some v) : atI xs (k : Int) = some v := atI_nat h
/-- a slice of a list, of a tuple -/
inductive USl (K : PySem.W.Frag) : V → Option Int → Option Int → Hp → VK → Prop
  | lst {a : Addr} {xs : List V} {l u : Option Int} {H : Hp} {Q : VK} (h : SqL K H a xs) (q : ∀ p, H p = none → Q (.ref p) (upd H p (.lst (cutV xs l u)))) : USl K (.ref a) l u H Q
  | tup {a : Addr} {xs : List V} {l u : Option Int} {H : Hp} {Q : VK} (h : SqT K H a xs) (q : ∀ p H', Same H H' → SqT K H' p (cutV xs l u) → Q (.ref p) H') : USl K (.ref a) l u H Q
  | str {z : Str} {l u : Option Int} {H : Hp} {Q : VK} (h : z.length ≤ sizeLine) (q : Q (.str (cutS z l u)) H) : USl K (.str z) l u H Q
theorem sl_u {K : PySem.W.Frag} (hK : X.K = K := by rfl) : SlR X (USl K) := by
  subst hK
  intro pins s σ H x v vl vu l u sl Q I rx hs pl pu h
  cases h with
  | lst h q => exact sl_list pins s σ H _ v vl vu _ _ sl Q I rx hs pl pu ⟨_, _, rfl, h, q⟩
  | str h q => exact sl_str pins s σ H _ v vl vu _ _ sl Q I rx hs pl pu ⟨_, rfl, h, q⟩
  | @tup a xs _ _ _ _ h q =>
    refine sl_tupA pins s σ H _ v vl vu _ _ sl Q I rx hs pl pu ⟨_, _, rfl, h, fun e => ?_, fun _ p hp => q p _ (sameUpd hp) (.inl (.inl upd_same))⟩
    refine q _ _ (Same.refl _) ?_
    have e2 : cutV xs l u = xs := by
      unfold cutV
      rw [e.1, e.2]
      simp
    rw [e2]; exact h
/-! ### calls of built-ins -/
inductive ULen (K : PySem.W.Frag) : List V → Hp → VK → Prop
  | lst {a : Addr} {xs : List V} {H : Hp} {Q : VK} (h : SqL K H a xs) (q : Q (.int xs.length) H) : ULen K [.ref a] H Q
  | tup {a : Addr} {xs : List V} {H : Hp} {Q : VK} (h : SqT K H a xs) (q : Q (.int xs.length) H) : ULen K [.ref a] H Q
  | str {z : Str} {H : Hp} {Q : VK} (h : z.length ≤ sizeLine) (q : Q (.int z.length) H) : ULen K [.str z] H Q
theorem call_ulen {K : PySem.W.Frag} (hK : X.K = K := by rfl) : CallR X (.builtin "len") (ULen K) := by
  subst hK
  intro pins s σ H xs us Q I r h
  cases h with
  | lst h q => exact call_len_seq pins s σ H _ us Q I r ⟨_, _, rfl, .inl h, q⟩
  | tup h q => exact call_len_seq pins s σ H _ us Q I r ⟨_, _, rfl, .inr h, q⟩
  | str h q => exact call_len_str pins s σ H _ us Q I r ⟨_, rfl, h, q⟩
inductive UInt : List V → Hp → VK → Prop
  | int {i : Int} {H : Hp} {Q : VK} (q : Q (.int i) H) : UInt [.int i] H Q
  | bl {b : Bool} {H : Hp} {Q : VK} (q : Q (.int (if b then 1 else 0)) H) : UInt [.bl b] H Q
  | str {a : Str} {n : Int} {H : Hp} {Q : VK} (hn : PySem.intText? a = some n) (hl : a.length ≤ 640) (q : Q (.int n) H) : UInt [.str a] H Q
theorem call_uint : CallR X (.type "int") UInt := by
  intro pins s σ H xs us Q I r h
  cases h with
  | int q => exact call_int1 pins s σ H _ us Q I r (.inl ⟨_, rfl, q⟩)
  | bl q => exact call_int1 pins s σ H _ us Q I r (.inr ⟨_, rfl, q⟩)
  | str hn hl q => exact call_int_str pins s σ H _ us Q I r ⟨_, _, rfl, hn, hl, q⟩
inductive UTup (K : PySem.W.Frag) : List V → Hp → VK → Prop
  | lst {a : Addr} {xs : List V} {H : Hp} {Q : VK} (h : SqL K H a xs) (q : ∀ p, H p = none → Q (.ref p) (upd H p (.tup xs))) : UTup K [.ref a] H Q
  | tup {a : Addr} {xs : List V} {H : Hp} {Q : VK} (h : SqT K H a xs) (q : Q (.ref a) H) : UTup K [.ref a] H Q
theorem call_utup {K : PySem.W.Frag} (hK : X.K = K := by rfl) : CallR X (.type "tuple") (UTup K) := by
  subst hK
  intro pins s σ H xs us Q I r h
  cases h with
  | lst h q => exact call_tuple_of pins s σ H _ us Q I r ⟨_, _, rfl, .inl ⟨h, q⟩⟩
  | tup h q => exact call_tuple_of pins s σ H _ us Q I r ⟨_, _, rfl, .inr ⟨h, q⟩⟩
inductive UAbs : List V → Hp → VK → Prop
  | int {i : Int} {H : Hp} {Q : VK} (q : Q (.int (if i < 0 then -i else i)) H) : UAbs [.int i] H Q
theorem call_uabs : CallR X (.builtin "abs") UAbs := by
  intro pins s σ H xs us Q I r h
  cases h with
  | int q => exact call_abs pins s σ H _ us Q I r ⟨_, rfl, q⟩
/-! ### isinstance of data -/
/-- the name of data's class -/
def tyD : PyData → String
  | .none => "NoneType"
  | .bool _ => "bool"
  | .int _ => "int"
  | .str _ => "str"
  | .list _ => "list"
  | .tuple _ => "tuple"
  | .dict _ => "dict"
theorem tyX_of {K : PySem.W.Frag} {H : Hp} : ∀ {v : V} {d : PyData}, Dp K H v d → TyX K H v (.type (tyD d))
  | _, _, .non => .base .non
  | _, _, .bl b => .base (.bl b)
  | _, _, .int i => .base (.int i)
  | _, _, .str x => .base (.str x)
  | _, _, .lst h _ => by
    rcases h with (h | ⟨o, h⟩) | ⟨o, its, n, h, hc, _⟩
    · exact .base (.lst h)
    · exact .base (.frz h)
    · exact .kList h hc
  | _, _, .tup h _ => by
    rcases h with (h | ⟨o, h⟩) | ⟨o, its, n, h, hc, _⟩
    · exact .base (.tup h)
    · exact .fTuple h
    · exact .kTuple h hc
/-- isinstance of data and a built-in class -/
def isT (d : PyData) (T : String) : Bool := tyD d == T || (T == "int" && tyD d == "bool")
theorem kit_isT {T : String} (hT : T ∈ ["int", "bool", "str", "tuple", "list"]) : ∀ d : PyData, kitB (tyD d) T = some (isT d T) := by
  simp only [List.mem_cons, List.not_mem_nil, or_false] at hT
  intro d
  rcases hT with rfl | rfl | rfl | rfl | rfl <;> cases d <;> (first | (simp only [tyD, isT]; decide +kernel))
inductive UIsi (K : PySem.W.Frag) : List V → Hp → VK → Prop
  | dat {x : V} {d : PyData} {T : String} {H : Hp} {Q : VK} (h : Dp K H x d) (hT : T ∈ ["int", "bool", "str", "tuple", "list"]) (q : Q (.bl (isT d T)) H) : UIsi K [x, .ty T] H Q
theorem call_uisi {K : PySem.W.Frag} (hK : X.K = K := by rfl) : CallR X (.builtin "isinstance") (UIsi K) := by
  subst hK
  intro pins s σ H xs us Q I r h
  cases h with
  | dat h hT q => exact call_isi pins s σ H _ us Q I r ⟨_, _, _, _, _, rfl, .ty _, tyX_of h, kit_ty (kit_isT hT _), q⟩
end
/-! ### what stands in a comprehension's block: the written part by its own name -/
section
variable {X : Cx} {K : PySem.W.Frag} {tg l : Expr} {tl : TE}
theorem pi_ulist (hK : X.K = K := by rfl) (hl : PE X l tl) : PI X tg l (iList K tl) := by
  subst hK
  exact pi_list hl
theorem pi_utup (hK : X.K = K := by rfl) (hl : PE X l tl) : PI X tg l (iTup K tl) := by
  subst hK
  exact pi_tup hl
theorem call_usumL (hc : X.calm = true) (hK : X.K = K := by rfl) : CallR X (.builtin "sum") (rSumL K) := by
  subst hK
  exact call_sumL hc
theorem get_ulist (hK : X.K = K := by rfl) : PGet X (rGetL K) := by
  subst hK
  exact get_list
end
/-! ### constants of the module, built-in classes as values -/
section
variable {X : Cx} {x : Str} {pos : Pos}
theorem pe_cint {i : Int} (h : ∃ t, X.mg x = some (.int i t)) (hg : Gl X x) (hd : (x == ("__debug__" : Str)) = false := by decide) : PE X (.Name x pos) (tC (.int i)) := by
  obtain ⟨t, e⟩ := h
  exact pe_glob hg e ⟨t, rfl⟩ hd
theorem pe_cstr {z : Str} (h : ∃ t, X.mg x = some (.str z t)) (hg : Gl X x) (hd : (x == ("__debug__" : Str)) = false := by decide) : PE X (.Name x pos) (tC (.str z)) := by
  obtain ⟨t, e⟩ := h
  exact pe_glob hg e ⟨t, rfl⟩ hd
theorem pe_cty {T : String} (hv : bootBuiltins x = some (.type T)) (h : X.mg x = none) (hg : Gl X x) (hn : x ≠ "__name__" := by decide) (hd : (x == ("__debug__" : Str)) = false := by decide) : PE X (.Name x pos) (tC (.ty T)) :=
  pe_bltn hg h hv rfl hn hd
theorem bb_int : bootBuiltins "int" = some (.type "int") := by decide +kernel
theorem bb_bool : bootBuiltins "bool" = some (.type "bool") := by decide +kernel
theorem bb_str : bootBuiltins "str" = some (.type "str") := by decide +kernel
theorem bb_tuple : bootBuiltins "tuple" = some (.type "tuple") := by decide +kernel
theorem bb_list : bootBuiltins "list" = some (.type "list") := by decide +kernel
theorem bb_len : bootBuiltins "len" = some (.builtin "len") := by decide +kernel
theorem bb_abs : bootBuiltins "abs" = some (.builtin "abs") := by decide +kernel
theorem bb_sum : bootBuiltins "sum" = some (.builtin "sum") := by decide +kernel
theorem bb_repr : bootBuiltins "repr" = some (.builtin "repr") := by decide +kernel
theorem bb_isinstance : bootBuiltins "isinstance" = some (.builtin "isinstance") := by decide +kernel
theorem bb_all : bootBuiltins "all" = some (.builtin "all") := by decide +kernel
theorem bb_any : bootBuiltins "any" = some (.builtin "any") := by decide +kernel
theorem bb_sorted : bootBuiltins "sorted" = some (.builtin "sorted") := by decide +kernel
theorem bb_max : bootBuiltins "max" = some (.builtin "max") := by decide +kernel
theorem bb_min : bootBuiltins "min" = some (.builtin "min") := by decide +kernel
end
end Hk
set_option maxRecDepth 100000
set_option maxHeartbeats 2000000
namespace Hk
open PySem PySem.Spec PyProof.Rows
open L2
/-! ### a bag: the number that is parted, the stir, the place, the cells -/
structure BagAt (H : Hp) (b : Addr) : Prop where
  ex : ∃ (x y z : Int) (c : Addr) (ns : List Int), H b = some (.lst [.int x, .int y, .int z, .ref c]) ∧ H c = some (.lst (ns.map V.int)) ∧ 0 ≤ y ∧ y < 2147483647 ∧ ns.length ≤ 63
theorem BagAt.lst {H : Hp} {b : Addr} (h : BagAt H b) : ∃ xs, H b = some (.lst xs) := by
  obtain ⟨x, y, z, c, ns, e, _⟩ := h
  exact ⟨_, e⟩
theorem bag_ne {H : Hp} {b c : Addr} {x y z : Int} {ns : List Int} (h : H b = some (.lst [.int x, .int y, .int z, .ref c])) (h' : H c = some (.lst (ns.map V.int))) : c ≠ b := by
  intro e
  subst e
  rw [h] at h'
  have e2 : [V.int x, V.int y, V.int z, V.ref c] = ns.map V.int := by injection (Option.some.inj h')
  have m : V.ref c ∈ ns.map V.int := by rw [← e2]; simp
  obtain ⟨n, _, e3⟩ := List.mem_map.mp m
  cases e3
theorem BagAt.same {H H' : Hp} {b : Addr} (h : BagAt H b) (s : Same H H') : BagAt H' b := by
  obtain ⟨x, y, z, c, ns, e, ec, r⟩ := h
  exact ⟨x, y, z, c, ns, s _ _ e, s _ _ ec, r⟩
theorem Keep1.same {b : Addr} {H H1 H2 : Hp} (x : Keep1 b H H1) (y : Same H1 H2) : Keep1 b H H2 := fun a o n h => y a o (x a o n h)
theorem at4_0 {a b c d : V} : atI [a, b, c, d] 0 = some a := rfl
theorem at4_1 {a b c d : V} : atI [a, b, c, d] 1 = some b := rfl
theorem at4_2 {a b c d : V} : atI [a, b, c, d] 2 = some c := rfl
theorem at4_3 {a b c d : V} : atI [a, b, c, d] 3 = some d := rfl
theorem cut_ints (ns : List Int) (l u : Option Int) : ∃ ms : List Int, cutV (ns.map V.int) l u = ms.map V.int ∧ ms.length ≤ ns.length := by
  refine ⟨(ns.drop (HT.sIx (ns.map V.int).length 0 l)).take (HT.sIx (ns.map V.int).length (ns.map V.int).length u - HT.sIx (ns.map V.int).length 0 l), ?_, ?_⟩
  · unfold cutV
    rw [List.map_take, List.map_drop]
  · rw [List.length_take, List.length_drop]; omega
def spTake : Sp := fun vs H Q _ => ∃ (b : Addr) (m : Int), vs = [.ref b, .int m] ∧ 0 < m ∧ m < 1073741824 ∧ BagAt H b ∧ ∀ (d : Int) (H' : Hp), 0 ≤ d → d < m → Keep1 b H H' → BagAt H' b → Q (.int d) H'
def spBag (K : PySem.W.Frag) : Sp := fun vs H Q _ => ∃ (a : Addr) (ns : List Int), vs = [.ref a] ∧ SqL K H a (ns.map V.int) ∧ ∀ (b : Addr) (H' : Hp), Same H H' → H b = none → BagAt H' b → Q (.ref b) H'
/-- an item of a list or tuple that is not the bag -/
def spSome (K : PySem.W.Frag) : Sp := fun vs H Q _ => ∃ (b t : Addr) (xs : List V), vs = [.ref b, .ref t] ∧ BagAt H b ∧ t ≠ b ∧ (SqL K H t xs ∨ SqT K H t xs) ∧ xs ≠ [] ∧ xs.length < 1073741824 ∧
  ∀ (i : Nat) (x : V) (H' : Hp), xs[i]? = some x → Keep1 b H H' → BagAt H' b → Q x H'
/-- two like values -/
def spAlike (K : PySem.W.Frag) : Sp := fun vs H Q _ => ∃ (x y : V) (d : PyData), vs = [x, y] ∧ Dp K H x d ∧ Dp K H y d ∧ okd d = true ∧ Q (.bl true) H
theorem fmod_lt {a b : Int} (h : 0 < b) : 0 ≤ a.fmod b ∧ a.fmod b < b := by
  rw [Int.fmod_eq_emod_of_nonneg _ (Int.le_of_lt h)]
  exact ⟨Int.emod_nonneg _ (by omega), Int.emod_lt_of_pos _ h⟩
theorem SqL.k1 {K : PySem.W.Frag} {H H' : Hp} {a b : Addr} {xs : List V} (h : SqL K H a xs) (n : a ≠ b) (k : Keep1 b H H') : SqL K H' a xs := by
  rcases h with (h | ⟨o, h⟩) | h
  · exact .inl (.inl (k a _ n h))
  · exact .inl (.inr ⟨o, k a _ n h⟩)
  · exact .inr h
theorem SqT.k1 {K : PySem.W.Frag} {H H' : Hp} {a b : Addr} {xs : List V} (h : SqT K H a xs) (n : a ≠ b) (k : Keep1 b H H') : SqT K H' a xs := by
  rcases h with (h | ⟨o, h⟩) | h
  · exact .inl (.inl (k a _ n h))
  · exact .inl (.inr ⟨o, k a _ n h⟩)
  · exact .inr h
end Hk
set_option maxRecDepth 100000
set_option maxHeartbeats 2000000
namespace Hk
open PySem PySem.Spec PyProof.Rows
open L2
section
variable {K : PySem.W.Frag} {a : Addr} {xs : List V} {H0 : Hp} {Qd : Hp → Prop} {B : V → Hp → (Hp → Prop) → Prop}
/-- over a list that stands still, whatever a turn is -/
theorem walk_list (Pv : Nat → Hp → Prop) (h0 : Pv 0 H0) (hl : ∀ i H, i ≤ xs.length → Pv i H → SqL K H a xs) (hs : ∀ i x H, xs[i]? = some x → Pv i H → B x H (Pv (i + 1))) (hd : ∀ H, Pv xs.length H → Qd H) :
    ∃ W : Nat → Nat → Hp → Prop, (∃ m, W 0 m H0) ∧ ∀ i m H, W i m H → ((Itl K a).stop i H ∧ Qd H) ∨ ((Itl K a).go i H ∧ ∃ Nx : Hp → Prop, (∀ H', Nx H' → ∃ m', m' < m ∧ W (i + 1) m' H') ∧ ∀ x H', (Itl K a).yld i H x H' → B x H' Nx) := by
  refine ⟨fun i m H => m = xs.length - i ∧ i ≤ xs.length ∧ Pv i H, ⟨xs.length, rfl, Nat.zero_le _, h0⟩, ?_⟩
  rintro i m H ⟨rfl, hi, p⟩
  have z := hl i H hi p
  by_cases lt : i < xs.length
  · refine .inr ⟨⟨xs, xs[i], z, by simp [lt]⟩, Pv (i + 1), fun H' p' => ⟨xs.length - (i + 1), by omega, rfl, lt, p'⟩, ?_⟩
    rintro x H' ⟨rfl, y⟩
    exact hs i x _ (y xs z) p
  · obtain rfl : i = xs.length := by omega
    exact .inl ⟨⟨xs, z, Nat.le_refl _⟩, hd H p⟩
theorem walk_tup (Pv : Nat → Hp → Prop) (h0 : Pv 0 H0) (hl : ∀ i H, i ≤ xs.length → Pv i H → SqT K H a xs) (hs : ∀ i x H, xs[i]? = some x → Pv i H → B x H (Pv (i + 1))) (hd : ∀ H, Pv xs.length H → Qd H) :
    ∃ W : Nat → Nat → Hp → Prop, (∃ m, W 0 m H0) ∧ ∀ i m H, W i m H → ((Itt K a).stop i H ∧ Qd H) ∨ ((Itt K a).go i H ∧ ∃ Nx : Hp → Prop, (∀ H', Nx H' → ∃ m', m' < m ∧ W (i + 1) m' H') ∧ ∀ x H', (Itt K a).yld i H x H' → B x H' Nx) := by
  refine ⟨fun i m H => m = xs.length - i ∧ i ≤ xs.length ∧ Pv i H, ⟨xs.length, rfl, Nat.zero_le _, h0⟩, ?_⟩
  rintro i m H ⟨rfl, hi, p⟩
  have z := hl i H hi p
  by_cases lt : i < xs.length
  · refine .inr ⟨⟨xs, xs[i], z, by simp [lt]⟩, Pv (i + 1), fun H' p' => ⟨xs.length - (i + 1), by omega, rfl, lt, p'⟩, ?_⟩
    rintro x H' ⟨rfl, y⟩
    exact hs i x _ (y xs z) p
  · obtain rfl : i = xs.length := by omega
    exact .inl ⟨⟨xs, z, Nat.le_refl _⟩, hd H p⟩
theorem walk_range {l : Int} {n : Nat} (Pv : Nat → Hp → Prop) (h0 : Pv 0 H0) (hs : ∀ i H, i < n → Pv i H → B (.int (l + i)) H (Pv (i + 1))) (hd : ∀ H, Pv n H → Qd H) :
    ∃ W : Nat → Nat → Hp → Prop, (∃ m, W 0 m H0) ∧ ∀ i m H, W i m H → ((Itr l n).stop i H ∧ Qd H) ∨ ((Itr l n).go i H ∧ ∃ Nx : Hp → Prop, (∀ H', Nx H' → ∃ m', m' < m ∧ W (i + 1) m' H') ∧ ∀ x H', (Itr l n).yld i H x H' → B x H' Nx) := by
  refine ⟨fun i m H => m = n - i ∧ i ≤ n ∧ Pv i H, ⟨n, rfl, Nat.zero_le _, h0⟩, ?_⟩
  rintro i m H ⟨rfl, hi, p⟩
  by_cases lt : i < n
  · refine .inr ⟨lt, Pv (i + 1), fun H' p' => ⟨n - (i + 1), by omega, rfl, lt, p'⟩, ?_⟩
    rintro x H' ⟨rfl, rfl⟩
    exact hs i _ lt p
  · obtain rfl : i = n := by omega
    exact .inl ⟨Nat.le_refl _, hd H p⟩
end
theorem szl {n : Nat} (h : n ≤ 1000 := by simp) : n ≤ sizeLine := Nat.le_of_lt (small1000 h)
/-! ### a list of data at D, new since H0 -/
structure Grow (K : PySem.W.Frag) (H0 : Hp) (D : Addr) (ds : List PyData) (H : Hp) : Prop where
  same : Same H0 H
  free : H0 D = none
  at_ : ∃ vs, H D = some (.lst vs) ∧ Ims K H vs ds
section
variable {K : PySem.W.Frag} {H0 H H' : Hp} {D : Addr} {ds : List PyData}
theorem Grow.start (h : H0 D = none) : Grow K H0 D [] (upd H0 D (.lst [])) := ⟨sameUpd h, h, [], upd_same, .nil⟩
theorem Grow.ext (g : Grow K H0 D ds H) (s : Same H H') : Grow K H0 D ds H' := by
  obtain ⟨vs, e, r⟩ := g.at_
  exact ⟨g.same.trans s, g.free, vs, s _ _ e, Ims.kt (Same.kt s) r⟩
theorem Grow.push (g : Grow K H0 D ds H) {y : V} {d : PyData} (h : Im K H y d) (hz : ds.length < sizeLine) :
    ∃ acc, H D = some (.lst acc) ∧ acc.length < sizeLine ∧ Grow K H0 D (ds ++ [d]) (upd H D (.lst (acc ++ [y]))) := by
  obtain ⟨vs, e, r⟩ := g.at_
  refine ⟨vs, e, by rw [Ims.len r]; exact hz, fun b o q => ?_, g.free, vs ++ [y], upd_same, Ims.kt (ktUpd e) (Ims.app r (.one h))⟩
  rw [upd_ne (ne_of_none q g.free)]
  exact g.same b o q
/-- what is new is not what was -/
theorem Grow.fresh (g : Grow K H0 D ds H) {s0 : Hp} (s : Same s0 H0) : s0 D = none := s.free g.free
end
theorem SqL.same {K : PySem.W.Frag} {H H' : Hp} {a : Addr} {xs : List V} (s : Same H H') (h : SqL K H a xs) : SqL K H' a xs := L2.Same.seq s h
theorem SqT.same {K : PySem.W.Frag} {H H' : Hp} {a : Addr} {xs : List V} (s : Same H H') (h : SqT K H a xs) : SqT K H' a xs := SqT.kt (Same.kt s) h
/-- a new tuple of data -/
theorem Im.new {K : PySem.W.Frag} {H : Hp} {p : Addr} {vs : List V} {ds : List PyData} (h : H p = none) (r : Ims K H vs ds) : Im K (upd H p (.tup vs)) (.ref p) (.tuple ds) := .tup (.inl (.inl upd_same)) (Ims.kt (Same.kt (sameUpd h)) r)
theorem Ims.nil_iff {K : PySem.W.Frag} {H : Hp} {vs : List V} {ds : List PyData} (r : Ims K H vs ds) : vs = [] ↔ ds = [] := by
  cases r <;> simp
/-! ### tests whose answer is known -/
theorem iteD {p A B : Prop} [Decidable p] (h : p) (a : A) : if decide p = true then A else B := by
  rw [decide_eq_true h]; exact iteT a
theorem iteND {p A B : Prop} [Decidable p] (h : ¬ p) (b : B) : if decide p = true then A else B := by
  rw [decide_eq_false h]; exact iteF b
theorem iteNF {p A B : Prop} [Decidable p] (h : ¬ p) (a : A) : if (!decide p) = true then A else B := by
  rw [decide_eq_false h]; exact iteT a
/-! ### exceptions without data -/
structure ExcF (K : PySem.W.Frag) (mg : Str → Option Value) (x : Str) (C : Addr) : Prop where
  g : mg x = some (.ref C)
  ex : PySem.W.excIn K C [.type "ValueError", .type "Exception", .type "BaseException", .type "object"] "ValueError.__new__" = true
  kp : PySem.W.keepIn K (.ref C) = true
  sub : PySem.W.subIn K (.ref C) (.type "BaseException") = some true
  ty : PySem.W.typeIn K (.ref C) = some (.type "type")
  me : PySem.W.exmOne K (.ref C) (.ref C) = some true
section
variable {X : Cx} {Z : CXT} {k : Nat} {ps : List Str} {sp : Sp} {E : L2.St → XK} {x : Str} {p pos : Pos} {e : Expr} {es : List Expr} {t : TA}
/-- x(e, ..) of a def that may raise, in a try's body -/
theorem pe_hasS (h : Has X.prog X.w X.K X.mg X.base Z x k ps sp) (hr : Room k X.A) (hg : Gl X x) (hx : ∀ σ, PassesAt Z X σ (E σ)) (ha : PA X (e :: es) t) (hdb : (x == ("__debug__" : Str)) = false := by decide)
    (he : starEach (e :: es) X.env = (false, eval e X.env) :: starEach es X.env := by rfl) (hpl : (backTo pos (starEach es X.env)).any (·.1) = false := by rfl) : PE X (.Call (.Name x p) (e :: es) [] pos) (tCallS sp E t) := by
  obtain ⟨f, fd, a, b, c, F⟩ := h
  exact pe_callS F hr hg a b c.b hx ha hdb he hpl
end
end Hk
set_option maxRecDepth 100000
set_option maxHeartbeats 2000000
namespace Hk
open PySem PySem.Spec PyProof.Rows
open L2
/-- at most so deep, at most so heavy -/
structure OkAt (n w : Nat) (d : PyData) : Prop where
  lay : d.canLay0 = true
  dep : d.depth ≤ n
  sho : d.showable = true
  lea : d.leavesShort 13 = true
  wei : d.weight ≤ w
theorem OkAt.okd {n w : Nat} {d : PyData} (h : OkAt n w d) (hn : n ≤ 64) (hw : w ≤ 1048576) : okd d = true := by
  unfold Hk.okd SeqAt.shaped
  rw [h.lay, h.sho, h.lea, decide_eq_true (Nat.le_trans h.dep hn), decide_eq_true (Nat.le_trans h.wei hw)]; rfl
theorem OkAt.mono {n w n' w' : Nat} {d : PyData} (h : OkAt n w d) (hn : n ≤ n') (hw : w ≤ w') : OkAt n' w' d := ⟨h.lay, Nat.le_trans h.dep hn, h.sho, h.lea, Nat.le_trans h.wei hw⟩
theorem OkAt.non : OkAt 0 0 .none := ⟨rfl, Nat.le_refl _, rfl, rfl, Nat.le_refl _⟩
theorem OkAt.bl (b : Bool) : OkAt 0 0 (.bool b) := ⟨rfl, Nat.le_refl _, rfl, rfl, Nat.le_refl _⟩
theorem log2_lt {n k : Nat} (h : n < 2 ^ k) (hk : 0 < k) : n.log2 < k := by
  by_cases z : n = 0
  · subst z; simpa using hk
  · exact (Nat.log2_lt z).mpr h
theorem OkAt.int {i : Int} (h : i.natAbs < 1000000000000) : OkAt 0 40 (.int i) := by
  have hl : i.natAbs.log2 < 40 := log2_lt (Nat.lt_trans h (by decide)) (by decide)
  refine ⟨rfl, Nat.le_refl _, ?_, ?_, ?_⟩
  · exact decide_eq_true (Nat.lt_trans hl (by decide))
  · have e := int_text_length_le10 (a := i) (k := 12) (by decide) (Nat.lt_of_lt_of_le h (by decide))
    refine decide_eq_true (show (Str.ofString (toString i)).length ≤ 13 from ?_)
    rw [PySem.ofString_length]; exact e
  · show (if i == 0 then 0 else i.natAbs.log2 + 1) ≤ 40
    split <;> omega
section
variable {n w : Nat}
theorem okAll : ∀ {ds : List PyData}, (∀ d ∈ ds, OkAt n w d) → PyData.canLayAll0 ds = true ∧ PyData.depthAll ds ≤ n ∧ PyData.showableAll ds = true ∧ PyData.leavesShortAll 13 ds = true ∧ PyData.weightAll ds ≤ (w + 1) * ds.length
  | [], _ => ⟨rfl, Nat.zero_le _, rfl, rfl, Nat.zero_le _⟩
  | d :: ds, h => by
    obtain ⟨a, b, c, e, f⟩ := okAll (ds := ds) (fun x hx => h x (List.mem_cons_of_mem _ hx))
    have hd := h d List.mem_cons_self
    refine ⟨?_, ?_, ?_, ?_, ?_⟩
    · show (d.canLay0 && PyData.canLayAll0 ds) = true
      rw [hd.lay, a]; rfl
    · exact Nat.max_le.mpr ⟨hd.dep, b⟩
    · show (d.showable && PyData.showableAll ds) = true
      rw [hd.sho, c]; rfl
    · show (d.leavesShort 13 && PyData.leavesShortAll 13 ds) = true
      rw [hd.lea, e]; rfl
    · show d.weight + 1 + PyData.weightAll ds ≤ (w + 1) * (ds.length + 1)
      have := hd.wei
      rw [Nat.mul_add, Nat.mul_one]; omega
theorem OkAt.tup {ds : List PyData} (h : ∀ d ∈ ds, OkAt n w d) {m : Nat} (hm : ds.length ≤ m) : OkAt (n + 1) ((w + 1) * m) (.tuple ds) := by
  obtain ⟨a, b, c, e, f⟩ := okAll h
  refine ⟨a, Nat.succ_le_succ b, c, e, Nat.le_trans f (Nat.mul_le_mul_left _ hm)⟩
theorem OkAt.lst {ds : List PyData} (h : ∀ d ∈ ds, OkAt n w d) {m : Nat} (hm : ds.length ≤ m) : OkAt (n + 1) ((w + 1) * m) (.list ds) := by
  obtain ⟨a, b, c, e, f⟩ := okAll h
  refine ⟨a, Nat.succ_le_succ b, c, e, Nat.le_trans f (Nat.mul_le_mul_left _ hm)⟩
end
end Hk
set_option maxRecDepth 100000
set_option maxHeartbeats 2000000
namespace Hk
open PySem PySem.Spec PyProof.Rows
open L2
section
variable {fa : List He.Fa} {fn : List He.DefD} {K : PySem.W.Frag} {h : Heap} {mg : Str → Option Value}
theorem src_of (X : K.In h) (G : h.Ns mainGlobals mg) (c : He.SaysD fa fn K) (i j : Nat) {x : Str} {st : Stmt} (hi : fa[i]? = some (.glo x) := by rfl) (hj : fn[j]? = some ⟨(x, none), x, x, defArgs st, defBody st, defScope st, [], []⟩ := by rfl) : Src K mg x st := by
  obtain ⟨fd, F⟩ := c.def_ j hj
  exact ⟨_, fd, He.glo_ok X G (c.fact i hi), F⟩
theorem exc_of (X : K.In h) (G : h.Ns mainGlobals mg) (c : He.SaysD fa fn K) (i j k : Nat) {x : Str} (hi : fa[i]? = some (.glo x) := by rfl) (hj : fa[j]? = some (.exc x) := by rfl) (hk : fa[k]? = some (.exm x x true) := by rfl) : ExcF K mg x (He.ga K x) := by
  obtain ⟨a, b, d, e⟩ := He.exc_ok (c.fact j hj)
  exact ⟨He.glo_ok X G (c.fact i hi), a, b, d, e, He.exm_ok (c.fact k hk)⟩
theorem int_of (X : K.In h) (G : h.Ns mainGlobals mg) (c : He.SaysD fa fn K) (i : Nat) {x : Str} {n : Int} (hi : fa[i]? = some (.int x n) := by rfl) : ∃ t, mg x = some (.int n t) := He.int_ok X G (c.fact i hi)
theorem str_of (X : K.In h) (G : h.Ns mainGlobals mg) (c : He.SaysD fa fn K) (i : Nat) {x z : Str} (hi : fa[i]? = some (.str x z) := by rfl) : ∃ t, mg x = some (.str z t) := He.str_ok X G (c.fact i hi)
theorem free_of (X : K.In h) (G : h.Ns mainGlobals mg) (c : He.SaysD fa fn K) (i : Nat) {x : Str} (hi : fa[i]? = some (.free x) := by rfl) : mg x = none := He.free_ok X G (c.fact i hi)
end
/-- what the law promises -/
def spLaw (K : PySem.W.Frag) : Sp := fun vs H Q _ => ∃ (a : Addr) (ns : List Int), vs = [.ref a] ∧ SqL K H a (ns.map V.int) ∧ ∀ H', Q (.bl true) H'
/-- THE END: the law keeps its promise over the head's facts -/
theorem law_end {l : PySem.W.OpenLaw} {k : Nat} {q : Program} {loose : List Str} {XP : (Str → Option Value) → Heap → Prop} {d : DefRec} {n : Nat} {fa : List He.Fa} {fn : List He.DefD}
    (hn : l.most = some 63) (hdf : d.params.defaults = []) (hd : d.name = "law") (hr : Room k callerA)
    (F : ∀ (w : World) (K : PySem.W.Frag) (mg : Str → Option Value) (h : Heap), K.In h → h.Ns mainGlobals mg → He.SaysD fa fn K → ∀ base : Heap, HasG l.prog w K mg base CX0 "law" k ["script"] (spLaw K)) :
    PySem.W.WalkO q loose XP (He.hookD n fa fn).says l.row.toRowW d [] (fun f vs => PySem.call f vs) := by
  refine walk_ofG (n := 63) (k := k) (x := "script") (Z := CX0) hn (by decide) hdf hr ?_ (fun _ _ _ _ z => z)
  intro w mg f h Y G hmg
  obtain ⟨K, KX, c⟩ := Y
  rw [hd] at hmg
  refine ⟨K, spLaw K, KX, fun H a ns _ _ hS => ⟨a, ns, rfl, hS, fun _ => rfl⟩, fun base _ _ => ?_⟩
  obtain ⟨f2, fd, g2, _, bd, FG⟩ := F w K mg h KX G c base
  obtain rfl : f2 = f := by
    rw [hmg] at g2
    injection Option.some.inj g2 with e
    exact e.symm
  exact ⟨fd, FG, fun s u => bd s [u] rfl⟩
end Hk
set_option maxRecDepth 100000
set_option maxHeartbeats 2000000
namespace Hk
open PySem PySem.Spec PyProof.Rows PySem.Calls
open L2
/-! ### the text of such an __init__ -/
def tiA (f1 f2 : Str) (p1 p2 p3 : Pos) : Arguments :=
  { posonlyargs := [], args := [{ arg := "self", annotation := none, pos := p1 }, { arg := f1, annotation := none, pos := p2 }, { arg := f2, annotation := none, pos := p3 }], vararg := none, kwonlyargs := [], kw_defaults := [], kwarg := none, defaults := [] }
def tiB (f1 f2 : Str) (q1 q2 q3 q4 q5 q6 q7 r1 r2 r3 r4 t1 t2 t3 t4 : Pos) : List Stmt :=
  [.Expr (.Call (.Attribute (.Call (.Name "super" q1) [] [] q2) "__init__" q3) [.Name f1 q4, .Name f2 q5] [] q6) q7,
   .Assign [.Attribute (.Name "self" r1) f1 r2] (.Name f1 r3) r4, .Assign [.Attribute (.Name "self" t1) f2 t2] (.Name f2 t3) t4]
/-- the names of the two fields, the scope -/
structure TiS (f1 f2 : Str) (sc : Scope) : Prop where
  kind : sc.kind = .function
  co : sc.isCoroutine = false
  gen : sc.isGenerator = false
  nocell : ∀ y ∈ sc.names, y.2 ≠ .cell
  self : sc.names.lookup ("self" : Str) = some .local
  one : sc.names.lookup f1 = some .local
  two : sc.names.lookup f2 = some .local
  sup : sc.names.lookup ("super" : Str) = some .globalImplicit
  cls : sc.names.lookup ("__class__" : Str) = some .free
  d1 : (f1 == ("__debug__" : Str)) = false
  d2 : (f2 == ("__debug__" : Str)) = false
  n12 : f1 ≠ f2
  n1 : f1 ≠ "self"
  n2 : f2 ≠ "self"
/-- the call of super().__init__ is told by its places -/
def TiE (f1 f2 : Str) (q1 q2 q3 q4 q5 q6 : Pos) : Prop := ∃ pl : Sem Bool, ∀ env : Env, eval (.Call (.Attribute (.Call (.Name "super" q1) [] [] q2) "__init__" q3) [.Name f1 q4, .Name f2 q5] [] q6) env = (do
  let ov ← attributeBase (.Call (.Name "super" q1) [] [] q2) "__init__" env (eval (.Call (.Name "super" q1) [] [] q2) env)
  standAt q3.atName
  let (f, first) ← holding [ov] (getMethod ov "__init__" pl)
  callWith q6 f first (backTo q6 (starEach [.Name f1 q4, .Name f2 q5] env)) [])
/-- what the written part says of the class at C, its __init__ at fI, the cell of __class__ at cc, the code object at cda -/
structure TwoC (P : Program) (K : PySem.W.Frag) (C fI cc cda : Addr) (qual f1 f2 : Str) : Prop where
  cls : ∃ nm q N bs bm sn sub ab col dd k0 k1 k2 k3 k5, K.lookup C = some (excClassObj nm q C N bs bm true sn sub ab col dd k0 k1 k2 k3 k5 "ValueError.__new__") ∧ PySem.HandSPX.refsVE bm = true
  sa : PySem.W.findIn K (.ref C) "__setattr__" = some (some (.builtin "object.__setattr__"))
  no1 : PySem.W.findIn K (.ref C) f1 = some none
  no2 : PySem.W.findIn K (.ref C) f2 = some none
  iC : PySem.W.findIn K (.ref C) "__init__" = some (some (.ref fI))
  tC : PySem.W.typeIn K (.ref fI) = some (.type "function")
  kC : PySem.W.keepIn K (.ref C) = true
  exC : PySem.W.subIn K (.ref C) (.type "BaseException") = some true
  vE : PySem.W.subIn K (.ref C) (.type "ValueError") = some true
  tyC : PySem.W.typeIn K (.ref C) = some (.type "type")
  xf : XfC K C
  su : PySem.W.ks_superIn K C C "__init__" = some (some (.builtin "ValueError.__init__"))
  ms : PySem.W.mroIn K C (.ref C) = some true
  tp : PySem.W.nsIn K cStatics "thirdparty.any" = some none
  sc : ∃ sc : Scope, TiS f1 f2 sc ∧ ∃ (oc : Value) (od : Option Addr) (doc pm : Value) (an : Option Addr) (ct : Value) (osl : Array (Option Value)) (p1 p2 p3 q1 q2 q3 q4 q5 q6 q7 r1 r2 r3 r4 t1 t2 t3 t4 : Pos),
    K.lookup fI = some ⟨oc, od, .func (PySem.W.ksFn "__init__" qual (tiA f1 f2 p1 p2 p3) (tiB f1 f2 q1 q2 q3 q4 q5 q6 q7 r1 r2 r3 r4 t1 t2 t3 t4) sc .none .none doc pm an (.ref cda) ct cc), osl⟩ ∧
      (∀ a b c : Value, bindArgs (PySem.W.ksFn "__init__" qual (tiA f1 f2 p1 p2 p3) (tiB f1 f2 q1 q2 q3 q4 q5 q6 q7 r1 r2 r3 r4 t1 t2 t3 t4) sc .none .none doc pm an (.ref cda) ct cc) ⟨[a, b, c], []⟩ = pure [(("self" : Str), a), (f1, b), (f2, c)]) ∧ TiE f1 f2 q1 q2 q3 q4 q5 q6
  cd : PySem.W.codeIn K (.ref cda) qual = true
  cell : ∃ (cl : Value) (cld : Option Addr) (csl : Array (Option Value)), K.lookup cc = some ⟨cl, cld, .cell (some (.ref C)), csl⟩
  code : ∃ (ccl : Value) (cdd : Option Addr) (vs : Array Value) (ccs : Array (Option Value)) (file : Str) (tf : Tok), K.lookup cda = some ⟨ccl, cdd, .fields vs, ccs⟩ ∧ vs[2]? = some (.str file tf) ∧ ((P.main.file : Str) == file) = true
  top : (P.main.scope.names.lookup ("super" : Str)).isSome = false
/-- what __init__ leaves of a fresh exception at x -/
structure TwoEnd (h h' : Heap) (x C dx t1 : Addr) (f1 f2 : Str) (v1 v2 : Value) : Prop where
  keep : ∀ b o, b ≠ x → h.get? b = some o → h'.get? b = some o
  obj : h'.get? x = some { cls := .ref C, dict := some dx, data := .fields #[.ref t1, .none, .none, .none, .bool false, .none] }
  dbig : h.objs.size ≤ dx
  dne : dx ≠ x
  ns : h'.Ns1 dx (fun y => if y = f2 then some v2 else if y = f1 then some v1 else none)
section
variable {prog : Program} {w : World} {A : Around} {E : Value → Shared → Prop} {R : Result → Shared → Prop} {s : Shared} {K : PySem.W.Frag} {mg : Str → Option Value} {C fI cc cda : Addr} {qual f1 f2 : Str}
/-- super().__init__(..), called: what is kept -/
theorem mw_call {M : Model} {u e t0 : Addr} {rest : List Value} {Q : Value → Shared → Prop} {h : Heap} {g : Array GenState} {d : Drawn} {t : Nat} {os : OsState} {nm q : Str} {N : Addr} {bs bm : List Value} {hdct : Bool} {sn : List Str} {sub : List Value} {ab : Bool} {col : Option Bool} {dd : Option Addr} {k0 k1 k2 k3 k5 : Option Value}
    (hC : h.get? C = some (excClassObj nm q C N bs bm hdct sn sub ab col dd k0 k1 k2 k3 k5 "ValueError.__new__")) (he : h.get? e = some (PySem.HandSPX.excO C t0)) (hu : h.get? u = some (PySem.W.kxs_mw "ValueError.__init__" e)) (hz : rest.length ≤ sizeLine)
    (hq : ∀ h' t1, (∀ b o, b ≠ e → h.get? b = some o → h'.get? b = some o) → h'.get? e = some (PySem.HandSPX.excO C t1) → Q .none ⟨h', g, d, t, os⟩) :
    wpAny (model prog w) A (call (.ref u) rest) Q E ⟨h, g, d, t, os⟩ := by
  refine wpAny_call (codeAny_of_tree ?_)
  show wpAny _ A.in1 (callAny (.ref u) ⟨rest, []⟩) _ _ _
  unfold callAny
  refine wpAny_bind (wpAny_load hu ?_)
  simp only [show (Value.type "method-wrapper" == Value.type "method" || Value.type "method-wrapper" == Value.type "builtin_function_or_method" || Value.type "method-wrapper" == Value.type "method-wrapper") = true by decide, if_true]
  refine PySem.W.KFB.if_so (by decide) ?_
  refine wpAny_bind (PySem.W.check_bound_init (F.excBase_ValueError).toExcCallFacts hC he rfl ?_)
  refine wpAny_bind (wpAny_pure (wpAny_pure ?_))
  refine ⟨Code.quiet_builtin _ (by decide +kernel), codeAny_builtin (F.excBase_ValueError).initEntry ?_⟩
  exact PySem.W.exc_init_tree (cls := .ref C) (t0 := t0) (dv := none) (c2 := .none) (c3 := .none) (b4 := .bool false) he hz fun h' k e' _ => hq h' _ k e'
theorem two_init (T : TwoC prog K C fI cc cda qual f1 f2) {x t0 : Addr} {v1 v2 : Value} (X : K.In s.heap) (lim : s.heap.NoLimit) (G : s.heap.Ns mainGlobals mg) (hsu : mg "super" = none)
    (B : ∃ mb, s.heap.Ns builtinsNs mb ∧ ∀ y : Str, y ≠ "__name__" → mb y = bootBuiltins y) (hx : s.heap.get? x = some (PySem.HandSPX.excO C t0)) (hnx : K.lookup x = none) (hroom : A.depth < recursionLimit)
    (hq : ∀ h' tk dx t1, TwoEnd s.heap h' x C dx t1 f1 f2 v1 v2 → R (.ok (.ret .none)) { s with heap := h', toks := tk }) :
    codeAny (model prog w) A (.call (.ref fI) ⟨[.ref x, v1, v2], []⟩) R s := by
  obtain ⟨sc, S, oc, od, doc, pm, an, ct, osl, p1, p2, p3, q1, q2, q3, q4, q5, q6, q7, r1, r2, r3, r4, t1, t2, t3, t4, ho, hb, pl, hev⟩ := T.sc
  obtain ⟨nm, q, N, bs, bm, sn, sub, ab, col, dd, k0, k1, k2, k3, k5, hC, hbm⟩ := T.cls
  obtain ⟨cl, cld, csl, hcell⟩ := T.cell
  obtain ⟨ccl, cdd, vs, ccs, file, tf, hcda, hvs, hfile⟩ := T.code
  obtain ⟨mb, hB, hmb⟩ := B
  have hcl : PySem.W.clsIn K C = some { name := nm, bases := bs, mro := .ref C :: bm, ns := N, qualname := q, hasDict := true, slotNames := sn, subclasses := sub, abstract := ab, collection := col, hasDel := false } := by
    unfold PySem.W.clsIn; rw [hC] <;> rfl
  have l1 : ([(("self" : Str), Value.ref x), (f1, v1), (f2, v2)] : List (Str × Value)).reverse.lookup ("self" : Str) = some (.ref x) := by
    have a := S.n1; have b := S.n2
    simp [List.lookup, Ne.symm a, Ne.symm b, beq_eq_false_iff_ne.mpr (Ne.symm a), beq_eq_false_iff_ne.mpr (Ne.symm b)]
  have l2 : ([(("self" : Str), Value.ref x), (f1, v1), (f2, v2)] : List (Str × Value)).reverse.lookup f1 = some v1 := by
    simp [List.lookup, beq_eq_false_iff_ne.mpr S.n12]
  have l3 : ([(("self" : Str), Value.ref x), (f1, v1), (f2, v2)] : List (Str × Value)).reverse.lookup f2 = some v2 := by
    simp [List.lookup]
  refine PySem.ks_codeAny_call_defAt (binds := [(("self" : Str), .ref x), (f1, v1), (f2, v2)]) hroom (X _ _ ho) rfl lim (PySem.W.codeRec_of X T.cd) rfl (BindsTo.of_eq (hb _ _ _)) S.nocell ?_ (fun h1 ns1 kp => ?_) S.co S.gen S.kind
  · intro y hy
    rcases List.mem_cons.mp hy with rfl | hy
    · exact S.self
    rcases List.mem_cons.mp hy with rfl | hy
    · exact S.one
    rcases List.mem_cons.mp hy with rfl | hy
    · exact S.two
    · simp at hy
  have hxL : s.heap.objs.size ≠ x := Nat.ne_of_gt (Heap.lt_size hx)
  have hxC : x ≠ C := fun z => by rw [z, hC] at hnx; cases hnx
  have X1 : K.In h1 := X.keeps kp
  have hx1 := kp _ _ hx
  obtain ⟨sh, sg, sd, st, so⟩ := s
  refine PySem.ks_wpAt_execs_cons (PySem.ks_wpAt_Expr_any (PySem.ks_wpAt_MethodCall (PySem.ks_wpAt_super_base (fd := PySem.W.ksFn "__init__" qual (tiA f1 f2 p1 p2 p3) (tiB f1 f2 q1 q2 q3 q4 q5 q6 q7 r1 r2 r3 r4 t1 t2 t3 t4) sc .none .none doc pm an (.ref cda) ct cc) S.sup S.cls (by decide) rfl (X1 _ _ ho) rfl rfl rfl (X1 _ _ hcda) rfl hvs hfile T.top ?_) (hev _)) (by show interactive _ = false; unfold interactive; rw [show (callEnv (PySem.W.ksFn "__init__" qual (tiA f1 f2 p1 p2 p3) (tiB f1 f2 q1 q2 q3 q4 q5 q6 q7 r1 r2 r3 r4 t1 t2 t3 t4) sc .none .none doc pm an (.ref cda) ct cc) sh.objs.size fI).scope.kind = .function from S.kind] <;> rfl))
  refine PySem.W.ks_loadName_global S.kind S.sup (loadGlobal_builtin (G.keeps kp) hsu (hB.keeps kp) ((hmb _ (by decide +kernel)).trans (by decide +kernel)) ⟨rfl, ?_⟩)
  refine wpAny_loadName_free S.kind S.cls rfl ⟨_, X1 _ _ hcell, rfl⟩ ?_
  refine wpAny_loadName_local S.kind S.self ns1 l1 ?_
  refine PySem.ks_wpAny_isType_cls (X1 _ _ hC) rfl ⟨rfl, ?_⟩
  refine PySem.ks_wpAny_call_super (X1 _ _ hC) rfl hx1 rfl (fun c e => by cases e) (PySem.W.looks_mroIn X1 T.ms) (fun h2 e2 k2 => ?_)
  have X2 : K.In h2 := X1.keeps k2
  have hx2 := k2 _ _ hx1
  have hI : PySem.W.Looks (model prog w) h2 (isInstance (.ref x) (.type "ValueError")) true :=
    (PySem.W.InstAt.type (C := C) (ox := PySem.HandSPX.excO C t0) (od := none) ⟨hx2, rfl, rfl, trivial⟩).andThen (PySem.W.looks_subIn X2 T.vE)
  have hm := T.su
  unfold PySem.W.ks_superIn at hm
  rw [hcl] at hm
  refine PySem.W.kxs_getMethod PySem.W.kxs_ValueError e2 (PySem.W.looks_opaque X2 T.tp) (l₀ := .ref C :: bm) ?_ rfl X2 hm hI hxC (by decide) ?_
  · exact fun A Q E s k q => wpAny_bind ((PySem.W.looks_clsIn X2 hcl) A _ E s k (wpAny_pure q))
  have hmw : (h2.push (PySem.W.kxs_mw "ValueError.__init__" x)).get? h2.objs.size = some (PySem.W.kxs_mw "ValueError.__init__" x) := Heap.get?_push_at rfl rfl
  have k3' : ∀ b o, h1.get? b = some o → (h2.push (PySem.W.kxs_mw "ValueError.__init__" x)).get? b = some o := fun b o e => Heap.get?_push_of_some _ (k2 b o e)
  refine PySem.W.kxs_callWith (x := x) (i := "ValueError.__init__") (by rfl) (evalArgs_plain ?_)
  have nsm := ns1.keeps k3'
  refine spliced_cons (wpAny_Name (wpAny_loadName_local S.kind S.one nsm l2 ?_) S.d1)
  refine spliced_cons (wpAny_Name (wpAny_loadName_local S.kind S.two nsm l3 ?_) S.d2)
  refine spliced_nil ⟨hmw, ?_⟩
  refine mw_call (M := model prog w) (C := C) (k3' _ _ (X1 _ _ hC)) (k3' _ _ hx1) hmw (by rw [sizeLine_eq]; exact (by decide : 2 ≤ 16777216)) (fun h3 t3 k3 hx3 => ?_)
  have nx : ∀ {b : Addr} {o : Obj}, K.lookup b = some o → b ≠ x := fun {b o} e z => by rw [z, hnx] at e; cases e
  have X3 : K.In h3 := fun b o e => k3 b o (nx e) (k3' _ _ (X1 b o e))
  have ns3 : h3.Ns sh.objs.size fun y => ([(("self" : Str), Value.ref x), (f1, v1), (f2, v2)] : List (Str × Value)).reverse.lookup y := by
    obtain ⟨oL, es, ep, hL, r⟩ := nsm
    exact ⟨oL, es, ep, k3 _ _ hxL hL, r⟩
  have old3 : ∀ b o, b ≠ x → sh.get? b = some o → h3.get? b = some o := fun b o hb e => k3 b o hb (k3' b o (kp b o e))
  refine PySem.ks_wpAt_execs_cons (wpAt_of_wpAny (plainObj_wpAny_Assign_Attribute ?_))
  refine wpAny_Name (wpAny_loadName_local S.kind S.one ns3 l2 ?_) S.d1
  refine wpAny_Name (wpAny_loadName_local S.kind S.self ns3 l1 ?_) (by decide)
  refine PySem.W.set_plain X3 (ox := PySem.HandSPX.excO C t3) (od := none) ⟨hx3, rfl, rfl, trivial⟩ T.sa ?_
  refine PySem.HandSPX.exc_osa X3 hx3 hcl (show PySem.HandSPX.refsVE (.ref C :: bm) = true from hbm) rfl T.no1 (fun h4 tk4 dx k4 dn dne hx4 hn4 => ?_)
  have X4 : K.In h4 := fun b o e => k4 b o (nx e) (X3 b o e)
  have ns4 : h4.Ns sh.objs.size fun y => ([(("self" : Str), Value.ref x), (f1, v1), (f2, v2)] : List (Str × Value)).reverse.lookup y := by
    obtain ⟨oL, es, ep, hL, r⟩ := ns3
    exact ⟨oL, es, ep, k4 _ _ hxL hL, r⟩
  have hw : Within (fun y => if y = f1 then some v1 else none) [f1] := Within.cons f1 v1 Within.nil
  obtain ⟨oD, _, _, hoD, _, _⟩ := hn4.count hw
  refine PySem.ks_wpAt_execs_cons (wpAt_of_wpAny (plainObj_wpAny_Assign_Attribute ?_))
  refine wpAny_Name (wpAny_loadName_local S.kind S.two ns4 l3 ?_) S.d2
  refine wpAny_Name (wpAny_loadName_local S.kind S.self ns4 l1 ?_) (by decide)
  refine PySem.W.set_plain X4 (ox := { cls := .ref C, dict := some dx, data := .fields #[.ref t3, .none, .none, .none, .bool false, .none] }) (od := some oD) ⟨hx4, rfl, rfl, hoD⟩ T.sa ?_
  refine PySem.OEX.osa_old X4 hx4 hn4 hw (show 1 ≤ 1000 by decide) hcl (show PySem.HandSPX.refsVE (.ref C :: bm) = true from hbm) rfl T.no2 (fun h5 tk5 k5 hn5 => ?_)
  have lt3 : sh.objs.size ≤ dx := Nat.le_trans (Nat.le_of_lt ns3.lt) dn
  refine wpAt_of_wpAny (wpAny_execs_nil (hq h5 _ dx t3 ⟨fun b o hb e => k5 b o (fun z => ?_) (k4 b o hb (old3 b o hb e)), k5 _ _ (Ne.symm dne) hx4, lt3, dne, hn5⟩))
  exact absurd (Heap.lt_size e) (by rw [z]; exact Nat.not_lt.mpr lt3)
/-- an exception of the class, made -/
structure TwoMade (h h' : Heap) (e C d : Addr) (f1 f2 : Str) (v1 v2 : Value) : Prop where
  keep : ∀ b o, h.get? b = some o → h'.get? b = some o
  new : h.objs.size ≤ e
  obj : ∃ oe vs, h'.get? e = some oe ∧ oe.cls = .ref C ∧ oe.dict = some d ∧ oe.data = .fields vs ∧ vs[1]? = some .none
  dbig : h.objs.size ≤ d
  dne : d ≠ e
  ns : h'.Ns1 d (fun y => if y = f2 then some v2 else if y = f1 then some v1 else none)
theorem two_made (T : TwoC prog K C fI cc cda qual f1 f2) {v1 v2 : Value} (X : K.In s.heap) (lim : s.heap.NoLimit) (G : s.heap.Ns mainGlobals mg) (hsu : mg "super" = none)
    (B : ∃ mb, s.heap.Ns builtinsNs mb ∧ ∀ y : Str, y ≠ "__name__" → mb y = bootBuiltins y) (hroom : A.depth + 1 < recursionLimit)
    (hq : ∀ h' tk e d, TwoMade s.heap h' e C d f1 f2 v1 v2 → R (.ok (.ret (.ref e))) { s with heap := h', toks := tk }) :
    codeAny (model prog w) A (.call (.ref C) ⟨[v1, v2], []⟩) R s := by
  obtain ⟨nm, q, N, bs, bm, sn, sub, ab, col, dd, k0, k1, k2, k3, k5, hC, hbm⟩ := T.cls
  obtain ⟨mb, hB, hmb⟩ := B
  obtain ⟨hp, g, dr, tk, os⟩ := s
  have k : ∀ b o, hp.get? b = some o → ((hp.push (PySem.W.kdv_tup [v1, v2])).push (PySem.HandSPX.excO C hp.objs.size)).get? b = some o := fun b o e => Heap.get?_push_of_some _ (Heap.get?_push_of_some _ e)
  have hget : ((hp.push (PySem.W.kdv_tup [v1, v2])).push (PySem.HandSPX.excO C hp.objs.size)).get? (hp.objs.size + 1) = some (PySem.HandSPX.excO C hp.objs.size) := by heap_get
  have hnx : K.lookup (hp.objs.size + 1) = none := by
    cases e : K.lookup (hp.objs.size + 1) with
    | none => rfl
    | some o => exact absurd (Nat.lt_of_succ_lt (Heap.lt_size (show hp.get? (hp.objs.size + 1) = some o from X _ _ e))) (Nat.lt_irrefl _)
  refine PySem.HandSPX.call_own F.excBase_ValueError (fun X => PySem.HandSPX.refsVE_contains X bm hbm) (X _ _ hC) (PySem.W.looks_findIn X T.iC) (fun self => PySem.W.bind_fn X self T.tC) (by rw [sizeLine_eq]; exact (by decide : 2 ≤ 16777216)) ?_
  refine two_init (mg := mg) (s := ⟨(hp.push (PySem.W.kdv_tup [v1, v2])).push (PySem.HandSPX.excO C hp.objs.size), g, dr, tk, os⟩) T (X.keeps k) (lim.keeps k) (G.keeps k) hsu ⟨mb, hB.keeps k, hmb⟩ hget hnx hroom (fun h' tk' dx t1 M => ?_)
  have sz : ((hp.push (PySem.W.kdv_tup [v1, v2])).push (PySem.HandSPX.excO C hp.objs.size)).objs.size = hp.objs.size + 1 + 1 := by rw [Heap.size_push, Heap.size_push]
  have z : hp.objs.size + 1 + 1 ≤ dx := by rw [← sz]; exact M.dbig
  refine ⟨rfl, hq h' tk' (hp.objs.size + 1) dx ⟨fun b o e => M.keep b o (Nat.ne_of_lt (Nat.lt_succ_of_lt (Heap.lt_size e))) (k b o e), Nat.le_succ _, ⟨_, _, M.obj, rfl, rfl, rfl, rfl⟩, ?_, M.dne, M.ns⟩⟩
  exact Nat.le_trans (Nat.le_trans (Nat.le_succ _) (Nat.le_succ _)) z
end
theorem relO_two {f1 f2 : Str} {x y : V} {x' y' : Value} (rx : RelV x x') (ry : RelV y y') (n : f1 ≠ f2) (f : Str) : RelO (List.lookup f [(f1, x), (f2, y)]) (if f = f2 then some y' else if f = f1 then some x' else none) := by
  by_cases h2 : f = f2
  · subst h2
    rw [if_pos rfl, show List.lookup f [(f1, x), (f, y)] = some y by simp [List.lookup, beq_eq_false_iff_ne.mpr (Ne.symm n)]]
    exact ry
  · rw [if_neg h2]
    by_cases h1 : f = f1
    · subst h1
      rw [if_pos rfl, show List.lookup f [(f, x), (f2, y)] = some x by simp [List.lookup]]
      exact rx
    · rw [if_neg h1, show List.lookup f [(f1, x), (f2, y)] = none by simp [List.lookup, beq_eq_false_iff_ne.mpr h1, beq_eq_false_iff_ne.mpr h2]]
      trivial
/-! ### the rule -/
/-- a class x of this kind, by its name -/
structure ExcT (P : Program) (K : PySem.W.Frag) (mg : Str → Option Value) (x : Str) (C : Addr) (f1 f2 : Str) : Prop where
  g : mg x = some (.ref C)
  su : mg "super" = none
  n12 : f1 ≠ f2
  ex : ∃ (fI cc cda : Addr) (qual : Str), TwoC P K C fI cc cda qual f1 f2
  te : PySem.W.exmOne K (.ref C) (.ref C) = some true
/-- C(e, e') -/
def tMkT (C : Addr) (f1 f2 : Str) (ta : TA) : L2.St → Hp → XK → Prop := fun σ H Q => ta σ H fun vs H1 => ∃ x y, vs = [x, y] ∧ ∀ d, H1 d = none → Q (.ref C) (some d) (upd H1 d (.xd [(f1, x), (f2, y)]))
section
variable {X : Cx} {x : Str} {C : Addr} {f1 f2 : Str} {a b : Expr} {ta : TA} {p pos : Pos} {k : Nat}
theorem pmk_two (T : ExcT X.prog X.K X.mg x C f1 f2) (hr : Room (k + 1) X.A) (ha : PA X [a, b] ta) (hg : Gl X x) (hdb : (x == ("__debug__" : Str)) = false := by decide)
    (he : starEach (a :: [b]) X.env = (false, eval a X.env) :: starEach [b] X.env := by rfl) (hpl : (backTo pos (starEach [b] X.env)).any (·.1) = false := by rfl) :
    PMk X (.Call (.Name x p) [a, b] [] pos) (tMkT C f1 f2 ta) := by
  obtain ⟨fI, cc, cda, qual, T2⟩ := T.ex
  intro pins s σ H Q I h
  refine wpAny_Call_Name_kw (ld_glob I hg T.g ?_ hdb)
  refine PySem.W.callWith_K (h₀ := X.base) I.ok.mod.kin T2.kC (thn (ha.run pos pins s σ H _ I h) fun us s1 hh => ?_) he hpl
  obtain ⟨vs, H1, I1, r1, v, u, ev, q1⟩ := hh
  subst ev
  refine ⟨I1.kIn, ?_⟩
  cases r1 with
  | cons rv rn =>
    rename_i v' us'
    cases rn with
    | cons ru rn =>
      rename_i u' us'
      cases rn
      show wpAny _ _ (call (.ref C) [v', u']) _ _ _
      have lim := I1.nolimit
      obtain ⟨mb, hB, hmb⟩ := I1.mod.blt
      have G1 := I1.mod.glob.keeps I1.bk
      have B1 := hB.keeps I1.bk
      obtain ⟨hp, g, dr, tk, os⟩ := s1
      refine wpAny_call (two_made (mg := X.mg) T2 I1.kIn lim G1 T.su ⟨mb, B1, hmb⟩ (by have := hr.dp; omega) fun h' tk' e d M => ?_)
      show MkP X pins σ Q (.ref e) ⟨h', g, dr, tk', os⟩
      obtain ⟨oe, fv, hoe, hc, hd, hdat, h1⟩ := M.obj
      have hns := M.ns
      obtain ⟨G', g1, g2⟩ := restrict h' fun b => decide (b ≠ e)
      have gk : ∀ b, b ≠ e → G'.get? b = h'.get? b := fun b hb => g1 b (decide_eq_true hb)
      have ge : G'.get? e = none := g2 e (by simp)
      have old : ∀ b o, hp.get? b = some o → G'.get? b = some o := fun b o q => (gk b (Nat.ne_of_lt (Nat.lt_of_lt_of_le (Heap.lt_size q) M.new))).trans (M.keep b o q)
      have ob : ObjOk X.prog X.w (upd H1 d (.xd [(f1, v), (f2, u)])) G' d (.xd [(f1, v), (f2, u)]) :=
        ⟨_, hns.at (fun o q => (gk d M.dne).trans q), fun f => relO_two rv ru T.n12 f⟩
      have J : Inv X pins σ (upd H1 d (.xd [(f1, v), (f2, u)])) ⟨G', g, dr, tk', os⟩ := I1.laid (t' := tk') old M.dbig ob
      refine ⟨e, oe, fv, ⟨G', g, dr, tk', os⟩, _, .ref C, some d, rfl, J, fun b o q => ?_, ge, hoe, ⟨hc, hd⟩, hdat, h1, ?_, rfl, I1.bare, raises_own T2.exC T2.tyC, q1 d (I1.hok.fresh M.dbig)⟩
      · by_cases hb : b = e
        · have q' : G'.get? b = some o := q
          rw [hb, ge] at q'; cases q'
        · exact (gk b hb).symm.trans q
      · rw [upd_ne (Ne.symm M.dne)]
        exact I1.hok.fresh M.new
end
end Hk
set_option maxRecDepth 100000
set_option maxHeartbeats 2000000
namespace Hk
open PySem PySem.Spec PyProof.Rows
open L2
/-- a clause: the class, the slot of its name if it has one, what its suite does -/
structure Cl where
  c : Value
  at_ : Option Nat
  ts : Addr → Value → Option Addr → TS
def asEnds (i : Nat) (D : Ends) : Ends := { nx := fun t G => D.nx (t.set i none) G, rt := D.rt, bk := fun t G => D.bk (t.set i none) G, ct := fun t G => D.ct (t.set i none) G }
def Cl.wish (q : Cl) (a : Addr) (cls : Value) (d : Option Addr) (D : Ends) (σ : L2.St) (H : Hp) : Prop := match q.at_ with
  | none => q.ts a cls d D σ H
  | some i => q.ts a cls d (asEnds i D) (σ.set i (some (.ref a))) H
def wMix (K : PySem.W.Frag) (Wout : WX) (D : Ends) : List Cl → WX
  | [] => Wout
  | q :: r => fun cls d σ H => ∃ b, PySem.W.exmOne K cls q.c = some b ∧ (b = true → ∀ a, H a = none → q.wish a cls d D σ H) ∧ (b = false → wMix K Wout D r cls d σ H)
/-- what is known of a suite -/
def SuOk (X : Cx) (bs : List Stmt) (ts : Addr → Value → Option Addr → TS) : Prop :=
  bs ≠ [] ∧ ∀ (a : Addr) (oe : Obj) (cls : Value) (d : Option Addr) (pn : List (Addr × Obj)), Zc cls d oe → (∃ vs, oe.data = .fields vs) → PSs (X.suite a ((a, oe) :: pn)) bs (ts a cls d)
inductive HdM (X : Cx) : List ExceptHandler → List Cl → Prop
  | nil : HdM X [] []
  | plain {x : Str} {c : Value} {ts : Addr → Value → Option Addr → TS} {bs : List Stmt} {p1 p2 : Pos} {hs : List ExceptHandler} {l : List Cl} (hc : Names X x c) (su : SuOk X bs ts) (r : HdM X hs l) :
      HdM X (.ExceptHandler (some (.Name x p1)) none bs p2 :: hs) (⟨c, none, ts⟩ :: l)
  | named {x n : Str} {i : Nat} {c : Value} {ts : Addr → Value → Option Addr → TS} {bs : List Stmt} {p1 p2 : Pos} {hs : List ExceptHandler} {l : List Cl} (hN : X.N.Nodup) (hi : X.N[i]? = some n) (hl : X.env.kindOf n = some .local)
      (hc : Names X x c) (su : SuOk X bs ts) (r : HdM X hs l) : HdM X (.ExceptHandler (some (.Name x p1)) (some n) bs p2 :: hs) (⟨c, some i, ts⟩ :: l)
section
variable {X : Cx}
/-- a flow out of a suite, brought to the try's own context -/
theorem suite_out {a : Addr} {oe : Obj} {pn : List (Addr × Obj)} {pins : List (Addr × Obj)} {D : Ends} {f : Flow} {z : Shared} (ok : X.Ok) (h : SP (X.suite a ((a, oe) :: (pn ++ pins))) [] D f z) (hp : pn = X.pn) : SP X pins D f z := by
  subst hp
  cases f with
  | ret u =>
    obtain ⟨v, t, G, S, r, y⟩ := h
    exact ⟨v, t, G, S.unsuite ok, r, y⟩
  | next | brk | cont =>
    obtain ⟨t, G, S, y⟩ := h
    exact ⟨t, G, S.unsuite ok, y⟩
theorem try_out {pn : List (Addr × Obj)} {xe : Value → Shared → Prop} {pins : List (Addr × Obj)} {D : Ends} {f : Flow} {z : Shared} (ok : X.Ok) (h : SP (X.tr (X.pn ++ pins) xe) [] D f z) : SP X pins D f z := by
  cases f with
  | ret u =>
    obtain ⟨v, t, G, S, r, y⟩ := h
    exact ⟨v, t, G, S.ofTry ok, r, y⟩
  | next | brk | cont =>
    obtain ⟨t, G, S, y⟩ := h
    exact ⟨t, G, S.ofTry ok, y⟩
theorem ps_try_mix {body : List Stmt} {h₀ : ExceptHandler} {hs : List ExceptHandler} {l : List Cl} {pos : Pos} {tb : WX → TS} {Wout : WX} (st : X.stack = X.env :: X.outer) (hf : X.env.frame = some X.env.locals) (tk : Takes X Wout)
    (hb : ∀ (W : WX) (pn : List (Addr × Obj)) (xe : Value → Shared → Prop), Takes (X.tr pn xe) W → PassesOwn (model X.prog X.w) X.A X.env xe → PSs (X.tr pn xe) body (tb W))
    (hh : HdM X (h₀ :: hs) l) : PS X (.Try body (h₀ :: hs) [] [] pos) (fun D σ H => tb (wMix X.K Wout D l) D σ H) := by
  refine ⟨fun pins s σ H D I h => ?_⟩
  have ok := I.ok
  have frm : X.A.frames = some (X.env :: X.outer) := by rw [ok.frames, st]
  refine wpAny_Try_except ?_
  have run := (hb (wMix X.K Wout D l) (X.pn ++ pins) (fun e y => wpAny (model X.prog X.w) X.A (noteFrame e X.env) (fun _ y2 => wpAny (model X.prog X.w) X.A (setFlight e none) (fun _ y3 =>
    wpAny (model X.prog X.w) X.A (handleBy e X.env (h₀ :: hs)) (SP X pins D) X.xe y3) X.xe y2) X.xe y) ?c PassesOwn.looking).run [] s σ H D (I.toTry _) h
  case c =>
    intro u y xx
    obtain ⟨a, B, sI, pins', t, G, cls, d, rfl, J', nb, up, sky, na, os, ag, w⟩ := xx
    have J : Inv X pins t G sI := J'.ofTry ok
    rw [st] at sky
    show wpAny _ X.A (noteFrame (.ref a) X.env) _ _ _
    refine Sky.land Zc.steady frm hf sky (fun h3 fl up3 => ?_)
    have J3 : Inv X pins t G { y with heap := h3 } := J.landed nb fl.1 (up.trans up3) os ag
    obtain ⟨oe, ve, g3, z3, d3⟩ := fl.there
    have nfr : a ∉ frs (X.env :: X.outer) := fun hm => by
      obtain ⟨_, o, e, ne⟩ := fl.2.2.1.mem hm
      rw [g3] at e; cases e
      exact ne _ d3
    have nL : a ≠ X.env.locals := fun z => nfr (List.mem_filterMap.mpr ⟨X.env, List.mem_cons_self, by rw [hf, z]⟩)
    have nF : a ∉ X.fs := fun hm => by
      obtain ⟨e, he, z⟩ := List.mem_filterMap.mp hm
      exact nfr (List.mem_filterMap.mpr ⟨e, List.mem_cons_of_mem _ he, z⟩)
    have S3 := J3.suite g3 d3 na nL nF
    -- a class's name, looked up within the handlers
    have look : ∀ {x : Str} {c : Value} {np : Pos} {Q : Value → Shared → Prop} {E : Value → Shared → Prop}, Names X x c → Q c { y with heap := h3 } → wpAny (model X.prog X.w) (X.A.mark (some (.ref a))) (eval (.Name x np) X.env) Q E { y with heap := h3 } := fun hc z => by
      obtain ⟨g1, g2, g3 | ⟨g3, g4, g5⟩⟩ := hc
      · exact ld_glob (X := X.suite a ((a, oe) :: (X.pn ++ pins))) S3 g1 g3 z g2
      · exact ld_blt (X := X.suite a ((a, oe) :: (X.pn ++ pins))) S3 g1 g3 g4 z g5 g2
    have LT : PySem.W.Looks (model X.prog X.w) h3 (typeOf (.ref a)) cls := fun A Q E z k q => wpAny_typeOf_ref (k _ _ g3) (by rw [z3.1]; exact q)
    suffices go : ∀ {hs' : List ExceptHandler} {l' : List Cl}, HdM X hs' l' → wMix X.K Wout D l' cls d t G → wpAny (model X.prog X.w) X.A (handleBy (.ref a) X.env hs') (SP X pins D) X.xe { y with heap := h3 } from go hh w
    intro hs' l' hk
    induction hk with
    | nil =>
      intro w
      refine wpAny_handleBy_nil ?_
      obtain ⟨k1, k2, k3, o, vs, T, oT, ts', he, hz, hd, h1, hr⟩ := id fl
      unfold PySem.passOn
      refine wpAny_bind (wpAny_field he hd h1 ?_)
      rw [if_neg (show ¬ ((Value.ref T == Value.none) = true) by simp)]
      have fin : wpAny (model X.prog X.w) X.A (setFlight (.ref a) X.env.frame) (fun _ z => wpAny (model X.prog X.w) X.A (throw (.ref a) : Sem Flow) (SP X pins D) X.xe z) X.xe { y with heap := h3 } := by
        rw [hf]
        exact HandSPX.setFlight_upZ fl fun h4 hh4 up4 => wpAny_throw (tk _ _ ⟨a, B, sI, pins, t, G, cls, d, rfl, J, nb, (up.trans up3).trans up4, .inr (.inr (by rw [st]; exact hh4)), na, os, ag, w⟩)
      first
        | exact wpAny_bind (wpAny_pure (wpAny_bind fin))
        | exact wpAny_bind fin
    | @plain x c ts bs p1 p2 hs2 l2 hc su r ih =>
      intro w
      obtain ⟨b, e1, yes, no⟩ := w
      refine wpAny_handleBy_cons (codeAny_handlers_test ?_) (by intro q; cases q)
      refine look hc ((PySem.W.exm_one (M := model X.prog X.w) (J3.kIn) LT e1).here ?_)
      cases b with
      | false => exact ih (no rfl)
      | true =>
        obtain ⟨b0, bs', rfl⟩ := List.exists_cons_of_ne_nil su.1
        refine codeAny_handlers_suite ?_
        refine HandSPX.lands_againZ fl (fun h4 fl4 up4 => ?_)
        have J4 : Inv X pins t G { y with heap := h4 } := J.landed nb fl4.1 ((up.trans up3).trans up4) os ag
        obtain ⟨o4, v4, g4, z4, d4⟩ := fl4.there
        exact wpAny_mono ((su.2 a o4 cls d (X.pn ++ pins) z4 ⟨_, d4⟩).run [] _ _ G _ (J4.suite g4 d4 na nL nF) (yes rfl a na)) (fun f z hz => suite_out ok hz rfl) (fun _ _ z => False.elim z)
    | @named x n i c ts bs p1 p2 hs2 l2 hN hi hln hc su r ih =>
      intro w
      obtain ⟨b, e1, yes, no⟩ := w
      refine wpAny_handleBy_cons (codeAny_handlers_test ?_) (by intro q; cases q)
      refine look hc ((PySem.W.exm_one (M := model X.prog X.w) (J3.kIn) LT e1).here ?_)
      cases b with
      | false => exact ih (no rfl)
      | true =>
        obtain ⟨b0, bs', rfl⟩ := List.exists_cons_of_ne_nil su.1
        refine codeAny_handlers_suite_as ?_
        refine HandSPX.lands_againZ fl (fun h4 fl4 up4 => ?_)
        have J4 : Inv X pins t G { y with heap := h4 } := J.landed nb fl4.1 ((up.trans up3).trans up4) os ag
        obtain ⟨o4, v4, g4, z4, d4⟩ := fl4.there
        refine store_ok (X := X.suite a ((a, o4) :: (X.pn ++ pins))) (v := .ref a) (J4.suite g4 d4 na nL nF) hN hi (.inl hln) rfl (fun y5 S5 => ?_) (.inr hln)
        refine wpAny_mono ((su.2 a o4 cls d (X.pn ++ pins) z4 ⟨_, d4⟩).run [] y5 _ G _ S5 (yes rfl a na)) (fun f z hz => ?_) (fun _ _ z => False.elim z)
        have out := suite_out ok hz rfl
        cases f with
        | ret u =>
          obtain ⟨v, t6, G6, S6, r6, q6⟩ := out
          exact gone_ok S6 hN hi hln (fun s7 J7 => ⟨_, _, _, J7, r6, q6⟩)
        | next | brk | cont =>
          obtain ⟨t6, G6, S6, q6⟩ := out
          exact gone_ok S6 hN hi hln (fun s7 J7 => ⟨_, _, J7, q6⟩)
  refine wpAny_mono run (fun f y hy => ?_) (fun e y he => he)
  have out := try_out (pn := X.pn) ok hy
  cases f with
  | next =>
    obtain ⟨t, G, J, q⟩ := out
    exact wpAny_execs_nil ⟨t, G, J, q⟩
  | ret u | brk | cont => exact out
end
end Hk
set_option maxRecDepth 100000
set_option maxHeartbeats 2000000
namespace Hk
open PySem PySem.Spec PyProof.Rows
open L2
/-! ### the call of the law, tables of code objects beside the script -/
theorem law_callGT {P : Program} {w : World} {K : PySem.W.Frag} {mg mb : Str → Option Value} {Z : CXT} {k : Nat} {fa a : Addr} {tb : List (Addr × Addr)} {x : Str} {sp : Sp} {z : Shared} {vs : List Value} {ns : List Int}
    (KX : K.In z.heap) (hns : z.heap.Ns mainGlobals mg) (hb : z.heap.Ns builtinsNs mb) (hbb : ∀ y : Str, y ≠ "__name__" → mb y = bootBuiltins y) (lim : z.heap.NoLimit) (hg : z.gens = #[])
    (tE : ∀ q ∈ tb, z.heap.get? q.2 = some { cls := .none, data := .fields #[] }) (tN : ∀ q ∈ tb, K.lookup q.2 = none) (tC : ∀ q ∈ tb, PySem.W.CodeHd z.heap q.1 q.2)
    (hm : ∃ (bm : Addr) (ob : Obj), mg "__builtins__" = some (.ref bm) ∧ bm ≠ builtinsNs ∧ z.heap.get? bm = some ob ∧ ob.cls = .type "module" ∧ ob.dict = some builtinsNs ∧ ob.data = .plain)
    (ha : z.heap.get? a = some { cls := .type "list", data := .seq vs.toArray }) (hi : IntsAre vs ns) (hl : ns.length ≤ sizeLine) (hr : Room k callerA)
    (F : ∀ base : Heap, K.In base → base.Ns mainGlobals mg → (∀ q ∈ tb, LamX.TabB base mg q.1 q.2) → ∃ fd : FuncData, FnG P w K mg base Z k fa fd [x] sp ∧ ∀ (s : Shared) (u : Value), BindsTo s fd ⟨[u], []⟩ [(x, u)])
    (hsp : ∀ H : Hp, (∀ q ∈ tb, H q.2 = some (.tbl #[])) → SqL K H a (ns.map V.int) → sp [.ref a] H (fun v _ => v = .bl true) fun _ _ _ => False)
    (hZ : ∀ H e s', Z [] H z (fun _ _ _ => False) e s' → False) :
    codeAny (model P w) callerA (.call (.ref fa) ⟨[.ref a], []⟩) (fun r s' => r = .ok (.ret (.bool true)) ∧ OldK z.heap s'.heap ∧ s'.os = z.os ∧ AllBare s'.gens) z := by
  have rv := vals_ints hi
  have lenV := hi.length
  have inT : ∀ b : Addr, b ∈ tb.map (·.2) → z.heap.get? b = some { cls := .none, data := .fields #[] } := by
    intro b hb
    obtain ⟨q, hq, rfl⟩ := List.mem_map.mp hb
    exact tE q hq
  have aT : a ∉ tb.map (·.2) := fun m => by
    have e := inT a m
    rw [ha] at e
    cases (show Data.seq vs.toArray _ = Data.fields #[] from congrArg Obj.data (Option.some.inj e))
  have core : ∀ H : Hp, (∀ q ∈ tb, H q.2 = some (.tbl #[])) → (∀ b u, H b = some u → b ∈ tb.map (·.2) ∨ (b = a ∧ ∃ o xs, u = .frz o (.lst xs))) → SqL K H a (ns.map V.int) → HOk P w H z.heap → (H a ≠ none → K.lookup a = none) →
      codeAny (model P w) callerA (.call (.ref fa) ⟨[.ref a], []⟩) (fun r s' => r = .ok (.ret (.bool true)) ∧ OldK z.heap s'.heap ∧ s'.os = z.os ∧ AllBare s'.gens) z := by
    intro H hH hO hS hok hK
    have baseOf : ∀ {b : Addr} {o : Obj}, z.heap.get? b = some o → H b = none → (hidT z.heap H).get? b = some o := fun e n => hidT_get e n
    have notIn : ∀ {b : Addr} {o : Obj}, z.heap.get? b = some o → o.data ≠ .fields #[] → (∀ vs n, o.data ≠ .seq vs n) → H b = none := by
      intro b o e n1 n2
      cases q : H b with
      | none => rfl
      | some u =>
        rcases hO b u q with m | ⟨rfl, _⟩
        · rw [inT b m] at e; cases e
          exact absurd rfl n1
        · rw [ha] at e; cases e
          exact absurd rfl (n2 _ _)
    have nsK : ∀ {b : Addr} {m : Str → Option Value}, z.heap.Ns b m → (hidT z.heap H).Ns b m := fun ⟨o, es, ep, e, d, r⟩ =>
      ⟨o, es, ep, baseOf e (notIn e (by rw [d]; exact fun y => by cases y) (fun _ _ => by rw [d]; exact fun y => by cases y)), d, r⟩
    have hKb : K.In (hidT z.heap H) := fun b o e => baseOf (KX b o e) (by
      cases q : H b with
      | none => rfl
      | some u =>
        rcases hO b u q with m | ⟨rfl, _⟩
        · obtain ⟨y, hy, rfl⟩ := List.mem_map.mp m
          rw [tN y hy] at e; cases e
        · rw [hK (fun e => by rw [q] at e; cases e)] at e; cases e)
    have hM : Mod K mg (hidT z.heap H) := ⟨hKb, nsK hns, ⟨mb, nsK hb, hbb⟩, let ⟨mc, h1, h2⟩ := lim; ⟨mc, nsK h1, h2⟩⟩
    have TB : ∀ q ∈ tb, LamX.TabB (hidT z.heap H) mg q.1 q.2 := by
      intro q hq
      have eq := tE q hq
      refine ⟨?_, ?_, fun y => ?_⟩
      · obtain ⟨o, us, file, tf, flags, tg, inF, text, tt, e1, c1, c2, c3, c4, c5, c6, c7, c8, ne⟩ := tC q hq
        refine ⟨o, us, file, tf, flags, tg, inF, text, tt, baseOf e1 (notIn e1 (fun y => ?_) (fun _ _ y => ?_)), c1, c2, c3, c4, c5, c6, c7, c8, ne⟩
        · rw [c2] at y; cases y; simp at c3
        · rw [c2] at y; cases y
      · obtain ⟨bm, ob, b1, b2, b3, b4, b5, b6⟩ := hm
        refine ⟨bm, ob, b1, b2, fun y => ?_, fun y => ?_, baseOf b3 (notIn b3 (by rw [b6]; exact fun y => by cases y) (fun _ _ => by rw [b6]; exact fun y => by cases y)), b4, b5, b6⟩
        · obtain ⟨o, es, ep, e, hd, _⟩ := hns
          rw [y, e] at b3; cases b3
          rw [hd] at b6; cases b6
        · rw [y, eq] at b3; cases b3
          cases b6
      · obtain ⟨o, es, ep, e, hd, _⟩ := hns
        rw [y, eq] at e; cases e
        cases hd
    have none_in : ∀ b : Addr, b ∉ ([] : List Addr) := fun b => by simp
    have e0 : Env0 P w K mg (hidT z.heap H) callerA [] z H := ⟨rfl, hM, fun b o e => of_hidT e, Nat.le_of_eq (hidT_size _ _), trivial, fun b hb => absurd (show b ∈ ([] : List Addr) from hb) (none_in b), hok, .of_eq hg⟩
    obtain ⟨fd, FG, hbd⟩ := F _ hKb (nsK hns) TB
    refine codeAny_mono (FG.runG callerA [] z H ⟨[.ref a], []⟩ [.ref a] [.ref a] _ _ rfl hr e0 (hbd z (.ref a)) (.cons rfl .nil) (hsp H hH hS)) (fun r s' h => ?_)
    cases r with
    | error e => exact (hZ H e s' h).elim
    | ok fl =>
      cases fl with
      | next | brk | cont => exact False.elim h
      | ret u =>
        obtain ⟨v, H', os, bare, un, hok', r', q⟩ := h
        obtain rfl : v = .bl true := q
        obtain rfl : u = Value.bool true := r'
        have stay : ∀ b o, b ∉ tb.map (·.2) → z.heap.get? b = some o → s'.heap.get? b = some o := by
          intro b o nb e
          cases q : H b with
          | none => exact un.keep b o e q (fun y => absurd (show b ∈ ([] : List Addr) from y) (none_in b)) (none_in b)
          | some u =>
            rcases hO b u q with m | ⟨_, ob, xs, rfl⟩
            · exact absurd m nb
            · obtain ⟨e1, _⟩ := hok b _ q
              obtain ⟨e2, _⟩ := hok' b _ (un.frzs b ob _ q)
              rw [e] at e1; cases e1
              exact e2
        have more : ∀ q ∈ tb, ∃ us : Array Value, s'.heap.get? q.2 = some { cls := .none, data := .fields us } := fun q hq => by
          obtain ⟨us, y⟩ := un.tbls q.2 #[] (hH q hq)
          exact ⟨_, hok' q.2 _ y⟩
        refine ⟨rfl, ⟨fun b o e => ?_, fun b o e => ?_⟩, os, bare⟩
        · by_cases m : b ∈ tb.map (·.2)
          · obtain ⟨q, hq, rfl⟩ := List.mem_map.mp m
            obtain ⟨us, y⟩ := more q hq
            rw [tE q hq] at e; cases e
            exact .inr (.inl ⟨((tC q hq).tab (tE q hq)).isCodeTable, rfl, #[], us, rfl, by rw [Array.empty_append]; exact y⟩)
          · exact .inl (stay b o m e)
        · by_cases m : b ∈ tb.map (·.2)
          · obtain ⟨q, hq, rfl⟩ := List.mem_map.mp m
            obtain ⟨us, y⟩ := more q hq
            exact ⟨_, y⟩
          · exact ⟨o, stay b o m e⟩
  -- the heap: the tables, the script if the text does not hold it
  have inB : ∀ q ∈ tb, q.2 ∈ tb.map (·.2) := fun q hq => List.mem_map.mpr ⟨q, hq, rfl⟩
  cases hk : K.lookup a with
  | some o =>
    have e := KX a o hk
    rw [ha] at e; cases e
    refine core (fun b => if b ∈ tb.map (·.2) then some (.tbl #[]) else none) (fun q hq => if_pos (inB q hq)) (fun b u y => ?_) (.inr ⟨_, vs.toArray, _, hk, rfl, rfl, rfl, by rw [List.size_toArray, lenV]; exact hl, by simpa using rv⟩) (fun b u y => ?_) (fun y => absurd (if_neg aT) y)
    · by_cases m : b ∈ tb.map (·.2)
      · exact .inl m
      · cases (if_neg m).symm.trans y
    · by_cases m : b ∈ tb.map (·.2)
      · cases (if_pos m).symm.trans y
        exact inT b m
      · cases (if_neg m).symm.trans y
  | none =>
    refine core (fun b => if b = a then some (.frz { cls := .type "list", data := .seq vs.toArray } (.lst (ns.map V.int))) else if b ∈ tb.map (·.2) then some (.tbl #[]) else none) (fun q hq => ?_) (fun b u y => ?_) (.inl (.inr ⟨{ cls := .type "list", data := .seq vs.toArray }, if_pos rfl⟩)) (fun b u y => ?_) (fun _ => hk)
    · exact (if_neg (fun y : q.2 = a => aT (by rw [← y]; exact inB q hq))).trans (if_pos (inB q hq))
    · by_cases hb : b = a
      · cases (if_pos hb).symm.trans y
        exact .inr ⟨hb, _, _, rfl⟩
      · have y := (if_neg hb).symm.trans y
        by_cases m : b ∈ tb.map (·.2)
        · exact .inl m
        · cases (if_neg m).symm.trans y
    · by_cases hb : b = a
      · cases (if_pos hb).symm.trans y
        subst hb
        exact ⟨ha, by rw [List.length_map]; exact hl, vs, _, rv, ha⟩
      · have y := (if_neg hb).symm.trans y
        by_cases m : b ∈ tb.map (·.2)
        · cases (if_pos m).symm.trans y
          exact inT b m
        · cases (if_neg m).symm.trans y
/-- the law over a head by facts, with tables -/
theorem walk_ofGT {l : PySem.W.OpenLaw} {n k : Nat} {q : Program} {loose : List Str} {XP : (Str → Option Value) → Heap → Prop} {YP : World → Heap → Prop} {d : DefRec} {Z : CXT} {x : Str}
    (hn : l.most = some n) (hn2 : n ≤ sizeLine) (hdf : d.params.defaults = []) (hr : Room k callerA)
    (F : ∀ (w : World) (mg : Str → Option Value) (fa : Addr) (h : Heap), YP w h → h.Ns mainGlobals mg → mg d.name = some (.ref fa) →
      ∃ (K : PySem.W.Frag) (tb : List (Addr × Addr)) (sp : Sp), K.In h ∧ (∀ q ∈ tb, h.get? q.2 = some { cls := .none, data := .fields #[] }) ∧ (∀ q ∈ tb, K.lookup q.2 = none) ∧ (∀ q ∈ tb, PySem.W.CodeHd h q.1 q.2) ∧
        (∀ (H : Hp) (a : Addr) (ns : List Int), ns.length ≤ n → (∀ q ∈ tb, H q.2 = some (.tbl #[])) → SqL K H a (ns.map V.int) → sp [.ref a] H (fun v _ => v = .bl true) fun _ _ _ => False) ∧
        ∀ base : Heap, K.In base → base.Ns mainGlobals mg → (∀ q ∈ tb, LamX.TabB base mg q.1 q.2) → ∃ fd : FuncData, FnG l.prog w K mg base Z k fa fd [x] sp ∧ ∀ (s : Shared) (u : Value), BindsTo s fd ⟨[u], []⟩ [(x, u)])
    (hZ : ∀ (H : Hp) (s : Shared) (e : Value) (s' : Shared), Z [] H s (fun _ _ _ => False) e s' → False) :
    PySem.W.WalkO q loose XP YP l.row.toRowW d [] (fun f vs => PySem.call f vs) := by
  refine Att.attach_call hn hdf (fun w s₀ z mg mb fa o pm cd doc a vs ns G Y ho hd hcd hmg hobj hints hlen hg => ?_)
  obtain ⟨K, tb, sp, KX, t1, t2, t3, hsp, hF⟩ := F w mg fa _ Y G.T.g hmg
  exact law_callGT KX G.T.g G.T.b G.T.builtins G.T.nolimit hg t1 t2 t3 G.T.bmain hobj hints (Nat.le_trans hlen hn2) hr hF (fun H hO hS => hsp H a ns hlen hO hS) (fun H e s' => hZ H z e s')
/-! ### a class with an own __init__, as the head tells it -/
/-- the j-th row of a class's text -/
def clsItem (st : Stmt) (j : Nat) : Stmt := match st with
  | .ClassDef _ _ _ body _ _ _ _ _ _ _ => body.getD j (.Pass ⟨0, 0, 0, 0⟩)
  | _ => .Pass ⟨0, 0, 0, 0⟩
theorem ExcT.xf {P : Program} {K : PySem.W.Frag} {mg : Str → Option Value} {x : Str} {C : Addr} {f1 f2 : Str} (T : ExcT P K mg x C f1 f2) : XfC K C ∧ PySem.W.findIn K (.ref C) f1 = some none ∧ PySem.W.findIn K (.ref C) f2 = some none := by
  obtain ⟨_, _, _, _, T2⟩ := T.ex
  exact ⟨T2.xf, T2.no1, T2.no2⟩
structure InitD where
  cls : Str
  f1 : Str
  f2 : Str
  params : Arguments
  body : List Stmt
  scope : Scope
abbrev InW : Type := Option (Str × Str × Arguments × FuncBody × Scope × Addr × List Str × Addr)
def initW (K : PySem.W.Frag) (d : InitD) : InW := match K.lookup (He.fAd K (d.cls, some "__init__")) with
  | some ⟨_, _, .func fd, _⟩ => some (fd.name, fd.qualname, fd.params, fd.body, fd.scope, fd.globals, fd.closure.map (·.1), fd.builtins)
  | _ => none
def InitD.qual (d : InitD) : Str := d.cls ++ ".__init__"
def InitD.val (d : InitD) : InW := some ("__init__", d.qual, d.params, .stmts d.body, d.scope, mainGlobals, ["__class__"], builtinsNs)
def exT2 (K : PySem.W.Frag) (C : Addr) : Bool := match K.lookup C with
  | some ⟨.type t, _, .cls cd, sl⟩ => decide (t = "type") && (match cd.mro, sl.toList with
    | .ref C' :: bm, [_, _, _, _, some (.builtin n), _] => C' == C && (n == "ValueError.__new__" && (!cd.hasDel && (cd.hasDict && PySem.HandSPX.refsVE bm)))
    | _, _ => false)
  | _ => false
theorem exT2_ok {K : PySem.W.Frag} {C : Addr} (q : exT2 K C = true) : ∃ nm q N bs bm sn sub ab col dd k0 k1 k2 k3 k5, K.lookup C = some (excClassObj nm q C N bs bm true sn sub ab col dd k0 k1 k2 k3 k5 "ValueError.__new__") ∧ PySem.HandSPX.refsVE bm = true := by
  unfold exT2 at q
  split at q
  · rename_i t dd cd sl ho
    obtain ⟨y1, y2⟩ := He.ba q
    clear q
    obtain rfl := of_decide_eq_true y1
    split at y2
    · rename_i C' bm k0 k1 k2 k3 n k5 hm hs
      obtain ⟨a1, y3⟩ := He.ba y2
      obtain ⟨a2, y4⟩ := He.ba y3
      obtain ⟨a3, y5⟩ := He.ba y4
      obtain ⟨a4, a5⟩ := He.ba y5
      obtain rfl := beq_iff_eq.mp a1
      obtain rfl := beq_iff_eq.mp a2
      obtain ⟨nm, bs, mro, ns, qn, hd, sn, sub, ab, col, del⟩ := cd
      dsimp only at hm a3 a4
      subst hm a4
      obtain rfl : del = false := by simpa using a3
      obtain rfl : sl = #[k0, k1, k2, k3, some (.builtin "ValueError.__new__"), k5] := by
        obtain ⟨l⟩ := sl
        simp only at hs
        rw [hs]
      exact ⟨nm, qn, ns, bs, bm, sn, sub, ab, col, dd, k0, k1, k2, k3, k5, ho, a5⟩
    · cases y2
  · cases q
/-- the function's own part: no defaults, its cell holds the class, its code object is of the main file -/
def inCell (P : Program) (K : PySem.W.Frag) (C fI : Addr) (qual : Str) : Bool := match K.lookup fI with
  | some ⟨_, _, .func fd, _⟩ => (match fd.closure, fd.code, fd.defaults, fd.kwdefaults with
    | [(_, cc)], .ref cda, .none, .none => PySem.W.codeIn K (.ref cda) qual && ((match K.lookup cc with
        | some ⟨_, _, .cell (some (.ref D)), _⟩ => decide (D = C)
        | _ => false) && (match K.lookup cda with
        | some ⟨_, _, .fields vs, _⟩ => (match (vs[2]? : Option Value) with
          | some (.str file _) => (P.main.file : Str) == file
          | _ => false)
        | _ => false))
    | _, _, _, _ => false)
  | _ => false
def initB (P : Program) (K : PySem.W.Frag) (d : InitD) : Bool :=
  exT2 K (He.ga K d.cls) && (decide (PySem.W.findIn K (.ref (He.ga K d.cls)) "__setattr__" = some (some (.builtin "object.__setattr__"))) && (decide (PySem.W.findIn K (.ref (He.ga K d.cls)) d.f1 = some none) && (decide (PySem.W.findIn K (.ref (He.ga K d.cls)) d.f2 = some none) &&
  (decide (PySem.W.findIn K (.ref (He.ga K d.cls)) "__init__" = some (some (.ref (He.fAd K (d.cls, some "__init__"))))) && (decide (PySem.W.typeIn K (.ref (He.fAd K (d.cls, some "__init__"))) = some (.type "function")) && (PySem.W.keepIn K (.ref (He.ga K d.cls)) &&
  (decide (PySem.W.subIn K (.ref (He.ga K d.cls)) (.type "BaseException") = some true) && (decide (PySem.W.subIn K (.ref (He.ga K d.cls)) (.type "ValueError") = some true) && (decide (PySem.W.typeIn K (.ref (He.ga K d.cls)) = some (.type "type")) && (xfB K (He.ga K d.cls) &&
  (decide (PySem.W.ks_superIn K (He.ga K d.cls) (He.ga K d.cls) "__init__" = some (some (.builtin "ValueError.__init__"))) && (decide (PySem.W.mroIn K (He.ga K d.cls) (.ref (He.ga K d.cls)) = some true) && (decide (PySem.W.nsIn K cStatics "thirdparty.any" = some none) &&
  (inCell P K (He.ga K d.cls) (He.fAd K (d.cls, some "__init__")) d.qual && (decide (PySem.W.exmOne K (.ref (He.ga K d.cls)) (.ref (He.ga K d.cls)) = some true) && !(P.main.scope.names.lookup ("super" : Str)).isSome)))))))))))))))
/-- the shape of the text -/
def InitD.Ok (d : InitD) : Prop := TiS d.f1 d.f2 d.scope ∧ ∃ (p1 p2 p3 q1 q2 q3 q4 q5 q6 q7 r1 r2 r3 r4 t1 t2 t3 t4 : Pos), d.params = tiA d.f1 d.f2 p1 p2 p3 ∧ d.body = tiB d.f1 d.f2 q1 q2 q3 q4 q5 q6 q7 r1 r2 r3 r4 t1 t2 t3 t4 ∧ TiE d.f1 d.f2 q1 q2 q3 q4 q5 q6 ∧
  ∀ (doc pm ct : Value) (an : Option Addr) (cda cc : Addr) (a b c : Value), bindArgs (PySem.W.ksFn "__init__" d.qual (tiA d.f1 d.f2 p1 p2 p3) (tiB d.f1 d.f2 q1 q2 q3 q4 q5 q6 q7 r1 r2 r3 r4 t1 t2 t3 t4) d.scope .none .none doc pm an (.ref cda) ct cc) ⟨[a, b, c], []⟩ = pure [(("self" : Str), a), (d.f1, b), (d.f2, c)]
theorem two_of {P : Program} {K : PySem.W.Frag} {mg : Str → Option Value} {d : InitD} (O : d.Ok) (e : initW K d = d.val) (q : initB P K d = true) (hg : mg d.cls = some (.ref (He.ga K d.cls))) (hs : mg "super" = none) : ExcT P K mg d.cls (He.ga K d.cls) d.f1 d.f2 := by
  obtain ⟨S, p1, p2, p3, q1, q2, q3, q4, q5, q6, q7, r1, r2, r3, r4, t1, t2, t3, t4, hp, hb, hE, hbd⟩ := O
  unfold initB at q
  obtain ⟨b1, q⟩ := He.ba q
  obtain ⟨b2, q⟩ := He.ba q
  obtain ⟨b3, q⟩ := He.ba q
  obtain ⟨b4, q⟩ := He.ba q
  obtain ⟨b5, q⟩ := He.ba q
  obtain ⟨b6, q⟩ := He.ba q
  obtain ⟨b7, q⟩ := He.ba q
  obtain ⟨b8, q⟩ := He.ba q
  obtain ⟨b9, q⟩ := He.ba q
  obtain ⟨b10, q⟩ := He.ba q
  obtain ⟨b11, q⟩ := He.ba q
  obtain ⟨b12, q⟩ := He.ba q
  obtain ⟨b13, q⟩ := He.ba q
  obtain ⟨b14, q⟩ := He.ba q
  obtain ⟨b15, q⟩ := He.ba q
  obtain ⟨b16, b17⟩ := He.ba q
  refine ⟨hg, hs, S.n12, ?_, of_decide_eq_true b16⟩
  unfold inCell at b15
  unfold initW at e
  cases hf : K.lookup (He.fAd K (d.cls, some "__init__")) with
  | none => rw [hf] at b15; cases b15
  | some o =>
    obtain ⟨oc, od, dt, osl⟩ := o
    rw [hf] at b15 e
    cases dt with
    | func fd =>
      obtain ⟨n1, n2, n3, n4, n5, n6, n7, n8, n9, n10, n11, n12, n13, n14, n15⟩ := fd
      have e2 : (some (n1, n2, n3, n4, n5, n6, n7.map (·.1), n15) : InW) = d.val := e
      unfold InitD.val at e2
      simp only [Option.some.injEq, Prod.mk.injEq] at e2
      obtain ⟨h1, h2, h3, h4, h5, h6, h7, h8⟩ := e2
      rcases n7 with _ | ⟨⟨x, cc⟩, _ | ⟨y, r⟩⟩
      · cases b15
      · cases n13 with
        | ref cda =>
          cases n8 with
          | none =>
            cases n9 with
            | none =>
              obtain ⟨k1, k2⟩ := He.ba b15
              obtain ⟨k2, k3⟩ := He.ba k2
              have hx : x = ("__class__" : Str) := by
                injection (show [x] = [("__class__" : Str)] from h7)
              subst hx h1 h2 h3 h4 h5 h6 h8
              have cell : ∃ (cl : Value) (cld : Option Addr) (csl : Array (Option Value)), K.lookup cc = some ⟨cl, cld, .cell (some (.ref (He.ga K d.cls))), csl⟩ := by
                split at k2
                · rename_i cl cld D csl hD
                  obtain rfl := of_decide_eq_true k2
                  exact ⟨cl, cld, csl, hD⟩
                · cases k2
              have code : ∃ (ccl : Value) (cdd : Option Addr) (vs : Array Value) (ccs : Array (Option Value)) (file : Str) (tf : Tok), K.lookup cda = some ⟨ccl, cdd, .fields vs, ccs⟩ ∧ vs[2]? = some (.str file tf) ∧ ((P.main.file : Str) == file) = true := by
                split at k3
                · rename_i ccl cdd vs ccs hv
                  split at k3
                  · rename_i file tf h2
                    exact ⟨ccl, cdd, vs, ccs, file, tf, hv, h2, k3⟩
                  · cases k3
                · cases k3
              refine ⟨_, cc, cda, d.qual, exT2_ok b1, of_decide_eq_true b2, of_decide_eq_true b3, of_decide_eq_true b4, of_decide_eq_true b5, of_decide_eq_true b6, b7, of_decide_eq_true b8, of_decide_eq_true b9, of_decide_eq_true b10, xfB_ok b11, of_decide_eq_true b12, of_decide_eq_true b13, of_decide_eq_true b14, ?_, k1, cell, code, by simpa using b17⟩
              refine ⟨d.scope, S, oc, od, n10, n11, n12, n14, osl, p1, p2, p3, q1, q2, q3, q4, q5, q6, q7, r1, r2, r3, r4, t1, t2, t3, t4, ?_, hbd _ _ _ _ _ _, hE⟩
              rw [hf, ← hp, ← hb] <;> rfl
            | _ => cases b15
          | _ => cases b15
        | _ => cases b15
      · cases b15
    | _ => cases b15
end Hk
set_option maxRecDepth 100000
set_option maxHeartbeats 2000000
namespace Hk
open PySem PySem.Spec PyProof.Rows
open L2
/-! ### the head -/
def kOf (g : Addr → Option Obj) (n : Nat) : PySem.W.Frag := He.frT g (cStatics :: He.asD g n)
abbrev AlY : Type := He.AlD × Bool × List InW
/-- what is asked of the head -/
structure Ask where
  P : Program
  fa : List He.Fa
  fn : List He.DefD
  tf : List He.Defn
  ins : List InitD
  ex : PySem.W.Frag → Bool
def obsY (n : Nat) (A : Ask) (g : Addr → Option Obj) : AlY := (He.obsD A.fa A.fn (kOf g n), He.tabsB g A.tf (kOf g n) && (A.ins.all (initB A.P (kOf g n)) && A.ex (kOf g n)), A.ins.map (initW (kOf g n)))
def valY (A : Ask) : AlY := (He.valD A.fn, true, A.ins.map InitD.val)
structure SaysY (A : Ask) (h : Heap) (K : PySem.W.Frag) : Prop where
  d : He.SaysD A.fa A.fn K
  ex : A.ex K = true
  ini : ∀ q ∈ A.ins, initW K q = q.val ∧ initB A.P K q = true
  tab : ∀ p ∈ A.tf, PySem.W.codeHdIn K (He.cT K p).1 (He.cT K p).2 = true ∧ K.lookup (He.cT K p).2 = none ∧ h.get? (He.cT K p).2 = some { cls := .none, data := .fields #[] }
theorem says_of {n : Nat} {A : Ask} {h : Heap} (e : obsY n A h.get? = valY A) : SaysY A h (kOf h.get? n) := by
  have e1 : He.obsD A.fa A.fn (kOf h.get? n) = He.valD A.fn := congrArg (fun z : AlY => z.1) e
  have e2 : (He.tabsB h.get? A.tf (kOf h.get? n) && (A.ins.all (initB A.P (kOf h.get? n)) && A.ex (kOf h.get? n))) = true := congrArg (fun z : AlY => z.2.1) e
  have e3 : A.ins.map (initW (kOf h.get? n)) = A.ins.map InitD.val := congrArg (fun z : AlY => z.2.2) e
  obtain ⟨t1, t2⟩ := He.ba e2
  obtain ⟨t2, t3⟩ := He.ba t2
  refine ⟨e1, t3, fun q hq => ⟨List.map_inj_left.mp e3 q hq, List.all_eq_true.mp t2 q hq⟩, fun p hp => ?_⟩
  obtain ⟨h3, h4⟩ := He.ba (List.all_eq_true.mp t1 p hp)
  cases q : h.get? (He.cT (kOf h.get? n) p).2 with
  | none => rw [q] at h4; cases h4
  | some o =>
    rw [q] at h4
    exact ⟨h3, He.frT_none q h4, by rw [He.emptyTab_eq h4]⟩
def hookY (n : Nat) (A : Ask) : PySem.W.Hook where
  α := AlY
  obs := fun s => obsY n A s.heap.get?
  val := fun _ => valY A
  says := fun _ h => ∃ K : PySem.W.Frag, K.In h ∧ SaysY A h K
  of := fun _ _ e => ⟨_, He.frT_in, says_of e⟩
  keeps := fun _ _ _ ⟨K, hK, c⟩ k => ⟨K, PySem.W.Frag.In.keeps hK k, ⟨c.d, c.ex, c.ini, fun p hp => ⟨(c.tab p hp).1, (c.tab p hp).2.1, k _ _ (c.tab p hp).2.2⟩⟩⟩
theorem obsY_eq {n : Nat} {A : Ask} {g : Addr → Option Obj} {s : Shared} (h : ∀ a, g a = s.heap.get? a) : obsY n A g = (hookY n A).obs s := by
  have e : g = s.heap.get? := funext h
  rw [e] <;> rfl
theorem SaysY.two {A : Ask} {h : Heap} {K : PySem.W.Frag} {mg : Str → Option Value} (c : SaysY A h K) (X : K.In h) (G : h.Ns mainGlobals mg) (i j : Nat) {d : InitD} (O : d.Ok) (hs : mg "super" = none) (hi : A.fa[i]? = some (.glo d.cls) := by rfl) (hj : A.ins[j]? = some d := by rfl) :
    ExcT A.P K mg d.cls (He.ga K d.cls) d.f1 d.f2 := by
  obtain ⟨e1, e2⟩ := c.ini d (List.mem_of_getElem? hj)
  exact two_of O e1 e2 (He.glo_ok X G (c.d.fact i hi)) hs
/-! ### the law with tables -/
abbrev lamQ (p : He.Defn) : Str := p.1 ++ ".<locals>." ++ "<lambda>"
def tabsOf (K : PySem.W.Frag) (tf : List He.Defn) : List (Addr × Str) := tf.map fun p => ((He.cT K p).2, lamQ p)
def spLawT (K : PySem.W.Frag) (tf : List He.Defn) : Sp := fun vs H Q _ => ∃ (a : Addr) (ns : List Int), vs = [.ref a] ∧ SqL K H a (ns.map V.int) ∧ LamX.Tabs (tabsOf K tf) H ∧ ∀ H', Q (.bl true) H'
theorem law_endY {l : PySem.W.OpenLaw} {k : Nat} {q : Program} {loose : List Str} {XP : (Str → Option Value) → Heap → Prop} {d : DefRec} {n : Nat} {A : Ask}
    (hn : l.most = some 63) (hdf : d.params.defaults = []) (hd : d.name = "law") (hr : Room k callerA)
    (F : ∀ (w : World) (K : PySem.W.Frag) (mg : Str → Option Value) (h : Heap), K.In h → h.Ns mainGlobals mg → SaysY A h K → ∀ base : Heap, (∀ p ∈ A.tf, LamX.TabB base mg (He.cT K p).1 (He.cT K p).2) → HasG l.prog w K mg base CX0 "law" k ["script"] (spLawT K A.tf)) :
    PySem.W.WalkO q loose XP (hookY n A).says l.row.toRowW d [] (fun f vs => PySem.call f vs) := by
  refine walk_ofGT (n := 63) (k := k) (x := "script") (Z := CX0) hn (by decide) hdf hr ?_ (fun _ _ _ _ z => z)
  intro w mg f h Y G hmg
  obtain ⟨K, KX, c⟩ := Y
  rw [hd] at hmg
  have mem : ∀ q ∈ A.tf.map (He.cT K), ∃ p ∈ A.tf, He.cT K p = q := fun q hq => List.mem_map.mp hq
  refine ⟨K, A.tf.map (He.cT K), spLawT K A.tf, KX, fun q hq => ?_, fun q hq => ?_, fun q hq => ?_, fun H a ns _ hT hS => ⟨a, ns, rfl, hS, fun q hq => ?_, fun _ => rfl⟩, fun base _ _ TB => ?_⟩
  · obtain ⟨p, hp, rfl⟩ := mem q hq
    exact (c.tab p hp).2.2
  · obtain ⟨p, hp, rfl⟩ := mem q hq
    exact (c.tab p hp).2.1
  · obtain ⟨p, hp, rfl⟩ := mem q hq
    exact PySem.W.codeHd_of_K KX (c.tab p hp).1
  · obtain ⟨p, hp, rfl⟩ := List.mem_map.mp hq
    exact LamX.TabS.nil (hT _ (List.mem_map.mpr ⟨p, hp, rfl⟩))
  obtain ⟨f2, fd, g2, _, bd, FG⟩ := F w K mg h KX G c base (fun p hp => TB _ (List.mem_map.mpr ⟨p, hp, rfl⟩))
  obtain rfl : f2 = f := by
    rw [hmg] at g2
    injection Option.some.inj g2 with e
    exact e.symm
  exact ⟨fd, FG, fun s u => bd s [u] rfl⟩
/-! ### a def whose code object is known -/
def SrcC (K : PySem.W.Frag) (mg : Str → Option Value) (x : Str) (st : Stmt) : Prop :=
  ∃ fd : FuncData, mg x = some (.ref (He.ga K x)) ∧ FunD K x x (defArgs st) (defBody st) (defScope st) [] [] (He.ga K x) fd
theorem srcC_of {fa : List He.Fa} {fn : List He.DefD} {K : PySem.W.Frag} {h : Heap} {mg : Str → Option Value} (X : K.In h) (G : h.Ns mainGlobals mg) (c : He.SaysD fa fn K) (i j : Nat) {x : Str} {st : Stmt} (hi : fa[i]? = some (.glo x) := by rfl) (hj : fn[j]? = some ⟨(x, none), x, x, defArgs st, defBody st, defScope st, [], []⟩ := by rfl) : SrcC K mg x st := by
  obtain ⟨fd, F⟩ := c.def_ j hj
  exact ⟨fd, He.glo_ok X G (c.fact i hi), F⟩
section
variable {P : Program} {w : World} {K : PySem.W.Frag} {mg : Str → Option Value} {base : Heap} {x : Str} {k : Nat} {ps N : List Str} {sp : Sp} {st : Stmt}
theorem SrcC.hasG (S : SrcC K mg x st) (sc : FnScope N ps (defScope st))
    (bd : ∀ (kV doc pm : Value) (an : Option Addr) (cdv ct : Value) (us : List Value), us.length = ps.length → bindArgs (PySem.W.fnOf x x (defArgs st) (defBody st) (defScope st) .none kV doc pm an cdv ct) ⟨us, []⟩ = pure (ps.zip us))
    (ln : ∀ vs H Q E, sp vs H Q E → vs.length = ps.length)
    (body : ∀ (f : Addr) (cdv : Value) (A : Around) (out : List Env) (s : Shared) (H : Hp) (vs : List V) (Q : VK) (E : XK), cdv = .ref (He.cT K (x, none)).1 → A.guards = some [] → Room k (A.deeper (envOfC x (defScope st) s.heap.objs.size f cdv)) → sp vs H Q E →
      ∃ t, PSs (cxOf CX0 P w K mg base N x (defScope st) f cdv A out s H E).nox (defBody st) t ∧ t { nx := fun _ H' => Q .non H', rt := Q } (start N vs) H) : HasG P w K mg base CX0 x (k + 1) ps sp := by
  obtain ⟨fd, gm, F⟩ := S
  refine ⟨_, fd, gm, F.kp, F.bindsA bd, ?_⟩
  obtain ⟨oc, od, dV, kV, doc, pm, an, cdv, ct, osl, rfl, lk, hcd, _, _⟩ := F.ex
  have hc : cdv = .ref (He.cT K (x, none)).1 := by
    obtain ⟨c, rfl⟩ := He.codeIn_ref hcd
    rw [show (He.cT K (x, none)).1 = c from He.codeOf_eq lk rfl]
  refine fnG_of lk hcd sc ln (fun A out s H vs Q E hg hr h => ?_)
  obtain ⟨t, h1, h2⟩ := body _ cdv A out s H vs Q E hc hg hr h
  exact ⟨t, h1.nox, h2⟩
end
/-! ### hearing -/
theorem takes_len {X : Cx} {W : WX} (tk : Takes X W) : Takes X (fun cls d σ H => σ.length = X.N.length → W cls d σ H) := by
  rintro u s' ⟨a, B, sI, pins, σ, H, cls, d, e, I, nb, up, sky, na, os, ag, h⟩
  exact tk u s' ⟨a, B, sI, pins, σ, H, cls, d, e, I, nb, up, sky, na, os, ag, h I.len⟩
/-- what comes of the exception cls (its data at d) by the clauses l -/
def heardX (K : PySem.W.Frag) (n : Nat) (l : List Cl) (Q : VK) : XK := fun cls d G => ∀ σ : L2.St, σ.length = n → wMix K (fun _ _ _ _ => False) { nx := fun _ G => Q .non G, rt := Q } l cls d σ G
section
variable {X : Cx}
theorem hear_gives {Ng : List Str} {x a q told : Str} {sg : Scope} {g : Addr} {cdg : Value} {j : Nat} {hs : List ExceptHandler} {h₀ : ExceptHandler} {l : List Cl} {p1 p2 p3 p4 p6 p8 : Pos} {p5 : Nat}
    (h0 : ∀ f : Addr, (L2.start Ng [V.ref f])[0]? = some (some (V.ref f)))
    (hh : ∀ (s : Shared) (H : Hp), HdM (cxOf C8.CX0 X.prog X.w X.K X.mg X.base Ng x sg g cdg X.A X.stack s H C8.E0).nox (h₀ :: hs) l) :
    LamX.GivesTo X Ng x sg g cdg [.Try [.Return (some (.Tuple [.Constant (.str told) j p4, .Call (.Name a p1) [] [] p2] p5 p6)) p3] (h₀ :: hs) [] [] p8] a q
      (fun tl H Q => tl (heardX X.K Ng.length l Q) H (fun v G => [V.str told, v].length ≤ sizeLine ∧ ∀ p, G p = none → Q (.ref p) (upd G p (.tup [.str told, v])))) := by
  intro f c' s H Q tl act hc h
  refine ⟨_, pss_one (ps_try_mix (X := (cxOf C8.CX0 X.prog X.w X.K X.mg X.base Ng x sg g cdg X.A X.stack s H C8.E0).nox)
    (tb := fun W D σ G => ∃ Ech : XK, (∀ cls d σ' G', σ'.length = Ng.length → Ech cls d G' → W cls d σ' G') ∧ σ[0]? = some (some (.ref f)) ∧ G c' = some (LamX.CodeO c' q) ∧ tl Ech G (fun v G' => [V.str told, v].length ≤ sizeLine ∧ ∀ p, G' p = none → D.rt (.ref p) (upd G' p (.tup [.str told, v]))))
      rfl rfl LamX.takes0 (fun W pn xe tk _ => ?_) (hh s H)), ?_⟩
  · refine ⟨fun pins s' σ H' D I h' => ?_⟩
    obtain ⟨Ech, hW, h1, h2, h3⟩ := h'
    have hp := act _ pn xe Ech p1 p2 (takes_len tk) (fun cls d σ' G' e hl => hW cls d σ' G' hl e)
    have hq := pss_one (ps_ret (pos := p3) (pe_tup (x1 := p5) (pos := p6) (pa_cons (e := .Constant (.str told) j p4) pe_str (pa_cons hp pa_nil))))
    exact hq.run pins s' σ H' D I ⟨h1, h2, h3⟩
  · exact ⟨heardX X.K Ng.length l Q, fun cls d σ' G' hl e => e σ' hl, h0 f, hc, h⟩
/-- x(lambda: body), x a def that hears -/
theorem pe_heard {T : List (Addr × Str)} {TT : (XK → Hp → VK → Prop) → Hp → VK → Prop} {x a : Str} {st : Stmt} {c P : Addr} {k : Nat} {Ng : List Str} {params : Arguments} {body : Expr} {scope : Scope} {t : XK → TE} {p lpos pos : Pos} (S : Src X.K X.mg x st) (sc : FnScope Ng [a] (defScope st))
    (bd : ∀ (kV doc pm : Value) (an : Option Addr) (cdv ct : Value) (us : List Value), us.length = [a].length → bindArgs (PySem.W.fnOf x x (defArgs st) (defBody st) (defScope st) .none kV doc pm an cdv ct) ⟨us, []⟩ = pure ([a].zip us))
    (hg : Gl X x) (h0 : Ng[0]? = some a) (hva : Vis (defScope st) a) (hG : ∀ (g : Addr) (cdv : Value), LamX.GivesTo X Ng x (defScope st) g cdv (defBody st) a (X.env.qual ++ "<lambda>") TT)
    (TB : LamX.TabB X.base X.mg c P) (hcode : X.env.code = .ref c) (hmT : (P, X.env.qual ++ "<lambda>") ∈ T) (hu : ∀ p ∈ T, p.1 = P → p.2 = X.env.qual ++ "<lambda>") (hr : Room (k + 2) X.A) (L : LamX.LamS X.env.scope scope) (hdef : defaultsOf params X.env = ([], []))
    (hbind : ∀ (q : Str) (cl : List (Str × Addr)) (pm cv ctv : Value), bindArgs (PySem.W.kla_fn "<lambda>" q params body scope cl pm cv ctv) ⟨[], []⟩ = pure [])
    (hbody : ∀ (A : Around) (out : List Env) (s : Shared) (H : Hp) (E : XK) (f c' : Addr), Room k (A.deeper (LamX.lamEnv X scope s.heap.objs.size f c')) → PE (LamX.lamCx X A out s H E scope f c') body (t E))
    (hdb : (x == ("__debug__" : Str)) = false := by decide) (hd : (a == ("__debug__" : Str)) = false := by decide) (hcd : (a == ("__classdict__" : Str)) = false := by decide) :
    PE X (.Call (.Name x p) [.Lambda params body scope lpos] [] pos) (LamX.tLam T TT t) := by
  obtain ⟨f, fd, gm, F⟩ := S
  obtain ⟨oc, od, dV, kV, doc, pm, an, cdv, ct, osl, rfl, lk, hcd2, hdv, _⟩ := F.ex
  refine LamX.pe_lamcall hg gm F.kp lk hcd2 ?_ sc h0 hva (hG f cdv) TB hcode hmT hu hr L hdef hbind hbody hdb hd hcd
  exact BindsE.b (F.bindsA bd)
end
/-! ### what stays when a code table grows -/
theorem extN_lst {H H' : Hp} {b : Addr} {xs : List V} (e : LamX.ExtN H H') (h : H b = some (.lst xs)) : H' b = some (.lst xs) := e b _ h (fun _ z => by cases z)
theorem extN_tup {H H' : Hp} {b : Addr} {xs : List V} (e : LamX.ExtN H H') (h : H b = some (.tup xs)) : H' b = some (.tup xs) := e b _ h (fun _ z => by cases z)
theorem extN_kt {H H' : Hp} (e : LamX.ExtN H H') : KeepT H H' := ⟨fun a xs h => extN_tup e h, fun a o u h => e a _ h (fun _ z => by cases z)⟩
theorem extN_same {H H' : Hp} (e : Same H H') : LamX.ExtN H H' := .of e
theorem tabs_same {T : List (Addr × Str)} {H H' : Hp} (t : LamX.Tabs T H) (e : Same H H') : LamX.Tabs T H' := t.ext e
/-- a list written: the tables stay -/
theorem codeO_lst {c : Addr} {q : Str} {xs : List V} : LamX.CodeO c q ≠ .lst xs := fun z => by
  unfold LamX.CodeO at z
  cases z
theorem tabs_k1 {T : List (Addr × Str)} {H H' : Hp} {b : Addr} {xs : List V} (t : LamX.Tabs T H) (e : Keep1 b H H') (hb : H b = some (.lst xs)) : LamX.Tabs T H' := by
  intro p hp
  obtain ⟨ps, h1, h2, h3⟩ := t p hp
  have ne : p.1 ≠ b := fun z => by rw [z, hb] at h1; cases h1
  refine ⟨ps, e _ _ ne h1, h2, fun pos cv hc => ?_⟩
  obtain ⟨c, e1, e2⟩ := h3 pos cv hc
  exact ⟨c, e1, e _ _ (fun z => by rw [z, hb] at e2; exact codeO_lst (Option.some.inj e2).symm) e2⟩
end Hk
set_option maxRecDepth 100000
set_option maxHeartbeats 2000000
namespace Hk
open PySem PySem.Spec PyProof.Rows
open L2
section
variable {X : Cx}
/-! ### a text by its code points -/
abbrev tx (l : List Nat) : Str := ⟨l.toArray⟩
theorem tx_len (l : List Nat) : (tx l).length = l.length := by simp [tx, Str.length]
theorem tx_inj {a b : List Nat} (h : tx a = tx b) : a = b := congrArg (fun x : Str => x.cps.toList) h
theorem tx_eq {a b : List Nat} : (tx a = tx b) ↔ a = b := ⟨tx_inj, fun h => by rw [h]⟩
theorem tx_of (x : Str) : tx x.cps.toList = x := rfl
theorem tx_app (a b : List Nat) : tx a ++ tx b = tx (a ++ b) := TL.ext_tl (TL.tl_append (tx a) (tx b))
/-! ### 'x' * n -/
def rRepS : R2 := fun x y H Q => ∃ (c n : Nat), x = .str (tx [c]) ∧ y = .int n ∧ 1 < n ∧ n ≤ 1000000 ∧ Q (.str (tx (List.replicate n c))) H
theorem op_repS : OpR X (binaryOp .Mult) rRepS := by
  intro pins s σ H x y v u Q I rx ry h
  obtain ⟨c, n, rfl, rfl, h1, h2, q⟩ := h
  obtain ⟨t, rfl⟩ := rx
  obtain ⟨t', rfl⟩ := ry
  have hn0 : ¬ ((n : Int) < 1) := by omega
  have hn1 : ((n : Int) == 1 || (tx [c]).length == 0) = false := by
    have : ((n : Int) == 1) = false := by simp; omega
    rw [this]; rfl
  have all : ∀ m : Nat, (List.replicate m (#[c] : Array Nat)).foldl (· ++ ·) #[] = (List.replicate m c).toArray := by
    have g : ∀ (m : Nat) (a : List Nat), (List.replicate m (#[c] : Array Nat)).foldl (· ++ ·) a.toArray = (a ++ List.replicate m c).toArray := by
      intro m
      induction m with
      | zero => intro a; simp
      | succ m ih =>
        intro a
        rw [List.replicate_succ, List.foldl_cons, show a.toArray ++ #[c] = (a ++ [c]).toArray by simp, ih, List.replicate_succ]
        simp
    intro m
    simpa using g m []
  refine PySem.P.mul_str ?_ (fun _ _ => ?_) (fun _ _ => ?_) ?_
  · rw [decide_eq_false (by omega), decide_eq_false (by omega)]; rfl
  · have : (1 : Int) ≤ (2 ^ 63 - 1) / n := by
      rw [Int.le_ediv_iff_mul_le (by omega)]; omega
    show ¬ ((1 : Int) > _)
    omega
  · have e : sizeLine = 16777216 := sizeLine_eq
    exact decide_eq_false (show ¬ (1 * (n : Int).toNat > sizeLine) by rw [e]; omega)
  · rw [if_neg hn0, if_neg (by rw [hn1]; decide)]
    show Made.post (Made.str ⟨(List.replicate n (#[c] : Array Nat)).foldl (· ++ ·) #[]⟩) _ _
    rw [all]
    have e : sizeLine = 16777216 := sizeLine_eq
    exact ⟨show (tx (List.replicate n c)).length ≤ sizeLine by rw [tx_len, List.length_replicate, e]; omega, .str _, H, I.tok _, ⟨_, rfl⟩, q⟩
/-! ### x in xs, where the written part has its own name -/
theorem op_uin {K : PySem.W.Frag} (hK : X.K = K := by rfl) : OpR X (compareOp .In) (rIn K false) := by
  subst hK
  exact op_in_seq
theorem op_unotin {K : PySem.W.Frag} (hK : X.K = K := by rfl) : OpR X (compareOp .NotIn) (rIn K true) := by
  subst hK
  exact op_notIn_seq
theorem inV_strs (x : Str) (l : List Str) : inV (.str x) (l.map V.str) = decide (x ∈ l) := by
  unfold inV
  induction l with
  | nil => rfl
  | cons y l ih =>
    rw [List.map_cons, List.any_cons, ih]
    show ((y == x) || decide (x ∈ l)) = decide (x ∈ y :: l)
    by_cases h : y = x
    · subst h; simp
    · have : (y == x) = false := by simpa using h
      rw [this, Bool.false_or]
      simp [Ne.symm h]
theorem flat_strs (l : List Str) : (l.map V.str).all flatV = true := by
  simp [List.all_eq_true, flatV]
/-! ### the module's name of an object -/
theorem pe_cref {x : Str} {a : Addr} {pos : Pos} (h : X.mg x = some (.ref a)) (hg : Gl X x) (hd : (x == ("__debug__" : Str)) = false := by decide) : PE X (.Name x pos) (tC (.ref a)) := pe_glob hg h rfl hd
end
/-! ### slices -/
theorem cutS_mid {l : List Nat} {b k : Nat} (h : b + k ≤ l.length) : cutS (tx l) (some (b : Int)) (some ((b + k : Nat) : Int)) = tx ((l.drop b).take k) := by
  unfold cutS
  rw [tx_len, HT.sIx_nat, HT.sIx_nat, Nat.min_eq_left h, Nat.min_eq_left (by omega), show b + k - b = k by omega]
/-! ### a rest that several branches share -/
theorem share {A X G : Prop} (main : (A → X) → G) (rest : A → X) : G := main rest
/-! ### tests by a Bool that is known -/
theorem ifT {b : Bool} {A B : Prop} (h : b = true) (a : A) : if b = true then A else B := by subst h; exact iteT a
theorem ifF {b : Bool} {A B : Prop} (h : b = false) (a : B) : if b = true then A else B := by subst h; exact iteF a
theorem ifB {b : Bool} {A B : Prop} (h1 : b = true → A) (h2 : b = false → B) : if b = true then A else B := by
  cases b
  · exact iteF (h2 rfl)
  · exact iteT (h1 rfl)
/-! ### the bag, its cells at c for good -/
structure BagC (H : Hp) (b c : Addr) : Prop where
  ex : ∃ (x y z : Int) (ns : List Int), H b = some (.lst [.int x, .int y, .int z, .ref c]) ∧ H c = some (.lst (ns.map V.int)) ∧ 0 ≤ y ∧ y < 2147483647 ∧ ns.length ≤ 63
theorem BagC.lst {H : Hp} {b c : Addr} (h : BagC H b c) : ∃ xs, H b = some (.lst xs) := by
  obtain ⟨x, y, z, ns, e, _⟩ := h
  exact ⟨_, e⟩
theorem BagC.ne {H : Hp} {b c : Addr} (h : BagC H b c) : c ≠ b := by
  obtain ⟨x, y, z, ns, e, e2, _⟩ := h
  exact bag_ne e e2
theorem BagC.same {H H' : Hp} {b c : Addr} (h : BagC H b c) (s : Same H H') : BagC H' b c := by
  obtain ⟨x, y, z, ns, e, ec, r⟩ := h
  exact ⟨x, y, z, ns, s _ _ e, s _ _ ec, r⟩
theorem BagC.extN {H H' : Hp} {b c : Addr} (h : BagC H b c) (s : LamX.ExtN H H') : BagC H' b c := by
  obtain ⟨x, y, z, ns, e, ec, r⟩ := h
  exact ⟨x, y, z, ns, extN_lst s e, extN_lst s ec, r⟩
/-- another list is written -/
theorem BagC.upd {H : Hp} {b c p : Addr} {o : HO} (h : BagC H b c) (n1 : b ≠ p) (n2 : c ≠ p) : BagC (upd H p o) b c := by
  obtain ⟨x, y, z, ns, e, ec, r⟩ := h
  exact ⟨x, y, z, ns, by rw [upd_ne n1]; exact e, by rw [upd_ne n2]; exact ec, r⟩
/-- what is new is no part of the bag -/
theorem BagC.new {H : Hp} {b c p : Addr} (h : BagC H b c) (n : H p = none) : b ≠ p ∧ c ≠ p := by
  obtain ⟨x, y, z, ns, e, ec, r⟩ := h
  exact ⟨ne_of_none e n, ne_of_none ec n⟩
def spTakeC : Sp := fun vs H Q _ => ∃ (b c : Addr) (m : Int), vs = [.ref b, .int m] ∧ 0 < m ∧ m < 1073741824 ∧ BagC H b c ∧ ∀ (d : Int) (H' : Hp), 0 ≤ d → d < m → Keep1 b H H' → BagC H' b c → Q (.int d) H'
def spBagC (K : PySem.W.Frag) : Sp := fun vs H Q _ => ∃ (a : Addr) (ns : List Int), vs = [.ref a] ∧ SqL K H a (ns.map V.int) ∧ ∀ (b c : Addr) (H' : Hp), Same H H' → H b = none → BagC H' b c → Q (.ref b) H'
/-- an item of a list or tuple that is not the bag -/
def spSomeC (K : PySem.W.Frag) : Sp := fun vs H Q _ => ∃ (b c t : Addr) (xs : List V), vs = [.ref b, .ref t] ∧ BagC H b c ∧ t ≠ b ∧ (SqL K H t xs ∨ SqT K H t xs) ∧ xs ≠ [] ∧ xs.length < 1073741824 ∧
  ∀ (i : Nat) (x : V) (H' : Hp), xs[i]? = some x → Keep1 b H H' → BagC H' b c → Q x H'
/-! ### walks over a text -/
section
variable {l : List Nat} {H0 : Hp} {Qd : Hp → Prop} {B : V → Hp → (Hp → Prop) → Prop}
theorem walk_txt (Pv : Nat → Hp → Prop) (h0 : Pv 0 H0) (hs : ∀ i c H, l[i]? = some c → Pv i H → B (.str (tx [c])) H (Pv (i + 1))) (hd : ∀ H, Pv l.length H → Qd H) :
    ∃ W : Nat → Nat → Hp → Prop, (∃ m, W 0 m H0) ∧ ∀ i m H, W i m H → ((Its (tx l)).stop i H ∧ Qd H) ∨ ((Its (tx l)).go i H ∧ ∃ Nx : Hp → Prop, (∀ H', Nx H' → ∃ m', m' < m ∧ W (i + 1) m' H') ∧ ∀ x H', (Its (tx l)).yld i H x H' → B x H' Nx) := by
  refine ⟨fun i m H => m = l.length - i ∧ i ≤ l.length ∧ Pv i H, ⟨l.length, rfl, Nat.zero_le _, h0⟩, ?_⟩
  rintro i m H ⟨rfl, hi, p⟩
  have sz : (tx l).cps.size = l.length := by simp [tx]
  by_cases lt : i < l.length
  · refine .inr ⟨show i < (tx l).cps.size by rw [sz]; exact lt, Pv (i + 1), fun H' p' => ⟨l.length - (i + 1), by omega, rfl, lt, p'⟩, ?_⟩
    rintro x H' ⟨rfl, c, y, rfl⟩
    exact hs i c _ (by simpa [tx] using y) p
  · obtain rfl : i = l.length := by omega
    exact .inl ⟨show (tx l).cps.size ≤ l.length by rw [sz]; exact Nat.le_refl _, hd H p⟩
end
/-- [f c for c in a text], the f pure -/
theorem walk_bools {l : List Nat} {H : Hp} {D : Addr} {Qd : Hp → Prop} {B : V → Hp → (Hp → Prop) → Prop} (f : Nat → Bool) (nD : H D = none) (hz : l.length ≤ 1000000)
    (hB : ∀ c H1 Nx, (∃ acc, H1 D = some (.lst acc) ∧ acc.length < sizeLine ∧ Nx (upd H1 D (.lst (acc ++ [.bl (f c)])))) → B (.str (tx [c])) H1 Nx) (hd : ∀ H', Same H H' → H' D = some (.lst ((l.map f).map V.bl)) → Qd H') :
    ∃ W : Nat → Nat → Hp → Prop, (∃ m, W 0 m (upd H D (.lst []))) ∧ ∀ i m H, W i m H → ((Its (tx l)).stop i H ∧ Qd H) ∨ ((Its (tx l)).go i H ∧ ∃ Nx : Hp → Prop, (∀ H', Nx H' → ∃ m', m' < m ∧ W (i + 1) m' H') ∧ ∀ x H', (Its (tx l)).yld i H x H' → B x H' Nx) := by
  refine walk_txt (Pv := fun i H1 => Same H H1 ∧ H1 D = some (.lst (((l.take i).map f).map V.bl))) ⟨sameUpd nD, upd_same⟩ (fun i c H1 hc p => ?_) (fun H1 p => ?_)
  · obtain ⟨p1, p2⟩ := p
    refine hB c H1 _ ⟨_, p2, ?_, fun b o e => ?_, ?_⟩
    · have : i < l.length := by
        rcases Nat.lt_or_ge i l.length with h | h
        · exact h
        · rw [List.getElem?_eq_none h] at hc; cases hc
      rw [List.length_map, List.length_map, List.length_take, sizeLine_eq]; omega
    · rw [upd_ne (ne_of_none e nD)]; exact p1 b o e
    · rw [upd_same, List.take_add_one, hc]
      simp
  · obtain ⟨p1, p2⟩ := p
    rw [List.take_length] at p2
    exact hd _ p1 p2
/-- [c for c in a text if f c], the f pure -/
theorem walk_filter {l : List Nat} {H : Hp} {D : Addr} {Qd : Hp → Prop} {B : V → Hp → (Hp → Prop) → Prop} (f : Nat → Bool) (nD : H D = none) (hz : l.length ≤ 1000000)
    (hB : ∀ c H1 Nx, (f c = true → ∃ acc, H1 D = some (.lst acc) ∧ acc.length < sizeLine ∧ Nx (upd H1 D (.lst (acc ++ [.str (tx [c])])))) → (f c = false → Nx H1) → B (.str (tx [c])) H1 Nx)
    (hd : ∀ H', Same H H' → H' D = some (.lst (((l.filter f).map fun c => tx [c]).map V.str)) → Qd H') :
    ∃ W : Nat → Nat → Hp → Prop, (∃ m, W 0 m (upd H D (.lst []))) ∧ ∀ i m H, W i m H → ((Its (tx l)).stop i H ∧ Qd H) ∨ ((Its (tx l)).go i H ∧ ∃ Nx : Hp → Prop, (∀ H', Nx H' → ∃ m', m' < m ∧ W (i + 1) m' H') ∧ ∀ x H', (Its (tx l)).yld i H x H' → B x H' Nx) := by
  refine walk_txt (Pv := fun i H1 => Same H H1 ∧ H1 D = some (.lst ((((l.take i).filter f).map fun c => tx [c]).map V.str))) ⟨sameUpd nD, upd_same⟩ (fun i c H1 hc p => ?_) (fun H1 p => ?_)
  · obtain ⟨p1, p2⟩ := p
    refine hB c H1 _ (fun hf => ⟨_, p2, ?_, fun b o e => ?_, ?_⟩) (fun hf => ⟨p1, ?_⟩)
    · have h1 : ((l.take i).filter f).length ≤ (l.take i).length := List.length_filter_le _ _
      rw [List.length_take] at h1
      have : i < l.length := by
        rcases Nat.lt_or_ge i l.length with h | h
        · exact h
        · rw [List.getElem?_eq_none h] at hc; cases hc
      rw [List.length_map, List.length_map, sizeLine_eq]; omega
    · rw [upd_ne (ne_of_none e nD)]; exact p1 b o e
    · rw [upd_same, List.take_add_one, hc]
      simp [hf]
    · rw [p2, List.take_add_one, hc]
      simp [hf]
  · obtain ⟨p1, p2⟩ := p
    rw [List.take_length] at p2
    exact hd _ p1 p2
/-- a list of texts, compared with the empty one -/
theorem shaped_strs (l : List Str) (ok : ∀ a ∈ l, PyData.strOk a = true) : SeqAt.shaped (.list (l.map PyData.str)) = true := by
  have h : ∀ l : List Str, (∀ a ∈ l, PyData.strOk a = true) → PyData.canLayAll0 (l.map PyData.str) = true ∧ PyData.depthAll (l.map PyData.str) = 0 := by
    intro l
    induction l with
    | nil => exact fun _ => ⟨rfl, rfl⟩
    | cons a l ih =>
      intro ok
      have ih := ih (fun b hb => ok b (List.mem_cons_of_mem _ hb))
      refine ⟨?_, ?_⟩
      · show (PyData.strOk a && PyData.canLayAll0 (l.map PyData.str)) = true
        rw [ih.1, ok a List.mem_cons_self]; rfl
      · show max 0 (PyData.depthAll (l.map PyData.str)) = 0
        rw [ih.2]; rfl
  unfold SeqAt.shaped
  have h1 : (PyData.list (l.map PyData.str)).canLay0 = true := (h l ok).1
  have h2 : (PyData.list (l.map PyData.str)).depth = PyData.depthAll (l.map PyData.str) + 1 := rfl
  rw [h1, h2, (h l ok).2]; rfl
theorem dp_strs {K : PySem.W.Frag} {H : Hp} {p : Addr} {l : List Str} (h : SqL K H p (l.map V.str)) : Dp K H (.ref p) (.list (l.map PyData.str)) := by
  refine .lst h ?_
  clear h
  induction l with
  | nil => exact .nil
  | cons a l ih => exact .cons (.str a) ih
theorem eqv_nil (l : List Str) : PyData.eqv (.list (l.map PyData.str)) (.list []) = l.isEmpty := by
  cases l <;> rfl
/-- a sign between two signs -/
theorem ge_sign (a c : Nat) : (!decide ((⟨#[c]⟩ : Str).cps.toList < (tx [a]).cps.toList)) = decide (a ≤ c) := by
  rw [Bool.eq_iff_iff]
  simp [tx, List.cons_lt_cons_iff]
theorem le_sign (a c : Nat) : (!decide ((tx [a]).cps.toList < (⟨#[c]⟩ : Str).cps.toList)) = decide (c ≤ a) := by
  rw [Bool.eq_iff_iff]
  simp [tx, List.cons_lt_cons_iff]
theorem for_txt {l : List Nat} {g : TG} {tb : TS} {D : Ends} {σ : L2.St} {H : Hp} (Pv : Nat → L2.St → Hp → Prop) (h0 : Pv 0 σ H)
    (hs : ∀ i c σ H, l[i]? = some c → Pv i σ H → g (.str (tx [c])) σ H fun σ2 H2 => tb { D with nx := Pv (i + 1), ct := Pv (i + 1), bk := D.nx } σ2 H2) (hd : ∀ σ H, Pv l.length σ H → D.nx σ H) :
    ∃ W : Nat → Nat → L2.St → Hp → Prop, (∃ m, W 0 m σ H) ∧ ∀ i m σ H, W i m σ H →
      ((Its (tx l)).stop i H ∧ D.nx σ H) ∨ ((Its (tx l)).go i H ∧ ∃ N : L2.St → Hp → Prop, (∀ σ' H', N σ' H' → ∃ m', m' < m ∧ W (i + 1) m' σ' H') ∧ ∀ x H', (Its (tx l)).yld i H x H' → g x σ H' fun σ2 H2 => tb { D with nx := N, ct := N, bk := D.nx } σ2 H2) := by
  refine ⟨fun i m σ H => m = l.length - i ∧ i ≤ l.length ∧ Pv i σ H, ⟨l.length, rfl, Nat.zero_le _, h0⟩, ?_⟩
  rintro i m σ H ⟨rfl, hi, p⟩
  have sz : (tx l).cps.size = l.length := by simp [tx]
  by_cases lt : i < l.length
  · refine .inr ⟨show i < (tx l).cps.size by rw [sz]; exact lt, Pv (i + 1), fun σ' H' p' => ⟨l.length - (i + 1), by omega, rfl, lt, p'⟩, ?_⟩
    rintro x H' ⟨rfl, c, y, rfl⟩
    exact hs i c _ _ (by simpa [tx] using y) p
  · obtain rfl : i = l.length := by omega
    exact .inl ⟨show (tx l).cps.size ≤ l.length by rw [sz]; exact Nat.le_refl _, hd σ H p⟩
end Hk
set_option maxRecDepth 100000
set_option maxHeartbeats 4000000
namespace K02
open PySem PySem.Spec PyProof.Rows
open L2 Hk
/-- the i-th row of the top -/
def tp (i : Nat) : Stmt := PySem.Challenge.pw_everymap_k02_tokens_with_their_places.main.body.getD i (.Pass ⟨0, 0, 0, 0⟩)
abbrev s_is_name : Stmt := tp 14
theorem sc_is_name : FnScope ["thing", "sign"] ["thing"] (defScope s_is_name) := ⟨rfl, rfl, rfl, by decide +kernel, rfl, by decide +kernel, by decide +kernel⟩
abbrev s_end_of_run : Stmt := tp 18
theorem sc_end_of_run : FnScope ["text", "begin", "end"] ["text", "begin"] (defScope s_end_of_run) := ⟨rfl, rfl, rfl, by decide +kernel, rfl, by decide +kernel, by decide +kernel⟩
abbrev s_is_figures : Stmt := tp 19
theorem sc_is_figures : FnScope ["run", "most", "sign"] ["run", "most"] (defScope s_is_figures) := ⟨rfl, rfl, rfl, by decide +kernel, rfl, by decide +kernel, by decide +kernel⟩
abbrev s_run_token : Stmt := tp 20
theorem sc_run_token : FnScope ["run"] ["run"] (defScope s_run_token) := ⟨rfl, rfl, rfl, by decide +kernel, rfl, by decide +kernel, by decide +kernel⟩
abbrev s_token_at : Stmt := tp 21
theorem sc_token_at : FnScope ["text", "begin", "end"] ["text", "begin"] (defScope s_token_at) := ⟨rfl, rfl, rfl, by decide +kernel, rfl, by decide +kernel, by decide +kernel⟩
abbrev s_tokens : Stmt := tp 22
theorem sc_tokens : FnScope ["text", "found", "at", "line", "first", "word", "content", "end"] ["text"] (defScope s_tokens) := ⟨rfl, rfl, rfl, by decide +kernel, rfl, by decide +kernel, by decide +kernel⟩
abbrev s_law_bag : Stmt := tp 24
theorem sc_law_bag : FnScope ["script", "cell"] ["script"] (defScope s_law_bag) := ⟨rfl, rfl, rfl, by decide +kernel, rfl, by decide +kernel, by decide +kernel⟩
abbrev s_law_take : Stmt := tp 25
theorem sc_law_take : FnScope ["bag", "many", "cell", "stirred", "drawn", "begin", "second"] ["bag", "many"] (defScope s_law_take) := ⟨rfl, rfl, rfl, by decide +kernel, rfl, by decide +kernel, by decide +kernel⟩
abbrev s_law_some : Stmt := tp 26
theorem sc_law_some : FnScope ["bag", "things"] ["bag", "things"] (defScope s_law_some) := ⟨rfl, rfl, rfl, by decide +kernel, rfl, by decide +kernel, by decide +kernel⟩
abbrev s_law_alike : Stmt := tp 27
theorem sc_law_alike : FnScope ["found", "due"] ["found", "due"] (defScope s_law_alike) := ⟨rfl, rfl, rfl, by decide +kernel, rfl, by decide +kernel, by decide +kernel⟩
abbrev s_law_heard : Stmt := tp 28
theorem sc_law_heard : FnScope ["call", "error"] ["call"] (defScope s_law_heard) := ⟨rfl, rfl, rfl, by decide +kernel, rfl, by decide +kernel, by decide +kernel⟩
abbrev s_law_words : Stmt := tp 29
theorem sc_law_words : FnScope ["words"] [] (defScope s_law_words) := ⟨rfl, rfl, rfl, by decide +kernel, rfl, by decide +kernel, by decide +kernel⟩
abbrev s_law_run : Stmt := tp 30
theorem sc_law_run : FnScope ["run", "sign"] ["run"] (defScope s_law_run) := ⟨rfl, rfl, rfl, by decide +kernel, rfl, by decide +kernel, by decide +kernel⟩
abbrev s_law_tokens : Stmt := tp 31
theorem sc_law_tokens : FnScope ["text", "found", "line", "column", "run", "sign"] ["text"] (defScope s_law_tokens) := ⟨rfl, rfl, rfl, by decide +kernel, rfl, by decide +kernel, by decide +kernel⟩
abbrev s_law : Stmt := tp 32
theorem sc_law : FnScope ["script", "bag", "turn", "words", "odd", "some", "lap", "text", "long", "thing"] ["script"] (defScope s_law) := ⟨rfl, rfl, rfl, by decide +kernel, rfl, by decide +kernel, by decide +kernel⟩
abbrev i_BadText : Stmt := clsItem (tp 3) 0
def in_BadText : InitD := ⟨"BadText", "line", "column", defArgs i_BadText, defBody i_BadText, defScope i_BadText⟩
theorem in_BadText_ok : in_BadText.Ok := ⟨⟨rfl, rfl, rfl, by decide +kernel, rfl, rfl, rfl, rfl, rfl, by decide, by decide, by decide, by decide, by decide⟩, _, _, _, _, _, _, _, _, _, _, _, _, _, _, _, _, _, _, rfl, rfl, ⟨_, fun _ => rfl⟩, fun _ _ _ _ _ _ _ _ _ => rfl⟩
abbrev i_BadWorld : Stmt := clsItem (tp 4) 0
def in_BadWorld : InitD := ⟨"BadWorld", "where", "fault", defArgs i_BadWorld, defBody i_BadWorld, defScope i_BadWorld⟩
theorem in_BadWorld_ok : in_BadWorld.Ok := ⟨⟨rfl, rfl, rfl, by decide +kernel, rfl, rfl, rfl, rfl, rfl, by decide, by decide, by decide, by decide, by decide⟩, _, _, _, _, _, _, _, _, _, _, _, _, _, _, _, _, _, _, rfl, rfl, ⟨_, fun _ => rfl⟩, fun _ _ _ _ _ _ _ _ _ => rfl⟩
abbrev i_BadProgram : Stmt := clsItem (tp 5) 0
def in_BadProgram : InitD := ⟨"BadProgram", "where", "fault", defArgs i_BadProgram, defBody i_BadProgram, defScope i_BadProgram⟩
theorem in_BadProgram_ok : in_BadProgram.Ok := ⟨⟨rfl, rfl, rfl, by decide +kernel, rfl, rfl, rfl, rfl, rfl, by decide, by decide, by decide, by decide, by decide⟩, _, _, _, _, _, _, _, _, _, _, _, _, _, _, _, _, _, _, rfl, rfl, ⟨_, fun _ => rfl⟩, fun _ _ _ _ _ _ _ _ _ => rfl⟩
abbrev i_TooLarge : Stmt := clsItem (tp 8) 0
def in_TooLarge : InitD := ⟨"TooLarge", "what", "limit", defArgs i_TooLarge, defBody i_TooLarge, defScope i_TooLarge⟩
theorem in_TooLarge_ok : in_TooLarge.Ok := ⟨⟨rfl, rfl, rfl, by decide +kernel, rfl, rfl, rfl, rfl, rfl, by decide, by decide, by decide, by decide, by decide⟩, _, _, _, _, _, _, _, _, _, _, _, _, _, _, _, _, _, _, rfl, rfl, ⟨_, fun _ => rfl⟩, fun _ _ _ _ _ _ _ _ _ => rfl⟩
end K02
set_option maxRecDepth 100000
set_option maxHeartbeats 4000000
/-! K02a: tokens in plain Lean: sign by sign, a run at a time. -/
namespace K02
open PySem PySem.Spec PyProof.Rows
open L2 Hk
def isL (c : Nat) : Bool := decide (97 ≤ c) && decide (c ≤ 122)
def isD (c : Nat) : Bool := decide (48 ≤ c) && decide (c ≤ 57)
def isA (c : Nat) : Bool := isL c || isD c
theorem mem_letters (c : Nat) : decide (c ∈ ("abcdefghijklmnopqrstuvwxyz" : Str).cps.toList) = isL c := by
  have e : ("abcdefghijklmnopqrstuvwxyz" : Str).cps.toList = List.range' 97 26 := by decide +kernel
  rw [e, Bool.eq_iff_iff]
  simp [isL, List.mem_range'_1]; omega
theorem mem_digits (c : Nat) : decide (c ∈ ("0123456789" : Str).cps.toList) = isD c := by
  have e : ("0123456789" : Str).cps.toList = List.range' 48 10 := by decide +kernel
  rw [e, Bool.eq_iff_iff]
  simp [isD, List.mem_range'_1]; omega
theorem mem_both (c : Nat) : decide (c ∈ (("abcdefghijklmnopqrstuvwxyz" : Str) ++ ("0123456789" : Str)).cps.toList) = isA c := by
  have e : (("abcdefghijklmnopqrstuvwxyz" : Str) ++ ("0123456789" : Str)).cps.toList = List.range' 97 26 ++ List.range' 48 10 := by decide +kernel
  rw [e, Bool.eq_iff_iff]
  simp [isA, isL, isD, List.mem_range'_1]; omega
theorem mem_marks (c : Nat) : decide (c ∈ ("()" : Str).cps.toList) = (decide (c = 40) || decide (c = 41)) := by
  have e : ("()" : Str).cps.toList = [40, 41] := by decide +kernel
  rw [e, Bool.eq_iff_iff]
  simp
def RES : List Str := [("ahead" : Str), ("all" : Str), ("allset" : Str), ("and" : Str), ("behind" : Str), ("colour" : Str), ("contract" : Str), ("else" : Str), ("end" : Str), ("follow" : Str), ("hue" : Str), ("if" : Str), ("in" : Str), ("kept" : Str), ("next" : Str), ("not" : Str), ("nothing" : Str), ("or" : Str), ("p" : Str), ("paint" : Str), ("program" : Str), ("put" : Str), ("q" : Str), ("question" : Str), ("reach" : Str), ("run" : Str), ("s" : Str), ("same" : Str), ("some" : Str), ("someset" : Str), ("t" : Str), ("there" : Str), ("turn" : Str), ("u" : Str), ("v" : Str), ("w" : Str), ("while" : Str), ("world" : Str), ("x" : Str), ("y" : Str), ("yes" : Str), ("z" : Str)]
/-- a run: its kind, its content -/
def nameOk (r : List Nat) : Bool := isL (r.headD 0) && decide (r.length ≤ 8)
def figOk (r : List Nat) : Bool := r.all isD && (decide (r.length ≤ 4) && (decide (r = [48]) || !decide (r.headD 0 = 48)))
def runK (r : List Nat) : Str × PyData :=
  if tx r ∈ RES then ("key", .str (tx r)) else if nameOk r = true then ("name", .str (tx r)) else if figOk r = true then ("number", .int (NumText.digitsVal r : Nat)) else ("bad", .str "")
def tok (k : Str × PyData) (ln col : Int) : PyData := .tuple [.str k.1, k.2, .int ln, .int col]
def flush (run : List Nat) (ln col : Int) (rest : List PyData) : List PyData :=
  if run = [] then rest else if (runK run).1 = "bad" then [tok (runK run) ln (col - run.length)] else tok (runK run) ln (col - run.length) :: rest
/-- what is left of the text, the run so far, the place -/
def go : List Nat → List Nat → Int → Int → List PyData
  | [], run, ln, col => flush run ln col [tok ("end", .str "") ln col]
  | c :: r, run, ln, col => if isA c = true then go r (run ++ [c]) ln (col + 1) else flush run ln col
      (if c = 10 then tok ("line", .str "") ln col :: go r [] (ln + 1) 1
       else if c = 32 then go r [] ln (col + 1)
       else if c = 40 ∨ c = 41 then tok ("mark", .str (tx [c])) ln col :: go r [] ln (col + 1)
       else [tok ("bad", .str "") ln col])
theorem flush_nil (ln col : Int) (rest : List PyData) : flush [] ln col rest = rest := if_pos rfl
theorem go_run (r : List Nat) (ln : Int) : ∀ (u acc : List Nat) (col : Int), u.all isA = true → go (u ++ r) acc ln col = go r (acc ++ u) ln (col + u.length)
  | [], acc, col, _ => by simp
  | c :: u, acc, col, h => by
    obtain ⟨h1, h2⟩ := Bool.and_eq_true_iff.mp (show (isA c && u.all isA) = true from h)
    show go (c :: (u ++ r)) acc ln col = _
    rw [go, if_pos h1, go_run r ln u _ _ h2, List.append_assoc]
    congr 1
    simp; omega
theorem go_flush (r run : List Nat) (ln col : Int) (h : ∀ c, r.head? = some c → isA c = false) : go r run ln col = flush run ln col (go r [] ln col) := by
  cases r with
  | nil => rw [go, go, flush_nil]
  | cons c r =>
    have hc := h c rfl
    have e : ∀ run, go (c :: r) run ln col = flush run ln col (if c = 10 then tok ("line", .str "") ln col :: go r [] (ln + 1) 1 else if c = 32 then go r [] ln (col + 1) else if c = 40 ∨ c = 41 then tok ("mark", .str (tx [c])) ln col :: go r [] ln (col + 1) else [tok ("bad", .str "") ln col]) := fun run => by
      rw [go, if_neg (by rw [hc]; decide)]
    rw [e, e, flush_nil]
/-- the run that begins at l -/
def runOf (l : List Nat) : List Nat := l.takeWhile isA
theorem runOf_all (l : List Nat) : (runOf l).all isA = true := by
  rw [List.all_eq_true]
  intro c hc
  unfold runOf at hc
  induction l with
  | nil => simp at hc
  | cons a l ih =>
    rw [List.takeWhile_cons] at hc
    by_cases ha : isA a = true
    · rw [if_pos ha] at hc
      rcases List.mem_cons.mp hc with rfl | hc
      · exact ha
      · exact ih hc
    · rw [if_neg ha] at hc
      simp at hc
theorem runOf_drop (l : List Nat) : l = runOf l ++ l.drop (runOf l).length := by
  unfold runOf
  induction l with
  | nil => rfl
  | cons a l ih =>
    rw [List.takeWhile_cons]
    by_cases ha : isA a = true
    · rw [if_pos ha, List.length_cons, List.drop_succ_cons, List.cons_append, ← ih]
    · rw [if_neg ha]; rfl
theorem runOf_take (l : List Nat) : l.take (runOf l).length = runOf l := by
  unfold runOf
  induction l with
  | nil => rfl
  | cons a l ih =>
    rw [List.takeWhile_cons]
    by_cases ha : isA a = true
    · rw [if_pos ha, List.length_cons, List.take_succ_cons, ih]
    · rw [if_neg ha]; rfl
theorem runOf_next (l : List Nat) : ∀ c, (l.drop (runOf l).length).head? = some c → isA c = false := by
  induction l with
  | nil => intro c h; simp at h
  | cons a l ih =>
    intro c h
    unfold runOf at h
    rw [List.takeWhile_cons] at h
    by_cases ha : isA a = true
    · rw [if_pos ha, List.length_cons, List.drop_succ_cons] at h
      exact ih c h
    · rw [if_neg ha] at h
      simp at h
      subst h
      simpa using ha
theorem go_at (l : List Nat) (ln col : Int) : go l [] ln col = flush (runOf l) ln (col + (runOf l).length) (go (l.drop (runOf l).length) [] ln (col + (runOf l).length)) := by
  conv => lhs; rw [runOf_drop l]
  rw [go_run _ _ _ _ _ (runOf_all l), List.nil_append, go_flush _ _ _ _ (runOf_next l)]
/-- a turn of the text that begins with a sign of a run -/
theorem go_word {c : Nat} {r : List Nat} (h : isA c = true) (ln col : Int) : go (c :: r) [] ln col =
    tok (runK (runOf (c :: r))) ln col :: (if (runK (runOf (c :: r))).1 = "bad" then [] else go ((c :: r).drop (runOf (c :: r)).length) [] ln (col + (runOf (c :: r)).length)) := by
  have ne : runOf (c :: r) ≠ [] := by
    unfold runOf
    rw [List.takeWhile_cons, if_pos h]
    exact List.cons_ne_nil _ _
  rw [go_at]
  unfold flush
  rw [if_neg ne, show col + ((runOf (c :: r)).length : Int) - ((runOf (c :: r)).length : Int) = col by omega]
  split <;> rfl
theorem go_other {c : Nat} {r : List Nat} (h : isA c = false) (ln col : Int) : go (c :: r) [] ln col =
    (if c = 10 then tok ("line", .str "") ln col :: go r [] (ln + 1) 1 else if c = 32 then go r [] ln (col + 1) else if c = 40 ∨ c = 41 then tok ("mark", .str (tx [c])) ln col :: go r [] ln (col + 1) else [tok ("bad", .str "") ln col]) := by
  rw [go, if_neg (by rw [h]; decide), flush_nil]
end K02
set_option maxRecDepth 100000
set_option maxHeartbeats 4000000
namespace K02
open PySem PySem.Spec PyProof.Rows
open L2 Hk
section
variable {P : Program} {w : World} {K : PySem.W.Frag} {mg : Str → Option Value} {base : Heap}
theorem notT {b : Bool} (h : (!b) = true) : b = false := by cases b <;> simp_all
theorem notF {b : Bool} (h : (!b) = false) : b = true := by cases b <;> simp_all
/-- a text that is no word of the language, and a word else -/
def spName : Sp := fun vs H Q _ => ∃ r : List Nat, vs = [.str (tx r)] ∧ r ≠ [] ∧ r.length ≤ 100000 ∧ r.all isA = true ∧ tx r ∉ RES ∧ ∀ H', Same H H' → Q (.bl (nameOk r)) H'
theorem ok_is_name (S : Src K mg "is_name" s_is_name) (c_LETTERS : ∃ t, mg "LETTERS" = some (.str "abcdefghijklmnopqrstuvwxyz" t)) (c_DIGITS : ∃ t, mg "DIGITS" = some (.str "0123456789" t)) (c_MOST_LETTERS : ∃ t, mg "MOST_LETTERS" = some (.int 8 t))
    (c_RESERVED : mg "RESERVED" = some (.ref (He.ga K "RESERVED"))) (t_RESERVED : ∀ H, SqT K H (He.ga K "RESERVED") (RES.map V.str)) (m_isinstance : mg "isinstance" = none) (m_str : mg "str" = none) (m_len : mg "len" = none) (m_all : mg "all" = none) : Has P w K mg base CX0 "is_name" 1 ["thing"] spName := by
  refine S.has sc_is_name (fun _ _ _ _ _ _ us hl => match us, hl with | [_], _ => rfl) (fun vs H Q E ⟨r, e, _⟩ => e ▸ rfl) (fun f cdv A out s H vs Q E hr ⟨r, e, h0, hz, ha, hn, q⟩ => ?_)
  have hu64 := hr.units
  refine ⟨_, (pss_cons (ps_if (PW.pt (pw_or (pt_not (pt_val (pe_callB (call_uisi (K := K)) rfl m_isinstance bb_isinstance (pa_cons (pv 0) (pa_cons (pe_cty bb_str m_str rfl) pa_nil))))) (pw_or (pt_not (pt_chain op_ule op_ule pe_int (pe_callB (call_ulen (K := K)) rfl m_len bb_len (pa_cons (pv 0) pa_nil)) (pe_cint c_MOST_LETTERS rfl))) (pw_or1 (pt_cmpR op_notIn_sign (pe_ix (ix_u (K := K)) (pv 0) pe_int (fun _ _ => rfl)) (pe_cstr c_LETTERS rfl) (by with_unfolding_all rfl))))))
      (pss_one (ps_ret pe_bl))
      pss_nil)
    (pss_one (ps_ret (pe_and (pe_cmpR (op_unotin (K := K)) (pv 0) (pe_cref c_RESERVED rfl) (by with_unfolding_all rfl)) (pe_one (pe_callB (cr_all rfl) rfl m_all bb_all (pa_cons (pe_lc (own := [("sign", 1)]) (by rfl) sc_is_name.nd (pi_str (pv 0)) (blkOk_by (N := ["thing", "sign"]) (own := [("sign", 1)]) (sc := defScope s_is_name) (by decide +kernel)) (fun _ _ _ _ _ => (pg_name (i := 1) sc_is_name.nd rfl (by first | exact Or.inl rfl | exact Or.inr rfl))) (fun _ _ _ _ _ => pts_nil) (fun _ _ _ _ _ => (pe_cmpR op_in_sign (pv 1) (pe_op (op_uadd (K := K)) (pe_cstr c_LETTERS rfl) (pe_cstr c_DIGITS rfl)) (by with_unfolding_all rfl)))) pa_nil))))))), ?_⟩
  subst e
  refine ⟨_, rfl, .dat (.str _) (by simp) ⟨_, rfl, ?_⟩⟩
  have lz : (tx r).length ≤ sizeLine := by rw [tx_len, sizeLine_eq]; omega
  obtain ⟨c, r', rfl⟩ := List.exists_cons_of_ne_nil h0
  have e1 : decide ((1 : Int) ≤ ((tx (c :: r')).length : Int)) = true := by rw [tx_len]; simp; omega
  have fin : ∀ {b : Bool} (h : (isL c && decide ((c :: r').length ≤ 8)) = b), nameOk (c :: r') = b := fun h => h
  refine ifF rfl ⟨_, rfl, .str lz ⟨_, _, rfl, rfl, _, rfl, ifT e1 ⟨_, _, rfl, rfl, _, rfl, ifB (fun h => ?_) (fun h => ?_)⟩⟩⟩
  · have h2 : decide ((c :: r').length ≤ 8) = false := by
      rw [tx_len] at h; simp at h ⊢; omega
    have := q _ (Same.refl _)
    rw [fin (b := false) (by rw [h2, Bool.and_false])] at this
    exact this
  have h2 : decide ((c :: r').length ≤ 8) = true := by
    rw [tx_len] at h; simp at h ⊢; omega
  refine ⟨_, rfl, .str lz (atI_nat (j := 0) (v := c) rfl) ⟨c, _, rfl, rfl, _, rfl, ?_⟩⟩
  rw [mem_letters]
  refine ifB (fun h => ?_) (fun h => ?_)
  · have := q _ (Same.refl _)
    rw [fin (b := false) (by rw [show isL c = false by simpa using h, Bool.false_and])] at this
    exact this
  have h3 : isL c = true := by simpa using h
  refine ⟨_, rfl, _, _, rfl, .inr (t_RESERVED H), rfl, flat_strs _, ?_⟩
  rw [inV_strs]
  refine ⟨_, rfl, ifT (by simpa using hn) ⟨_, rfl, _, rfl, fun D nD => ?_⟩⟩
  refine walk_bools isA nD (Nat.le_trans hz (by decide)) (fun c H1 Nx h => ?_) (fun H' s e => ⟨D, _, rfl, SqL.of e, ?_⟩)
  · refine ⟨rfl, _, rfl, .str (by rw [sizeLine_eq]; decide) ⟨c, _, rfl, rfl, ?_⟩⟩
    rw [mem_both]
    exact h
  have := q _ s
  rw [fin (b := true) (by rw [h2, h3]; rfl)] at this
  rw [show ((c :: r').map isA).all id = true by rw [List.all_map]; exact ha]
  exact this
/-- where the run ends -/
def spEnd : Sp := fun vs H Q _ => ∃ (l : List Nat) (b : Nat), vs = [.str (tx l), .int b] ∧ b ≤ l.length ∧ l.length ≤ 100000 ∧ Q (.int ((b + (runOf (l.drop b)).length : Nat))) H
theorem ok_end_of_run (S : Src K mg "end_of_run" s_end_of_run) (c_LETTERS : ∃ t, mg "LETTERS" = some (.str "abcdefghijklmnopqrstuvwxyz" t)) (c_DIGITS : ∃ t, mg "DIGITS" = some (.str "0123456789" t)) (m_len : mg "len" = none) : Has P w K mg base CX0 "end_of_run" 1 ["text", "begin"] spEnd := by
  refine S.has sc_end_of_run (fun _ _ _ _ _ _ us hl => match us, hl with | [_, _], _ => rfl) (fun vs H Q E ⟨l, b, e, _⟩ => e ▸ rfl) (fun f cdv A out s H vs Q E hr ⟨l, b, e, hb, hz, q⟩ => ?_)
  have hu64 := hr.units
  refine ⟨_, (pss_cons (ps_set (i := 2) sc_end_of_run.nd rfl (by first | exact Or.inl rfl | exact Or.inr rfl) (pv 1))
    (pss_cons (ps_while PassesOwn.never (PW.pt (pw_and (pt_cmpR op_ult (pv 2) (pe_callB (call_ulen (K := K)) rfl m_len bb_len (pa_cons (pv 0) pa_nil)) (nomark _)) (pw_and1 (pt_cmpR op_in_sign (pe_ix (ix_u (K := K)) (pv 0) (pv 2) (fun _ _ => rfl)) (pe_op (op_uadd (K := K)) (pe_cstr c_LETTERS rfl) (pe_cstr c_DIGITS rfl)) (by with_unfolding_all rfl)))))
      (pss_one (ps_set (i := 2) sc_end_of_run.nd rfl (by first | exact Or.inl rfl | exact Or.inr rfl) (pe_op (op_uadd (K := K)) (pv 2) pe_int))))
    (pss_one (ps_ret (pv 2))))), ?_⟩
  subst e
  have lz : (tx l).length ≤ sizeLine := by rw [tx_len, sizeLine_eq]; omega
  refine ⟨_, rfl, fun m σ H' => ∃ e : Nat, σ = [some (.str (tx l)), some (.int b), some (.int e)] ∧ H' = H ∧ m = l.length - e ∧ e ≤ l.length ∧ e + (runOf (l.drop e)).length = b + (runOf (l.drop b)).length, ⟨_, b, rfl, rfl, rfl, hb, rfl⟩, ?_⟩
  rintro m σ H1 ⟨e, rfl, rfl, rfl, he, hs⟩
  refine ⟨_, rfl, _, rfl, .str lz ⟨_, _, rfl, rfl, _, rfl, ?_⟩⟩
  rw [tx_len]
  refine ite2 (fun h => ?_) (fun h => ?_)
  · have h : e < l.length := by simpa using h
    have hd := List.drop_eq_getElem_cons h
    refine ⟨_, rfl, _, rfl, .str lz (atI_nat (j := e) (v := l[e]) (by simp [h])) (.str (by rw [sizeLine_eq]; decide) ⟨l[e], _, rfl, rfl, _, rfl, ?_⟩)⟩
    rw [mem_both]
    refine ifB (fun ha => ?_) (fun ha => ?_)
    · refine ⟨fun σ' H' => ∃ e' : Nat, e' = e + 1 ∧ σ' = [some (.str (tx l)), some (.int b), some (.int e')] ∧ H' = H1, ?_, ⟨_, rfl, .int ⟨e + 1, rfl, by simp, rfl⟩⟩⟩
      rintro σ' H' ⟨e', rfl, rfl, rfl⟩
      refine ⟨l.length - (e + 1), by omega, e + 1, rfl, rfl, rfl, by omega, ?_⟩
      rw [← hs, hd]
      unfold runOf
      rw [List.takeWhile_cons, if_pos ha, List.length_cons]
      omega
    · refine ⟨_, rfl, ?_⟩
      rw [hd] at hs
      unfold runOf at hs
      rw [List.takeWhile_cons, if_neg (by rw [ha]; decide)] at hs
      rw [show (e : Int) = ((b + (runOf (l.drop b)).length : Nat) : Int) by unfold runOf; rw [← hs]; simp]
      exact q
  · have h : l.length ≤ e := by simpa using h
    refine ⟨_, rfl, ?_⟩
    rw [List.drop_eq_nil_of_le h] at hs
    rw [show (e : Int) = ((b + (runOf (l.drop b)).length : Nat) : Int) by rw [← hs]; rfl]
    exact q
theorem zero_tx (r : List Nat) : decide (tx r = "0") = decide (r = [48]) := by
  rw [show ("0" : Str) = tx [48] by decide +kernel, decide_eq_decide]
  exact tx_eq
def spFigs : Sp := fun vs H Q _ => ∃ r : List Nat, vs = [.str (tx r), .int 4] ∧ r ≠ [] ∧ r.length ≤ 100000 ∧ ∀ H', Same H H' → Q (.bl (figOk r)) H'
theorem ok_is_figures (S : Src K mg "is_figures" s_is_figures) (c_DIGITS : ∃ t, mg "DIGITS" = some (.str "0123456789" t)) (m_len : mg "len" = none) (m_all : mg "all" = none) : Has P w K mg base CX0 "is_figures" 1 ["run", "most"] spFigs := by
  refine S.has sc_is_figures (fun _ _ _ _ _ _ us hl => match us, hl with | [_, _], _ => rfl) (fun vs H Q E ⟨r, e, _⟩ => e ▸ rfl) (fun f cdv A out s H vs Q E hr ⟨r, e, h0, hz, q⟩ => ?_)
  have hu64 := hr.units
  refine ⟨_, (pss_cons (ps_if (PW.pt (pw_or (pt_not (pt_val (pe_callB (cr_all rfl) rfl m_all bb_all (pa_cons (pe_lc (own := [("sign", 2)]) (by rfl) sc_is_figures.nd (pi_str (pv 0)) (blkOk_by (N := ["run", "most", "sign"]) (own := [("sign", 2)]) (sc := defScope s_is_figures) (by decide +kernel)) (fun _ _ _ _ _ => (pg_name (i := 2) sc_is_figures.nd rfl (by first | exact Or.inl rfl | exact Or.inr rfl))) (fun _ _ _ _ _ => pts_nil) (fun _ _ _ _ _ => (pe_cmpR op_in_sign (pv 2) (pe_cstr c_DIGITS rfl) (by with_unfolding_all rfl)))) pa_nil)))) (pw_or1 (pt_not (pt_chain op_ule op_ule pe_int (pe_callB (call_ulen (K := K)) rfl m_len bb_len (pa_cons (pv 0) pa_nil)) (pv 1))))))
      (pss_one (ps_ret pe_bl))
      pss_nil)
    (pss_one (ps_ret (pe_or (pe_cmpR (op_ueq (K := K) hu64) (pv 0) pe_str (nomark _)) (pe_one (pe_cmpR (op_une (K := K) hu64) (pe_ix (ix_u (K := K)) (pv 0) pe_int (fun _ _ => rfl)) pe_str (nomark _))))))), ?_⟩
  subst e
  have lz : (tx r).length ≤ sizeLine := by rw [tx_len, sizeLine_eq]; omega
  obtain ⟨c, r', rfl⟩ := List.exists_cons_of_ne_nil h0
  refine ⟨_, rfl, _, rfl, fun D nD => ?_⟩
  refine walk_bools isD nD (Nat.le_trans hz (by decide)) (fun c H1 Nx h => ?_) (fun H' s e => ⟨D, _, rfl, SqL.of e, ?_⟩)
  · refine ⟨rfl, _, rfl, ⟨c, _, rfl, rfl, ?_⟩⟩
    rw [mem_digits]
    exact h
  rw [show ((c :: r').map isD).all id = (c :: r').all isD by rw [List.all_map]; rfl]
  refine ⟨_, rfl, ifB (fun h => ?_) (fun h => ?_)⟩
  · have h : (c :: r').all isD = false := notT h
    have := q _ s
    unfold figOk at this
    rw [h, Bool.false_and] at this
    exact this
  have h : (c :: r').all isD = true := notF h
  have e1 : decide ((1 : Int) ≤ ((tx (c :: r')).length : Int)) = true := by rw [tx_len]; simp; omega
  refine ⟨_, rfl, .str lz ⟨_, _, rfl, rfl, _, rfl, ifT e1 ⟨_, rfl, _, _, rfl, rfl, _, rfl, ifB (fun h2 => ?_) (fun h2 => ?_)⟩⟩⟩
  · have h2 : decide ((c :: r').length ≤ 4) = false := by rw [tx_len] at h2; simp at h2 ⊢; omega
    have := q _ s
    unfold figOk at this
    rw [h2, Bool.false_and, Bool.and_false] at this
    exact this
  have h2 : decide ((c :: r').length ≤ 4) = true := by rw [tx_len] at h2; simp at h2 ⊢; omega
  have fin := q _ s
  unfold figOk at fin
  rw [h, h2, Bool.true_and, Bool.true_and] at fin
  refine ⟨_, rfl, .str ⟨_, rfl, ?_⟩⟩
  rw [zero_tx]
  refine ifB (fun h3 => ?_) (fun h3 => ?_)
  · rw [h3, Bool.true_or] at fin
    exact fin
  rw [h3, Bool.false_or] at fin
  refine ⟨_, rfl, .str lz (atI_nat (j := 0) (v := c) rfl) (.str ?_)⟩
  rw [show decide (({ cps := #[c] } : Str) = "0") = decide (c = 48) by rw [show ({ cps := #[c] } : Str) = tx [c] from rfl, zero_tx]; simp]
  exact fin
theorem runK_big {r : List Nat} : (∃ z, (runK r).2 = .str z) ∨ ∃ n : Int, (runK r).2 = .int n := by
  unfold runK
  split
  · exact .inl ⟨_, rfl⟩
  split
  · exact .inl ⟨_, rfl⟩
  split
  · exact .inr ⟨_, rfl⟩
  · exact .inl ⟨_, rfl⟩
/-- what is made of a run: a pair -/
def spRun (K : PySem.W.Frag) : Sp := fun vs H Q _ => ∃ r : List Nat, vs = [.str (tx r)] ∧ r ≠ [] ∧ r.length ≤ 100000 ∧ r.all isA = true ∧ ∀ p H' v, Same H H' → SqT K H' p [.str (runK r).1, v] → Im K H' v (runK r).2 → Q (.ref p) H'
theorem runK_res {r : List Nat} (h : tx r ∈ RES) : runK r = (("key" : Str), PyData.str (tx r)) := if_pos h
theorem runK_name {r : List Nat} (h : tx r ∉ RES) (h2 : nameOk r = true) : runK r = (("name" : Str), PyData.str (tx r)) := by unfold runK; rw [if_neg h, if_pos h2]
theorem runK_fig {r : List Nat} (h : tx r ∉ RES) (h2 : nameOk r = false) (h3 : figOk r = true) : runK r = (("number" : Str), PyData.int (NumText.digitsVal r : Nat)) := by unfold runK; rw [if_neg h, if_neg (by rw [h2]; decide), if_pos h3]
theorem runK_bad {r : List Nat} (h : tx r ∉ RES) (h2 : nameOk r = false) (h3 : figOk r = false) : runK r = (("bad" : Str), PyData.str "") := by unfold runK; rw [if_neg h, if_neg (by rw [h2]; decide), if_neg (by rw [h3]; decide)]
theorem fig_int {r : List Nat} (h0 : r ≠ []) (h : figOk r = true) : PySem.intText? (tx r) = some ((NumText.digitsVal r : Nat) : Int) ∧ (tx r).length ≤ 640 := by
  unfold figOk at h
  obtain ⟨h1, h2⟩ := Bool.and_eq_true_iff.mp h
  obtain ⟨h2, _⟩ := Bool.and_eq_true_iff.mp h2
  have h2 := of_decide_eq_true h2
  exact ⟨SX.int_S h1 h0 (by omega), by rw [tx_len]; omega⟩
theorem ok_run_token (S : Src K mg "run_token" s_run_token) (c_RESERVED : mg "RESERVED" = some (.ref (He.ga K "RESERVED"))) (t_RESERVED : ∀ H, SqT K H (He.ga K "RESERVED") (RES.map V.str)) (c_MOST_FIGURES : ∃ t, mg "MOST_FIGURES" = some (.int 4 t)) (m_int : mg "int" = none)
    (h_is_name : Has P w K mg base CX0 "is_name" 1 ["thing"] spName) (h_is_figures : Has P w K mg base CX0 "is_figures" 1 ["run", "most"] spFigs) : Has P w K mg base CX0 "run_token" 2 ["run"] (spRun K) := by
  refine S.has sc_run_token (fun _ _ _ _ _ _ us hl => match us, hl with | [_], _ => rfl) (fun vs H Q E ⟨r, e, _⟩ => e ▸ rfl) (fun f cdv A out s H vs Q E hr ⟨r, e, h0, hz, ha, q⟩ => ?_)
  have hu64 := hr.units
  refine ⟨_, (pss_cons (ps_if (pt_cmpR (op_uin (K := K)) (pv 0) (pe_cref c_RESERVED rfl) (by with_unfolding_all rfl))
      (pss_one (ps_ret (pe_tup (pa_cons pe_str (pa_cons (pv 0) pa_nil)))))
      pss_nil)
    (pss_cons (ps_if (pt_val (pe_has h_is_name (hr.mono (by decide)) rfl pass0 (pa_cons (pv 0) pa_nil)))
      (pss_one (ps_ret (pe_tup (pa_cons pe_str (pa_cons (pv 0) pa_nil)))))
      pss_nil)
    (pss_one (ps_ret (pe_ifExp (pt_val (pe_has h_is_figures (hr.mono (by decide)) rfl pass0 (pa_cons (pv 0) (pa_cons (pe_cint c_MOST_FIGURES rfl) pa_nil)))) (pe_tup (pa_cons pe_str (pa_cons (pe_callTy call_uint rfl m_int bb_int (pa_cons (pv 0) pa_nil)) pa_nil))) (pe_tup (pa_cons pe_str (pa_cons pe_str pa_nil)))))))), ?_⟩
  subst e
  refine ⟨_, rfl, _, _, rfl, .inr (t_RESERVED H), rfl, flat_strs _, ?_⟩
  rw [inV_strs]
  refine ⟨_, rfl, ite2 (fun h => ?_) (fun h => ?_)⟩
  · have h := of_decide_eq_true h
    rw [runK_res h] at q
    exact ⟨_, rfl, szl, fun p np => q p _ _ (sameUpd np) (.inl (.inl upd_same)) (.str _)⟩
  have h : tx r ∉ RES := by simpa using h
  refine ⟨_, rfl, r, rfl, h0, hz, ha, h, fun H1 s1 => ⟨_, rfl, ifB (fun h2 => ?_) (fun h2 => ?_)⟩⟩
  · rw [runK_name h h2] at q
    exact ⟨_, rfl, szl, fun p np => q p _ _ (s1.trans (sameUpd np)) (.inl (.inl upd_same)) (.str _)⟩
  refine ⟨_, rfl, r, rfl, h0, hz, fun H2 s2 => ⟨_, rfl, ifB (fun h3 => ?_) (fun h3 => ?_)⟩⟩
  · obtain ⟨hi, hl⟩ := fig_int h0 h3
    rw [runK_fig h h2 h3] at q
    exact ⟨_, rfl, .str hi hl ⟨szl, fun p np => q p _ _ ((s1.trans s2).trans (sameUpd np)) (.inl (.inl upd_same)) (.int _)⟩⟩
  · rw [runK_bad h h2 h3] at q
    exact ⟨szl, fun p np => q p _ _ ((s1.trans s2).trans (sameUpd np)) (.inl (.inl upd_same)) (.str _)⟩
/-- the token at a place: kind, content, where it ends -/
def tokAt (l : List Nat) (b : Nat) (c : Nat) : Str × PyData × Nat :=
  if c = 10 then ("line", .str "", b + 1) else if c = 40 ∨ c = 41 then ("mark", .str (tx [c]), b + 1) else if isA c = true then ((runK (runOf (l.drop b))).1, (runK (runOf (l.drop b))).2, b + (runOf (l.drop b)).length) else ("bad", .str "", b)
def spTok (K : PySem.W.Frag) : Sp := fun vs H Q _ => ∃ (l : List Nat) (b c : Nat), vs = [.str (tx l), .int b] ∧ l[b]? = some c ∧ l.length ≤ 100000 ∧ ∀ p H' v, Same H H' → SqT K H' p [.str (tokAt l b c).1, v, .int (tokAt l b c).2.2] → Im K H' v (tokAt l b c).2.1 → Q (.ref p) H'
theorem ok_token_at (S : Src K mg "token_at" s_token_at) (h_end_of_run : Has P w K mg base CX0 "end_of_run" 1 ["text", "begin"] spEnd) (h_run_token : Has P w K mg base CX0 "run_token" 2 ["run"] (spRun K)) : Has P w K mg base CX0 "token_at" 3 ["text", "begin"] (spTok K) := by
  refine S.has sc_token_at (fun _ _ _ _ _ _ us hl => match us, hl with | [_, _], _ => rfl) (fun vs H Q E ⟨l, b, c, e, _⟩ => e ▸ rfl) (fun f cdv A out s H vs Q E hr ⟨l, b, c, e, hc, hz, q⟩ => ?_)
  have hu64 := hr.units
  refine ⟨_, (pss_cons (ps_if (pt_cmpR (op_ueq (K := K) hu64) (pe_ix (ix_u (K := K)) (pv 0) (pv 1) (fun _ _ => rfl)) pe_str (nomark _))
      (pss_one (ps_ret (pe_tup (pa_cons pe_str (pa_cons pe_str (pa_cons (pe_op (op_uadd (K := K)) (pv 1) pe_int) pa_nil))))))
      pss_nil)
    (pss_cons (ps_if (pt_cmpR op_in_sign (pe_ix (ix_u (K := K)) (pv 0) (pv 1) (fun _ _ => rfl)) pe_str (by with_unfolding_all rfl))
      (pss_one (ps_ret (pe_tup (pa_cons pe_str (pa_cons (pe_ix (ix_u (K := K)) (pv 0) (pv 1) (fun _ _ => rfl)) (pa_cons (pe_op (op_uadd (K := K)) (pv 1) pe_int) pa_nil))))))
      pss_nil)
    (pss_cons (ps_set (i := 2) sc_token_at.nd rfl (by first | exact Or.inl rfl | exact Or.inr rfl) (pe_has h_end_of_run (hr.mono (by decide)) rfl pass0 (pa_cons (pv 0) (pa_cons (pv 1) pa_nil))))
    (pss_one (ps_ret (pe_ifExp (pt_cmpR op_ugt (pv 2) (pv 1) (nomark _)) (pe_op (op_uadd (K := K)) (pe_has h_run_token (hr.mono (by decide)) rfl pass0 (pa_cons (pe_slice (sl_u (K := K)) (pv 0) (po_some (pv 1)) (po_some (pv 2))) pa_nil)) (pe_tup (pa_cons (pv 2) pa_nil))) (pe_tup (pa_cons pe_str (pa_cons pe_str (pa_cons (pv 1) pa_nil)))))))))), ?_⟩
  subst e
  have lz : (tx l).length ≤ sizeLine := by rw [tx_len, sizeLine_eq]; omega
  have lb : b < l.length := (List.getElem?_eq_some_iff.mp hc).1
  have hat : atI (tx l).cps.toList (b : Int) = some c := atI_nat (by simpa using hc)
  refine ⟨_, rfl, _, rfl, .str lz hat (.str ⟨_, rfl, ?_⟩)⟩
  rw [show decide (({ cps := #[c] } : Str) = "\n") = decide (c = 10) by rw [show ("\n" : Str) = tx [10] by decide +kernel, show ({ cps := #[c] } : Str) = tx [c] from rfl, decide_eq_decide, tx_eq]; simp]
  unfold tokAt at q
  refine ite2 (fun h => ?_) (fun h => ?_)
  · rw [if_pos (of_decide_eq_true h)] at q
    refine ⟨_, rfl, .int ⟨szl, fun p np => q p _ _ (sameUpd np) (.inl (.inl upd_same)) (.str _)⟩⟩
  rw [if_neg (by simpa using h)] at q
  refine ⟨_, rfl, _, rfl, .str lz hat ⟨c, _, rfl, rfl, _, rfl, ?_⟩⟩
  rw [mem_marks]
  refine ifB (fun h => ?_) (fun h => ?_)
  · rw [if_pos (by simpa using h)] at q
    refine ⟨_, rfl, _, rfl, .str lz hat ⟨_, rfl, .int ⟨szl, fun p np => q p _ _ (sameUpd np) (.inl (.inl upd_same)) (.str _)⟩⟩⟩
  rw [if_neg (by simpa using h)] at q
  refine ⟨_, rfl, _, rfl, l, b, rfl, Nat.le_of_lt lb, hz, ?_⟩
  refine ⟨_, rfl, _, rfl, _, _, rfl, rfl, _, rfl, ite2 (fun h3 => ?_) (fun h3 => ?_)⟩
  · have h3 : (runOf (l.drop b)).length ≠ 0 := by simp at h3; omega
    have ne : runOf (l.drop b) ≠ [] := fun z => h3 (by rw [z]; rfl)
    have ha : isA c = true := by
      have hd : l.drop b = c :: l.drop (b + 1) := by
        rw [List.drop_eq_getElem_cons lb]
        congr 1
        exact Option.some.inj ((List.getElem?_eq_getElem lb).symm.trans hc)
      rw [hd] at ne
      unfold runOf at ne
      rw [List.takeWhile_cons] at ne
      by_cases z : isA c = true
      · exact z
      · rw [if_neg z] at ne
        exact absurd rfl ne
    rw [if_pos ha] at q
    have hrun : (l.drop b).take (runOf (l.drop b)).length = runOf (l.drop b) := runOf_take _
    have hle : (runOf (l.drop b)).length ≤ l.length - b := by
      have := congrArg List.length (runOf_drop (l.drop b))
      rw [List.length_append, List.length_drop] at this
      omega
    refine ⟨_, rfl, _, rfl, _, rfl, _, rfl, _, rfl, .str lz ⟨runOf (l.drop b), ?_, ne, by omega, runOf_all _, fun p H1 v s1 hT hv => ?_⟩⟩
    · rw [cutS_mid (by omega), hrun]; rfl
    · refine ⟨_, rfl, szl, fun p2 np2 => .tup (SqT.same (sameUpd np2) hT) (.inl (.inl upd_same)) szl (fun p3 H3 s3 hT3 => ?_)⟩
      exact q p3 H3 v ((s1.trans (sameUpd np2)).trans s3) hT3 (Im.kt (Same.kt ((sameUpd np2).trans s3)) hv)
  · have h3 : (runOf (l.drop b)).length = 0 := by simp at h3; omega
    have ha : ¬ isA c = true := fun ha => by
      have hd : l.drop b = c :: l.drop (b + 1) := by
        rw [List.drop_eq_getElem_cons lb]
        congr 1
        exact Option.some.inj ((List.getElem?_eq_getElem lb).symm.trans hc)
      rw [hd] at h3
      unfold runOf at h3
      rw [List.takeWhile_cons, if_pos ha] at h3
      simp at h3
    rw [if_neg ha] at q
    exact ⟨_, rfl, szl, fun p np => q p _ _ (sameUpd np) (.inl (.inl upd_same)) (.str _)⟩
end
end K02
set_option maxRecDepth 100000
set_option maxHeartbeats 4000000
namespace K02
open PySem PySem.Spec PyProof.Rows
open L2 Hk
theorem runK_line (r : List Nat) : (runK r).1 ≠ "line" := by
  unfold runK
  split
  · exact (by decide : ("key" : Str) ≠ "line")
  split
  · exact (by decide : ("name" : Str) ≠ "line")
  split
  · exact (by decide : ("number" : Str) ≠ "line")
  · exact (by decide : ("bad" : Str) ≠ "line")
/-- one turn of the program -/
theorem go_tok {l : List Nat} {a c : Nat} (h : l[a]? = some c) (h32 : c ≠ 32) (ln col : Int) : (go (l.drop a) [] ln col = tok ((tokAt l a c).1, (tokAt l a c).2.1) ln col ::
    (if (tokAt l a c).1 = "bad" then [] else go (l.drop (tokAt l a c).2.2) [] (if (tokAt l a c).1 = "line" then ln + 1 else ln) (if (tokAt l a c).1 = "line" then 1 else col + ((tokAt l a c).2.2 - a)))) ∧
    ((tokAt l a c).1 ≠ "bad" → a < (tokAt l a c).2.2 ∧ (tokAt l a c).2.2 ≤ l.length) := by
  have lt : a < l.length := (List.getElem?_eq_some_iff.mp h).1
  have hd : l.drop a = c :: l.drop (a + 1) := by
    rw [List.drop_eq_getElem_cons lt]
    congr 1
    exact Option.some.inj ((List.getElem?_eq_getElem lt).symm.trans h)
  have s1 : ∀ x : Int, x + (((a + 1 : Nat) : Int) - a) = x + 1 := fun x => by omega
  unfold tokAt
  by_cases h10 : c = 10
  · subst h10
    rw [hd, go_other (by decide), if_pos rfl, if_pos rfl]
    exact ⟨rfl, fun _ => ⟨Nat.lt_succ_self _, lt⟩⟩
  rw [if_neg h10]
  by_cases hm : c = 40 ∨ c = 41
  · rw [if_pos hm]
    have hA : isA c = false := by rcases hm with rfl | rfl <;> decide
    rw [hd, go_other hA, if_neg h10, if_neg h32, if_pos hm]
    refine ⟨?_, fun _ => ⟨Nat.lt_succ_self _, lt⟩⟩
    show _ = tok ("mark", .str (tx [c])) ln col :: go (l.drop (a + 1)) [] ln (col + (((a + 1 : Nat) : Int) - a))
    rw [s1]
  rw [if_neg hm]
  by_cases hA : isA c = true
  · rw [if_pos hA]
    have hle : (runOf (l.drop a)).length ≤ l.length - a := by
      have := congrArg List.length (runOf_drop (l.drop a))
      rw [List.length_append, List.length_drop] at this
      omega
    have hpos : 0 < (runOf (l.drop a)).length := by
      rw [hd]
      unfold runOf
      rw [List.takeWhile_cons, if_pos hA]
      exact Nat.succ_pos _
    refine ⟨?_, fun _ => ⟨show a < a + _ by omega, show a + _ ≤ l.length by omega⟩⟩
    show _ = tok (runK (runOf (l.drop a))) ln col :: (if (runK (runOf (l.drop a))).1 = "bad" then [] else go (l.drop (a + (runOf (l.drop a)).length)) [] (if (runK (runOf (l.drop a))).1 = "line" then ln + 1 else ln) (if (runK (runOf (l.drop a))).1 = "line" then 1 else col + (((a + (runOf (l.drop a)).length : Nat) : Int) - a)))
    rw [if_neg (runK_line _), if_neg (runK_line _), show col + (((a + (runOf (l.drop a)).length : Nat) : Int) - a) = col + ((runOf (l.drop a)).length : Int) by omega]
    have := go_word (r := l.drop (a + 1)) hA ln col
    rw [← hd] at this
    rw [this, List.drop_drop]
  · have hA : isA c = false := by simpa using hA
    rw [if_neg (by rw [hA]; decide), hd, go_other hA, if_neg h10, if_neg h32, if_neg hm]
    exact ⟨rfl, fun h => absurd rfl h⟩
section
variable {P : Program} {w : World} {K : PySem.W.Frag} {mg : Str → Option Value} {base : Heap} {C CT : Addr}
/-- what a text is taken for: cls and the exception's own part, or the tokens -/
def spTokens (K : PySem.W.Frag) (C CT : Addr) : Sp := fun vs H Q E => ∃ (x : V) (d : PyData), vs = [x] ∧ Dp K H x d ∧ (isT d "str" = false → E (.ref C) none H) ∧
  ∀ l : List Nat, x = .str (tx l) → l.length ≤ 100000 ∧ (20000 < l.length → ∀ a H', Same H H' → H' a = some (.xd [("what", .str "signs"), ("limit", .int 20000)]) → E (.ref CT) (some a) H') ∧
    (l.length ≤ 20000 → ∀ p H' us, Same H H' → SqT K H' p us → Ims K H' us (go l [] 1 1) → Q (.ref p) H')
theorem isT_str {K : PySem.W.Frag} {H : Hp} {x : V} {d : PyData} (h : Dp K H x d) (e : isT d "str" = true) : ∃ l : List Nat, x = .str (tx l) := by
  cases h with
  | str z => exact ⟨z.cps.toList, rfl⟩
  | _ => simp [isT, tyD] at e
theorem ok_tokens (S : Src K mg "tokens" s_tokens) (x_Nothing : ExcF K mg "Nothing" C) (x_TooLarge : ExcT P K mg "TooLarge" CT "what" "limit") (c_MOST_SIGNS : ∃ t, mg "MOST_SIGNS" = some (.int 20000 t)) (m_isinstance : mg "isinstance" = none) (m_str : mg "str" = none) (m_len : mg "len" = none) (m_tuple : mg "tuple" = none)
    (h_token_at : Has P w K mg base CX0 "token_at" 3 ["text", "begin"] (spTok K)) : Has P w K mg base (L2.CX P w) "tokens" 4 ["text"] (spTokens K C CT) := by
  refine S.hasX sc_tokens (fun _ _ _ _ _ _ us hl => match us, hl with | [_], _ => rfl) (fun vs H Q E ⟨x, d, e, _⟩ => e ▸ rfl) (fun f cdv A out s H vs Q E hr ⟨x, d, e, hd, hno, hyes⟩ => ?_)
  have hu64 := hr.units
  refine ⟨_, (pss_cons (ps_if (pt_not (pt_val (pe_callB (call_uisi (K := K)) rfl m_isinstance bb_isinstance (pa_cons (pv 0) (pa_cons (pe_cty bb_str m_str rfl) pa_nil)))))
      (pss_one (ps_raise rfl (takes_of rfl rfl rfl rfl) (pmk_own0 PySem.F.excBase_ValueError x_Nothing.ex x_Nothing.g x_Nothing.kp (raises_own x_Nothing.sub x_Nothing.ty) (by exact rfl))))
      pss_nil)
    (pss_cons (ps_if (pt_cmpR op_ugt (pe_callB (call_ulen (K := K)) rfl m_len bb_len (pa_cons (pv 0) pa_nil)) (pe_cint c_MOST_SIGNS rfl) (nomark _))
      (pss_one (ps_raise rfl (takes_of rfl rfl rfl rfl) (pmk_two (k := 0) x_TooLarge (hr.mono (by decide)) (pa_cons pe_str (pa_cons (pe_cint c_MOST_SIGNS rfl) pa_nil)) rfl)))
      pss_nil)
    (pss_cons (ps_set (i := 1) sc_tokens.nd rfl (by first | exact Or.inl rfl | exact Or.inr rfl) (pe_lst pa_nil))
    (pss_cons (ps_asg (pe_tup (pa_cons pe_int (pa_cons pe_int (pa_cons pe_int pa_nil)))) (pg_tup rfl (pgs_cons (pg_name (i := 2) sc_tokens.nd rfl (by first | exact Or.inl rfl | exact Or.inr rfl)) (pgs_cons (pg_name (i := 3) sc_tokens.nd rfl (by first | exact Or.inl rfl | exact Or.inr rfl)) (pgs_cons (pg_name (i := 4) sc_tokens.nd rfl (by first | exact Or.inl rfl | exact Or.inr rfl)) pgs_nil)))))
    (pss_cons (ps_while (passes_of rfl) (pt_cmpR op_ult (pv 2) (pe_callB (call_ulen (K := K)) rfl m_len bb_len (pa_cons (pv 0) pa_nil)) (nomark _))
      (pss_one (ps_if (pt_cmpR (op_ueq (K := K) hu64) (pe_ix (ix_u (K := K)) (pv 0) (pv 2) (fun _ _ => rfl)) pe_str (nomark _))
      (pss_one (ps_set (i := 2) sc_tokens.nd rfl (by first | exact Or.inl rfl | exact Or.inr rfl) (pe_op (op_uadd (K := K)) (pv 2) pe_int)))
      (pss_cons (ps_asg (pe_has h_token_at (hr.mono (by decide)) rfl pass0 (pa_cons (pv 0) (pa_cons (pv 2) pa_nil))) (pg_tup rfl (pgs_cons (pg_name (i := 5) sc_tokens.nd rfl (by first | exact Or.inl rfl | exact Or.inr rfl)) (pgs_cons (pg_name (i := 6) sc_tokens.nd rfl (by first | exact Or.inl rfl | exact Or.inr rfl)) (pgs_cons (pg_name (i := 7) sc_tokens.nd rfl (by first | exact Or.inl rfl | exact Or.inr rfl)) pgs_nil)))))
    (pss_cons (ps_expr (pe_bm PySem.F.plainAttrs_list PySem.F.slot_list_append PySem.F.type_list_append mt_append (pv 1) (pa_cons (pe_tup (pa_cons (pv 5) (pa_cons (pv 6) (pa_cons (pv 3) (pa_cons (pe_op (op_uadd (K := K)) (pe_op op_usub (pv 2) (pv 4)) pe_int) pa_nil))))) pa_nil)))
    (pss_cons (ps_if (pt_cmpR (op_ueq (K := K) hu64) (pv 5) pe_str (nomark _))
      (pss_one (ps_ret (pe_callTy (call_utup (K := K)) rfl m_tuple bb_tuple (pa_cons (pv 1) pa_nil))))
      pss_nil)
    (pss_cons (ps_set (i := 2) sc_tokens.nd rfl (by first | exact Or.inl rfl | exact Or.inr rfl) (pv 7))
    (pss_one (ps_if (pt_cmpR (op_ueq (K := K) hu64) (pv 5) pe_str (nomark _))
      (pss_one (ps_par (i := 3) (j := 4) (by rfl) sc_tokens.nd rfl rfl (by decide) rfl rfl (pa_cons (pe_op (op_uadd (K := K)) (pv 3) pe_int) (pa_cons (pv 7) pa_nil)) (by rfl)))
      pss_nil)))))))))
    (pss_cons (ps_expr (pe_bm PySem.F.plainAttrs_list PySem.F.slot_list_append PySem.F.type_list_append mt_append (pv 1) (pa_cons (pe_tup (pa_cons pe_str (pa_cons pe_str (pa_cons (pv 3) (pa_cons (pe_op (op_uadd (K := K)) (pe_op op_usub (pv 2) (pv 4)) pe_int) pa_nil))))) pa_nil)))
    (pss_one (ps_ret (pe_callTy (call_utup (K := K)) rfl m_tuple bb_tuple (pa_cons (pv 1) pa_nil)))))))))), ?_⟩
  subst e
  refine ⟨_, rfl, .dat hd (by simp) ⟨_, rfl, ifB (fun h => ?_) (fun h => ?_)⟩⟩
  · exact hno (notT h)
  obtain ⟨l, rfl⟩ := isT_str hd (notF h)
  obtain ⟨hz, hlong, hshort⟩ := hyes l rfl
  have lz : (tx l).length ≤ sizeLine := by rw [tx_len, sizeLine_eq]; omega
  refine ⟨_, rfl, .str lz ⟨_, _, rfl, rfl, _, rfl, ite2 (fun h => ?_) (fun h => ?_)⟩⟩
  · have h : 20000 < l.length := by rw [tx_len] at h; simp at h; omega
    exact ⟨_, _, rfl, fun a na => hlong h a _ (sameUpd na) upd_same⟩
  have h : l.length ≤ 20000 := by rw [tx_len] at h; simp at h; omega
  refine ⟨szl, fun D nD => ⟨szl, fun p np => ⟨p, _, rfl, .inl (.inl upd_same), rfl, _, _, rfl, _, _, rfl, _, _, rfl, rfl, ?_⟩⟩⟩
  have g0 : Grow K H D [] (upd (upd H D (.lst [])) p (.tup [V.int 0, V.int 1, V.int 0])) := (Grow.start nD).ext (sameUpd np)
  generalize upd (upd H D (.lst [])) p (.tup [V.int 0, V.int 1, V.int 0]) = H0 at g0 ⊢
  refine ⟨fun m σ H1 => ∃ (a : Nat) (ln fs : Int) (F : List PyData) (s5 s6 s7 : Option V), σ = [some (.str (tx l)), some (.ref D), some (.int a), some (.int ln), some (.int fs), s5, s6, s7] ∧ m = l.length - a ∧ a ≤ l.length ∧ F.length ≤ a ∧ Grow K H D F H1 ∧ F ++ go (l.drop a) [] ln (a - fs + 1) = go l [] 1 1,
    ⟨_, 0, 1, 0, [], none, none, none, rfl, rfl, Nat.zero_le _, Nat.zero_le _, g0, rfl⟩, ?_⟩
  rintro m σ H1 ⟨a, ln, fs, F, s5, s6, s7, rfl, rfl, ha, hF, g, hgo⟩
  refine ⟨_, rfl, _, rfl, .str lz ⟨_, _, rfl, rfl, _, rfl, ?_⟩⟩
  rw [tx_len]
  refine ite2 (fun h1 => ?_) (fun h1 => ?_)
  · have h1 : a < l.length := by simpa using h1
    have hd1 := List.drop_eq_getElem_cons h1
    have hat : atI (tx l).cps.toList (a : Int) = some l[a] := atI_nat (by simp [h1])
    refine ⟨fun σ H2 => ∃ (a' : Nat) (ln fs : Int) (F : List PyData) (s5 s6 s7 : Option V), a < a' ∧ σ = [some (.str (tx l)), some (.ref D), some (.int a'), some (.int ln), some (.int fs), s5, s6, s7] ∧ a' ≤ l.length ∧ F.length ≤ a' ∧ Grow K H D F H2 ∧ F ++ go (l.drop a') [] ln (a' - fs + 1) = go l [] 1 1, ?_, ?_⟩
    · rintro σ' H2 ⟨a', ln, fs, F, s5, s6, s7, lt, rfl, h2, h3, h4, h5⟩
      exact ⟨l.length - a', by omega, a', ln, fs, F, s5, s6, s7, rfl, rfl, h2, h3, h4, h5⟩
    obtain ⟨c, hc⟩ : ∃ c, l[a]? = some c := ⟨_, List.getElem?_eq_getElem h1⟩
    have ec : l[a] = c := Option.some.inj ((List.getElem?_eq_getElem h1).symm.trans hc)
    rw [ec] at hd1 hat
    refine ⟨_, rfl, _, rfl, .str lz hat (.str ⟨_, rfl, ?_⟩)⟩
    rw [show decide (({ cps := #[c] } : Str) = " ") = decide (c = 32) by rw [show (" " : Str) = tx [32] by decide +kernel, show ({ cps := #[c] } : Str) = tx [c] from rfl, decide_eq_decide, tx_eq]; simp]
    refine ite2 (fun h2 => ?_) (fun h2 => ?_)
    · obtain rfl : c = 32 := of_decide_eq_true h2
      refine ⟨_, rfl, .int ⟨a + 1, ln, fs, F, s5, s6, s7, by omega, rfl, by omega, by omega, g, ?_⟩⟩
      rw [← hgo, hd1, go_other (by decide)]
      show _ = F ++ go (l.drop (a + 1)) [] ln (a - fs + 1 + 1)
      congr 2; omega
    have h2 : c ≠ 32 := by simpa using h2
    refine ⟨_, rfl, _, rfl, l, a, c, rfl, hc, hz, fun p H2 v s2 hT hv => ⟨p, _, rfl, hT, rfl, _, _, rfl, _, _, rfl, _, _, rfl, rfl, ?_⟩⟩
    obtain ⟨t1, t2⟩ := go_tok hc h2 ln (a - fs + 1)
    rw [t1] at hgo
    generalize tokAt l a c = T at hT hv hgo t2 ⊢
    obtain ⟨k, x, e⟩ := T
    have g2 := g.ext s2
    obtain ⟨xs2, e2, _⟩ := g2.at_
    refine ⟨_, rfl, .inl ⟨rfl, _, SqL.of e2⟩, _, rfl, _, rfl, _, rfl, _, rfl, _, rfl, _, _, rfl, rfl, .int ⟨szl, fun p2 np2 => ?_⟩⟩
    have g3 := g2.ext (sameUpd (o := .tup [V.str k, v, .int ln, .int (a - fs + 1)]) np2)
    have im : Im K (upd H2 p2 (.tup [V.str k, v, .int ln, .int (a - fs + 1)])) (.ref p2) (tok (k, x) ln (a - fs + 1)) := Im.new np2 (.cons (.str _) (.cons hv (.cons (.int _) (.one (.int _)))))
    obtain ⟨acc, eA, zA, g4⟩ := g3.push im (by rw [sizeLine_eq]; omega)
    refine ⟨D, acc, .ref p2, rfl, rfl, eA, zA, _, rfl, .str ⟨_, rfl, ite2 (fun h3 => ?_) (fun h3 => ?_)⟩⟩
    · obtain rfl : k = "bad" := of_decide_eq_true h3
      refine ⟨_, rfl, .lst (SqL.of upd_same) (fun p3 np3 => ?_)⟩
      obtain ⟨ys, e4, r4⟩ := g4.at_
      obtain rfl := HO.lst.inj (Option.some.inj (upd_same.symm.trans e4))
      refine hshort h p3 _ _ (g4.same.trans (sameUpd np3)) (.inl (.inl upd_same)) (Ims.kt (Same.kt (sameUpd np3)) ?_)
      rw [← hgo]
      exact r4
    have h3 : k ≠ "bad" := by simpa using h3
    obtain ⟨t3, t4⟩ := t2 h3
    have t3 : a < e := t3
    have t4 : e ≤ l.length := t4
    rw [if_neg (show ¬ (k, x, e).1 = "bad" from h3)] at hgo
    refine ⟨_, rfl, _, rfl, .str ⟨_, rfl, ite2 (fun h4 => ?_) (fun h4 => ?_)⟩⟩
    · obtain rfl : k = "line" := of_decide_eq_true h4
      refine ⟨_, rfl, .int ⟨_, rfl, _, _, rfl, e, ln + 1, e, _, _, _, _, t3, rfl, t4, ?_, g4, ?_⟩⟩
      · rw [List.length_append]; simp; omega
      · rw [← hgo, List.append_assoc]
        show F ++ (_ :: go (l.drop e) [] (ln + 1) ((e : Int) - e + 1)) = F ++ (_ :: _)
        rw [show (e : Int) - e + 1 = 1 by omega]
        rfl
    · have h4 : k ≠ "line" := by simpa using h4
      refine ⟨e, ln, fs, _, _, _, _, t3, rfl, t4, ?_, g4, ?_⟩
      · rw [List.length_append]; simp; omega
      · rw [← hgo, List.append_assoc]
        rw [if_neg (show ¬ (k, x, e).1 = "line" from h4), if_neg (show ¬ (k, x, e).1 = "line" from h4)]
        show F ++ (_ :: go (l.drop e) [] ln ((e : Int) - fs + 1)) = F ++ (_ :: go (l.drop e) [] ln ((a : Int) - fs + 1 + ((e : Int) - a)))
        rw [show (a : Int) - fs + 1 + ((e : Int) - a) = (e : Int) - fs + 1 by omega]
  · have h1 : a = l.length := by
      have : l.length ≤ a := by simpa using h1
      omega
    obtain ⟨xs2, e2, _⟩ := g.at_
    refine ⟨_, rfl, .inl ⟨rfl, _, SqL.of e2⟩, _, rfl, _, rfl, _, rfl, _, _, rfl, rfl, .int ⟨szl, fun p2 np2 => ?_⟩⟩
    have g3 := g.ext (sameUpd (o := .tup [V.str "end", .str "", .int ln, .int (a - fs + 1)]) np2)
    have im : Im K (upd H1 p2 (.tup [V.str "end", .str "", .int ln, .int (a - fs + 1)])) (.ref p2) (tok ("end", .str "") ln (a - fs + 1)) := Im.new np2 (.cons (.str _) (.cons (.str _) (.cons (.int _) (.one (.int _)))))
    obtain ⟨acc, eA, zA, g4⟩ := g3.push im (by rw [sizeLine_eq]; omega)
    refine ⟨D, acc, .ref p2, rfl, rfl, eA, zA, _, rfl, .lst (SqL.of upd_same) (fun p3 np3 => ?_)⟩
    obtain ⟨ys, e4, r4⟩ := g4.at_
    obtain rfl := HO.lst.inj (Option.some.inj (upd_same.symm.trans e4))
    refine hshort h p3 _ _ (g4.same.trans (sameUpd np3)) (.inl (.inl upd_same)) (Ims.kt (Same.kt (sameUpd np3)) ?_)
    rw [← hgo, h1, List.drop_length]
    rw [h1] at r4
    exact r4
end
end K02
set_option maxRecDepth 100000
set_option maxHeartbeats 4000000
namespace K02
open PySem PySem.Spec PyProof.Rows
open L2 Hk
section
variable {P : Program} {w : World} {K : PySem.W.Frag} {mg : Str → Option Value} {base : Heap}
theorem ok_law_take (S : Src K mg "_law_take" s_law_take) (m_int : mg "int" = none) : Has P w K mg base CX0 "_law_take" 1 ["bag", "many"] spTakeC := by
  refine S.has sc_law_take (fun _ _ _ _ _ _ us hl => match us, hl with | [_, _], _ => rfl) (fun vs H Q E ⟨b, c, m, e, _⟩ => e ▸ rfl) (fun f cdv A out s H vs Q E hr ⟨b, c, m, e, m0, m1, bag, q⟩ => ?_)
  have hu64 := hr.units
  refine ⟨_, (C8.pss_cut (ps_if (pt_cmpR (op_ueq (K := K) hu64) (pe_ix (ix_u (K := K)) (pv 0) pe_int (fun _ _ => rfl)) pe_int (nomark _))
      (pss_cons (ps_set (i := 2) sc_law_take.nd rfl (by first | exact Or.inl rfl | exact Or.inr rfl) (pe_ix (ix_u (K := K)) (pe_op (op_uadd (K := K)) (pe_slice (sl_u (K := K)) (pe_ix (ix_u (K := K)) (pv 0) pe_int (fun _ _ => rfl)) (po_some (pe_ix (ix_u (K := K)) (pv 0) pe_int (fun _ _ => rfl))) po_none) (pe_lst (pa_cons pe_int pa_nil))) pe_int (fun _ _ => rfl)))
    (pss_cons (ps_augS (pv 0) pe_int (get_ulist (K := K)) pe_int ip_add set_list)
    (C8.pss_cut (ps_if (pt_cmpR op_uge (pv 2) (pe_op op_upow pe_int pe_int) (nomark _))
      (pss_one (ps_asg (pv 2) (pg_sub (pv 0) pe_int set_list)))
      pss_nil)
    (pss_cons (ps_set (i := 3) sc_law_take.nd rfl (by first | exact Or.inl rfl | exact Or.inr rfl) (pe_op (op_uadd (K := K)) (pe_op (op_uadd (K := K)) (pe_op op_umul (pe_ix (ix_u (K := K)) (pv 0) pe_int (fun _ _ => rfl)) pe_int) (pe_op op_umod (pe_callTy call_uint rfl m_int bb_int (pa_cons (pv 2) pa_nil)) pe_int)) (pe_op op_umul pe_int (pe_ix (ix_u (K := K)) (pv 0) pe_int (fun _ _ => rfl)))))
    (pss_one (ps_asg (pe_op op_umod (pe_callTy call_uint rfl m_int bb_int (pa_cons (pv 3) pa_nil)) pe_int) (pg_sub (pv 0) pe_int set_list)))))))
      pss_nil)
    (pss_cons (ps_if (pt_cmpR op_ugt (pe_ix (ix_u (K := K)) (pv 0) pe_int (fun _ _ => rfl)) pe_int (nomark _))
      (pss_cons (ps_set (i := 4) sc_law_take.nd rfl (by first | exact Or.inl rfl | exact Or.inr rfl) (pe_op op_umod (pe_callTy call_uint rfl m_int bb_int (pa_cons (pe_ix (ix_u (K := K)) (pv 0) pe_int (fun _ _ => rfl)) pa_nil)) (pv 1)))
    (pss_cons (ps_asg (pe_op op_ufdiv (pe_callTy call_uint rfl m_int bb_int (pa_cons (pe_ix (ix_u (K := K)) (pv 0) pe_int (fun _ _ => rfl)) pa_nil)) (pv 1)) (pg_sub (pv 0) pe_int set_list))
    (pss_one (ps_ret (pv 4)))))
      pss_nil)
    (pss_cons (ps_set (i := 5) sc_law_take.nd rfl (by first | exact Or.inl rfl | exact Or.inr rfl) (pe_op op_umod (pe_callTy call_uint rfl m_int bb_int (pa_cons (pe_op op_umul (pe_op (op_uadd (K := K)) (pe_ix (ix_u (K := K)) (pv 0) pe_int (fun _ _ => rfl)) pe_int) pe_int) pa_nil)) pe_int))
    (pss_cons (ps_set (i := 6) sc_law_take.nd rfl (by first | exact Or.inl rfl | exact Or.inr rfl) (pe_op op_umod (pe_callTy call_uint rfl m_int bb_int (pa_cons (pe_op op_umul (pe_op op_umod (pe_callTy call_uint rfl m_int bb_int (pa_cons (pe_op op_umul (pv 5) (pv 5)) pa_nil)) pe_int) pe_int) pa_nil)) pe_int))
    (pss_one (ps_ret (pe_op op_umod (pe_callTy call_uint rfl m_int bb_int (pa_cons (pe_op op_ufdiv (pv 6) pe_int) pa_nil)) (pv 1)))))))), ?_⟩
  subst e
  obtain ⟨x, y, z, ns, hb, hc, y0, y1, hn⟩ := bag
  have cb : c ≠ b := bag_ne hb hc
  -- bag[0] == 0
  refine ⟨fun σ H' => ∃ (s2 s3 : Option V) (x y z : Int), σ = [some (.ref b), some (.int m), s2, s3, none, none, none] ∧ Keep1 b H H' ∧ H' b = some (.lst [.int x, .int y, .int z, .ref c]) ∧ H' c = some (.lst (ns.map V.int)) ∧ 0 ≤ y ∧ y < 2147483647, ?_, ?_⟩
  · refine ⟨_, rfl, .lst (SqL.of hb) at4_0 (.int ⟨_, rfl, ite2 (fun h => ?_) (fun _ => ?_)⟩)⟩
    · -- cell = (bag[3][bag[2]:] + [0])[0]
      refine ⟨_, rfl, .lst (SqL.of hb) at4_3 ⟨_, rfl, .lst (SqL.of hb) at4_2 ⟨_, rfl, .lst (SqL.of hc) (fun p np => ?_)⟩⟩⟩
      obtain ⟨ms, em, lm⟩ := cut_ints ns (some z) none
      rw [em]
      have s1 : Same H (upd H p (.lst (ms.map V.int))) := sameUpd np
      refine ⟨Nat.le_of_lt (small1000 (by decide)), fun p2 np2 => .lst (sameUpd np2 _ _ upd_same) upd_same (Nat.le_of_lt (small1000 (by simp; omega))) (fun p3 np3 => ?_)⟩
      have s2 := s1.trans (sameUpd (o := .lst [V.int 0]) np2)
      have s3 := s2.trans (sameUpd (o := .lst (ms.map V.int ++ [V.int 0])) np3)
      obtain ⟨cell, e0⟩ : ∃ cell, (ms.map V.int ++ [V.int 0])[0]? = some (V.int cell) := by cases ms with
        | nil => exact ⟨0, rfl⟩
        | cons a r => exact ⟨a, rfl⟩
      refine .lst (.inl (.inl upd_same)) (atL (k := 0) e0) ?_
      generalize upd (upd (upd H p (.lst (ms.map V.int))) p2 (.lst [V.int 0])) p3 (.lst (ms.map V.int ++ [V.int 0])) = H3 at s3 ⊢
      have hb3 := s3 _ _ hb
      have hc3 := s3 _ _ hc
      -- bag[2] += 1
      refine ⟨_, rfl, b, _, 2, _, rfl, rfl, SqL.of hb3, rfl, _, _, rfl, rfl, b, _, 2, 2, rfl, rfl, hb3, rfl, ?_⟩
      have k4 : Keep1 b H (upd H3 b (.lst [.int x, .int y, .int (z + 1), .ref c])) := (Same.k1 s3).trans k1Upd
      have hc4 : (upd H3 b (.lst [.int x, .int y, .int (z + 1), .ref c])) c = some (.lst (ns.map V.int)) := by rw [upd_ne cb]; exact hc3
      -- if cell >= 10 ** 18
      refine ⟨fun σ H' => ∃ (x : Int), σ = [some (.ref b), some (.int m), some (.int cell), none, none, none, none] ∧ Keep1 b H H' ∧ H' b = some (.lst [.int x, .int y, .int (z + 1), .ref c]) ∧ H' c = some (.lst (ns.map V.int)), ?_, ?_⟩
      · refine ⟨_, rfl, _, _, rfl, rfl, ⟨by decide, by decide, by decide⟩, _, _, rfl, rfl, _, rfl, ite2 (fun _ => ?_) (fun _ => ?_)⟩
        · refine ⟨_, rfl, _, rfl, b, _, 0, 0, rfl, rfl, upd_same, rfl, cell, rfl, k4.trans k1Upd, upd_same, ?_⟩
          rw [upd_ne cb]; exact hc4
        · exact ⟨x, rfl, k4, upd_same, hc4⟩
      · rintro σ H5 ⟨x, rfl, k5, hb5, hc5⟩
        -- stirred
        refine ⟨_, rfl, .lst (SqL.of hb5) at4_1 ⟨_, _, rfl, rfl, .inl ⟨by omega, by omega⟩, _, rfl, .int ⟨_, _, rfl, rfl, by decide, .int ⟨_, rfl, .lst (SqL.of hb5) at4_2 ⟨_, _, rfl, rfl, .inl ⟨by decide, by decide⟩, .int ?_⟩⟩⟩⟩⟩
        refine ⟨_, rfl, .int ⟨_, _, rfl, rfl, by decide, _, rfl, b, _, 1, 1, rfl, rfl, hb5, rfl, ?_⟩⟩
        obtain ⟨f0, f1⟩ := fmod_lt (a := y * 48271 + cell.fmod 2147483647 + 7919 * (z + 1)) (b := 2147483647) (by decide)
        refine ⟨_, _, x, _, z + 1, rfl, k5.trans k1Upd, upd_same, ?_, f0, f1⟩
        rw [upd_ne cb]; exact hc5
    · exact ⟨none, none, x, y, z, rfl, Keep1.refl _ _, hb, hc, y0, y1⟩
  · rintro σ H1 ⟨t2, t3, x, y, z, rfl, k1, hb, hc, y0, y1⟩
    have m2 : m ≠ 0 := by omega
    -- if bag[0] > 0
    refine ⟨_, rfl, .lst (SqL.of hb) at4_0 ⟨_, _, rfl, rfl, _, rfl, ite2 (fun _ => ?_) (fun _ => ?_)⟩⟩
    · refine ⟨_, rfl, .lst (SqL.of hb) at4_0 (.int ⟨_, rfl, _, _, rfl, rfl, m2, ?_⟩)⟩
      refine ⟨_, rfl, .lst (SqL.of hb) at4_0 (.int ⟨_, rfl, _, _, rfl, rfl, ⟨m2, by omega⟩, _, rfl, b, _, 0, 0, rfl, rfl, hb, rfl, _, rfl, ?_⟩)⟩
      obtain ⟨f0, f1⟩ := fmod_lt (a := x) m0
      refine q _ _ f0 f1 (k1.trans k1Upd) ⟨_, y, z, ns, upd_same, ?_, y0, y1, hn⟩
      rw [upd_ne cb]; exact hc
    · -- begin, second
      refine ⟨_, rfl, .lst (SqL.of hb) at4_1 (.int ⟨_, _, rfl, rfl, .inl ⟨by omega, by omega⟩, .int ⟨_, _, rfl, rfl, by decide, ?_⟩⟩)⟩
      obtain ⟨g0, g1⟩ := fmod_lt (a := (y + 1) * 39373) (b := 1000000007) (by decide)
      generalize ((y + 1) * 39373).fmod 1000000007 = g at g0 g1 ⊢
      refine ⟨_, rfl, _, rfl, _, _, rfl, rfl, .inl ⟨by omega, by omega⟩, .int ⟨_, _, rfl, rfl, by decide, ?_⟩⟩
      obtain ⟨i0, i1⟩ := fmod_lt (a := g * g) (b := 998244353) (by decide)
      generalize (g * g).fmod 998244353 = i at i0 i1 ⊢
      refine ⟨_, _, rfl, rfl, .inl ⟨by omega, by omega⟩, .int ⟨_, _, rfl, rfl, by decide, ?_⟩⟩
      refine ⟨_, rfl, _, _, rfl, rfl, ⟨by decide, by decide⟩, .int ⟨_, rfl, _, _, rfl, rfl, m2, ?_⟩⟩
      generalize ((i * 30011).fmod 998244353).fdiv 7 = j
      obtain ⟨f0, f1⟩ := fmod_lt (a := j) m0
      exact q _ _ f0 f1 k1 ⟨x, y, z, ns, hb, hc, y0, y1, hn⟩
end
end K02
set_option maxRecDepth 100000
set_option maxHeartbeats 4000000
namespace K02
open PySem PySem.Spec PyProof.Rows
open L2 Hk
section
variable {P : Program} {w : World} {K : PySem.W.Frag} {mg : Str → Option Value} {base : Heap}
theorem ok_law_bag (S : Src K mg "_law_bag" s_law_bag) (m_abs : mg "abs" = none) : Has P w K mg base CX0 "_law_bag" 1 ["script"] (spBagC K) := by
  refine S.has sc_law_bag (fun _ _ _ _ _ _ us hl => match us, hl with | [_], _ => rfl) (fun vs H Q E ⟨a, ns, e, _⟩ => e ▸ rfl) (fun f cdv A out s H vs Q E hr ⟨a, ns, e, hS, q⟩ => ⟨_, (pss_one (ps_ret (pe_lst (pa_cons pe_int (pa_cons pe_int (pa_cons pe_int (pa_cons (pe_lc (own := [("cell", 1)]) (by rfl) sc_law_bag.nd (pi_ulist (K := K) rfl (pe_slice (sl_u (K := K)) (pv 0) po_none (po_some pe_int))) (blkOk_by (N := ["script", "cell"]) (own := [("cell", 1)]) (sc := defScope s_law_bag) (by decide +kernel)) (fun _ _ _ _ _ => (pg_name (i := 1) sc_law_bag.nd rfl (by first | exact Or.inl rfl | exact Or.inr rfl))) (fun _ _ _ _ _ => pts_nil) (fun _ _ _ _ _ => (pe_callB call_uabs rfl m_abs bb_abs (pa_cons (pv 1) pa_nil)))) pa_nil))))))), ?_⟩)
  subst e
  obtain ⟨ms, em, lm⟩ := cut_ints ns none (some 63)
  have l63 : ms.length ≤ 63 := by
    have e1 : (cutV (ns.map V.int) none (some 63)).length ≤ 63 := by
      unfold cutV
      rw [List.length_take, show HT.sIx (ns.map V.int).length (ns.map V.int).length (some 63) = min 63 (ns.map V.int).length from HT.sIx_nat _ _ 63]
      omega
    rw [em, List.length_map] at e1
    exact e1
  refine ⟨.ref a, rfl, 63, rfl, .lst hS (fun p np => ⟨p, rfl, ⟨_, SqL.of upd_same⟩, fun D nD => ?_⟩)⟩
  rw [em] at nD ⊢
  refine walk_list (xs := ms.map V.int) (Pv := fun i H1 => Same (upd H p (.lst (ms.map V.int))) H1 ∧ ∃ ks : List Int, ks.length = min i ms.length ∧ H1 D = some (.lst (ks.map V.int))) ⟨sameUpd nD, [], by simp, upd_same⟩ (fun i H1 _ z => SqL.of (z.1 _ _ upd_same)) (fun i x H1 hx z => ?_) (fun H1 z => ?_)
  · obtain ⟨s1, ks, lk, e1⟩ := z
    rw [List.getElem?_map] at hx
    have li : i < ms.length := by
      cases e : ms[i]? with
      | none => rw [e] at hx; cases hx
      | some n => exact (List.getElem?_eq_some_iff.mp e).1
    obtain ⟨n, rfl⟩ : ∃ n : Int, x = .int n := by
      cases e : ms[i]? with
      | none => rw [e] at hx; cases hx
      | some n => rw [e] at hx; exact ⟨n, (Option.some.inj hx).symm⟩
    refine ⟨rfl, _, rfl, .int ⟨ks.map V.int, e1, small1000 (by rw [List.length_map, lk]; omega), fun b o hb => ?_, ks ++ [if n < 0 then -n else n], by rw [List.length_append, lk, List.length_singleton]; omega, by rw [upd_same, List.map_append]; rfl⟩⟩
    rw [upd_ne (ne_of_none hb nD)]
    exact s1 _ _ hb
  · obtain ⟨s1, ks, lk, e1⟩ := z
    have s2 : Same H H1 := (sameUpd np).trans s1
    refine ⟨szl, fun b nb => q b D _ (s2.trans (sameUpd nb)) (s2.free nb) ⟨0, 1234567891, 0, ks, upd_same, ?_, by decide, by decide, by rw [lk]; simp; omega⟩⟩
    exact sameUpd nb _ _ e1
theorem ok_law_alike (S : Src K mg "_law_alike" s_law_alike) (m_repr : mg "repr" = none) : HasG P w K mg base CX0 "_law_alike" 1 ["found", "due"] (spAlike K) := by
  refine S.hasG sc_law_alike (fun _ _ _ _ _ _ us hl => match us, hl with | [_, _], _ => rfl) (fun vs H Q E ⟨x, y, d, e, _⟩ => e ▸ rfl) (fun f cdv A out s H vs Q E gd hr ⟨x, y, d, e, hx, hy, ok, q⟩ => ?_)
  have hu64 := hr.units
  have hu66 : (A.deeper (envOfC "_law_alike" (defScope s_law_alike) s.heap.objs.size f cdv)).units + 66 < cLine := by have := hr.un; omega
  refine ⟨_, (pss_one (ps_ret (pe_and (pe_cmpR (op_ueq (K := K) hu64) (pe_callB (call_reprD gd hu66) rfl m_repr bb_repr (pa_cons (pv 0) pa_nil)) (pe_callB (call_reprD gd hu66) rfl m_repr bb_repr (pa_cons (pv 1) pa_nil)) (nomark _)) (pe_one (pe_cmpR (op_ueq (K := K) hu64) (pv 0) (pv 1) (nomark _)))))), ?_⟩
  subst e
  refine ⟨_, rfl, x, d, rfl, hx, ok, _, rfl, y, d, rfl, hy, ok, .str ⟨_, rfl, iteD rfl ?_⟩⟩
  refine ⟨_, rfl, _, rfl, .dat hx hy (okd.shaped ok) (okd.shaped ok) ?_⟩
  rw [okd.refl ok]; exact q
end
end K02
set_option maxRecDepth 100000
set_option maxHeartbeats 4000000
namespace K02
open PySem PySem.Spec PyProof.Rows
open L2 Hk
section
variable {P : Program} {w : World} {K : PySem.W.Frag} {mg : Str → Option Value} {base : Heap}
theorem ok_law_some (S : Src K mg "_law_some" s_law_some) (m_len : mg "len" = none) (h_law_take : Has P w K mg base CX0 "_law_take" 1 ["bag", "many"] spTakeC) : Has P w K mg base CX0 "_law_some" 2 ["bag", "things"] (spSomeC K) := by
  refine S.has sc_law_some (fun _ _ _ _ _ _ us hl => match us, hl with | [_, _], _ => rfl) (fun vs H Q E ⟨b, c, t, xs, e, _⟩ => e ▸ rfl) (fun f cdv A out s H vs Q E hr ⟨b, c, t, xs, e, bag, ne, hS, h0, hz, q⟩ => ?_)
  have hu64 := hr.units
  refine ⟨_, (pss_one (ps_ret (pe_ix (ix_u (K := K)) (pv 1) (pe_has h_law_take (hr.mono (by decide)) rfl pass0 (pa_cons (pv 0) (pa_cons (pe_callB (call_ulen (K := K)) rfl m_len bb_len (pa_cons (pv 1) pa_nil)) pa_nil))) (fun _ _ => rfl)))), ?_⟩
  subst e
  have pos : 0 < xs.length := List.length_pos_iff.mpr h0
  have at_ : ∀ d : Int, 0 ≤ d → d < xs.length → ∃ (i : Nat) (x : V), xs[i]? = some x ∧ atI xs d = some x := by
    intro d d0 d1
    obtain ⟨i, rfl⟩ := Int.eq_ofNat_of_zero_le d0
    have lt : i < xs.length := by omega
    exact ⟨i, xs[i], List.getElem?_eq_getElem lt, atL (List.getElem?_eq_getElem lt)⟩
  rcases hS with hS | hS
  · refine ⟨_, rfl, _, rfl, _, rfl, .lst hS ⟨b, c, xs.length, rfl, by omega, by omega, bag, fun d H' d0 d1 k1 bag1 => ?_⟩⟩
    obtain ⟨i, x, hx, ha⟩ := at_ d d0 d1
    exact .lst (SqL.k1 hS ne k1) ha (q i x H' hx k1 bag1)
  · refine ⟨_, rfl, _, rfl, _, rfl, .tup hS ⟨b, c, xs.length, rfl, by omega, by omega, bag, fun d H' d0 d1 k1 bag1 => ?_⟩⟩
    obtain ⟨i, x, hx, ha⟩ := at_ d d0 d1
    exact .tup (SqT.k1 hS ne k1) ha (q i x H' hx k1 bag1)
theorem all_filter (f : Nat → Bool) (l : List Nat) : (((l.filter fun c => !f c).map fun c => tx [c])).isEmpty = l.all f := by
  induction l with
  | nil => rfl
  | cons a l ih =>
    rw [List.filter_cons, List.all_cons]
    cases h : f a
    · simp
    · simpa using ih
theorem isA_small {c : Nat} (h : isA c = true) : c < 128 := by
  simp [isA, isL, isD] at h; omega
theorem ok_sign {c : Nat} (h : c < 128) : PyData.strOk (tx [c]) = true := by
  simp [PyData.strOk, tx]; omega
theorem sg_a (c : Nat) : (!decide ((⟨#[c]⟩ : Str).cps.toList < ("a" : Str).cps.toList)) = decide (97 ≤ c) := ge_sign 97 c
theorem sg_z (c : Nat) : (!decide (("z" : Str).cps.toList < (⟨#[c]⟩ : Str).cps.toList)) = decide (c ≤ 122) := le_sign 122 c
theorem sg_0 (c : Nat) : (!decide ((⟨#[c]⟩ : Str).cps.toList < ("0" : Str).cps.toList)) = decide (48 ≤ c) := ge_sign 48 c
theorem sg_9 (c : Nat) : (!decide (("9" : Str).cps.toList < (⟨#[c]⟩ : Str).cps.toList)) = decide (c ≤ 57) := le_sign 57 c
theorem words_split : Txt.split (("ahead all allset and behind colour contract else end follow hue if in kept next not nothing or p paint program put q " : Str) ++ ("question reach run s same some someset t there turn u v w while world x y yes z" : Str)) (" " : Str) = RES := by decide +kernel
def spWords : Sp := fun vs H Q _ => vs = [] ∧ ∀ p, H p = none → Q (.ref p) (upd H p (.lst (RES.map V.str)))
theorem ok_law_words (S : Src K mg "_law_words" s_law_words) : Has P w K mg base CX0 "_law_words" 1 [] spWords := by
  refine S.has sc_law_words (fun _ _ _ _ _ _ us hl => match us, hl with | [], _ => rfl) (fun vs H Q E ⟨e, _⟩ => e ▸ rfl) (fun f cdv A out s H vs Q E hr ⟨e, q⟩ => ?_)
  have hu64 := hr.units
  refine ⟨_, (pss_cons (ps_set (i := 0) sc_law_words.nd rfl (by first | exact Or.inl rfl | exact Or.inr rfl) pe_str)
    (pss_one (ps_ret (pe_bm PySem.F.plainAttrs_str PySem.F.slot_str_split PySem.F.type_str_split mt_split (pe_op (op_uadd (K := K)) (pv 0) pe_str) (pa_cons pe_str pa_nil))))), ?_⟩
  subst e
  refine ⟨_, rfl, .str (by rw [sizeLine_eq]; decide +kernel) ⟨rfl, _, _, rfl, rfl, by decide +kernel, by rw [sizeLine_eq]; decide +kernel, fun p np => ?_⟩⟩
  rw [words_split]
  exact q p np
/-- the law's own run -/
def spLawRun (K : PySem.W.Frag) : Sp := fun vs H Q _ => ∃ r : List Nat, vs = [.str (tx r)] ∧ r ≠ [] ∧ r.length ≤ 100000 ∧ r.all isA = true ∧ ∀ p H' v, Same H H' → SqT K H' p [.str (runK r).1, v] → Im K H' v (runK r).2 → Q (.ref p) H'
theorem ok_law_run (S : Src K mg "_law_run" s_law_run) (m_len : mg "len" = none) (m_int : mg "int" = none) (h_law_words : Has P w K mg base CX0 "_law_words" 1 [] spWords) : Has P w K mg base CX0 "_law_run" 2 ["run"] (spLawRun K) := by
  refine S.has sc_law_run (fun _ _ _ _ _ _ us hl => match us, hl with | [_], _ => rfl) (fun vs H Q E ⟨r, e, _⟩ => e ▸ rfl) (fun f cdv A out s H vs Q E hr ⟨r, e, h0, hz, ha, q⟩ => ?_)
  have hu64 := hr.units
  refine ⟨_, (pss_cons (ps_if (pt_cmpR (op_uin (K := K)) (pv 0) (pe_has0 h_law_words (hr.mono (by decide)) rfl pass0) (by with_unfolding_all rfl))
      (pss_one (ps_ret (pe_tup (pa_cons pe_str (pa_cons (pv 0) pa_nil)))))
      pss_nil)
    (pss_cons (ps_if (PW.pt (pw_and (pt_chain op_le_str op_le_str pe_str (pe_ix (ix_u (K := K)) (pv 0) pe_int (fun _ _ => rfl)) pe_str) (pw_and1 (pt_cmpR op_ule (pe_callB (call_ulen (K := K)) rfl m_len bb_len (pa_cons (pv 0) pa_nil)) pe_int (nomark _)))))
      (pss_one (ps_ret (pe_tup (pa_cons pe_str (pa_cons (pv 0) pa_nil)))))
      pss_nil)
    (pss_cons (ps_if (PW.pt (pw_and (pt_cmpR (op_ueq (K := K) hu64) (pe_lc (own := [("sign", 1)]) (by rfl) sc_law_run.nd (pi_str (pv 0)) (blkOk_by (N := ["run", "sign"]) (own := [("sign", 1)]) (sc := defScope s_law_run) (by decide +kernel)) (fun _ _ _ _ _ => (pg_name (i := 1) sc_law_run.nd rfl (by first | exact Or.inl rfl | exact Or.inr rfl))) (fun _ _ _ _ _ => pts_one (pt_not (pt_chain op_le_str op_le_str pe_str (pv 1) pe_str))) (fun _ _ _ _ _ => (pv 1))) (pe_lst pa_nil) (nomark _)) (pw_and (pt_cmpR op_ule (pe_callB (call_ulen (K := K)) rfl m_len bb_len (pa_cons (pv 0) pa_nil)) pe_int (nomark _)) (pw_and1 (PW.pt (pw_or (pt_cmpR (op_ueq (K := K) hu64) (pv 0) pe_str (nomark _)) (pw_or1 (pt_cmpR (op_une (K := K) hu64) (pe_ix (ix_u (K := K)) (pv 0) pe_int (fun _ _ => rfl)) pe_str (nomark _)))))))))
      (pss_one (ps_ret (pe_tup (pa_cons pe_str (pa_cons (pe_callTy call_uint rfl m_int bb_int (pa_cons (pv 0) pa_nil)) pa_nil)))))
      pss_nil)
    (pss_one (ps_ret (pe_tup (pa_cons pe_str (pa_cons pe_str pa_nil)))))))), ?_⟩
  subst e
  have lz : (tx r).length ≤ sizeLine := by rw [tx_len, sizeLine_eq]; omega
  obtain ⟨c, r', rfl⟩ := List.exists_cons_of_ne_nil h0
  refine ⟨_, rfl, rfl, fun p np => ⟨p, _, rfl, .inl (SqL.of upd_same), rfl, flat_strs _, ?_⟩⟩
  rw [inV_strs]
  refine ⟨_, rfl, ite2 (fun h => ?_) (fun h => ?_)⟩
  · have h := of_decide_eq_true h
    rw [runK_res h] at q
    exact ⟨_, rfl, szl, fun p2 np2 => q p2 _ _ ((sameUpd np).trans (sameUpd np2)) (.inl (.inl upd_same)) (.str _)⟩
  have h : tx (c :: r') ∉ RES := by simpa using h
  have s1 : Same H (upd H p (.lst (RES.map V.str))) := sameUpd np
  generalize upd H p (.lst (RES.map V.str)) = H1 at s1 ⊢
  have hat : atI (tx (c :: r')).cps.toList 0 = some c := atI_nat (j := 0) (v := c) rfl
  have e1 : decide (((c :: r').length : Int) ≤ 8) = decide ((c :: r').length ≤ 8) := by rw [decide_eq_decide]; omega
  have nm : ∀ {b1 b2 b3 : Bool}, decide (97 ≤ c) = b1 → decide (c ≤ 122) = b2 → decide ((c :: r').length ≤ 8) = b3 → nameOk (c :: r') = ((b1 && b2) && b3) := by rintro _ _ _ rfl rfl rfl; rfl
  apply share (A := nameOk (c :: r') = false)
  · intro rest
    refine ⟨_, rfl, .str lz hat ⟨_, _, rfl, rfl, _, rfl, ?_⟩⟩
    rw [sg_a]
    refine ifB (fun h1 => ?_) (fun h1 => ?_)
    · refine ⟨_, _, rfl, rfl, _, rfl, ?_⟩
      rw [sg_z]
      refine ifB (fun h2 => ?_) (fun h2 => ?_)
      · refine ⟨_, rfl, .str lz ⟨_, _, rfl, rfl, _, rfl, ?_⟩⟩
        rw [tx_len, e1]
        refine ifB (fun h3 => ?_) (fun h3 => ?_)
        · rw [runK_name h (nm h1 h2 h3)] at q
          exact ⟨_, rfl, szl, fun p2 np2 => q p2 _ _ (s1.trans (sameUpd np2)) (.inl (.inl upd_same)) (.str _)⟩
        · exact rest (by rw [nm h1 h2 h3]; rfl)
      · exact rest (by rw [nm h1 h2 rfl]; rfl)
    · exact ⟨_, rfl, rest (by rw [nm h1 rfl rfl]; rfl)⟩
  intro hno
  have fg : ∀ {b1 b2 b3 b4 : Bool}, (c :: r').all isD = b1 → decide ((c :: r').length ≤ 4) = b2 → decide (c :: r' = [48]) = b3 → decide (c = 48) = b4 → figOk (c :: r') = (b1 && (b2 && (b3 || !b4))) := by rintro _ _ _ _ rfl rfl rfl rfl; rfl
  have e4 : decide (((c :: r').length : Int) ≤ 4) = decide ((c :: r').length ≤ 4) := by rw [decide_eq_decide]; omega
  refine ⟨_, rfl, _, rfl, fun D nD => ?_⟩
  refine walk_filter (fun c => !isD c) nD (Nat.le_trans hz (by decide)) (fun c H2 Nx h1 h2 => ?_) (fun H2 s2 e2 => ⟨szl, fun p3 np3 => ?_⟩)
  · refine ⟨rfl, _, rfl, _, _, rfl, rfl, _, rfl, ?_⟩
    rw [sg_0]
    refine ifB (fun g1 => ?_) (fun g1 => ?_)
    · refine ⟨_, _, rfl, rfl, _, rfl, ?_⟩
      rw [sg_9]
      refine ifB (fun g2 => ⟨_, rfl, h1 (by unfold isD; rw [g1]; exact g2)⟩) (fun g2 => h2 (by unfold isD; rw [g1]; exact g2))
    · exact ⟨_, rfl, _, rfl, h1 (by unfold isD; rw [g1]; rfl)⟩
  have ok : ∀ a ∈ ((c :: r').filter fun c => !isD c).map fun c => tx [c], PyData.strOk a = true := by
    intro a hm
    obtain ⟨x, hx, rfl⟩ := List.mem_map.mp hm
    exact ok_sign (isA_small (List.all_eq_true.mp ha x (List.mem_filter.mp hx).1))
  refine .dat (dp_strs (SqL.of (sameUpd np3 _ _ e2))) (.lst (SqL.of upd_same) .nil) (shaped_strs _ ok) (by decide) ⟨_, rfl, ?_⟩
  have s3 := (s1.trans s2).trans (sameUpd (o := .lst []) np3)
  generalize upd H2 p3 (.lst []) = H3 at s3 ⊢
  rw [eqv_nil, all_filter]
  apply share (A := figOk (c :: r') = false)
  · intro rest
    refine ifB (fun h1 => ?_) (fun h1 => ?_)
    · refine ⟨_, rfl, .str lz ⟨_, _, rfl, rfl, _, rfl, ?_⟩⟩
      rw [tx_len, e4]
      refine ifB (fun h2 => ?_) (fun h2 => ?_)
      · refine ⟨_, rfl, .str ⟨_, rfl, ?_⟩⟩
        rw [zero_tx]
        refine ifB (fun h3 => ?_) (fun h3 => ?_)
        · obtain ⟨hi, hl⟩ := fig_int h0 (by rw [fg h1 h2 h3 rfl]; rfl)
          rw [runK_fig h hno (by rw [fg h1 h2 h3 rfl]; rfl)] at q
          exact iteT ⟨_, rfl, .str hi hl ⟨szl, fun p2 np2 => q p2 _ _ (s3.trans (sameUpd np2)) (.inl (.inl upd_same)) (.int _)⟩⟩
        · refine ⟨_, rfl, .str lz hat (.str ⟨_, rfl, ?_⟩)⟩
          rw [show decide (({ cps := #[c] } : Str) = "0") = decide (c = 48) by rw [show ({ cps := #[c] } : Str) = tx [c] from rfl, zero_tx]; simp]
          refine ifB (fun h4 => ?_) (fun h4 => ?_)
          · have ok4 : figOk (c :: r') = true := by rw [fg h1 h2 h3 rfl]; simpa using h4
            obtain ⟨hi, hl⟩ := fig_int h0 ok4
            rw [runK_fig h hno ok4] at q
            exact ⟨_, rfl, .str hi hl ⟨szl, fun p2 np2 => q p2 _ _ (s3.trans (sameUpd np2)) (.inl (.inl upd_same)) (.int _)⟩⟩
          · exact rest (by rw [fg h1 h2 h3 rfl]; simpa using h4)
      · exact rest (by rw [fg h1 h2 rfl rfl]; rfl)
    · exact rest (by rw [fg h1 rfl rfl rfl]; rfl)
  intro hnf
  rw [runK_bad h hno hnf] at q
  exact ⟨szl, fun p2 np2 => q p2 _ _ (s3.trans (sameUpd np2)) (.inl (.inl upd_same)) (.str _)⟩
end
end K02
set_option maxRecDepth 100000
set_option maxHeartbeats 4000000
namespace K02
open PySem PySem.Spec PyProof.Rows
open L2 Hk
theorem empty_tx (r : List Nat) : decide (tx r = "") = decide (r = []) := by
  rw [show ("" : Str) = tx [] by decide +kernel, decide_eq_decide]
  exact tx_eq
theorem sign_tx (a c : Nat) : decide (({ cps := #[c] } : Str) = tx [a]) = decide (c = a) := by
  rw [show ({ cps := #[c] } : Str) = tx [c] from rfl, decide_eq_decide, tx_eq]; simp
/-- what comes behind a run that ends at c -/
def stepD (c : Nat) (r : List Nat) (ln col : Int) : List PyData :=
  if c = 10 then tok ("line", .str "") ln col :: go r [] (ln + 1) 1 else if c = 32 then go r [] ln (col + 1) else if c = 40 ∨ c = 41 then tok ("mark", .str (tx [c])) ln col :: go r [] ln (col + 1) else [tok ("bad", .str "") ln col]
theorem go_step {c : Nat} {r run : List Nat} {ln col : Int} (h : isA c = false) : go (c :: r) run ln col = flush run ln col (stepD c r ln col) := by
  rw [go, if_neg (by rw [h]; decide)]; rfl
theorem Ims.last {K : PySem.W.Frag} {H : Hp} {d : PyData} : ∀ {ds : List PyData} {vs : List V}, Ims K H vs (ds ++ [d]) → ∃ ws y, vs = ws ++ [y] ∧ Ims K H ws ds ∧ Im K H y d
  | [], _, .cons h .nil => ⟨[], _, rfl, .nil, h⟩
  | e :: ds, _, .cons h r => by
    obtain ⟨ws, y, rfl, r1, r2⟩ := Ims.last (ds := ds) r
    exact ⟨_ :: ws, y, rfl, .cons h r1, r2⟩
theorem tok_at {K : PySem.W.Frag} {H : Hp} {y : V} {k : Str} {z : Str} {ln col : Int} (h : Im K H y (tok (k, .str z) ln col)) : ∃ a, y = .ref a ∧ SqT K H a [.str k, .str z, .int ln, .int col] := by
  cases h with
  | tup hT r =>
    cases r with
    | cons h1 r => cases h1; cases r with
      | cons h2 r => cases h2; cases r with
        | cons h3 r => cases h3; cases r with
          | cons h4 r => cases h4; cases r; exact ⟨_, rfl, hT⟩
theorem cut_two (a b c d : V) : cutV [a, b, c, d] (some 2) none = [c, d] := rfl
theorem cut_last (acc : List V) (y : V) : cutV (acc ++ [y]) none (some (-1)) = acc := by
  unfold cutV
  have e : HT.sIx (acc ++ [y]).length (acc ++ [y]).length (some (-1)) = acc.length := by
    unfold HT.sIx
    simp; omega
  rw [e, HT.sIx_none]
  simp
section
variable {P : Program} {w : World} {K : PySem.W.Frag} {mg : Str → Option Value} {base : Heap}
def spLawToks (K : PySem.W.Frag) : Sp := fun vs H Q _ => ∃ l : List Nat, vs = [.str (tx l)] ∧ l.length ≤ 50000 ∧ ∀ p H' us, Same H H' → H' p = some (.lst us) → Ims K H' us (go l [] 1 1) → Q (.ref p) H'
theorem ok_law_tokens (S : Src K mg "_law_tokens" s_law_tokens) (m_len : mg "len" = none) (h_law_run : Has P w K mg base CX0 "_law_run" 2 ["run"] (spLawRun K)) : Has P w K mg base CX0 "_law_tokens" 3 ["text"] (spLawToks K) := by
  refine S.has sc_law_tokens (fun _ _ _ _ _ _ us hl => match us, hl with | [_], _ => rfl) (fun vs H Q E ⟨l, e, _⟩ => e ▸ rfl) (fun f cdv A out s H vs Q E hr ⟨l, e, hz, q⟩ => ?_)
  have hu64 := hr.units
  refine ⟨_, (pss_cons (ps_asg (pe_tup (pa_cons (pe_lst pa_nil) (pa_cons pe_int (pa_cons pe_int (pa_cons pe_str pa_nil))))) (pg_tup rfl (pgs_cons (pg_name (i := 1) sc_law_tokens.nd rfl (by first | exact Or.inl rfl | exact Or.inr rfl)) (pgs_cons (pg_name (i := 2) sc_law_tokens.nd rfl (by first | exact Or.inl rfl | exact Or.inr rfl)) (pgs_cons (pg_name (i := 3) sc_law_tokens.nd rfl (by first | exact Or.inl rfl | exact Or.inr rfl)) (pgs_cons (pg_name (i := 4) sc_law_tokens.nd rfl (by first | exact Or.inl rfl | exact Or.inr rfl)) pgs_nil))))))
    (pss_cons (ps_for PassesOwn.never rfl (pi_str (pe_op (op_uadd (K := K)) (pv 0) pe_str)) (pg_name (i := 5) sc_law_tokens.nd rfl (by first | exact Or.inl rfl | exact Or.inr rfl))
      (pss_cons (ps_if (PW.pt (pw_or (pt_chain op_le_str op_le_str pe_str (pv 5) pe_str) (pw_or1 (pt_chain op_le_str op_le_str pe_str (pv 5) pe_str))))
      (pss_cons (ps_set (i := 4) sc_law_tokens.nd rfl (by first | exact Or.inl rfl | exact Or.inr rfl) (pe_op (op_uadd (K := K)) (pv 4) (pv 5)))
    (pss_cons (ps_aug (i := 3) sc_law_tokens.nd rfl (by first | exact Or.inl rfl | exact Or.inr rfl) pe_int ip_add)
    (pss_one ps_continue)))
      pss_nil)
    (C8.pss_cut (ps_if (pt_cmpR (op_une (K := K) hu64) (pv 4) pe_str (nomark _))
      (pss_cons (ps_expr (pe_bm PySem.F.plainAttrs_list PySem.F.slot_list_append PySem.F.type_list_append mt_append (pv 1) (pa_cons (pe_op (op_uadd (K := K)) (pe_has h_law_run (hr.mono (by decide)) rfl pass0 (pa_cons (pv 4) pa_nil)) (pe_tup (pa_cons (pv 2) (pa_cons (pe_op op_usub (pv 3) (pe_callB (call_ulen (K := K)) rfl m_len bb_len (pa_cons (pv 4) pa_nil))) pa_nil)))) pa_nil)))
    (pss_cons (ps_set (i := 4) sc_law_tokens.nd rfl (by first | exact Or.inl rfl | exact Or.inr rfl) pe_str)
    (pss_one (ps_if (pt_cmpR (op_ueq (K := K) hu64) (pe_ix (ix_u (K := K)) (pe_ix (ix_u (K := K)) (pv 1) (pe_un un_neg pe_int) (fun _ _ => rfl)) pe_int (fun _ _ => rfl)) pe_str (nomark _))
      (pss_one (ps_ret (pv 1)))
      pss_nil))))
      pss_nil)
    (pss_cons (ps_if (pt_cmpR (op_ueq (K := K) hu64) (pv 5) pe_str (nomark _))
      (pss_cons (ps_expr (pe_bm PySem.F.plainAttrs_list PySem.F.slot_list_append PySem.F.type_list_append mt_append (pv 1) (pa_cons (pe_tup (pa_cons pe_str (pa_cons pe_str (pa_cons (pv 2) (pa_cons (pv 3) pa_nil))))) pa_nil)))
    (pss_cons (ps_par (i := 2) (j := 3) (by rfl) sc_law_tokens.nd rfl rfl (by decide) rfl rfl (pa_cons (pe_op (op_uadd (K := K)) (pv 2) pe_int) (pa_cons pe_int pa_nil)) (by rfl))
    (pss_one ps_continue)))
      pss_nil)
    (C8.pss_cut (ps_if (pt_cmpR (op_une (K := K) hu64) (pv 5) pe_str (nomark _))
      (pss_cons (ps_expr (pe_bm PySem.F.plainAttrs_list PySem.F.slot_list_append PySem.F.type_list_append mt_append (pv 1) (pa_cons (pe_op (op_uadd (K := K)) (pe_ifExp (pt_cmpR op_in_sign (pv 5) pe_str (by with_unfolding_all rfl)) (pe_tup (pa_cons pe_str (pa_cons (pv 5) pa_nil))) (pe_tup (pa_cons pe_str (pa_cons pe_str pa_nil)))) (pe_tup (pa_cons (pv 2) (pa_cons (pv 3) pa_nil)))) pa_nil)))
    (pss_one (ps_if (pt_cmpR (op_ueq (K := K) hu64) (pe_ix (ix_u (K := K)) (pe_ix (ix_u (K := K)) (pv 1) (pe_un un_neg pe_int) (fun _ _ => rfl)) pe_int (fun _ _ => rfl)) pe_str (nomark _))
      (pss_one (ps_ret (pv 1)))
      pss_nil)))
      pss_nil)
    (pss_one (ps_aug (i := 3) sc_law_tokens.nd rfl (by first | exact Or.inl rfl | exact Or.inr rfl) pe_int ip_add)))))))
    (pss_one (ps_ret (pe_op (op_uadd (K := K)) (pe_slice (sl_u (K := K)) (pv 1) po_none (po_some (pe_un un_neg pe_int))) (pe_lst (pa_cons (pe_op (op_uadd (K := K)) (pe_tup (pa_cons pe_str (pa_cons pe_str pa_nil))) (pe_slice (sl_u (K := K)) (pe_ix (ix_u (K := K)) (pv 1) (pe_un un_neg pe_int) (fun _ _ => rfl)) (po_some pe_int) po_none)) pa_nil))))))), ?_⟩
  subst e
  refine ⟨szl, fun D nD => ⟨szl, fun p np => ⟨p, _, rfl, .inl (.inl upd_same), rfl, _, _, rfl, _, _, rfl, _, _, rfl, _, _, rfl, rfl, ?_⟩⟩⟩
  have g0 : Grow K H D [] (upd (upd H D (.lst [])) p (.tup [V.ref D, V.int 1, V.int 1, V.str ""])) := (Grow.start nD).ext (sameUpd np)
  generalize upd (upd H D (.lst [])) p (.tup [V.ref D, V.int 1, V.int 1, V.str ""]) = H0 at g0 ⊢
  refine ⟨_, rfl, .str (by rw [tx_len, sizeLine_eq]; show l.length + 1 ≤ _; omega) ⟨_, rfl, ?_⟩⟩
  rw [show tx l ++ ("\n" : Str) = tx (l ++ [10]) from tx_app l [10]]
  refine for_txt (Pv := fun i σ H1 => (i ≤ l.length ∧ ∃ (F : List PyData) (run : List Nat) (ln col : Int) (s5 : Option V), σ = [some (.str (tx l)), some (.ref D), some (.int ln), some (.int col), some (.str (tx run)), s5] ∧ run.all isA = true ∧ run.length ≤ i ∧ F.length ≤ 2 * i ∧ Grow K H D F H1 ∧ F ++ go (l.drop i) run ln col = go l [] 1 1) ∨
    (i = l.length + 1 ∧ ∃ (G : List PyData) (ln col : Int) (s2 s3 s4 s5 : Option V), σ = [some (.str (tx l)), some (.ref D), s2, s3, s4, s5] ∧ G.length ≤ 2 * i ∧ Grow K H D (G ++ [tok ("line", .str "") ln col]) H1 ∧ G ++ [tok ("end", .str "") ln col] = go l [] 1 1))
    (.inl ⟨Nat.zero_le _, [], [], 1, 1, none, rfl, rfl, Nat.zero_le _, Nat.zero_le _, g0, rfl⟩) (fun i c σ H1 hc pv => ?_) (fun σ H1 pv => ?_)
  · have li : i < (l ++ [10]).length := (List.getElem?_eq_some_iff.mp hc).1
    obtain ⟨hi, F, run, ln, col, s5, rfl, hrun, hrl, hF, g, hgo⟩ := pv.resolve_right (fun z => by have := z.1; rw [List.length_append] at li; simp at li; omega)
    clear pv
    have lz1 : ∀ n : Nat, n ≤ 100002 → n ≤ sizeLine := fun n h => by rw [sizeLine_eq]; omega
    apply share (A := isA c = true)
    · intro yes
      apply share (A := isA c = false)
      · intro no
        apply share (A := isL c = false)
        · intro nx
          refine ⟨_, rfl, _, _, rfl, rfl, _, rfl, ?_⟩
          rw [sg_a]
          refine ifB (fun h1 => ?_) (fun h1 => ?_)
          · refine ⟨_, _, rfl, rfl, _, rfl, ?_⟩
            rw [sg_z]
            refine ifB (fun h2 => ?_) (fun h2 => ?_)
            · exact yes (by unfold isA isL; rw [h1, h2]; rfl)
            · exact nx (by unfold isL; rw [h1, h2]; rfl)
          · exact ⟨_, rfl, nx (by unfold isL; rw [h1]; rfl)⟩
        intro hL
        refine ⟨_, rfl, _, _, rfl, rfl, _, rfl, ?_⟩
        rw [sg_0]
        refine ifB (fun h1 => ?_) (fun h1 => ?_)
        · refine ⟨_, _, rfl, rfl, _, rfl, ?_⟩
          rw [sg_9]
          refine ifB (fun h2 => ?_) (fun h2 => ?_)
          · exact yes (by unfold isA isD; rw [hL, h1, h2]; rfl)
          · exact no (by unfold isA isD; rw [hL, h1, h2]; rfl)
        · exact ⟨_, rfl, no (by unfold isA isD; rw [hL, h1]; rfl)⟩
      intro hA
      obtain ⟨S, hS, hcS⟩ : ∃ S, go (l.drop i) run ln col = flush run ln col S ∧ ((i < l.length ∧ S = stepD c (l.drop (i + 1)) ln col) ∨ (i = l.length ∧ c = 10 ∧ S = [tok ("end", .str "") ln col])) := by
        by_cases h : i < l.length
        · refine ⟨_, ?_, .inl ⟨h, rfl⟩⟩
          have ec : l[i] = c := by
            rw [List.getElem?_append_left h, List.getElem?_eq_getElem h] at hc
            exact Option.some.inj hc
          rw [List.drop_eq_getElem_cons h, ec, go_step hA]
        · obtain rfl : i = l.length := by omega
          refine ⟨_, ?_, .inr ⟨rfl, ?_, rfl⟩⟩
          · rw [List.drop_length, go]
          · rw [List.getElem?_append_right (Nat.le_refl _), Nat.sub_self] at hc
            exact (Option.some.inj hc).symm
      rw [hS] at hgo
      clear hS
      refine ⟨fun σ H2 => ∃ F', σ = [some (.str (tx l)), some (.ref D), some (.int ln), some (.int col), some (.str ""), some (.str (tx [c]))] ∧ F'.length ≤ 2 * i + 1 ∧ Grow K H D F' H2 ∧ F' ++ S = go l [] 1 1, ?_, ?_⟩
      · refine ⟨_, rfl, .str ⟨_, rfl, ?_⟩⟩
        rw [empty_tx]
        refine ifB (fun h => ?_) (fun h => ?_)
        · have hr0 : run ≠ [] := by simpa using h
          unfold flush at hgo
          rw [if_neg hr0] at hgo
          obtain ⟨xs0, e0, _⟩ := g.at_
          refine ⟨_, rfl, .inl ⟨rfl, _, SqL.of e0⟩, _, rfl, run, rfl, hr0, by omega, hrun, fun p1 H2 v s2 hT hv => ⟨_, rfl, _, rfl, _, rfl, .str (lz1 _ (by rw [tx_len]; omega)) ⟨_, _, rfl, rfl, szl, fun p2 np2 => .tup (SqT.same (sameUpd np2) hT) (.inl (.inl upd_same)) szl (fun p3 H3 s3 hT3 => ?_)⟩⟩⟩
          rw [tx_len] at hT3
          have g3 := g.ext ((s2.trans (sameUpd np2)).trans s3)
          have im : Im K H3 (.ref p3) (tok (runK run) ln (col - run.length)) := .tup hT3 (.cons (.str _) (.cons (Im.kt (Same.kt ((sameUpd np2).trans s3)) hv) (.cons (.int _) (.one (.int _)))))
          obtain ⟨acc, eA, zA, g4⟩ := g3.push im (by rw [sizeLine_eq]; omega)
          refine ⟨D, acc, .ref p3, rfl, rfl, eA, zA, ?_⟩
          have hT4 := SqT.kt (ktUpd (p := D) (o := .lst (acc ++ [V.ref p3])) eA) hT3
          refine ⟨_, rfl, _, rfl, .lst (SqL.of upd_same) (atI_last _ _) (.tup hT4 rfl (.str ⟨_, rfl, ite2 (fun h3 => ?_) (fun h3 => ?_)⟩))⟩
          · rw [if_pos (of_decide_eq_true h3)] at hgo
            obtain ⟨ys, e4, r4⟩ := g4.at_
            rw [hgo] at r4
            exact ⟨_, rfl, q D _ ys g4.same e4 r4⟩
          · rw [if_neg (by simpa using h3)] at hgo
            exact ⟨F ++ [tok (runK run) ln (col - run.length)], rfl, by rw [List.length_append]; simp; omega, g4, by rw [List.append_assoc]; exact hgo⟩
        · have hr0 : run = [] := by simpa using h
          subst hr0
          rw [flush_nil] at hgo
          exact ⟨F, by rw [show tx [] = "" by decide +kernel]; rfl, by omega, g, hgo⟩
      · rintro σ H2 ⟨F', rfl, hF', g', hgo'⟩
        refine ⟨_, rfl, .str ⟨_, rfl, ?_⟩⟩
        rw [show ("\n" : Str) = tx [10] by decide +kernel, sign_tx]
        refine ite2 (fun h10 => ?_) (fun h10 => ?_)
        · have h10 : c = 10 := of_decide_eq_true h10
          obtain ⟨xs0, e0, _⟩ := g'.at_
          refine ⟨_, rfl, .inl ⟨rfl, _, SqL.of e0⟩, _, rfl, _, rfl, szl, fun p2 np2 => ?_⟩
          have g3 := g'.ext (sameUpd (o := .tup [V.str "line", .str "", .int ln, .int col]) np2)
          have im : Im K (upd H2 p2 (.tup [V.str "line", .str "", .int ln, .int col])) (.ref p2) (tok ("line", .str "") ln col) := Im.new np2 (.cons (.str _) (.cons (.str _) (.cons (.int _) (.one (.int _)))))
          obtain ⟨acc, eA, zA, g4⟩ := g3.push im (by rw [sizeLine_eq]; omega)
          refine ⟨D, acc, .ref p2, rfl, rfl, eA, zA, _, rfl, .int ⟨_, _, rfl, ?_⟩⟩
          rcases hcS with ⟨h, rfl⟩ | ⟨h, _, rfl⟩
          · refine .inl ⟨h, F' ++ [tok ("line", .str "") ln col], [], ln + 1, 1, _, by rw [show tx [] = "" by decide +kernel]; rfl, rfl, Nat.zero_le _, by rw [List.length_append]; simp; omega, g4, ?_⟩
            rw [← hgo', List.append_assoc]
            unfold stepD
            rw [if_pos h10]; rfl
          · exact .inr ⟨by omega, F', ln, col, _, _, _, _, rfl, by omega, g4, hgo'⟩
        have h10 : c ≠ 10 := by simpa using h10
        obtain ⟨hlt, rfl⟩ := hcS.resolve_right (fun z => h10 z.2.1)
        unfold stepD at hgo'
        rw [if_neg h10] at hgo'
        refine ⟨fun σ H3 => ∃ F2, σ = [some (.str (tx l)), some (.ref D), some (.int ln), some (.int col), some (.str ""), some (.str (tx [c]))] ∧ F2.length ≤ 2 * i + 2 ∧ Grow K H D F2 H3 ∧ F2 ++ go (l.drop (i + 1)) [] ln (col + 1) = go l [] 1 1, ?_, ?_⟩
        · refine ⟨_, rfl, .str ⟨_, rfl, ?_⟩⟩
          rw [show (" " : Str) = tx [32] by decide +kernel, sign_tx]
          refine ifB (fun h32 => ?_) (fun h32 => ?_)
          · have h32 : c ≠ 32 := by simpa using h32
            rw [if_neg h32] at hgo'
            obtain ⟨xs0, e0, _⟩ := g'.at_
            refine ⟨_, rfl, .inl ⟨rfl, _, SqL.of e0⟩, _, rfl, _, _, rfl, rfl, _, rfl, ?_⟩
            rw [mem_marks]
            refine ifB (fun hm => ?_) (fun hm => ?_)
            · have hm : c = 40 ∨ c = 41 := by simpa using hm
              rw [if_pos hm] at hgo'
              refine ⟨_, rfl, szl, fun p1 np1 => ⟨_, rfl, _, rfl, szl, fun p2 np2 => .tup (.inl (.inl (sameUpd np2 _ _ upd_same))) (.inl (.inl upd_same)) szl (fun p3 H3 s3 hT3 => ?_)⟩⟩
              have g3 := g'.ext (((sameUpd np1).trans (sameUpd np2)).trans s3)
              have im : Im K H3 (.ref p3) (tok ("mark", .str (tx [c])) ln col) := .tup hT3 (.cons (.str _) (.cons (.str _) (.cons (.int _) (.one (.int _)))))
              obtain ⟨acc, eA, zA, g4⟩ := g3.push im (by rw [sizeLine_eq]; omega)
              refine ⟨D, acc, .ref p3, rfl, rfl, eA, zA, ?_⟩
              have hT4 := SqT.kt (ktUpd (p := D) (o := .lst (acc ++ [V.ref p3])) eA) hT3
              refine ⟨_, rfl, _, rfl, .lst (SqL.of upd_same) (atI_last _ _) (.tup hT4 rfl (.str ⟨_, rfl, ite2 (fun h3 => absurd h3 (by decide)) (fun _ => ?_)⟩))⟩
              exact ⟨F' ++ [tok ("mark", .str (tx [c])) ln col], rfl, by rw [List.length_append]; simp; omega, g4, by rw [List.append_assoc]; exact hgo'⟩
            · have hm : ¬ (c = 40 ∨ c = 41) := by simpa using hm
              rw [if_neg hm] at hgo'
              refine ⟨szl, fun p1 np1 => ⟨_, rfl, _, rfl, szl, fun p2 np2 => .tup (.inl (.inl (sameUpd np2 _ _ upd_same))) (.inl (.inl upd_same)) szl (fun p3 H3 s3 hT3 => ?_)⟩⟩
              have g3 := g'.ext (((sameUpd np1).trans (sameUpd np2)).trans s3)
              have im : Im K H3 (.ref p3) (tok ("bad", .str "") ln col) := .tup hT3 (.cons (.str _) (.cons (.str _) (.cons (.int _) (.one (.int _)))))
              obtain ⟨acc, eA, zA, g4⟩ := g3.push im (by rw [sizeLine_eq]; omega)
              refine ⟨D, acc, .ref p3, rfl, rfl, eA, zA, ?_⟩
              have hT4 := SqT.kt (ktUpd (p := D) (o := .lst (acc ++ [V.ref p3])) eA) hT3
              refine ⟨_, rfl, _, rfl, .lst (SqL.of upd_same) (atI_last _ _) (.tup hT4 rfl (.str ⟨_, rfl, ite2 (fun _ => ?_) (fun h3 => absurd (by decide) h3)⟩))⟩
              obtain ⟨ys, e4, r4⟩ := g4.at_
              rw [hgo'] at r4
              exact ⟨_, rfl, q D _ ys g4.same e4 r4⟩
          · have h32 : c = 32 := by simpa using h32
            rw [if_pos h32] at hgo'
            exact ⟨F', rfl, by omega, g', hgo'⟩
        · rintro σ H3 ⟨F2, rfl, hF2, g2, hgo2⟩
          exact ⟨_, rfl, _, _, rfl, rfl, .inl ⟨hlt, F2, [], ln, col + 1, _, by rw [show tx [] = "" by decide +kernel]; rfl, rfl, Nat.zero_le _, by omega, g2, hgo2⟩⟩
    intro hA
    refine ⟨_, rfl, _, rfl, .str (by rw [tx_len]; exact lz1 _ (by show run.length + 1 ≤ _; omega)) ⟨_, rfl, _, _, rfl, rfl, ?_⟩⟩
    have hlt : i < l.length := by
      rcases Nat.lt_or_ge i l.length with h | h
      · exact h
      · rw [List.getElem?_append_right h, show i - l.length = 0 by omega] at hc
        obtain rfl : 10 = c := Option.some.inj hc
        exact absurd hA (by decide)
    have ec : l[i] = c := by
      rw [List.getElem?_append_left hlt, List.getElem?_eq_getElem hlt] at hc
      exact Option.some.inj hc
    rw [List.drop_eq_getElem_cons hlt, ec, go, if_pos hA] at hgo
    refine .inl ⟨hlt, F, run ++ [c], ln, col + 1, _, by rw [← tx_app]; rfl, by rw [List.all_append, hrun]; simp [hA], by rw [List.length_append]; simp; omega, by omega, g, hgo⟩
  · rcases pv with ⟨hi, _⟩ | ⟨hi, G, ln, col, s2, s3, s4, s5, rfl, hG, g, hgo⟩
    · exact absurd hi (by rw [List.length_append]; simp)
    obtain ⟨vs, e, r⟩ := g.at_
    obtain ⟨acc, y, rfl, r1, r2⟩ := Ims.last r
    obtain ⟨a, rfl, hT⟩ := tok_at r2
    have la : acc.length = G.length := Ims.len r1
    have lG : G.length ≤ 200010 := by rw [hi] at hG; omega
    refine ⟨_, rfl, _, rfl, _, rfl, .lst (SqL.of e) (fun p1 np1 => ?_)⟩
    rw [cut_last]
    refine ⟨szl, fun p2 np2 => ⟨_, rfl, _, rfl, .lst (SqL.of ((sameUpd np1).trans (sameUpd np2) _ _ e)) (atI_last _ _) ⟨_, rfl, .tup (SqT.same ((sameUpd np1).trans (sameUpd np2)) hT) (fun p3 H3 s3 hT3 => ?_)⟩⟩⟩
    rw [cut_two] at hT3
    refine .tup (.inl (.inl (s3 _ _ upd_same))) hT3 szl (fun p4 H4 s4 hT4 => ⟨szl, fun p5 np5 => ?_⟩)
    have s14 : Same (upd H1 p1 (.lst acc)) H4 := ((sameUpd np2).trans s3).trans s4
    have s15 := s14.trans (sameUpd (o := .lst [.ref p4]) np5)
    refine .lst (s15 _ _ upd_same) upd_same (by rw [la, sizeLine_eq]; simp; omega) (fun p6 np6 => ?_)
    have sA := ((sameUpd np1).trans s15).trans (sameUpd (o := .lst (acc ++ [.ref p4])) np6)
    refine q p6 _ _ (g.same.trans sA) upd_same ?_
    rw [← hgo]
    refine Ims.app (Ims.kt (Same.kt sA) r1) (.one (.tup (SqT.same ((sameUpd np5).trans (sameUpd np6)) hT4) (.cons (.str _) (.cons (.str _) (.cons (.int _) (.one (.int _)))))))
end
end K02
set_option maxRecDepth 100000
set_option maxHeartbeats 4000000
/-! K02i: tokens may be shown and compared. -/
namespace K02
open PySem PySem.Spec PyProof.Rows
open L2 Hk
theorem OkAt.str {z : Str} {w : Nat} (h : PyData.strOk z = true) (hz : z.cps.size ≤ w) : OkAt 0 w (.str z) := by
  refine ⟨h, Nat.le_refl _, rfl, ?_, hz⟩
  exact PyData.leavesShort_of_canLay0 13 (.str z) h rfl
theorem res_ok : ∀ z ∈ RES, PyData.strOk z = true ∧ z.cps.size ≤ 8 := by decide +kernel
theorem okS {z : Str} (h : (PyData.strOk z && decide (z.cps.size ≤ 40)) = true) : OkAt 0 40 (.str z) := by
  obtain ⟨a, b⟩ := Bool.and_eq_true_iff.mp h
  exact OkAt.str a (of_decide_eq_true b)
theorem s_key : OkAt 0 40 (.str "key") := okS (by decide +kernel)
theorem s_name : OkAt 0 40 (.str "name") := okS (by decide +kernel)
theorem s_number : OkAt 0 40 (.str "number") := okS (by decide +kernel)
theorem s_bad : OkAt 0 40 (.str "bad") := okS (by decide +kernel)
theorem s_line : OkAt 0 40 (.str "line") := okS (by decide +kernel)
theorem s_end : OkAt 0 40 (.str "end") := okS (by decide +kernel)
theorem s_mark : OkAt 0 40 (.str "mark") := okS (by decide +kernel)
theorem s_none : OkAt 0 40 (.str "") := okS (by decide +kernel)
theorem str_run {r : List Nat} (h : r.all isA = true) : PyData.strOk (tx r) = true := by
  show r.toArray.all _ = true
  rw [List.all_toArray, List.all_eq_true]
  intro c hc
  have := List.all_eq_true.mp h c hc
  simp [isA, isL, isD] at this
  simp; omega
theorem digits_lt : ∀ (l : List Nat) (acc : Nat), l.all isD = true → l.foldl (fun acc c => acc * 10 + (c - 48)) acc < (acc + 1) * 10 ^ l.length
  | [], acc, _ => by simp
  | c :: l, acc, h => by
    obtain ⟨h1, h2⟩ := Bool.and_eq_true_iff.mp (show (isD c && l.all isD) = true from h)
    have := digits_lt l (acc * 10 + (c - 48)) h2
    simp [isD] at h1
    rw [List.foldl_cons, List.length_cons, Nat.pow_succ]
    refine Nat.lt_of_lt_of_le this ?_
    rw [Nat.mul_comm (10 ^ l.length) 10, ← Nat.mul_assoc]
    exact Nat.mul_le_mul_right _ (by omega)
theorem runK_ok {r : List Nat} (h : r.all isA = true) (h0 : r ≠ []) : OkAt 0 40 (.str (runK r).1) ∧ OkAt 0 40 (runK r).2 := by
  unfold runK
  split
  · rename_i hr
    obtain ⟨a, b⟩ := res_ok _ hr
    exact ⟨s_key, OkAt.str a (Nat.le_trans b (by decide))⟩
  split
  · rename_i hn
    unfold nameOk at hn
    have := of_decide_eq_true (Bool.and_eq_true_iff.mp hn).2
    exact ⟨s_name, OkAt.str (str_run h) (by show r.toArray.size ≤ 40; simp; omega)⟩
  split
  · rename_i hf
    refine ⟨s_number, OkAt.int ?_⟩
    unfold figOk at hf
    obtain ⟨f1, f2⟩ := Bool.and_eq_true_iff.mp hf
    have f3 := of_decide_eq_true (Bool.and_eq_true_iff.mp f2).1
    have := digits_lt r 0 f1
    have p : 10 ^ r.length ≤ 10 ^ 4 := Nat.pow_le_pow_right (by decide) f3
    show (NumText.digitsVal r) < _
    have e : NumText.digitsVal r = r.foldl (fun acc c => acc * 10 + (c - 48)) 0 := rfl
    omega
  · exact ⟨s_bad, s_none⟩
theorem tok_ok {k : Str × PyData} {ln col : Int} (h1 : OkAt 0 40 (.str k.1)) (h2 : OkAt 0 40 k.2) (hl : ln.natAbs < 1000000000000) (hc : col.natAbs < 1000000000000) : OkAt 1 164 (tok k ln col) := by
  refine OkAt.tup (n := 0) (w := 40) (m := 4) (fun d hd => ?_) (Nat.le_refl _)
  rcases List.mem_cons.mp hd with rfl | hd
  · exact h1
  rcases List.mem_cons.mp hd with rfl | hd
  · exact h2
  rcases List.mem_cons.mp hd with rfl | hd
  · exact OkAt.int hl
  obtain rfl := List.mem_singleton.mp hd
  exact OkAt.int hc
theorem go_ok : ∀ (l run : List Nat) (ln col : Int), run.all isA = true → 0 ≤ ln → run.length ≤ col → ln + l.length ≤ 1000000 → col + l.length ≤ 1000000 → (∀ d ∈ go l run ln col, OkAt 1 164 d) ∧ (go l run ln col).length ≤ l.length + (if run = [] then 0 else 1) + 1
  | [], run, ln, col, hr, h0, hc, h1, h2 => by
    have hl : ln.natAbs < 1000000000000 := by simp at h1; omega
    have hcc : col.natAbs < 1000000000000 := by simp at h2; omega
    have e1 : OkAt 1 164 (tok ("end", .str "") ln col) := tok_ok s_end s_none hl hcc
    rw [go]
    unfold flush
    by_cases z : run = []
    · rw [if_pos z, if_pos z]
      exact ⟨fun d hd => by obtain rfl := List.mem_singleton.mp hd; exact e1, by simp⟩
    · rw [if_neg z, if_neg z]
      obtain ⟨o1, o2⟩ := runK_ok hr z
      have e2 : OkAt 1 164 (tok (runK run) ln (col - run.length)) := tok_ok o1 o2 hl (by simp at h2; omega)
      by_cases y : (runK run).1 = "bad"
      · rw [if_pos y]
        exact ⟨fun d hd => by obtain rfl := List.mem_singleton.mp hd; exact e2, by simp⟩
      · rw [if_neg y]
        refine ⟨fun d hd => ?_, by simp⟩
        rcases List.mem_cons.mp hd with rfl | hd
        · exact e2
        · obtain rfl := List.mem_singleton.mp hd; exact e1
  | c :: r, run, ln, col, hr, h0, hc, h1, h2 => by
    have hl : ln.natAbs < 1000000000000 := by simp at h1; omega
    have hcc : col.natAbs < 1000000000000 := by simp at h2; omega
    have lc : ((c :: r).length : Int) = r.length + 1 := by simp
    rw [lc] at h1 h2
    rw [go]
    by_cases hA : isA c = true
    · rw [if_pos hA]
      obtain ⟨a, b⟩ := go_ok r (run ++ [c]) ln (col + 1) (by rw [List.all_append, hr]; simp [hA]) h0 (by rw [List.length_append]; simp; omega) (by omega) (by omega)
      refine ⟨a, ?_⟩
      rw [if_neg (by simp)] at b
      rw [List.length_cons]
      omega
    · rw [if_neg hA]
      have step : (∀ d ∈ (if c = 10 then tok ("line", .str "") ln col :: go r [] (ln + 1) 1 else if c = 32 then go r [] ln (col + 1) else if c = 40 ∨ c = 41 then tok ("mark", .str (tx [c])) ln col :: go r [] ln (col + 1) else [tok ("bad", .str "") ln col]), OkAt 1 164 d) ∧
          (if c = 10 then tok ("line", .str "") ln col :: go r [] (ln + 1) 1 else if c = 32 then go r [] ln (col + 1) else if c = 40 ∨ c = 41 then tok ("mark", .str (tx [c])) ln col :: go r [] ln (col + 1) else [tok ("bad", .str "") ln col]).length ≤ r.length + 2 := by
        split
        · obtain ⟨a, b⟩ := go_ok r [] (ln + 1) 1 rfl (by omega) (by simp) (by omega) (by omega)
          rw [if_pos rfl] at b
          refine ⟨fun d hd => ?_, by rw [List.length_cons]; omega⟩
          rcases List.mem_cons.mp hd with rfl | hd
          · exact tok_ok s_line s_none hl hcc
          · exact a d hd
        split
        · obtain ⟨a, b⟩ := go_ok r [] ln (col + 1) rfl (by omega) (by simp; omega) (by omega) (by omega)
          rw [if_pos rfl] at b
          exact ⟨a, by omega⟩
        split
        · rename_i hm
          obtain ⟨a, b⟩ := go_ok r [] ln (col + 1) rfl (by omega) (by simp; omega) (by omega) (by omega)
          rw [if_pos rfl] at b
          refine ⟨fun d hd => ?_, by rw [List.length_cons]; omega⟩
          rcases List.mem_cons.mp hd with rfl | hd
          · exact tok_ok s_mark (by rcases hm with rfl | rfl <;> exact okS (by decide +kernel)) hl hcc
          · exact a d hd
        · exact ⟨fun d hd => by obtain rfl := List.mem_singleton.mp hd; exact tok_ok s_bad s_none hl hcc, by simp⟩
      generalize (if c = 10 then tok ("line", .str "") ln col :: go r [] (ln + 1) 1 else if c = 32 then go r [] ln (col + 1) else if c = 40 ∨ c = 41 then tok ("mark", .str (tx [c])) ln col :: go r [] ln (col + 1) else [tok ("bad", .str "") ln col]) = S at step ⊢
      unfold flush
      by_cases z : run = []
      · rw [if_pos z, if_pos z]
        exact ⟨step.1, by rw [List.length_cons]; exact step.2⟩
      · rw [if_neg z, if_neg z]
        obtain ⟨o1, o2⟩ := runK_ok hr z
        have e2 : OkAt 1 164 (tok (runK run) ln (col - run.length)) := tok_ok o1 o2 hl (by omega)
        by_cases y : (runK run).1 = "bad"
        · rw [if_pos y]
          exact ⟨fun d hd => by obtain rfl := List.mem_singleton.mp hd; exact e2, by simp⟩
        · rw [if_neg y]
          refine ⟨fun d hd => ?_, by rw [List.length_cons, List.length_cons]; have := step.2; omega⟩
          rcases List.mem_cons.mp hd with rfl | hd
          · exact e2
          · exact step.1 d hd
theorem toks_okd {l : List Nat} (h : l.length ≤ 2000) : okd (.tuple (go l [] 1 1)) = true := by
  obtain ⟨a, b⟩ := go_ok l [] 1 1 rfl (by omega) (by simp) (by omega) (by omega)
  rw [if_pos rfl] at b
  exact OkAt.okd (OkAt.tup (n := 1) (w := 164) (m := 2001) a (by omega)) (by decide) (by decide)
end K02
set_option maxRecDepth 100000
set_option maxHeartbeats 4000000
/-! K02l: what the law's walk wants beside the defs. -/
namespace K02
open PySem PySem.Spec PyProof.Rows
open L2 Hk
theorem join_len (n : Nat) : ∀ ys : List (List Nat), (∀ y ∈ ys, y.length ≤ n) → (TL.joinL [] ys).length ≤ n * ys.length
  | [], _ => Nat.le_refl _
  | [p], h => by
    have := h p (List.mem_singleton.mpr rfl)
    show p.length ≤ n * 1
    omega
  | p :: q :: r, h => by
    have h1 := h p List.mem_cons_self
    have h2 := join_len n (q :: r) (fun y hy => h y (List.mem_cons_of_mem _ hy))
    show (p ++ ([] ++ TL.joinL [] (q :: r))).length ≤ n * ((q :: r).length + 1)
    rw [List.nil_append, List.length_append, Nat.mul_add, Nat.mul_one]
    omega
theorem app_len (a b : Str) : (a ++ b).length = a.length + b.length := by
  rw [TL.len_tl, TL.tl_append, List.length_append, ← TL.len_tl, ← TL.len_tl]
theorem txt_join {n : Nat} {ys : List Str} (h : ∀ y ∈ ys, y.length ≤ n) : ∃ l : List Nat, Txt.join "" ys = tx l ∧ l.length ≤ n * ys.length := by
  refine ⟨(Txt.join "" ys).cps.toList, rfl, ?_⟩
  rw [TL.join_eq]
  have e := TL.tl_join "" ys
  have e2 : TL.tl ("" : Str) = [] := by decide +kernel
  rw [e2] at e
  show (TL.tl (Str.join "" ys)).length ≤ _
  rw [e, ← List.length_map (f := TL.tl)]
  refine join_len n _ (fun y hy => ?_)
  obtain ⟨z, hz, rfl⟩ := List.mem_map.mp hy
  rw [← TL.len_tl]
  exact h z hz
theorem sum_len {n : Nat} : ∀ {ys : List Str}, (∀ y ∈ ys, y.length ≤ n) → (ys.map (·.length)).sum ≤ n * ys.length
  | [], _ => Nat.le_refl _
  | y :: ys, h => by
    have h1 := h y List.mem_cons_self
    have h2 := sum_len (n := n) (ys := ys) (fun z hz => h z (List.mem_cons_of_mem _ hz))
    rw [List.map_cons, List.sum_cons, List.length_cons, Nat.mul_add, Nat.mul_one]
    omega
/-- the bag is no list of texts -/
theorem bag_ne_strs {H : Hp} {b c t : Addr} {ys : List Str} (bag : BagC H b c) (h : H t = some (.lst (ys.map V.str))) : t ≠ b := by
  intro e
  subst e
  obtain ⟨x, y, z, ns, e, _⟩ := bag
  rw [h] at e
  have e2 : ys.map V.str = [V.int x, V.int y, V.int z, V.ref c] := by injection (Option.some.inj e)
  cases ys with
  | nil => cases e2
  | cons w ws => injection e2 with e3; cases e3
/-- words, odd ones, the texts so far -/
structure LawSt (T : List (Addr × Str)) (b c p3 p4 p5 : Addr) (A B ys : List Str) (H : Hp) : Prop where
  bag : BagC H b c
  tabs : LamX.Tabs T H
  words : H p3 = some (.lst (A.map V.str))
  odd : H p4 = some (.lst (B.map V.str))
  some_ : H p5 = some (.lst (ys.map V.str))
section
variable {T : List (Addr × Str)} {b c p3 p4 p5 : Addr} {A B ys : List Str} {H H' : Hp}
theorem LawSt.same (s : LawSt T b c p3 p4 p5 A B ys H) (e : Same H H') : LawSt T b c p3 p4 p5 A B ys H' := ⟨s.bag.same e, tabs_same s.tabs e, e _ _ s.words, e _ _ s.odd, e _ _ s.some_⟩
theorem LawSt.k1 (s : LawSt T b c p3 p4 p5 A B ys H) (e : Keep1 b H H') (bag : BagC H' b c) : LawSt T b c p3 p4 p5 A B ys H' := by
  obtain ⟨xs, hb⟩ := s.bag.lst
  exact ⟨bag, tabs_k1 s.tabs e hb, e _ _ (bag_ne_strs s.bag s.words) s.words, e _ _ (bag_ne_strs s.bag s.odd) s.odd, e _ _ (bag_ne_strs s.bag s.some_) s.some_⟩
theorem LawSt.push (s : LawSt T b c p3 p4 p5 A B ys H) (z : Str) (n3 : p3 ≠ p5) (n4 : p4 ≠ p5) (nc : c ≠ p5) : LawSt T b c p3 p4 p5 A B (ys ++ [z]) (upd H p5 (.lst (ys.map V.str ++ [.str z]))) := by
  have nb : b ≠ p5 := fun e => bag_ne_strs s.bag s.some_ e.symm
  exact ⟨s.bag.upd nb nc, tabs_k1 s.tabs k1Upd s.some_, by rw [upd_ne n3]; exact s.words, by rw [upd_ne n4]; exact s.odd, by rw [upd_same, List.map_append]; rfl⟩
end
def W12 : List Str := [("a" : Str), ("b7" : Str), ("longname" : Str), ("name9" : Str), ("0" : Str), ("7" : Str), ("20" : Str), ("9999" : Str), ("(" : Str), (")" : Str), ("\n" : Str), ("\n" : Str)]
def ODD : List Str := [("00" : Str), ("07" : Str), ("10000" : Str), ("7a" : Str), ("toolongname" : Str), ("A" : Str), ("-" : Str), (":" : Str), ("," : Str), ("x1" : Str), ("xyz" : Str)]
def BLK : List Str := [(" " : Str), (" " : Str), (" " : Str), ("  " : Str), ("" : Str), ("\n" : Str)]
theorem len_words : ∀ w ∈ RES ++ W12, w.length ≤ 11 := by decide +kernel
theorem len_odd : ∀ w ∈ ODD, w.length ≤ 11 := by decide +kernel
theorem len_blk : ∀ w ∈ BLK, w.length ≤ 2 := by decide +kernel
theorem at_strs {n : Nat} {A : List Str} (hA : ∀ w ∈ A, w.length ≤ n) {i : Nat} {x : V} (h : (A.map V.str)[i]? = some x) : ∃ w : Str, x = .str w ∧ w.length ≤ n := by
  rw [List.getElem?_map] at h
  cases e : A[i]? with
  | none => rw [e] at h; cases h
  | some w =>
    rw [e] at h
    exact ⟨w, (Option.some.inj h).symm, hA w (List.mem_of_getElem? e)⟩
/-! ### the long text -/
def longL : List Nat := List.replicate 19999 32 ++ [97]
theorem go_blanks (r : List Nat) (ln : Int) : ∀ (n : Nat) (col : Int), go (List.replicate n 32 ++ r) [] ln col = go r [] ln (col + n)
  | 0, col => by simp
  | n + 1, col => by
    rw [List.replicate_succ, List.cons_append, go_other (by decide), if_neg (by decide), if_pos rfl, go_blanks r ln n]
    congr 1
    simp; omega
theorem go_long : go longL [] 1 1 = [tok ("name", .str "a") 1 20000, tok ("end", .str "") 1 20001] := by
  unfold longL
  rw [go_blanks, go_word (by decide)]
  have e : runOf [97] = [97] := by decide
  have hk : runK [97] = (("name" : Str), PyData.str (tx [97])) := by
    unfold runK
    rw [if_neg (by decide +kernel), if_pos (by decide +kernel)]
  rw [e, hk, if_neg (show ¬ (("name" : Str), PyData.str (tx [97])).1 = "bad" by decide +kernel)]
  rfl
theorem long_okd : okd (.tuple [tok ("name", .str "a") 1 20000, tok ("end", .str "") 1 20001]) = true := by decide +kernel
theorem long_len : longL.length = 20000 := by
  unfold longL
  rw [List.length_append, List.length_replicate]; rfl
end K02
set_option maxRecDepth 100000
set_option maxHeartbeats 4000000
namespace K02
open PySem PySem.Spec PyProof.Rows
open L2 Hk
section
variable {P : Program} {w : World} {K : PySem.W.Frag} {mg : Str → Option Value} {base : Heap} {C CT : Addr}
theorem ok_law (S_law : SrcC K mg "law" s_law) (S_law_heard : Src K mg "_law_heard" s_law_heard) (x_Nothing : ExcF K mg "Nothing" C) (x_TooLarge : ExcT P K mg "TooLarge" CT "what" "limit")
    (g_Nothing : mg "Nothing" = some (.ref C)) (g_BadText : mg "BadText" = some (.ref (He.ga K "BadText"))) (g_BadWorld : mg "BadWorld" = some (.ref (He.ga K "BadWorld"))) (g_BadProgram : mg "BadProgram" = some (.ref (He.ga K "BadProgram"))) (g_NoCommand : mg "NoCommand" = some (.ref (He.ga K "NoCommand"))) (g_TooLarge : mg "TooLarge" = some (.ref CT))
    (xf_BadText : XfC K (He.ga K "BadText")) (xf_BadWorld : XfC K (He.ga K "BadWorld")) (xf_BadProgram : XfC K (He.ga K "BadProgram")) (xf_NoCommand : XfC K (He.ga K "NoCommand")) (xf_TooLarge : XfC K CT)
    (no_BadText_line : PySem.W.findIn K (.ref (He.ga K "BadText")) "line" = some none) (no_BadText_column : PySem.W.findIn K (.ref (He.ga K "BadText")) "column" = some none) (no_BadWorld_where : PySem.W.findIn K (.ref (He.ga K "BadWorld")) "where" = some none) (no_BadWorld_fault : PySem.W.findIn K (.ref (He.ga K "BadWorld")) "fault" = some none)
    (no_BadProgram_where : PySem.W.findIn K (.ref (He.ga K "BadProgram")) "where" = some none) (no_BadProgram_fault : PySem.W.findIn K (.ref (He.ga K "BadProgram")) "fault" = some none) (no_NoCommand_line : PySem.W.findIn K (.ref (He.ga K "NoCommand")) "line" = some none)
    (no_TooLarge_what : PySem.W.findIn K (.ref CT) "what" = some none) (no_TooLarge_limit : PySem.W.findIn K (.ref CT) "limit" = some none)
    (e1 : PySem.W.exmOne K (.ref CT) (.ref C) = some false) (e2 : PySem.W.exmOne K (.ref CT) (.ref (He.ga K "BadText")) = some false) (e3 : PySem.W.exmOne K (.ref CT) (.ref (He.ga K "BadWorld")) = some false) (e4 : PySem.W.exmOne K (.ref CT) (.ref (He.ga K "BadProgram")) = some false) (e5 : PySem.W.exmOne K (.ref CT) (.ref (He.ga K "NoCommand")) = some false)
    (TB : LamX.TabB base mg (He.cT K ("law", none)).1 (He.cT K ("law", none)).2)
    (m_range : mg "range" = none) (m_tuple : mg "tuple" = none) (m_len : mg "len" = none)
    (h_law_bag : Has P w K mg base CX0 "_law_bag" 1 ["script"] (spBagC K)) (h_law_take : Has P w K mg base CX0 "_law_take" 1 ["bag", "many"] spTakeC) (h_law_some : Has P w K mg base CX0 "_law_some" 2 ["bag", "things"] (spSomeC K)) (h_law_alike : HasG P w K mg base CX0 "_law_alike" 1 ["found", "due"] (spAlike K))
    (h_law_words : Has P w K mg base CX0 "_law_words" 1 [] spWords) (h_law_tokens : Has P w K mg base CX0 "_law_tokens" 3 ["text"] (spLawToks K)) (h_tokens : Has P w K mg base (L2.CX P w) "tokens" 4 ["text"] (spTokens K C CT)) : HasG P w K mg base CX0 "law" 7 ["script"] (spLawT K [("law", none)]) := by
  refine S_law.hasG sc_law (fun _ _ _ _ _ _ us hl => match us, hl with | [_], _ => rfl) (fun vs H Q E ⟨a, ns, e, _⟩ => e ▸ rfl) (fun f cdv A out s H vs Q E hcode gd hr ⟨a, ns, e, hS, hT, q⟩ => ?_)
  have hu64 := hr.units
  have hmT : ((He.cT K ("law", none)).2, lamQ ("law", none)) ∈ tabsOf K [("law", none)] := List.mem_singleton.mpr rfl
  have huT : ∀ p ∈ tabsOf K [("law", none)], p.1 = (He.cT K ("law", none)).2 → p.2 = lamQ ("law", none) := fun p hp _ => by
    obtain rfl := List.mem_singleton.mp hp; rfl
  refine ⟨_, (pss_cons (ps_set (i := 1) sc_law.nd rfl (by first | exact Or.inl rfl | exact Or.inr rfl) (pe_has h_law_bag (hr.mono (by decide)) rfl pass0 (pa_cons (pv 0) pa_nil)))
    (pss_cons (ps_for PassesOwn.never rfl (pi_range1 rfl m_range (pa_cons pe_int pa_nil)) (pg_name (i := 2) sc_law.nd rfl (by first | exact Or.inl rfl | exact Or.inr rfl))
      (pss_cons (ps_set (i := 3) sc_law.nd rfl (by first | exact Or.inl rfl | exact Or.inr rfl) (pe_op (op_uadd (K := K)) (pe_has0 h_law_words (hr.mono (by decide)) rfl pass0) (pe_lst (pa_cons pe_str (pa_cons pe_str (pa_cons pe_str (pa_cons pe_str (pa_cons pe_str (pa_cons pe_str (pa_cons pe_str (pa_cons pe_str (pa_cons pe_str (pa_cons pe_str (pa_cons pe_str (pa_cons pe_str pa_nil)))))))))))))))
    (pss_cons (ps_set (i := 4) sc_law.nd rfl (by first | exact Or.inl rfl | exact Or.inr rfl) (pe_lst (pa_cons pe_str (pa_cons pe_str (pa_cons pe_str (pa_cons pe_str (pa_cons pe_str (pa_cons pe_str (pa_cons pe_str (pa_cons pe_str (pa_cons pe_str (pa_cons pe_str (pa_cons pe_str pa_nil)))))))))))))
    (pss_cons (ps_set (i := 5) sc_law.nd rfl (by first | exact Or.inl rfl | exact Or.inr rfl) (pe_lst pa_nil))
    (pss_cons (ps_for PassesOwn.never rfl (pi_range1 rfl m_range (pa_cons (pe_has h_law_take (hr.mono (by decide)) rfl pass0 (pa_cons (pv 1) (pa_cons pe_int pa_nil))) pa_nil)) (pg_name (i := 6) sc_law.nd rfl (by first | exact Or.inl rfl | exact Or.inr rfl))
      (pss_one (ps_expr (pe_bm PySem.F.plainAttrs_list PySem.F.slot_list_append PySem.F.type_list_append mt_append (pv 5) (pa_cons (pe_op (op_uadd (K := K)) (pe_has h_law_some (hr.mono (by decide)) rfl pass0 (pa_cons (pv 1) (pa_cons (pe_ifExp (pt_cmpR op_ugt (pe_has h_law_take (hr.mono (by decide)) rfl pass0 (pa_cons (pv 1) (pa_cons pe_int pa_nil))) pe_int (nomark _)) (pv 3) (pv 4)) pa_nil))) (pe_has h_law_some (hr.mono (by decide)) rfl pass0 (pa_cons (pv 1) (pa_cons (pe_lst (pa_cons pe_str (pa_cons pe_str (pa_cons pe_str (pa_cons pe_str (pa_cons pe_str (pa_cons pe_str pa_nil))))))) pa_nil)))) pa_nil)))))
    (pss_cons (ps_set (i := 7) sc_law.nd rfl (by first | exact Or.inl rfl | exact Or.inr rfl) (pe_bm PySem.F.plainAttrs_str PySem.F.slot_str_join PySem.F.type_str_join mt_join pe_str (pa_cons (pv 5) pa_nil)))
    (pss_one (ps_if (pt_not (pt_val (pe_hasG h_law_alike gd (hr.mono (by decide)) rfl pass0 (pa_cons (pe_has h_tokens (hr.mono (by decide)) rfl passL (pa_cons (pv 7) pa_nil)) (pa_cons (pe_callTy (call_utup (K := K)) rfl m_tuple bb_tuple (pa_cons (pe_has h_law_tokens (hr.mono (by decide)) rfl pass0 (pa_cons (pv 7) pa_nil)) pa_nil)) pa_nil)))))
      (pss_one (ps_ret pe_bl))
      pss_nil))))))))
    (pss_cons (ps_set (i := 8) sc_law.nd rfl (by first | exact Or.inl rfl | exact Or.inr rfl) (pe_op (op_uadd (K := K)) (pe_op op_repS pe_str pe_int) pe_str))
    (pss_cons (ps_if (PW.pt (pw_or (pt_not (pt_val (pe_hasG h_law_alike gd (hr.mono (by decide)) rfl pass0 (pa_cons (pe_has h_tokens (hr.mono (by decide)) rfl passL (pa_cons (pv 8) pa_nil)) (pa_cons (pe_tup (pa_cons (pe_tup (pa_cons pe_str (pa_cons pe_str (pa_cons pe_int (pa_cons pe_int pa_nil))))) (pa_cons (pe_tup (pa_cons pe_str (pa_cons pe_str (pa_cons pe_int (pa_cons pe_int pa_nil))))) pa_nil))) pa_nil))))) (pw_or1 (pt_cmpR (op_une (K := K) hu64) (pe_heard (k := 4) S_law_heard sc_law_heard (fun _ _ _ _ _ _ us hl => match us, hl with | [_], _ => rfl) (by rfl) rfl (by first | exact Or.inl rfl | exact Or.inr rfl) (fun g cdv => hear_gives (fun _ => rfl) (fun s H => (.plain ⟨rfl, by decide, .inl g_Nothing⟩ ⟨List.cons_ne_nil _ _, fun a oe cls d pn hz hf => (pss_one (ps_ret (pe_tup (pa_cons pe_str pa_nil))))⟩ (.named sc_law_heard.nd (i := 1) rfl rfl ⟨rfl, by decide, .inl g_BadText⟩ ⟨List.cons_ne_nil _ _, fun a oe cls d pn hz hf => (pss_one (ps_ret (pe_tup (pa_cons pe_str (pa_cons (pe_xf (n := "line") xf_BadText no_BadText_line hz hf (pv 1)) (pa_cons (pe_xf (n := "column") xf_BadText no_BadText_column hz hf (pv 1)) pa_nil))))))⟩ (.named sc_law_heard.nd (i := 1) rfl rfl ⟨rfl, by decide, .inl g_BadWorld⟩ ⟨List.cons_ne_nil _ _, fun a oe cls d pn hz hf => (pss_one (ps_ret (pe_tup (pa_cons pe_str (pa_cons (pe_xf (n := "where") xf_BadWorld no_BadWorld_where hz hf (pv 1)) (pa_cons (pe_xf (n := "fault") xf_BadWorld no_BadWorld_fault hz hf (pv 1)) pa_nil))))))⟩ (.named sc_law_heard.nd (i := 1) rfl rfl ⟨rfl, by decide, .inl g_BadProgram⟩ ⟨List.cons_ne_nil _ _, fun a oe cls d pn hz hf => (pss_one (ps_ret (pe_tup (pa_cons pe_str (pa_cons (pe_xf (n := "where") xf_BadProgram no_BadProgram_where hz hf (pv 1)) (pa_cons (pe_xf (n := "fault") xf_BadProgram no_BadProgram_fault hz hf (pv 1)) pa_nil))))))⟩ (.named sc_law_heard.nd (i := 1) rfl rfl ⟨rfl, by decide, .inl g_NoCommand⟩ ⟨List.cons_ne_nil _ _, fun a oe cls d pn hz hf => (pss_one (ps_ret (pe_tup (pa_cons pe_str (pa_cons (pe_xf (n := "line") xf_NoCommand no_NoCommand_line hz hf (pv 1)) pa_nil)))))⟩ (.named sc_law_heard.nd (i := 1) rfl rfl ⟨rfl, by decide, .inl g_TooLarge⟩ ⟨List.cons_ne_nil _ _, fun a oe cls d pn hz hf => (pss_one (ps_ret (pe_tup (pa_cons pe_str (pa_cons (pe_xf (n := "what") xf_TooLarge no_TooLarge_what hz hf (pv 1)) (pa_cons (pe_xf (n := "limit") xf_TooLarge no_TooLarge_limit hz hf (pv 1)) pa_nil))))))⟩ .nil)))))))) TB hcode hmT huT (hr.mono (by decide)) (LamX.lamS_by (sc := defScope s_law) (by decide +kernel)) rfl (fun _ _ _ _ _ => rfl) (fun A out s H E f c hr2 => (pe_has h_tokens (hr2.mono (by decide)) rfl (passes_call (takes_of rfl rfl rfl rfl) (fun _ _ _ _ z => z)) (pa_cons (pe_op (op_uadd (K := K)) (pv 8) pe_str) pa_nil)))) (pe_tup (pa_cons pe_str (pa_cons pe_str (pa_cons pe_int pa_nil)))) (nomark _)))))
      (pss_one (ps_ret pe_bl))
      pss_nil)
    (pss_cons (ps_for PassesOwn.never rfl (pi_utup (K := K) rfl (pe_tup (pa_cons pe_non (pa_cons pe_int (pa_cons (pe_tup pa_nil) (pa_cons (pe_tup (pa_cons pe_str pa_nil)) (pa_cons (pe_lst (pa_cons pe_str pa_nil)) pa_nil))))))) (pg_name (i := 9) sc_law.nd rfl (by first | exact Or.inl rfl | exact Or.inr rfl))
      (pss_one (ps_if (pt_cmpR (op_une (K := K) hu64) (pe_heard (k := 4) S_law_heard sc_law_heard (fun _ _ _ _ _ _ us hl => match us, hl with | [_], _ => rfl) (by rfl) rfl (by first | exact Or.inl rfl | exact Or.inr rfl) (fun g cdv => hear_gives (fun _ => rfl) (fun s H => (.plain ⟨rfl, by decide, .inl g_Nothing⟩ ⟨List.cons_ne_nil _ _, fun a oe cls d pn hz hf => (pss_one (ps_ret (pe_tup (pa_cons pe_str pa_nil))))⟩ (.named sc_law_heard.nd (i := 1) rfl rfl ⟨rfl, by decide, .inl g_BadText⟩ ⟨List.cons_ne_nil _ _, fun a oe cls d pn hz hf => (pss_one (ps_ret (pe_tup (pa_cons pe_str (pa_cons (pe_xf (n := "line") xf_BadText no_BadText_line hz hf (pv 1)) (pa_cons (pe_xf (n := "column") xf_BadText no_BadText_column hz hf (pv 1)) pa_nil))))))⟩ (.named sc_law_heard.nd (i := 1) rfl rfl ⟨rfl, by decide, .inl g_BadWorld⟩ ⟨List.cons_ne_nil _ _, fun a oe cls d pn hz hf => (pss_one (ps_ret (pe_tup (pa_cons pe_str (pa_cons (pe_xf (n := "where") xf_BadWorld no_BadWorld_where hz hf (pv 1)) (pa_cons (pe_xf (n := "fault") xf_BadWorld no_BadWorld_fault hz hf (pv 1)) pa_nil))))))⟩ (.named sc_law_heard.nd (i := 1) rfl rfl ⟨rfl, by decide, .inl g_BadProgram⟩ ⟨List.cons_ne_nil _ _, fun a oe cls d pn hz hf => (pss_one (ps_ret (pe_tup (pa_cons pe_str (pa_cons (pe_xf (n := "where") xf_BadProgram no_BadProgram_where hz hf (pv 1)) (pa_cons (pe_xf (n := "fault") xf_BadProgram no_BadProgram_fault hz hf (pv 1)) pa_nil))))))⟩ (.named sc_law_heard.nd (i := 1) rfl rfl ⟨rfl, by decide, .inl g_NoCommand⟩ ⟨List.cons_ne_nil _ _, fun a oe cls d pn hz hf => (pss_one (ps_ret (pe_tup (pa_cons pe_str (pa_cons (pe_xf (n := "line") xf_NoCommand no_NoCommand_line hz hf (pv 1)) pa_nil)))))⟩ (.named sc_law_heard.nd (i := 1) rfl rfl ⟨rfl, by decide, .inl g_TooLarge⟩ ⟨List.cons_ne_nil _ _, fun a oe cls d pn hz hf => (pss_one (ps_ret (pe_tup (pa_cons pe_str (pa_cons (pe_xf (n := "what") xf_TooLarge no_TooLarge_what hz hf (pv 1)) (pa_cons (pe_xf (n := "limit") xf_TooLarge no_TooLarge_limit hz hf (pv 1)) pa_nil))))))⟩ .nil)))))))) TB hcode hmT huT (hr.mono (by decide)) (LamX.lamS_by (sc := defScope s_law) (by decide +kernel)) rfl (fun _ _ _ _ _ => rfl) (fun A out s H E f c hr2 => (pe_has h_tokens (hr2.mono (by decide)) rfl (passes_call (takes_of rfl rfl rfl rfl) (fun _ _ _ _ z => z)) (pa_cons (pv 9) pa_nil)))) (pe_tup (pa_cons pe_str pa_nil)) (nomark _))
      (pss_one (ps_ret pe_bl))
      pss_nil)))
    (pss_one (ps_ret pe_bl))))))), ?_⟩
  subst e
  refine ⟨_, rfl, a, ns, rfl, hS, fun b c H1 s1 nb bag => ?_⟩
  have T1 := tabs_same hT s1
  refine ⟨6, rfl, by decide, by decide, for_range (n := 6) (Pv := fun i σ H2 => ∃ (s2 s3 s4 s5 s6 s7 s8 s9 : Option V), σ = [some (.ref a), some (.ref b), s2, s3, s4, s5, s6, s7, s8, s9] ∧ BagC H2 b c ∧ LamX.Tabs (tabsOf K [("law", none)]) H2) ⟨none, none, none, none, none, none, none, none, rfl, bag, T1⟩ ?_ ?_⟩
  · rintro i σ H2 _ ⟨s2, s3, s4, s5, s6, s7, s8, s9, rfl, bag, T2⟩
    refine ⟨rfl, fun p1 np1 => ⟨szl, fun p2 np2 => .lst (sameUpd np2 _ _ upd_same) upd_same (by rw [sizeLine_eq]; decide) (fun p3 np3 => ⟨szl, fun p4 np4 => ⟨szl, fun p5 np5 => ?_⟩⟩)⟩⟩
    have sB := ((((sameUpd np1).trans (sameUpd np2)).trans (sameUpd np3)).trans (sameUpd np4)).trans (sameUpd (o := .lst []) np5)
    have n3 : p3 ≠ p5 := ne_of_none (sameUpd np4 _ _ upd_same) np5
    have n4 : p4 ≠ p5 := ne_of_none upd_same np5
    have nc : c ≠ p5 := ((bag.same ((((sameUpd np1).trans (sameUpd np2)).trans (sameUpd np3)).trans (sameUpd np4))).new np5).2
    have st : LawSt (tabsOf K [("law", none)]) b c p3 p4 p5 (RES ++ W12) ODD [] _ :=
      ⟨bag.same sB, tabs_same T2 sB, sameUpd np5 _ _ (sameUpd np4 _ _ upd_same), sameUpd np5 _ _ upd_same, upd_same⟩
    generalize upd _ p5 (HO.lst []) = H3 at st ⊢
    clear sB np1 np2 np3 np4 np5
    refine ⟨_, rfl, b, c, 30, rfl, by decide, by decide, st.bag, fun d H4 d0 d1 k4 bag4 => ⟨d, rfl, by omega, by omega, ?_⟩⟩
    refine for_range (n := d.toNat) (Pv := fun i' σ H5 => ∃ (s6 : Option V) (ys : List Str), σ = [some (.ref a), some (.ref b), some (.int (0 + (i : Int))), some (.ref p3), some (.ref p4), some (.ref p5), s6, s7, s8, s9] ∧ ys.length = i' ∧ (∀ y ∈ ys, y.length ≤ 13) ∧ LawSt (tabsOf K [("law", none)]) b c p3 p4 p5 (RES ++ W12) ODD ys H5)
      ⟨s6, [], rfl, rfl, by simp, st.k1 k4 bag4⟩ ?_ ?_
    · rintro j σ H5 hj ⟨s6, ys, rfl, ly, hy, st⟩
      refine ⟨_, rfl, .inl ⟨rfl, _, SqL.of st.some_⟩, _, rfl, _, rfl, b, c, 12, rfl, by decide, by decide, st.bag, fun d2 H6 e0 e1 k6 bag6 => ?_⟩
      have st6 := st.k1 k6 bag6
      refine ⟨_, _, rfl, rfl, _, rfl, ifB (fun h => ⟨_, rfl, b, c, p3, _, rfl, bag6, bag_ne_strs bag6 st6.words, .inl (SqL.of st6.words), by decide, by decide, fun i7 x7 H7 hx7 k7 bag7 => ?_⟩) (fun h => ⟨_, rfl, b, c, p4, _, rfl, bag6, bag_ne_strs bag6 st6.odd, .inl (SqL.of st6.odd), by decide, by decide, fun i7 x7 H7 hx7 k7 bag7 => ?_⟩)⟩
      all_goals
        obtain ⟨w1, rfl, lw1⟩ : ∃ w1 : Str, x7 = .str w1 ∧ w1.length ≤ 11 := by first | exact at_strs len_words hx7 | exact at_strs len_odd hx7
        have st7 := st6.k1 k7 bag7
        refine ⟨_, rfl, szl, fun p8 np8 => ?_⟩
        have bag8 := bag7.same (sameUpd (o := .lst (BLK.map V.str)) np8)
        have st8 := st7.same (sameUpd (o := .lst (BLK.map V.str)) np8)
        refine ⟨b, c, p8, BLK.map V.str, rfl, bag8, (bag7.new np8).1.symm, .inl (SqL.of upd_same), by decide, by decide, fun i9 x9 H9 hx9 k9 bag9 => ?_⟩
        obtain ⟨w2, rfl, lw2⟩ := at_strs len_blk hx9
        have st9 := st8.k1 k9 bag9
        have l29 : d.toNat ≤ 29 := by omega
        exact .str (by rw [sizeLine_eq]; omega) ⟨p5, ys.map V.str, .str (w1 ++ w2), rfl, rfl, st9.some_, by rw [List.length_map, sizeLine_eq]; omega, _, ys ++ [w1 ++ w2], rfl, by rw [List.length_append, ly]; rfl, fun y my => by
          rcases List.mem_append.mp my with my | my
          · exact hy y my
          · obtain rfl := List.mem_singleton.mp my
            rw [app_len]; omega, st9.push _ n3 n4 nc⟩
    rintro σ H5 ⟨s6, ys, rfl, ly, hy, st⟩
    obtain ⟨l, el, hl⟩ := txt_join hy
    have ll : l.length ≤ 400 := by omega
    have e0 : ("" : Str).length = 0 := by decide +kernel
    refine ⟨rfl, _, rfl, _, p5, ys, rfl, rfl, .inl (SqL.of st.some_), by have := sum_len hy; rw [e0]; omega, ?_⟩
    rw [el]
    refine ⟨_, rfl, .str (tx l), .str _, rfl, .str _, (fun h => by cases h), fun l' e => ?_⟩
    obtain rfl : l = l' := tx_inj (by injection e)
    refine ⟨by omega, fun h => by omega, fun _ p H6 us s6 hT r => ⟨_, rfl, l, rfl, by omega, fun p2 H7 us2 s7 e2 r2 => .lst (SqL.of e2) (fun p3' np3 => ?_)⟩⟩
    have s8 := s7.trans (sameUpd (o := .tup us2) np3)
    refine ⟨.ref p, .ref p3', .tuple (go l [] 1 1), rfl, .tup (SqT.same s8 hT) (Ims.dp (Ims.kt (Same.kt s8) r)), .tup (.inl (.inl upd_same)) (Ims.dp (Ims.kt (Same.kt (sameUpd np3)) r2)), toks_okd (by omega), _, rfl, ?_⟩
    have s9 := s6.trans s8
    exact ⟨_, _, _, _, _, _, _, _, rfl, st.bag.same s9, tabs_same st.tabs s9⟩
  · rintro σ H2 ⟨s2, s3, s4, s5, s6, s7, s8, s9, rfl, bag, T2⟩
    refine ⟨32, 19999, by rw [show (" " : Str) = tx [32] by decide +kernel], rfl, by decide, by decide, .str (by rw [tx_len, List.length_replicate, sizeLine_eq]; decide +kernel) ?_⟩
    rw [show tx (List.replicate 19999 32) ++ ("a" : Str) = tx longL from by rw [show ("a" : Str) = tx [97] by decide +kernel, tx_app]; rfl]
    have hlong := long_len
    have hgo := go_long
    generalize longL = L at hlong hgo ⊢
    refine ⟨_, rfl, .str (tx L), .str _, rfl, .str _, (fun h => by cases h), fun l' e => ?_⟩
    obtain rfl : L = l' := tx_inj (by injection e)
    refine ⟨by omega, fun h => by omega, fun _ p H3 us s3' hT r => ⟨szl, fun p1 np1 => ⟨szl, fun p2 np2 => ⟨szl, fun p3 np3 => ?_⟩⟩⟩⟩
    have sQ := ((sameUpd np1).trans (sameUpd np2)).trans (sameUpd (o := .tup [.ref p1, .ref p2]) np3)
    rw [hgo] at r
    have im : Im K _ (.ref p3) (.tuple [tok ("name", .str "a") 1 20000, tok ("end", .str "") 1 20001]) :=
      Im.new np3 (.cons (Im.kt (Same.kt (sameUpd np2)) (Im.new np1 (.cons (.str _) (.cons (.str _) (.cons (.int _) (.one (.int _))))))) (.one (Im.new np2 (.cons (.str _) (.cons (.str _) (.cons (.int _) (.one (.int _))))))))
    refine ⟨.ref p, .ref p3, _, rfl, .tup (SqT.same sQ hT) (Ims.dp (Ims.kt (Same.kt sQ) r)), Im.dp im, long_okd, _, rfl, ?_⟩
    have T4 := tabs_same T2 (s3'.trans sQ)
    clear im
    generalize upd _ p3 (HO.tup [.ref p1, .ref p2]) = H4 at T4 ⊢
    -- _law_heard(lambda: tokens(long + ' '))
    refine ifF rfl ⟨T4, fun H5 eN T5 => ⟨_, rfl, .str (by rw [tx_len, hlong, sizeLine_eq]; decide +kernel) ?_⟩⟩
    rw [show tx L ++ (" " : Str) = tx (L ++ [32]) from by rw [show (" " : Str) = tx [32] by decide +kernel, tx_app]]
    refine ⟨.str (tx (L ++ [32])), .str _, rfl, .str _, (fun h => by cases h), fun l' e => ?_⟩
    obtain rfl : L ++ [32] = l' := tx_inj (by injection e)
    have hl2 : (L ++ [32]).length = 20001 := by rw [List.length_append, hlong]; rfl
    refine ⟨by omega, fun _ dd H6 sx hdd σ hl => ?_, fun h => by omega⟩
    obtain ⟨u, v, rfl⟩ : ∃ u v, σ = [u, v] := by
      match σ, hl with
      | [u, v], _ => exact ⟨u, v, rfl⟩
    refine ⟨false, e1, (fun h => by cases h), fun _ => ⟨false, e2, (fun h => by cases h), fun _ => ⟨false, e3, (fun h => by cases h), fun _ => ⟨false, e4, (fun h => by cases h), fun _ => ⟨false, e5, (fun h => by cases h), fun _ => ⟨true, x_TooLarge.te, fun _ a' na => ?_, fun h => by cases h⟩⟩⟩⟩⟩⟩
    refine ⟨.ref a', rfl, rfl, rfl, dd, _, _, rfl, hdd, rfl, .ref a', rfl, rfl, rfl, dd, _, _, rfl, hdd, rfl, szl, fun p4 np4 => ⟨szl, fun p5 np5 => ?_⟩⟩
    have iA : Im K _ (.ref p4) (.tuple [.str "TooLarge", .str "signs", .int 20000]) := Im.new np4 (.cons (.str _) (.cons (.str _) (.one (.int _))))
    have iB : Im K _ (.ref p5) (.tuple [.str "TooLarge", .str "signs", .int 20000]) := Im.new np5 (.cons (.str _) (.cons (.str _) (.one (.int _))))
    refine .dat (Im.dp (Im.kt (Same.kt (sameUpd np5)) iA)) (Im.dp iB) (by decide +kernel) (by decide +kernel) ⟨_, rfl, ?_⟩
    rw [show (!PyData.eqv (.tuple [.str "TooLarge", .str "signs", .int 20000]) (.tuple [.str "TooLarge", .str "signs", .int 20000])) = false by decide +kernel]
    have T6 := tabs_same T5 ((sx.trans (sameUpd np4)).trans (sameUpd (o := .tup [V.str "TooLarge", .str "signs", .int 20000]) np5))
    clear iA iB
    generalize upd _ p5 (HO.tup [V.str "TooLarge", .str "signs", .int 20000]) = H7 at T6 ⊢
    refine iteF ?_
    -- for thing in ..
    refine ⟨szl, fun q1 nq1 => ⟨szl, fun q2 nq2 => ⟨szl, fun q3 nq3 => ⟨szl, fun q4 nq4 => ⟨q4, rfl, ⟨_, .inl (.inl upd_same)⟩, ?_⟩⟩⟩⟩⟩
    have sA := (((sameUpd nq1).trans (sameUpd nq2)).trans (sameUpd nq3)).trans (sameUpd (o := .tup [V.non, .int 0, .ref q1, .ref q2, .ref q3]) nq4)
    have T8 := tabs_same T6 sA
    have f1 := (((sameUpd nq2).trans (sameUpd nq3)).trans (sameUpd (o := .tup [V.non, .int 0, .ref q1, .ref q2, .ref q3]) nq4)) _ _ upd_same
    have f2 := ((sameUpd nq3).trans (sameUpd (o := .tup [V.non, .int 0, .ref q1, .ref q2, .ref q3]) nq4)) _ _ upd_same
    have f3 := (sameUpd (o := .tup [V.non, .int 0, .ref q1, .ref q2, .ref q3]) nq4) _ _ upd_same
    generalize eH : upd _ q4 (HO.tup [V.non, .int 0, .ref q1, .ref q2, .ref q3]) = H8 at T8 f1 f2 f3 ⊢
    have f4 : H8 q4 = some (.tup [V.non, .int 0, .ref q1, .ref q2, .ref q3]) := by rw [← eH]; exact upd_same
    clear eH sA nq1 nq2 nq3 nq4
    refine for_tup (xs := [V.non, .int 0, .ref q1, .ref q2, .ref q3]) (Pv := fun i σ H9 => ∃ (s9 : Option V), σ = [some (.ref a), some (.ref b), s2, s3, s4, s5, s6, s7, some (.str (tx L)), s9] ∧ LamX.Tabs (tabsOf K [("law", none)]) H9 ∧ H9 q4 = some (.tup [V.non, .int 0, .ref q1, .ref q2, .ref q3]) ∧ H9 q1 = some (.tup []) ∧ H9 q2 = some (.tup [.str "a"]) ∧ H9 q3 = some (.lst [.str "a"]))
      ⟨_, rfl, T8, f4, f1, f2, f3⟩ (fun i σ H9 _ z => ?_) (fun i x σ H9 hx z => ?_) (fun σ H9 z => ?_)
    · obtain ⟨s9, _, _, g4, _⟩ := z
      exact .inl (.inl g4)
    · obtain ⟨s9, rfl, T9, g4, g1, g2, g3⟩ := z
      refine ⟨T9, fun H10 eN T10 => ?_⟩
      have h1 := extN_tup eN g1
      have h2 := extN_tup eN g2
      have h3 := extN_lst eN g3
      have h4 := extN_tup eN g4
      obtain ⟨d, hd, hno⟩ : ∃ d, Dp K H10 x d ∧ isT d "str" = false := by
        have m := List.mem_of_getElem? hx
        rcases List.mem_cons.mp m with rfl | m
        · exact ⟨_, .non, by decide⟩
        rcases List.mem_cons.mp m with rfl | m
        · exact ⟨_, .int 0, by decide⟩
        rcases List.mem_cons.mp m with rfl | m
        · exact ⟨.tuple [], .tup (.inl (.inl h1)) .nil, by decide⟩
        rcases List.mem_cons.mp m with rfl | m
        · exact ⟨.tuple [.str "a"], .tup (.inl (.inl h2)) (.cons (.str _) .nil), by decide⟩
        obtain rfl := List.mem_singleton.mp m
        exact ⟨.list [.str "a"], .lst (SqL.of h3) (.cons (.str _) .nil), by decide⟩
      refine ⟨x, rfl, x, d, rfl, hd, fun _ σ hl => ⟨true, x_Nothing.me, fun _ a' na => ?_, fun h => by cases h⟩, fun l' e => ?_⟩
      · refine ⟨szl, fun p4 np4 => ⟨szl, fun p5 np5 => ?_⟩⟩
        have iA : Im K _ (.ref p4) (.tuple [.str "Nothing"]) := Im.new np4 (.one (.str _))
        have iB : Im K _ (.ref p5) (.tuple [.str "Nothing"]) := Im.new np5 (.one (.str _))
        refine .dat (Im.dp (Im.kt (Same.kt (sameUpd np5)) iA)) (Im.dp iB) (by decide +kernel) (by decide +kernel) ⟨_, rfl, ?_⟩
        rw [show (!PyData.eqv (.tuple [.str "Nothing"]) (.tuple [.str "Nothing"])) = false by decide +kernel]
        have sC := (sameUpd np4).trans (sameUpd (o := .tup [V.str "Nothing"]) np5)
        exact iteF ⟨_, rfl, tabs_same T10 sC, sC _ _ h4, sC _ _ h1, sC _ _ h2, sC _ _ h3⟩
      · subst e
        obtain rfl : d = .str (tx l') := by cases hd; rfl
        cases hno
    · exact q _
end
end K02
set_option maxRecDepth 100000
set_option maxHeartbeats 0
namespace K02
open PySem PySem.Spec PyProof.Rows
open L2 Hk
def fn : List He.DefD := [⟨("is_name", none), "is_name", "is_name", defArgs s_is_name, defBody s_is_name, defScope s_is_name, [], []⟩,
  ⟨("end_of_run", none), "end_of_run", "end_of_run", defArgs s_end_of_run, defBody s_end_of_run, defScope s_end_of_run, [], []⟩,
  ⟨("is_figures", none), "is_figures", "is_figures", defArgs s_is_figures, defBody s_is_figures, defScope s_is_figures, [], []⟩,
  ⟨("run_token", none), "run_token", "run_token", defArgs s_run_token, defBody s_run_token, defScope s_run_token, [], []⟩,
  ⟨("token_at", none), "token_at", "token_at", defArgs s_token_at, defBody s_token_at, defScope s_token_at, [], []⟩,
  ⟨("tokens", none), "tokens", "tokens", defArgs s_tokens, defBody s_tokens, defScope s_tokens, [], []⟩,
  ⟨("_law_bag", none), "_law_bag", "_law_bag", defArgs s_law_bag, defBody s_law_bag, defScope s_law_bag, [], []⟩,
  ⟨("_law_take", none), "_law_take", "_law_take", defArgs s_law_take, defBody s_law_take, defScope s_law_take, [], []⟩,
  ⟨("_law_some", none), "_law_some", "_law_some", defArgs s_law_some, defBody s_law_some, defScope s_law_some, [], []⟩,
  ⟨("_law_alike", none), "_law_alike", "_law_alike", defArgs s_law_alike, defBody s_law_alike, defScope s_law_alike, [], []⟩,
  ⟨("_law_heard", none), "_law_heard", "_law_heard", defArgs s_law_heard, defBody s_law_heard, defScope s_law_heard, [], []⟩,
  ⟨("_law_words", none), "_law_words", "_law_words", defArgs s_law_words, defBody s_law_words, defScope s_law_words, [], []⟩,
  ⟨("_law_run", none), "_law_run", "_law_run", defArgs s_law_run, defBody s_law_run, defScope s_law_run, [], []⟩,
  ⟨("_law_tokens", none), "_law_tokens", "_law_tokens", defArgs s_law_tokens, defBody s_law_tokens, defScope s_law_tokens, [], []⟩,
  ⟨("law", none), "law", "law", defArgs s_law, defBody s_law, defScope s_law, [], []⟩]
def fa : List He.Fa := [.glo "is_name", .glo "end_of_run", .glo "is_figures", .glo "run_token", .glo "token_at", .glo "tokens", .glo "_law_bag", .glo "_law_take", .glo "_law_some", .glo "_law_alike", .glo "_law_heard", .glo "_law_words", .glo "_law_run", .glo "_law_tokens", .glo "law", .str "LETTERS" "abcdefghijklmnopqrstuvwxyz", .str "DIGITS" "0123456789", .int "MOST_LETTERS" 8, .glo "RESERVED", .int "MOST_SIGNS" 20000, .int "MOST_FIGURES" 4, .glo "MapError", .glo "BadText", .glo "BadWorld", .glo "BadProgram", .glo "NoCommand", .glo "Nothing", .glo "TooLarge", .exc "MapError", .exc "Nothing", .exm "MapError" "MapError" true, .exm "MapError" "BadText" false, .exm "MapError" "BadWorld" false, .exm "MapError" "BadProgram" false, .exm "MapError" "NoCommand" false, .exm "MapError" "Nothing" false, .exm "MapError" "TooLarge" false, .exm "BadText" "MapError" true, .exm "BadText" "BadText" true, .exm "BadText" "BadWorld" false, .exm "BadText" "BadProgram" false, .exm "BadText" "NoCommand" false, .exm "BadText" "Nothing" false, .exm "BadText" "TooLarge" false, .exm "BadWorld" "MapError" true, .exm "BadWorld" "BadText" false, .exm "BadWorld" "BadWorld" true, .exm "BadWorld" "BadProgram" false, .exm "BadWorld" "NoCommand" false, .exm "BadWorld" "Nothing" false, .exm "BadWorld" "TooLarge" false, .exm "BadProgram" "MapError" true, .exm "BadProgram" "BadText" false, .exm "BadProgram" "BadWorld" false, .exm "BadProgram" "BadProgram" true, .exm "BadProgram" "NoCommand" false, .exm "BadProgram" "Nothing" false, .exm "BadProgram" "TooLarge" false, .exm "NoCommand" "MapError" true, .exm "NoCommand" "BadText" false, .exm "NoCommand" "BadWorld" false, .exm "NoCommand" "BadProgram" false, .exm "NoCommand" "NoCommand" true, .exm "NoCommand" "Nothing" false, .exm "NoCommand" "TooLarge" false, .exm "Nothing" "MapError" true, .exm "Nothing" "BadText" false, .exm "Nothing" "BadWorld" false, .exm "Nothing" "BadProgram" false, .exm "Nothing" "NoCommand" false, .exm "Nothing" "Nothing" true, .exm "Nothing" "TooLarge" false, .exm "TooLarge" "MapError" true, .exm "TooLarge" "BadText" false, .exm "TooLarge" "BadWorld" false, .exm "TooLarge" "BadProgram" false, .exm "TooLarge" "NoCommand" false, .exm "TooLarge" "Nothing" false, .exm "TooLarge" "TooLarge" true, .free "abs", .free "all", .free "int", .free "isinstance", .free "len", .free "range", .free "repr", .free "str", .free "super", .free "tuple"]
abbrev R : PySem.W.OpenRow := PySem.W.OpenLaw.row PySem.Challenge.rw_everymap_k02_tokens_with_their_places
def exs (K : PySem.W.Frag) : Bool := (xfB K (He.ga K "NoCommand") && (decide (PySem.W.findIn K (.ref (He.ga K "NoCommand")) "line" = some none))) && (He.tupB K "RESERVED" [.str "ahead", .str "all", .str "allset", .str "and", .str "behind", .str "colour", .str "contract", .str "else", .str "end", .str "follow", .str "hue", .str "if", .str "in", .str "kept", .str "next", .str "not", .str "nothing", .str "or", .str "p", .str "paint", .str "program", .str "put", .str "q", .str "question", .str "reach", .str "run", .str "s", .str "same", .str "some", .str "someset", .str "t", .str "there", .str "turn", .str "u", .str "v", .str "w", .str "while", .str "world", .str "x", .str "y", .str "yes", .str "z"] && (true))
def ask : Ask := ⟨R.prog, fa, fn, [("law", none)], [in_BadText, in_BadWorld, in_BadProgram, in_TooLarge], exs⟩
abbrev hk : PySem.W.Hook := hookY 5 ask
def obs (s : PySem.W.SharedT) : AlY := obsY 5 ask (HandSHeadRun.getT s)
theorem obs_eq (s : PySem.W.SharedT) : obs s = hk.obs s.abs := obsY_eq (HandSHeadRun.getT_eq s)
def loose : List PySem.Str := (["_wall", "MapError", "BadText", "BadWorld", "BadProgram", "NoCommand", "Nothing", "TooLarge", "LETTERS", "DIGITS", "MOST_LETTERS", "RESERVED", "is_name", "MOST_SIGNS", "MOST_FIGURES", "end_of_run", "is_figures", "run_token", "token_at", "tokens", "_law_bag", "_law_take", "_law_some", "_law_alike", "_law_heard", "_law_words", "_law_run", "_law_tokens"] : List PySem.Str)
theorem ran (w : World) : HandSHeadRun.RunEq R (PySem.W.view R.prog [32]) hk obs 20000 loose w := by
  intro os
  kernel_rfl
theorem fact (K : PySem.W.Frag) (c : He.SaysD fa fn K) (i : Nat) {f : He.Fa} (h : fa[i]? = some f := by rfl) : f.ok K = true := c.fact i h
theorem all_ok {w : World} {K : PySem.W.Frag} {mg : Str → Option Value} {h : Heap} (X : K.In h) (G : h.Ns mainGlobals mg) (c : SaysY ask h K) (base : Heap) (TB : ∀ p ∈ ask.tf, LamX.TabB base mg (He.cT K p).1 (He.cT K p).2) : HasG R.prog w K mg base CX0 "law" 7 ["script"] (spLawT K ask.tf) := by
  have S_is_name : Src K mg "is_name" s_is_name := src_of X G c.d 0 0
  have S_end_of_run : Src K mg "end_of_run" s_end_of_run := src_of X G c.d 1 1
  have S_is_figures : Src K mg "is_figures" s_is_figures := src_of X G c.d 2 2
  have S_run_token : Src K mg "run_token" s_run_token := src_of X G c.d 3 3
  have S_token_at : Src K mg "token_at" s_token_at := src_of X G c.d 4 4
  have S_tokens : Src K mg "tokens" s_tokens := src_of X G c.d 5 5
  have S_law_bag : Src K mg "_law_bag" s_law_bag := src_of X G c.d 6 6
  have S_law_take : Src K mg "_law_take" s_law_take := src_of X G c.d 7 7
  have S_law_some : Src K mg "_law_some" s_law_some := src_of X G c.d 8 8
  have S_law_alike : Src K mg "_law_alike" s_law_alike := src_of X G c.d 9 9
  have S_law_heard : Src K mg "_law_heard" s_law_heard := src_of X G c.d 10 10
  have S_law_words : Src K mg "_law_words" s_law_words := src_of X G c.d 11 11
  have S_law_run : Src K mg "_law_run" s_law_run := src_of X G c.d 12 12
  have S_law_tokens : Src K mg "_law_tokens" s_law_tokens := src_of X G c.d 13 13
  have S_law : SrcC K mg "law" s_law := srcC_of X G c.d 14 14
  have c_LETTERS : ∃ t, mg "LETTERS" = some (.str "abcdefghijklmnopqrstuvwxyz" t) := str_of X G c.d 15
  have c_DIGITS : ∃ t, mg "DIGITS" = some (.str "0123456789" t) := str_of X G c.d 16
  have c_MOST_LETTERS : ∃ t, mg "MOST_LETTERS" = some (.int 8 t) := int_of X G c.d 17
  have c_RESERVED : mg "RESERVED" = some (.ref (He.ga K "RESERVED")) := He.glo_ok X G (c.d.fact 18)
  have c_MOST_SIGNS : ∃ t, mg "MOST_SIGNS" = some (.int 20000 t) := int_of X G c.d 19
  have c_MOST_FIGURES : ∃ t, mg "MOST_FIGURES" = some (.int 4 t) := int_of X G c.d 20
  have m_abs : mg "abs" = none := free_of X G c.d 79
  have m_all : mg "all" = none := free_of X G c.d 80
  have m_int : mg "int" = none := free_of X G c.d 81
  have m_isinstance : mg "isinstance" = none := free_of X G c.d 82
  have m_len : mg "len" = none := free_of X G c.d 83
  have m_range : mg "range" = none := free_of X G c.d 84
  have m_repr : mg "repr" = none := free_of X G c.d 85
  have m_str : mg "str" = none := free_of X G c.d 86
  have m_super : mg "super" = none := free_of X G c.d 87
  have m_tuple : mg "tuple" = none := free_of X G c.d 88
  have x_MapError := exc_of (x := "MapError") X G c.d 21 28 30
  have g_MapError : mg "MapError" = some (.ref (He.ga K "MapError")) := He.glo_ok X G (c.d.fact 21)
  have g_BadText : mg "BadText" = some (.ref (He.ga K "BadText")) := He.glo_ok X G (c.d.fact 22)
  have g_BadWorld : mg "BadWorld" = some (.ref (He.ga K "BadWorld")) := He.glo_ok X G (c.d.fact 23)
  have g_BadProgram : mg "BadProgram" = some (.ref (He.ga K "BadProgram")) := He.glo_ok X G (c.d.fact 24)
  have g_NoCommand : mg "NoCommand" = some (.ref (He.ga K "NoCommand")) := He.glo_ok X G (c.d.fact 25)
  have x_Nothing := exc_of (x := "Nothing") X G c.d 26 29 70
  have g_Nothing : mg "Nothing" = some (.ref (He.ga K "Nothing")) := He.glo_ok X G (c.d.fact 26)
  have g_TooLarge : mg "TooLarge" = some (.ref (He.ga K "TooLarge")) := He.glo_ok X G (c.d.fact 27)
  have x_BadText : ExcT R.prog K mg "BadText" (He.ga K "BadText") "line" "column" := c.two X G 22 0 in_BadText_ok m_super
  obtain ⟨xf_BadText, no_BadText_line, no_BadText_column⟩ := x_BadText.xf
  have x_BadWorld : ExcT R.prog K mg "BadWorld" (He.ga K "BadWorld") "where" "fault" := c.two X G 23 1 in_BadWorld_ok m_super
  obtain ⟨xf_BadWorld, no_BadWorld_where, no_BadWorld_fault⟩ := x_BadWorld.xf
  have x_BadProgram : ExcT R.prog K mg "BadProgram" (He.ga K "BadProgram") "where" "fault" := c.two X G 24 2 in_BadProgram_ok m_super
  obtain ⟨xf_BadProgram, no_BadProgram_where, no_BadProgram_fault⟩ := x_BadProgram.xf
  have x_TooLarge : ExcT R.prog K mg "TooLarge" (He.ga K "TooLarge") "what" "limit" := c.two X G 27 3 in_TooLarge_ok m_super
  obtain ⟨xf_TooLarge, no_TooLarge_what, no_TooLarge_limit⟩ := x_TooLarge.xf
  have y0 : exs K = true := c.ex
  obtain ⟨z0, y1⟩ := He.ba y0
  have xf_NoCommand : XfC K (He.ga K "NoCommand") := xfB_ok (He.ba z0).1
  have no_NoCommand_line : PySem.W.findIn K (.ref (He.ga K "NoCommand")) "line" = some none := of_decide_eq_true (He.ba z0).2
  obtain ⟨z1, y2⟩ := He.ba y1
  have t_RESERVED := fun H : Hp => He.tupB_ok z1 H
  have e_Nothing_MapError : PySem.W.exmOne K (.ref (He.ga K "Nothing")) (.ref (He.ga K "MapError")) = some true := He.exm_ok (c.d.fact 65)
  have e_Nothing_BadText : PySem.W.exmOne K (.ref (He.ga K "Nothing")) (.ref (He.ga K "BadText")) = some false := He.exm_ok (c.d.fact 66)
  have e_Nothing_BadWorld : PySem.W.exmOne K (.ref (He.ga K "Nothing")) (.ref (He.ga K "BadWorld")) = some false := He.exm_ok (c.d.fact 67)
  have e_Nothing_BadProgram : PySem.W.exmOne K (.ref (He.ga K "Nothing")) (.ref (He.ga K "BadProgram")) = some false := He.exm_ok (c.d.fact 68)
  have e_Nothing_NoCommand : PySem.W.exmOne K (.ref (He.ga K "Nothing")) (.ref (He.ga K "NoCommand")) = some false := He.exm_ok (c.d.fact 69)
  have e_Nothing_Nothing : PySem.W.exmOne K (.ref (He.ga K "Nothing")) (.ref (He.ga K "Nothing")) = some true := He.exm_ok (c.d.fact 70)
  have e_Nothing_TooLarge : PySem.W.exmOne K (.ref (He.ga K "Nothing")) (.ref (He.ga K "TooLarge")) = some false := He.exm_ok (c.d.fact 71)
  have e_TooLarge_MapError : PySem.W.exmOne K (.ref (He.ga K "TooLarge")) (.ref (He.ga K "MapError")) = some true := He.exm_ok (c.d.fact 72)
  have e_TooLarge_BadText : PySem.W.exmOne K (.ref (He.ga K "TooLarge")) (.ref (He.ga K "BadText")) = some false := He.exm_ok (c.d.fact 73)
  have e_TooLarge_BadWorld : PySem.W.exmOne K (.ref (He.ga K "TooLarge")) (.ref (He.ga K "BadWorld")) = some false := He.exm_ok (c.d.fact 74)
  have e_TooLarge_BadProgram : PySem.W.exmOne K (.ref (He.ga K "TooLarge")) (.ref (He.ga K "BadProgram")) = some false := He.exm_ok (c.d.fact 75)
  have e_TooLarge_NoCommand : PySem.W.exmOne K (.ref (He.ga K "TooLarge")) (.ref (He.ga K "NoCommand")) = some false := He.exm_ok (c.d.fact 76)
  have e_TooLarge_Nothing : PySem.W.exmOne K (.ref (He.ga K "TooLarge")) (.ref (He.ga K "Nothing")) = some false := He.exm_ok (c.d.fact 77)
  have e_TooLarge_TooLarge : PySem.W.exmOne K (.ref (He.ga K "TooLarge")) (.ref (He.ga K "TooLarge")) = some true := He.exm_ok (c.d.fact 78)
  have n1 := ok_is_name (P := R.prog) (w := w) (base := base) S_is_name c_LETTERS c_DIGITS c_MOST_LETTERS c_RESERVED t_RESERVED m_isinstance m_str m_len m_all
  have n2 := ok_end_of_run (P := R.prog) (w := w) (base := base) S_end_of_run c_LETTERS c_DIGITS m_len
  have n3 := ok_is_figures (P := R.prog) (w := w) (base := base) S_is_figures c_DIGITS m_len m_all
  have n4 := ok_run_token S_run_token c_RESERVED t_RESERVED c_MOST_FIGURES m_int n1 n3
  have n5 := ok_token_at S_token_at n2 n4
  have n6 := ok_tokens S_tokens x_Nothing x_TooLarge c_MOST_SIGNS m_isinstance m_str m_len m_tuple n5
  have n7 := ok_law_bag (P := R.prog) (w := w) (base := base) S_law_bag m_abs
  have n8 := ok_law_take (P := R.prog) (w := w) (base := base) S_law_take m_int
  have n9 := ok_law_some (K := K) S_law_some m_len n8
  have n10 := ok_law_alike (P := R.prog) (w := w) (base := base) S_law_alike m_repr
  have n11 := ok_law_words (P := R.prog) (w := w) (base := base) S_law_words
  have n12 := ok_law_run S_law_run m_len m_int n11
  have n13 := ok_law_tokens S_law_tokens m_len n12
  exact ok_law S_law S_law_heard x_Nothing x_TooLarge g_Nothing g_BadText g_BadWorld g_BadProgram g_NoCommand g_TooLarge xf_BadText xf_BadWorld xf_BadProgram xf_NoCommand xf_TooLarge no_BadText_line no_BadText_column no_BadWorld_where no_BadWorld_fault no_BadProgram_where no_BadProgram_fault no_NoCommand_line no_TooLarge_what no_TooLarge_limit
    e_TooLarge_Nothing e_TooLarge_BadText e_TooLarge_BadWorld e_TooLarge_BadProgram e_TooLarge_NoCommand (TB _ (List.mem_singleton.mpr rfl)) m_range m_tuple m_len n7 n8 n9 n10 n11 n13 n6
end K02
open PySem PySem.W PySem.Calls PyProof.Rows
theorem PySem.Challenge.cw_everymap_k02_tokens_with_their_places_holds : PySem.Challenge.rw_everymap_k02_tokens_with_their_places.Holds := by
  w_on; o_law
  refine HandSHeadRun.head_any (r := OpenLaw.row PySem.Challenge.rw_everymap_k02_tokens_with_their_places) (q := view (OpenLaw.row PySem.Challenge.rw_everymap_k02_tokens_with_their_places).prog [32]) (H := K02.hk) (ob := K02.obs) (M := 20000) (loose := K02.loose) (d := HandSHeadRun.topDef (OpenLaw.row PySem.Challenge.rw_everymap_k02_tokens_with_their_places).prog 32) (kwd := []) K02.obs_eq
    (by kernel_rfl) (fun s => by kernel_rfl) K02.ran (by kernel_rfl) (by kernel_rfl) (by kernel_rfl) (by rfl) (by first | assumption | decide +kernel) (by decide +kernel) ⟨rfl, rfl, rfl, rfl, rfl, by decide +kernel⟩ ?hw ?hc
  case hw => w_witness2
  case hc => exact Hk.law_endY (k := 7) rfl (by kernel_rfl) (by kernel_rfl) ⟨rfl, by decide, by decide⟩ (fun w K mg h X G c base TB => K02.all_ok X G c base TB)
#print axioms PySem.Challenge.cw_everymap_k02_tokens_with_their_places_holds
