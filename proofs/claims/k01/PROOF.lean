import PyProof.Rows.All
import Wide.All
import OpenK.AllK
import Wide.FinOn
import KE.KStateDown
import PyProof.ReprReads
import PyProof.ReprRoads
import HandS.ForMost
import HandS.WordsExc
import HandS.Defaults
import HandS.HeadEnd
import HandS.Small
import HandS.TryOnly
import HandS.TryMany
import HandS.Codes
import HandS.RaiseMore
import HandS.IsInst
import HandS.Conv
import HandS.TupAny
import PyProof.ReprLen
import HandS.Style
import HandS.Text
import PyProof.FitsInt
import HandS.Head0
import HandS.Head1
import HandS.Head2
import HandS.HeadHook1
import HandS.HeadHook2
import KE.KExcSuper
import KE.KSuper
import HandS.ExcInit
import HandS.ExcField
import HandS.Lambda
import HandS.HeadHook3
import HandS.HeadHook4
import HandS.EndTab
import KE.IntTextLaws
import HandS.Zip
import KE.KDictZip
import KE.GoesMore
import HandS.TupMul
import HandS.List
import HandS.Deep
import HandS.CallLocal
import PySem.Challenge.RW_everymap_k01_worlds_their_ways_and_rings
set_option Elab.async false
set_option linter.all false
set_option maxRecDepth 100000
set_option maxHeartbeats 2000000
namespace Hk
open PySem PySem.Spec PyProof.Rows
open L2
/-! ### a def's promise at a point where no repr is under way -/
structure FnG (P : Program) (w : World) (K : PySem.W.Frag) (mg : Str → Option Value) (base : Heap) (Z : CXT) (k : Nat) (f : Addr) (fd : FuncData) (ps : List Str) (sp : Sp) : Prop where
  lenG : ∀ xs G Y B, sp xs G Y B → xs.length = ps.length
  runG : ∀ (A : Around) (out : List Env) (s : Shared) (G : Hp) (ar : Args) (us : List Value) (xs : List V) (Y : VK) (B : XK), A.guards = some [] → Room k A → Env0 P w K mg base A out s G → BindsTo s fd ar (ps.zip us) →
    Vals xs us → sp xs G Y B → codeAny (model P w) A (.call (.ref f) ar) (CR Z out P w G s Y B) s
theorem FnG.ofOk {P : Program} {w : World} {K : PySem.W.Frag} {mg : Str → Option Value} {base : Heap} {Z : CXT} {k : Nat} {f : Addr} {fd : FuncData} {ps : List Str} {sp : Sp} (F : FnOk P w K mg base Z k f fd ps sp) : FnG P w K mg base Z k f fd ps sp :=
  ⟨F.len, fun A out s G ar us xs Y B _ hr e0 hb hv h => F.run A out s G ar us xs Y B hr e0 hb hv h⟩
/-- by its body -/
theorem fnG_of {Z : CXT} {P : Program} {w : World} {K : PySem.W.Frag} {mg : Str → Option Value} {base : Heap} {k : Nat} {f : Addr} {name qual : Str} {params : Arguments} {body : List Stmt} {scope : Scope} {dV kV doc pm cdv ct oc : Value} {an od : Option Addr}
    {osl : Array (Option Value)} {N ps : List Str} {sp : Sp} (lk : K.lookup f = some ⟨oc, od, .func (PySem.W.fnOf name qual params body scope dV kV doc pm an cdv ct), osl⟩) (hcd : PySem.W.codeIn K cdv qual = true) (S : FnScope N ps scope)
    (ln : ∀ xs G Y B, sp xs G Y B → xs.length = ps.length)
    (hb : ∀ (A : Around) (out : List Env) (s : Shared) (G : Hp) (xs : List V) (Y : VK) (B : XK), A.guards = some [] → Room k (A.deeper (envOfC qual scope s.heap.objs.size f cdv)) → sp xs G Y B →
      ∃ t, PSs (cxOf Z P w K mg base N qual scope f cdv A out s G B) body t ∧ t { nx := fun _ G' => Y .non G', rt := Y } (start N xs) G) :
    FnG P w K mg base Z (k + 1) f (PySem.W.fnOf name qual params body scope dV kV doc pm an cdv ct) ps sp := by
  refine ⟨ln, fun A out s G ar us xs Y B hg hr e0 hbd r hsp => ?_⟩
  have hl := ln _ _ _ _ hsp
  have KX : K.In s.heap := e0.mod.kin.keeps (fun b o e => (e0.bs b o e).1)
  have lim : s.heap.NoLimit := e0.mod.nolimit.keeps (fun b o e => (e0.bs b o e).1)
  have hkd : ∀ y ∈ ps.zip us, scope.names.lookup y.1 = some .local ∨ (scope.names.lookup y.1 = some .cell ∧ ((cellsFrom (s.heap.objs.size + 1) scope.names []).lookup y.1).isSome = true) := by
    rintro ⟨n, v⟩ hy
    rcases S.par n (List.of_mem_zip hy).1 with z | z
    · exact .inl z
    · exact .inr ⟨z, PySem.W.cellsFrom_some _ _ _ (.inl z)⟩
  refine codeAny_call_function hr.depth (KX _ _ lk) rfl S.co S.gen rfl (PySem.W.codeRec_of KX hcd) (hbd _ _ _ _ ?_)
  refine wpAny_newFunctionEnv_cells S.kind hkd (fun env he s1 x => ?_)
  subst he
  refine ⟨lim.keeps x.toInCall.keep, codeAny_func ?_⟩
  obtain ⟨t, ht, hq⟩ := hb A out s G xs Y B hg (hr.deeper _) hsp
  have I : Inv (cxOf Z P w K mg base N qual scope f cdv A out s G B) [] (start N xs) G s1 := inv_start S hr.hd e0 hl r x
  refine wpAny_mono (ht.run [] s1 (start N xs) G _ I hq) (fun fl s' hs => ?_) (fun _ _ hs => hs)
  cases fl with
  | ret u =>
    obtain ⟨v, σ', G', J, rv, z⟩ := hs
    exact ⟨v, G', J.os, J.bare, J.base, J.hok, rv, z⟩
  | next =>
    obtain ⟨σ', G', J, z⟩ := hs
    exact ⟨V.non, G', J.os, J.bare, J.base, J.hok, rfl, z⟩
  | brk =>
    obtain ⟨_, _, _, z⟩ := hs
    exact False.elim z
  | cont =>
    obtain ⟨_, _, _, z⟩ := hs
    exact False.elim z
theorem deeper_guards (A : Around) (env : Env) : (A.deeper env).guards = A.guards := rfl

/-! ### what the text says of a def, what a def is worth, by its name -/
/-- the def x of the text stands where the module's name x points -/
def Src (K : PySem.W.Frag) (mg : Str → Option Value) (x : Str) (st : Stmt) : Prop :=
  ∃ (f : Addr) (fd : FuncData), mg x = some (.ref f) ∧ FunD K x x (defArgs st) (defBody st) (defScope st) [] [] f fd
/-- how arguments come to the parameters: one each -/
def BindsE (fd : FuncData) (ps : List Str) : Prop := ∀ (s : Shared) (us : List Value), us.length = ps.length → BindsTo s fd ⟨us, []⟩ (ps.zip us)
theorem BindsE.b {K : PySem.W.Frag} {fd : FuncData} {ps : List Str} (h : BindsE fd ps) : Binds K fd ps [] := fun s us _ hl => by
  rw [List.append_nil] at hl ⊢
  exact h s us hl
/-- the def x keeps the promise sp -/
def Has (P : Program) (w : World) (K : PySem.W.Frag) (mg : Str → Option Value) (base : Heap) (Z : CXT) (x : Str) (k : Nat) (ps : List Str) (sp : Sp) : Prop :=
  ∃ (f : Addr) (fd : FuncData), mg x = some (.ref f) ∧ PySem.W.keepIn K (.ref f) = true ∧ BindsE fd ps ∧ FnOk P w K mg base Z k f fd ps sp
def HasG (P : Program) (w : World) (K : PySem.W.Frag) (mg : Str → Option Value) (base : Heap) (Z : CXT) (x : Str) (k : Nat) (ps : List Str) (sp : Sp) : Prop :=
  ∃ (f : Addr) (fd : FuncData), mg x = some (.ref f) ∧ PySem.W.keepIn K (.ref f) = true ∧ BindsE fd ps ∧ FnG P w K mg base Z k f fd ps sp
section
variable {P : Program} {w : World} {K : PySem.W.Frag} {mg : Str → Option Value} {base : Heap} {Z : CXT} {x : Str} {k : Nat} {ps N : List Str} {sp : Sp} {st : Stmt}
theorem Has.g (h : Has P w K mg base Z x k ps sp) : HasG P w K mg base Z x k ps sp := by
  obtain ⟨f, fd, a, b, c, F⟩ := h
  exact ⟨f, fd, a, b, c, .ofOk F⟩
/-- THE RULE: no exception leaves the def -/
theorem Src.has (S : Src K mg x st) (sc : FnScope N ps (defScope st))
    (bd : ∀ (kV doc pm : Value) (an : Option Addr) (cdv ct : Value) (us : List Value), us.length = ps.length → bindArgs (PySem.W.fnOf x x (defArgs st) (defBody st) (defScope st) .none kV doc pm an cdv ct) ⟨us, []⟩ = pure (ps.zip us))
    (ln : ∀ vs H Q E, sp vs H Q E → vs.length = ps.length)
    (body : ∀ (f : Addr) (cdv : Value) (A : Around) (out : List Env) (s : Shared) (H : Hp) (vs : List V) (Q : VK) (E : XK), Room k (A.deeper (envOfC x (defScope st) s.heap.objs.size f cdv)) → sp vs H Q E →
      ∃ t, PSs (cxOf CX0 P w K mg base N x (defScope st) f cdv A out s H E).nox (defBody st) t ∧ t { nx := fun _ H' => Q .non H', rt := Q } (start N vs) H) : Has P w K mg base CX0 x (k + 1) ps sp := by
  obtain ⟨f, fd, gm, F⟩ := S
  refine ⟨f, fd, gm, F.kp, F.bindsA bd, ?_⟩
  refine F.ok sc ln (fun cdv A out s H vs Q E hr h => ?_)
  obtain ⟨t, h1, h2⟩ := body f cdv A out s H vs Q E hr h
  exact ⟨t, h1.nox, h2⟩
/-- THE RULE: exceptions may leave the def -/
theorem Src.hasX (S : Src K mg x st) (sc : FnScope N ps (defScope st))
    (bd : ∀ (kV doc pm : Value) (an : Option Addr) (cdv ct : Value) (us : List Value), us.length = ps.length → bindArgs (PySem.W.fnOf x x (defArgs st) (defBody st) (defScope st) .none kV doc pm an cdv ct) ⟨us, []⟩ = pure (ps.zip us))
    (ln : ∀ vs H Q E, sp vs H Q E → vs.length = ps.length)
    (body : ∀ (f : Addr) (cdv : Value) (A : Around) (out : List Env) (s : Shared) (H : Hp) (vs : List V) (Q : VK) (E : XK), Room k (A.deeper (envOfC x (defScope st) s.heap.objs.size f cdv)) → sp vs H Q E →
      ∃ t, PSs (cxOf (L2.CX P w) P w K mg base N x (defScope st) f cdv A out s H E) (defBody st) t ∧ t { nx := fun _ H' => Q .non H', rt := Q } (start N vs) H) : Has P w K mg base (L2.CX P w) x (k + 1) ps sp := by
  obtain ⟨f, fd, gm, F⟩ := S
  exact ⟨f, fd, gm, F.kp, F.bindsA bd, F.ok sc ln (fun cdv A out s H vs Q E hr h => body f cdv A out s H vs Q E hr h)⟩
/-- THE RULE where repr is asked -/
theorem Src.hasG (S : Src K mg x st) (sc : FnScope N ps (defScope st))
    (bd : ∀ (kV doc pm : Value) (an : Option Addr) (cdv ct : Value) (us : List Value), us.length = ps.length → bindArgs (PySem.W.fnOf x x (defArgs st) (defBody st) (defScope st) .none kV doc pm an cdv ct) ⟨us, []⟩ = pure (ps.zip us))
    (ln : ∀ vs H Q E, sp vs H Q E → vs.length = ps.length)
    (body : ∀ (f : Addr) (cdv : Value) (A : Around) (out : List Env) (s : Shared) (H : Hp) (vs : List V) (Q : VK) (E : XK), A.guards = some [] → Room k (A.deeper (envOfC x (defScope st) s.heap.objs.size f cdv)) → sp vs H Q E →
      ∃ t, PSs (cxOf CX0 P w K mg base N x (defScope st) f cdv A out s H E).nox (defBody st) t ∧ t { nx := fun _ H' => Q .non H', rt := Q } (start N vs) H) : HasG P w K mg base CX0 x (k + 1) ps sp := by
  obtain ⟨f, fd, gm, F⟩ := S
  refine ⟨f, fd, gm, F.kp, F.bindsA bd, ?_⟩
  obtain ⟨oc, od, dV, kV, doc, pm, an, cdv, ct, osl, rfl, lk, hcd, _, _⟩ := F.ex
  refine fnG_of lk hcd sc ln (fun A out s H vs Q E hg hr h => ?_)
  obtain ⟨t, h1, h2⟩ := body f cdv A out s H vs Q E hg hr h
  exact ⟨t, h1.nox, h2⟩
end
section
variable {X : Cx} {Z : CXT} {k : Nat} {ps : List Str} {sp : Sp} {E : XK} {x : Str} {p pos : Pos} {e : Expr} {es : List Expr} {t : TA}
/-- x(e, ..) -/
theorem pe_has (h : Has X.prog X.w X.K X.mg X.base Z x k ps sp) (hr : Room k X.A) (hg : Gl X x) (hx : Passes Z X E) (ha : PA X (e :: es) t) (hdb : (x == ("__debug__" : Str)) = false := by decide)
    (he : starEach (e :: es) X.env = (false, eval e X.env) :: starEach es X.env := by rfl) (hpl : (backTo pos (starEach es X.env)).any (·.1) = false := by rfl) : PE X (.Call (.Name x p) (e :: es) [] pos) (tCall sp [] E t) := by
  obtain ⟨f, fd, a, b, c, F⟩ := h
  exact pe_call F hr hg a b c.b .nil hx ha hdb he hpl
theorem pe_has0 (h : Has X.prog X.w X.K X.mg X.base Z x k ps sp) (hr : Room k X.A) (hg : Gl X x) (hx : Passes Z X E) (hdb : (x == ("__debug__" : Str)) = false := by decide) : PE X (.Call (.Name x p) [] [] pos) (tCall sp [] E tNil) := by
  obtain ⟨f, fd, a, b, c, F⟩ := h
  exact pe_call0 F hr hg a b c.b .nil hx hdb
/-- the same of a def that asks repr -/
theorem pe_hasG (h : HasG X.prog X.w X.K X.mg X.base Z x k ps sp) (gd : X.A.guards = some []) (hr : Room k X.A) (hg : Gl X x) (hx : Passes Z X E) (ha : PA X (e :: es) t) (hdb : (x == ("__debug__" : Str)) = false := by decide)
    (he : starEach (e :: es) X.env = (false, eval e X.env) :: starEach es X.env := by rfl) (hpl : (backTo pos (starEach es X.env)).any (·.1) = false := by rfl) : PE X (.Call (.Name x p) (e :: es) [] pos) (tCall sp [] E t) := by
  obtain ⟨f, fd, a, b, c, F⟩ := h
  refine ⟨fun pins s σ H Q I hw => ?_⟩
  refine wpAny_Call_Name_kw (ld_glob I hg a ?_ hdb)
  refine PySem.W.callWith_K (h₀ := X.base) I.ok.mod.kin b (thn (ha.run pos pins s σ H _ I hw) fun us s1 ⟨vs, H1, I1, r, z⟩ => ⟨I1.kIn, ?_⟩) he hpl
  have r2 : Vals (vs ++ []) (us ++ []) := r.append .nil
  have hl : (us ++ []).length = ps.length := by rw [← r2.length]; exact F.lenG _ _ _ _ z
  refine wpAny_call (codeAny_mono (F.runG X.A X.stack s1 H1 ⟨us, []⟩ (us ++ []) (vs ++ []) Q E gd hr I1.env0 (c.b (K := X.K) s1 us I1.kIn hl) r2 z) fun r s' hq => ?_)
  cases r with
  | error ev => exact hx pins σ H1 s1 ev s' I1 hq
  | ok fl =>
    cases fl with
    | ret u => exact I1.after hq
    | next | brk | cont => exact False.elim hq
end
end Hk
set_option maxRecDepth 100000
set_option maxHeartbeats 2000000
namespace Hk
open PySem PySem.Spec PyProof.Rows
open L2
theorem law_callG {P : Program} {w : World} {K : PySem.W.Frag} {mg mb : Str → Option Value} {Z : CXT} {k : Nat} {fa a : Addr} {x : Str} {sp : Sp} {z : Shared} {vs : List Value} {ns : List Int}
    (KX : K.In z.heap) (hns : z.heap.Ns mainGlobals mg) (hb : z.heap.Ns builtinsNs mb) (hbb : ∀ y : Str, y ≠ "__name__" → mb y = bootBuiltins y) (lim : z.heap.NoLimit) (hg : z.gens = #[])
    (ha : z.heap.get? a = some { cls := .type "list", data := .seq vs.toArray }) (hi : IntsAre vs ns) (hl : ns.length ≤ sizeLine) (hr : Room k callerA)
    (F : ∀ base : Heap, K.In base → base.Ns mainGlobals mg → ∃ fd : FuncData, FnG P w K mg base Z k fa fd [x] sp ∧ ∀ (s : Shared) (u : Value), BindsTo s fd ⟨[u], []⟩ [(x, u)])
    (hsp : ∀ H : Hp, Only H → SqL K H a (ns.map V.int) → sp [.ref a] H (fun v _ => v = .bl true) fun _ _ _ => False)
    (hZ : ∀ H e s', Z [] H z (fun _ _ _ => False) e s' → False) :
    codeAny (model P w) callerA (.call (.ref fa) ⟨[.ref a], []⟩) (fun r s' => r = .ok (.ret (.bool true)) ∧ OldK z.heap s'.heap ∧ s'.os = z.os ∧ AllBare s'.gens) z := by
  have rv := vals_ints hi
  have lenV := hi.length
  have core : ∀ H : Hp, Only H → SqL K H a (ns.map V.int) → HOk P w H z.heap → (∀ b, H b ≠ none → b = a) → (H a ≠ none → K.lookup a = none) →
      codeAny (model P w) callerA (.call (.ref fa) ⟨[.ref a], []⟩) (fun r s' => r = .ok (.ret (.bool true)) ∧ OldK z.heap s'.heap ∧ s'.os = z.os ∧ AllBare s'.gens) z := by
    intro H hO hS hok hA hK
    have baseOf : ∀ {b : Addr} {o : Obj}, z.heap.get? b = some o → H b = none → (hidT z.heap H).get? b = some o := fun e n => hidT_get e n
    have isA : ∀ {b : Addr} {u : HO}, H b = some u → b = a := fun {b u} q => hA b (fun e => by rw [q] at e; cases e)
    have noA : ∀ {b : Addr} {o : Obj} {es : Array DictEntry} {ep : Nat}, z.heap.get? b = some o → o.data = .dict es ep → H b = none := by
      intro b o es ep e d
      cases q : H b with
      | none => rfl
      | some u =>
        obtain rfl := isA q
        rw [ha] at e; cases e
        cases (show Data.seq vs.toArray _ = Data.dict es ep from d)
    have nsK : ∀ {b : Addr} {m : Str → Option Value}, z.heap.Ns b m → (hidT z.heap H).Ns b m := fun ⟨o, es, ep, e, d, r⟩ => ⟨o, es, ep, baseOf e (noA e d), d, r⟩
    have hKb : K.In (hidT z.heap H) := fun b o e => baseOf (KX b o e) (by
      cases q : H b with
      | none => rfl
      | some u =>
        obtain rfl := isA q
        rw [hK (fun e => by rw [q] at e; cases e)] at e; cases e)
    have hM : Mod K mg (hidT z.heap H) := ⟨hKb, nsK hns, ⟨mb, nsK hb, hbb⟩, let ⟨mc, h1, h2⟩ := lim; ⟨mc, nsK h1, h2⟩⟩
    have none_in : ∀ b : Addr, b ∉ ([] : List Addr) := fun b => by simp
    have e0 : Env0 P w K mg (hidT z.heap H) callerA [] z H := ⟨rfl, hM, fun b o e => of_hidT e, Nat.le_of_eq (hidT_size _ _), trivial, fun b hb => absurd (show b ∈ ([] : List Addr) from hb) (none_in b), hok, .of_eq hg⟩
    obtain ⟨fd, FG, hbd⟩ := F _ hKb (nsK hns)
    refine codeAny_mono (FG.runG callerA [] z H ⟨[.ref a], []⟩ [.ref a] [.ref a] _ _ rfl hr e0 (hbd z (.ref a)) (.cons rfl .nil) (hsp H hO hS)) fun r s' h => ?_
    cases r with
    | error e => exact (hZ H e s' h).elim
    | ok fl =>
      cases fl with
      | next | brk | cont => exact False.elim h
      | ret u =>
        obtain ⟨v, H', os, bare, un, hok', r', q⟩ := h
        obtain rfl : v = .bl true := q
        obtain rfl : u = Value.bool true := r'
        refine ⟨rfl, OldK.of_keep fun b o e => ?_, os, bare⟩
        cases q : H b with
        | none => exact un.keep b o e q (fun y => absurd (show b ∈ ([] : List Addr) from y) (none_in b)) (none_in b)
        | some u =>
          rcases hO b with y | ⟨ob, xs, y⟩
          · rw [q] at y; cases y
          · obtain ⟨e1, _⟩ := hok b _ y
            obtain ⟨e2, _⟩ := hok' b _ (un.frzs b ob _ y)
            rw [e] at e1; cases e1
            exact e2
  cases hk : K.lookup a with
  | some o =>
    have e := KX a o hk
    rw [ha] at e
    cases e
    exact core (fun _ => none) (fun _ => .inl rfl) (.inr ⟨_, vs.toArray, _, hk, rfl, rfl, rfl, by rw [List.size_toArray, lenV]; exact hl, by simpa using rv⟩) (fun b u y => nomatch (show (none : Option HO) = some u from y)) (fun b y => absurd rfl y) (fun y => absurd rfl y)
  | none =>
    refine core (fun b => if b = a then some (.frz { cls := .type "list", data := .seq vs.toArray } (.lst (ns.map V.int))) else none) (fun b => ?_) (.inl (.inr ⟨{ cls := .type "list", data := .seq vs.toArray }, if_pos rfl⟩)) (fun b u y => ?_) (fun b y => ?_) (fun _ => hk)
    · by_cases hb : b = a
      · exact .inr ⟨_, _, if_pos hb⟩
      · exact .inl (if_neg hb)
    · by_cases hb : b = a
      · cases (if_pos hb).symm.trans y
        subst hb
        exact ⟨ha, by rw [List.length_map]; exact hl, vs, _, rv, ha⟩
      · cases (if_neg hb).symm.trans y
    · by_cases hb : b = a
      · exact hb
      · exact absurd (if_neg hb) y
/-- the law over a head by facts -/
theorem walk_ofG {l : PySem.W.OpenLaw} {n k : Nat} {q : Program} {loose : List Str} {XP : (Str → Option Value) → Heap → Prop} {YP : World → Heap → Prop} {d : DefRec} {Z : CXT} {x : Str}
    (hn : l.most = some n) (hn2 : n ≤ sizeLine) (hdf : d.params.defaults = []) (hr : Room k callerA)
    (F : ∀ (w : World) (mg : Str → Option Value) (fa : Addr) (h : Heap), YP w h → h.Ns mainGlobals mg → mg d.name = some (.ref fa) →
      ∃ (K : PySem.W.Frag) (sp : Sp), K.In h ∧
        (∀ (H : Hp) (a : Addr) (ns : List Int), ns.length ≤ n → Only H → SqL K H a (ns.map V.int) → sp [.ref a] H (fun v _ => v = .bl true) fun _ _ _ => False) ∧
        ∀ base : Heap, K.In base → base.Ns mainGlobals mg → ∃ fd : FuncData, FnG l.prog w K mg base Z k fa fd [x] sp ∧ ∀ (s : Shared) (u : Value), BindsTo s fd ⟨[u], []⟩ [(x, u)])
    (hZ : ∀ (H : Hp) (s : Shared) (e : Value) (s' : Shared), Z [] H s (fun _ _ _ => False) e s' → False) :
    PySem.W.WalkO q loose XP YP l.row.toRowW d [] (fun f vs => PySem.call f vs) := by
  refine Att.attach_call hn hdf (fun w s₀ z mg mb fa o pm cd doc a vs ns G Y ho hd hcd hmg hobj hints hlen hg => ?_)
  obtain ⟨K, sp, KX, hsp, hF⟩ := F w mg fa _ Y G.T.g hmg
  exact law_callG KX G.T.g G.T.b G.T.builtins G.T.nolimit hg hobj hints (Nat.le_trans hlen hn2) hr hF (fun H hO hS => hsp H a ns hlen hO hS) (fun H e s' => hZ H z e s')
end Hk
set_option maxRecDepth 100000
set_option maxHeartbeats 2000000
namespace Hk
open PySem PySem.Spec PyProof.Rows
open L2
/-! ### heaps -/
/-- tuples stay (they do under whatever a program does) -/
def KeepT (H H' : Hp) : Prop := (∀ a xs, H a = some (.tup xs) → H' a = some (.tup xs)) ∧ ∀ a o u, H a = some (.frz o u) → H' a = some (.frz o u)
theorem KeepT.refl (H : Hp) : KeepT H H := ⟨fun _ _ h => h, fun _ _ _ h => h⟩
theorem KeepT.trans {H H1 H2 : Hp} (a : KeepT H H1) (b : KeepT H1 H2) : KeepT H H2 := ⟨fun c xs h => b.1 c xs (a.1 c xs h), fun c o u h => b.2 c o u (a.2 c o u h)⟩
theorem Same.kt {H H' : Hp} (s : Same H H') : KeepT H H' := ⟨fun a xs h => s a _ h, fun a o u h => s a _ h⟩
theorem sameUpd {H : Hp} {p : Addr} {o : HO} (h : H p = none) : Same H (upd H p o) := fun b x e => by
  rw [upd_ne (ne_of_none e h)]; exact e
theorem ktUpd {H : Hp} {p : Addr} {xs : List V} {o : HO} (h : H p = some (.lst xs)) : KeepT H (upd H p o) := by
  refine ⟨fun a ys e => ?_, fun a ob u e => ?_⟩
  · rw [upd_ne (ne_of e h (fun z => nomatch z))]; exact e
  · rw [upd_ne (ne_of e h (fun z => nomatch z))]; exact e
/-- all but the object at b stays -/
def Keep1 (b : Addr) (H H' : Hp) : Prop := ∀ a o, a ≠ b → H a = some o → H' a = some o
theorem Keep1.refl (b : Addr) (H : Hp) : Keep1 b H H := fun _ _ _ h => h
theorem Keep1.trans {b : Addr} {H H1 H2 : Hp} (x : Keep1 b H H1) (y : Keep1 b H1 H2) : Keep1 b H H2 := fun a o n h => y a o n (x a o n h)
theorem Same.k1 {b : Addr} {H H' : Hp} (s : Same H H') : Keep1 b H H' := fun a o _ h => s a o h
theorem k1Upd {H : Hp} {b : Addr} {o : HO} : Keep1 b H (upd H b o) := fun a u n h => by rw [upd_ne n]; exact h
theorem Keep1.kt {b : Addr} {xs : List V} {H H' : Hp} (s : Keep1 b H H') (h : H b = some (.lst xs)) : KeepT H H' :=
  ⟨fun a ys e => s a _ (ne_of e h (fun z => nomatch z)) e, fun a o u e => s a _ (ne_of e h (fun z => nomatch z)) e⟩
theorem SqT.kt {K : PySem.W.Frag} {H H' : Hp} {a : Addr} {xs : List V} (s : KeepT H H') (h : SqT K H a xs) : SqT K H' a xs := by
  rcases h with (h | ⟨o, h⟩) | h
  · exact .inl (.inl (s.1 a xs h))
  · exact .inl (.inr ⟨o, s.2 a o _ h⟩)
  · exact .inr h
/-! ### data without lists -/
mutual
inductive Im (K : PySem.W.Frag) (H : Hp) : V → PyData → Prop
  | non : Im K H .non .none
  | bl (b : Bool) : Im K H (.bl b) (.bool b)
  | int (i : Int) : Im K H (.int i) (.int i)
  | str (x : Str) : Im K H (.str x) (.str x)
  | tup {a : Addr} {xs : List V} {ds : List PyData} (h : SqT K H a xs) (r : Ims K H xs ds) : Im K H (.ref a) (.tuple ds)
inductive Ims (K : PySem.W.Frag) (H : Hp) : List V → List PyData → Prop
  | nil : Ims K H [] []
  | cons {v : V} {vs : List V} {d : PyData} {ds : List PyData} (h : Im K H v d) (r : Ims K H vs ds) : Ims K H (v :: vs) (d :: ds)
end
section
variable {K : PySem.W.Frag} {H H' : Hp}
mutual
theorem Im.kt (s : KeepT H H') : ∀ {v : V} {d : PyData}, Im K H v d → Im K H' v d
  | _, _, .non => .non
  | _, _, .bl b => .bl b
  | _, _, .int i => .int i
  | _, _, .str x => .str x
  | _, _, .tup h r => .tup (SqT.kt s h) (Ims.kt s r)
theorem Ims.kt (s : KeepT H H') : ∀ {vs : List V} {ds : List PyData}, Ims K H vs ds → Ims K H' vs ds
  | _, _, .nil => .nil
  | _, _, .cons h r => .cons (Im.kt s h) (Ims.kt s r)
end
mutual
theorem Im.dp : ∀ {v : V} {d : PyData}, Im K H v d → Dp K H v d
  | _, _, .non => .non
  | _, _, .bl b => .bl b
  | _, _, .int i => .int i
  | _, _, .str x => .str x
  | _, _, .tup h r => .tup h (Ims.dp r)
theorem Ims.dp : ∀ {vs : List V} {ds : List PyData}, Ims K H vs ds → DpAll K H vs ds
  | _, _, .nil => .nil
  | _, _, .cons h r => .cons (Im.dp h) (Ims.dp r)
end
theorem Ims.len : ∀ {vs : List V} {ds : List PyData}, Ims K H vs ds → vs.length = ds.length
  | _, _, .nil => rfl
  | _, _, .cons _ r => congrArg (· + 1) (Ims.len r)
theorem Ims.app : ∀ {vs ws : List V} {ds es : List PyData}, Ims K H vs ds → Ims K H ws es → Ims K H (vs ++ ws) (ds ++ es)
  | _, _, _, _, .nil, s => s
  | _, _, _, _, .cons h r, s => .cons h (Ims.app r s)
theorem Ims.one {v : V} {d : PyData} (h : Im K H v d) : Ims K H [v] [d] := .cons h .nil
theorem Ims.get : ∀ {vs : List V} {ds : List PyData} {i : Nat} {v : V}, Ims K H vs ds → vs[i]? = some v → ∃ d, ds[i]? = some d ∧ Im K H v d
  | _, _, 0, v, .cons h _, e => ⟨_, rfl, by obtain rfl := Option.some.inj e; exact h⟩
  | _, _, i + 1, v, .cons _ r, e => Ims.get (i := i) r e
  | _, _, _, _, .nil, e => by simp at e
theorem Ims.get' : ∀ {vs : List V} {ds : List PyData} {i : Nat} {d : PyData}, Ims K H vs ds → ds[i]? = some d → ∃ v, vs[i]? = some v ∧ Im K H v d
  | _, _, 0, v, .cons h _, e => ⟨_, rfl, by obtain rfl := Option.some.inj e; exact h⟩
  | _, _, i + 1, v, .cons _ r, e => Ims.get' (i := i) r e
  | _, _, _, _, .nil, e => by simp at e
theorem Ims.drop : ∀ {vs : List V} {ds : List PyData} (n : Nat), Ims K H vs ds → Ims K H (vs.drop n) (ds.drop n)
  | _, _, 0, r => r
  | _, _, _ + 1, .nil => .nil
  | _, _, n + 1, .cons _ r => Ims.drop n r
theorem Ims.take : ∀ {vs : List V} {ds : List PyData} (n : Nat), Ims K H vs ds → Ims K H (vs.take n) (ds.take n)
  | _, _, 0, _ => .nil
  | _, _, _ + 1, .nil => .nil
  | _, _, n + 1, .cons h r => .cons h (Ims.take n r)
theorem Ims.ints : ∀ ns : List Int, Ims K H (ns.map V.int) (ns.map PyData.int)
  | [] => .nil
  | n :: ns => .cons (.int n) (Ims.ints ns)
theorem Ims.intsOf : ∀ {vs : List V} {ns : List Int}, Ims K H vs (ns.map PyData.int) → vs = ns.map V.int
  | _, [], .nil => rfl
  | _, n :: ns, .cons h r => by
    cases h
    rw [Ims.intsOf r]; rfl
end
/-! ### data that may be shown and compared -/
def okd (d : PyData) : Bool := SeqAt.shaped d && (d.showable && (d.leavesShort 13 && decide (d.weight ≤ 1048576)))
section
variable {d : PyData}
theorem okd.shaped (h : okd d = true) : SeqAt.shaped d = true := (Bool.and_eq_true_iff.mp h).1
theorem okd.showable (h : okd d = true) : d.showable = true := (Bool.and_eq_true_iff.mp (Bool.and_eq_true_iff.mp h).2).1
theorem okd.dict (h : okd d = true) : d.hasDict = false := PyData.hasDict_of_canLay d (SeqAt.canLay_of_shaped (okd.shaped h))
theorem okd.short (h : okd d = true) : d.shown.length ≤ sizeLine := by
  have h1 := Bool.and_eq_true_iff.mp (Bool.and_eq_true_iff.mp (Bool.and_eq_true_iff.mp h).2).2
  exact PyData.shown_fits (B := 13) (by decide) (by decide) h1.1 (Nat.le_trans (of_decide_eq_true h1.2) (by decide))
theorem okd.refl (h : okd d = true) : PyData.eqv d d = true := SeqAt.eqv_refl d (SeqAt.canLay_of_shaped (okd.shaped h))
end
section
variable {X : Cx}
/-- repr(x), x data -/
def rRepr (K : PySem.W.Frag) : List V → Hp → VK → Prop := fun xs H Q => ∃ x d, xs = [x] ∧ Dp K H x d ∧ okd d = true ∧ Q (.str d.shown) H
theorem call_reprD (gd : X.A.guards = some []) (hu : X.A.units + 66 < cLine) : CallR X (.builtin "repr") (rRepr X.K) := by
  intro pins s σ H xs us Q I r h
  obtain ⟨x, d, rfl, hd, ok, q⟩ := h
  obtain ⟨u, rfl, ru⟩ := vals1 r
  have hdep : d.depth ≤ 64 := SeqAt.depth_of_shaped (okd.shaped ok)
  have big : ∀ a : Addr, x = .ref a → wpAny (model X.prog X.w) X.A (call (.builtin "repr") [u]) (EP X pins σ Q) X.xe s := by
    rintro a rfl
    obtain ⟨as, rd⟩ := Dp.reads I d _ _ hd ru
    obtain rfl : u = Value.ref a := ru
    exact repr_of_reads' rd (okd.showable ok) (PyData.noDict_hsm (okd.dict ok)) gd (by omega) (fun _ _ e => e) (fun h' tu tk hk => ⟨.str d.shown, H, I.kept hk, ⟨tu, rfl⟩, q⟩) (okd.short ok)
  cases hd with
  | non =>
    obtain rfl : u = Value.none := ru
    exact PySem.P.repr_of_none ⟨.str _, H, I.tok _, ⟨_, rfl⟩, q⟩
  | bl b =>
    obtain rfl : u = Value.bool b := ru
    refine PySem.P.repr_of_bool ⟨.str (PyData.bool b).shown, H, I.tok _, ⟨s.toks, ?_⟩, q⟩
    cases b <;> rfl
  | int i =>
    obtain ⟨t, rfl⟩ := ru
    exact PySem.P.repr_of_int (of_decide_eq_true (okd.showable ok)) ⟨.str _, H, I.tok _, ⟨_, rfl⟩, q⟩
  | str z =>
    obtain ⟨t, rfl⟩ := ru
    exact PySem.P.repr_of_str ⟨.str _, H, I.tok _, ⟨_, rfl⟩, q⟩ (okd.short ok)
  | lst _ _ => exact big _ rfl
  | tup _ _ => exact big _ rfl
/-- xs[i] of a list, for xs[i] op= e -/
def rGetL (K : PySem.W.Frag) : V → V → Hp → VK → Prop := fun o i H Q => ∃ (p : Addr) (xs : List V) (k : Nat) (v : V), o = .ref p ∧ i = .int k ∧ SqL K H p xs ∧ xs[k]? = some v ∧ Q v H
theorem get_list : PGet X (rGetL X.K) := by
  intro pins s σ H o i ov iv Q I ro ri h
  obtain ⟨p, xs, k, v, rfl, rfl, hS, hv, q⟩ := h
  obtain rfl : ov = Value.ref p := ro
  obtain ⟨t, rfl⟩ := ri
  obtain ⟨its, rv, pl, hz⟩ := I.list hS
  obtain ⟨u, eu, ru⟩ := rv.get hv
  have hk : k < xs.length := (List.getElem?_eq_some_iff.mp hv).1
  have hn := line63
  exact wpAny_getItem_list pl.isList (Int.natCast_nonneg k) (by omega) (by simpa using eu) ⟨v, H, I, ru, q⟩
/-- raise C(), C an own class over ValueError -/
theorem pmk_own0 {C : Addr} {bmB : List Value} {B newId initId : String} {x : Str} {p pos : Pos} (F : ExcBaseFacts B newId initId bmB) (q : PySem.W.excIn X.K C bmB newId = true) (gC : X.mg x = some (.ref C)) (kC : PySem.W.keepIn X.K (.ref C) = true)
    (r : Raises X (.ref C)) (hg : Gl X x) (hdb : (x == ("__debug__" : Str)) = false := by decide) : PMk X (.Call (.Name x p) [] [] pos) (fun _ H Q => Q (.ref C) none H) := by
  intro pins s σ H Q I h
  refine wpAny_Call_Name_kw (ld_glob I hg gC ?_ hdb)
  refine PySem.W.callWith_K0 I.kIn kC ?_
  show wpAny _ _ (call (.ref C) []) _ _ _
  obtain ⟨bm, N, nm, qn, bs, hdct, sn, sub, ab, col, dd, k0, k1, k2, k3, k5, mN, hC, hN, hni, T⟩ := exc_obj I.kIn q
  exact wpAny_call_exc_subT F T hC hN hni (fun h' e hm => mk_of I hm r h (I.hok.gone hm.new)) (Nat.zero_le _)
end
end Hk
set_option maxRecDepth 100000
set_option maxHeartbeats 2000000
namespace Hk
open PySem PySem.Spec PyProof.Rows
open L2
abbrev lo (xs : List Value) (n : Nat) : Obj := { cls := .type "list", data := .seq xs.toArray n }
section
variable {prog : Program} {w : World} {A : Around} {R : Result → Shared → Prop} {I l : Addr}
/-- the loop over a list of lists: the state's list at S holds the sum so far, at T -/
theorem sumLists_loop (hh : A.handled = none) (hne : l ≠ I) (bs : List Addr) (its : List (List Value)) (hlen : its.length = bs.length) (S : Addr) (hSI : S ≠ I) (hSl : S ≠ l) :
    ∀ (k i : Nat) (s : Shared) (T : Addr) (acc : List Value) (c cT : Nat), bs.length - i = k → i ≤ bs.length → s.heap.IsListIter I l i → s.heap.IsList l (bs.map Value.ref).toArray →
    s.heap.get? S = some { cls := .type "list", dict := none, data := .seq #[.ref T] c, slots := #[] } → s.heap.get? T = some (lo acc cT) → T ≠ I → T ≠ S →
    (∀ (j : Nat) (b : Addr), i ≤ j → bs[j]? = some b → ∃ (xs : List Value) (n : Nat), its[j]? = some xs ∧ s.heap.get? b = some (lo xs n) ∧ b ≠ I ∧ b ≠ S) → acc.length + (its.drop i).flatten.length ≤ sizeLine →
    (∀ h' tk p cp, (∀ b o, b ≠ I → b ≠ S → s.heap.get? b = some o → h'.get? b = some o) → (p = T ∧ i = bs.length ∨ s.heap.objs.size ≤ p) → h'.get? p = some (lo (acc ++ (its.drop i).flatten) cp) → R (.ok (.ret (.ref p))) { s with heap := h', toks := tk }) →
    codeAny (model prog w) A (.builtin "sum.loop" ⟨[.ref I, .ref S, rawInt 2, rawInt 0], []⟩) R s := by
  have W : Walks prog w A.in1 I [I, l] [I] (bs.map Value.ref).toArray.size (fun i v => (bs.map Value.ref).toArray[i]? = some v) (fun i h => h.IsListIter I l i ∧ h.IsList l (bs.map Value.ref).toArray) := Walks.list (A := A.in1) hh I l hne _
  have hsz : (bs.map Value.ref).toArray.size = bs.length := by simp
  intro k
  induction k with
  | zero =>
    intro i s T acc c cT hk hi h1 h2 hS hT hTI hTS hb hz hR
    have hin : i = bs.length := by omega
    subst hin
    refine codeAny_builtin F.entry_sum_loop ?_
    rw [Around.under_plainId F.plain_sum_loop _]
    show wpAny _ A.in1 (seqItems? (.ref S) >>= _) _ _ s
    refine wpAny_bind (wpAny_seqItems hS rfl ?_)
    show wpAny _ A.in1 (tryCatch (pyNext (.ref I)) _ >>= _) _ _ s
    have hst : (fun i (h : Heap) => h.IsListIter I l i ∧ h.IsList l (bs.map Value.ref).toArray) (bs.map Value.ref).toArray.size s.heap := by
      rw [hsz]; exact ⟨h1, h2⟩
    refine wpAny_bind (wpAny_tryCatch (W.done s _ _ hst fun h' tk hk' => ?_))
    refine wpAny_pure (hR h' tk T cT (fun b o n1 _ e => hk' b o (by simpa using n1) e) (.inl ⟨rfl, rfl⟩) ?_)
    rw [show its.drop bs.length = [] from List.drop_eq_nil_of_le (by omega), List.flatten_nil, List.append_nil]
    exact hk' T _ (by simpa using hTI) hT
  | succ k ih =>
    intro i s T acc c cT hk hi h1 h2 hS hT hTI hTS hb hz hR
    have hlt : i < bs.length := by omega
    refine codeAny_builtin F.entry_sum_loop ?_
    rw [Around.under_plainId F.plain_sum_loop _]
    show wpAny _ A.in1 (seqItems? (.ref S) >>= _) _ _ s
    refine wpAny_bind (wpAny_seqItems hS rfl ?_)
    show wpAny _ A.in1 (tryCatch (pyNext (.ref I)) _ >>= _) _ _ s
    obtain ⟨b, hbi⟩ : ∃ b, bs[i]? = some b := ⟨bs[i], List.getElem?_eq_getElem hlt⟩
    obtain ⟨xs, n, hx, hbo, hbI, hbS⟩ := hb i b (Nat.le_refl _) hbi
    refine wpAny_bind (wpAny_tryCatch (wpAny_pyNext_list_item h1 h2 (x := .ref b) (by simp [hbi]) fun h' hit' hs' => ?_))
    have hk' : ∀ q o, q ∉ [I] → s.heap.get? q = some o → h'.get? q = some o := fun q o hq e => hs'.extBut q o (by simpa using hq) e
    have hst' : h'.IsListIter I l (i + 1) ∧ h'.IsList l (bs.map Value.ref).toArray := ⟨hit', h2.extBut hs'.extBut hne⟩
    have hge : s.heap.objs.size ≤ h'.objs.size := Nat.le_of_eq hs'.1.symm
    have hS' := hk' S _ (by simpa using hSI) hS
    have hT' := hk' T _ (by simpa using hTI) hT
    have hb' := hk' b _ (by simpa using hbI) hbo
    have hdrop : its.drop i = xs :: its.drop (i + 1) := by
      rw [List.drop_eq_getElem_cons (by omega)]
      have e : its[i]? = some its[i] := List.getElem?_eq_getElem (by omega)
      rw [hx] at e
      rw [← Option.some.inj e]
    have hz' : acc.length + xs.length + (its.drop (i + 1)).flatten.length ≤ sizeLine := by
      rw [hdrop, List.flatten_cons, List.length_append] at hz
      omega
    show wpAny _ A.in1 ((holding [.ref b] (binaryOp .Add (.ref T) (.ref b))).attempt >>= _) _ _ _
    refine wpAny_bind (wpAny_attempt (wpAny_holding (PySem.P.add_list hT' hb' ?_ (by rw [List.size_toArray, List.size_toArray]; omega))))
    have ea : acc.toArray ++ xs.toArray = (acc ++ xs).toArray := by simp
    rw [ea]
    have hSne : S ≠ h'.objs.size := Nat.ne_of_lt (Heap.lt_size hS')
    have hS2 : (h'.push (lo (acc ++ xs) 0)).get? S = some { cls := .type "list", dict := none, data := .seq #[.ref T] c, slots := #[] } := Heap.get?_push_of_some _ hS'
    show wpAny _ A.in1 (updateSeq S (fun _ => #[.ref h'.objs.size]) >>= _) _ _ _
    refine wpAny_bind (wpAny_updateSeq hS2 rfl ?_)
    refine wpAny_bind (wpAny_letGo ?_)
    have hS3 := Heap.get?_update_self (Obj.mapSeq fun _ => #[Value.ref h'.objs.size]) hS2 rfl
    show wpAny _ A.in1 (updateSeq S (fun _ => #[.ref h'.objs.size]) >>= _) _ _ _
    refine wpAny_bind (wpAny_updateSeq hS3 rfl ?_)
    have hS4 := Heap.get?_update_self (Obj.mapSeq fun _ => #[Value.ref h'.objs.size]) hS3 rfl
    have other : ∀ q : Addr, q ≠ S → (((h'.push (lo (acc ++ xs) 0)).update S (Obj.mapSeq fun _ => #[Value.ref h'.objs.size])).update S (Obj.mapSeq fun _ => #[Value.ref h'.objs.size])).get? q = (h'.push (lo (acc ++ xs) 0)).get? q := fun q hq =>
      (Heap.get?_update_other _ _ (Ne.symm hq)).trans (Heap.get?_update_other _ _ (Ne.symm hq))
    have kept : ∀ q o, q ≠ S → h'.get? q = some o → (((h'.push (lo (acc ++ xs) 0)).update S (Obj.mapSeq fun _ => #[Value.ref h'.objs.size])).update S (Obj.mapSeq fun _ => #[Value.ref h'.objs.size])).get? q = some o := fun q o hq e =>
      (other q hq).trans (Heap.get?_push_of_some _ e)
    have hI' : I < h'.objs.size := by
      obtain ⟨o, e, _⟩ := hst'.1
      exact Heap.lt_size e
    refine wpAny_pure ⟨plainId_quiet F.plain_sum_loop _, ih (i + 1) _ h'.objs.size (acc ++ xs) _ 0 (by omega) hlt ?_ ?_ hS4 ?_ (Nat.ne_of_gt hI') (Ne.symm hSne) (fun j b2 hj hb2 => ?_) ?_ (fun h2 tk2 p cp hk2 hp ho => ?_)⟩
    · exact hst'.1.at fun o e => kept I o (Ne.symm hSI) e
    · exact hst'.2.at fun o e => kept l o (Ne.symm hSl) e
    · exact (other _ (Ne.symm hSne)).trans (Heap.get?_push_size _ rfl)
    · obtain ⟨ys, n2, hy, hyo, hyI, hyS⟩ := hb j b2 (by omega) hb2
      exact ⟨ys, n2, hy, kept b2 _ hyS (hk' b2 _ (by simpa using hyI) hyo), hyI, hyS⟩
    · rw [List.length_append]; exact hz'
    · refine hR h2 tk2 p cp (fun q o n1 n2 e => hk2 q o n1 n2 (kept q o n2 (hk' q o (by simpa using n1) e))) (.inr ?_) ?_
      · rcases hp with ⟨z, _⟩ | z
        · rw [z]; exact hge
        · refine Nat.le_trans hge (Nat.le_trans ?_ z)
          show h'.objs.size ≤ ((h'.push _).update S _ |>.update S _).objs.size
          simp
      · rw [hdrop, List.flatten_cons, ← List.append_assoc]
        exact ho
end
namespace F3
theorem args_sum2 (a b : Value) : argsOk "sum" ⟨[a, b], []⟩ := by unfold argsOk; kernel_rfl
theorem sub_list_str : isSubtype (.type "list") (.type "str") = pure false := by rw [isSubtype_type]; kernel_rfl
theorem sub_list_bytes : isSubtype (.type "list") (.type "bytes") = pure false := by rw [isSubtype_type]; kernel_rfl
theorem sub_list_bytearray : isSubtype (.type "list") (.type "bytearray") = pure false := by rw [isSubtype_type]; kernel_rfl
end F3
section
variable {prog : Program} {w : World} {A : Around} {E : Value → Shared → Prop} {s : Shared} {l T : Addr}
theorem sumLists_raw (hh : A.handled = none) (bs : List Addr) (its : List (List Value)) (hlen : its.length = bs.length) {acc : List Value} {c : Nat} {Q : Value → Shared → Prop}
    (hl : s.heap.IsList l (bs.map Value.ref).toArray) (hT : s.heap.get? T = some (lo acc c)) (hb : ∀ (j : Nat) (b : Addr), bs[j]? = some b → ∃ (xs : List Value) (n : Nat), its[j]? = some xs ∧ s.heap.get? b = some (lo xs n)) (hz : acc.length + its.flatten.length ≤ sizeLine)
    (hq : ∀ h' tk p cp, (∀ b o, s.heap.get? b = some o → h'.get? b = some o) → (p = T ∧ bs = [] ∨ s.heap.objs.size ≤ p) → h'.get? p = some (lo (acc ++ its.flatten) cp) → Q (.ref p) { s with heap := h', toks := tk }) :
    wpAny (model prog w) A (call (.builtin "sum") [.ref l, .ref T]) Q E s := by
  have hlt : l < s.heap.objs.size := by obtain ⟨_, e, _⟩ := hl; exact Heap.lt_size e
  have hTt : T < s.heap.objs.size := Heap.lt_size hT
  refine call_function_tree F.kind_sum F.plain_sum F.entry_sum (F3.args_sum2 _ _) ?_
  unfold Builtin.«sum»
  simp only [List.length_cons, List.length_nil]
  rw [if_neg (by decide)]
  refine wpAny_bind (wpAny_of_eq (show Builtin.Builtins.bindParams "sum" ["start"] 0 ⟨[.ref T], []⟩ = pure [some (.ref T)] from rfl) ?_)
  refine wpAny_bind (wpAny_pyIter_list hl ?_)
  refine wpAny_bind (wpAny_pure ?_)
  have tyT : Shared.TypeIs { s with heap := s.heap.push { cls := .type "list_iterator", data := .fields #[.ref l, .int 0 0] } } (.ref T) "list" := ⟨_, Heap.get?_push_of_some _ hT, rfl⟩
  simp only [List.forIn_cons, List.forIn_nil]
  refine wpAny_bind (wpAny_bind (wpAny_bind (wpAny_isInstance (T := "list") (b := false) tyT F3.sub_list_str ?_)))
  simp only [Bool.false_eq_true, if_false]
  refine wpAny_pure (wpAny_bind (wpAny_bind (wpAny_isInstance (T := "list") (b := false) tyT F3.sub_list_bytes ?_)))
  simp only [Bool.false_eq_true, if_false]
  refine wpAny_pure (wpAny_bind (wpAny_bind (wpAny_isInstance (T := "list") (b := false) tyT F3.sub_list_bytearray ?_)))
  simp only [Bool.false_eq_true, if_false]
  refine wpAny_pure (wpAny_pure ?_)
  refine wpAny_bind (wpAny_newObj_type ?_)
  have sz1 : (s.heap.push { cls := .type "list_iterator", data := .fields #[.ref l, .int 0 0] }).objs.size = s.heap.objs.size + 1 := Heap.size_push ..
  have keep2 : ∀ b o, s.heap.get? b = some o → ((s.heap.push { cls := .type "list_iterator", data := .fields #[.ref l, .int 0 0] }).push { cls := .type "list", data := .seq #[Value.ref T] }).get? b = some o := fun b o e => Heap.get?_push_of_some _ (Heap.get?_push_of_some _ e)
  refine wpAny_pure ⟨plainId_quiet F.plain_sum_loop _, sumLists_loop (I := s.heap.objs.size) hh (Nat.ne_of_lt hlt) bs its hlen _ ?_ ?_ bs.length 0 _ T acc 0 c (by omega) (Nat.zero_le _) ?_ ?_ (Heap.get?_push_size _ rfl) (keep2 _ _ hT) (Nat.ne_of_lt hTt) ?_ (fun j b _ hj => ?_) (by simpa using hz) (fun h' tk p cp hk hp ho => ?_)⟩
  · rw [sz1]; exact Nat.succ_ne_self _
  · rw [sz1]; exact Nat.ne_of_gt (Nat.lt_succ_of_lt hlt)
  · exact ⟨_, Heap.get?_push_of_some _ (Heap.get?_push_size _ rfl), rfl, rfl⟩
  · exact (hl.push _).push _
  · rw [sz1]; exact Nat.ne_of_lt (Nat.lt_succ_of_lt hTt)
  · obtain ⟨xs, n, hx, ho⟩ := hb j b hj
    have hb0 := Heap.lt_size ho
    exact ⟨xs, n, hx, keep2 _ _ ho, Nat.ne_of_lt hb0, by rw [sz1]; exact Nat.ne_of_lt (Nat.lt_succ_of_lt hb0)⟩
  · refine hq h' tk p cp (fun b o e => hk b o (Nat.ne_of_lt (Heap.lt_size e)) (by rw [sz1]; exact Nat.ne_of_lt (Nat.lt_succ_of_lt (Heap.lt_size e))) (keep2 b o e)) ?_ (by simpa using ho)
    rcases hp with ⟨z, y⟩ | z
    · exact .inl ⟨z, List.length_eq_zero_iff.mp y.symm⟩
    · refine .inr (Nat.le_trans ?_ z)
      show s.heap.objs.size ≤ ((s.heap.push _).push _).objs.size
      rw [Heap.size_push, Heap.size_push]; omega
end
section
variable {X : Cx}
/-- sum(xs, ys): xs a list of lists, ys a list -/
def rSumL (K : PySem.W.Frag) : List V → Hp → VK → Prop := fun vs H Q => ∃ (a t : Addr) (bs : List Addr) (its : List (List V)) (acc : List V), vs = [.ref a, .ref t] ∧ SqL K H a (bs.map V.ref) ∧ H t = some (.lst acc) ∧ its.length = bs.length ∧
  (∀ (j : Nat) (b : Addr), bs[j]? = some b → ∃ xs, its[j]? = some xs ∧ H b = some (.lst xs)) ∧ acc.length + its.flatten.length ≤ sizeLine ∧ (bs = [] → Q (.ref t) H) ∧ ∀ p, H p = none → Q (.ref p) (upd H p (.lst (acc ++ its.flatten)))
theorem vals_refs : ∀ {bs : List Addr} {us : List Value}, Vals (bs.map V.ref) us → us = bs.map Value.ref
  | [], _, .nil => rfl
  | b :: bs, _, .cons r t => by
    obtain rfl : _ = Value.ref b := r
    rw [vals_refs t]; rfl
theorem lists_of {pins : List (Addr × Obj)} {σ : L2.St} {H : Hp} {s : Shared} (I : Inv X pins σ H s) : ∀ (bs : List Addr) (its : List (List V)), its.length = bs.length → (∀ (j : Nat) (b : Addr), bs[j]? = some b → ∃ xs, its[j]? = some xs ∧ H b = some (.lst xs)) →
    ∃ us : List (List Value), us.length = bs.length ∧ (∀ (j : Nat) (b : Addr), bs[j]? = some b → ∃ (xs : List Value) (n : Nat), us[j]? = some xs ∧ s.heap.get? b = some (lo xs n)) ∧ Vals its.flatten us.flatten
  | [], [], _, _ => ⟨[], rfl, fun j b h => by simp at h, .nil⟩
  | b :: bs, x :: its, hl, h => by
    obtain ⟨us, h1, h2, h3⟩ := lists_of I bs its (by simpa using hl) (fun j b hj => h (j + 1) b (by simpa using hj))
    obtain ⟨y, hy, hb⟩ := h 0 b rfl
    obtain rfl : x = y := Option.some.inj hy
    obtain ⟨xs, n, rx, ho, _⟩ := I.lst hb
    refine ⟨xs :: us, by simp [h1], fun j c hj => ?_, ?_⟩
    · cases j with
      | zero =>
        obtain rfl : b = c := Option.some.inj hj
        exact ⟨xs, n, rfl, ho⟩
      | succ j => exact h2 j c (by simpa using hj)
    · rw [List.flatten_cons, List.flatten_cons]
      exact rx.append h3
theorem call_sumL (hc : X.calm = true) : CallR X (.builtin "sum") (rSumL X.K) := by
  intro pins s σ H xs us Q I r h
  obtain ⟨a, t, bs, its, acc, rfl, hS, hT, hlen, hb, hz, q0, q⟩ := h
  obtain ⟨u, w', rfl, ru, rw'⟩ := vals2 r
  obtain rfl : u = Value.ref a := ru
  obtain rfl : w' = Value.ref t := rw'
  obtain ⟨ls, rl, pl, _⟩ := I.list hS
  rw [vals_refs rl] at pl
  obtain ⟨us, h1, h2, h3⟩ := lists_of I bs its hlen hb
  obtain ⟨ac, n, ra, hao, _⟩ := I.lst hT
  have e1 := ra.length
  have e2 := h3.length
  refine sumLists_raw (I.ok.hd hc) bs us h1 pl.isList hao h2 (by omega) (fun h' tk p cp hk hp ho => ?_)
  rcases hp with ⟨rfl, y⟩ | hp
  · exact ⟨.ref p, H, I.kept hk, rfl, q0 y⟩
  · have hf : H p = none := I.hok.fresh hp
    exact ⟨.ref p, _, I.laid (o := .lst (acc ++ its.flatten)) hk hp ⟨by rw [List.length_append]; exact hz, _, cp, ra.append h3, ho⟩, rfl, q p hf⟩
end
end Hk
set_option maxRecDepth 100000
set_option maxHeartbeats 2000000
namespace Hk
open PySem PySem.Spec PyProof.Rows
open L2
section
variable {X : Cx}
/-! ### + -/
inductive UAdd (K : PySem.W.Frag) : V → V → Hp → VK → Prop
  | int {i j : Int} {H : Hp} {Q : VK} (q : Q (.int (i + j)) H) : UAdd K (.int i) (.int j) H Q
  | str {i j : Str} {H : Hp} {Q : VK} (h : i.length + j.length ≤ sizeLine) (q : Q (.str (i ++ j)) H) : UAdd K (.str i) (.str j) H Q
  | lst {a b : Addr} {xs ys : List V} {H : Hp} {Q : VK} (h1 : H a = some (.lst xs)) (h2 : H b = some (.lst ys)) (h : xs.length + ys.length ≤ sizeLine) (q : ∀ p, H p = none → Q (.ref p) (upd H p (.lst (xs ++ ys)))) : UAdd K (.ref a) (.ref b) H Q
  | tup {a b : Addr} {xs ys : List V} {H : Hp} {Q : VK} (h1 : SqT K H a xs) (h2 : SqT K H b ys) (h : xs.length + ys.length ≤ sizeLine) (q : ∀ p H', Same H H' → SqT K H' p (xs ++ ys) → Q (.ref p) H') : UAdd K (.ref a) (.ref b) H Q
theorem op_uadd {K : PySem.W.Frag} (hK : X.K = K := by rfl) : OpR X (binaryOp .Add) (UAdd K) := by
  subst hK
  intro pins s σ H x y v u Q I rx ry h
  cases h with
  | int q => exact op_add pins s σ H _ _ v u Q I rx ry ⟨_, _, rfl, rfl, q⟩
  | str h q => exact op_add_str pins s σ H _ _ v u Q I rx ry ⟨_, _, rfl, rfl, h, q⟩
  | lst h1 h2 h q => exact op_cat pins s σ H _ _ v u Q I rx ry ⟨_, _, _, _, rfl, rfl, h1, h2, h, q⟩
  | tup h1 h2 h q =>
    refine op_catA pins s σ H _ _ v u Q I rx ry ⟨_, _, _, _, rfl, rfl, h1, h2, h, fun e => ?_, fun _ e => ?_, fun _ _ p hp => ?_⟩
    · subst e; exact q _ _ (Same.refl _) h2
    · subst e; exact q _ _ (Same.refl _) (by rw [List.append_nil]; exact h1)
    · exact q _ _ (sameUpd hp) (.inl (.inl upd_same))
/-! ### the other operators, ints -/
def UMul : R2 := fun x y H Q => ∃ i j, x = .int i ∧ y = .int j ∧ CMul i j ∧ Q (.int (i * j)) H
theorem op_umul : OpR X (binaryOp .Mult) UMul := op_mul
def USub : R2 := rI0 fun i j => .int (i - j)
theorem op_usub : OpR X (binaryOp .Sub) USub := op_sub
def UMod : R2 := fun x y H Q => ∃ i j, x = .int i ∧ y = .int j ∧ j ≠ 0 ∧ Q (.int (i.fmod j)) H
theorem op_umod : OpR X (binaryOp .Mod) UMod := op_modN
def UFdiv : R2 := fun x y H Q => ∃ i j, x = .int i ∧ y = .int j ∧ CDivN i j ∧ Q (.int (i.fdiv j)) H
theorem op_ufdiv : OpR X (binaryOp .FloorDiv) UFdiv := op_fdivN
def UPow : R2 := fun x y H Q => ∃ i j, x = .int i ∧ y = .int j ∧ CPow i j ∧ Q (.int (i ^ j.toNat)) H
theorem op_upow : OpR X (binaryOp .Pow) UPow := op_pow
/-! ### ==, != -/
inductive UEq (K : PySem.W.Frag) : V → V → Hp → VK → Prop
  | int {i j : Int} {H : Hp} {Q : VK} (q : Q (.bl (decide (i = j))) H) : UEq K (.int i) (.int j) H Q
  | str {i j : Str} {H : Hp} {Q : VK} (q : Q (.bl (decide (i = j))) H) : UEq K (.str i) (.str j) H Q
  | dat {x y : V} {d e : PyData} {H : Hp} {Q : VK} (h1 : Dp K H x d) (h2 : Dp K H y e) (s1 : SeqAt.shaped d = true) (s2 : SeqAt.shaped e = true) (q : Q (.bl (PyData.eqv d e)) H) : UEq K x y H Q
inductive UNe (K : PySem.W.Frag) : V → V → Hp → VK → Prop
  | int {i j : Int} {H : Hp} {Q : VK} (q : Q (.bl (!decide (i = j))) H) : UNe K (.int i) (.int j) H Q
  | str {i j : Str} {H : Hp} {Q : VK} (q : Q (.bl (!decide (i = j))) H) : UNe K (.str i) (.str j) H Q
  | dat {x y : V} {d e : PyData} {H : Hp} {Q : VK} (h1 : Dp K H x d) (h2 : Dp K H y e) (s1 : SeqAt.shaped d = true) (s2 : SeqAt.shaped e = true) (q : Q (.bl (!PyData.eqv d e)) H) : UNe K x y H Q
theorem op_ueq {K : PySem.W.Frag} (hu : X.A.units + 64 < cLine) (hK : X.K = K := by rfl) : OpR X (compareOp .Eq) (UEq K) := by
  subst hK
  intro pins s σ H x y v u Q I rx ry h
  cases h with
  | int q => exact op_eq pins s σ H _ _ v u Q I rx ry ⟨rfl, by simpa using q⟩
  | str q => exact op_eq pins s σ H _ _ v u Q I rx ry ⟨rfl, by simpa using q⟩
  | dat h1 h2 s1 s2 q => exact op_eqD hu pins s σ H _ _ v u Q I rx ry ⟨_, _, h1, h2, s1, s2, q⟩
theorem op_une {K : PySem.W.Frag} (hu : X.A.units + 64 < cLine) (hK : X.K = K := by rfl) : OpR X (compareOp .NotEq) (UNe K) := by
  subst hK
  intro pins s σ H x y v u Q I rx ry h
  cases h with
  | int q => exact op_ne pins s σ H _ _ v u Q I rx ry ⟨rfl, by simpa using q⟩
  | str q => exact op_ne pins s σ H _ _ v u Q I rx ry ⟨rfl, by simpa using q⟩
  | dat h1 h2 s1 s2 q => exact op_neD hu pins s σ H _ _ v u Q I rx ry ⟨_, _, h1, h2, s1, s2, q⟩
/-! ### <, <=, >, >= of ints -/
def ULt : R2 := rI0 fun i j => .bl (decide (i < j))
def ULe : R2 := rI0 fun i j => .bl (decide (i ≤ j))
def UGt : R2 := rI0 fun i j => .bl (decide (j < i))
def UGe : R2 := rI0 fun i j => .bl (decide (j ≤ i))
theorem op_ult : OpR X (compareOp .Lt) ULt := op_lt
theorem op_ule : OpR X (compareOp .LtE) ULe := op_le
theorem op_ugt : OpR X (compareOp .Gt) UGt := op_gt
theorem op_uge : OpR X (compareOp .GtE) UGe := op_ge
/-! ### subscripts -/
inductive UIx (K : PySem.W.Frag) : V → V → Hp → VK → Prop
  | lst {a : Addr} {xs : List V} {i : Int} {v : V} {H : Hp} {Q : VK} (h : SqL K H a xs) (e : atI xs i = some v) (q : Q v H) : UIx K (.ref a) (.int i) H Q
  | tup {a : Addr} {xs : List V} {i : Int} {v : V} {H : Hp} {Q : VK} (h : SqT K H a xs) (e : atI xs i = some v) (q : Q v H) : UIx K (.ref a) (.int i) H Q
  | str {z : Str} {i : Int} {c : Nat} {H : Hp} {Q : VK} (h : z.length ≤ sizeLine) (e : atI z.cps.toList i = some c) (q : Q (.str ⟨#[c]⟩) H) : UIx K (.str z) (.int i) H Q
theorem ix_u {K : PySem.W.Frag} (hK : X.K = K := by rfl) : IxR X (UIx K) := by
  subst hK
  intro value slice pins s σ H x y v u Q I rx ry h hs
  cases h with
  | lst h e q => exact ix_list value slice pins s σ H _ _ v u Q I rx ry ⟨_, _, _, _, rfl, rfl, h, e, q⟩ hs
  | tup h e q => exact ix_tup value slice pins s σ H _ _ v u Q I rx ry ⟨_, _, _, _, rfl, rfl, h, e, q⟩ hs
  | str h e q => exact ix_str value slice pins s σ H _ _ v u Q I rx ry ⟨_, _, _, rfl, rfl, h, e, q⟩ hs
theorem atL {xs : List V} {k : Nat} {v : V} (h : xs[k]? = some v) : atI xs (k : Int) = some v := atI_nat h
/-- a slice of a list, of a tuple -/
inductive USl (K : PySem.W.Frag) : V → Option Int → Option Int → Hp → VK → Prop
  | lst {a : Addr} {xs : List V} {l u : Option Int} {H : Hp} {Q : VK} (h : SqL K H a xs) (q : ∀ p, H p = none → Q (.ref p) (upd H p (.lst (cutV xs l u)))) : USl K (.ref a) l u H Q
  | tup {a : Addr} {xs : List V} {l u : Option Int} {H : Hp} {Q : VK} (h : SqT K H a xs) (q : ∀ p H', Same H H' → SqT K H' p (cutV xs l u) → Q (.ref p) H') : USl K (.ref a) l u H Q
  | str {z : Str} {l u : Option Int} {H : Hp} {Q : VK} (h : z.length ≤ sizeLine) (q : Q (.str (cutS z l u)) H) : USl K (.str z) l u H Q
theorem sl_u {K : PySem.W.Frag} (hK : X.K = K := by rfl) : SlR X (USl K) := by
  subst hK
  intro pins s σ H x v vl vu l u sl Q I rx hs pl pu h
  cases h with
  | lst h q => exact sl_list pins s σ H _ v vl vu _ _ sl Q I rx hs pl pu ⟨_, _, rfl, h, q⟩
  | str h q => exact sl_str pins s σ H _ v vl vu _ _ sl Q I rx hs pl pu ⟨_, rfl, h, q⟩
  | @tup a xs _ _ _ _ h q =>
    refine sl_tupA pins s σ H _ v vl vu _ _ sl Q I rx hs pl pu ⟨_, _, rfl, h, fun e => ?_, fun _ p hp => q p _ (sameUpd hp) (.inl (.inl upd_same))⟩
    refine q _ _ (Same.refl _) ?_
    have e2 : cutV xs l u = xs := by
      unfold cutV
      rw [e.1, e.2]
      simp
    rw [e2]; exact h
/-! ### calls of built-ins -/
inductive ULen (K : PySem.W.Frag) : List V → Hp → VK → Prop
  | lst {a : Addr} {xs : List V} {H : Hp} {Q : VK} (h : SqL K H a xs) (q : Q (.int xs.length) H) : ULen K [.ref a] H Q
  | tup {a : Addr} {xs : List V} {H : Hp} {Q : VK} (h : SqT K H a xs) (q : Q (.int xs.length) H) : ULen K [.ref a] H Q
  | str {z : Str} {H : Hp} {Q : VK} (h : z.length ≤ sizeLine) (q : Q (.int z.length) H) : ULen K [.str z] H Q
theorem call_ulen {K : PySem.W.Frag} (hK : X.K = K := by rfl) : CallR X (.builtin "len") (ULen K) := by
  subst hK
  intro pins s σ H xs us Q I r h
  cases h with
  | lst h q => exact call_len_seq pins s σ H _ us Q I r ⟨_, _, rfl, .inl h, q⟩
  | tup h q => exact call_len_seq pins s σ H _ us Q I r ⟨_, _, rfl, .inr h, q⟩
  | str h q => exact call_len_str pins s σ H _ us Q I r ⟨_, rfl, h, q⟩
inductive UInt : List V → Hp → VK → Prop
  | int {i : Int} {H : Hp} {Q : VK} (q : Q (.int i) H) : UInt [.int i] H Q
  | bl {b : Bool} {H : Hp} {Q : VK} (q : Q (.int (if b then 1 else 0)) H) : UInt [.bl b] H Q
  | str {a : Str} {n : Int} {H : Hp} {Q : VK} (hn : PySem.intText? a = some n) (hl : a.length ≤ 640) (q : Q (.int n) H) : UInt [.str a] H Q
theorem call_uint : CallR X (.type "int") UInt := by
  intro pins s σ H xs us Q I r h
  cases h with
  | int q => exact call_int1 pins s σ H _ us Q I r (.inl ⟨_, rfl, q⟩)
  | bl q => exact call_int1 pins s σ H _ us Q I r (.inr ⟨_, rfl, q⟩)
  | str hn hl q => exact call_int_str pins s σ H _ us Q I r ⟨_, _, rfl, hn, hl, q⟩
inductive UTup (K : PySem.W.Frag) : List V → Hp → VK → Prop
  | lst {a : Addr} {xs : List V} {H : Hp} {Q : VK} (h : SqL K H a xs) (q : ∀ p, H p = none → Q (.ref p) (upd H p (.tup xs))) : UTup K [.ref a] H Q
  | tup {a : Addr} {xs : List V} {H : Hp} {Q : VK} (h : SqT K H a xs) (q : Q (.ref a) H) : UTup K [.ref a] H Q
theorem call_utup {K : PySem.W.Frag} (hK : X.K = K := by rfl) : CallR X (.type "tuple") (UTup K) := by
  subst hK
  intro pins s σ H xs us Q I r h
  cases h with
  | lst h q => exact call_tuple_of pins s σ H _ us Q I r ⟨_, _, rfl, .inl ⟨h, q⟩⟩
  | tup h q => exact call_tuple_of pins s σ H _ us Q I r ⟨_, _, rfl, .inr ⟨h, q⟩⟩
inductive UAbs : List V → Hp → VK → Prop
  | int {i : Int} {H : Hp} {Q : VK} (q : Q (.int (if i < 0 then -i else i)) H) : UAbs [.int i] H Q
theorem call_uabs : CallR X (.builtin "abs") UAbs := by
  intro pins s σ H xs us Q I r h
  cases h with
  | int q => exact call_abs pins s σ H _ us Q I r ⟨_, rfl, q⟩
/-! ### isinstance of data -/
/-- the name of data's class -/
def tyD : PyData → String
  | .none => "NoneType"
  | .bool _ => "bool"
  | .int _ => "int"
  | .str _ => "str"
  | .list _ => "list"
  | .tuple _ => "tuple"
  | .dict _ => "dict"
theorem tyX_of {K : PySem.W.Frag} {H : Hp} : ∀ {v : V} {d : PyData}, Dp K H v d → TyX K H v (.type (tyD d))
  | _, _, .non => .base .non
  | _, _, .bl b => .base (.bl b)
  | _, _, .int i => .base (.int i)
  | _, _, .str x => .base (.str x)
  | _, _, .lst h _ => by
    rcases h with (h | ⟨o, h⟩) | ⟨o, its, n, h, hc, _⟩
    · exact .base (.lst h)
    · exact .base (.frz h)
    · exact .kList h hc
  | _, _, .tup h _ => by
    rcases h with (h | ⟨o, h⟩) | ⟨o, its, n, h, hc, _⟩
    · exact .base (.tup h)
    · exact .fTuple h
    · exact .kTuple h hc
/-- isinstance of data and a built-in class -/
def isT (d : PyData) (T : String) : Bool := tyD d == T || (T == "int" && tyD d == "bool")
theorem kit_isT {T : String} (hT : T ∈ ["int", "bool", "str", "tuple", "list"]) : ∀ d : PyData, kitB (tyD d) T = some (isT d T) := by
  simp only [List.mem_cons, List.not_mem_nil, or_false] at hT
  intro d
  rcases hT with rfl | rfl | rfl | rfl | rfl <;> cases d <;> (first | (simp only [tyD, isT]; decide +kernel))
inductive UIsi (K : PySem.W.Frag) : List V → Hp → VK → Prop
  | dat {x : V} {d : PyData} {T : String} {H : Hp} {Q : VK} (h : Dp K H x d) (hT : T ∈ ["int", "bool", "str", "tuple", "list"]) (q : Q (.bl (isT d T)) H) : UIsi K [x, .ty T] H Q
theorem call_uisi {K : PySem.W.Frag} (hK : X.K = K := by rfl) : CallR X (.builtin "isinstance") (UIsi K) := by
  subst hK
  intro pins s σ H xs us Q I r h
  cases h with
  | dat h hT q => exact call_isi pins s σ H _ us Q I r ⟨_, _, _, _, _, rfl, .ty _, tyX_of h, kit_ty (kit_isT hT _), q⟩
end
/-! ### what stands in a comprehension's block: the written part by its own name -/
section
variable {X : Cx} {K : PySem.W.Frag} {tg l : Expr} {tl : TE}
theorem pi_ulist (hK : X.K = K := by rfl) (hl : PE X l tl) : PI X tg l (iList K tl) := by
  subst hK
  exact pi_list hl
theorem pi_utup (hK : X.K = K := by rfl) (hl : PE X l tl) : PI X tg l (iTup K tl) := by
  subst hK
  exact pi_tup hl
theorem call_usumL (hc : X.calm = true) (hK : X.K = K := by rfl) : CallR X (.builtin "sum") (rSumL K) := by
  subst hK
  exact call_sumL hc
theorem get_ulist (hK : X.K = K := by rfl) : PGet X (rGetL K) := by
  subst hK
  exact get_list
end
/-! ### constants of the module, built-in classes as values -/
section
variable {X : Cx} {x : Str} {pos : Pos}
theorem pe_cint {i : Int} (h : ∃ t, X.mg x = some (.int i t)) (hg : Gl X x) (hd : (x == ("__debug__" : Str)) = false := by decide) : PE X (.Name x pos) (tC (.int i)) := by
  obtain ⟨t, e⟩ := h
  exact pe_glob hg e ⟨t, rfl⟩ hd
theorem pe_cstr {z : Str} (h : ∃ t, X.mg x = some (.str z t)) (hg : Gl X x) (hd : (x == ("__debug__" : Str)) = false := by decide) : PE X (.Name x pos) (tC (.str z)) := by
  obtain ⟨t, e⟩ := h
  exact pe_glob hg e ⟨t, rfl⟩ hd
theorem pe_cty {T : String} (hv : bootBuiltins x = some (.type T)) (h : X.mg x = none) (hg : Gl X x) (hn : x ≠ "__name__" := by decide) (hd : (x == ("__debug__" : Str)) = false := by decide) : PE X (.Name x pos) (tC (.ty T)) :=
  pe_bltn hg h hv rfl hn hd
theorem bb_int : bootBuiltins "int" = some (.type "int") := by decide +kernel
theorem bb_bool : bootBuiltins "bool" = some (.type "bool") := by decide +kernel
theorem bb_str : bootBuiltins "str" = some (.type "str") := by decide +kernel
theorem bb_tuple : bootBuiltins "tuple" = some (.type "tuple") := by decide +kernel
theorem bb_list : bootBuiltins "list" = some (.type "list") := by decide +kernel
theorem bb_len : bootBuiltins "len" = some (.builtin "len") := by decide +kernel
theorem bb_abs : bootBuiltins "abs" = some (.builtin "abs") := by decide +kernel
theorem bb_sum : bootBuiltins "sum" = some (.builtin "sum") := by decide +kernel
theorem bb_repr : bootBuiltins "repr" = some (.builtin "repr") := by decide +kernel
theorem bb_isinstance : bootBuiltins "isinstance" = some (.builtin "isinstance") := by decide +kernel
theorem bb_all : bootBuiltins "all" = some (.builtin "all") := by decide +kernel
theorem bb_any : bootBuiltins "any" = some (.builtin "any") := by decide +kernel
theorem bb_sorted : bootBuiltins "sorted" = some (.builtin "sorted") := by decide +kernel
theorem bb_max : bootBuiltins "max" = some (.builtin "max") := by decide +kernel
theorem bb_min : bootBuiltins "min" = some (.builtin "min") := by decide +kernel
end
end Hk
set_option maxRecDepth 100000
set_option maxHeartbeats 2000000
namespace Hk
open PySem PySem.Spec PyProof.Rows
open L2
/-! ### a bag: the number that is parted, the stir, the place, the cells -/
structure BagAt (H : Hp) (b : Addr) : Prop where
  ex : ∃ (x y z : Int) (c : Addr) (ns : List Int), H b = some (.lst [.int x, .int y, .int z, .ref c]) ∧ H c = some (.lst (ns.map V.int)) ∧ 0 ≤ y ∧ y < 2147483647 ∧ ns.length ≤ 63
theorem BagAt.lst {H : Hp} {b : Addr} (h : BagAt H b) : ∃ xs, H b = some (.lst xs) := by
  obtain ⟨x, y, z, c, ns, e, _⟩ := h
  exact ⟨_, e⟩
theorem bag_ne {H : Hp} {b c : Addr} {x y z : Int} {ns : List Int} (h : H b = some (.lst [.int x, .int y, .int z, .ref c])) (h' : H c = some (.lst (ns.map V.int))) : c ≠ b := by
  intro e
  subst e
  rw [h] at h'
  have e2 : [V.int x, V.int y, V.int z, V.ref c] = ns.map V.int := by injection (Option.some.inj h')
  have m : V.ref c ∈ ns.map V.int := by rw [← e2]; simp
  obtain ⟨n, _, e3⟩ := List.mem_map.mp m
  cases e3
theorem BagAt.same {H H' : Hp} {b : Addr} (h : BagAt H b) (s : Same H H') : BagAt H' b := by
  obtain ⟨x, y, z, c, ns, e, ec, r⟩ := h
  exact ⟨x, y, z, c, ns, s _ _ e, s _ _ ec, r⟩
theorem Keep1.same {b : Addr} {H H1 H2 : Hp} (x : Keep1 b H H1) (y : Same H1 H2) : Keep1 b H H2 := fun a o n h => y a o (x a o n h)
theorem at4_0 {a b c d : V} : atI [a, b, c, d] 0 = some a := rfl
theorem at4_1 {a b c d : V} : atI [a, b, c, d] 1 = some b := rfl
theorem at4_2 {a b c d : V} : atI [a, b, c, d] 2 = some c := rfl
theorem at4_3 {a b c d : V} : atI [a, b, c, d] 3 = some d := rfl
theorem cut_ints (ns : List Int) (l u : Option Int) : ∃ ms : List Int, cutV (ns.map V.int) l u = ms.map V.int ∧ ms.length ≤ ns.length := by
  refine ⟨(ns.drop (HT.sIx (ns.map V.int).length 0 l)).take (HT.sIx (ns.map V.int).length (ns.map V.int).length u - HT.sIx (ns.map V.int).length 0 l), ?_, ?_⟩
  · unfold cutV
    rw [List.map_take, List.map_drop]
  · rw [List.length_take, List.length_drop]; omega
def spTake : Sp := fun vs H Q _ => ∃ (b : Addr) (m : Int), vs = [.ref b, .int m] ∧ 0 < m ∧ m < 1073741824 ∧ BagAt H b ∧ ∀ (d : Int) (H' : Hp), 0 ≤ d → d < m → Keep1 b H H' → BagAt H' b → Q (.int d) H'
def spBag (K : PySem.W.Frag) : Sp := fun vs H Q _ => ∃ (a : Addr) (ns : List Int), vs = [.ref a] ∧ SqL K H a (ns.map V.int) ∧ ∀ (b : Addr) (H' : Hp), Same H H' → H b = none → BagAt H' b → Q (.ref b) H'
/-- an item of a list or tuple that is not the bag -/
def spSome (K : PySem.W.Frag) : Sp := fun vs H Q _ => ∃ (b t : Addr) (xs : List V), vs = [.ref b, .ref t] ∧ BagAt H b ∧ t ≠ b ∧ (SqL K H t xs ∨ SqT K H t xs) ∧ xs ≠ [] ∧ xs.length < 1073741824 ∧
  ∀ (i : Nat) (x : V) (H' : Hp), xs[i]? = some x → Keep1 b H H' → BagAt H' b → Q x H'
/-- two like values -/
def spAlike (K : PySem.W.Frag) : Sp := fun vs H Q _ => ∃ (x y : V) (d : PyData), vs = [x, y] ∧ Dp K H x d ∧ Dp K H y d ∧ okd d = true ∧ Q (.bl true) H
theorem fmod_lt {a b : Int} (h : 0 < b) : 0 ≤ a.fmod b ∧ a.fmod b < b := by
  rw [Int.fmod_eq_emod_of_nonneg _ (Int.le_of_lt h)]
  exact ⟨Int.emod_nonneg _ (by omega), Int.emod_lt_of_pos _ h⟩
theorem SqL.k1 {K : PySem.W.Frag} {H H' : Hp} {a b : Addr} {xs : List V} (h : SqL K H a xs) (n : a ≠ b) (k : Keep1 b H H') : SqL K H' a xs := by
  rcases h with (h | ⟨o, h⟩) | h
  · exact .inl (.inl (k a _ n h))
  · exact .inl (.inr ⟨o, k a _ n h⟩)
  · exact .inr h
theorem SqT.k1 {K : PySem.W.Frag} {H H' : Hp} {a b : Addr} {xs : List V} (h : SqT K H a xs) (n : a ≠ b) (k : Keep1 b H H') : SqT K H' a xs := by
  rcases h with (h | ⟨o, h⟩) | h
  · exact .inl (.inl (k a _ n h))
  · exact .inl (.inr ⟨o, k a _ n h⟩)
  · exact .inr h
end Hk
set_option maxRecDepth 100000
set_option maxHeartbeats 2000000
namespace Hk
open PySem PySem.Spec PyProof.Rows
open L2
section
variable {K : PySem.W.Frag} {a : Addr} {xs : List V} {H0 : Hp} {Qd : Hp → Prop} {B : V → Hp → (Hp → Prop) → Prop}
/-- over a list that stands still, whatever a turn is -/
theorem walk_list (Pv : Nat → Hp → Prop) (h0 : Pv 0 H0) (hl : ∀ i H, i ≤ xs.length → Pv i H → SqL K H a xs) (hs : ∀ i x H, xs[i]? = some x → Pv i H → B x H (Pv (i + 1))) (hd : ∀ H, Pv xs.length H → Qd H) :
    ∃ W : Nat → Nat → Hp → Prop, (∃ m, W 0 m H0) ∧ ∀ i m H, W i m H → ((Itl K a).stop i H ∧ Qd H) ∨ ((Itl K a).go i H ∧ ∃ Nx : Hp → Prop, (∀ H', Nx H' → ∃ m', m' < m ∧ W (i + 1) m' H') ∧ ∀ x H', (Itl K a).yld i H x H' → B x H' Nx) := by
  refine ⟨fun i m H => m = xs.length - i ∧ i ≤ xs.length ∧ Pv i H, ⟨xs.length, rfl, Nat.zero_le _, h0⟩, ?_⟩
  rintro i m H ⟨rfl, hi, p⟩
  have z := hl i H hi p
  by_cases lt : i < xs.length
  · refine .inr ⟨⟨xs, xs[i], z, by simp [lt]⟩, Pv (i + 1), fun H' p' => ⟨xs.length - (i + 1), by omega, rfl, lt, p'⟩, ?_⟩
    rintro x H' ⟨rfl, y⟩
    exact hs i x _ (y xs z) p
  · obtain rfl : i = xs.length := by omega
    exact .inl ⟨⟨xs, z, Nat.le_refl _⟩, hd H p⟩
theorem walk_tup (Pv : Nat → Hp → Prop) (h0 : Pv 0 H0) (hl : ∀ i H, i ≤ xs.length → Pv i H → SqT K H a xs) (hs : ∀ i x H, xs[i]? = some x → Pv i H → B x H (Pv (i + 1))) (hd : ∀ H, Pv xs.length H → Qd H) :
    ∃ W : Nat → Nat → Hp → Prop, (∃ m, W 0 m H0) ∧ ∀ i m H, W i m H → ((Itt K a).stop i H ∧ Qd H) ∨ ((Itt K a).go i H ∧ ∃ Nx : Hp → Prop, (∀ H', Nx H' → ∃ m', m' < m ∧ W (i + 1) m' H') ∧ ∀ x H', (Itt K a).yld i H x H' → B x H' Nx) := by
  refine ⟨fun i m H => m = xs.length - i ∧ i ≤ xs.length ∧ Pv i H, ⟨xs.length, rfl, Nat.zero_le _, h0⟩, ?_⟩
  rintro i m H ⟨rfl, hi, p⟩
  have z := hl i H hi p
  by_cases lt : i < xs.length
  · refine .inr ⟨⟨xs, xs[i], z, by simp [lt]⟩, Pv (i + 1), fun H' p' => ⟨xs.length - (i + 1), by omega, rfl, lt, p'⟩, ?_⟩
    rintro x H' ⟨rfl, y⟩
    exact hs i x _ (y xs z) p
  · obtain rfl : i = xs.length := by omega
    exact .inl ⟨⟨xs, z, Nat.le_refl _⟩, hd H p⟩
theorem walk_range {l : Int} {n : Nat} (Pv : Nat → Hp → Prop) (h0 : Pv 0 H0) (hs : ∀ i H, i < n → Pv i H → B (.int (l + i)) H (Pv (i + 1))) (hd : ∀ H, Pv n H → Qd H) :
    ∃ W : Nat → Nat → Hp → Prop, (∃ m, W 0 m H0) ∧ ∀ i m H, W i m H → ((Itr l n).stop i H ∧ Qd H) ∨ ((Itr l n).go i H ∧ ∃ Nx : Hp → Prop, (∀ H', Nx H' → ∃ m', m' < m ∧ W (i + 1) m' H') ∧ ∀ x H', (Itr l n).yld i H x H' → B x H' Nx) := by
  refine ⟨fun i m H => m = n - i ∧ i ≤ n ∧ Pv i H, ⟨n, rfl, Nat.zero_le _, h0⟩, ?_⟩
  rintro i m H ⟨rfl, hi, p⟩
  by_cases lt : i < n
  · refine .inr ⟨lt, Pv (i + 1), fun H' p' => ⟨n - (i + 1), by omega, rfl, lt, p'⟩, ?_⟩
    rintro x H' ⟨rfl, rfl⟩
    exact hs i _ lt p
  · obtain rfl : i = n := by omega
    exact .inl ⟨Nat.le_refl _, hd H p⟩
end
theorem szl {n : Nat} (h : n ≤ 1000 := by simp) : n ≤ sizeLine := Nat.le_of_lt (small1000 h)
/-! ### a list of data at D, new since H0 -/
structure Grow (K : PySem.W.Frag) (H0 : Hp) (D : Addr) (ds : List PyData) (H : Hp) : Prop where
  same : Same H0 H
  free : H0 D = none
  at_ : ∃ vs, H D = some (.lst vs) ∧ Ims K H vs ds
section
variable {K : PySem.W.Frag} {H0 H H' : Hp} {D : Addr} {ds : List PyData}
theorem Grow.start (h : H0 D = none) : Grow K H0 D [] (upd H0 D (.lst [])) := ⟨sameUpd h, h, [], upd_same, .nil⟩
theorem Grow.ext (g : Grow K H0 D ds H) (s : Same H H') : Grow K H0 D ds H' := by
  obtain ⟨vs, e, r⟩ := g.at_
  exact ⟨g.same.trans s, g.free, vs, s _ _ e, Ims.kt (Same.kt s) r⟩
theorem Grow.push (g : Grow K H0 D ds H) {y : V} {d : PyData} (h : Im K H y d) (hz : ds.length < sizeLine) :
    ∃ acc, H D = some (.lst acc) ∧ acc.length < sizeLine ∧ Grow K H0 D (ds ++ [d]) (upd H D (.lst (acc ++ [y]))) := by
  obtain ⟨vs, e, r⟩ := g.at_
  refine ⟨vs, e, by rw [Ims.len r]; exact hz, fun b o q => ?_, g.free, vs ++ [y], upd_same, Ims.kt (ktUpd e) (Ims.app r (.one h))⟩
  rw [upd_ne (ne_of_none q g.free)]
  exact g.same b o q
/-- what is new is not what was -/
theorem Grow.fresh (g : Grow K H0 D ds H) {s0 : Hp} (s : Same s0 H0) : s0 D = none := s.free g.free
end
theorem SqL.same {K : PySem.W.Frag} {H H' : Hp} {a : Addr} {xs : List V} (s : Same H H') (h : SqL K H a xs) : SqL K H' a xs := L2.Same.seq s h
theorem SqT.same {K : PySem.W.Frag} {H H' : Hp} {a : Addr} {xs : List V} (s : Same H H') (h : SqT K H a xs) : SqT K H' a xs := SqT.kt (Same.kt s) h
/-- a new tuple of data -/
theorem Im.new {K : PySem.W.Frag} {H : Hp} {p : Addr} {vs : List V} {ds : List PyData} (h : H p = none) (r : Ims K H vs ds) : Im K (upd H p (.tup vs)) (.ref p) (.tuple ds) := .tup (.inl (.inl upd_same)) (Ims.kt (Same.kt (sameUpd h)) r)
theorem Ims.nil_iff {K : PySem.W.Frag} {H : Hp} {vs : List V} {ds : List PyData} (r : Ims K H vs ds) : vs = [] ↔ ds = [] := by
  cases r <;> simp
/-! ### tests whose answer is known -/
theorem iteD {p A B : Prop} [Decidable p] (h : p) (a : A) : if decide p = true then A else B := by
  rw [decide_eq_true h]; exact iteT a
theorem iteND {p A B : Prop} [Decidable p] (h : ¬ p) (b : B) : if decide p = true then A else B := by
  rw [decide_eq_false h]; exact iteF b
theorem iteNF {p A B : Prop} [Decidable p] (h : ¬ p) (a : A) : if (!decide p) = true then A else B := by
  rw [decide_eq_false h]; exact iteT a
/-! ### exceptions without data -/
structure ExcF (K : PySem.W.Frag) (mg : Str → Option Value) (x : Str) (C : Addr) : Prop where
  g : mg x = some (.ref C)
  ex : PySem.W.excIn K C [.type "ValueError", .type "Exception", .type "BaseException", .type "object"] "ValueError.__new__" = true
  kp : PySem.W.keepIn K (.ref C) = true
  sub : PySem.W.subIn K (.ref C) (.type "BaseException") = some true
  ty : PySem.W.typeIn K (.ref C) = some (.type "type")
  me : PySem.W.exmOne K (.ref C) (.ref C) = some true
section
variable {X : Cx} {Z : CXT} {k : Nat} {ps : List Str} {sp : Sp} {E : L2.St → XK} {x : Str} {p pos : Pos} {e : Expr} {es : List Expr} {t : TA}
/-- x(e, ..) of a def that may raise, in a try's body -/
theorem pe_hasS (h : Has X.prog X.w X.K X.mg X.base Z x k ps sp) (hr : Room k X.A) (hg : Gl X x) (hx : ∀ σ, PassesAt Z X σ (E σ)) (ha : PA X (e :: es) t) (hdb : (x == ("__debug__" : Str)) = false := by decide)
    (he : starEach (e :: es) X.env = (false, eval e X.env) :: starEach es X.env := by rfl) (hpl : (backTo pos (starEach es X.env)).any (·.1) = false := by rfl) : PE X (.Call (.Name x p) (e :: es) [] pos) (tCallS sp E t) := by
  obtain ⟨f, fd, a, b, c, F⟩ := h
  exact pe_callS F hr hg a b c.b hx ha hdb he hpl
end
end Hk
set_option maxRecDepth 100000
set_option maxHeartbeats 2000000
namespace Hk
open PySem PySem.Spec PyProof.Rows
open L2
/-- at most so deep, at most so heavy -/
structure OkAt (n w : Nat) (d : PyData) : Prop where
  lay : d.canLay0 = true
  dep : d.depth ≤ n
  sho : d.showable = true
  lea : d.leavesShort 13 = true
  wei : d.weight ≤ w
theorem OkAt.okd {n w : Nat} {d : PyData} (h : OkAt n w d) (hn : n ≤ 64) (hw : w ≤ 1048576) : okd d = true := by
  unfold Hk.okd SeqAt.shaped
  rw [h.lay, h.sho, h.lea, decide_eq_true (Nat.le_trans h.dep hn), decide_eq_true (Nat.le_trans h.wei hw)]; rfl
theorem OkAt.mono {n w n' w' : Nat} {d : PyData} (h : OkAt n w d) (hn : n ≤ n') (hw : w ≤ w') : OkAt n' w' d := ⟨h.lay, Nat.le_trans h.dep hn, h.sho, h.lea, Nat.le_trans h.wei hw⟩
theorem OkAt.non : OkAt 0 0 .none := ⟨rfl, Nat.le_refl _, rfl, rfl, Nat.le_refl _⟩
theorem OkAt.bl (b : Bool) : OkAt 0 0 (.bool b) := ⟨rfl, Nat.le_refl _, rfl, rfl, Nat.le_refl _⟩
theorem log2_lt {n k : Nat} (h : n < 2 ^ k) (hk : 0 < k) : n.log2 < k := by
  by_cases z : n = 0
  · subst z; simpa using hk
  · exact (Nat.log2_lt z).mpr h
theorem OkAt.int {i : Int} (h : i.natAbs < 1000000000000) : OkAt 0 40 (.int i) := by
  have hl : i.natAbs.log2 < 40 := log2_lt (Nat.lt_trans h (by decide)) (by decide)
  refine ⟨rfl, Nat.le_refl _, ?_, ?_, ?_⟩
  · exact decide_eq_true (Nat.lt_trans hl (by decide))
  · have e := int_text_length_le10 (a := i) (k := 12) (by decide) (Nat.lt_of_lt_of_le h (by decide))
    refine decide_eq_true (show (Str.ofString (toString i)).length ≤ 13 from ?_)
    rw [PySem.ofString_length]; exact e
  · show (if i == 0 then 0 else i.natAbs.log2 + 1) ≤ 40
    split <;> omega
section
variable {n w : Nat}
theorem okAll : ∀ {ds : List PyData}, (∀ d ∈ ds, OkAt n w d) → PyData.canLayAll0 ds = true ∧ PyData.depthAll ds ≤ n ∧ PyData.showableAll ds = true ∧ PyData.leavesShortAll 13 ds = true ∧ PyData.weightAll ds ≤ (w + 1) * ds.length
  | [], _ => ⟨rfl, Nat.zero_le _, rfl, rfl, Nat.zero_le _⟩
  | d :: ds, h => by
    obtain ⟨a, b, c, e, f⟩ := okAll (ds := ds) (fun x hx => h x (List.mem_cons_of_mem _ hx))
    have hd := h d List.mem_cons_self
    refine ⟨?_, ?_, ?_, ?_, ?_⟩
    · show (d.canLay0 && PyData.canLayAll0 ds) = true
      rw [hd.lay, a]; rfl
    · exact Nat.max_le.mpr ⟨hd.dep, b⟩
    · show (d.showable && PyData.showableAll ds) = true
      rw [hd.sho, c]; rfl
    · show (d.leavesShort 13 && PyData.leavesShortAll 13 ds) = true
      rw [hd.lea, e]; rfl
    · show d.weight + 1 + PyData.weightAll ds ≤ (w + 1) * (ds.length + 1)
      have := hd.wei
      rw [Nat.mul_add, Nat.mul_one]; omega
theorem OkAt.tup {ds : List PyData} (h : ∀ d ∈ ds, OkAt n w d) {m : Nat} (hm : ds.length ≤ m) : OkAt (n + 1) ((w + 1) * m) (.tuple ds) := by
  obtain ⟨a, b, c, e, f⟩ := okAll h
  refine ⟨a, Nat.succ_le_succ b, c, e, Nat.le_trans f (Nat.mul_le_mul_left _ hm)⟩
theorem OkAt.lst {ds : List PyData} (h : ∀ d ∈ ds, OkAt n w d) {m : Nat} (hm : ds.length ≤ m) : OkAt (n + 1) ((w + 1) * m) (.list ds) := by
  obtain ⟨a, b, c, e, f⟩ := okAll h
  refine ⟨a, Nat.succ_le_succ b, c, e, Nat.le_trans f (Nat.mul_le_mul_left _ hm)⟩
end
end Hk
set_option maxRecDepth 100000
set_option maxHeartbeats 2000000
namespace Hk
open PySem PySem.Spec PyProof.Rows
open L2
section
variable {fa : List He.Fa} {fn : List He.DefD} {K : PySem.W.Frag} {h : Heap} {mg : Str → Option Value}
theorem src_of (X : K.In h) (G : h.Ns mainGlobals mg) (c : He.SaysD fa fn K) (i j : Nat) {x : Str} {st : Stmt} (hi : fa[i]? = some (.glo x) := by rfl) (hj : fn[j]? = some ⟨(x, none), x, x, defArgs st, defBody st, defScope st, [], []⟩ := by rfl) : Src K mg x st := by
  obtain ⟨fd, F⟩ := c.def_ j hj
  exact ⟨_, fd, He.glo_ok X G (c.fact i hi), F⟩
theorem exc_of (X : K.In h) (G : h.Ns mainGlobals mg) (c : He.SaysD fa fn K) (i j k : Nat) {x : Str} (hi : fa[i]? = some (.glo x) := by rfl) (hj : fa[j]? = some (.exc x) := by rfl) (hk : fa[k]? = some (.exm x x true) := by rfl) : ExcF K mg x (He.ga K x) := by
  obtain ⟨a, b, d, e⟩ := He.exc_ok (c.fact j hj)
  exact ⟨He.glo_ok X G (c.fact i hi), a, b, d, e, He.exm_ok (c.fact k hk)⟩
theorem int_of (X : K.In h) (G : h.Ns mainGlobals mg) (c : He.SaysD fa fn K) (i : Nat) {x : Str} {n : Int} (hi : fa[i]? = some (.int x n) := by rfl) : ∃ t, mg x = some (.int n t) := He.int_ok X G (c.fact i hi)
theorem str_of (X : K.In h) (G : h.Ns mainGlobals mg) (c : He.SaysD fa fn K) (i : Nat) {x z : Str} (hi : fa[i]? = some (.str x z) := by rfl) : ∃ t, mg x = some (.str z t) := He.str_ok X G (c.fact i hi)
theorem free_of (X : K.In h) (G : h.Ns mainGlobals mg) (c : He.SaysD fa fn K) (i : Nat) {x : Str} (hi : fa[i]? = some (.free x) := by rfl) : mg x = none := He.free_ok X G (c.fact i hi)
end
/-- what the law promises -/
def spLaw (K : PySem.W.Frag) : Sp := fun vs H Q _ => ∃ (a : Addr) (ns : List Int), vs = [.ref a] ∧ SqL K H a (ns.map V.int) ∧ ∀ H', Q (.bl true) H'
/-- THE END: the law keeps its promise over the head's facts -/
theorem law_end {l : PySem.W.OpenLaw} {k : Nat} {q : Program} {loose : List Str} {XP : (Str → Option Value) → Heap → Prop} {d : DefRec} {n : Nat} {fa : List He.Fa} {fn : List He.DefD}
    (hn : l.most = some 63) (hdf : d.params.defaults = []) (hd : d.name = "law") (hr : Room k callerA)
    (F : ∀ (w : World) (K : PySem.W.Frag) (mg : Str → Option Value) (h : Heap), K.In h → h.Ns mainGlobals mg → He.SaysD fa fn K → ∀ base : Heap, HasG l.prog w K mg base CX0 "law" k ["script"] (spLaw K)) :
    PySem.W.WalkO q loose XP (He.hookD n fa fn).says l.row.toRowW d [] (fun f vs => PySem.call f vs) := by
  refine walk_ofG (n := 63) (k := k) (x := "script") (Z := CX0) hn (by decide) hdf hr ?_ (fun _ _ _ _ z => z)
  intro w mg f h Y G hmg
  obtain ⟨K, KX, c⟩ := Y
  rw [hd] at hmg
  refine ⟨K, spLaw K, KX, fun H a ns _ _ hS => ⟨a, ns, rfl, hS, fun _ => rfl⟩, fun base _ _ => ?_⟩
  obtain ⟨f2, fd, g2, _, bd, FG⟩ := F w K mg h KX G c base
  obtain rfl : f2 = f := by
    rw [hmg] at g2
    injection Option.some.inj g2 with e
    exact e.symm
  exact ⟨fd, FG, fun s u => bd s [u] rfl⟩
end Hk
set_option maxRecDepth 100000
set_option maxHeartbeats 2000000
namespace Hk
open PySem PySem.Spec PyProof.Rows PySem.Calls
open L2
/-! ### the text of such an __init__ -/
def tiA (f1 f2 : Str) (p1 p2 p3 : Pos) : Arguments :=
  { posonlyargs := [], args := [{ arg := "self", annotation := none, pos := p1 }, { arg := f1, annotation := none, pos := p2 }, { arg := f2, annotation := none, pos := p3 }], vararg := none, kwonlyargs := [], kw_defaults := [], kwarg := none, defaults := [] }
def tiB (f1 f2 : Str) (q1 q2 q3 q4 q5 q6 q7 r1 r2 r3 r4 t1 t2 t3 t4 : Pos) : List Stmt :=
  [.Expr (.Call (.Attribute (.Call (.Name "super" q1) [] [] q2) "__init__" q3) [.Name f1 q4, .Name f2 q5] [] q6) q7,
   .Assign [.Attribute (.Name "self" r1) f1 r2] (.Name f1 r3) r4, .Assign [.Attribute (.Name "self" t1) f2 t2] (.Name f2 t3) t4]
/-- the names of the two fields, the scope -/
structure TiS (f1 f2 : Str) (sc : Scope) : Prop where
  kind : sc.kind = .function
  co : sc.isCoroutine = false
  gen : sc.isGenerator = false
  nocell : ∀ y ∈ sc.names, y.2 ≠ .cell
  self : sc.names.lookup ("self" : Str) = some .local
  one : sc.names.lookup f1 = some .local
  two : sc.names.lookup f2 = some .local
  sup : sc.names.lookup ("super" : Str) = some .globalImplicit
  cls : sc.names.lookup ("__class__" : Str) = some .free
  d1 : (f1 == ("__debug__" : Str)) = false
  d2 : (f2 == ("__debug__" : Str)) = false
  n12 : f1 ≠ f2
  n1 : f1 ≠ "self"
  n2 : f2 ≠ "self"
/-- the call of super().__init__ is told by its places -/
def TiE (f1 f2 : Str) (q1 q2 q3 q4 q5 q6 : Pos) : Prop := ∃ pl : Sem Bool, ∀ env : Env, eval (.Call (.Attribute (.Call (.Name "super" q1) [] [] q2) "__init__" q3) [.Name f1 q4, .Name f2 q5] [] q6) env = (do
  let ov ← attributeBase (.Call (.Name "super" q1) [] [] q2) "__init__" env (eval (.Call (.Name "super" q1) [] [] q2) env)
  standAt q3.atName
  let (f, first) ← holding [ov] (getMethod ov "__init__" pl)
  callWith q6 f first (backTo q6 (starEach [.Name f1 q4, .Name f2 q5] env)) [])
/-- what the written part says of the class at C, its __init__ at fI, the cell of __class__ at cc, the code object at cda -/
structure TwoC (P : Program) (K : PySem.W.Frag) (C fI cc cda : Addr) (qual f1 f2 : Str) : Prop where
  cls : ∃ nm q N bs bm sn sub ab col dd k0 k1 k2 k3 k5, K.lookup C = some (excClassObj nm q C N bs bm true sn sub ab col dd k0 k1 k2 k3 k5 "ValueError.__new__") ∧ PySem.HandSPX.refsVE bm = true
  sa : PySem.W.findIn K (.ref C) "__setattr__" = some (some (.builtin "object.__setattr__"))
  no1 : PySem.W.findIn K (.ref C) f1 = some none
  no2 : PySem.W.findIn K (.ref C) f2 = some none
  iC : PySem.W.findIn K (.ref C) "__init__" = some (some (.ref fI))
  tC : PySem.W.typeIn K (.ref fI) = some (.type "function")
  kC : PySem.W.keepIn K (.ref C) = true
  exC : PySem.W.subIn K (.ref C) (.type "BaseException") = some true
  vE : PySem.W.subIn K (.ref C) (.type "ValueError") = some true
  tyC : PySem.W.typeIn K (.ref C) = some (.type "type")
  xf : XfC K C
  su : PySem.W.ks_superIn K C C "__init__" = some (some (.builtin "ValueError.__init__"))
  ms : PySem.W.mroIn K C (.ref C) = some true
  tp : PySem.W.nsIn K cStatics "thirdparty.any" = some none
  sc : ∃ sc : Scope, TiS f1 f2 sc ∧ ∃ (oc : Value) (od : Option Addr) (doc pm : Value) (an : Option Addr) (ct : Value) (osl : Array (Option Value)) (p1 p2 p3 q1 q2 q3 q4 q5 q6 q7 r1 r2 r3 r4 t1 t2 t3 t4 : Pos),
    K.lookup fI = some ⟨oc, od, .func (PySem.W.ksFn "__init__" qual (tiA f1 f2 p1 p2 p3) (tiB f1 f2 q1 q2 q3 q4 q5 q6 q7 r1 r2 r3 r4 t1 t2 t3 t4) sc .none .none doc pm an (.ref cda) ct cc), osl⟩ ∧
      (∀ a b c : Value, bindArgs (PySem.W.ksFn "__init__" qual (tiA f1 f2 p1 p2 p3) (tiB f1 f2 q1 q2 q3 q4 q5 q6 q7 r1 r2 r3 r4 t1 t2 t3 t4) sc .none .none doc pm an (.ref cda) ct cc) ⟨[a, b, c], []⟩ = pure [(("self" : Str), a), (f1, b), (f2, c)]) ∧ TiE f1 f2 q1 q2 q3 q4 q5 q6
  cd : PySem.W.codeIn K (.ref cda) qual = true
  cell : ∃ (cl : Value) (cld : Option Addr) (csl : Array (Option Value)), K.lookup cc = some ⟨cl, cld, .cell (some (.ref C)), csl⟩
  code : ∃ (ccl : Value) (cdd : Option Addr) (vs : Array Value) (ccs : Array (Option Value)) (file : Str) (tf : Tok), K.lookup cda = some ⟨ccl, cdd, .fields vs, ccs⟩ ∧ vs[2]? = some (.str file tf) ∧ ((P.main.file : Str) == file) = true
  top : (P.main.scope.names.lookup ("super" : Str)).isSome = false
/-- what __init__ leaves of a fresh exception at x -/
structure TwoEnd (h h' : Heap) (x C dx t1 : Addr) (f1 f2 : Str) (v1 v2 : Value) : Prop where
  keep : ∀ b o, b ≠ x → h.get? b = some o → h'.get? b = some o
  obj : h'.get? x = some { cls := .ref C, dict := some dx, data := .fields #[.ref t1, .none, .none, .none, .bool false, .none] }
  dbig : h.objs.size ≤ dx
  dne : dx ≠ x
  ns : h'.Ns1 dx (fun y => if y = f2 then some v2 else if y = f1 then some v1 else none)
section
variable {prog : Program} {w : World} {A : Around} {E : Value → Shared → Prop} {R : Result → Shared → Prop} {s : Shared} {K : PySem.W.Frag} {mg : Str → Option Value} {C fI cc cda : Addr} {qual f1 f2 : Str}
/-- super().__init__(..), called: what is kept -/
theorem mw_call {M : Model} {u e t0 : Addr} {rest : List Value} {Q : Value → Shared → Prop} {h : Heap} {g : Array GenState} {d : Drawn} {t : Nat} {os : OsState} {nm q : Str} {N : Addr} {bs bm : List Value} {hdct : Bool} {sn : List Str} {sub : List Value} {ab : Bool} {col : Option Bool} {dd : Option Addr} {k0 k1 k2 k3 k5 : Option Value}
    (hC : h.get? C = some (excClassObj nm q C N bs bm hdct sn sub ab col dd k0 k1 k2 k3 k5 "ValueError.__new__")) (he : h.get? e = some (PySem.HandSPX.excO C t0)) (hu : h.get? u = some (PySem.W.kxs_mw "ValueError.__init__" e)) (hz : rest.length ≤ sizeLine)
    (hq : ∀ h' t1, (∀ b o, b ≠ e → h.get? b = some o → h'.get? b = some o) → h'.get? e = some (PySem.HandSPX.excO C t1) → Q .none ⟨h', g, d, t, os⟩) :
    wpAny (model prog w) A (call (.ref u) rest) Q E ⟨h, g, d, t, os⟩ := by
  refine wpAny_call (codeAny_of_tree ?_)
  show wpAny _ A.in1 (callAny (.ref u) ⟨rest, []⟩) _ _ _
  unfold callAny
  refine wpAny_bind (wpAny_load hu ?_)
  simp only [show (Value.type "method-wrapper" == Value.type "method" || Value.type "method-wrapper" == Value.type "builtin_function_or_method" || Value.type "method-wrapper" == Value.type "method-wrapper") = true by decide, if_true]
  refine PySem.W.KFB.if_so (by decide) ?_
  refine wpAny_bind (PySem.W.check_bound_init (F.excBase_ValueError).toExcCallFacts hC he rfl ?_)
  refine wpAny_bind (wpAny_pure (wpAny_pure ?_))
  refine ⟨Code.quiet_builtin _ (by decide +kernel), codeAny_builtin (F.excBase_ValueError).initEntry ?_⟩
  exact PySem.W.exc_init_tree (cls := .ref C) (t0 := t0) (dv := none) (c2 := .none) (c3 := .none) (b4 := .bool false) he hz fun h' k e' _ => hq h' _ k e'
theorem two_init (T : TwoC prog K C fI cc cda qual f1 f2) {x t0 : Addr} {v1 v2 : Value} (X : K.In s.heap) (lim : s.heap.NoLimit) (G : s.heap.Ns mainGlobals mg) (hsu : mg "super" = none)
    (B : ∃ mb, s.heap.Ns builtinsNs mb ∧ ∀ y : Str, y ≠ "__name__" → mb y = bootBuiltins y) (hx : s.heap.get? x = some (PySem.HandSPX.excO C t0)) (hnx : K.lookup x = none) (hroom : A.depth < recursionLimit)
    (hq : ∀ h' tk dx t1, TwoEnd s.heap h' x C dx t1 f1 f2 v1 v2 → R (.ok (.ret .none)) { s with heap := h', toks := tk }) :
    codeAny (model prog w) A (.call (.ref fI) ⟨[.ref x, v1, v2], []⟩) R s := by
  obtain ⟨sc, S, oc, od, doc, pm, an, ct, osl, p1, p2, p3, q1, q2, q3, q4, q5, q6, q7, r1, r2, r3, r4, t1, t2, t3, t4, ho, hb, pl, hev⟩ := T.sc
  obtain ⟨nm, q, N, bs, bm, sn, sub, ab, col, dd, k0, k1, k2, k3, k5, hC, hbm⟩ := T.cls
  obtain ⟨cl, cld, csl, hcell⟩ := T.cell
  obtain ⟨ccl, cdd, vs, ccs, file, tf, hcda, hvs, hfile⟩ := T.code
  obtain ⟨mb, hB, hmb⟩ := B
  have hcl : PySem.W.clsIn K C = some { name := nm, bases := bs, mro := .ref C :: bm, ns := N, qualname := q, hasDict := true, slotNames := sn, subclasses := sub, abstract := ab, collection := col, hasDel := false } := by
    unfold PySem.W.clsIn; rw [hC] <;> rfl
  have l1 : ([(("self" : Str), Value.ref x), (f1, v1), (f2, v2)] : List (Str × Value)).reverse.lookup ("self" : Str) = some (.ref x) := by
    have a := S.n1; have b := S.n2
    simp [List.lookup, Ne.symm a, Ne.symm b, beq_eq_false_iff_ne.mpr (Ne.symm a), beq_eq_false_iff_ne.mpr (Ne.symm b)]
  have l2 : ([(("self" : Str), Value.ref x), (f1, v1), (f2, v2)] : List (Str × Value)).reverse.lookup f1 = some v1 := by
    simp [List.lookup, beq_eq_false_iff_ne.mpr S.n12]
  have l3 : ([(("self" : Str), Value.ref x), (f1, v1), (f2, v2)] : List (Str × Value)).reverse.lookup f2 = some v2 := by
    simp [List.lookup]
  refine PySem.ks_codeAny_call_defAt (binds := [(("self" : Str), .ref x), (f1, v1), (f2, v2)]) hroom (X _ _ ho) rfl lim (PySem.W.codeRec_of X T.cd) rfl (BindsTo.of_eq (hb _ _ _)) S.nocell ?_ (fun h1 ns1 kp => ?_) S.co S.gen S.kind
  · intro y hy
    rcases List.mem_cons.mp hy with rfl | hy
    · exact S.self
    rcases List.mem_cons.mp hy with rfl | hy
    · exact S.one
    rcases List.mem_cons.mp hy with rfl | hy
    · exact S.two
    · simp at hy
  have hxL : s.heap.objs.size ≠ x := Nat.ne_of_gt (Heap.lt_size hx)
  have hxC : x ≠ C := fun z => by rw [z, hC] at hnx; cases hnx
  have X1 : K.In h1 := X.keeps kp
  have hx1 := kp _ _ hx
  obtain ⟨sh, sg, sd, st, so⟩ := s
  refine PySem.ks_wpAt_execs_cons (PySem.ks_wpAt_Expr_any (PySem.ks_wpAt_MethodCall (PySem.ks_wpAt_super_base (fd := PySem.W.ksFn "__init__" qual (tiA f1 f2 p1 p2 p3) (tiB f1 f2 q1 q2 q3 q4 q5 q6 q7 r1 r2 r3 r4 t1 t2 t3 t4) sc .none .none doc pm an (.ref cda) ct cc) S.sup S.cls (by decide) rfl (X1 _ _ ho) rfl rfl rfl (X1 _ _ hcda) rfl hvs hfile T.top ?_) (hev _)) (by show interactive _ = false; unfold interactive; rw [show (callEnv (PySem.W.ksFn "__init__" qual (tiA f1 f2 p1 p2 p3) (tiB f1 f2 q1 q2 q3 q4 q5 q6 q7 r1 r2 r3 r4 t1 t2 t3 t4) sc .none .none doc pm an (.ref cda) ct cc) sh.objs.size fI).scope.kind = .function from S.kind] <;> rfl))
  refine PySem.W.ks_loadName_global S.kind S.sup (loadGlobal_builtin (G.keeps kp) hsu (hB.keeps kp) ((hmb _ (by decide +kernel)).trans (by decide +kernel)) ⟨rfl, ?_⟩)
  refine wpAny_loadName_free S.kind S.cls rfl ⟨_, X1 _ _ hcell, rfl⟩ ?_
  refine wpAny_loadName_local S.kind S.self ns1 l1 ?_
  refine PySem.ks_wpAny_isType_cls (X1 _ _ hC) rfl ⟨rfl, ?_⟩
  refine PySem.ks_wpAny_call_super (X1 _ _ hC) rfl hx1 rfl (fun c e => by cases e) (PySem.W.looks_mroIn X1 T.ms) (fun h2 e2 k2 => ?_)
  have X2 : K.In h2 := X1.keeps k2
  have hx2 := k2 _ _ hx1
  have hI : PySem.W.Looks (model prog w) h2 (isInstance (.ref x) (.type "ValueError")) true :=
    (PySem.W.InstAt.type (C := C) (ox := PySem.HandSPX.excO C t0) (od := none) ⟨hx2, rfl, rfl, trivial⟩).andThen (PySem.W.looks_subIn X2 T.vE)
  have hm := T.su
  unfold PySem.W.ks_superIn at hm
  rw [hcl] at hm
  refine PySem.W.kxs_getMethod PySem.W.kxs_ValueError e2 (PySem.W.looks_opaque X2 T.tp) (l₀ := .ref C :: bm) ?_ rfl X2 hm hI hxC (by decide) ?_
  · exact fun A Q E s k q => wpAny_bind ((PySem.W.looks_clsIn X2 hcl) A _ E s k (wpAny_pure q))
  have hmw : (h2.push (PySem.W.kxs_mw "ValueError.__init__" x)).get? h2.objs.size = some (PySem.W.kxs_mw "ValueError.__init__" x) := Heap.get?_push_at rfl rfl
  have k3' : ∀ b o, h1.get? b = some o → (h2.push (PySem.W.kxs_mw "ValueError.__init__" x)).get? b = some o := fun b o e => Heap.get?_push_of_some _ (k2 b o e)
  refine PySem.W.kxs_callWith (x := x) (i := "ValueError.__init__") (by rfl) (evalArgs_plain ?_)
  have nsm := ns1.keeps k3'
  refine spliced_cons (wpAny_Name (wpAny_loadName_local S.kind S.one nsm l2 ?_) S.d1)
  refine spliced_cons (wpAny_Name (wpAny_loadName_local S.kind S.two nsm l3 ?_) S.d2)
  refine spliced_nil ⟨hmw, ?_⟩
  refine mw_call (M := model prog w) (C := C) (k3' _ _ (X1 _ _ hC)) (k3' _ _ hx1) hmw (by rw [sizeLine_eq]; exact (by decide : 2 ≤ 16777216)) (fun h3 t3 k3 hx3 => ?_)
  have nx : ∀ {b : Addr} {o : Obj}, K.lookup b = some o → b ≠ x := fun {b o} e z => by rw [z, hnx] at e; cases e
  have X3 : K.In h3 := fun b o e => k3 b o (nx e) (k3' _ _ (X1 b o e))
  have ns3 : h3.Ns sh.objs.size fun y => ([(("self" : Str), Value.ref x), (f1, v1), (f2, v2)] : List (Str × Value)).reverse.lookup y := by
    obtain ⟨oL, es, ep, hL, r⟩ := nsm
    exact ⟨oL, es, ep, k3 _ _ hxL hL, r⟩
  have old3 : ∀ b o, b ≠ x → sh.get? b = some o → h3.get? b = some o := fun b o hb e => k3 b o hb (k3' b o (kp b o e))
  refine PySem.ks_wpAt_execs_cons (wpAt_of_wpAny (plainObj_wpAny_Assign_Attribute ?_))
  refine wpAny_Name (wpAny_loadName_local S.kind S.one ns3 l2 ?_) S.d1
  refine wpAny_Name (wpAny_loadName_local S.kind S.self ns3 l1 ?_) (by decide)
  refine PySem.W.set_plain X3 (ox := PySem.HandSPX.excO C t3) (od := none) ⟨hx3, rfl, rfl, trivial⟩ T.sa ?_
  refine PySem.HandSPX.exc_osa X3 hx3 hcl (show PySem.HandSPX.refsVE (.ref C :: bm) = true from hbm) rfl T.no1 (fun h4 tk4 dx k4 dn dne hx4 hn4 => ?_)
  have X4 : K.In h4 := fun b o e => k4 b o (nx e) (X3 b o e)
  have ns4 : h4.Ns sh.objs.size fun y => ([(("self" : Str), Value.ref x), (f1, v1), (f2, v2)] : List (Str × Value)).reverse.lookup y := by
    obtain ⟨oL, es, ep, hL, r⟩ := ns3
    exact ⟨oL, es, ep, k4 _ _ hxL hL, r⟩
  have hw : Within (fun y => if y = f1 then some v1 else none) [f1] := Within.cons f1 v1 Within.nil
  obtain ⟨oD, _, _, hoD, _, _⟩ := hn4.count hw
  refine PySem.ks_wpAt_execs_cons (wpAt_of_wpAny (plainObj_wpAny_Assign_Attribute ?_))
  refine wpAny_Name (wpAny_loadName_local S.kind S.two ns4 l3 ?_) S.d2
  refine wpAny_Name (wpAny_loadName_local S.kind S.self ns4 l1 ?_) (by decide)
  refine PySem.W.set_plain X4 (ox := { cls := .ref C, dict := some dx, data := .fields #[.ref t3, .none, .none, .none, .bool false, .none] }) (od := some oD) ⟨hx4, rfl, rfl, hoD⟩ T.sa ?_
  refine PySem.OEX.osa_old X4 hx4 hn4 hw (show 1 ≤ 1000 by decide) hcl (show PySem.HandSPX.refsVE (.ref C :: bm) = true from hbm) rfl T.no2 (fun h5 tk5 k5 hn5 => ?_)
  have lt3 : sh.objs.size ≤ dx := Nat.le_trans (Nat.le_of_lt ns3.lt) dn
  refine wpAt_of_wpAny (wpAny_execs_nil (hq h5 _ dx t3 ⟨fun b o hb e => k5 b o (fun z => ?_) (k4 b o hb (old3 b o hb e)), k5 _ _ (Ne.symm dne) hx4, lt3, dne, hn5⟩))
  exact absurd (Heap.lt_size e) (by rw [z]; exact Nat.not_lt.mpr lt3)
/-- an exception of the class, made -/
structure TwoMade (h h' : Heap) (e C d : Addr) (f1 f2 : Str) (v1 v2 : Value) : Prop where
  keep : ∀ b o, h.get? b = some o → h'.get? b = some o
  new : h.objs.size ≤ e
  obj : ∃ oe vs, h'.get? e = some oe ∧ oe.cls = .ref C ∧ oe.dict = some d ∧ oe.data = .fields vs ∧ vs[1]? = some .none
  dbig : h.objs.size ≤ d
  dne : d ≠ e
  ns : h'.Ns1 d (fun y => if y = f2 then some v2 else if y = f1 then some v1 else none)
theorem two_made (T : TwoC prog K C fI cc cda qual f1 f2) {v1 v2 : Value} (X : K.In s.heap) (lim : s.heap.NoLimit) (G : s.heap.Ns mainGlobals mg) (hsu : mg "super" = none)
    (B : ∃ mb, s.heap.Ns builtinsNs mb ∧ ∀ y : Str, y ≠ "__name__" → mb y = bootBuiltins y) (hroom : A.depth + 1 < recursionLimit)
    (hq : ∀ h' tk e d, TwoMade s.heap h' e C d f1 f2 v1 v2 → R (.ok (.ret (.ref e))) { s with heap := h', toks := tk }) :
    codeAny (model prog w) A (.call (.ref C) ⟨[v1, v2], []⟩) R s := by
  obtain ⟨nm, q, N, bs, bm, sn, sub, ab, col, dd, k0, k1, k2, k3, k5, hC, hbm⟩ := T.cls
  obtain ⟨mb, hB, hmb⟩ := B
  obtain ⟨hp, g, dr, tk, os⟩ := s
  have k : ∀ b o, hp.get? b = some o → ((hp.push (PySem.W.kdv_tup [v1, v2])).push (PySem.HandSPX.excO C hp.objs.size)).get? b = some o := fun b o e => Heap.get?_push_of_some _ (Heap.get?_push_of_some _ e)
  have hget : ((hp.push (PySem.W.kdv_tup [v1, v2])).push (PySem.HandSPX.excO C hp.objs.size)).get? (hp.objs.size + 1) = some (PySem.HandSPX.excO C hp.objs.size) := by heap_get
  have hnx : K.lookup (hp.objs.size + 1) = none := by
    cases e : K.lookup (hp.objs.size + 1) with
    | none => rfl
    | some o => exact absurd (Nat.lt_of_succ_lt (Heap.lt_size (show hp.get? (hp.objs.size + 1) = some o from X _ _ e))) (Nat.lt_irrefl _)
  refine PySem.HandSPX.call_own F.excBase_ValueError (fun X => PySem.HandSPX.refsVE_contains X bm hbm) (X _ _ hC) (PySem.W.looks_findIn X T.iC) (fun self => PySem.W.bind_fn X self T.tC) (by rw [sizeLine_eq]; exact (by decide : 2 ≤ 16777216)) ?_
  refine two_init (mg := mg) (s := ⟨(hp.push (PySem.W.kdv_tup [v1, v2])).push (PySem.HandSPX.excO C hp.objs.size), g, dr, tk, os⟩) T (X.keeps k) (lim.keeps k) (G.keeps k) hsu ⟨mb, hB.keeps k, hmb⟩ hget hnx hroom (fun h' tk' dx t1 M => ?_)
  have sz : ((hp.push (PySem.W.kdv_tup [v1, v2])).push (PySem.HandSPX.excO C hp.objs.size)).objs.size = hp.objs.size + 1 + 1 := by rw [Heap.size_push, Heap.size_push]
  have z : hp.objs.size + 1 + 1 ≤ dx := by rw [← sz]; exact M.dbig
  refine ⟨rfl, hq h' tk' (hp.objs.size + 1) dx ⟨fun b o e => M.keep b o (Nat.ne_of_lt (Nat.lt_succ_of_lt (Heap.lt_size e))) (k b o e), Nat.le_succ _, ⟨_, _, M.obj, rfl, rfl, rfl, rfl⟩, ?_, M.dne, M.ns⟩⟩
  exact Nat.le_trans (Nat.le_trans (Nat.le_succ _) (Nat.le_succ _)) z
end
theorem relO_two {f1 f2 : Str} {x y : V} {x' y' : Value} (rx : RelV x x') (ry : RelV y y') (n : f1 ≠ f2) (f : Str) : RelO (List.lookup f [(f1, x), (f2, y)]) (if f = f2 then some y' else if f = f1 then some x' else none) := by
  by_cases h2 : f = f2
  · subst h2
    rw [if_pos rfl, show List.lookup f [(f1, x), (f, y)] = some y by simp [List.lookup, beq_eq_false_iff_ne.mpr (Ne.symm n)]]
    exact ry
  · rw [if_neg h2]
    by_cases h1 : f = f1
    · subst h1
      rw [if_pos rfl, show List.lookup f [(f, x), (f2, y)] = some x by simp [List.lookup]]
      exact rx
    · rw [if_neg h1, show List.lookup f [(f1, x), (f2, y)] = none by simp [List.lookup, beq_eq_false_iff_ne.mpr h1, beq_eq_false_iff_ne.mpr h2]]
      trivial
/-! ### the rule -/
/-- a class x of this kind, by its name -/
structure ExcT (P : Program) (K : PySem.W.Frag) (mg : Str → Option Value) (x : Str) (C : Addr) (f1 f2 : Str) : Prop where
  g : mg x = some (.ref C)
  su : mg "super" = none
  n12 : f1 ≠ f2
  ex : ∃ (fI cc cda : Addr) (qual : Str), TwoC P K C fI cc cda qual f1 f2
  te : PySem.W.exmOne K (.ref C) (.ref C) = some true
/-- C(e, e') -/
def tMkT (C : Addr) (f1 f2 : Str) (ta : TA) : L2.St → Hp → XK → Prop := fun σ H Q => ta σ H fun vs H1 => ∃ x y, vs = [x, y] ∧ ∀ d, H1 d = none → Q (.ref C) (some d) (upd H1 d (.xd [(f1, x), (f2, y)]))
section
variable {X : Cx} {x : Str} {C : Addr} {f1 f2 : Str} {a b : Expr} {ta : TA} {p pos : Pos} {k : Nat}
theorem pmk_two (T : ExcT X.prog X.K X.mg x C f1 f2) (hr : Room (k + 1) X.A) (ha : PA X [a, b] ta) (hg : Gl X x) (hdb : (x == ("__debug__" : Str)) = false := by decide)
    (he : starEach (a :: [b]) X.env = (false, eval a X.env) :: starEach [b] X.env := by rfl) (hpl : (backTo pos (starEach [b] X.env)).any (·.1) = false := by rfl) :
    PMk X (.Call (.Name x p) [a, b] [] pos) (tMkT C f1 f2 ta) := by
  obtain ⟨fI, cc, cda, qual, T2⟩ := T.ex
  intro pins s σ H Q I h
  refine wpAny_Call_Name_kw (ld_glob I hg T.g ?_ hdb)
  refine PySem.W.callWith_K (h₀ := X.base) I.ok.mod.kin T2.kC (thn (ha.run pos pins s σ H _ I h) fun us s1 hh => ?_) he hpl
  obtain ⟨vs, H1, I1, r1, v, u, ev, q1⟩ := hh
  subst ev
  refine ⟨I1.kIn, ?_⟩
  cases r1 with
  | cons rv rn =>
    rename_i v' us'
    cases rn with
    | cons ru rn =>
      rename_i u' us'
      cases rn
      show wpAny _ _ (call (.ref C) [v', u']) _ _ _
      have lim := I1.nolimit
      obtain ⟨mb, hB, hmb⟩ := I1.mod.blt
      have G1 := I1.mod.glob.keeps I1.bk
      have B1 := hB.keeps I1.bk
      obtain ⟨hp, g, dr, tk, os⟩ := s1
      refine wpAny_call (two_made (mg := X.mg) T2 I1.kIn lim G1 T.su ⟨mb, B1, hmb⟩ (by have := hr.dp; omega) fun h' tk' e d M => ?_)
      show MkP X pins σ Q (.ref e) ⟨h', g, dr, tk', os⟩
      obtain ⟨oe, fv, hoe, hc, hd, hdat, h1⟩ := M.obj
      have hns := M.ns
      obtain ⟨G', g1, g2⟩ := restrict h' fun b => decide (b ≠ e)
      have gk : ∀ b, b ≠ e → G'.get? b = h'.get? b := fun b hb => g1 b (decide_eq_true hb)
      have ge : G'.get? e = none := g2 e (by simp)
      have old : ∀ b o, hp.get? b = some o → G'.get? b = some o := fun b o q => (gk b (Nat.ne_of_lt (Nat.lt_of_lt_of_le (Heap.lt_size q) M.new))).trans (M.keep b o q)
      have ob : ObjOk X.prog X.w (upd H1 d (.xd [(f1, v), (f2, u)])) G' d (.xd [(f1, v), (f2, u)]) :=
        ⟨_, hns.at (fun o q => (gk d M.dne).trans q), fun f => relO_two rv ru T.n12 f⟩
      have J : Inv X pins σ (upd H1 d (.xd [(f1, v), (f2, u)])) ⟨G', g, dr, tk', os⟩ := I1.laid (t' := tk') old M.dbig ob
      refine ⟨e, oe, fv, ⟨G', g, dr, tk', os⟩, _, .ref C, some d, rfl, J, fun b o q => ?_, ge, hoe, ⟨hc, hd⟩, hdat, h1, ?_, rfl, I1.bare, raises_own T2.exC T2.tyC, q1 d (I1.hok.fresh M.dbig)⟩
      · by_cases hb : b = e
        · have q' : G'.get? b = some o := q
          rw [hb, ge] at q'; cases q'
        · exact (gk b hb).symm.trans q
      · rw [upd_ne (Ne.symm M.dne)]
        exact I1.hok.fresh M.new
end
end Hk
set_option maxRecDepth 100000
set_option maxHeartbeats 2000000
namespace Hk
open PySem PySem.Spec PyProof.Rows
open L2
/-- a clause: the class, the slot of its name if it has one, what its suite does -/
structure Cl where
  c : Value
  at_ : Option Nat
  ts : Addr → Value → Option Addr → TS
def asEnds (i : Nat) (D : Ends) : Ends := { nx := fun t G => D.nx (t.set i none) G, rt := D.rt, bk := fun t G => D.bk (t.set i none) G, ct := fun t G => D.ct (t.set i none) G }
def Cl.wish (q : Cl) (a : Addr) (cls : Value) (d : Option Addr) (D : Ends) (σ : L2.St) (H : Hp) : Prop := match q.at_ with
  | none => q.ts a cls d D σ H
  | some i => q.ts a cls d (asEnds i D) (σ.set i (some (.ref a))) H
def wMix (K : PySem.W.Frag) (Wout : WX) (D : Ends) : List Cl → WX
  | [] => Wout
  | q :: r => fun cls d σ H => ∃ b, PySem.W.exmOne K cls q.c = some b ∧ (b = true → ∀ a, H a = none → q.wish a cls d D σ H) ∧ (b = false → wMix K Wout D r cls d σ H)
/-- what is known of a suite -/
def SuOk (X : Cx) (bs : List Stmt) (ts : Addr → Value → Option Addr → TS) : Prop :=
  bs ≠ [] ∧ ∀ (a : Addr) (oe : Obj) (cls : Value) (d : Option Addr) (pn : List (Addr × Obj)), Zc cls d oe → (∃ vs, oe.data = .fields vs) → PSs (X.suite a ((a, oe) :: pn)) bs (ts a cls d)
inductive HdM (X : Cx) : List ExceptHandler → List Cl → Prop
  | nil : HdM X [] []
  | plain {x : Str} {c : Value} {ts : Addr → Value → Option Addr → TS} {bs : List Stmt} {p1 p2 : Pos} {hs : List ExceptHandler} {l : List Cl} (hc : Names X x c) (su : SuOk X bs ts) (r : HdM X hs l) :
      HdM X (.ExceptHandler (some (.Name x p1)) none bs p2 :: hs) (⟨c, none, ts⟩ :: l)
  | named {x n : Str} {i : Nat} {c : Value} {ts : Addr → Value → Option Addr → TS} {bs : List Stmt} {p1 p2 : Pos} {hs : List ExceptHandler} {l : List Cl} (hN : X.N.Nodup) (hi : X.N[i]? = some n) (hl : X.env.kindOf n = some .local)
      (hc : Names X x c) (su : SuOk X bs ts) (r : HdM X hs l) : HdM X (.ExceptHandler (some (.Name x p1)) (some n) bs p2 :: hs) (⟨c, some i, ts⟩ :: l)
section
variable {X : Cx}
/-- a flow out of a suite, brought to the try's own context -/
theorem suite_out {a : Addr} {oe : Obj} {pn : List (Addr × Obj)} {pins : List (Addr × Obj)} {D : Ends} {f : Flow} {z : Shared} (ok : X.Ok) (h : SP (X.suite a ((a, oe) :: (pn ++ pins))) [] D f z) (hp : pn = X.pn) : SP X pins D f z := by
  subst hp
  cases f with
  | ret u =>
    obtain ⟨v, t, G, S, r, y⟩ := h
    exact ⟨v, t, G, S.unsuite ok, r, y⟩
  | next | brk | cont =>
    obtain ⟨t, G, S, y⟩ := h
    exact ⟨t, G, S.unsuite ok, y⟩
theorem try_out {pn : List (Addr × Obj)} {xe : Value → Shared → Prop} {pins : List (Addr × Obj)} {D : Ends} {f : Flow} {z : Shared} (ok : X.Ok) (h : SP (X.tr (X.pn ++ pins) xe) [] D f z) : SP X pins D f z := by
  cases f with
  | ret u =>
    obtain ⟨v, t, G, S, r, y⟩ := h
    exact ⟨v, t, G, S.ofTry ok, r, y⟩
  | next | brk | cont =>
    obtain ⟨t, G, S, y⟩ := h
    exact ⟨t, G, S.ofTry ok, y⟩
theorem ps_try_mix {body : List Stmt} {h₀ : ExceptHandler} {hs : List ExceptHandler} {l : List Cl} {pos : Pos} {tb : WX → TS} {Wout : WX} (st : X.stack = X.env :: X.outer) (hf : X.env.frame = some X.env.locals) (tk : Takes X Wout)
    (hb : ∀ (W : WX) (pn : List (Addr × Obj)) (xe : Value → Shared → Prop), Takes (X.tr pn xe) W → PassesOwn (model X.prog X.w) X.A X.env xe → PSs (X.tr pn xe) body (tb W))
    (hh : HdM X (h₀ :: hs) l) : PS X (.Try body (h₀ :: hs) [] [] pos) (fun D σ H => tb (wMix X.K Wout D l) D σ H) := by
  refine ⟨fun pins s σ H D I h => ?_⟩
  have ok := I.ok
  have frm : X.A.frames = some (X.env :: X.outer) := by rw [ok.frames, st]
  refine wpAny_Try_except ?_
  have run := (hb (wMix X.K Wout D l) (X.pn ++ pins) (fun e y => wpAny (model X.prog X.w) X.A (noteFrame e X.env) (fun _ y2 => wpAny (model X.prog X.w) X.A (setFlight e none) (fun _ y3 =>
    wpAny (model X.prog X.w) X.A (handleBy e X.env (h₀ :: hs)) (SP X pins D) X.xe y3) X.xe y2) X.xe y) ?c PassesOwn.looking).run [] s σ H D (I.toTry _) h
  case c =>
    intro u y xx
    obtain ⟨a, B, sI, pins', t, G, cls, d, rfl, J', nb, up, sky, na, os, ag, w⟩ := xx
    have J : Inv X pins t G sI := J'.ofTry ok
    rw [st] at sky
    show wpAny _ X.A (noteFrame (.ref a) X.env) _ _ _
    refine Sky.land Zc.steady frm hf sky (fun h3 fl up3 => ?_)
    have J3 : Inv X pins t G { y with heap := h3 } := J.landed nb fl.1 (up.trans up3) os ag
    obtain ⟨oe, ve, g3, z3, d3⟩ := fl.there
    have nfr : a ∉ frs (X.env :: X.outer) := fun hm => by
      obtain ⟨_, o, e, ne⟩ := fl.2.2.1.mem hm
      rw [g3] at e; cases e
      exact ne _ d3
    have nL : a ≠ X.env.locals := fun z => nfr (List.mem_filterMap.mpr ⟨X.env, List.mem_cons_self, by rw [hf, z]⟩)
    have nF : a ∉ X.fs := fun hm => by
      obtain ⟨e, he, z⟩ := List.mem_filterMap.mp hm
      exact nfr (List.mem_filterMap.mpr ⟨e, List.mem_cons_of_mem _ he, z⟩)
    have S3 := J3.suite g3 d3 na nL nF
    -- a class's name, looked up within the handlers
    have look : ∀ {x : Str} {c : Value} {np : Pos} {Q : Value → Shared → Prop} {E : Value → Shared → Prop}, Names X x c → Q c { y with heap := h3 } → wpAny (model X.prog X.w) (X.A.mark (some (.ref a))) (eval (.Name x np) X.env) Q E { y with heap := h3 } := fun hc z => by
      obtain ⟨g1, g2, g3 | ⟨g3, g4, g5⟩⟩ := hc
      · exact ld_glob (X := X.suite a ((a, oe) :: (X.pn ++ pins))) S3 g1 g3 z g2
      · exact ld_blt (X := X.suite a ((a, oe) :: (X.pn ++ pins))) S3 g1 g3 g4 z g5 g2
    have LT : PySem.W.Looks (model X.prog X.w) h3 (typeOf (.ref a)) cls := fun A Q E z k q => wpAny_typeOf_ref (k _ _ g3) (by rw [z3.1]; exact q)
    suffices go : ∀ {hs' : List ExceptHandler} {l' : List Cl}, HdM X hs' l' → wMix X.K Wout D l' cls d t G → wpAny (model X.prog X.w) X.A (handleBy (.ref a) X.env hs') (SP X pins D) X.xe { y with heap := h3 } from go hh w
    intro hs' l' hk
    induction hk with
    | nil =>
      intro w
      refine wpAny_handleBy_nil ?_
      obtain ⟨k1, k2, k3, o, vs, T, oT, ts', he, hz, hd, h1, hr⟩ := id fl
      unfold PySem.passOn
      refine wpAny_bind (wpAny_field he hd h1 ?_)
      rw [if_neg (show ¬ ((Value.ref T == Value.none) = true) by simp)]
      have fin : wpAny (model X.prog X.w) X.A (setFlight (.ref a) X.env.frame) (fun _ z => wpAny (model X.prog X.w) X.A (throw (.ref a) : Sem Flow) (SP X pins D) X.xe z) X.xe { y with heap := h3 } := by
        rw [hf]
        exact HandSPX.setFlight_upZ fl fun h4 hh4 up4 => wpAny_throw (tk _ _ ⟨a, B, sI, pins, t, G, cls, d, rfl, J, nb, (up.trans up3).trans up4, .inr (.inr (by rw [st]; exact hh4)), na, os, ag, w⟩)
      first
        | exact wpAny_bind (wpAny_pure (wpAny_bind fin))
        | exact wpAny_bind fin
    | @plain x c ts bs p1 p2 hs2 l2 hc su r ih =>
      intro w
      obtain ⟨b, e1, yes, no⟩ := w
      refine wpAny_handleBy_cons (codeAny_handlers_test ?_) (by intro q; cases q)
      refine look hc ((PySem.W.exm_one (M := model X.prog X.w) (J3.kIn) LT e1).here ?_)
      cases b with
      | false => exact ih (no rfl)
      | true =>
        obtain ⟨b0, bs', rfl⟩ := List.exists_cons_of_ne_nil su.1
        refine codeAny_handlers_suite ?_
        refine HandSPX.lands_againZ fl (fun h4 fl4 up4 => ?_)
        have J4 : Inv X pins t G { y with heap := h4 } := J.landed nb fl4.1 ((up.trans up3).trans up4) os ag
        obtain ⟨o4, v4, g4, z4, d4⟩ := fl4.there
        exact wpAny_mono ((su.2 a o4 cls d (X.pn ++ pins) z4 ⟨_, d4⟩).run [] _ _ G _ (J4.suite g4 d4 na nL nF) (yes rfl a na)) (fun f z hz => suite_out ok hz rfl) (fun _ _ z => False.elim z)
    | @named x n i c ts bs p1 p2 hs2 l2 hN hi hln hc su r ih =>
      intro w
      obtain ⟨b, e1, yes, no⟩ := w
      refine wpAny_handleBy_cons (codeAny_handlers_test ?_) (by intro q; cases q)
      refine look hc ((PySem.W.exm_one (M := model X.prog X.w) (J3.kIn) LT e1).here ?_)
      cases b with
      | false => exact ih (no rfl)
      | true =>
        obtain ⟨b0, bs', rfl⟩ := List.exists_cons_of_ne_nil su.1
        refine codeAny_handlers_suite_as ?_
        refine HandSPX.lands_againZ fl (fun h4 fl4 up4 => ?_)
        have J4 : Inv X pins t G { y with heap := h4 } := J.landed nb fl4.1 ((up.trans up3).trans up4) os ag
        obtain ⟨o4, v4, g4, z4, d4⟩ := fl4.there
        refine store_ok (X := X.suite a ((a, o4) :: (X.pn ++ pins))) (v := .ref a) (J4.suite g4 d4 na nL nF) hN hi (.inl hln) rfl (fun y5 S5 => ?_) (.inr hln)
        refine wpAny_mono ((su.2 a o4 cls d (X.pn ++ pins) z4 ⟨_, d4⟩).run [] y5 _ G _ S5 (yes rfl a na)) (fun f z hz => ?_) (fun _ _ z => False.elim z)
        have out := suite_out ok hz rfl
        cases f with
        | ret u =>
          obtain ⟨v, t6, G6, S6, r6, q6⟩ := out
          exact gone_ok S6 hN hi hln (fun s7 J7 => ⟨_, _, _, J7, r6, q6⟩)
        | next | brk | cont =>
          obtain ⟨t6, G6, S6, q6⟩ := out
          exact gone_ok S6 hN hi hln (fun s7 J7 => ⟨_, _, J7, q6⟩)
  refine wpAny_mono run (fun f y hy => ?_) (fun e y he => he)
  have out := try_out (pn := X.pn) ok hy
  cases f with
  | next =>
    obtain ⟨t, G, J, q⟩ := out
    exact wpAny_execs_nil ⟨t, G, J, q⟩
  | ret u | brk | cont => exact out
end
end Hk
set_option maxRecDepth 100000
set_option maxHeartbeats 2000000
namespace Hk
open PySem PySem.Spec PyProof.Rows
open L2
/-! ### the call of the law, tables of code objects beside the script -/
theorem law_callGT {P : Program} {w : World} {K : PySem.W.Frag} {mg mb : Str → Option Value} {Z : CXT} {k : Nat} {fa a : Addr} {tb : List (Addr × Addr)} {x : Str} {sp : Sp} {z : Shared} {vs : List Value} {ns : List Int}
    (KX : K.In z.heap) (hns : z.heap.Ns mainGlobals mg) (hb : z.heap.Ns builtinsNs mb) (hbb : ∀ y : Str, y ≠ "__name__" → mb y = bootBuiltins y) (lim : z.heap.NoLimit) (hg : z.gens = #[])
    (tE : ∀ q ∈ tb, z.heap.get? q.2 = some { cls := .none, data := .fields #[] }) (tN : ∀ q ∈ tb, K.lookup q.2 = none) (tC : ∀ q ∈ tb, PySem.W.CodeHd z.heap q.1 q.2)
    (hm : ∃ (bm : Addr) (ob : Obj), mg "__builtins__" = some (.ref bm) ∧ bm ≠ builtinsNs ∧ z.heap.get? bm = some ob ∧ ob.cls = .type "module" ∧ ob.dict = some builtinsNs ∧ ob.data = .plain)
    (ha : z.heap.get? a = some { cls := .type "list", data := .seq vs.toArray }) (hi : IntsAre vs ns) (hl : ns.length ≤ sizeLine) (hr : Room k callerA)
    (F : ∀ base : Heap, K.In base → base.Ns mainGlobals mg → (∀ q ∈ tb, LamX.TabB base mg q.1 q.2) → ∃ fd : FuncData, FnG P w K mg base Z k fa fd [x] sp ∧ ∀ (s : Shared) (u : Value), BindsTo s fd ⟨[u], []⟩ [(x, u)])
    (hsp : ∀ H : Hp, (∀ q ∈ tb, H q.2 = some (.tbl #[])) → SqL K H a (ns.map V.int) → sp [.ref a] H (fun v _ => v = .bl true) fun _ _ _ => False)
    (hZ : ∀ H e s', Z [] H z (fun _ _ _ => False) e s' → False) :
    codeAny (model P w) callerA (.call (.ref fa) ⟨[.ref a], []⟩) (fun r s' => r = .ok (.ret (.bool true)) ∧ OldK z.heap s'.heap ∧ s'.os = z.os ∧ AllBare s'.gens) z := by
  have rv := vals_ints hi
  have lenV := hi.length
  have inT : ∀ b : Addr, b ∈ tb.map (·.2) → z.heap.get? b = some { cls := .none, data := .fields #[] } := by
    intro b hb
    obtain ⟨q, hq, rfl⟩ := List.mem_map.mp hb
    exact tE q hq
  have aT : a ∉ tb.map (·.2) := fun m => by
    have e := inT a m
    rw [ha] at e
    cases (show Data.seq vs.toArray _ = Data.fields #[] from congrArg Obj.data (Option.some.inj e))
  have core : ∀ H : Hp, (∀ q ∈ tb, H q.2 = some (.tbl #[])) → (∀ b u, H b = some u → b ∈ tb.map (·.2) ∨ (b = a ∧ ∃ o xs, u = .frz o (.lst xs))) → SqL K H a (ns.map V.int) → HOk P w H z.heap → (H a ≠ none → K.lookup a = none) →
      codeAny (model P w) callerA (.call (.ref fa) ⟨[.ref a], []⟩) (fun r s' => r = .ok (.ret (.bool true)) ∧ OldK z.heap s'.heap ∧ s'.os = z.os ∧ AllBare s'.gens) z := by
    intro H hH hO hS hok hK
    have baseOf : ∀ {b : Addr} {o : Obj}, z.heap.get? b = some o → H b = none → (hidT z.heap H).get? b = some o := fun e n => hidT_get e n
    have notIn : ∀ {b : Addr} {o : Obj}, z.heap.get? b = some o → o.data ≠ .fields #[] → (∀ vs n, o.data ≠ .seq vs n) → H b = none := by
      intro b o e n1 n2
      cases q : H b with
      | none => rfl
      | some u =>
        rcases hO b u q with m | ⟨rfl, _⟩
        · rw [inT b m] at e; cases e
          exact absurd rfl n1
        · rw [ha] at e; cases e
          exact absurd rfl (n2 _ _)
    have nsK : ∀ {b : Addr} {m : Str → Option Value}, z.heap.Ns b m → (hidT z.heap H).Ns b m := fun ⟨o, es, ep, e, d, r⟩ =>
      ⟨o, es, ep, baseOf e (notIn e (by rw [d]; exact fun y => by cases y) (fun _ _ => by rw [d]; exact fun y => by cases y)), d, r⟩
    have hKb : K.In (hidT z.heap H) := fun b o e => baseOf (KX b o e) (by
      cases q : H b with
      | none => rfl
      | some u =>
        rcases hO b u q with m | ⟨rfl, _⟩
        · obtain ⟨y, hy, rfl⟩ := List.mem_map.mp m
          rw [tN y hy] at e; cases e
        · rw [hK (fun e => by rw [q] at e; cases e)] at e; cases e)
    have hM : Mod K mg (hidT z.heap H) := ⟨hKb, nsK hns, ⟨mb, nsK hb, hbb⟩, let ⟨mc, h1, h2⟩ := lim; ⟨mc, nsK h1, h2⟩⟩
    have TB : ∀ q ∈ tb, LamX.TabB (hidT z.heap H) mg q.1 q.2 := by
      intro q hq
      have eq := tE q hq
      refine ⟨?_, ?_, fun y => ?_⟩
      · obtain ⟨o, us, file, tf, flags, tg, inF, text, tt, e1, c1, c2, c3, c4, c5, c6, c7, c8, ne⟩ := tC q hq
        refine ⟨o, us, file, tf, flags, tg, inF, text, tt, baseOf e1 (notIn e1 (fun y => ?_) (fun _ _ y => ?_)), c1, c2, c3, c4, c5, c6, c7, c8, ne⟩
        · rw [c2] at y; cases y; simp at c3
        · rw [c2] at y; cases y
      · obtain ⟨bm, ob, b1, b2, b3, b4, b5, b6⟩ := hm
        refine ⟨bm, ob, b1, b2, fun y => ?_, fun y => ?_, baseOf b3 (notIn b3 (by rw [b6]; exact fun y => by cases y) (fun _ _ => by rw [b6]; exact fun y => by cases y)), b4, b5, b6⟩
        · obtain ⟨o, es, ep, e, hd, _⟩ := hns
          rw [y, e] at b3; cases b3
          rw [hd] at b6; cases b6
        · rw [y, eq] at b3; cases b3
          cases b6
      · obtain ⟨o, es, ep, e, hd, _⟩ := hns
        rw [y, eq] at e; cases e
        cases hd
    have none_in : ∀ b : Addr, b ∉ ([] : List Addr) := fun b => by simp
    have e0 : Env0 P w K mg (hidT z.heap H) callerA [] z H := ⟨rfl, hM, fun b o e => of_hidT e, Nat.le_of_eq (hidT_size _ _), trivial, fun b hb => absurd (show b ∈ ([] : List Addr) from hb) (none_in b), hok, .of_eq hg⟩
    obtain ⟨fd, FG, hbd⟩ := F _ hKb (nsK hns) TB
    refine codeAny_mono (FG.runG callerA [] z H ⟨[.ref a], []⟩ [.ref a] [.ref a] _ _ rfl hr e0 (hbd z (.ref a)) (.cons rfl .nil) (hsp H hH hS)) (fun r s' h => ?_)
    cases r with
    | error e => exact (hZ H e s' h).elim
    | ok fl =>
      cases fl with
      | next | brk | cont => exact False.elim h
      | ret u =>
        obtain ⟨v, H', os, bare, un, hok', r', q⟩ := h
        obtain rfl : v = .bl true := q
        obtain rfl : u = Value.bool true := r'
        have stay : ∀ b o, b ∉ tb.map (·.2) → z.heap.get? b = some o → s'.heap.get? b = some o := by
          intro b o nb e
          cases q : H b with
          | none => exact un.keep b o e q (fun y => absurd (show b ∈ ([] : List Addr) from y) (none_in b)) (none_in b)
          | some u =>
            rcases hO b u q with m | ⟨_, ob, xs, rfl⟩
            · exact absurd m nb
            · obtain ⟨e1, _⟩ := hok b _ q
              obtain ⟨e2, _⟩ := hok' b _ (un.frzs b ob _ q)
              rw [e] at e1; cases e1
              exact e2
        have more : ∀ q ∈ tb, ∃ us : Array Value, s'.heap.get? q.2 = some { cls := .none, data := .fields us } := fun q hq => by
          obtain ⟨us, y⟩ := un.tbls q.2 #[] (hH q hq)
          exact ⟨_, hok' q.2 _ y⟩
        refine ⟨rfl, ⟨fun b o e => ?_, fun b o e => ?_⟩, os, bare⟩
        · by_cases m : b ∈ tb.map (·.2)
          · obtain ⟨q, hq, rfl⟩ := List.mem_map.mp m
            obtain ⟨us, y⟩ := more q hq
            rw [tE q hq] at e; cases e
            exact .inr (.inl ⟨((tC q hq).tab (tE q hq)).isCodeTable, rfl, #[], us, rfl, by rw [Array.empty_append]; exact y⟩)
          · exact .inl (stay b o m e)
        · by_cases m : b ∈ tb.map (·.2)
          · obtain ⟨q, hq, rfl⟩ := List.mem_map.mp m
            obtain ⟨us, y⟩ := more q hq
            exact ⟨_, y⟩
          · exact ⟨o, stay b o m e⟩
  -- the heap: the tables, the script if the text does not hold it
  have inB : ∀ q ∈ tb, q.2 ∈ tb.map (·.2) := fun q hq => List.mem_map.mpr ⟨q, hq, rfl⟩
  cases hk : K.lookup a with
  | some o =>
    have e := KX a o hk
    rw [ha] at e; cases e
    refine core (fun b => if b ∈ tb.map (·.2) then some (.tbl #[]) else none) (fun q hq => if_pos (inB q hq)) (fun b u y => ?_) (.inr ⟨_, vs.toArray, _, hk, rfl, rfl, rfl, by rw [List.size_toArray, lenV]; exact hl, by simpa using rv⟩) (fun b u y => ?_) (fun y => absurd (if_neg aT) y)
    · by_cases m : b ∈ tb.map (·.2)
      · exact .inl m
      · cases (if_neg m).symm.trans y
    · by_cases m : b ∈ tb.map (·.2)
      · cases (if_pos m).symm.trans y
        exact inT b m
      · cases (if_neg m).symm.trans y
  | none =>
    refine core (fun b => if b = a then some (.frz { cls := .type "list", data := .seq vs.toArray } (.lst (ns.map V.int))) else if b ∈ tb.map (·.2) then some (.tbl #[]) else none) (fun q hq => ?_) (fun b u y => ?_) (.inl (.inr ⟨{ cls := .type "list", data := .seq vs.toArray }, if_pos rfl⟩)) (fun b u y => ?_) (fun _ => hk)
    · exact (if_neg (fun y : q.2 = a => aT (by rw [← y]; exact inB q hq))).trans (if_pos (inB q hq))
    · by_cases hb : b = a
      · cases (if_pos hb).symm.trans y
        exact .inr ⟨hb, _, _, rfl⟩
      · have y := (if_neg hb).symm.trans y
        by_cases m : b ∈ tb.map (·.2)
        · exact .inl m
        · cases (if_neg m).symm.trans y
    · by_cases hb : b = a
      · cases (if_pos hb).symm.trans y
        subst hb
        exact ⟨ha, by rw [List.length_map]; exact hl, vs, _, rv, ha⟩
      · have y := (if_neg hb).symm.trans y
        by_cases m : b ∈ tb.map (·.2)
        · cases (if_pos m).symm.trans y
          exact inT b m
        · cases (if_neg m).symm.trans y
/-- the law over a head by facts, with tables -/
theorem walk_ofGT {l : PySem.W.OpenLaw} {n k : Nat} {q : Program} {loose : List Str} {XP : (Str → Option Value) → Heap → Prop} {YP : World → Heap → Prop} {d : DefRec} {Z : CXT} {x : Str}
    (hn : l.most = some n) (hn2 : n ≤ sizeLine) (hdf : d.params.defaults = []) (hr : Room k callerA)
    (F : ∀ (w : World) (mg : Str → Option Value) (fa : Addr) (h : Heap), YP w h → h.Ns mainGlobals mg → mg d.name = some (.ref fa) →
      ∃ (K : PySem.W.Frag) (tb : List (Addr × Addr)) (sp : Sp), K.In h ∧ (∀ q ∈ tb, h.get? q.2 = some { cls := .none, data := .fields #[] }) ∧ (∀ q ∈ tb, K.lookup q.2 = none) ∧ (∀ q ∈ tb, PySem.W.CodeHd h q.1 q.2) ∧
        (∀ (H : Hp) (a : Addr) (ns : List Int), ns.length ≤ n → (∀ q ∈ tb, H q.2 = some (.tbl #[])) → SqL K H a (ns.map V.int) → sp [.ref a] H (fun v _ => v = .bl true) fun _ _ _ => False) ∧
        ∀ base : Heap, K.In base → base.Ns mainGlobals mg → (∀ q ∈ tb, LamX.TabB base mg q.1 q.2) → ∃ fd : FuncData, FnG l.prog w K mg base Z k fa fd [x] sp ∧ ∀ (s : Shared) (u : Value), BindsTo s fd ⟨[u], []⟩ [(x, u)])
    (hZ : ∀ (H : Hp) (s : Shared) (e : Value) (s' : Shared), Z [] H s (fun _ _ _ => False) e s' → False) :
    PySem.W.WalkO q loose XP YP l.row.toRowW d [] (fun f vs => PySem.call f vs) := by
  refine Att.attach_call hn hdf (fun w s₀ z mg mb fa o pm cd doc a vs ns G Y ho hd hcd hmg hobj hints hlen hg => ?_)
  obtain ⟨K, tb, sp, KX, t1, t2, t3, hsp, hF⟩ := F w mg fa _ Y G.T.g hmg
  exact law_callGT KX G.T.g G.T.b G.T.builtins G.T.nolimit hg t1 t2 t3 G.T.bmain hobj hints (Nat.le_trans hlen hn2) hr hF (fun H hO hS => hsp H a ns hlen hO hS) (fun H e s' => hZ H z e s')
/-! ### a class with an own __init__, as the head tells it -/
/-- the j-th row of a class's text -/
def clsItem (st : Stmt) (j : Nat) : Stmt := match st with
  | .ClassDef _ _ _ body _ _ _ _ _ _ _ => body.getD j (.Pass ⟨0, 0, 0, 0⟩)
  | _ => .Pass ⟨0, 0, 0, 0⟩
theorem ExcT.xf {P : Program} {K : PySem.W.Frag} {mg : Str → Option Value} {x : Str} {C : Addr} {f1 f2 : Str} (T : ExcT P K mg x C f1 f2) : XfC K C ∧ PySem.W.findIn K (.ref C) f1 = some none ∧ PySem.W.findIn K (.ref C) f2 = some none := by
  obtain ⟨_, _, _, _, T2⟩ := T.ex
  exact ⟨T2.xf, T2.no1, T2.no2⟩
structure InitD where
  cls : Str
  f1 : Str
  f2 : Str
  params : Arguments
  body : List Stmt
  scope : Scope
abbrev InW : Type := Option (Str × Str × Arguments × FuncBody × Scope × Addr × List Str × Addr)
def initW (K : PySem.W.Frag) (d : InitD) : InW := match K.lookup (He.fAd K (d.cls, some "__init__")) with
  | some ⟨_, _, .func fd, _⟩ => some (fd.name, fd.qualname, fd.params, fd.body, fd.scope, fd.globals, fd.closure.map (·.1), fd.builtins)
  | _ => none
def InitD.qual (d : InitD) : Str := d.cls ++ ".__init__"
def InitD.val (d : InitD) : InW := some ("__init__", d.qual, d.params, .stmts d.body, d.scope, mainGlobals, ["__class__"], builtinsNs)
def exT2 (K : PySem.W.Frag) (C : Addr) : Bool := match K.lookup C with
  | some ⟨.type t, _, .cls cd, sl⟩ => decide (t = "type") && (match cd.mro, sl.toList with
    | .ref C' :: bm, [_, _, _, _, some (.builtin n), _] => C' == C && (n == "ValueError.__new__" && (!cd.hasDel && (cd.hasDict && PySem.HandSPX.refsVE bm)))
    | _, _ => false)
  | _ => false
theorem exT2_ok {K : PySem.W.Frag} {C : Addr} (q : exT2 K C = true) : ∃ nm q N bs bm sn sub ab col dd k0 k1 k2 k3 k5, K.lookup C = some (excClassObj nm q C N bs bm true sn sub ab col dd k0 k1 k2 k3 k5 "ValueError.__new__") ∧ PySem.HandSPX.refsVE bm = true := by
  unfold exT2 at q
  split at q
  · rename_i t dd cd sl ho
    obtain ⟨y1, y2⟩ := He.ba q
    clear q
    obtain rfl := of_decide_eq_true y1
    split at y2
    · rename_i C' bm k0 k1 k2 k3 n k5 hm hs
      obtain ⟨a1, y3⟩ := He.ba y2
      obtain ⟨a2, y4⟩ := He.ba y3
      obtain ⟨a3, y5⟩ := He.ba y4
      obtain ⟨a4, a5⟩ := He.ba y5
      obtain rfl := beq_iff_eq.mp a1
      obtain rfl := beq_iff_eq.mp a2
      obtain ⟨nm, bs, mro, ns, qn, hd, sn, sub, ab, col, del⟩ := cd
      dsimp only at hm a3 a4
      subst hm a4
      obtain rfl : del = false := by simpa using a3
      obtain rfl : sl = #[k0, k1, k2, k3, some (.builtin "ValueError.__new__"), k5] := by
        obtain ⟨l⟩ := sl
        simp only at hs
        rw [hs]
      exact ⟨nm, qn, ns, bs, bm, sn, sub, ab, col, dd, k0, k1, k2, k3, k5, ho, a5⟩
    · cases y2
  · cases q
/-- the function's own part: no defaults, its cell holds the class, its code object is of the main file -/
def inCell (P : Program) (K : PySem.W.Frag) (C fI : Addr) (qual : Str) : Bool := match K.lookup fI with
  | some ⟨_, _, .func fd, _⟩ => (match fd.closure, fd.code, fd.defaults, fd.kwdefaults with
    | [(_, cc)], .ref cda, .none, .none => PySem.W.codeIn K (.ref cda) qual && ((match K.lookup cc with
        | some ⟨_, _, .cell (some (.ref D)), _⟩ => decide (D = C)
        | _ => false) && (match K.lookup cda with
        | some ⟨_, _, .fields vs, _⟩ => (match (vs[2]? : Option Value) with
          | some (.str file _) => (P.main.file : Str) == file
          | _ => false)
        | _ => false))
    | _, _, _, _ => false)
  | _ => false
def initB (P : Program) (K : PySem.W.Frag) (d : InitD) : Bool :=
  exT2 K (He.ga K d.cls) && (decide (PySem.W.findIn K (.ref (He.ga K d.cls)) "__setattr__" = some (some (.builtin "object.__setattr__"))) && (decide (PySem.W.findIn K (.ref (He.ga K d.cls)) d.f1 = some none) && (decide (PySem.W.findIn K (.ref (He.ga K d.cls)) d.f2 = some none) &&
  (decide (PySem.W.findIn K (.ref (He.ga K d.cls)) "__init__" = some (some (.ref (He.fAd K (d.cls, some "__init__"))))) && (decide (PySem.W.typeIn K (.ref (He.fAd K (d.cls, some "__init__"))) = some (.type "function")) && (PySem.W.keepIn K (.ref (He.ga K d.cls)) &&
  (decide (PySem.W.subIn K (.ref (He.ga K d.cls)) (.type "BaseException") = some true) && (decide (PySem.W.subIn K (.ref (He.ga K d.cls)) (.type "ValueError") = some true) && (decide (PySem.W.typeIn K (.ref (He.ga K d.cls)) = some (.type "type")) && (xfB K (He.ga K d.cls) &&
  (decide (PySem.W.ks_superIn K (He.ga K d.cls) (He.ga K d.cls) "__init__" = some (some (.builtin "ValueError.__init__"))) && (decide (PySem.W.mroIn K (He.ga K d.cls) (.ref (He.ga K d.cls)) = some true) && (decide (PySem.W.nsIn K cStatics "thirdparty.any" = some none) &&
  (inCell P K (He.ga K d.cls) (He.fAd K (d.cls, some "__init__")) d.qual && (decide (PySem.W.exmOne K (.ref (He.ga K d.cls)) (.ref (He.ga K d.cls)) = some true) && !(P.main.scope.names.lookup ("super" : Str)).isSome)))))))))))))))
/-- the shape of the text -/
def InitD.Ok (d : InitD) : Prop := TiS d.f1 d.f2 d.scope ∧ ∃ (p1 p2 p3 q1 q2 q3 q4 q5 q6 q7 r1 r2 r3 r4 t1 t2 t3 t4 : Pos), d.params = tiA d.f1 d.f2 p1 p2 p3 ∧ d.body = tiB d.f1 d.f2 q1 q2 q3 q4 q5 q6 q7 r1 r2 r3 r4 t1 t2 t3 t4 ∧ TiE d.f1 d.f2 q1 q2 q3 q4 q5 q6 ∧
  ∀ (doc pm ct : Value) (an : Option Addr) (cda cc : Addr) (a b c : Value), bindArgs (PySem.W.ksFn "__init__" d.qual (tiA d.f1 d.f2 p1 p2 p3) (tiB d.f1 d.f2 q1 q2 q3 q4 q5 q6 q7 r1 r2 r3 r4 t1 t2 t3 t4) d.scope .none .none doc pm an (.ref cda) ct cc) ⟨[a, b, c], []⟩ = pure [(("self" : Str), a), (d.f1, b), (d.f2, c)]
theorem two_of {P : Program} {K : PySem.W.Frag} {mg : Str → Option Value} {d : InitD} (O : d.Ok) (e : initW K d = d.val) (q : initB P K d = true) (hg : mg d.cls = some (.ref (He.ga K d.cls))) (hs : mg "super" = none) : ExcT P K mg d.cls (He.ga K d.cls) d.f1 d.f2 := by
  obtain ⟨S, p1, p2, p3, q1, q2, q3, q4, q5, q6, q7, r1, r2, r3, r4, t1, t2, t3, t4, hp, hb, hE, hbd⟩ := O
  unfold initB at q
  obtain ⟨b1, q⟩ := He.ba q
  obtain ⟨b2, q⟩ := He.ba q
  obtain ⟨b3, q⟩ := He.ba q
  obtain ⟨b4, q⟩ := He.ba q
  obtain ⟨b5, q⟩ := He.ba q
  obtain ⟨b6, q⟩ := He.ba q
  obtain ⟨b7, q⟩ := He.ba q
  obtain ⟨b8, q⟩ := He.ba q
  obtain ⟨b9, q⟩ := He.ba q
  obtain ⟨b10, q⟩ := He.ba q
  obtain ⟨b11, q⟩ := He.ba q
  obtain ⟨b12, q⟩ := He.ba q
  obtain ⟨b13, q⟩ := He.ba q
  obtain ⟨b14, q⟩ := He.ba q
  obtain ⟨b15, q⟩ := He.ba q
  obtain ⟨b16, b17⟩ := He.ba q
  refine ⟨hg, hs, S.n12, ?_, of_decide_eq_true b16⟩
  unfold inCell at b15
  unfold initW at e
  cases hf : K.lookup (He.fAd K (d.cls, some "__init__")) with
  | none => rw [hf] at b15; cases b15
  | some o =>
    obtain ⟨oc, od, dt, osl⟩ := o
    rw [hf] at b15 e
    cases dt with
    | func fd =>
      obtain ⟨n1, n2, n3, n4, n5, n6, n7, n8, n9, n10, n11, n12, n13, n14, n15⟩ := fd
      have e2 : (some (n1, n2, n3, n4, n5, n6, n7.map (·.1), n15) : InW) = d.val := e
      unfold InitD.val at e2
      simp only [Option.some.injEq, Prod.mk.injEq] at e2
      obtain ⟨h1, h2, h3, h4, h5, h6, h7, h8⟩ := e2
      rcases n7 with _ | ⟨⟨x, cc⟩, _ | ⟨y, r⟩⟩
      · cases b15
      · cases n13 with
        | ref cda =>
          cases n8 with
          | none =>
            cases n9 with
            | none =>
              obtain ⟨k1, k2⟩ := He.ba b15
              obtain ⟨k2, k3⟩ := He.ba k2
              have hx : x = ("__class__" : Str) := by
                injection (show [x] = [("__class__" : Str)] from h7)
              subst hx h1 h2 h3 h4 h5 h6 h8
              have cell : ∃ (cl : Value) (cld : Option Addr) (csl : Array (Option Value)), K.lookup cc = some ⟨cl, cld, .cell (some (.ref (He.ga K d.cls))), csl⟩ := by
                split at k2
                · rename_i cl cld D csl hD
                  obtain rfl := of_decide_eq_true k2
                  exact ⟨cl, cld, csl, hD⟩
                · cases k2
              have code : ∃ (ccl : Value) (cdd : Option Addr) (vs : Array Value) (ccs : Array (Option Value)) (file : Str) (tf : Tok), K.lookup cda = some ⟨ccl, cdd, .fields vs, ccs⟩ ∧ vs[2]? = some (.str file tf) ∧ ((P.main.file : Str) == file) = true := by
                split at k3
                · rename_i ccl cdd vs ccs hv
                  split at k3
                  · rename_i file tf h2
                    exact ⟨ccl, cdd, vs, ccs, file, tf, hv, h2, k3⟩
                  · cases k3
                · cases k3
              refine ⟨_, cc, cda, d.qual, exT2_ok b1, of_decide_eq_true b2, of_decide_eq_true b3, of_decide_eq_true b4, of_decide_eq_true b5, of_decide_eq_true b6, b7, of_decide_eq_true b8, of_decide_eq_true b9, of_decide_eq_true b10, xfB_ok b11, of_decide_eq_true b12, of_decide_eq_true b13, of_decide_eq_true b14, ?_, k1, cell, code, by simpa using b17⟩
              refine ⟨d.scope, S, oc, od, n10, n11, n12, n14, osl, p1, p2, p3, q1, q2, q3, q4, q5, q6, q7, r1, r2, r3, r4, t1, t2, t3, t4, ?_, hbd _ _ _ _ _ _, hE⟩
              rw [hf, ← hp, ← hb] <;> rfl
            | _ => cases b15
          | _ => cases b15
        | _ => cases b15
      · cases b15
    | _ => cases b15
end Hk
set_option maxRecDepth 100000
set_option maxHeartbeats 2000000
namespace Hk
open PySem PySem.Spec PyProof.Rows
open L2
/-! ### the head -/
def kOf (g : Addr → Option Obj) (n : Nat) : PySem.W.Frag := He.frT g (cStatics :: He.asD g n)
abbrev AlY : Type := He.AlD × Bool × List InW
/-- what is asked of the head -/
structure Ask where
  P : Program
  fa : List He.Fa
  fn : List He.DefD
  tf : List He.Defn
  ins : List InitD
  ex : PySem.W.Frag → Bool
def obsY (n : Nat) (A : Ask) (g : Addr → Option Obj) : AlY := (He.obsD A.fa A.fn (kOf g n), He.tabsB g A.tf (kOf g n) && (A.ins.all (initB A.P (kOf g n)) && A.ex (kOf g n)), A.ins.map (initW (kOf g n)))
def valY (A : Ask) : AlY := (He.valD A.fn, true, A.ins.map InitD.val)
structure SaysY (A : Ask) (h : Heap) (K : PySem.W.Frag) : Prop where
  d : He.SaysD A.fa A.fn K
  ex : A.ex K = true
  ini : ∀ q ∈ A.ins, initW K q = q.val ∧ initB A.P K q = true
  tab : ∀ p ∈ A.tf, PySem.W.codeHdIn K (He.cT K p).1 (He.cT K p).2 = true ∧ K.lookup (He.cT K p).2 = none ∧ h.get? (He.cT K p).2 = some { cls := .none, data := .fields #[] }
theorem says_of {n : Nat} {A : Ask} {h : Heap} (e : obsY n A h.get? = valY A) : SaysY A h (kOf h.get? n) := by
  have e1 : He.obsD A.fa A.fn (kOf h.get? n) = He.valD A.fn := congrArg (fun z : AlY => z.1) e
  have e2 : (He.tabsB h.get? A.tf (kOf h.get? n) && (A.ins.all (initB A.P (kOf h.get? n)) && A.ex (kOf h.get? n))) = true := congrArg (fun z : AlY => z.2.1) e
  have e3 : A.ins.map (initW (kOf h.get? n)) = A.ins.map InitD.val := congrArg (fun z : AlY => z.2.2) e
  obtain ⟨t1, t2⟩ := He.ba e2
  obtain ⟨t2, t3⟩ := He.ba t2
  refine ⟨e1, t3, fun q hq => ⟨List.map_inj_left.mp e3 q hq, List.all_eq_true.mp t2 q hq⟩, fun p hp => ?_⟩
  obtain ⟨h3, h4⟩ := He.ba (List.all_eq_true.mp t1 p hp)
  cases q : h.get? (He.cT (kOf h.get? n) p).2 with
  | none => rw [q] at h4; cases h4
  | some o =>
    rw [q] at h4
    exact ⟨h3, He.frT_none q h4, by rw [He.emptyTab_eq h4]⟩
def hookY (n : Nat) (A : Ask) : PySem.W.Hook where
  α := AlY
  obs := fun s => obsY n A s.heap.get?
  val := fun _ => valY A
  says := fun _ h => ∃ K : PySem.W.Frag, K.In h ∧ SaysY A h K
  of := fun _ _ e => ⟨_, He.frT_in, says_of e⟩
  keeps := fun _ _ _ ⟨K, hK, c⟩ k => ⟨K, PySem.W.Frag.In.keeps hK k, ⟨c.d, c.ex, c.ini, fun p hp => ⟨(c.tab p hp).1, (c.tab p hp).2.1, k _ _ (c.tab p hp).2.2⟩⟩⟩
theorem obsY_eq {n : Nat} {A : Ask} {g : Addr → Option Obj} {s : Shared} (h : ∀ a, g a = s.heap.get? a) : obsY n A g = (hookY n A).obs s := by
  have e : g = s.heap.get? := funext h
  rw [e] <;> rfl
theorem SaysY.two {A : Ask} {h : Heap} {K : PySem.W.Frag} {mg : Str → Option Value} (c : SaysY A h K) (X : K.In h) (G : h.Ns mainGlobals mg) (i j : Nat) {d : InitD} (O : d.Ok) (hs : mg "super" = none) (hi : A.fa[i]? = some (.glo d.cls) := by rfl) (hj : A.ins[j]? = some d := by rfl) :
    ExcT A.P K mg d.cls (He.ga K d.cls) d.f1 d.f2 := by
  obtain ⟨e1, e2⟩ := c.ini d (List.mem_of_getElem? hj)
  exact two_of O e1 e2 (He.glo_ok X G (c.d.fact i hi)) hs
/-! ### the law with tables -/
abbrev lamQ (p : He.Defn) : Str := p.1 ++ ".<locals>." ++ "<lambda>"
def tabsOf (K : PySem.W.Frag) (tf : List He.Defn) : List (Addr × Str) := tf.map fun p => ((He.cT K p).2, lamQ p)
def spLawT (K : PySem.W.Frag) (tf : List He.Defn) : Sp := fun vs H Q _ => ∃ (a : Addr) (ns : List Int), vs = [.ref a] ∧ SqL K H a (ns.map V.int) ∧ LamX.Tabs (tabsOf K tf) H ∧ ∀ H', Q (.bl true) H'
theorem law_endY {l : PySem.W.OpenLaw} {k : Nat} {q : Program} {loose : List Str} {XP : (Str → Option Value) → Heap → Prop} {d : DefRec} {n : Nat} {A : Ask}
    (hn : l.most = some 63) (hdf : d.params.defaults = []) (hd : d.name = "law") (hr : Room k callerA)
    (F : ∀ (w : World) (K : PySem.W.Frag) (mg : Str → Option Value) (h : Heap), K.In h → h.Ns mainGlobals mg → SaysY A h K → ∀ base : Heap, (∀ p ∈ A.tf, LamX.TabB base mg (He.cT K p).1 (He.cT K p).2) → HasG l.prog w K mg base CX0 "law" k ["script"] (spLawT K A.tf)) :
    PySem.W.WalkO q loose XP (hookY n A).says l.row.toRowW d [] (fun f vs => PySem.call f vs) := by
  refine walk_ofGT (n := 63) (k := k) (x := "script") (Z := CX0) hn (by decide) hdf hr ?_ (fun _ _ _ _ z => z)
  intro w mg f h Y G hmg
  obtain ⟨K, KX, c⟩ := Y
  rw [hd] at hmg
  have mem : ∀ q ∈ A.tf.map (He.cT K), ∃ p ∈ A.tf, He.cT K p = q := fun q hq => List.mem_map.mp hq
  refine ⟨K, A.tf.map (He.cT K), spLawT K A.tf, KX, fun q hq => ?_, fun q hq => ?_, fun q hq => ?_, fun H a ns _ hT hS => ⟨a, ns, rfl, hS, fun q hq => ?_, fun _ => rfl⟩, fun base _ _ TB => ?_⟩
  · obtain ⟨p, hp, rfl⟩ := mem q hq
    exact (c.tab p hp).2.2
  · obtain ⟨p, hp, rfl⟩ := mem q hq
    exact (c.tab p hp).2.1
  · obtain ⟨p, hp, rfl⟩ := mem q hq
    exact PySem.W.codeHd_of_K KX (c.tab p hp).1
  · obtain ⟨p, hp, rfl⟩ := List.mem_map.mp hq
    exact LamX.TabS.nil (hT _ (List.mem_map.mpr ⟨p, hp, rfl⟩))
  obtain ⟨f2, fd, g2, _, bd, FG⟩ := F w K mg h KX G c base (fun p hp => TB _ (List.mem_map.mpr ⟨p, hp, rfl⟩))
  obtain rfl : f2 = f := by
    rw [hmg] at g2
    injection Option.some.inj g2 with e
    exact e.symm
  exact ⟨fd, FG, fun s u => bd s [u] rfl⟩
/-! ### a def whose code object is known -/
def SrcC (K : PySem.W.Frag) (mg : Str → Option Value) (x : Str) (st : Stmt) : Prop :=
  ∃ fd : FuncData, mg x = some (.ref (He.ga K x)) ∧ FunD K x x (defArgs st) (defBody st) (defScope st) [] [] (He.ga K x) fd
theorem srcC_of {fa : List He.Fa} {fn : List He.DefD} {K : PySem.W.Frag} {h : Heap} {mg : Str → Option Value} (X : K.In h) (G : h.Ns mainGlobals mg) (c : He.SaysD fa fn K) (i j : Nat) {x : Str} {st : Stmt} (hi : fa[i]? = some (.glo x) := by rfl) (hj : fn[j]? = some ⟨(x, none), x, x, defArgs st, defBody st, defScope st, [], []⟩ := by rfl) : SrcC K mg x st := by
  obtain ⟨fd, F⟩ := c.def_ j hj
  exact ⟨fd, He.glo_ok X G (c.fact i hi), F⟩
section
variable {P : Program} {w : World} {K : PySem.W.Frag} {mg : Str → Option Value} {base : Heap} {x : Str} {k : Nat} {ps N : List Str} {sp : Sp} {st : Stmt}
theorem SrcC.hasG (S : SrcC K mg x st) (sc : FnScope N ps (defScope st))
    (bd : ∀ (kV doc pm : Value) (an : Option Addr) (cdv ct : Value) (us : List Value), us.length = ps.length → bindArgs (PySem.W.fnOf x x (defArgs st) (defBody st) (defScope st) .none kV doc pm an cdv ct) ⟨us, []⟩ = pure (ps.zip us))
    (ln : ∀ vs H Q E, sp vs H Q E → vs.length = ps.length)
    (body : ∀ (f : Addr) (cdv : Value) (A : Around) (out : List Env) (s : Shared) (H : Hp) (vs : List V) (Q : VK) (E : XK), cdv = .ref (He.cT K (x, none)).1 → A.guards = some [] → Room k (A.deeper (envOfC x (defScope st) s.heap.objs.size f cdv)) → sp vs H Q E →
      ∃ t, PSs (cxOf CX0 P w K mg base N x (defScope st) f cdv A out s H E).nox (defBody st) t ∧ t { nx := fun _ H' => Q .non H', rt := Q } (start N vs) H) : HasG P w K mg base CX0 x (k + 1) ps sp := by
  obtain ⟨fd, gm, F⟩ := S
  refine ⟨_, fd, gm, F.kp, F.bindsA bd, ?_⟩
  obtain ⟨oc, od, dV, kV, doc, pm, an, cdv, ct, osl, rfl, lk, hcd, _, _⟩ := F.ex
  have hc : cdv = .ref (He.cT K (x, none)).1 := by
    obtain ⟨c, rfl⟩ := He.codeIn_ref hcd
    rw [show (He.cT K (x, none)).1 = c from He.codeOf_eq lk rfl]
  refine fnG_of lk hcd sc ln (fun A out s H vs Q E hg hr h => ?_)
  obtain ⟨t, h1, h2⟩ := body _ cdv A out s H vs Q E hc hg hr h
  exact ⟨t, h1.nox, h2⟩
end
/-! ### hearing -/
theorem takes_len {X : Cx} {W : WX} (tk : Takes X W) : Takes X (fun cls d σ H => σ.length = X.N.length → W cls d σ H) := by
  rintro u s' ⟨a, B, sI, pins, σ, H, cls, d, e, I, nb, up, sky, na, os, ag, h⟩
  exact tk u s' ⟨a, B, sI, pins, σ, H, cls, d, e, I, nb, up, sky, na, os, ag, h I.len⟩
/-- what comes of the exception cls (its data at d) by the clauses l -/
def heardX (K : PySem.W.Frag) (n : Nat) (l : List Cl) (Q : VK) : XK := fun cls d G => ∀ σ : L2.St, σ.length = n → wMix K (fun _ _ _ _ => False) { nx := fun _ G => Q .non G, rt := Q } l cls d σ G
section
variable {X : Cx}
theorem hear_gives {Ng : List Str} {x a q told : Str} {sg : Scope} {g : Addr} {cdg : Value} {j : Nat} {hs : List ExceptHandler} {h₀ : ExceptHandler} {l : List Cl} {p1 p2 p3 p4 p6 p8 : Pos} {p5 : Nat}
    (h0 : ∀ f : Addr, (L2.start Ng [V.ref f])[0]? = some (some (V.ref f)))
    (hh : ∀ (s : Shared) (H : Hp), HdM (cxOf C8.CX0 X.prog X.w X.K X.mg X.base Ng x sg g cdg X.A X.stack s H C8.E0).nox (h₀ :: hs) l) :
    LamX.GivesTo X Ng x sg g cdg [.Try [.Return (some (.Tuple [.Constant (.str told) j p4, .Call (.Name a p1) [] [] p2] p5 p6)) p3] (h₀ :: hs) [] [] p8] a q
      (fun tl H Q => tl (heardX X.K Ng.length l Q) H (fun v G => [V.str told, v].length ≤ sizeLine ∧ ∀ p, G p = none → Q (.ref p) (upd G p (.tup [.str told, v])))) := by
  intro f c' s H Q tl act hc h
  refine ⟨_, pss_one (ps_try_mix (X := (cxOf C8.CX0 X.prog X.w X.K X.mg X.base Ng x sg g cdg X.A X.stack s H C8.E0).nox)
    (tb := fun W D σ G => ∃ Ech : XK, (∀ cls d σ' G', σ'.length = Ng.length → Ech cls d G' → W cls d σ' G') ∧ σ[0]? = some (some (.ref f)) ∧ G c' = some (LamX.CodeO c' q) ∧ tl Ech G (fun v G' => [V.str told, v].length ≤ sizeLine ∧ ∀ p, G' p = none → D.rt (.ref p) (upd G' p (.tup [.str told, v]))))
      rfl rfl LamX.takes0 (fun W pn xe tk _ => ?_) (hh s H)), ?_⟩
  · refine ⟨fun pins s' σ H' D I h' => ?_⟩
    obtain ⟨Ech, hW, h1, h2, h3⟩ := h'
    have hp := act _ pn xe Ech p1 p2 (takes_len tk) (fun cls d σ' G' e hl => hW cls d σ' G' hl e)
    have hq := pss_one (ps_ret (pos := p3) (pe_tup (x1 := p5) (pos := p6) (pa_cons (e := .Constant (.str told) j p4) pe_str (pa_cons hp pa_nil))))
    exact hq.run pins s' σ H' D I ⟨h1, h2, h3⟩
  · exact ⟨heardX X.K Ng.length l Q, fun cls d σ' G' hl e => e σ' hl, h0 f, hc, h⟩
/-- x(lambda: body), x a def that hears -/
theorem pe_heard {T : List (Addr × Str)} {TT : (XK → Hp → VK → Prop) → Hp → VK → Prop} {x a : Str} {st : Stmt} {c P : Addr} {k : Nat} {Ng : List Str} {params : Arguments} {body : Expr} {scope : Scope} {t : XK → TE} {p lpos pos : Pos} (S : Src X.K X.mg x st) (sc : FnScope Ng [a] (defScope st))
    (bd : ∀ (kV doc pm : Value) (an : Option Addr) (cdv ct : Value) (us : List Value), us.length = [a].length → bindArgs (PySem.W.fnOf x x (defArgs st) (defBody st) (defScope st) .none kV doc pm an cdv ct) ⟨us, []⟩ = pure ([a].zip us))
    (hg : Gl X x) (h0 : Ng[0]? = some a) (hva : Vis (defScope st) a) (hG : ∀ (g : Addr) (cdv : Value), LamX.GivesTo X Ng x (defScope st) g cdv (defBody st) a (X.env.qual ++ "<lambda>") TT)
    (TB : LamX.TabB X.base X.mg c P) (hcode : X.env.code = .ref c) (hmT : (P, X.env.qual ++ "<lambda>") ∈ T) (hu : ∀ p ∈ T, p.1 = P → p.2 = X.env.qual ++ "<lambda>") (hr : Room (k + 2) X.A) (L : LamX.LamS X.env.scope scope) (hdef : defaultsOf params X.env = ([], []))
    (hbind : ∀ (q : Str) (cl : List (Str × Addr)) (pm cv ctv : Value), bindArgs (PySem.W.kla_fn "<lambda>" q params body scope cl pm cv ctv) ⟨[], []⟩ = pure [])
    (hbody : ∀ (A : Around) (out : List Env) (s : Shared) (H : Hp) (E : XK) (f c' : Addr), Room k (A.deeper (LamX.lamEnv X scope s.heap.objs.size f c')) → PE (LamX.lamCx X A out s H E scope f c') body (t E))
    (hdb : (x == ("__debug__" : Str)) = false := by decide) (hd : (a == ("__debug__" : Str)) = false := by decide) (hcd : (a == ("__classdict__" : Str)) = false := by decide) :
    PE X (.Call (.Name x p) [.Lambda params body scope lpos] [] pos) (LamX.tLam T TT t) := by
  obtain ⟨f, fd, gm, F⟩ := S
  obtain ⟨oc, od, dV, kV, doc, pm, an, cdv, ct, osl, rfl, lk, hcd2, hdv, _⟩ := F.ex
  refine LamX.pe_lamcall hg gm F.kp lk hcd2 ?_ sc h0 hva (hG f cdv) TB hcode hmT hu hr L hdef hbind hbody hdb hd hcd
  exact BindsE.b (F.bindsA bd)
end
/-! ### what stays when a code table grows -/
theorem extN_lst {H H' : Hp} {b : Addr} {xs : List V} (e : LamX.ExtN H H') (h : H b = some (.lst xs)) : H' b = some (.lst xs) := e b _ h (fun _ z => by cases z)
theorem extN_tup {H H' : Hp} {b : Addr} {xs : List V} (e : LamX.ExtN H H') (h : H b = some (.tup xs)) : H' b = some (.tup xs) := e b _ h (fun _ z => by cases z)
theorem extN_kt {H H' : Hp} (e : LamX.ExtN H H') : KeepT H H' := ⟨fun a xs h => extN_tup e h, fun a o u h => e a _ h (fun _ z => by cases z)⟩
theorem extN_same {H H' : Hp} (e : Same H H') : LamX.ExtN H H' := .of e
theorem tabs_same {T : List (Addr × Str)} {H H' : Hp} (t : LamX.Tabs T H) (e : Same H H') : LamX.Tabs T H' := t.ext e
/-- a list written: the tables stay -/
theorem codeO_lst {c : Addr} {q : Str} {xs : List V} : LamX.CodeO c q ≠ .lst xs := fun z => by
  unfold LamX.CodeO at z
  cases z
theorem tabs_k1 {T : List (Addr × Str)} {H H' : Hp} {b : Addr} {xs : List V} (t : LamX.Tabs T H) (e : Keep1 b H H') (hb : H b = some (.lst xs)) : LamX.Tabs T H' := by
  intro p hp
  obtain ⟨ps, h1, h2, h3⟩ := t p hp
  have ne : p.1 ≠ b := fun z => by rw [z, hb] at h1; cases h1
  refine ⟨ps, e _ _ ne h1, h2, fun pos cv hc => ?_⟩
  obtain ⟨c, e1, e2⟩ := h3 pos cv hc
  exact ⟨c, e1, e _ _ (fun z => by rw [z, hb] at e2; exact codeO_lst (Option.some.inj e2).symm) e2⟩
end Hk
set_option maxRecDepth 100000
set_option maxHeartbeats 2000000
namespace Hk
open PySem PySem.Spec PyProof.Rows
open L2
section
variable {X : Cx}
/-! ### a text by its code points -/
abbrev tx (l : List Nat) : Str := ⟨l.toArray⟩
theorem tx_len (l : List Nat) : (tx l).length = l.length := by simp [tx, Str.length]
theorem tx_inj {a b : List Nat} (h : tx a = tx b) : a = b := congrArg (fun x : Str => x.cps.toList) h
theorem tx_eq {a b : List Nat} : (tx a = tx b) ↔ a = b := ⟨tx_inj, fun h => by rw [h]⟩
theorem tx_of (x : Str) : tx x.cps.toList = x := rfl
theorem tx_app (a b : List Nat) : tx a ++ tx b = tx (a ++ b) := TL.ext_tl (TL.tl_append (tx a) (tx b))
/-! ### 'x' * n -/
def rRepS : R2 := fun x y H Q => ∃ (c n : Nat), x = .str (tx [c]) ∧ y = .int n ∧ 1 < n ∧ n ≤ 1000000 ∧ Q (.str (tx (List.replicate n c))) H
theorem op_repS : OpR X (binaryOp .Mult) rRepS := by
  intro pins s σ H x y v u Q I rx ry h
  obtain ⟨c, n, rfl, rfl, h1, h2, q⟩ := h
  obtain ⟨t, rfl⟩ := rx
  obtain ⟨t', rfl⟩ := ry
  have hn0 : ¬ ((n : Int) < 1) := by omega
  have hn1 : ((n : Int) == 1 || (tx [c]).length == 0) = false := by
    have : ((n : Int) == 1) = false := by simp; omega
    rw [this]; rfl
  have all : ∀ m : Nat, (List.replicate m (#[c] : Array Nat)).foldl (· ++ ·) #[] = (List.replicate m c).toArray := by
    have g : ∀ (m : Nat) (a : List Nat), (List.replicate m (#[c] : Array Nat)).foldl (· ++ ·) a.toArray = (a ++ List.replicate m c).toArray := by
      intro m
      induction m with
      | zero => intro a; simp
      | succ m ih =>
        intro a
        rw [List.replicate_succ, List.foldl_cons, show a.toArray ++ #[c] = (a ++ [c]).toArray by simp, ih, List.replicate_succ]
        simp
    intro m
    simpa using g m []
  refine PySem.P.mul_str ?_ (fun _ _ => ?_) (fun _ _ => ?_) ?_
  · rw [decide_eq_false (by omega), decide_eq_false (by omega)]; rfl
  · have : (1 : Int) ≤ (2 ^ 63 - 1) / n := by
      rw [Int.le_ediv_iff_mul_le (by omega)]; omega
    show ¬ ((1 : Int) > _)
    omega
  · have e : sizeLine = 16777216 := sizeLine_eq
    exact decide_eq_false (show ¬ (1 * (n : Int).toNat > sizeLine) by rw [e]; omega)
  · rw [if_neg hn0, if_neg (by rw [hn1]; decide)]
    show Made.post (Made.str ⟨(List.replicate n (#[c] : Array Nat)).foldl (· ++ ·) #[]⟩) _ _
    rw [all]
    have e : sizeLine = 16777216 := sizeLine_eq
    exact ⟨show (tx (List.replicate n c)).length ≤ sizeLine by rw [tx_len, List.length_replicate, e]; omega, .str _, H, I.tok _, ⟨_, rfl⟩, q⟩
/-! ### x in xs, where the written part has its own name -/
theorem op_uin {K : PySem.W.Frag} (hK : X.K = K := by rfl) : OpR X (compareOp .In) (rIn K false) := by
  subst hK
  exact op_in_seq
theorem op_unotin {K : PySem.W.Frag} (hK : X.K = K := by rfl) : OpR X (compareOp .NotIn) (rIn K true) := by
  subst hK
  exact op_notIn_seq
theorem inV_strs (x : Str) (l : List Str) : inV (.str x) (l.map V.str) = decide (x ∈ l) := by
  unfold inV
  induction l with
  | nil => rfl
  | cons y l ih =>
    rw [List.map_cons, List.any_cons, ih]
    show ((y == x) || decide (x ∈ l)) = decide (x ∈ y :: l)
    by_cases h : y = x
    · subst h; simp
    · have : (y == x) = false := by simpa using h
      rw [this, Bool.false_or]
      simp [Ne.symm h]
theorem flat_strs (l : List Str) : (l.map V.str).all flatV = true := by
  simp [List.all_eq_true, flatV]
/-! ### the module's name of an object -/
theorem pe_cref {x : Str} {a : Addr} {pos : Pos} (h : X.mg x = some (.ref a)) (hg : Gl X x) (hd : (x == ("__debug__" : Str)) = false := by decide) : PE X (.Name x pos) (tC (.ref a)) := pe_glob hg h rfl hd
end
/-! ### slices -/
theorem cutS_mid {l : List Nat} {b k : Nat} (h : b + k ≤ l.length) : cutS (tx l) (some (b : Int)) (some ((b + k : Nat) : Int)) = tx ((l.drop b).take k) := by
  unfold cutS
  rw [tx_len, HT.sIx_nat, HT.sIx_nat, Nat.min_eq_left h, Nat.min_eq_left (by omega), show b + k - b = k by omega]
/-! ### a rest that several branches share -/
theorem share {A X G : Prop} (main : (A → X) → G) (rest : A → X) : G := main rest
/-! ### tests by a Bool that is known -/
theorem ifT {b : Bool} {A B : Prop} (h : b = true) (a : A) : if b = true then A else B := by subst h; exact iteT a
theorem ifF {b : Bool} {A B : Prop} (h : b = false) (a : B) : if b = true then A else B := by subst h; exact iteF a
theorem ifB {b : Bool} {A B : Prop} (h1 : b = true → A) (h2 : b = false → B) : if b = true then A else B := by
  cases b
  · exact iteF (h2 rfl)
  · exact iteT (h1 rfl)
/-! ### the bag, its cells at c for good -/
structure BagC (H : Hp) (b c : Addr) : Prop where
  ex : ∃ (x y z : Int) (ns : List Int), H b = some (.lst [.int x, .int y, .int z, .ref c]) ∧ H c = some (.lst (ns.map V.int)) ∧ 0 ≤ y ∧ y < 2147483647 ∧ ns.length ≤ 63
theorem BagC.lst {H : Hp} {b c : Addr} (h : BagC H b c) : ∃ xs, H b = some (.lst xs) := by
  obtain ⟨x, y, z, ns, e, _⟩ := h
  exact ⟨_, e⟩
theorem BagC.ne {H : Hp} {b c : Addr} (h : BagC H b c) : c ≠ b := by
  obtain ⟨x, y, z, ns, e, e2, _⟩ := h
  exact bag_ne e e2
theorem BagC.same {H H' : Hp} {b c : Addr} (h : BagC H b c) (s : Same H H') : BagC H' b c := by
  obtain ⟨x, y, z, ns, e, ec, r⟩ := h
  exact ⟨x, y, z, ns, s _ _ e, s _ _ ec, r⟩
theorem BagC.extN {H H' : Hp} {b c : Addr} (h : BagC H b c) (s : LamX.ExtN H H') : BagC H' b c := by
  obtain ⟨x, y, z, ns, e, ec, r⟩ := h
  exact ⟨x, y, z, ns, extN_lst s e, extN_lst s ec, r⟩
/-- another list is written -/
theorem BagC.upd {H : Hp} {b c p : Addr} {o : HO} (h : BagC H b c) (n1 : b ≠ p) (n2 : c ≠ p) : BagC (upd H p o) b c := by
  obtain ⟨x, y, z, ns, e, ec, r⟩ := h
  exact ⟨x, y, z, ns, by rw [upd_ne n1]; exact e, by rw [upd_ne n2]; exact ec, r⟩
/-- what is new is no part of the bag -/
theorem BagC.new {H : Hp} {b c p : Addr} (h : BagC H b c) (n : H p = none) : b ≠ p ∧ c ≠ p := by
  obtain ⟨x, y, z, ns, e, ec, r⟩ := h
  exact ⟨ne_of_none e n, ne_of_none ec n⟩
def spTakeC : Sp := fun vs H Q _ => ∃ (b c : Addr) (m : Int), vs = [.ref b, .int m] ∧ 0 < m ∧ m < 1073741824 ∧ BagC H b c ∧ ∀ (d : Int) (H' : Hp), 0 ≤ d → d < m → Keep1 b H H' → BagC H' b c → Q (.int d) H'
def spBagC (K : PySem.W.Frag) : Sp := fun vs H Q _ => ∃ (a : Addr) (ns : List Int), vs = [.ref a] ∧ SqL K H a (ns.map V.int) ∧ ∀ (b c : Addr) (H' : Hp), Same H H' → H b = none → BagC H' b c → Q (.ref b) H'
/-- an item of a list or tuple that is not the bag -/
def spSomeC (K : PySem.W.Frag) : Sp := fun vs H Q _ => ∃ (b c t : Addr) (xs : List V), vs = [.ref b, .ref t] ∧ BagC H b c ∧ t ≠ b ∧ (SqL K H t xs ∨ SqT K H t xs) ∧ xs ≠ [] ∧ xs.length < 1073741824 ∧
  ∀ (i : Nat) (x : V) (H' : Hp), xs[i]? = some x → Keep1 b H H' → BagC H' b c → Q x H'
/-! ### walks over a text -/
section
variable {l : List Nat} {H0 : Hp} {Qd : Hp → Prop} {B : V → Hp → (Hp → Prop) → Prop}
theorem walk_txt (Pv : Nat → Hp → Prop) (h0 : Pv 0 H0) (hs : ∀ i c H, l[i]? = some c → Pv i H → B (.str (tx [c])) H (Pv (i + 1))) (hd : ∀ H, Pv l.length H → Qd H) :
    ∃ W : Nat → Nat → Hp → Prop, (∃ m, W 0 m H0) ∧ ∀ i m H, W i m H → ((Its (tx l)).stop i H ∧ Qd H) ∨ ((Its (tx l)).go i H ∧ ∃ Nx : Hp → Prop, (∀ H', Nx H' → ∃ m', m' < m ∧ W (i + 1) m' H') ∧ ∀ x H', (Its (tx l)).yld i H x H' → B x H' Nx) := by
  refine ⟨fun i m H => m = l.length - i ∧ i ≤ l.length ∧ Pv i H, ⟨l.length, rfl, Nat.zero_le _, h0⟩, ?_⟩
  rintro i m H ⟨rfl, hi, p⟩
  have sz : (tx l).cps.size = l.length := by simp [tx]
  by_cases lt : i < l.length
  · refine .inr ⟨show i < (tx l).cps.size by rw [sz]; exact lt, Pv (i + 1), fun H' p' => ⟨l.length - (i + 1), by omega, rfl, lt, p'⟩, ?_⟩
    rintro x H' ⟨rfl, c, y, rfl⟩
    exact hs i c _ (by simpa [tx] using y) p
  · obtain rfl : i = l.length := by omega
    exact .inl ⟨show (tx l).cps.size ≤ l.length by rw [sz]; exact Nat.le_refl _, hd H p⟩
end
/-- [f c for c in a text], the f pure -/
theorem walk_bools {l : List Nat} {H : Hp} {D : Addr} {Qd : Hp → Prop} {B : V → Hp → (Hp → Prop) → Prop} (f : Nat → Bool) (nD : H D = none) (hz : l.length ≤ 1000000)
    (hB : ∀ c H1 Nx, (∃ acc, H1 D = some (.lst acc) ∧ acc.length < sizeLine ∧ Nx (upd H1 D (.lst (acc ++ [.bl (f c)])))) → B (.str (tx [c])) H1 Nx) (hd : ∀ H', Same H H' → H' D = some (.lst ((l.map f).map V.bl)) → Qd H') :
    ∃ W : Nat → Nat → Hp → Prop, (∃ m, W 0 m (upd H D (.lst []))) ∧ ∀ i m H, W i m H → ((Its (tx l)).stop i H ∧ Qd H) ∨ ((Its (tx l)).go i H ∧ ∃ Nx : Hp → Prop, (∀ H', Nx H' → ∃ m', m' < m ∧ W (i + 1) m' H') ∧ ∀ x H', (Its (tx l)).yld i H x H' → B x H' Nx) := by
  refine walk_txt (Pv := fun i H1 => Same H H1 ∧ H1 D = some (.lst (((l.take i).map f).map V.bl))) ⟨sameUpd nD, upd_same⟩ (fun i c H1 hc p => ?_) (fun H1 p => ?_)
  · obtain ⟨p1, p2⟩ := p
    refine hB c H1 _ ⟨_, p2, ?_, fun b o e => ?_, ?_⟩
    · have : i < l.length := by
        rcases Nat.lt_or_ge i l.length with h | h
        · exact h
        · rw [List.getElem?_eq_none h] at hc; cases hc
      rw [List.length_map, List.length_map, List.length_take, sizeLine_eq]; omega
    · rw [upd_ne (ne_of_none e nD)]; exact p1 b o e
    · rw [upd_same, List.take_add_one, hc]
      simp
  · obtain ⟨p1, p2⟩ := p
    rw [List.take_length] at p2
    exact hd _ p1 p2
/-- [c for c in a text if f c], the f pure -/
theorem walk_filter {l : List Nat} {H : Hp} {D : Addr} {Qd : Hp → Prop} {B : V → Hp → (Hp → Prop) → Prop} (f : Nat → Bool) (nD : H D = none) (hz : l.length ≤ 1000000)
    (hB : ∀ c H1 Nx, (f c = true → ∃ acc, H1 D = some (.lst acc) ∧ acc.length < sizeLine ∧ Nx (upd H1 D (.lst (acc ++ [.str (tx [c])])))) → (f c = false → Nx H1) → B (.str (tx [c])) H1 Nx)
    (hd : ∀ H', Same H H' → H' D = some (.lst (((l.filter f).map fun c => tx [c]).map V.str)) → Qd H') :
    ∃ W : Nat → Nat → Hp → Prop, (∃ m, W 0 m (upd H D (.lst []))) ∧ ∀ i m H, W i m H → ((Its (tx l)).stop i H ∧ Qd H) ∨ ((Its (tx l)).go i H ∧ ∃ Nx : Hp → Prop, (∀ H', Nx H' → ∃ m', m' < m ∧ W (i + 1) m' H') ∧ ∀ x H', (Its (tx l)).yld i H x H' → B x H' Nx) := by
  refine walk_txt (Pv := fun i H1 => Same H H1 ∧ H1 D = some (.lst ((((l.take i).filter f).map fun c => tx [c]).map V.str))) ⟨sameUpd nD, upd_same⟩ (fun i c H1 hc p => ?_) (fun H1 p => ?_)
  · obtain ⟨p1, p2⟩ := p
    refine hB c H1 _ (fun hf => ⟨_, p2, ?_, fun b o e => ?_, ?_⟩) (fun hf => ⟨p1, ?_⟩)
    · have h1 : ((l.take i).filter f).length ≤ (l.take i).length := List.length_filter_le _ _
      rw [List.length_take] at h1
      have : i < l.length := by
        rcases Nat.lt_or_ge i l.length with h | h
        · exact h
        · rw [List.getElem?_eq_none h] at hc; cases hc
      rw [List.length_map, List.length_map, sizeLine_eq]; omega
    · rw [upd_ne (ne_of_none e nD)]; exact p1 b o e
    · rw [upd_same, List.take_add_one, hc]
      simp [hf]
    · rw [p2, List.take_add_one, hc]
      simp [hf]
  · obtain ⟨p1, p2⟩ := p
    rw [List.take_length] at p2
    exact hd _ p1 p2
/-- a list of texts, compared with the empty one -/
theorem shaped_strs (l : List Str) (ok : ∀ a ∈ l, PyData.strOk a = true) : SeqAt.shaped (.list (l.map PyData.str)) = true := by
  have h : ∀ l : List Str, (∀ a ∈ l, PyData.strOk a = true) → PyData.canLayAll0 (l.map PyData.str) = true ∧ PyData.depthAll (l.map PyData.str) = 0 := by
    intro l
    induction l with
    | nil => exact fun _ => ⟨rfl, rfl⟩
    | cons a l ih =>
      intro ok
      have ih := ih (fun b hb => ok b (List.mem_cons_of_mem _ hb))
      refine ⟨?_, ?_⟩
      · show (PyData.strOk a && PyData.canLayAll0 (l.map PyData.str)) = true
        rw [ih.1, ok a List.mem_cons_self]; rfl
      · show max 0 (PyData.depthAll (l.map PyData.str)) = 0
        rw [ih.2]; rfl
  unfold SeqAt.shaped
  have h1 : (PyData.list (l.map PyData.str)).canLay0 = true := (h l ok).1
  have h2 : (PyData.list (l.map PyData.str)).depth = PyData.depthAll (l.map PyData.str) + 1 := rfl
  rw [h1, h2, (h l ok).2]; rfl
theorem dp_strs {K : PySem.W.Frag} {H : Hp} {p : Addr} {l : List Str} (h : SqL K H p (l.map V.str)) : Dp K H (.ref p) (.list (l.map PyData.str)) := by
  refine .lst h ?_
  clear h
  induction l with
  | nil => exact .nil
  | cons a l ih => exact .cons (.str a) ih
theorem eqv_nil (l : List Str) : PyData.eqv (.list (l.map PyData.str)) (.list []) = l.isEmpty := by
  cases l <;> rfl
/-- a sign between two signs -/
theorem ge_sign (a c : Nat) : (!decide ((⟨#[c]⟩ : Str).cps.toList < (tx [a]).cps.toList)) = decide (a ≤ c) := by
  rw [Bool.eq_iff_iff]
  simp [tx, List.cons_lt_cons_iff]
theorem le_sign (a c : Nat) : (!decide ((tx [a]).cps.toList < (⟨#[c]⟩ : Str).cps.toList)) = decide (c ≤ a) := by
  rw [Bool.eq_iff_iff]
  simp [tx, List.cons_lt_cons_iff]
theorem for_txt {l : List Nat} {g : TG} {tb : TS} {D : Ends} {σ : L2.St} {H : Hp} (Pv : Nat → L2.St → Hp → Prop) (h0 : Pv 0 σ H)
    (hs : ∀ i c σ H, l[i]? = some c → Pv i σ H → g (.str (tx [c])) σ H fun σ2 H2 => tb { D with nx := Pv (i + 1), ct := Pv (i + 1), bk := D.nx } σ2 H2) (hd : ∀ σ H, Pv l.length σ H → D.nx σ H) :
    ∃ W : Nat → Nat → L2.St → Hp → Prop, (∃ m, W 0 m σ H) ∧ ∀ i m σ H, W i m σ H →
      ((Its (tx l)).stop i H ∧ D.nx σ H) ∨ ((Its (tx l)).go i H ∧ ∃ N : L2.St → Hp → Prop, (∀ σ' H', N σ' H' → ∃ m', m' < m ∧ W (i + 1) m' σ' H') ∧ ∀ x H', (Its (tx l)).yld i H x H' → g x σ H' fun σ2 H2 => tb { D with nx := N, ct := N, bk := D.nx } σ2 H2) := by
  refine ⟨fun i m σ H => m = l.length - i ∧ i ≤ l.length ∧ Pv i σ H, ⟨l.length, rfl, Nat.zero_le _, h0⟩, ?_⟩
  rintro i m σ H ⟨rfl, hi, p⟩
  have sz : (tx l).cps.size = l.length := by simp [tx]
  by_cases lt : i < l.length
  · refine .inr ⟨show i < (tx l).cps.size by rw [sz]; exact lt, Pv (i + 1), fun σ' H' p' => ⟨l.length - (i + 1), by omega, rfl, lt, p'⟩, ?_⟩
    rintro x H' ⟨rfl, c, y, rfl⟩
    exact hs i c _ _ (by simpa [tx] using y) p
  · obtain rfl : i = l.length := by omega
    exact .inl ⟨show (tx l).cps.size ≤ l.length by rw [sz]; exact Nat.le_refl _, hd σ H p⟩
end Hk
set_option maxRecDepth 100000
set_option maxHeartbeats 2000000
namespace HkZ
open PySem
open PySem.Sem (wp)
/-- a zip, whatever it knows of the tuple that it gave out last -/
def ZipAny (h : Heap) (z TI TO : Addr) : Prop := ∃ (f0 : Value) (f1 : Bool), (f0 = .none ∨ ∃ T : Addr, f0 = rawInt T) ∧
  h.get? z = some { cls := .type "zip", dict := none, data := .fields #[f0, .bool f1, .bool false, .ref TI, .ref TO], slots := #[] }
theorem ZipAny.push {h h' : Heap} {z TI TO : Addr} (x : ZipAny h z TI TO) (k : ∀ o, h.get? z = some o → h'.get? z = some o) : ZipAny h' z TI TO := by
  obtain ⟨f0, f1, q, e⟩ := x
  exact ⟨f0, f1, q, k _ e⟩
section
variable {prog : Program} {w : World} {A : Around} {E : Value → Shared → Prop} {s : Shared} {z TI TO i1 i2 l1 l2 : Addr} {k1 k2 : Nat} {xs ys : Array Value} {x y a b : Value}
theorem alive_any {T : Addr} {Q : Option Obj → Shared → Prop} (h : Q (s.heap.get? T) s) : wpAny (model prog w) A (loadIfAlive T) Q E s := fun Γ p hΓ => by
  unfold loadIfAlive
  rw [Sem.wp_loadIfAlive]
  simpa using h
/-- it asks whether its tuple is free: either way -/
theorem zip_asks {Q : Bool → Shared → Prop} (hz : ZipAny s.heap z TI TO) (yes : Q true s) (no : ∀ g, ZipAny g z TI TO → Heap.SameBut z s.heap g → Q false { s with heap := g }) :
    wpAny (model prog w) A (Builtin.SmallTypes.ownedTupleIsFree (.ref z)) Q E s := by
  obtain ⟨f0, f1, q, hz⟩ := hz
  unfold Builtin.SmallTypes.ownedTupleIsFree
  rcases q with rfl | ⟨T, rfl⟩
  · exact wpAny_bind (wpAny_field hz rfl (x := .none) rfl (wpAny_pure yes))
  · refine wpAny_bind (wpAny_field hz rfl (x := rawInt T) rfl ?_)
    show wpAny _ _ (loadIfAlive ((T : Int).toNat) >>= _) _ _ _
    rw [Int.toNat_natCast]
    refine wpAny_bind (alive_any ?_)
    cases hT : s.heap.get? T with
    | none =>
      simp only [Option.isNone_none, if_true]
      exact wpAny_pure yes
    | some o =>
      simp only [Option.isNone_some, Bool.false_eq_true, if_false]
      refine wpAny_bind (wpAny_field hz rfl (x := .bool f1) rfl ?_)
      cases f1 with
      | true =>
        rw [if_neg (show ¬ ((Value.bool true != Value.bool true) = true) from Bool.false_ne_true)]
        exact wpAny_pure (no s.heap ⟨_, _, .inr ⟨T, rfl⟩, hz⟩ (Heap.SameBut.refl _ _))
      | false =>
        rw [if_pos (show (Value.bool false != Value.bool true) = true from rfl)]
        exact wpAny_bind (wpAny_setField_rec hz (by simp) fun g hg sb => wpAny_pure (no g ⟨_, _, .inr ⟨T, rfl⟩, hg⟩ sb))
/-- what is known behind a turn -/
def ZipTurn (s : Shared) (z TI TO i1 i2 l1 l2 : Addr) (k1 k2 : Nat) (x y : Value) (g : Heap) : Prop :=
  ZipAny g z TI TO ∧ (∃ a b, IsPair g TO a b) ∧ g.IsTupleIter i1 l1 (k1 + 1) ∧ g.IsTupleIter i2 l2 (k2 + 1) ∧ IsPair g s.heap.objs.size x y ∧ g.objs.size = s.heap.objs.size + 1 ∧
    ∀ c o, c ≠ z → c ≠ TO → c ≠ i1 → c ≠ i2 → s.heap.get? c = some o → g.get? c = some o
theorem zip_item {Q : Value → Shared → Prop} (D : ZipApart z TI TO i1 i2 l1 l2) (hz : ZipAny s.heap z TI TO) (hTI : IsPair s.heap TI (.ref i1) (.ref i2)) (hTO : IsPair s.heap TO a b)
    (h1 : s.heap.IsTupleIter i1 l1 k1) (h2 : s.heap.IsTupleIter i2 l2 k2) (hl1 : s.heap.IsTuple l1 xs) (hl2 : s.heap.IsTuple l2 ys) (hx : xs[k1]? = some x) (hy : ys[k2]? = some y)
    (hQ : ∀ g, ZipTurn s z TI TO i1 i2 l1 l2 k1 k2 x y g → Q (.ref s.heap.objs.size) { s with heap := g }) :
    wpAny (model prog w) A (Builtin.«zip.__next__» ⟨[.ref z], []⟩) (fun fin t => ∃ v, fin = .done (.ret v) ∧ Q v t) E s := by
  obtain ⟨f0, f1, q, hz0⟩ := id hz
  show wpAny _ _ (field (.ref z) 2 >>= _) _ _ _
  refine wpAny_bind (wpAny_field hz0 rfl (x := .bool false) rfl ?_)
  show wpAny _ _ (field (.ref z) 3 >>= _) _ _ _
  refine wpAny_bind (wpAny_field hz0 rfl (x := .ref TI) rfl ?_)
  refine wpAny_bind (wpAny_seqItems hTI rfl ?_)
  show wpAny _ _ (Builtin.SmallTypes.ownedTupleIsFree (.ref z) >>= _) _ _ _
  refine wpAny_bind (zip_asks hz ?_ fun g0 hz1 b0 => ?_)
  · simp only [if_true]
    refine wpAny_bind (wpAny_rule ?_)
    refine wpAny_bind (wpAny_field hz0 rfl (x := .ref TO) rfl ?_)
    refine wpAny_bind (wpAny_setField_rec hz0 (by simp) fun g1 e1 b1 => ?_)
    replace e1 : g1.get? z = some { cls := .type "zip", dict := none, data := .fields #[.ellipsis, .bool f1, .bool false, .ref TI, .ref TO], slots := #[] } := e1
    refine wpAny_bind ?_
    simp only [List.zipIdx_cons, List.zipIdx_nil, List.forIn_cons, List.forIn_nil]
    refine wpAny_bind (wpAny_bind (wpAny_onRaise ?_))
    show wpAny _ _ (Builtin.SmallTypes.nextOf (.ref i1) >>= _) _ _ _
    refine wpAny_bind (RZ.nextOf_tuple_item (h1.extBut b1.extBut D.i1z) (hl1.extBut b1.extBut D.l1z) hx fun g2 it1 b2 => wpAny_pure ?_)
    have t2 : IsPair g2 TO a b := b2.extBut _ _ D.TOi1 (b1.extBut _ _ D.TOz hTO)
    refine wpAny_bind (wpAny_seqItems t2 rfl ?_)
    refine wpAny_bind (wpAny_updateSeq_pair t2 fun g3 t3 b3 => ?_)
    replace t3 : IsPair g3 TO x b := t3
    refine wpAny_bind (wpAny_letGo (wpAny_pure ?_))
    refine wpAny_bind (wpAny_bind (wpAny_onRaise ?_))
    show wpAny _ _ (Builtin.SmallTypes.nextOf (.ref i2) >>= _) _ _ _
    refine wpAny_bind (RZ.nextOf_tuple_item (((h2.extBut b1.extBut D.i2z).extBut b2.extBut D.i12.symm).extBut b3.extBut D.TOi2.symm)
      (((hl2.extBut b1.extBut D.l2z).extBut b2.extBut D.l2i1).extBut b3.extBut D.l2TO) hy fun g4 it2 b4 => wpAny_pure ?_)
    have t4 : IsPair g4 TO x b := b4.extBut _ _ D.TOi2 t3
    refine wpAny_bind (wpAny_seqItems t4 rfl ?_)
    refine wpAny_bind (wpAny_updateSeq_pair t4 fun g5 t5 b5 => ?_)
    replace t5 : IsPair g5 TO x y := t5
    refine wpAny_bind (wpAny_letGo (wpAny_pure (wpAny_pure ?_)))
    refine wpAny_bind (wpAny_seqItems t5 rfl ?_)
    refine wpAny_bind (wpAny_newTuple ?_)
    have sz : g5.objs.size = s.heap.objs.size := by rw [b5.1, b4.1, b3.1, b2.1, b1.1]
    have e5 := b5.extBut _ _ D.TOz.symm (b4.extBut _ _ D.i2z.symm (b3.extBut _ _ D.TOz.symm (b2.extBut _ _ D.i1z.symm e1)))
    have kp : ∀ c o, c ≠ z → c ≠ TO → c ≠ i1 → c ≠ i2 → s.heap.get? c = some o → g5.get? c = some o := fun c o n1 n2 n3 n4 e =>
      b5.extBut _ _ n2 (b4.extBut _ _ n4 (b3.extBut _ _ n2 (b2.extBut _ _ n3 (b1.extBut _ _ n1 e))))
    have j1 : g5.IsTupleIter i1 l1 (k1 + 1) := ((it1.extBut b3.extBut D.TOi1.symm).extBut b4.extBut D.i12).extBut b5.extBut D.TOi1.symm
    have j2 : g5.IsTupleIter i2 l2 (k2 + 1) := it2.extBut b5.extBut D.TOi2.symm
    have zl : z < g5.objs.size := Heap.lt_size e5
    show wpAny _ _ (Builtin.SmallTypes.ownedTupleHandOut (.ref z) (.ref g5.objs.size) >>= _) _ _ _
    refine wpAny_bind ?_
    unfold Builtin.SmallTypes.ownedTupleHandOut
    have e6 := Heap.get?_push_of_some { cls := .type "tuple", data := .seq #[x, y] } e5
    refine wpAny_bind (wpAny_setField_rec e6 (by simp) fun g7 e7 b7 => ?_)
    replace e7 : g7.get? z = some { cls := .type "zip", dict := none, data := .fields #[rawInt g5.objs.size, .bool f1, .bool false, .ref TI, .ref TO], slots := #[] } := e7
    refine wpAny_setField_rec e7 (by simp) fun g8 e8 b8 => ?_
    replace e8 : g8.get? z = some { cls := .type "zip", dict := none, data := .fields #[rawInt g5.objs.size, .bool false, .bool false, .ref TI, .ref TO], slots := #[] } := e8
    have up : ∀ c o, c ≠ z → g5.get? c = some o → g8.get? c = some o := fun c o n e => b8.extBut _ _ n (b7.extBut _ _ n (Heap.get?_push_of_some _ e))
    have tn : IsPair g8 g5.objs.size x y := b8.extBut _ _ (Nat.ne_of_gt zl) (b7.extBut _ _ (Nat.ne_of_gt zl) (Heap.get?_push_size _ rfl))
    have s8 : g8.objs.size = g5.objs.size + 1 := by rw [b8.1, b7.1, Heap.size_push]
    rw [sz] at tn s8
    refine wpAny_pure ⟨_, rfl, ?_⟩
    show Q (.ref g5.objs.size) _
    rw [sz]
    exact hQ g8 ⟨⟨_, _, .inr ⟨_, rfl⟩, e8⟩, ⟨_, _, up _ _ D.TOz t5⟩, j1.at (fun o e => up _ o D.i1z e), j2.at (fun o e => up _ o D.i2z e), tn, s8, fun c o n1 n2 n3 n4 e => up c o n1 (kp c o n1 n2 n3 n4 e)⟩
  · simp only [Bool.false_eq_true, if_false]
    refine wpAny_bind ?_
    rw [← Array.forIn_toList]
    simp only [List.forIn_cons, List.forIn_nil]
    refine wpAny_bind (wpAny_bind (wpAny_holding ?_))
    show wpAny _ _ (Builtin.SmallTypes.nextOf (.ref i1) >>= _) _ _ _
    refine wpAny_bind (RZ.nextOf_tuple_item (s := { s with heap := g0 }) (h1.extBut b0.extBut D.i1z) (hl1.extBut b0.extBut D.l1z) hx fun g2 it1 b2 => wpAny_pure (wpAny_pure ?_))
    refine wpAny_bind (wpAny_bind (wpAny_holding ?_))
    show wpAny _ _ (Builtin.SmallTypes.nextOf (.ref i2) >>= _) _ _ _
    refine wpAny_bind (RZ.nextOf_tuple_item (s := { s with heap := g2 }) ((h2.extBut b0.extBut D.i2z).extBut b2.extBut D.i12.symm) ((hl2.extBut b0.extBut D.l2z).extBut b2.extBut D.l2i1) hy fun g3 it2 b3 => wpAny_pure (wpAny_pure (wpAny_pure ?_)))
    show wpAny _ _ (newTuple [x, y] >>= _) _ _ _
    refine wpAny_bind (wpAny_newTuple ?_)
    have sz : g3.objs.size = s.heap.objs.size := by rw [b3.1, b2.1, b0.1]
    have e3 : ZipAny g3 z TI TO := (hz1.push fun o e => b2.extBut _ _ D.i1z.symm e).push fun o e => b3.extBut _ _ D.i2z.symm e
    have kp : ∀ c o, c ≠ z → c ≠ i1 → c ≠ i2 → s.heap.get? c = some o → g3.get? c = some o := fun c o n1 n2 n3 e => b3.extBut _ _ n3 (b2.extBut _ _ n2 (b0.extBut _ _ n1 e))
    refine wpAny_pure ⟨_, rfl, ?_⟩
    show Q (.ref g3.objs.size) _
    have tn : IsPair (g3.push { cls := .type "tuple", data := .seq #[x, y] }) g3.objs.size x y := Heap.get?_push_size _ rfl
    have s4 : (g3.push { cls := .type "tuple", data := .seq #[x, y] }).objs.size = g3.objs.size + 1 := Heap.size_push ..
    rw [sz] at tn s4 ⊢
    exact hQ _ ⟨e3.push fun o e => Heap.get?_push_of_some _ e, ⟨a, b, Heap.get?_push_of_some _ (kp _ _ D.TOz D.TOi1 D.TOi2 hTO)⟩, (it1.extBut b3.extBut D.i12).at (fun o e => Heap.get?_push_of_some _ e), it2.at (fun o e => Heap.get?_push_of_some _ e), tn, s4,
      fun c o n1 _ n3 n4 e => Heap.get?_push_of_some _ (kp c o n1 n3 n4 e)⟩
theorem zip_end {Q : Fin → Shared → Prop} (hh : A.handled = none) (D : ZipApart z TI TO i1 i2 l1 l2) (hz : ZipAny s.heap z TI TO) (hTI : IsPair s.heap TI (.ref i1) (.ref i2)) (hTO : IsPair s.heap TO a b)
    (h1 : s.heap.IsTupleIter i1 l1 k1) (h2 : s.heap.IsTupleIter i2 l2 k2) (hl1 : s.heap.IsTuple l1 xs) (hl2 : s.heap.IsTuple l2 ys) (hend : xs[k1]? = none ∨ ys[k2]? = none)
    (hE : ∀ g e, (∀ c o, c ≠ z → c ≠ TO → c ≠ i1 → c ≠ i2 → s.heap.get? c = some o → g.get? c = some o) → (∃ o, g.get? e = some o ∧ o.cls = .type "StopIteration") → E (.ref e) { s with heap := g }) :
    wpAny (model prog w) A (Builtin.«zip.__next__» ⟨[.ref z], []⟩) Q E s := by
  obtain ⟨f0, f1, q, hz0⟩ := id hz
  show wpAny _ _ (field (.ref z) 2 >>= _) _ _ _
  refine wpAny_bind (wpAny_field hz0 rfl (x := .bool false) rfl ?_)
  show wpAny _ _ (field (.ref z) 3 >>= _) _ _ _
  refine wpAny_bind (wpAny_field hz0 rfl (x := .ref TI) rfl ?_)
  refine wpAny_bind (wpAny_seqItems hTI rfl ?_)
  show wpAny _ _ (Builtin.SmallTypes.ownedTupleIsFree (.ref z) >>= _) _ _ _
  refine wpAny_bind (zip_asks hz ?_ fun g0 hz1 b0 => ?_)
  · simp only [if_true]
    refine wpAny_bind (wpAny_rule ?_)
    refine wpAny_bind (wpAny_field hz0 rfl (x := .ref TO) rfl ?_)
    refine wpAny_bind (wpAny_setField_rec hz0 (by simp) fun g1 e1 b1 => ?_)
    replace e1 : g1.get? z = some { cls := .type "zip", dict := none, data := .fields #[.ellipsis, .bool f1, .bool false, .ref TI, .ref TO], slots := #[] } := e1
    refine wpAny_bind ?_
    simp only [List.zipIdx_cons, List.zipIdx_nil, List.forIn_cons, List.forIn_nil]
    refine wpAny_bind (wpAny_bind (wpAny_onRaise ?_))
    show wpAny _ _ (Builtin.SmallTypes.nextOf (.ref i1) >>= _) _ _ _
    cases hx : xs[k1]? with
    | none =>
      refine wpAny_bind (RZ.nextOf_tuple_end hh (h1.extBut b1.extBut D.i1z) (hl1.extBut b1.extBut D.l1z) hx fun g2 e b2 he => ?_)
      obtain ⟨oe, g2e, ce⟩ := he
      have z2 := b2 _ _ D.i1z.symm e1
      have ez : e ≠ z := fun h => by rw [h, z2] at g2e; cases g2e; simp at ce
      exact wpAny_setField_rec z2 (by simp) fun g3 _ b3 => hE g3 e (fun c o n1 _ n3 _ h => b3.extBut _ _ n1 (b2 _ _ n3 (b1.extBut _ _ n1 h))) ⟨oe, b3.extBut _ _ ez g2e, ce⟩
    | some x =>
      have hy : ys[k2]? = none := hend.resolve_left (by rw [hx]; simp)
      refine wpAny_bind (RZ.nextOf_tuple_item (h1.extBut b1.extBut D.i1z) (hl1.extBut b1.extBut D.l1z) hx fun g2 it1 b2 => wpAny_pure ?_)
      have t2 : IsPair g2 TO a b := b2.extBut _ _ D.TOi1 (b1.extBut _ _ D.TOz hTO)
      refine wpAny_bind (wpAny_seqItems t2 rfl ?_)
      refine wpAny_bind (wpAny_updateSeq_pair t2 fun g3 t3 b3 => ?_)
      refine wpAny_bind (wpAny_letGo (wpAny_pure ?_))
      refine wpAny_bind (wpAny_bind (wpAny_onRaise ?_))
      show wpAny _ _ (Builtin.SmallTypes.nextOf (.ref i2) >>= _) _ _ _
      refine wpAny_bind (RZ.nextOf_tuple_end hh (((h2.extBut b1.extBut D.i2z).extBut b2.extBut D.i12.symm).extBut b3.extBut D.TOi2.symm)
        (((hl2.extBut b1.extBut D.l2z).extBut b2.extBut D.l2i1).extBut b3.extBut D.l2TO) hy fun g4 e b4 he => ?_)
      obtain ⟨oe, g4e, ce⟩ := he
      have z4 := b4 _ _ D.i2z.symm (b3.extBut _ _ D.TOz.symm (b2.extBut _ _ D.i1z.symm e1))
      have ez : e ≠ z := fun h => by rw [h, z4] at g4e; cases g4e; simp at ce
      exact wpAny_setField_rec z4 (by simp) fun g5 _ b5 => hE g5 e (fun c o n1 n2 n3 n4 h => b5.extBut _ _ n1 (b4 _ _ n4 (b3.extBut _ _ n2 (b2.extBut _ _ n3 (b1.extBut _ _ n1 h))))) ⟨oe, b5.extBut _ _ ez g4e, ce⟩
  · simp only [Bool.false_eq_true, if_false]
    refine wpAny_bind ?_
    rw [← Array.forIn_toList]
    simp only [List.forIn_cons, List.forIn_nil]
    refine wpAny_bind (wpAny_bind (wpAny_holding ?_))
    show wpAny _ _ (Builtin.SmallTypes.nextOf (.ref i1) >>= _) _ _ _
    cases hx : xs[k1]? with
    | none =>
      refine wpAny_bind (RZ.nextOf_tuple_end (s := { s with heap := g0 }) hh (h1.extBut b0.extBut D.i1z) (hl1.extBut b0.extBut D.l1z) hx fun g2 e b2 he => ?_)
      exact hE g2 e (fun c o n1 _ n3 _ h => b2 _ _ n3 (b0.extBut _ _ n1 h)) he
    | some x =>
      have hy : ys[k2]? = none := hend.resolve_left (by rw [hx]; simp)
      refine wpAny_bind (RZ.nextOf_tuple_item (s := { s with heap := g0 }) (h1.extBut b0.extBut D.i1z) (hl1.extBut b0.extBut D.l1z) hx fun g2 it1 b2 => wpAny_pure (wpAny_pure ?_))
      refine wpAny_bind (wpAny_bind (wpAny_holding ?_))
      show wpAny _ _ (Builtin.SmallTypes.nextOf (.ref i2) >>= _) _ _ _
      refine wpAny_bind (RZ.nextOf_tuple_end (s := { s with heap := g2 }) hh ((h2.extBut b0.extBut D.i2z).extBut b2.extBut D.i12.symm) ((hl2.extBut b0.extBut D.l2z).extBut b2.extBut D.l2i1) hy fun g3 e b3 he => ?_)
      exact hE g3 e (fun c o n1 _ n3 n4 h => b3 _ _ n4 (b2.extBut _ _ n3 (b0.extBut _ _ n1 h))) he
end
end HkZ
set_option maxRecDepth 100000
set_option maxHeartbeats 2000000
namespace HkZ
open PySem
open PySem.Sem (wp)
section
variable {prog : Program} {w : World} {A : Around} {E : Value → Shared → Prop} {s : Shared} {z TI TO i1 i2 l1 l2 e it : Addr} {k1 k2 : Nat} {xs ys : Array Value} {x y a b old : Value} {i : Int}
theorem ZipAny.ty {h : Heap} {g : Array GenState} {d : Drawn} {t : Nat} {os : OsState} (hz : ZipAny h z TI TO) : (⟨h, g, d, t, os⟩ : Shared).TypeIs (.ref z) "zip" := by
  obtain ⟨_, _, _, q⟩ := hz
  exact ⟨_, q, rfl⟩
theorem next_zip_item {Q : Value → Shared → Prop} (D : ZipApart z TI TO i1 i2 l1 l2) (hz : ZipAny s.heap z TI TO) (hTI : IsPair s.heap TI (.ref i1) (.ref i2)) (hTO : IsPair s.heap TO a b)
    (h1 : s.heap.IsTupleIter i1 l1 k1) (h2 : s.heap.IsTupleIter i2 l2 k2) (hl1 : s.heap.IsTuple l1 xs) (hl2 : s.heap.IsTuple l2 ys) (hx : xs[k1]? = some x) (hy : ys[k2]? = some y)
    (hQ : ∀ g, ZipTurn s z TI TO i1 i2 l1 l2 k1 k2 x y g → Q (.ref s.heap.objs.size) { s with heap := g }) : wpAny (model prog w) A (Builtin.SmallTypes.nextOf (.ref z)) Q E s := by
  have ty : s.TypeIs (.ref z) "zip" := by obtain ⟨_, _, _, q⟩ := hz; exact ⟨_, q, rfl⟩
  unfold Builtin.SmallTypes.nextOf
  exact wpAny_bind (wpAny_callSpecial?_slot (name := Str.ofString "__next__") ty F.slot_zip_next (wpAny_call_entry F.slot_zip_next ty F.entry_zip_next
    (zip_item D hz hTI hTO h1 h2 hl1 hl2 hx hy fun g q => wpAny_pure (hQ g q)) (F.args_zip_next_1 _)))
theorem next_zip_end {Q : Value → Shared → Prop} (hh : A.handled = none) (D : ZipApart z TI TO i1 i2 l1 l2) (hz : ZipAny s.heap z TI TO) (hTI : IsPair s.heap TI (.ref i1) (.ref i2)) (hTO : IsPair s.heap TO a b)
    (h1 : s.heap.IsTupleIter i1 l1 k1) (h2 : s.heap.IsTupleIter i2 l2 k2) (hl1 : s.heap.IsTuple l1 xs) (hl2 : s.heap.IsTuple l2 ys) (hend : xs[k1]? = none ∨ ys[k2]? = none)
    (hE : ∀ g e, (∀ c o, c ≠ z → c ≠ TO → c ≠ i1 → c ≠ i2 → s.heap.get? c = some o → g.get? c = some o) → (∃ o, g.get? e = some o ∧ o.cls = .type "StopIteration") → E (.ref e) { s with heap := g }) :
    wpAny (model prog w) A (Builtin.SmallTypes.nextOf (.ref z)) Q E s := by
  have ty : s.TypeIs (.ref z) "zip" := by obtain ⟨_, _, _, q⟩ := hz; exact ⟨_, q, rfl⟩
  unfold Builtin.SmallTypes.nextOf
  exact wpAny_bind (wpAny_callSpecial?_slot (name := Str.ofString "__next__") ty F.slot_zip_next (wpAny_call_entry F.slot_zip_next ty F.entry_zip_next
    (zip_end hh D hz hTI hTO h1 h2 hl1 hl2 hend hE) (F.args_zip_next_1 _)))
/-- enumerate's turn over whatever it draws from -/
theorem enum_item {Fx : Value → Heap → Prop} {Q : Option Value → Shared → Prop} (he : IsEnum s.heap e it i old) (keep : ∀ v g, Fx v g → IsEnum g e it i old)
    (dr : ∀ {R : Value → Shared → Prop} {E' : Value → Shared → Prop}, (∀ v g, Fx v g → R v { s with heap := g }) → wpAny (model prog w) A.in1 (Builtin.SmallTypes.nextOf (.ref it)) R E' s)
    (hQ : ∀ v g g', Fx v g → IsEnumOut g' e it (i + 1) v g.objs.size → g'.get? g.objs.size = some { cls := .type "tuple", data := .seq #[.int i s.toks, v] } → g'.objs.size = g.objs.size + 1 → (∀ b o, b ≠ e → g.get? b = some o → g'.get? b = some o) →
      Q (some (.ref g.objs.size)) { s with heap := g', toks := s.toks + 1 }) : wpAny (model prog w) A (pyNext (.ref e)) Q E s := by
  have ty : s.TypeIs (.ref e) "enumerate" := ⟨_, he, rfl⟩
  unfold pyNext
  refine wpAny_bind (wpAny_attempt (wpAny_callSpecial?_slot (name := Str.ofString "__next__") ty F.slot_enumerate_next (wpAny_call_entry F.slot_enumerate_next ty F.entry_enumerate_next ?_ (F.args_enumerate_next_1 _))))
  obtain ⟨hp, gs, d, tk, os⟩ := s
  show wpAny _ _ (field (.ref e) 2 >>= _) _ _ _
  refine wpAny_bind (wpAny_field he rfl (x := .ref it) rfl ?_)
  refine wpAny_bind (dr fun v g hF => ?_)
  have e1 := keep v g hF
  show wpAny _ _ (field (.ref e) 3 >>= _) _ _ ⟨g, gs, d, tk, os⟩
  refine wpAny_bind (wpAny_field e1 rfl (x := rawInt i) rfl ?_)
  show wpAny _ _ (field (.ref e) 4 >>= _) _ _ ⟨g, gs, d, tk, os⟩
  refine wpAny_bind (wpAny_field e1 rfl (x := .none) rfl ?_)
  show wpAny _ _ (mkInt i >>= _) _ _ ⟨g, gs, d, tk, os⟩
  refine wpAny_bind (wpAny_mkInt ?_)
  show wpAny _ _ (setField (.ref e) 3 (rawInt (i + 1)) >>= _) _ _ ⟨g, gs, d, tk + 1, os⟩
  refine wpAny_bind (wpAny_setField_rec e1 (by simp) fun g2 e2 b2 => ?_)
  replace b2 : Heap.SameBut e g g2 := b2
  replace e2 : IsEnum g2 e it (i + 1) old := e2
  show wpAny _ _ (setField (.ref e) 4 .none >>= _) _ _ ⟨g2, gs, d, tk + 1, os⟩
  refine wpAny_bind (wpAny_setField_rec e2 (by simp) fun g3 e3 b3 => ?_)
  replace b3 : Heap.SameBut e g2 g3 := b3
  replace e3 : IsEnum g3 e it (i + 1) old := e3
  show wpAny _ _ (newTuple [.int i tk, v] >>= _) _ _ ⟨g3, gs, d, tk + 1, os⟩
  refine wpAny_bind (wpAny_newTuple ?_)
  have e4 : IsEnum (g3.push { cls := .type "tuple", data := .seq #[.int i tk, v] }) e it (i + 1) old := Heap.get?_push_of_some _ e3
  generalize hg4 : g3.push { cls := .type "tuple", data := .seq #[.int i tk, v] } = g4 at e4
  have sz : g3.objs.size = g.objs.size := by rw [b3.1, b2.1]
  have el : e < g.objs.size := Heap.lt_size e1
  have t4 : g4.get? g.objs.size = some { cls := .type "tuple", data := .seq #[.int i tk, v] } := by rw [← hg4, ← sz]; exact Heap.get?_push_size _ rfl
  have s4 : g4.objs.size = g.objs.size + 1 := by rw [← hg4, Heap.size_push, sz]
  have k4 : ∀ b o, b ≠ e → g.get? b = some o → g4.get? b = some o := fun b o n h => by
    rw [← hg4]; exact Heap.get?_push_of_some _ (b3.extBut b o n (b2.extBut b o n h))
  show wpAny _ _ (Builtin.SmallTypes.ownedTupleIsFree (.ref e) >>= _) _ _ ⟨g4, gs, d, tk + 1, os⟩
  rw [sz]
  clear hg4 e3 b3 e2 b2 sz g3 g2
  refine wpAny_bind ?_
  unfold Builtin.SmallTypes.ownedTupleIsFree
  refine wpAny_bind (wpAny_field e4 rfl (x := .none) rfl (wpAny_pure ?_))
  simp only [if_true]
  refine wpAny_bind (wpAny_rule ?_)
  refine wpAny_bind (wpAny_field e4 rfl (x := old) rfl ?_)
  refine wpAny_bind (wpAny_setField_rec e4 (by simp) fun g5 e5 b5 => ?_)
  replace b5 : Heap.SameBut e g4 g5 := b5
  replace e5 : IsEnum g5 e it (i + 1) v := e5
  show wpAny _ _ (Builtin.SmallTypes.ownedTupleHandOut (.ref e) (.ref g.objs.size) >>= _) _ _ ⟨g5, gs, d, tk + 1, os⟩
  refine wpAny_bind ?_
  unfold Builtin.SmallTypes.ownedTupleHandOut
  refine wpAny_bind (wpAny_setField_rec e5 (by simp) fun g6 e6 b6 => ?_)
  replace b6 : Heap.SameBut e g5 g6 := b6
  replace e6 : IsEnumOut g6 e it (i + 1) v g.objs.size := e6
  refine wpAny_setField_rec e6 (by simp) fun g7 e7 b7 => ?_
  replace b7 : Heap.SameBut e g6 g7 := b7
  replace e7 : IsEnumOut g7 e it (i + 1) v g.objs.size := e7
  have ne := Nat.ne_of_gt el
  refine wpAny_bind (wpAny_letGo (wpAny_pure ⟨_, rfl, wpAny_pure (hQ v g g7 hF e7 ?_ ?_ ?_)⟩))
  · exact b7.extBut _ _ ne (b6.extBut _ _ ne (b5.extBut _ _ ne t4))
  · rw [b7.1, b6.1, b5.1, s4]
  · exact fun b o n h => b7.extBut b o n (b6.extBut b o n (b5.extBut b o n (k4 b o n h)))
theorem enum_end {Q : Option Value → Shared → Prop} {Kp : Heap → Prop} (he : IsEnum s.heap e it i old)
    (dr : ∀ {R : Value → Shared → Prop} {E' : Value → Shared → Prop}, (∀ g u, Kp g → (∃ o, g.get? u = some o ∧ o.cls = .type "StopIteration") → E' (.ref u) { s with heap := g }) → wpAny (model prog w) A.in1 (Builtin.SmallTypes.nextOf (.ref it)) R E' s)
    (hQ : ∀ g, Kp g → Q none { s with heap := g }) : wpAny (model prog w) A (pyNext (.ref e)) Q E s := by
  have ty : s.TypeIs (.ref e) "enumerate" := ⟨_, he, rfl⟩
  unfold pyNext
  refine wpAny_bind (wpAny_attempt (wpAny_callSpecial?_slot (name := Str.ofString "__next__") ty F.slot_enumerate_next (wpAny_call_entry F.slot_enumerate_next ty F.entry_enumerate_next ?_ (F.args_enumerate_next_1 _))))
  show wpAny _ _ (field (.ref e) 2 >>= _) _ _ _
  refine wpAny_bind (wpAny_field he rfl (x := .ref it) rfl ?_)
  refine wpAny_bind (dr fun g u hk hu => ?_)
  obtain ⟨o, ho, hc⟩ := hu
  refine wpAny_bind (wpAny_isInstance (T := "StopIteration") (b := true) ⟨o, ho, hc⟩ isSubtype_stop ?_)
  exact wpAny_pure (hQ _ hk)
end
end HkZ
set_option maxRecDepth 100000
set_option maxHeartbeats 2000000
namespace Hk
open PySem PySem.Spec PyProof.Rows
open L2 HkZ
/-- enumerate(v), v a thing that is its own iterator -/
theorem meets_enumZ {v : Value} {z : Addr} {Hh : Heap → Prop} (itz : ∀ (prog : Program) (w : World) (A : Around) (E : Value → Shared → Prop) (s : Shared) (Q : Value → Shared → Prop), Hh s.heap → Q (.ref z) s → wpAny (model prog w) A (pyIter v) Q E s) :
    Meets (Builtin.«enumerate.__new__» ⟨[.type "enumerate", v], []⟩) (fun _ R s => Hh s.heap ∧ R (.ok (.ret (.ref s.heap.objs.size))) { s with heap := s.heap.push { cls := .type "enumerate", data := .fields #[.none, .bool false, .ref z, rawInt 0, .none, .none] } }) :=
  .of_wp fun prog w A R s h => by
    obtain ⟨hp, g, d, tk, os⟩ := s
    obtain ⟨h1, h⟩ := h
    have hsub := sub_enumerate
    have q1 : ∀ {A' : Around} {E : Value → Shared → Prop} {Q : Value → Shared → Prop}, Q (.ref z) ⟨hp, g, d, tk, os⟩ → wpAny (model prog w) A' (pyIter v) Q E ⟨hp, g, d, tk, os⟩ := fun q => itz prog w _ _ ⟨hp, g, d, tk, os⟩ _ h1 q
    wp_walk using q1
    refine wpAny_stack_any fun st => wpAny_pure ?_
    split
    · rename_i c _ _ _ _ _
      cases (c == Value.type "enumerate")
      · wp_walk using q1
        exact ⟨_, rfl, h⟩
      · wp_walk using q1
        exact ⟨_, rfl, h⟩
    · wp_walk using q1
      exact ⟨_, rfl, h⟩
theorem call_enumZ {prog : Program} {w : World} {A : Around} {E : Value → Shared → Prop} {s : Shared} {v : Value} {z : Addr} {Hh : Heap → Prop} {Q : Value → Shared → Prop}
    (itz : ∀ (prog : Program) (w : World) (A : Around) (E : Value → Shared → Prop) (s : Shared) (Q : Value → Shared → Prop), Hh s.heap → Q (.ref z) s → wpAny (model prog w) A (pyIter v) Q E s) (h1 : Hh s.heap)
    (h : IsEnum (s.heap.push { cls := .type "enumerate", data := .fields #[.none, .bool false, .ref z, rawInt 0, .none, .none] }) s.heap.objs.size z 0 .none → Q (.ref s.heap.objs.size) { s with heap := s.heap.push { cls := .type "enumerate", data := .fields #[.none, .bool false, .ref z, rawInt 0, .none, .none] } }) :
    wpAny (model prog w) A (call (.type "enumerate") [v]) Q E s := by
  refine callType_new F.called_enumerate (by decide) (F.typeCall_enumerate_1 _) (F.newCall_enumerate_1 _) (fun obj => F.args_object_init_2 obj _) F.entry_enumerate_new (meets_enumZ itz) ⟨h1, ?_⟩
  have he : IsEnum (s.heap.push { cls := .type "enumerate", data := .fields #[.none, .bool false, .ref z, rawInt 0, .none, .none] }) s.heap.objs.size z 0 .none := Heap.get?_push_size _ rfl
  exact ⟨⟨_, he, rfl⟩, h he⟩
/-- enumerate's turns over zip of the tuples at a and b -/
def IteZ (K : PySem.W.Frag) (a b : Addr) : It :=
  ⟨fun i H => ∃ (xs ys : List V) (x y : V), SqT K H a xs ∧ SqT K H b ys ∧ xs[i]? = some x ∧ ys[i]? = some y,
    fun i H v H' => ∃ T U x y, v = .ref U ∧ H T = none ∧ H U = none ∧ T ≠ U ∧ H' = upd (upd H T (.tup [x, y])) U (.tup [.int (i : Nat), .ref T]) ∧ (∀ xs, SqT K H a xs → xs[i]? = some x) ∧ ∀ ys, SqT K H b ys → ys[i]? = some y,
    fun i H => ∃ xs ys : List V, SqT K H a xs ∧ SqT K H b ys ∧ (xs.length ≤ i ∨ ys.length ≤ i)⟩
/-- enumerate apart from what it draws from -/
structure EApart (e z TI TO i1 i2 : Addr) : Prop where
  z : e ≠ z
  TI : e ≠ TI
  TO : e ≠ TO
  i1 : e ≠ i1
  i2 : e ≠ i2
def tnZ (e z TI TO i1 i2 a b : Addr) (i : Nat) (h : Heap) : Prop := (∃ old, IsEnum h e z (i : Nat) old) ∧ ZipAny h z TI TO ∧ IsPair h TI (.ref i1) (.ref i2) ∧ (∃ x y, IsPair h TO x y) ∧ h.IsTupleIter i1 a i ∧ h.IsTupleIter i2 b i
theorem FpOk.upd {X : Cx} {pins : List (Addr × Obj)} {H : Hp} {b T : Addr} {o : HO} (f : FpOk X pins H b) (n : b ≠ T) : FpOk X pins (upd H T o) b := ⟨by rw [upd_ne n]; exact f.1, f.2⟩
theorem turn_enumZ {P : Program} {w : World} {K : PySem.W.Frag} {elts : List Expr} {kk : Nat} {tpos : Pos} {a b e z TI TO i1 i2 : Addr} (D : ZipApart z TI TO i1 i2 a b) (N : EApart e z TI TO i1 i2) :
    Turn P w K (.Tuple elts kk tpos) (IteZ K a b) [e, z, TI, TO, i1, i2] e (tnZ e z TI TO i1 i2 a b) where
  mem := by simp
  obj := fun i h st c hc => by
    obtain ⟨⟨old, he⟩, ⟨f0, f1, _, hz⟩, hTI, ⟨x, y, hTO⟩, ⟨o1, e1, _, d1⟩, ⟨o2, e2, _, d2⟩⟩ := st
    have m : c = e ∨ c = z ∨ c = TI ∨ c = TO ∨ c = i1 ∨ c = i2 := by simpa using hc
    rcases m with q | q | q | q | q | q
    · rw [q]; exact ⟨_, he, fun v q => nomatch q⟩
    · rw [q]; exact ⟨_, hz, fun v q => nomatch q⟩
    · rw [q]; exact ⟨_, hTI, fun v q => nomatch q⟩
    · rw [q]; exact ⟨_, hTO, fun v q => nomatch q⟩
    · rw [q]; exact ⟨o1, e1, fun v q => by rw [d1] at q; cases q⟩
    · rw [q]; exact ⟨o2, e2, fun v q => by rw [d2] at q; cases q⟩
  keep := fun i h h' st k => by
    obtain ⟨⟨old, he⟩, hz, hTI, ⟨x, y, hTO⟩, h1, h2⟩ := st
    exact ⟨⟨old, k e (by simp) _ he⟩, hz.push (fun o => k z (by simp) o), k TI (by simp) _ hTI, ⟨x, y, k TO (by simp) _ hTO⟩, h1.at fun o q => k i1 (by simp) o q, h2.at fun o q => k i2 (by simp) o q⟩
  item := by
    intro X hP hw hK hc i pins s σ H E I hf st hg
    subst hP hw hK
    obtain ⟨⟨old, he⟩, hz, hTI, ⟨x0, y0, hTO⟩, h1, h2⟩ := st
    obtain ⟨xs, ys, x, y, hqx, hqy, hx, hy⟩ := hg
    obtain ⟨its, rv, p, _⟩ := I.tuple hqx
    obtain ⟨its2, rv2, p2, _⟩ := I.tuple hqy
    obtain ⟨u, hu, ru⟩ := rv.get hx
    obtain ⟨u2, hu2, ru2⟩ := rv2.get hy
    have el : e < s.heap.objs.size := Heap.lt_size he
    refine enum_item (Fx := fun v g => v = .ref s.heap.objs.size ∧ ZipTurn s z TI TO i1 i2 a b i i u u2 g) he (fun v g q => q.2.2.2.2.2.2.2 e _ N.z N.TO N.i1 N.i2 he)
      (fun {R E'} hR => next_zip_item D hz hTI hTO h1 h2 p p2 (by simpa using hu) (by simpa using hu2) fun g q => hR _ g ⟨rfl, q⟩) ?_
    rintro v g g' ⟨rfl, gz, ⟨a1, b1, gTO⟩, g1, g2, gT, gsz, gk⟩ ho ht hsz hk
    refine ⟨_, rfl, wpAny_letOwnedTupleGo_enum (s := { s with heap := g', toks := s.toks + 1 }) ho fun h'' he' sb => ?_⟩
    have eT : e ≠ s.heap.objs.size := Nat.ne_of_lt el
    have eU : e ≠ g.objs.size := by rw [gsz]; exact Nat.ne_of_lt (Nat.lt_succ_of_lt el)
    -- the pair of zip
    have newT : ObjOk X.prog X.w (upd H s.heap.objs.size (.tup [x, y])) g s.heap.objs.size (.tup [x, y]) := ⟨by show 2 ≤ sizeLine; decide, [u, u2], .cons ru (.cons ru2 .nil), ⟨_, gT, rfl, _, rfl⟩⟩
    have I1 : Inv X pins σ (upd H s.heap.objs.size (.tup [x, y])) { s with heap := g, toks := s.toks } :=
      I.turnedNew (ch := [e, z, TI, TO, i1, i2]) (fun c o n q => gk c o (fun q' => n (by simp [q'])) (fun q' => n (by simp [q'])) (fun q' => n (by simp [q'])) (fun q' => n (by simp [q'])) q) hf (Nat.le_refl _) newT
    -- the pair of enumerate
    have hU2 : h''.get? g.objs.size = some { cls := .type "tuple", data := .seq #[.int i s.toks, .ref s.heap.objs.size] } := (sb.2 _ eU.symm).trans ht
    have ltT : s.heap.objs.size ≠ g.objs.size := by rw [gsz]; exact Nat.ne_of_lt (Nat.lt_succ_self _)
    have newU : ObjOk X.prog X.w (upd (upd H s.heap.objs.size (.tup [x, y])) g.objs.size (.tup [.int (i : Nat), .ref s.heap.objs.size])) h'' g.objs.size (.tup [.int (i : Nat), .ref s.heap.objs.size]) :=
      ⟨by show 2 ≤ sizeLine; decide, [.int i s.toks, .ref s.heap.objs.size], .cons ⟨_, rfl⟩ (.cons rfl .nil), ⟨_, hU2, rfl, _, rfl⟩⟩
    have fpE : ∀ c ∈ [e, z, TI, TO, i1, i2], FpOk X pins (upd H s.heap.objs.size (.tup [x, y])) c := fun c hcm => by
      have lt : c < s.heap.objs.size := by
        have m : c = e ∨ c = z ∨ c = TI ∨ c = TO ∨ c = i1 ∨ c = i2 := by simpa using hcm
        obtain ⟨_, _, _, hz'⟩ := hz
        rcases m with q | q | q | q | q | q
        · rw [q]; exact el
        · rw [q]; exact Heap.lt_size hz'
        · rw [q]; exact Heap.lt_size hTI
        · rw [q]; exact Heap.lt_size hTO
        · rw [q]; obtain ⟨_, e1, _⟩ := h1; exact Heap.lt_size e1
        · rw [q]; obtain ⟨_, e2, _⟩ := h2; exact Heap.lt_size e2
      exact FpOk.upd (hf c hcm) (Nat.ne_of_lt lt)
    have I2 : Inv X pins σ (upd (upd H s.heap.objs.size (.tup [x, y])) g.objs.size (.tup [.int (i : Nat), .ref s.heap.objs.size])) { s with heap := h'', toks := s.toks + 1 } :=
      I1.turnedNew (t' := s.toks + 1) (ch := [e, z, TI, TO, i1, i2]) (fun c o n q => (sb.2 c (fun q' => n (by simp [q']))).trans (hk c o (fun q' => n (by simp [q'])) q)) fpE (Nat.le_refl _) newU
    have nT := I.hok.fresh (Nat.le_refl s.heap.objs.size)
    have nU : H g.objs.size = none := I.hok.fresh (by rw [gsz]; exact Nat.le_succ _)
    have up : ∀ c o, c ≠ e → g.get? c = some o → h''.get? c = some o := fun c o n q => (sb.2 c n).trans (hk c o n q)
    refine ⟨.ref g.objs.size, _, I2, rfl, ⟨_, _, x, y, rfl, nT, nU, ltT, rfl, fun l hl => by rw [I.tuple_inj hl hqx]; exact hx, fun l hl => by rw [I.tuple_inj hl hqy]; exact hy⟩, ⟨⟨.ref s.heap.objs.size, ?_⟩, gz.push (fun o q => up _ o N.z.symm q), ?_, ⟨a1, b1, up _ _ N.TO.symm gTO⟩, ?_, ?_⟩, fun c hcm => ?_⟩
    · have e1 : ((i + 1 : Nat) : Int) = (i : Int) + 1 := by omega
      rw [e1]; exact he'
    · exact up _ _ N.TI.symm (gk _ _ D.TIz D.TITO D.TIi1 D.TIi2 hTI)
    · exact g1.at fun o q => up _ o N.i1.symm q
    · exact g2.at fun o q => up _ o N.i2.symm q
    · have f := fpE c hcm
      have ncU : c ≠ g.objs.size := fun q => by
        have m : c = e ∨ c = z ∨ c = TI ∨ c = TO ∨ c = i1 ∨ c = i2 := by simpa using hcm
        have lt : c < s.heap.objs.size := by
          obtain ⟨_, _, _, hz'⟩ := hz
          rcases m with q | q | q | q | q | q
          · rw [q]; exact el
          · rw [q]; exact Heap.lt_size hz'
          · rw [q]; exact Heap.lt_size hTI
          · rw [q]; exact Heap.lt_size hTO
          · rw [q]; obtain ⟨_, e1, _⟩ := h1; exact Heap.lt_size e1
          · rw [q]; obtain ⟨_, e2, _⟩ := h2; exact Heap.lt_size e2
        rw [q, gsz] at lt
        exact absurd lt (Nat.not_lt.mpr (Nat.le_succ _))
      rw [upd_ne ncU]
      exact f.1
  done := by
    intro X hP hw hK hc i pins s σ H E I hf st hg
    subst hP hw hK
    obtain ⟨⟨old, he⟩, hz, hTI, ⟨x0, y0, hTO⟩, h1, h2⟩ := st
    obtain ⟨xs, ys, hqx, hqy, hend⟩ := hg
    obtain ⟨its, rv, p, _⟩ := I.tuple hqx
    obtain ⟨its2, rv2, p2, _⟩ := I.tuple hqy
    have n1 := rv.length
    have n2 := rv2.length
    have hn : its.toArray[i]? = none ∨ its2.toArray[i]? = none := by
      rcases hend with q | q
      · exact .inl (by simp; omega)
      · exact .inr (by simp; omega)
    have hh := I.ok.hd hc
    refine enum_end (Kp := fun g => ∀ c o, c ≠ z → c ≠ TO → c ≠ i1 → c ≠ i2 → s.heap.get? c = some o → g.get? c = some o) he
      (fun {R E'} hE => next_zip_end hh D hz hTI hTO h1 h2 p p2 hn hE) (fun g hk => ⟨rfl, I.turnedL (t' := s.toks) (ch := [e, z, TI, TO, i1, i2]) (fun c o n q =>
      hk c o (fun q' => n (by simp [q'])) (fun q' => n (by simp [q'])) (fun q' => n (by simp [q'])) (fun q' => n (by simp [q'])) q) hf⟩)
  self := fun A i s Q E st h => let ⟨⟨_, he⟩, _⟩ := st; wpAny_pyIter_enum he h
def iEnumZ (K : PySem.W.Frag) (ta : TA) : TI := fun σ H R => ta σ H fun vs H1 => ∃ a b xs ys, vs = [.ref a, .ref b] ∧ SqT K H1 a xs ∧ SqT K H1 b ys ∧ R (IteZ K a b) H1
theorem pi_enumZ {X : Cx} {K : PySem.W.Frag} {e e2 : Expr} {ta : TA} {p pz pos posz tpos : Pos} {elts : List Expr} {kk : Nat} (hgE : Gl X "enumerate") (hmE : X.mg "enumerate" = none) (hgZ : Gl X "zip") (hmZ : X.mg "zip" = none) (ha : PA X [e, e2] ta) (hK : X.K = K := by rfl)
    (hz1 : starEach [.Call (.Name "zip" pz) [e, e2] [] posz] X.env = (false, eval (.Call (.Name "zip" pz) [e, e2] [] posz) X.env) :: starEach [] X.env := by rfl)
    (hs : starEach [e, e2] X.env = (false, eval e X.env) :: starEach [e2] X.env := by rfl) (hpl : (backTo posz (starEach [e2] X.env)).any (·.1) = false := by rfl) :
    PI X (.Tuple elts kk tpos) (.Call (.Name "enumerate" p) [.Call (.Name "zip" pz) [e, e2] [] posz] [] pos) (iEnumZ K ta) := by
  subst hK
  refine ⟨fun pins s σ H R I h => ?_⟩
  refine Call_ (ld_blt I hgE hmE boot_enumerate (PyProof.Rows.callWith_type1 ?_ hz1 rfl))
  rw [hz1]
  refine Calls.spliced_cons (Call_ (ld_blt I hgZ hmZ PyProof.Rows.boot_zip (PyProof.Rows.callWith_type1 (thn (ha.run posz pins s σ H _ I h) fun us s1 ⟨vs, H1, I1, r1, q1⟩ => ?_) hs hpl)))
  obtain ⟨a, b, xs, ys, ex, hqx, hqy, q⟩ := q1
  subst ex
  cases r1 with
  | cons r rr =>
    cases rr with
    | cons r' rr =>
      cases rr
      cases r
      cases r'
      obtain ⟨its, rv, p1, _⟩ := I1.tuple hqx
      obtain ⟨its2, rv2, p2, _⟩ := I1.tuple hqy
      obtain ⟨o1, ho1, _⟩ := id p1
      obtain ⟨o2, ho2, _⟩ := id p2
      refine RZ.call_zipT (show s1.heap.IsTuple a its.toArray from p1) (show s1.heap.IsTuple b its2.toArray from p2) fun h' hz hTI hTO h1 h2 hsz hk => ?_
      have I2 : Inv X pins σ H1 { s1 with heap := h' } := I1.kept (t' := s1.toks) hk
      refine Calls.spliced_nil ?_
      have zA : ZipAny h' (s1.heap.objs.size + 4) (s1.heap.objs.size + 2) (s1.heap.objs.size + 3) := ⟨_, _, .inl rfl, hz⟩
      refine call_enumZ (s := { s1 with heap := h' }) (z := s1.heap.objs.size + 4) (Hh := fun g => ZipAny g (s1.heap.objs.size + 4) (s1.heap.objs.size + 2) (s1.heap.objs.size + 3)) (fun prog w A E s Q hg q => ?_) zA (fun he => ?_)
      · obtain ⟨f0, f1, _, e⟩ := hg
        have hT : s.TypeIs (.ref (s1.heap.objs.size + 4)) "zip" := ⟨_, e, rfl⟩
        exact wpAny_pyIter_slot hT F.slot_zip_iter (wpAny_call_entry F.slot_zip_iter hT F.entry_zip_iter (show wpAny _ _ (ret (.ref (s1.heap.objs.size + 4))) _ _ s from wpAny_pure ⟨_, rfl, "zip", _, hT, F.slot_zip_next.lookup, q⟩) (F.args_zip_iter_1 _))
      · refine wpAny_pyIter_enum he ?_
        have kp : ∀ c o, h'.get? c = some o → (h'.push { cls := .type "enumerate", data := .fields #[.none, .bool false, .ref (s1.heap.objs.size + 4), rawInt 0, .none, .none] }).get? c = some o := fun c o q => Heap.get?_push_of_some _ q
        have I3 : Inv X pins σ H1 { s1 with heap := h'.push { cls := .type "enumerate", data := .fields #[.none, .bool false, .ref (s1.heap.objs.size + 4), rawInt 0, .none, .none] } } := I2.kept (t' := s1.toks) kp
        have he' : IsEnum (h'.push { cls := .type "enumerate", data := .fields #[.none, .bool false, .ref (s1.heap.objs.size + 4), rawInt 0, .none, .none] }) h'.objs.size (s1.heap.objs.size + 4) 0 .none := he
        have hle : ∀ c, c ∈ [h'.objs.size, s1.heap.objs.size + 4, s1.heap.objs.size + 2, s1.heap.objs.size + 3, s1.heap.objs.size, s1.heap.objs.size + 1] → FpOk X pins H1 c := fun c hcm => by
          have m : c = h'.objs.size ∨ c = s1.heap.objs.size + 4 ∨ c = s1.heap.objs.size + 2 ∨ c = s1.heap.objs.size + 3 ∨ c = s1.heap.objs.size ∨ c = s1.heap.objs.size + 1 := by simpa using hcm
          have le : s1.heap.objs.size ≤ c := by
            rcases m with q | q | q | q | q | q
            · rw [q, hsz]; exact Nat.le_add_right _ _
            · rw [q]; exact Nat.le_add_right _ _
            · rw [q]; exact Nat.le_add_right _ _
            · rw [q]; exact Nat.le_add_right _ _
            · rw [q]; exact Nat.le_refl _
            · rw [q]; exact Nat.le_add_right _ _
          exact I1.fpOk le (I1.hok.fresh le)
        have ne : ∀ k : Nat, k < 5 → h'.objs.size ≠ s1.heap.objs.size + k := fun k hk => by rw [hsz]; exact fun q => by have := Nat.add_left_cancel q; omega
        exact ⟨h'.objs.size, [h'.objs.size, s1.heap.objs.size + 4, s1.heap.objs.size + 2, s1.heap.objs.size + 3, s1.heap.objs.size, s1.heap.objs.size + 1], _, _, H1, rfl, I3,
          turn_enumZ (PySem.W.ktu_apart s1.heap.objs.size a b (Heap.lt_size ho1) (Heap.lt_size ho2)) ⟨ne 4 (by decide), ne 2 (by decide), ne 3 (by decide), ne 0 (by decide), ne 1 (by decide)⟩,
          ⟨⟨_, he'⟩, zA.push fun o q => kp _ o q, kp _ _ hTI, ⟨_, _, kp _ _ hTO⟩, h1.at (fun o q => kp _ o q), h2.at (fun o q => kp _ o q)⟩, hle, q⟩
/-! ### enumerate(a), a a tuple -/
def IteT (K : PySem.W.Frag) (a : Addr) : It :=
  ⟨fun i H => ∃ (xs : List V) (x : V), SqT K H a xs ∧ xs[i]? = some x, fun i H v H' => ∃ U x, v = .ref U ∧ H U = none ∧ H' = upd H U (.tup [.int (i : Nat), x]) ∧ ∀ xs, SqT K H a xs → xs[i]? = some x, fun i H => ∃ xs : List V, SqT K H a xs ∧ xs.length ≤ i⟩
def tnT (e it a : Addr) (i : Nat) (h : Heap) : Prop := (∃ old, IsEnum h e it (i : Nat) old) ∧ h.IsTupleIter it a i ∧ e ≠ it
theorem turn_enumT {P : Program} {w : World} {K : PySem.W.Frag} {elts : List Expr} {kk : Nat} {tpos : Pos} (a e it : Addr) : Turn P w K (.Tuple elts kk tpos) (IteT K a) [e, it] e (tnT e it a) where
  mem := by simp
  obj := fun i h st c hc => by
    obtain ⟨⟨old, he⟩, ⟨o, ho, _, hd⟩, _⟩ := st
    have m : c = e ∨ c = it := by simpa using hc
    rcases m with q | q
    · rw [q]; exact ⟨_, he, fun v q => nomatch q⟩
    · rw [q]; exact ⟨o, ho, fun v q => by rw [hd] at q; cases q⟩
  keep := fun i h h' st k => by
    obtain ⟨⟨old, he⟩, hi, hne⟩ := st
    exact ⟨⟨old, k e (by simp) _ he⟩, hi.at fun o q => k it (by simp) o q, hne⟩
  item := by
    intro X hP hw hK hc i pins s σ H E I hf st hg
    subst hP hw hK
    obtain ⟨⟨old, he⟩, hit, hne⟩ := st
    obtain ⟨xs, x, hq, hx⟩ := hg
    obtain ⟨its, rv, p, _⟩ := I.tuple hq
    obtain ⟨u, hu, ru⟩ := rv.get hx
    have el : e < s.heap.objs.size := Heap.lt_size he
    have il : it < s.heap.objs.size := by obtain ⟨_, q, _⟩ := hit; exact Heap.lt_size q
    refine enum_item (Fx := fun v g => v = u ∧ g.IsTupleIter it a (i + 1) ∧ Heap.SameBut it s.heap g) he (fun v g q => (q.2.2.2 e hne).trans he)
      (fun {R E'} hR => RZ.nextOf_tuple_item hit p (by simpa using hu) fun g h1 h2 => hR _ g ⟨rfl, h1, h2⟩) ?_
    rintro v g g' ⟨rfl, g1, gb⟩ ho ht hsz hk
    refine ⟨_, rfl, wpAny_letOwnedTupleGo_enum (s := { s with heap := g', toks := s.toks + 1 }) ho fun h'' he' sb => ?_⟩
    have gs : g.objs.size = s.heap.objs.size := gb.1
    rw [gs] at ht ⊢
    have eU : e ≠ s.heap.objs.size := Nat.ne_of_lt el
    have hU2 : h''.get? s.heap.objs.size = some { cls := .type "tuple", data := .seq #[.int i s.toks, v] } := (sb.2 _ eU.symm).trans ht
    have up : ∀ c o, c ≠ e → g.get? c = some o → h''.get? c = some o := fun c o n q => (sb.2 c n).trans (hk c o n q)
    have newU : ObjOk X.prog X.w (upd H s.heap.objs.size (.tup [.int (i : Nat), x])) h'' s.heap.objs.size (.tup [.int (i : Nat), x]) := ⟨by show 2 ≤ sizeLine; decide, [.int i s.toks, v], .cons ⟨_, rfl⟩ (.cons ru .nil), ⟨_, hU2, rfl, _, rfl⟩⟩
    have I2 : Inv X pins σ (upd H s.heap.objs.size (.tup [.int (i : Nat), x])) { s with heap := h'', toks := s.toks + 1 } :=
      I.turnedNew (ch := [e, it]) (fun c o n q => up c o (fun q' => n (by simp [q'])) ((gb.2 c (fun q' => n (by simp [q']))).trans q)) hf (Nat.le_refl _) newU
    refine ⟨.ref s.heap.objs.size, _, I2, rfl, ⟨_, x, rfl, I.hok.fresh (Nat.le_refl _), rfl, fun l hl => by rw [I.tuple_inj hl hq]; exact hx⟩, ⟨⟨v, ?_⟩, g1.at fun o q => up _ o hne.symm q, hne⟩, fun c hcm => ?_⟩
    · have e1 : ((i + 1 : Nat) : Int) = (i : Int) + 1 := by omega
      rw [e1]; exact he'
    · have lt : c < s.heap.objs.size := by
        have m : c = e ∨ c = it := by simpa using hcm
        rcases m with q | q
        · rw [q]; exact el
        · rw [q]; exact il
      rw [upd_ne (Nat.ne_of_lt lt)]
      exact (hf c hcm).1
  done := by
    intro X hP hw hK hc i pins s σ H E I hf st hg
    subst hP hw hK
    obtain ⟨⟨old, he⟩, hit, hne⟩ := st
    obtain ⟨xs, hq, hx⟩ := hg
    obtain ⟨its, rv, p, _⟩ := I.tuple hq
    have hl := rv.length
    have hh := I.ok.hd hc
    refine enum_end (Kp := fun g => Heap.ExtBut it s.heap g) he (fun {R E'} hE => RZ.nextOf_tuple_end hh hit p (by simp; omega) hE) (fun g hk => ⟨rfl, I.turnedL (t' := s.toks) (ch := [e, it]) (fun c o n q => hk c o (fun q' => n (by simp [q'])) q) hf⟩)
  self := fun A i s Q E st h => let ⟨⟨_, he⟩, _⟩ := st; wpAny_pyIter_enum he h
def iEnumT (K : PySem.W.Frag) (ta : TA) : TI := fun σ H R => ta σ H fun vs H1 => ∃ a xs, vs = [.ref a] ∧ SqT K H1 a xs ∧ R (IteT K a) H1
theorem call_enumTup {prog : Program} {w : World} {A : Around} {E : Value → Shared → Prop} {s : Shared} {t : Addr} {items : Array Value} {Q : Value → Shared → Prop} (ht : s.heap.IsTuple t items)
    (h : ∀ h', IsEnum h' (s.heap.objs.size + 1) s.heap.objs.size 0 .none → h'.IsTupleIter s.heap.objs.size t 0 → (∀ b o, s.heap.get? b = some o → h'.get? b = some o) → Q (.ref (s.heap.objs.size + 1)) { s with heap := h' }) :
    wpAny (model prog w) A (call (.type "enumerate") [.ref t]) Q E s := by
  have M : Meets (Builtin.«enumerate.__new__» ⟨[.type "enumerate", .ref t], []⟩) (fun _ R s => s.heap.IsTuple t items ∧
      R (.ok (.ret (.ref (s.heap.push { cls := .type "tuple_iterator", data := .fields #[.ref t, .int 0 0] }).objs.size)))
        { s with heap := (s.heap.push { cls := .type "tuple_iterator", data := .fields #[.ref t, .int 0 0] }).push { cls := .type "enumerate", data := .fields #[.none, .bool false, .ref s.heap.objs.size, rawInt 0, .none, .none] } }) :=
    .of_wp fun prog w A R s h => by
      obtain ⟨hp, g, d, tk, os⟩ := s
      obtain ⟨h1, h⟩ := h
      have hsub := sub_enumerate
      have q1 : ∀ {A' : Around} {E : Value → Shared → Prop} {Q : Value → Shared → Prop}, Q (.ref hp.objs.size) ⟨hp.push { cls := .type "tuple_iterator", data := .fields #[.ref t, .int 0 0] }, g, d, tk, os⟩ → wpAny (model prog w) A' (pyIter (.ref t)) Q E ⟨hp, g, d, tk, os⟩ :=
        fun q => wpAny_pyIter_tuple h1 q
      wp_walk using q1
      refine wpAny_stack_any fun st => wpAny_pure ?_
      split
      · rename_i c _ _ _ _ _
        cases (c == Value.type "enumerate")
        · wp_walk using q1
          exact ⟨_, rfl, h⟩
        · wp_walk using q1
          exact ⟨_, rfl, h⟩
      · wp_walk using q1
        exact ⟨_, rfl, h⟩
  refine callType_new F.called_enumerate (by decide) (F.typeCall_enumerate_1 _) (F.newCall_enumerate_1 _) (fun obj => F.args_object_init_2 obj _) F.entry_enumerate_new M ⟨ht, ?_⟩
  have sz : (s.heap.push { cls := .type "tuple_iterator", data := .fields #[.ref t, .int 0 0] }).objs.size = s.heap.objs.size + 1 := Heap.size_push ..
  show _ ∧ _
  rw [sz]
  have he : IsEnum ((s.heap.push { cls := .type "tuple_iterator", data := .fields #[.ref t, .int 0 0] }).push { cls := .type "enumerate", data := .fields #[.none, .bool false, .ref s.heap.objs.size, rawInt 0, .none, .none] }) (s.heap.objs.size + 1) s.heap.objs.size 0 .none := by
    have := Heap.get?_push_size (s.heap.push { cls := .type "tuple_iterator", data := .fields #[.ref t, .int 0 0] }) (o := { cls := .type "enumerate", data := .fields #[.none, .bool false, .ref s.heap.objs.size, rawInt 0, .none, .none] }) rfl
    rw [sz] at this; exact this
  exact ⟨⟨_, he, rfl⟩, h _ he ⟨_, Heap.get?_push_of_some _ (Heap.get?_push_size _ rfl), rfl, rfl⟩ fun b o x => Heap.get?_push_of_some _ (Heap.get?_push_of_some _ x)⟩
theorem pi_enumT {X : Cx} {K : PySem.W.Frag} {e : Expr} {ta : TA} {p pos tpos : Pos} {elts : List Expr} {kk : Nat} (hg : Gl X "enumerate") (hm : X.mg "enumerate" = none) (ha : PA X [e] ta) (hK : X.K = K := by rfl) (hs : starEach [e] X.env = [(false, eval e X.env)] := by rfl) :
    PI X (.Tuple elts kk tpos) (.Call (.Name "enumerate" p) [e] [] pos) (iEnumT K ta) := by
  subst hK
  refine ⟨fun pins s σ H R I h => ?_⟩
  refine Call_ (ld_blt I hg hm boot_enumerate (PyProof.Rows.callWith_type1 (thn (ha.run pos pins s σ H _ I h) fun us s1 ⟨vs, H1, I1, r1, q1⟩ => ?_) hs rfl))
  obtain ⟨a, xs, ex, hq, q⟩ := q1
  subst ex
  cases r1 with
  | cons r rr =>
    cases rr
    cases r
    obtain ⟨its, rv, p', _⟩ := I1.tuple hq
    refine call_enumTup (show s1.heap.IsTuple a its.toArray from p') fun h' he hit hk => wpAny_pyIter_enum he ?_
    have I2 : Inv X pins σ H1 { s1 with heap := h' } := I1.kept (t' := s1.toks) hk
    refine ⟨s1.heap.objs.size + 1, [s1.heap.objs.size + 1, s1.heap.objs.size], _, _, H1, rfl, I2, turn_enumT a (s1.heap.objs.size + 1) s1.heap.objs.size, ⟨⟨.none, he⟩, hit, Nat.succ_ne_self _⟩, fun c hcm => ?_, q⟩
    have m : c = s1.heap.objs.size + 1 ∨ c = s1.heap.objs.size := by simpa using hcm
    have le : s1.heap.objs.size ≤ c := by
      rcases m with z | z
      · rw [z]; exact Nat.le_add_right _ _
      · rw [z]; exact Nat.le_refl _
    exact I1.fpOk le (I1.hok.fresh le)
/-! ### data stay where nothing is lost -/
mutual
theorem dp_same {K : PySem.W.Frag} {H H' : Hp} (s : Same H H') : ∀ {v : V} {d : PyData}, Dp K H v d → Dp K H' v d
  | _, _, .non => .non
  | _, _, .bl b => .bl b
  | _, _, .int i => .int i
  | _, _, .str x => .str x
  | _, _, .lst h r => .lst (SqL.same s h) (dpAll_same s r)
  | _, _, .tup h r => .tup (SqT.same s h) (dpAll_same s r)
theorem dpAll_same {K : PySem.W.Frag} {H H' : Hp} (s : Same H H') : ∀ {vs : List V} {ds : List PyData}, DpAll K H vs ds → DpAll K H' vs ds
  | _, _, .nil => .nil
  | _, _, .cons h r => .cons (dp_same s h) (dpAll_same s r)
end
/-! ### for loops, comprehensions over them -/
section
variable {K : PySem.W.Frag} {a b : Addr} {xs ys : List V}
theorem for_enumZ {g : TG} {tb : TS} {D : Ends} {σ : L2.St} {H : Hp} (Pv : Nat → L2.St → Hp → Prop) (hl : xs.length = ys.length) (h0 : Pv 0 σ H) (ht : ∀ i σ H, i ≤ xs.length → Pv i σ H → SqT K H a xs ∧ SqT K H b ys)
    (hs : ∀ (i : Nat) (x y : V) (T U : Addr) (σ : L2.St) (H : Hp), xs[i]? = some x → ys[i]? = some y → Pv i σ H → H T = none → (upd H T (.tup [x, y])) U = none → g (.ref U) σ (upd (upd H T (.tup [x, y])) U (.tup [.int (i : Nat), .ref T])) fun σ2 H2 => tb { D with nx := Pv (i + 1), ct := Pv (i + 1), bk := D.nx } σ2 H2)
    (hd : ∀ σ H, Pv xs.length σ H → D.nx σ H) :
    ∃ W : Nat → Nat → L2.St → Hp → Prop, (∃ m, W 0 m σ H) ∧ ∀ i m σ H, W i m σ H →
      ((IteZ K a b).stop i H ∧ D.nx σ H) ∨ ((IteZ K a b).go i H ∧ ∃ N : L2.St → Hp → Prop, (∀ σ' H', N σ' H' → ∃ m', m' < m ∧ W (i + 1) m' σ' H') ∧ ∀ x H', (IteZ K a b).yld i H x H' → g x σ H' fun σ2 H2 => tb { D with nx := N, ct := N, bk := D.nx } σ2 H2) := by
  refine ⟨fun i m σ H => m = xs.length - i ∧ i ≤ xs.length ∧ Pv i σ H, ⟨xs.length, rfl, Nat.zero_le _, h0⟩, ?_⟩
  rintro i m σ H ⟨rfl, hi, p⟩
  obtain ⟨t1, t2⟩ := ht i σ H hi p
  by_cases lt : i < xs.length
  · have lt2 : i < ys.length := by omega
    refine .inr ⟨⟨xs, ys, xs[i], ys[i], t1, t2, List.getElem?_eq_getElem lt, List.getElem?_eq_getElem lt2⟩, Pv (i + 1), fun σ' H' p' => ⟨xs.length - (i + 1), by omega, rfl, lt, p'⟩, ?_⟩
    rintro v H' ⟨T, U, x, y, rfl, nT, nU, ne, rfl, e1, e2⟩
    exact hs i x y T U σ H (e1 xs t1) (e2 ys t2) p nT (by rw [upd_ne ne.symm]; exact nU)
  · obtain rfl : i = xs.length := by omega
    exact .inl ⟨⟨xs, ys, t1, t2, .inl (Nat.le_refl _)⟩, hd σ H p⟩
theorem walk_enumT {H0 : Hp} {Qd : Hp → Prop} {B : V → Hp → (Hp → Prop) → Prop} (Pv : Nat → Hp → Prop) (h0 : Pv 0 H0) (ht : ∀ i H, i ≤ xs.length → Pv i H → SqT K H a xs)
    (hs : ∀ (i : Nat) (x : V) (U : Addr) (H : Hp), xs[i]? = some x → Pv i H → H U = none → B (.ref U) (upd H U (.tup [.int (i : Nat), x])) (Pv (i + 1))) (hd : ∀ H, Pv xs.length H → Qd H) :
    ∃ W : Nat → Nat → Hp → Prop, (∃ m, W 0 m H0) ∧ ∀ i m H, W i m H → ((IteT K a).stop i H ∧ Qd H) ∨ ((IteT K a).go i H ∧ ∃ Nx : Hp → Prop, (∀ H', Nx H' → ∃ m', m' < m ∧ W (i + 1) m' H') ∧ ∀ x H', (IteT K a).yld i H x H' → B x H' Nx) := by
  refine ⟨fun i m H => m = xs.length - i ∧ i ≤ xs.length ∧ Pv i H, ⟨xs.length, rfl, Nat.zero_le _, h0⟩, ?_⟩
  rintro i m H ⟨rfl, hi, p⟩
  have t1 := ht i H hi p
  by_cases lt : i < xs.length
  · refine .inr ⟨⟨xs, xs[i], t1, List.getElem?_eq_getElem lt⟩, Pv (i + 1), fun H' p' => ⟨xs.length - (i + 1), by omega, rfl, lt, p'⟩, ?_⟩
    rintro v H' ⟨U, x, rfl, nU, rfl, e1⟩
    exact hs i x U H (e1 xs t1) p nU
  · obtain rfl : i = xs.length := by omega
    exact .inl ⟨⟨xs, t1, Nat.le_refl _⟩, hd H p⟩
/-- [f x for x in a tuple of data], f pure -/
theorem walk_tup_bools {ds : List PyData} {H : Hp} {D : Addr} {Qd : Hp → Prop} {B : V → Hp → (Hp → Prop) → Prop} (f : PyData → Bool) (nD : H D = none) (hz : ds.length ≤ 1000000) (hT : SqT K H a xs) (hr : DpAll K H xs ds)
    (hB : ∀ x d H1 Nx, Same H H1 → Dp K H1 x d → (∃ acc, H1 D = some (.lst acc) ∧ acc.length < sizeLine ∧ Nx (upd H1 D (.lst (acc ++ [.bl (f d)])))) → B x H1 Nx) (hd : ∀ H', Same H H' → H' D = some (.lst ((ds.map f).map V.bl)) → Qd H') :
    ∃ W : Nat → Nat → Hp → Prop, (∃ m, W 0 m (upd H D (.lst []))) ∧ ∀ i m H, W i m H → ((Itt K a).stop i H ∧ Qd H) ∨ ((Itt K a).go i H ∧ ∃ Nx : Hp → Prop, (∀ H', Nx H' → ∃ m', m' < m ∧ W (i + 1) m' H') ∧ ∀ x H', (Itt K a).yld i H x H' → B x H' Nx) := by
  have len : ∀ {vs : List V} {es : List PyData}, DpAll K H vs es → vs.length = es.length := by
    intro vs es h
    induction es generalizing vs with
    | nil => cases h; rfl
    | cons e es ih => cases h with | cons _ r => exact congrArg (· + 1) (ih r)
  have at_ : ∀ {vs : List V} {es : List PyData} {i : Nat} {x : V}, DpAll K H vs es → vs[i]? = some x → ∃ d, es[i]? = some d ∧ Dp K H x d := by
    intro vs es
    induction es generalizing vs with
    | nil => intro i x h e; cases h; simp at e
    | cons d es ih =>
      intro i x h e
      cases h with
      | cons h r =>
        cases i with
        | zero => exact ⟨d, rfl, by obtain rfl := Option.some.inj e; exact h⟩
        | succ i => exact ih r e
  have hl := len hr
  refine walk_tup (xs := xs) (Pv := fun i H1 => Same H H1 ∧ H1 D = some (.lst (((ds.take i).map f).map V.bl))) ⟨sameUpd nD, upd_same⟩ (fun i H1 _ p => SqT.same p.1 hT) (fun i x H1 hx p => ?_) (fun H1 p => ?_)
  · obtain ⟨p1, p2⟩ := p
    obtain ⟨d, hd1, hd2⟩ := at_ hr hx
    have li : i < ds.length := (List.getElem?_eq_some_iff.mp hd1).1
    refine hB x d H1 _ p1 (dp_same p1 hd2) ⟨_, p2, ?_, fun b o e => ?_, ?_⟩
    · rw [List.length_map, List.length_map, List.length_take, sizeLine_eq]; omega
    · rw [upd_ne (ne_of_none e nD)]; exact p1 b o e
    · rw [upd_same, List.take_add_one, hd1]
      simp
  · obtain ⟨p1, p2⟩ := p
    rw [hl, List.take_length] at p2
    exact hd _ p1 p2
end
end Hk
set_option maxRecDepth 100000
set_option maxHeartbeats 4000000
namespace Hk
open PySem PySem.Spec PyProof.Rows
open L2
theorem u1 {n m : Nat} (h : n + 64 < m) : n + 1 < m := by omega
section
variable {X : Cx}
/-! ### a pair as a comprehension's target -/
theorem pg_utup {K : PySem.W.Frag} {es : List Expr} {k n : Nat} {t : TGs} {p : Pos} (hc : X.calm = true) (hK : X.K = K) (hn : (assignEach es X.env).length = n) (h : PGs X es t) (hst : (assignEach es X.env).findIdx? (·.1) = none := by rfl) : PG X (.Tuple es k p) (gTup K n t) := by
  subst hK hn
  exact pg_tup hc h rfl hst
/-! ### x in a dict -/
def rDIn (neg : Bool) : R2 := fun x y H Q => ∃ a o, y = .ref a ∧ DGet H a x o ∧ Q (.bl (if neg then !o.isSome else o.isSome)) H
theorem op_din (hu : X.A.units + 64 < cLine) : OpR X (compareOp .In) (rDIn false) := by
  intro pins s σ H x y v u Q I rx ry h
  obtain ⟨a, o, rfl, g, q⟩ := h
  cases ry
  exact d_in (A := X.A) (by omega) I g rx fun s' I' => ⟨.bl o.isSome, H, I', rfl, q⟩
theorem op_dnotin (hu : X.A.units + 64 < cLine) : OpR X (compareOp .NotIn) (rDIn true) := by
  intro pins s σ H x y v u Q I rx ry h
  obtain ⟨a, o, rfl, g, q⟩ := h
  cases ry
  exact d_notIn (A := X.A) (by omega) I g rx fun s' I' => ⟨.bl (!o.isSome), H, I', rfl, q⟩
/-! ### max(i, j), list(xs) -/
def UMax2 : List V → Hp → VK → Prop := fun xs H Q => ∃ i j, xs = [.int i, .int j] ∧ Q (.int (max i j)) H
theorem call_umax2 (hc : X.calm = true := by rfl) : CallR X (.builtin "max") UMax2 := by
  intro pins s σ H xs us Q I r h
  obtain ⟨i, j, e, q⟩ := h
  refine call_max2 hc pins s σ H xs us Q I r ⟨i, j, e, ?_⟩
  have : (if j > i then j else i) = max i j := by split <;> omega
  rw [this]; exact q
def UList (K : PySem.W.Frag) : List V → Hp → VK → Prop := fun xs H Q => ∃ p ys, xs = [.ref p] ∧ (SqL K H p ys ∨ SqT K H p ys) ∧ ∀ l, H l = none → Q (.ref l) (upd H l (.lst ys))
theorem call_ulist {K : PySem.W.Frag} (hK : X.K = K := by rfl) : CallR X (.type "list") (UList K) := by
  subst hK
  exact call_list_of
/-! ### xs.index(x), flat -/
theorem mt_uindex {K : PySem.W.Frag} (hK : X.K = K := by rfl) : MtR X "list.index" (rIndex K) := by
  subst hK
  exact mt_index
/-! ### (x,) * k -/
theorem tuple_mul1 (l : Addr) (items : Array Value) (n : Nat) (dd : Option Addr) (sl : Array (Option Value)) (u : Tok) :
    Meets (Builtin.«tuple.__mul__» ⟨[.ref l, .int 1 u], []⟩) (fun _ R s => s.heap.get? l = some { cls := .type "tuple", dict := dd, data := .seq items n, slots := sl } ∧ R (.ok (.ret (Value.ref l))) s) :=
  .of_wp fun prog w A R s h => by
    obtain ⟨hp, g, d, tk, os⟩ := s
    obtain ⟨hl, h⟩ := h
    have f1 := AutoSeq1.idx_int
    wp_walk using wpAny_loadPart' hl
    exact ⟨_, rfl, h⟩
theorem tuple_mul0 (l : Addr) (items : Array Value) (n : Nat) (dd : Option Addr) (sl : Array (Option Value)) (u : Tok) (c1 : (items.isEmpty || (0 : Int) == 1) = false) :
    Meets (Builtin.«tuple.__mul__» ⟨[.ref l, .int 0 u], []⟩) (fun _ R s => s.heap.get? l = some { cls := .type "tuple", dict := dd, data := .seq items n, slots := sl } ∧
      R (.ok (.ret (Value.ref s.heap.objs.size))) { s with heap := s.heap.push { cls := Value.type "tuple", data := Data.seq #[] }, toks := s.toks }) :=
  .of_wp fun prog w A R s h => by
    obtain ⟨hp, g, d, tk, os⟩ := s
    obtain ⟨hl, h⟩ := h
    have f1 := AutoSeq1.idx_int
    wp_walk using wpAny_loadPart' hl
    refine wpAny_ite_false (decide_eq_false (by rw [c1]; exact Bool.false_ne_true)) ?_
    wp_walk using wpAny_loadPart' hl
    exact ⟨_, rfl, h⟩
def rRep1 (K : PySem.W.Frag) : R2 := fun x y H Q => ∃ (l : Addr) (k : Nat) (v : V), x = .ref l ∧ y = .int (k : Nat) ∧ SqT K H l [v] ∧ k ≤ 1000 ∧ ∀ p H', Same H H' → SqT K H' p (List.replicate k v) → Q (.ref p) H'
theorem op_rep1 {K : PySem.W.Frag} (hK : X.K = K := by rfl) : OpR X (binaryOp .Mult) (rRep1 K) := by
  subst hK
  intro pins s σ H x y v u Q I rx ry h
  obtain ⟨l, k, v, rfl, rfl, hT, h2, q⟩ := h
  by_cases hk : 2 ≤ k
  · refine op_repT pins s σ H _ _ _ u Q I rx ry ⟨l, k, [v], rfl, rfl, hT, by simp, by omega, by omega, by simp, fun p np => q p _ (sameUpd np) ?_⟩
    have e : (List.replicate ((k : Nat) : Int).toNat [v]).flatten = List.replicate k v := by
      rw [Int.toNat_natCast]
      induction k with
      | zero => rfl
      | succ k ih =>
        clear ih
        have : ∀ m : Nat, (List.replicate m [v]).flatten = List.replicate m v := by
          intro m
          induction m with
          | zero => rfl
          | succ m ih => rw [List.replicate_succ, List.flatten_cons, ih, List.replicate_succ]; rfl
        exact this _
    rw [e]
    exact .inl (.inl upd_same)
  cases rx
  obtain ⟨t, rfl⟩ := ry
  obtain ⟨its, r, ⟨⟨cls, dd, data, sl⟩, ho, hc, n, hd⟩, hs⟩ := I.tuple hT
  simp only at hc hd
  subst hc hd
  cases r with
  | cons rv rr =>
    cases rr
    obtain rfl | rfl : k = 0 ∨ k = 1 := by omega
    · refine wpAny_binaryOp_repeat_ref (T := "tuple") (U := "int") (by decide) ⟨_, ho, rfl⟩ (fun s' => typeIs_int s' _ t) noFill_tuple_mul F.fills_int_mul F.slot_int_rmul repeat_tuple F.slot_int_index.lookup
        (call_meets F.slot_int_rmul (typeIs_int s _ t) F.entry_int_rmul (F.args_int_rmul_2 _ _) (int_rmul_tuple _ t l _ n dd sl)
          ⟨ho, rfl, ⟨_, ho, rfl⟩, call_meets F.slot_tuple_mul ⟨_, ho, rfl⟩ F.entry_tuple_mul (F.args_tuple_mul_2 _ _) (tuple_mul0 l _ n dd sl t rfl) ⟨ho, ?_⟩⟩)
      refine ⟨.ref s.heap.objs.size, _, I.laid (t' := s.toks) (o := .tup []) (fun b ob q => Heap.get?_push_of_some _ q) (Nat.le_refl _) ?_, rfl, q _ _ (sameUpd (I.hok.fresh (Nat.le_refl _))) (.inl (.inl upd_same))⟩
      exact ⟨by rw [sizeLine_eq]; decide, [], .nil, IsTup.new _ _⟩
    · refine wpAny_binaryOp_repeat_ref (T := "tuple") (U := "int") (by decide) ⟨_, ho, rfl⟩ (fun s' => typeIs_int s' _ t) noFill_tuple_mul F.fills_int_mul F.slot_int_rmul repeat_tuple F.slot_int_index.lookup
        (call_meets F.slot_int_rmul (typeIs_int s _ t) F.entry_int_rmul (F.args_int_rmul_2 _ _) (int_rmul_tuple _ t l _ n dd sl)
          ⟨ho, rfl, ⟨_, ho, rfl⟩, call_meets F.slot_tuple_mul ⟨_, ho, rfl⟩ F.entry_tuple_mul (F.args_tuple_mul_2 _ _) (tuple_mul1 l _ n dd sl t) ⟨ho, ?_⟩⟩)
      exact ⟨.ref l, H, I.tok _, rfl, q _ _ (Same.refl _) hT⟩
end
end Hk
set_option maxRecDepth 100000
set_option maxHeartbeats 1000000
/-! K01p: ways, rings and steps, plain. -/
namespace K01
open PySem
/-- behind a thing -/
def nx (ns : List (Option Int)) (i : Int) : Option Int := (ns[i.toNat]?).getD none
def way (ns : List (Option Int)) : Nat → Option Int → List Int → List Int
  | 0, _, acc => acc
  | _ + 1, none, acc => acc
  | f + 1, some i, acc => if i ∈ acc then acc else way ns f (nx ns i) (acc ++ [i])
/-- every arrow leads to a thing -/
def Fine (ns : List (Option Int)) : Prop := ∀ i, some i ∈ ns → 0 ≤ i ∧ i < ns.length
def Thing (ns : List (Option Int)) (i : Int) : Prop := 0 ≤ i ∧ i < ns.length
theorem Fine.nx {ns : List (Option Int)} (h : Fine ns) {i j : Int} (e : nx ns i = some j) : Thing ns j := by
  unfold K01.nx at e
  cases q : ns[i.toNat]? with
  | none => rw [q] at e; cases e
  | some o =>
    rw [q] at e
    obtain rfl : o = some j := e
    exact h j (List.mem_of_getElem? q)
theorem nodup_le : ∀ (n : Nat) (l : List Int), l.Nodup → (∀ x ∈ l, 0 ≤ x ∧ x < (n : Nat)) → l.length ≤ n
  | 0, l, _, h => by
    cases l with
    | nil => exact Nat.le_refl _
    | cons a l => have := h a List.mem_cons_self; omega
  | n + 1, l, nd, h => by
    have := nodup_le n (l.erase (n : Nat)) (nd.erase _) (fun x hx => by
      have h1 := h x (List.mem_of_mem_erase hx)
      have h2 : x ≠ (n : Nat) := ((List.Nodup.mem_erase_iff nd).mp hx).1
      omega)
    have e := List.length_erase (a := ((n : Nat) : Int)) (l := l)
    split at e <;> omega
theorem way_none {ns : List (Option Int)} {f : Nat} {acc : List Int} : way ns f none acc = acc := by cases f <;> rfl
theorem way_mem {ns : List (Option Int)} {f : Nat} {i : Int} {acc : List Int} (h : i ∈ acc) : way ns f (some i) acc = acc := by
  cases f with
  | zero => rfl
  | succ f => rw [way, if_pos h]
theorem way_step {ns : List (Option Int)} {f : Nat} {i : Int} {acc : List Int} (h : i ∉ acc) : way ns (f + 1) (some i) acc = way ns f (nx ns i) (acc ++ [i]) := by rw [way, if_neg h]
/-- the state of a walk -/
structure Wst (ns : List (Option Int)) (i : Int) (o : Option Int) (acc : List Int) : Prop where
  nd : acc.Nodup
  th : ∀ x ∈ acc, Thing ns x
  ot : ∀ j, o = some j → Thing ns j
  lk : ∀ (k : Nat) (x : Int), acc[k]? = some x → (acc[k + 1]?).or o = nx ns x
  hd : acc.head? = some i ∨ (acc = [] ∧ o = some i)
theorem Wst.le {ns : List (Option Int)} {i : Int} {o : Option Int} {acc : List Int} (h : Wst ns i o acc) : acc.length ≤ ns.length := nodup_le _ _ h.nd h.th
theorem Wst.start {ns : List (Option Int)} {i : Int} (h : Thing ns i) : Wst ns i (some i) [] := ⟨List.nodup_nil, by simp, fun j e => by cases e; exact h, by simp, .inr ⟨rfl, rfl⟩⟩
theorem Wst.push {ns : List (Option Int)} {i j : Int} {acc : List Int} (F : Fine ns) (h : Wst ns i (some j) acc) (n : j ∉ acc) : Wst ns i (nx ns j) (acc ++ [j]) := by
  refine ⟨?_, ?_, fun x e => F.nx e, fun k x e => ?_, ?_⟩
  · rw [List.nodup_append]
    refine ⟨h.nd, by simp, ?_⟩
    intro a ha b hb
    obtain rfl := List.mem_singleton.mp hb
    exact fun z => n (z ▸ ha)
  · intro x hx
    rcases List.mem_append.mp hx with hx | hx
    · exact h.th x hx
    · obtain rfl := List.mem_singleton.mp hx; exact h.ot _ rfl
  · by_cases lt : k < acc.length
    · rw [List.getElem?_append_left lt] at e
      have h1 := h.lk k x e
      by_cases lt2 : k + 1 < acc.length
      · rw [List.getElem?_append_left lt2]
        rw [List.getElem?_eq_getElem lt2] at h1 ⊢
        exact h1
      · rw [List.getElem?_eq_none (by omega)] at h1
        rw [List.getElem?_append_right (by omega), show k + 1 - acc.length = 0 by omega]
        exact h1
    · have : k = acc.length := by
        have := (List.getElem?_eq_some_iff.mp e).1
        rw [List.length_append] at this
        simp at this; omega
      subst this
      rw [List.getElem?_append_right (Nat.le_refl _)] at e
      simp at e
      subst e
      rw [List.getElem?_eq_none (by simp)]
      rfl
  · left
    rcases h.hd with h1 | ⟨h1, h2⟩
    · rw [List.head?_append, h1]; rfl
    · subst h1; simpa using h2
/-- the way of a thing -/
def wayOf (ns : List (Option Int)) (i : Int) : List Int := way ns (ns.length + 1) (some i) []
/-- at its end -/
structure Wend (ns : List (Option Int)) (i : Int) (o : Option Int) (T : List Int) : Prop extends Wst ns i o T where
  en : ∀ j, o = some j → j ∈ T
theorem Wend.head {ns : List (Option Int)} {i : Int} {o : Option Int} {T : List Int} (h : Wend ns i o T) : T.head? = some i := by
  rcases h.hd with h1 | ⟨h1, h2⟩
  · exact h1
  · have := h.en i h2
    rw [h1] at this; cases this
theorem Wend.ne {ns : List (Option Int)} {i : Int} {o : Option Int} {T : List Int} (h : Wend ns i o T) : T ≠ [] := fun z => by
  have := h.head
  rw [z] at this; cases this
theorem way_ends {ns : List (Option Int)} {i : Int} (F : Fine ns) : ∀ (f : Nat) (o : Option Int) (acc : List Int), Wst ns i o acc → ns.length < f + acc.length → ∃ o', Wend ns i o' (way ns f o acc)
  | 0, o, acc, h, hf => by have := h.le; omega
  | f + 1, none, acc, h, hf => ⟨none, h, fun j e => by cases e⟩
  | f + 1, some j, acc, h, hf => by
    by_cases hj : j ∈ acc
    · rw [way_mem hj]
      exact ⟨some j, h, fun k e => by cases e; exact hj⟩
    · rw [way_step hj]
      exact way_ends F f _ _ (h.push F hj) (by rw [List.length_append]; simp; omega)
theorem wayOf_end {ns : List (Option Int)} {i : Int} (F : Fine ns) (t : Thing ns i) : ∃ o, Wend ns i o (wayOf ns i) := way_ends F _ _ _ (.start t) (by simp)
/-! ### rings -/
def ringW (T : List Int) : Option Int → List Int
  | none => []
  | some j => T.drop (T.idxOf j)
def ringOf (ns : List (Option Int)) (i : Int) : List Int := ringW (wayOf ns i) (nx ns ((wayOf ns i).getLast?.getD 0))
/-- so many steps on -/
def stp (ns : List (Option Int)) : Nat → Option Int → Option Int
  | 0, o => o
  | m + 1, o => stp ns m (o.bind (nx ns))
theorem stp_none {ns : List (Option Int)} : ∀ m, stp ns m none = none
  | 0 => rfl
  | m + 1 => by rw [stp]; exact stp_none m
theorem stp_succ {ns : List (Option Int)} : ∀ (m : Nat) (o : Option Int), stp ns (m + 1) o = (stp ns m o).bind (nx ns)
  | 0, o => rfl
  | m + 1, o => by rw [stp, stp_succ m, stp]
section
variable {ns : List (Option Int)} {i : Int} {o : Option Int} {T : List Int}
theorem stp_lt (h : Wend ns i o T) : ∀ m, m < T.length → stp ns m (some i) = T[m]?
  | 0, _ => by
    have := h.head
    cases T with
    | nil => cases this
    | cons a r =>
      obtain rfl : a = i := by simpa using this
      rfl
  | m + 1, hm => by
    have lt : m < T.length := by omega
    rw [stp_succ, stp_lt h m lt, List.getElem?_eq_getElem lt]
    have := h.lk m T[m] (List.getElem?_eq_getElem lt)
    rw [List.getElem?_eq_getElem hm] at this ⊢
    exact this.symm
theorem stp_len (h : Wend ns i o T) : stp ns T.length (some i) = o := by
  have l0 : 0 < T.length := List.length_pos_iff.mpr h.ne
  obtain ⟨m, hm⟩ : ∃ m, T.length = m + 1 := ⟨T.length - 1, by omega⟩
  have lt : m < T.length := by omega
  rw [hm, stp_succ, stp_lt h m lt, List.getElem?_eq_getElem lt]
  have := h.lk m T[m] (List.getElem?_eq_getElem lt)
  rw [List.getElem?_eq_none (by omega)] at this
  exact this.symm
theorem Wend.last (h : Wend ns i o T) : nx ns (T.getLast?.getD 0) = o := by
  have l0 : 0 < T.length := List.length_pos_iff.mpr h.ne
  have lt : T.length - 1 < T.length := by omega
  have := h.lk (T.length - 1) T[T.length - 1] (List.getElem?_eq_getElem lt)
  rw [List.getElem?_eq_none (by omega)] at this
  rw [List.getLast?_eq_getElem?, List.getElem?_eq_getElem lt]
  exact this.symm
theorem stp_add (ns : List (Option Int)) (a : Nat) : ∀ (b : Nat) (o : Option Int), stp ns (b + a) o = stp ns a (stp ns b o)
  | 0, o => by rw [Nat.zero_add]; rfl
  | b + 1, o => by rw [show b + 1 + a = (b + a) + 1 by omega, stp, stp_add ns a b, stp]
theorem stp_end (h : Wend ns i none T) (d : Nat) : stp ns (T.length + d) (some i) = none := by
  rw [stp_add, stp_len h, stp_none]
theorem stp_ring {j : Int} (h : Wend ns i (some j) T) : ∀ d, stp ns (T.length + d) (some i) = (T.drop (T.idxOf j))[d % (T.length - T.idxOf j)]?
  | 0 => by
    have lt : T.idxOf j < T.length := List.idxOf_lt_length_of_mem (h.en j rfl)
    rw [Nat.add_zero, stp_len h, Nat.zero_mod, List.getElem?_drop, Nat.add_zero, List.getElem?_eq_getElem lt, List.getElem_idxOf lt]
  | d + 1 => by
    have lt : T.idxOf j < T.length := List.idxOf_lt_length_of_mem (h.en j rfl)
    have ih := stp_ring h d
    rw [show T.length + (d + 1) = (T.length + d) + 1 by omega, stp_succ, ih, List.getElem?_drop, List.getElem?_drop]
    have r1 : d % (T.length - T.idxOf j) < T.length - T.idxOf j := Nat.mod_lt _ (by omega)
    have lt2 : T.idxOf j + d % (T.length - T.idxOf j) < T.length := by omega
    rw [List.getElem?_eq_getElem lt2]
    have e := h.lk _ _ (List.getElem?_eq_getElem lt2)
    show nx ns _ = _
    rw [← e]
    by_cases c : d % (T.length - T.idxOf j) + 1 = T.length - T.idxOf j
    · have m0 : (d + 1) % (T.length - T.idxOf j) = 0 := by rw [Nat.add_mod, ]; rw [← Nat.add_mod, ← Nat.mod_add_mod, c, Nat.mod_self]
      rw [m0, List.getElem?_eq_none (by omega)]
      rw [Nat.add_zero, List.getElem?_eq_getElem lt, List.getElem_idxOf lt]
      rfl
    · have m1 : (d + 1) % (T.length - T.idxOf j) = d % (T.length - T.idxOf j) + 1 := by rw [← Nat.mod_add_mod, Nat.mod_eq_of_lt (by omega)]
      have lt3 : T.idxOf j + d % (T.length - T.idxOf j) + 1 < T.length := by omega
      rw [m1, ← Nat.add_assoc, List.getElem?_eq_getElem lt3]
      rfl
theorem ring_eq (h : Wend ns i o (wayOf ns i)) : ringOf ns i = ringW (wayOf ns i) o := by
  unfold ringOf
  rw [h.last]
/-- what stepped tells: behind m steps -/
theorem stepped_eq (h : Wend ns i o (wayOf ns i)) (m : Nat) : stp ns m (some i) =
    if m < (wayOf ns i).length then (wayOf ns i)[m]? else if ringOf ns i = [] then none else (ringOf ns i)[(m - (wayOf ns i).length) % (ringOf ns i).length]? := by
  by_cases c : m < (wayOf ns i).length
  · rw [if_pos c, stp_lt h m c]
  rw [if_neg c, ring_eq h]
  cases o with
  | none =>
    rw [if_pos (show ringW (wayOf ns i) none = [] from rfl)]
    have := stp_end h (m - (wayOf ns i).length)
    rw [show (wayOf ns i).length + (m - (wayOf ns i).length) = m by omega] at this
    exact this
  | some j =>
    have lt : (wayOf ns i).idxOf j < (wayOf ns i).length := List.idxOf_lt_length_of_mem (h.en j rfl)
    have e : ringW (wayOf ns i) (some j) = (wayOf ns i).drop ((wayOf ns i).idxOf j) := rfl
    rw [e, if_neg (fun z => by have := congrArg List.length z; rw [List.length_drop] at this; simp at this; omega), List.length_drop]
    have := stp_ring h (m - (wayOf ns i).length)
    rw [show (wayOf ns i).length + (m - (wayOf ns i).length) = m by omega] at this
    exact this
/-- the thing stands on its own ring when the ring begins with it -/
theorem ring_mem (h : Wend ns i o (wayOf ns i)) : i ∈ ringOf ns i ↔ (ringOf ns i).head? = some i := by
  rw [ring_eq h]
  cases o with
  | none => simp [ringW]
  | some j =>
    have hd := h.head
    have nd := h.nd
    clear h
    generalize wayOf ns i = T at hd nd
    unfold ringW
    cases T with
    | nil => cases hd
    | cons a r =>
      obtain rfl : a = i := by simpa using hd
      show a ∈ (a :: r).drop ((a :: r).idxOf j) ↔ ((a :: r).drop ((a :: r).idxOf j)).head? = some a
      generalize (a :: r).idxOf j = k
      cases k with
      | zero => simp
      | succ k =>
        have na : a ∉ r := (List.nodup_cons.mp nd).1
        have : a ∉ r.drop k := fun z => na (List.mem_of_mem_drop z)
        constructor
        · intro z; exact absurd z this
        · intro z; exact absurd (List.mem_of_mem_head? z) this
/-- far ahead -/
theorem far_eq {R L few : Nat} {t : Nat} (h0 : 0 < R) (h7 : R ≤ 7) (hL : L ≤ 840) : (840 * (10 ^ 20 + t) + few - L) % R = (840 + few - L) % R := by
  have e : 840 * (10 ^ 20 + t) + few - L = (840 + few - L) + 840 * (10 ^ 20 + t - 1) := by omega
  have d : R ∣ 840 := by
    rcases (show R = 1 ∨ R = 2 ∨ R = 3 ∨ R = 4 ∨ R = 5 ∨ R = 6 ∨ R = 7 by omega) with r | r | r | r | r | r | r <;> subst r <;> decide
  obtain ⟨c, hc⟩ := d
  rw [e, hc, Nat.mul_assoc, Nat.add_mul_mod_self_left]
end
end K01
set_option maxRecDepth 100000
set_option autoImplicit false
set_option maxHeartbeats 1000000
/-! Pz0: plain programs: values, the store, what stands for what. -/
namespace Pz
open PySem PySem.Spec PyProof.Rows
open L2 Hk
/-! ### a list that is not written any more -/
section
variable {X : Cx}
theorem inv_frz {pins : List (Addr × Obj)} {σ : L2.St} {H : Hp} {s : Shared} {p : Addr} {xs : List V} (I : Inv X pins σ H s) (h : H p = some (.lst xs)) : ∃ o, Inv X pins σ (upd H p (.frz o (.lst xs))) s := by
  obtain ⟨hz, its, n, rv, e⟩ := I.hok p _ h
  have ne : ∀ b, H b = none → b ≠ p := fun b z e => by rw [e, h] at z; cases z
  refine ⟨{ cls := .type "list", data := .seq its.toArray n }, ⟨I.ok, I.os, I.bare, ⟨I.base.keep, I.base.slot, fun b o e n hx => ?_, I.base.there, fun b ys q => ?_, fun b o u q => ?_, fun b ps q => ?_⟩, I.loc, I.cell, ?_, fun x c e => ?_, fun q hq => ?_, fun b u q => ?_, I.len⟩⟩
  · have z := I.base.free b o e n hx
    rw [upd_ne (ne b z)]; exact z
  · have z := I.base.tups b ys q
    rw [upd_ne (ne_of z h (by intro w; cases w))]; exact z
  · have z := I.base.frzs b o u q
    rw [upd_ne (ne_of z h (by intro w; cases w))]; exact z
  · obtain ⟨more, z⟩ := I.base.tbls b ps q
    exact ⟨more, by rw [upd_ne (ne_of z h (by intro w; cases w))]; exact z⟩
  · rw [upd_ne (ne _ I.free)]; exact I.free
  · rw [upd_ne (ne _ (I.freeC x c e))]; exact I.freeC x c e
  · obtain ⟨h1, h2, h3, h4, h5⟩ := I.pin q hq
    exact ⟨h1, by rw [upd_ne (ne _ h2)]; exact h2, h3, h4, h5⟩
  · by_cases hb : b = p
    · subst hb
      rw [upd_same] at q
      cases q
      exact ⟨e, hz, its, n, rv, e⟩
    · rw [upd_ne hb] at q
      exact (I.hok b u q).stay (fun _ _ _ r => r) (fun c r => by rw [upd_ne (ne_of r h (by intro w; cases w))]; exact r) fun c ys r => by rw [upd_ne (ne_of r h (by intro w; cases w))]; exact r
/-- the value, or the list that it is, from now on only read -/
def Fz (Q : VK) : VK := fun v H => Q v H ∨ ∃ p xs, v = .ref p ∧ H p = some (.lst xs) ∧ ∀ o, Q v (upd H p (.frz o (.lst xs)))
def tFz (t : TE) : TE := fun σ H Q => t σ H (Fz Q)
theorem pe_fz {e : Expr} {t : TE} (h : PE X e t) : PE X e (tFz t) := ⟨fun pins s σ H Q I q => thn (h.run pins s σ H _ I q) fun u s' ⟨v, H', I', r, z⟩ => by
  rcases z with z | ⟨p, xs, rfl, hp, z⟩
  · exact ⟨v, H', I', r, z⟩
  · obtain ⟨o, I2⟩ := inv_frz I' hp
    exact ⟨_, _, I2, r, z o⟩⟩
/-- the list in a slot, from now on only read -/
def tFzS (i : Nat) (t : TS) : TS := fun D σ H => ∃ p xs, σ[i]? = some (some (.ref p)) ∧ H p = some (.lst xs) ∧ ∀ o, t D σ (upd H p (.frz o (.lst xs)))
theorem pss_fz {i : Nat} {st : List Stmt} {t : TS} (h : PSs X st t) : PSs X st (tFzS i t) := ⟨fun pins s σ H D I ⟨p, xs, _, hp, q⟩ => by
  obtain ⟨o, I2⟩ := inv_frz I hp
  exact h.run pins s σ _ D I2 (q o)⟩
end
/-! ### values -/
/-- a value of a plain program: data, an object of the store, a def -/
inductive AV where
  | d (x : PyData) | ref (a : Nat) | fn (f : Str)
instance : Inhabited AV := ⟨.d .none⟩
/-- an object of the store -/
inductive Cell where
  | lst (xs : List AV)
abbrev Store := List Cell
/-- what a name holds: a value; a list or dict of its own, that may be changed -/
inductive Sl where
  | v (x : AV) | lst (xs : List PyData) | dic (kvs : List (Key × PyData))
abbrev Env := List (Option Sl)
def Sl.owned : Sl → Bool
  | .v _ => false
  | _ => true
/-- an exception: its class, its fields -/
structure Exc where
  cls : Str
  flds : List (Str × PyData)
inductive Out (α : Type) where
  | ok (a : α) (s : Store) | exc (e : Exc) (s : Store) | stk
def Out.bind {α β : Type} : Out α → (α → Store → Out β) → Out β
  | .ok a s, f => f a s
  | .exc e s, _ => .exc e s
  | .stk, _ => .stk
@[simp] theorem bind_ok {α β : Type} (a : α) (s : Store) (f : α → Store → Out β) : (Out.ok a s).bind f = f a s := rfl
@[simp] theorem bind_exc {α β : Type} (e : Exc) (s : Store) (f : α → Store → Out β) : (Out.exc e s : Out α).bind f = .exc e s := rfl
@[simp] theorem bind_stk {α β : Type} (f : α → Store → Out β) : (Out.stk : Out α).bind f = .stk := rfl
def Out.nox {α : Type} : Out α → Out α
  | .ok a s => .ok a s
  | _ => .stk
@[simp] theorem nox_ok {α : Type} (a : α) (s : Store) : (Out.ok a s).nox = .ok a s := rfl
abbrev ME := Env → Store → Out AV
abbrev MT := Env → Store → Out Bool
abbrev MA := Env → Store → Out (List AV)
inductive Fl where
  | nx (ρ : Env) | rt (v : AV) | bk (ρ : Env) | ct (ρ : Env)
abbrev MS := Env → Store → Out Fl
/-- a def -/
abbrev Fn := List AV → Store → Out AV
/-! ### what stands for what -/
/-- a list that stays -/
def SqF (K : PySem.W.Frag) (H : Hp) (a : Addr) (xs : List V) : Prop := ∃ o, H a = some (.frz o (.lst xs))
theorem SqF.rd {K : PySem.W.Frag} {H : Hp} {a : Addr} {xs : List V} (h : SqF K H a xs) : Rd H a (.lst xs) := .inr h
theorem SqF.sq {K : PySem.W.Frag} {H : Hp} {a : Addr} {xs : List V} (h : SqF K H a xs) : SqL K H a xs := .inl h.rd
theorem SqF.kt {K : PySem.W.Frag} {H H' : Hp} {a : Addr} {xs : List V} (k : KeepT H H') (h : SqF K H a xs) : SqF K H' a xs := by
  obtain ⟨o, h⟩ := h
  exact ⟨o, k.2 _ _ _ h⟩
mutual
inductive RD (K : PySem.W.Frag) (H : Hp) : V → PyData → Prop
  | non : RD K H .non .none
  | bl (b : Bool) : RD K H (.bl b) (.bool b)
  | int (i : Int) : RD K H (.int i) (.int i)
  | str (x : Str) : RD K H (.str x) (.str x)
  | lst {a : Addr} {xs : List V} {ds : List PyData} : SqF K H a xs → RDs K H xs ds → RD K H (.ref a) (.list ds)
  | tup {a : Addr} {xs : List V} {ds : List PyData} : SqT K H a xs → RDs K H xs ds → RD K H (.ref a) (.tuple ds)
inductive RDs (K : PySem.W.Frag) (H : Hp) : List V → List PyData → Prop
  | nil : RDs K H [] []
  | cons {v : V} {vs : List V} {d : PyData} {ds : List PyData} : RD K H v d → RDs K H vs ds → RDs K H (v :: vs) (d :: ds)
end
section
variable {K : PySem.W.Frag} {H H' : Hp}
mutual
theorem RD.kt (k : KeepT H H') : ∀ {v : V} {d : PyData}, RD K H v d → RD K H' v d
  | _, _, .non => .non
  | _, _, .bl b => .bl b
  | _, _, .int i => .int i
  | _, _, .str x => .str x
  | _, _, .lst h r => .lst (h.kt k) (RDs.kt k r)
  | _, _, .tup h r => .tup (SqT.kt k h) (RDs.kt k r)
theorem RDs.kt (k : KeepT H H') : ∀ {vs : List V} {ds : List PyData}, RDs K H vs ds → RDs K H' vs ds
  | _, _, .nil => .nil
  | _, _, .cons h r => .cons (RD.kt k h) (RDs.kt k r)
end
mutual
theorem RD.dp : ∀ {v : V} {d : PyData}, RD K H v d → Dp K H v d
  | _, _, .non => .non
  | _, _, .bl b => .bl b
  | _, _, .int i => .int i
  | _, _, .str x => .str x
  | _, _, .lst h r => .lst h.sq (RDs.dp r)
  | _, _, .tup h r => .tup h (RDs.dp r)
theorem RDs.dp : ∀ {vs : List V} {ds : List PyData}, RDs K H vs ds → DpAll K H vs ds
  | _, _, .nil => .nil
  | _, _, .cons h r => .cons (RD.dp h) (RDs.dp r)
end
theorem RDs.len : ∀ {vs : List V} {ds : List PyData}, RDs K H vs ds → vs.length = ds.length
  | _, _, .nil => rfl
  | _, _, .cons _ r => congrArg (· + 1) (RDs.len r)
theorem RDs.app : ∀ {vs ws : List V} {ds es : List PyData}, RDs K H vs ds → RDs K H ws es → RDs K H (vs ++ ws) (ds ++ es)
  | _, _, _, _, .nil, q => q
  | _, _, _, _, .cons h r, q => .cons h (RDs.app r q)
theorem RDs.one {v : V} {d : PyData} (h : RD K H v d) : RDs K H [v] [d] := .cons h .nil
theorem RDs.get' : ∀ {vs : List V} {ds : List PyData} {i : Nat} {d : PyData}, RDs K H vs ds → ds[i]? = some d → ∃ v, vs[i]? = some v ∧ RD K H v d
  | _, _, i, _, .nil, e => by simp at e
  | _, _, 0, _, .cons h _, e => by obtain rfl := Option.some.inj (by simpa using e); exact ⟨_, rfl, h⟩
  | _, _, i + 1, _, .cons _ r, e => by obtain ⟨v, h1, h2⟩ := RDs.get' (i := i) r (by simpa using e); exact ⟨v, by simpa using h1, h2⟩
theorem RDs.get : ∀ {vs : List V} {ds : List PyData} {i : Nat} {v : V}, RDs K H vs ds → vs[i]? = some v → ∃ d, ds[i]? = some d ∧ RD K H v d
  | _, _, i, _, .nil, e => by simp at e
  | _, _, 0, _, .cons h _, e => by obtain rfl := Option.some.inj (by simpa using e); exact ⟨_, rfl, h⟩
  | _, _, i + 1, _, .cons _ r, e => by obtain ⟨v, h1, h2⟩ := RDs.get (i := i) r (by simpa using e); exact ⟨v, by simpa using h1, h2⟩
theorem RDs.drop : ∀ {vs : List V} {ds : List PyData} (n : Nat), RDs K H vs ds → RDs K H (vs.drop n) (ds.drop n)
  | _, _, 0, r => r
  | _, _, _ + 1, .nil => .nil
  | _, _, n + 1, .cons _ r => RDs.drop n r
theorem RDs.take : ∀ {vs : List V} {ds : List PyData} (n : Nat), RDs K H vs ds → RDs K H (vs.take n) (ds.take n)
  | _, _, 0, _ => .nil
  | _, _, _ + 1, .nil => .nil
  | _, _, n + 1, .cons h r => .cons h (RDs.take n r)
theorem RDs.ints : ∀ ns : List Int, RDs K H (ns.map V.int) (ns.map PyData.int)
  | [] => .nil
  | n :: ns => .cons (.int n) (RDs.ints ns)
theorem RDs.set {w : V} {e : PyData} (q : RD K H w e) : ∀ {vs : List V} {ds : List PyData} (i : Nat), RDs K H vs ds → RDs K H (vs.set i w) (ds.set i e)
  | _, _, _, .nil => .nil
  | _, _, 0, .cons _ r => .cons q r
  | _, _, i + 1, .cons h r => .cons h (RDs.set q i r)
theorem RDs.insert {w : V} {e : PyData} (q : RD K H w e) : ∀ {vs : List V} {ds : List PyData} (i : Nat), RDs K H vs ds → RDs K H (vs.take i ++ w :: vs.drop i) (ds.take i ++ e :: ds.drop i) := fun i r => (r.take i).app (.cons q (r.drop i))
theorem RDs.rev : ∀ {vs : List V} {ds : List PyData}, RDs K H vs ds → RDs K H vs.reverse ds.reverse
  | _, _, .nil => .nil
  | _, _, .cons h r => by rw [List.reverse_cons, List.reverse_cons]; exact (RDs.rev r).app (.one h)
theorem RDs.rep {v : V} {d : PyData} (h : RD K H v d) : ∀ n, RDs K H (List.replicate n v) (List.replicate n d)
  | 0 => .nil
  | n + 1 => by rw [List.replicate_succ, List.replicate_succ]; exact .cons h (RDs.rep h n)
end
/-! ### the whole -/
/-- what is fixed for a whole run -/
structure Cn where
  K : PySem.W.Frag
  mg : Str → Option Value
  T : List (Addr × Str)
inductive RV (C : Cn) (μ : List Addr) (H : Hp) : V → AV → Prop
  | d {v : V} {x : PyData} (h : RD C.K H v x) : RV C μ H v (.d x)
  | ref {p : Addr} {a : Nat} (h : μ[a]? = some p) : RV C μ H (.ref p) (.ref a)
  | fn {p : Addr} {f : Str} (h : C.mg f = some (.ref p)) : RV C μ H (.ref p) (.fn f)
inductive RVs (C : Cn) (μ : List Addr) (H : Hp) : List V → List AV → Prop
  | nil : RVs C μ H [] []
  | cons {v : V} {vs : List V} {x : AV} {xs : List AV} : RV C μ H v x → RVs C μ H vs xs → RVs C μ H (v :: vs) (x :: xs)
section
variable {C : Cn} {μ μ' : List Addr} {H H' : Hp}
theorem pre_get {a : Nat} {p : Addr} (q : μ <+: μ') (h : μ[a]? = some p) : μ'[a]? = some p := by
  obtain ⟨t, rfl⟩ := q
  obtain ⟨lt, _⟩ := List.getElem?_eq_some_iff.mp h
  rw [List.getElem?_append_left lt]; exact h
theorem RV.kt {v : V} {x : AV} (k : KeepT H H') (q : μ <+: μ') (h : RV C μ H v x) : RV C μ' H' v x := by
  cases h with
  | d h => exact .d (h.kt k)
  | ref h => exact .ref (pre_get q h)
  | fn h => exact .fn h
theorem RVs.kt (k : KeepT H H') (q : μ <+: μ') : ∀ {vs : List V} {xs : List AV}, RVs C μ H vs xs → RVs C μ' H' vs xs
  | _, _, .nil => .nil
  | _, _, .cons h r => .cons (h.kt k q) (RVs.kt k q r)
theorem RVs.len : ∀ {vs : List V} {xs : List AV}, RVs C μ H vs xs → vs.length = xs.length
  | _, _, .nil => rfl
  | _, _, .cons _ r => congrArg (· + 1) (RVs.len r)
theorem RVs.get' : ∀ {vs : List V} {xs : List AV} {i : Nat} {x : AV}, RVs C μ H vs xs → xs[i]? = some x → ∃ v, vs[i]? = some v ∧ RV C μ H v x
  | _, _, i, _, .nil, e => by simp at e
  | _, _, 0, _, .cons h _, e => by obtain rfl := Option.some.inj (by simpa using e); exact ⟨_, rfl, h⟩
  | _, _, i + 1, _, .cons _ r, e => by obtain ⟨v, h1, h2⟩ := RVs.get' (i := i) r (by simpa using e); exact ⟨v, by simpa using h1, h2⟩
theorem RVs.set {w : V} {e : AV} (q : RV C μ H w e) : ∀ {vs : List V} {ds : List AV} (i : Nat), RVs C μ H vs ds → RVs C μ H (vs.set i w) (ds.set i e)
  | _, _, _, .nil => .nil
  | _, _, 0, .cons _ r => .cons q r
  | _, _, i + 1, .cons h r => .cons h (RVs.set q i r)
theorem RVs.app : ∀ {vs ws : List V} {ds es : List AV}, RVs C μ H vs ds → RVs C μ H ws es → RVs C μ H (vs ++ ws) (ds ++ es)
  | _, _, _, _, .nil, q => q
  | _, _, _, _, .cons h r, q => .cons h (RVs.app r q)
theorem RDs.vs : ∀ {vs : List V} {ds : List PyData}, RDs C.K H vs ds → RVs C μ H vs (ds.map AV.d)
  | _, _, .nil => .nil
  | _, _, .cons h r => .cons (.d h) (RDs.vs r)
theorem RVs.ds : ∀ {vs : List V} {ds : List PyData}, RVs C μ H vs (ds.map AV.d) → RDs C.K H vs ds
  | _, [], .nil => .nil
  | _, _ :: _, .cons (.d h) r => .cons h (RVs.ds r)
end
/-- data of values, where all are data -/
def datas : List AV → Option (List PyData)
  | [] => some []
  | .d x :: r => (datas r).map (x :: ·)
  | _ => none
theorem datas_eq : ∀ {xs : List AV} {ds : List PyData}, datas xs = some ds → xs = ds.map AV.d
  | [], ds, e => by cases e; rfl
  | .d x :: r, ds, e => by
    unfold datas at e
    cases q : datas r with
    | none => rw [q] at e; cases e
    | some es => rw [q] at e; cases e; rw [datas_eq q]; rfl
  | .ref _ :: r, ds, e => by cases e
  | .fn _ :: r, ds, e => by cases e
@[simp] theorem datas_map (ds : List PyData) : datas (ds.map AV.d) = some ds := by
  induction ds with
  | nil => rfl
  | cons d r ih => show (datas (r.map AV.d)).map (d :: ·) = _; rw [ih]; rfl
/-- a cell at an address -/
def CellR (C : Cn) (μ : List Addr) (H : Hp) (p : Addr) : Cell → Prop
  | .lst xs => ∃ vs, H p = some (.lst vs) ∧ RVs C μ H vs xs
structure StoR (C : Cn) (μ : List Addr) (H : Hp) (s : Store) : Prop where
  len : μ.length = s.length
  nd : μ.Nodup
  at_ : ∀ (a : Nat) (c : Cell), s[a]? = some c → ∃ p, μ[a]? = some p ∧ CellR C μ H p c
/-- nothing stands there (but a code object's table) -/
def Free (H : Hp) (p : Addr) : Prop := ∀ o, H p = some o → ∃ ps, o = .tbl ps
theorem Free.of {H : Hp} {p : Addr} (h : H p = none) : Free H p := fun o e => by rw [h] at e; cases e
theorem Free.not {H : Hp} {p : Addr} {o : HO} (h : Free H p) (e : H p = some o) (n : ∀ ps, o ≠ .tbl ps) : False := by
  obtain ⟨ps, z⟩ := h o e
  exact n ps z
theorem Free.ne {H : Hp} {p q : Addr} {o : HO} (h : Free H p) (e : H q = some o) (n : ∀ ps, o ≠ .tbl ps) : q ≠ p := fun z => by
  subst z
  exact h.not e n
/-- from one heap and store to a later one: what is no object of the store stays -/
structure Stp (μ : List Addr) (H : Hp) (μ' : List Addr) (H' : Hp) : Prop where
  keep : ∀ p o, H p = some o → p ∉ μ → (∀ ps, o ≠ .tbl ps) → H' p = some o
  there : ∀ p, Free H' p → Free H p
  kt : KeepT H H'
  pre : μ <+: μ'
  fresh : ∀ p, p ∈ μ' → p ∈ μ ∨ Free H p
theorem Stp.refl (μ : List Addr) (H : Hp) : Stp μ H μ H where
  keep := fun _ _ e _ _ => e
  there := fun _ e => e
  kt := .refl _
  pre := List.prefix_refl _
  fresh := fun _ m => .inl m
theorem Stp.trans {μ μ1 μ2 : List Addr} {H H1 H2 : Hp} (a : Stp μ H μ1 H1) (b : Stp μ1 H1 μ2 H2) : Stp μ H μ2 H2 where
  keep := fun p o e n t => by
    refine b.keep p o (a.keep p o e n t) (fun m => ?_) t
    rcases a.fresh p m with m | m
    · exact n m
    · exact m.not e t
  there := fun p e => a.there p (b.there p e)
  kt := a.kt.trans b.kt
  pre := a.pre.trans b.pre
  fresh := fun p m => by
    rcases b.fresh p m with m | m
    · exact a.fresh p m
    · exact .inr (a.there p m)
theorem Stp.same {μ : List Addr} {H H' : Hp} (k : Same H H') : Stp μ H μ H' where
  keep := fun p o e _ _ => k p o e
  there := fun p e o q => e o (k p o q)
  kt := Same.kt k
  pre := List.prefix_refl _
  fresh := fun _ m => .inl m
theorem Stp.ext {μ : List Addr} {H H' : Hp} (k : LamX.ExtN H H') : Stp μ H μ H' where
  keep := fun p o e _ t => k p o e t
  there := fun p e o q => Classical.byContradiction fun n => n (e o (k p o q (fun ps z => n ⟨ps, z⟩)))
  kt := extN_kt k
  pre := List.prefix_refl _
  fresh := fun _ m => .inl m
/-- what is new is written -/
theorem Stp.upd {μ μ1 : List Addr} {H H1 : Hp} (a : Stp μ H μ1 H1) {p : Addr} {o : HO} (n : Free H p) (nt : ∀ ps, o ≠ .tbl ps) (k : KeepT H1 (L2.upd H1 p o)) : Stp μ H μ1 (L2.upd H1 p o) where
  keep := fun q ob e m t => by rw [upd_ne (n.ne e t)]; exact a.keep q ob e m t
  there := fun q e => by
    by_cases z : q = p
    · rw [z]; exact n
    · exact a.there q (fun ob e1 => e ob (by rw [upd_ne z]; exact e1))
  kt := a.kt.trans k
  pre := a.pre
  fresh := a.fresh
/-- the code objects' tables do not change -/
theorem tabs_upd {T : List (Addr × Str)} {H : Hp} {p : Addr} {o o' : HO} (t : LamX.Tabs T H) (e : H p = some o) (n1 : ∀ ps, o ≠ .tbl ps) (n2 : ∀ φ, o ≠ .ext φ) : LamX.Tabs T (L2.upd H p o') := by
  intro q hq
  obtain ⟨ps, h1, h2, h3⟩ := t q hq
  have ne : q.1 ≠ p := fun z => by rw [z, e] at h1; exact n1 ps (Option.some.inj h1)
  refine ⟨ps, by rw [upd_ne ne]; exact h1, h2, fun pos cv hc => ?_⟩
  obtain ⟨c, e1, e2⟩ := h3 pos cv hc
  exact ⟨c, e1, by rw [upd_ne (fun z => by rw [z, e] at e2; exact n2 _ (Option.some.inj e2))]; exact e2⟩
/-- from the begin of a frame (H₀, μ₀) to now -/
structure FR (C : Cn) (H₀ : Hp) (μ₀ μ : List Addr) (H : Hp) (s : Store) : Prop where
  sto : StoR C μ H s
  stp : Stp μ₀ H₀ μ H
  tab : LamX.Tabs C.T H
def KV (K : PySem.W.Frag) (H : Hp) : List (Key × V) → List (Key × PyData) → Prop := Paired fun p q => p.1 = q.1 ∧ RD K H p.2 q.2
def SlR (C : Cn) (μ : List Addr) (H : Hp) (v : V) : Sl → Prop
  | .v x => RV C μ H v x
  | .lst xs => ∃ p vs, v = .ref p ∧ H p = some (.lst vs) ∧ RDs C.K H vs xs
  | .dic kvs => ∃ p ws, v = .ref p ∧ H p = some (.dK ws) ∧ KV C.K H ws kvs
structure ER (C : Cn) (H₀ : Hp) (μ : List Addr) (H : Hp) (σ : L2.St) (ρ : Env) : Prop where
  len : σ.length = ρ.length
  env : ∀ (i : Nat) (sl : Sl), ρ[i]? = some (some sl) → ∃ v, σ[i]? = some (some v) ∧ SlR C μ H v sl
  own : ∀ (i : Nat) (sl : Sl) (p : Addr), ρ[i]? = some (some sl) → sl.owned = true → σ[i]? = some (some (.ref p)) → Free H₀ p ∧ p ∉ μ
  dis : ∀ (i j : Nat) (sl sl' : Sl) (p : Addr), ρ[i]? = some (some sl) → ρ[j]? = some (some sl') → sl.owned = true → sl'.owned = true → σ[i]? = some (some (.ref p)) → σ[j]? = some (some (.ref p)) → i = j
structure SR (C : Cn) (H₀ : Hp) (μ₀ μ : List Addr) (H : Hp) (σ : L2.St) (ρ : Env) (s : Store) : Prop where
  fr : FR C H₀ μ₀ μ H s
  er : ER C H₀ μ H σ ρ
/-- an exception -/
def ExcR (C : Cn) (H : Hp) (c : Value) (dd : Option Addr) (e : Exc) : Prop :=
  ∃ p, c = .ref p ∧ C.mg e.cls = some (.ref p) ∧ ((e.flds = [] ∧ dd = none) ∨ ∃ d fs, dd = some d ∧ H d = some (.xd fs) ∧ Paired (fun (x : Str × V) (y : Str × PyData) => x.1 = y.1 ∧ RD C.K H x.2 y.2) fs e.flds)
end Pz
set_option maxRecDepth 100000
set_option autoImplicit false
set_option maxHeartbeats 1000000
/-! Pz1: expressions of plain programs. -/
namespace Pz
open PySem PySem.Spec PyProof.Rows
open L2 Hk
section
variable {C : Cn} {H₀ : Hp} {μ₀ μ μ' : List Addr} {H H' : Hp} {σ : L2.St} {ρ : Env} {s : Store}
theorem Same.kt' (h : Same H H') : KeepT H H' := Same.kt h
theorem CellR.same {p : Addr} {c : Cell} (h : CellR C μ H p c) (k : Same H H') : CellR C μ H' p c := by
  cases c with
  | lst xs => obtain ⟨vs, e, r⟩ := h; exact ⟨vs, k _ _ e, r.kt (Same.kt k) (List.prefix_refl _)⟩
theorem StoR.same (h : StoR C μ H s) (k : Same H H') : StoR C μ H' s := ⟨h.len, h.nd, fun a c e => by
  obtain ⟨p, e1, e2⟩ := h.at_ a c e
  exact ⟨p, e1, e2.same k⟩⟩
theorem FR.same (h : FR C H₀ μ₀ μ H s) (k : Same H H') : FR C H₀ μ₀ μ H' s := ⟨h.sto.same k, h.stp.trans (Stp.same k), tabs_same h.tab k⟩
theorem FR.refl (h : StoR C μ H s) (t : LamX.Tabs C.T H) : FR C H μ μ H s := ⟨h, .refl _ _, t⟩
theorem KV.same {K : PySem.W.Frag} {ws : List (Key × V)} {kvs : List (Key × PyData)} (h : KV K H ws kvs) (k : KeepT H H') : KV K H' ws kvs := Paired.mapP h fun _ _ ⟨e, r⟩ => ⟨e, r.kt k⟩
/-- what is owned is left alone -/
theorem SlR.same {v : V} {sl : Sl} (h : SlR C μ H v sl) (k : Same H H') : SlR C μ H' v sl := by
  cases sl with
  | v x => exact RV.kt (Same.kt k) (List.prefix_refl _) h
  | lst xs => obtain ⟨p, vs, rfl, e, r⟩ := h; exact ⟨p, vs, rfl, k _ _ e, r.kt (Same.kt k)⟩
  | dic kvs => obtain ⟨p, ws, rfl, e, r⟩ := h; exact ⟨p, ws, rfl, k _ _ e, KV.same r (Same.kt k)⟩
theorem ER.same (h : ER C H₀ μ H σ ρ) (k : Same H H') : ER C H₀ μ H' σ ρ := ⟨h.len, fun i sl e => by
  obtain ⟨v, e1, e2⟩ := h.env i sl e
  exact ⟨v, e1, e2.same k⟩, h.own, h.dis⟩
theorem SR.same (h : SR C H₀ μ₀ μ H σ ρ s) (k : Same H H') : SR C H₀ μ₀ μ H' σ ρ s := ⟨h.fr.same k, h.er.same k⟩
theorem StoR.there (h : StoR C μ H s) {p : Addr} (m : p ∈ μ) : ∃ o, H p = some o := by
  obtain ⟨a, lt, e⟩ := List.getElem_of_mem m
  have l2 : a < s.length := by rw [← h.len]; exact lt
  obtain ⟨q, e1, e2⟩ := h.at_ a s[a] (List.getElem?_eq_getElem l2)
  rw [List.getElem?_eq_getElem lt, e] at e1
  cases e1
  revert e2
  cases s[a] with
  | lst xs => rintro ⟨vs, e, _⟩; exact ⟨_, e⟩
theorem pre_sub {p : Addr} (h : μ <+: μ') (m : p ∈ μ) : p ∈ μ' := by
  obtain ⟨t, rfl⟩ := h
  exact List.mem_append_left _ m
/-- a free place is new to all -/
theorem FR.new (h : FR C H₀ μ₀ μ H s) {p : Addr} (n : H p = none) : Free H₀ p ∧ p ∉ μ := ⟨h.stp.there p (.of n), fun m => by
  obtain ⟨o, e⟩ := h.sto.there m
  rw [n] at e; cases e⟩
theorem SlR.there {v : V} {sl : Sl} (h : SlR C μ H v sl) (o : sl.owned = true) : ∃ p ob, v = .ref p ∧ H p = some ob ∧ ∀ ps, ob ≠ .tbl ps := by
  cases sl with
  | v x => cases o
  | lst xs => obtain ⟨p, vs, rfl, e, _⟩ := h; exact ⟨p, _, rfl, e, fun _ z => by cases z⟩
  | dic kvs => obtain ⟨p, ws, rfl, e, _⟩ := h; exact ⟨p, _, rfl, e, fun _ z => by cases z⟩
theorem ER.new (h : ER C H₀ μ H σ ρ) {p : Addr} (n : H p = none) {i : Nat} {sl : Sl} (e : ρ[i]? = some (some sl)) (o : sl.owned = true) : σ[i]? ≠ some (some (.ref p)) := fun z => by
  obtain ⟨v, e1, e2⟩ := h.env i sl e
  rw [z] at e1
  cases e1
  obtain ⟨q, ob, e3, e4, _⟩ := e2.there o
  cases e3
  rw [n] at e4; cases e4
end
/-! ### judgements -/
/-- a result's relation may look at the frame, the heap ahead, the names, the store, the heap -/
abbrev Rel (α β : Type) := Hp → Hp → L2.St → Env → List Addr → Hp → α → β → Prop
def ExE (C : Cn) (H₀ : Hp) (μ₀ : List Addr) (e : Exc) (s : Store) (E : XK) : Prop := ∀ c dd H' μ', FR C H₀ μ₀ μ' H' s → ExcR C H' c dd e → E c dd H'
def ExP (C : Cn) (H₀ : Hp) (μ₀ μ : List Addr) (H : Hp) (e : Exc) (s : Store) (E : XK) : Prop := ∀ c dd H' μ', Stp μ H μ' H' → FR C H₀ μ₀ μ' H' s → ExcR C H' c dd e → E c dd H'
def Post (C : Cn) {α β : Type} (R : Rel α β) (H₀ : Hp) (μ₀ : List Addr) (σ : L2.St) (ρ : Env) (μ : List Addr) (H : Hp) (E : XK) (Q : α → Hp → Prop) : Out β → Prop
  | .ok v s' => ∀ x H' μ', Stp μ H μ' H' → SR C H₀ μ₀ μ' H' σ ρ s' → R H₀ H σ ρ μ' H' x v → Q x H'
  | .exc e s' => ExP C H₀ μ₀ μ H e s' E
  | .stk => False
def SG (C : Cn) {α β : Type} (R : Rel α β) (E : XK) (t : L2.St → Hp → (α → Hp → Prop) → Prop) (m : Env → Store → Out β) : Prop :=
  ∀ H₀ μ₀ μ H σ ρ s Q, SR C H₀ μ₀ μ H σ ρ s → Post C R H₀ μ₀ σ ρ μ H E Q (m ρ s) → t σ H Q
abbrev rV (C : Cn) : Rel V AV := fun _ _ _ _ μ H x v => RV C μ H x v
/-- a value, or an own list of a name, looked at -/
abbrev rB (C : Cn) : Rel V AV := fun _ _ σ ρ μ H x v => RV C μ H x v ∨ ∃ (i : Nat) (xs : List PyData), v = AV.d (.list xs) ∧ ρ[i]? = some (some (Sl.lst xs)) ∧ σ[i]? = some (some x)
/-- a list that nobody else has -/
abbrev rF (C : Cn) : Rel V (List PyData) := fun H₀ Hs σ ρ μ H x ds => ∃ p vs, x = .ref p ∧ H p = some (.lst vs) ∧ RDs C.K H vs ds ∧ Free Hs p ∧ Free H₀ p ∧ p ∉ μ ∧ ∀ (i : Nat) (sl : Sl), ρ[i]? = some (some sl) → sl.owned = true → σ[i]? ≠ some (some (.ref p))
abbrev rT : Rel Bool Bool := fun _ _ _ _ _ _ x v => x = v
abbrev rA (C : Cn) : Rel (List V) (List AV) := fun _ _ _ _ μ H x v => RVs C μ H x v
/-- the heap ahead may be an earlier one -/
class ROk {α β : Type} (R : Rel α β) : Prop where
  mono : ∀ {H₀ H H1 : Hp} {σ : L2.St} {ρ : Env} {μ μ1 μ2 : List Addr} {H2 : Hp} {x : α} {v : β}, Stp μ H μ1 H1 → R H₀ H1 σ ρ μ2 H2 x v → R H₀ H σ ρ μ2 H2 x v
instance (C : Cn) : ROk (rV C) := ⟨fun _ h => h⟩
instance (C : Cn) : ROk (rB C) := ⟨fun _ h => h⟩
instance : ROk rT := ⟨fun _ h => h⟩
instance (C : Cn) : ROk (rA C) := ⟨fun _ h => h⟩
instance (C : Cn) : ROk (rF C) := ⟨fun a h => by
  obtain ⟨p, vs, e, h1, h2, h3, h4⟩ := h
  exact ⟨p, vs, e, h1, h2, a.there p h3, h4⟩⟩
abbrev SE (C : Cn) := SG C (rV C)
abbrev SB (C : Cn) := SG C (rB C)
abbrev SF (C : Cn) := SG C (rF C)
abbrev ST (C : Cn) := SG C rT
abbrev SA (C : Cn) := SG C (rA C)
section
variable {C : Cn} {H₀ : Hp} {μ₀ μ μ' : List Addr} {H H' : Hp} {σ : L2.St} {ρ : Env} {s : Store} {E : XK}
theorem Post.mono {α β : Type} {R : Rel α β} [ROk R] {Q : α → Hp → Prop} {o : Out β} (p : Post C R H₀ μ₀ σ ρ μ H E Q o) (k : Stp μ H μ' H') : Post C R H₀ μ₀ σ ρ μ' H' E Q o := by
  cases o with
  | ok v s' => exact fun x H1 μ1 k1 r h => p x H1 μ1 (k.trans k1) r (ROk.mono k h)
  | exc e s' => exact fun c dd H1 μ1 k1 => p c dd H1 μ1 (k.trans k1)
  | stk => exact p
/-- first one, then what follows -/
theorem SG.bind {α β α' β' : Type} {R : Rel α β} {R' : Rel α' β'} [ROk R'] {t : L2.St → Hp → (α → Hp → Prop) → Prop} {m : Env → Store → Out β} {f : β → Store → Out β'} {Q : α' → Hp → Prop} {Q1 : α → Hp → Prop} (h : SG C R E t m)
    (r : SR C H₀ μ₀ μ H σ ρ s) (p : Post C R' H₀ μ₀ σ ρ μ H E Q ((m ρ s).bind f))
    (k : ∀ x v s1 H1 μ1, Stp μ H μ1 H1 → SR C H₀ μ₀ μ1 H1 σ ρ s1 → R H₀ H σ ρ μ1 H1 x v → Post C R' H₀ μ₀ σ ρ μ1 H1 E Q (f v s1) → Q1 x H1) : t σ H Q1 := by
  refine h H₀ μ₀ μ H σ ρ s Q1 r ?_
  cases e : m ρ s with
  | ok v s1 =>
    rw [e] at p
    exact fun x H1 μ1 k1 r1 hx => k x v s1 H1 μ1 k1 r1 hx (p.mono k1)
  | exc e' s1 => rw [e] at p; exact p
  | stk => rw [e] at p; exact p
theorem Post.ok {α β : Type} {R : Rel α β} {Q : α → Hp → Prop} {v : β} {x : α} (p : Post C R H₀ μ₀ σ ρ μ H E Q (.ok v s)) (r : SR C H₀ μ₀ μ H σ ρ s) (h : R H₀ H σ ρ μ H x v) : Q x H := p x H μ (.refl _ _) r h
theorem Post.same {α β : Type} {R : Rel α β} {Q : α → Hp → Prop} {v : β} {x : α} (p : Post C R H₀ μ₀ σ ρ μ H E Q (.ok v s)) (r : SR C H₀ μ₀ μ H σ ρ s) (k : Same H H') (h : R H₀ H σ ρ μ H' x v) : Q x H' := p x H' μ (.same k) (r.same k) h
theorem SE.b {t : TE} {m : ME} (h : SE C E t m) : SB C E t m := fun H₀ μ₀ μ H σ ρ s Q r p => h H₀ μ₀ μ H σ ρ s Q r (by
  cases e : m ρ s with
  | ok v s1 => rw [e] at p; exact fun x H1 μ1 k1 r1 hx => p x H1 μ1 k1 r1 (Or.inl hx)
  | exc e' s1 => rw [e] at p; exact p
  | stk => rw [e] at p; exact p)
/-! ### the frame keeps a new list -/
theorem SR.newL (r : SR C H₀ μ₀ μ H σ ρ s) {p : Addr} {vs : List V} {ds : List PyData} (n : H p = none) (h : RDs C.K H vs ds) : rF C H₀ H σ ρ μ (upd H p (.lst vs)) (.ref p) ds :=
  ⟨p, vs, rfl, upd_same, h.kt (Same.kt (sameUpd n)), .of n, (r.fr.new n).1, (r.fr.new n).2, fun i sl e o => r.er.new n e o⟩
theorem RF.ne {o : Option Sl} : True := trivial
/-- a fresh list is frozen -/
theorem frz_kt {p : Addr} {vs : List V} {o : Obj} (h : H p = some (.lst vs)) : KeepT H (upd H p (.frz o (.lst vs))) := ktUpd h
/-- a list or dict -/
def Box : HO → Prop
  | .lst _ => True
  | .dK _ => True
  | .dT _ => True
  | .frz _ _ => True
  | .ins _ _ _ => True
  | _ => False
theorem Box.nt {o : HO} (h : Box o) : ∀ ps, o ≠ .tbl ps := fun ps z => by subst z; exact h
theorem Box.nx {o : HO} (h : Box o) : ∀ φ, o ≠ .ext φ := fun ps z => by subst z; exact h
theorem FR.upd (r : FR C H₀ μ₀ μ H s) {p : Addr} {o o0 : HO} (e0 : H p = some o0) (b0 : Box o0) (b : Box o) (n0 : Free H₀ p) (nm : p ∉ μ) (k : KeepT H (L2.upd H p o)) : FR C H₀ μ₀ μ (L2.upd H p o) s :=
  ⟨⟨r.sto.len, r.sto.nd, fun a c e => by
    obtain ⟨q, e1, e2⟩ := r.sto.at_ a c e
    refine ⟨q, e1, ?_⟩
    have nq : q ≠ p := fun z => nm (z ▸ List.mem_of_getElem? e1)
    cases c with
    | lst xs => obtain ⟨ws, e3, e4⟩ := e2; exact ⟨ws, by rw [upd_ne nq]; exact e3, e4.kt k (List.prefix_refl _)⟩⟩,
   r.stp.upd n0 b.nt k, tabs_upd r.tab e0 b0.nt b0.nx⟩
theorem SR.upd (r : SR C H₀ μ₀ μ H σ ρ s) {p : Addr} {o o0 : HO} (e0 : H p = some o0) (b0 : Box o0) (b : Box o) (n0 : Free H₀ p) (nm : p ∉ μ) (k : KeepT H (L2.upd H p o)) (ns : ∀ (i : Nat) (sl : Sl), ρ[i]? = some (some sl) → sl.owned = true → σ[i]? ≠ some (some (.ref p))) : SR C H₀ μ₀ μ (L2.upd H p o) σ ρ s :=
  ⟨r.fr.upd e0 b0 b n0 nm k, r.er.len, fun i sl e => by
    obtain ⟨v, e1, e2⟩ := r.er.env i sl e
    refine ⟨v, e1, ?_⟩
    cases sl with
    | v x => exact RV.kt k (List.prefix_refl _) e2
    | lst xs =>
      obtain ⟨q, ws, rfl, e3, e4⟩ := e2
      exact ⟨q, ws, rfl, by rw [upd_ne (fun z => ns i _ e rfl (by rw [← z]; exact e1))]; exact e3, e4.kt k⟩
    | dic kvs =>
      obtain ⟨q, ws, rfl, e3, e4⟩ := e2
      exact ⟨q, ws, rfl, by rw [upd_ne (fun z => ns i _ e rfl (by rw [← z]; exact e1))]; exact e3, KV.same e4 k⟩, r.er.own, r.er.dis⟩
theorem SF.fz {t : TE} {m : Env → Store → Out (List PyData)} (h : SF C E t m) : SE C E (tFz t) (fun ρ s => (m ρ s).bind fun ds s => .ok (.d (.list ds)) s) := fun H₀ μ₀ μ H σ ρ s Q r p => by
  refine h H₀ μ₀ μ H σ ρ s (Fz Q) r ?_
  replace p : Post C (rV C) H₀ μ₀ σ ρ μ H E Q ((m ρ s).bind fun ds s => .ok (.d (.list ds)) s) := p
  cases em : m ρ s with
  | ok ds s1 =>
    rw [em] at p
    intro x H1 μ1 k1 r1 hx
    obtain ⟨q, vs, rfl, e, rd, nh, n0, nm, ns⟩ := hx
    exact .inr ⟨q, vs, rfl, e, fun o => p _ _ μ1 (k1.upd nh (fun _ z => by cases z) (frz_kt e)) (r1.upd e trivial trivial n0 nm (frz_kt e) ns) (.d (.lst ⟨o, upd_same⟩ (rd.kt (frz_kt e))))⟩
  | exc e s1 => rw [em] at p; exact p
  | stk => rw [em] at p; exact p
/-! ### data, looked at -/
inductive BD (K : PySem.W.Frag) (H : Hp) : V → PyData → Prop
  | of {v : V} {d : PyData} (h : RD K H v d) : BD K H v d
  | own {p : Addr} {vs : List V} {ds : List PyData} (h : H p = some (.lst vs)) (r : RDs K H vs ds) : BD K H (.ref p) (.list ds)
theorem BD.dp {K : PySem.W.Frag} {v : V} {d : PyData} (h : BD K H v d) : Dp K H v d := by
  cases h with
  | of h => exact h.dp
  | own h r => exact .lst (SqL.of h) r.dp
theorem BD.same {K : PySem.W.Frag} {v : V} {d : PyData} (h : BD K H v d) (k : Same H H') : BD K H' v d := by
  cases h with
  | of h => exact .of (h.kt (Same.kt k))
  | own h r => exact .own (k _ _ h) (r.kt (Same.kt k))
theorem BD.listR {K : PySem.W.Frag} {v : V} {ds : List PyData} (h : BD K H v (.list ds)) : ∃ p vs, v = .ref p ∧ Rd H p (.lst vs) ∧ RDs K H vs ds := by
  cases h with
  | of h => cases h with
    | lst h r => exact ⟨_, _, rfl, h.rd, r⟩
  | own h r => exact ⟨_, _, rfl, .inl h, r⟩
theorem BD.list {K : PySem.W.Frag} {v : V} {ds : List PyData} (h : BD K H v (.list ds)) : ∃ p vs, v = .ref p ∧ SqL K H p vs ∧ RDs K H vs ds := by
  cases h with
  | of h => cases h with
    | lst h r => exact ⟨_, _, rfl, h.sq, r⟩
  | own h r => exact ⟨_, _, rfl, SqL.of h, r⟩
theorem BD.tuple {K : PySem.W.Frag} {v : V} {ds : List PyData} (h : BD K H v (.tuple ds)) : ∃ p vs, v = .ref p ∧ SqT K H p vs ∧ RDs K H vs ds := by
  cases h with
  | of h => cases h with
    | tup h r => exact ⟨_, _, rfl, h, r⟩
theorem BD.int {K : PySem.W.Frag} {v : V} {i : Int} (h : BD K H v (.int i)) : v = .int i := by
  cases h with
  | of h => cases h; rfl
theorem BD.bl {K : PySem.W.Frag} {v : V} {i : Bool} (h : BD K H v (.bool i)) : v = .bl i := by
  cases h with
  | of h => cases h; rfl
theorem BD.str {K : PySem.W.Frag} {v : V} {i : Str} (h : BD K H v (.str i)) : v = .str i := by
  cases h with
  | of h => cases h; rfl
theorem BD.non {K : PySem.W.Frag} {v : V} (h : BD K H v .none) : v = .non := by
  cases h with
  | of h => cases h; rfl
theorem rB.bd {Hs : Hp} {v : V} {d : PyData} (h : rB C H₀ Hs σ ρ μ H v (.d d)) (r : SR C H₀ μ₀ μ H σ ρ s) : BD C.K H v d := by
  rcases h with h | ⟨i, xs, e, e1, e2⟩
  · cases h with
    | d h => exact .of h
  · cases e
    obtain ⟨w, e3, p, vs, rfl, e4, e5⟩ := r.er.env i _ e1
    rw [e2] at e3
    cases e3
    exact .own e4 e5
/-- looked at later -/
theorem rB.later {Hs Hs' : Hp} {v : V} {x : AV} {H1 : Hp} {μ1 : List Addr} (h : rB C H₀ Hs σ ρ μ H v x) (k : Stp μ H μ1 H1) : rB C H₀ Hs' σ ρ μ1 H1 v x := by
  rcases h with h | h
  · exact .inl (h.kt k.kt k.pre)
  · exact .inr h
end
/-! ### expressions -/
/-- the value of a name -/
def eVar (i : Nat) : ME := fun ρ s => match ρ[i]? with
  | some (some (.v x)) => .ok x s
  | _ => .stk
/-- the list of a name, looked at -/
def eOwn (i : Nat) : ME := fun ρ s => match ρ[i]? with
  | some (some (.lst xs)) => .ok (.d (.list xs)) s
  | _ => .stk
def eC (v : AV) : ME := fun _ s => .ok v s
/-- an operation on data -/
def D2 := PyData → PyData → Option PyData
def ap2 (f : PyData → PyData → Option PyData) (x y : AV) (s : Store) : Out AV := match x, y with
  | .d a, .d b => match f a b with
    | some z => .ok (.d z) s
    | none => .stk
  | _, _ => .stk
def eOp (f : PyData → PyData → Option PyData) (a b : ME) : ME := fun ρ s => (a ρ s).bind fun x s => (b ρ s).bind fun y s => ap2 f x y s
def ap1 (f : PyData → Option PyData) (x : AV) (s : Store) : Out AV := match x with
  | .d a => match f a with
    | some z => .ok (.d z) s
    | none => .stk
  | _ => .stk
def eUn (f : PyData → Option PyData) (a : ME) : ME := fun ρ s => (a ρ s).bind fun x s => ap1 f x s
def aNil : MA := fun _ s => .ok [] s
def aCons (a : ME) (b : MA) : MA := fun ρ s => (a ρ s).bind fun x s => (b ρ s).bind fun xs s => .ok (x :: xs) s
/-- a tuple -/
def eTup (a : MA) : ME := fun ρ s => (a ρ s).bind fun xs s => match datas xs with
  | some ds => if ds.length ≤ 1000000 then .ok (.d (.tuple ds)) s else .stk
  | none => .stk
/-- a new list -/
def fLst (a : MA) : Env → Store → Out (List PyData) := fun ρ s => (a ρ s).bind fun xs s => match datas xs with
  | some ds => if ds.length ≤ 1000000 then .ok ds s else .stk
  | none => .stk
def eFz (m : Env → Store → Out (List PyData)) : ME := fun ρ s => (m ρ s).bind fun ds s => .ok (.d (.list ds)) s
def tst (x : AV) (s : Store) : Out Bool := match x with
  | .d (.bool b) => .ok b s
  | _ => .stk
def tB (a : ME) : MT := fun ρ s => (a ρ s).bind fun x s => tst x s
def tNt (a : MT) : MT := fun ρ s => (a ρ s).bind fun b s => .ok (!b) s
def tAn (a b : MT) : MT := fun ρ s => (a ρ s).bind fun c s => if c = true then b ρ s else .ok false s
def tOR (a b : MT) : MT := fun ρ s => (a ρ s).bind fun c s => if c = true then .ok true s else b ρ s
def eIf (t : MT) (a b : ME) : ME := fun ρ s => (t ρ s).bind fun c s => if c = true then a ρ s else b ρ s
def eAnd (a b : ME) : ME := fun ρ s => (a ρ s).bind fun x s => (tst x s).bind fun c s => if c = true then b ρ s else .ok (.d (.bool false)) s
def eOr (a b : ME) : ME := fun ρ s => (a ρ s).bind fun x s => (tst x s).bind fun c s => if c = true then .ok (.d (.bool true)) s else b ρ s
def eNot (a : ME) : ME := fun ρ s => (a ρ s).bind fun x s => (tst x s).bind fun c s => .ok (.d (.bool (!c))) s
def eBool (t : MT) : ME := fun ρ s => (t ρ s).bind fun c s => .ok (.d (.bool c)) s
section
variable {C : Cn} {E : XK} {X : Cx}
theorem se_var {i : Nat} : SE C E (L2.tVar i) (eVar i) := fun H₀ μ₀ μ H σ ρ s Q r p => by
  unfold eVar at p
  split at p
  · rename_i x e
    obtain ⟨v, e1, e2⟩ := r.er.env i _ e
    exact ⟨v, e1, p.ok r e2⟩
  · exact p.elim
theorem sb_own {i : Nat} : SB C E (L2.tVar i) (eOwn i) := fun H₀ μ₀ μ H σ ρ s Q r p => by
  unfold eOwn at p
  split at p
  · rename_i xs e
    obtain ⟨v, e1, e2⟩ := r.er.env i _ e
    exact ⟨v, e1, p.ok r (.inr ⟨i, xs, rfl, e, e1⟩)⟩
  · exact p.elim
theorem se_int {i : Int} : SE C E (L2.tC (.int i)) (eC (.d (.int i))) := fun _ _ _ _ _ _ _ _ r p => p.ok r (.d (.int i))
theorem se_bl {i : Bool} : SE C E (L2.tC (.bl i)) (eC (.d (.bool i))) := fun _ _ _ _ _ _ _ _ r p => p.ok r (.d (.bl i))
theorem se_str {i : Str} : SE C E (L2.tC (.str i)) (eC (.d (.str i))) := fun _ _ _ _ _ _ _ _ r p => p.ok r (.d (.str i))
theorem se_non : SE C E (L2.tC .non) (eC (.d .none)) := fun _ _ _ _ _ _ _ _ r p => p.ok r (.d .non)
theorem se_fn {x : Str} {a : Addr} (h : C.mg x = some (.ref a)) : SE C E (L2.tC (.ref a)) (eC (.fn x)) := fun _ _ _ _ _ _ _ _ r p => p.ok r (.fn h)
theorem se_tupc {a : Addr} {d : PyData} (h : ∀ H, RD C.K H (.ref a) d) : SE C E (L2.tC (.ref a)) (eC (.d d)) := fun _ _ _ _ _ _ _ _ r p => p.ok r (.d (h _))
/-- what an operation's rule has to be for data -/
def OpS (K : PySem.W.Frag) (r : R2) (f : PyData → PyData → Option PyData) : Prop := ∀ (H : Hp) (x y : V) (a b z : PyData) (Q : VK), BD K H x a → BD K H y b → f a b = some z → (∀ w H', Same H H' → RD K H' w z → Q w H') → r x y H Q
theorem se_op {r : R2} {f : PyData → PyData → Option PyData} {ta tb : TE} {ma mb : ME} (o : OpS C.K r f) (ha : SB C E ta ma) (hb : SB C E tb mb) : SE C E (tOp r ta tb) (eOp f ma mb) := fun H₀ μ₀ μ H σ ρ s Q h p => by
  refine SG.bind (t := ta) ha h p (fun x v s1 H1 μ1 k1 r1 hx p1 => ?_)
  refine SG.bind (t := tb) hb r1 p1 (fun y w s2 H2 μ2 k2 r2 hy p2 => ?_)
  unfold ap2 at p2
  split at p2
  · rename_i a b
    split at p2
    · rename_i z e
      exact o H2 x y a b z Q ((rB.later (Hs' := H) hx k2).bd r2) (hy.bd r2) e (fun w H' k rd => p2.same r2 k (.d rd))
    · exact p2.elim
  · exact p2.elim
def OpU (K : PySem.W.Frag) (r : V → Hp → VK → Prop) (f : PyData → Option PyData) : Prop := ∀ (H : Hp) (x : V) (a z : PyData) (Q : VK), BD K H x a → f a = some z → (∀ w H', Same H H' → RD K H' w z → Q w H') → r x H Q
theorem se_un {r : V → Hp → VK → Prop} {f : PyData → Option PyData} {ta : TE} {ma : ME} (o : OpU C.K r f) (ha : SB C E ta ma) : SE C E (tUn r ta) (eUn f ma) := fun H₀ μ₀ μ H σ ρ s Q h p => by
  refine SG.bind (t := ta) ha h p (fun x v s1 H1 μ1 k1 r1 hx p1 => ?_)
  unfold ap1 at p1
  split at p1
  · rename_i a
    split at p1
    · rename_i z e
      exact o H1 x a z Q (hx.bd r1) e (fun w H' k rd => p1.same r1 k (.d rd))
    · exact p1.elim
  · exact p1.elim
theorem sa_nil : SA C E tNil aNil := fun _ _ _ _ _ _ _ _ r p => p.ok r .nil
theorem sa_cons {ta : TE} {tb : TA} {ma : ME} {mb : MA} (ha : SE C E ta ma) (hb : SA C E tb mb) : SA C E (tCons ta tb) (aCons ma mb) := fun H₀ μ₀ μ H σ ρ s Q h p => by
  refine SG.bind (t := ta) ha h p (fun x v s1 H1 μ1 k1 r1 hx p1 => ?_)
  refine SG.bind (t := tb) hb r1 p1 (fun xs vs s2 H2 μ2 k2 r2 hy p2 => ?_)
  exact p2.ok r2 (.cons (hx.kt k2.kt k2.pre) hy)
theorem mill {n : Nat} (h : n ≤ 1000000) : n ≤ sizeLine := by rw [sizeLine_eq]; omega
theorem se_tup {ta : TA} {ma : MA} (ha : SA C E ta ma) : SE C E (tTup ta) (eTup ma) := fun H₀ μ₀ μ H σ ρ s Q h p => by
  refine SG.bind (t := ta) ha h p (fun xs vs s1 H1 μ1 k1 r1 hx p1 => ?_)
  split at p1
  · rename_i ds e
    obtain rfl := datas_eq e
    split at p1
    · rename_i hl
      have rd := hx.ds
      refine ⟨mill (by rw [hx.len, List.length_map]; exact hl), fun q n => p1.same r1 (sameUpd n) (.d (.tup (.inl (.inl upd_same)) (rd.kt (Same.kt (sameUpd n)))))⟩
    · exact p1.elim
  · exact p1.elim
theorem sf_lst {ta : TA} {ma : MA} (ha : SA C E ta ma) : SF C E (tLst ta) (fLst ma) := fun H₀ μ₀ μ H σ ρ s Q h p => by
  refine SG.bind (t := ta) ha h p (fun xs vs s1 H1 μ1 k1 r1 hx p1 => ?_)
  split at p1
  · rename_i ds e
    obtain rfl := datas_eq e
    split at p1
    · rename_i hl
      exact ⟨mill (by rw [hx.len, List.length_map]; exact hl), fun q n => p1.same r1 (sameUpd n) (r1.newL n hx.ds)⟩
    · exact p1.elim
  · exact p1.elim
theorem tst_ok {v : V} {x : AV} {H₀ : Hp} {μ₀ μ : List Addr} {H : Hp} {σ : L2.St} {ρ : Env} {s : Store} {α β : Type} {R : Rel α β} {f : Bool → Store → Out β} {Q : α → Hp → Prop} (hx : RV C μ H v x) (p : Post C R H₀ μ₀ σ ρ μ H E Q ((tst x s).bind f)) : ∃ b, v = .bl b ∧ Post C R H₀ μ₀ σ ρ μ H E Q (f b s) := by
  unfold tst at p
  split at p
  · cases hx with
    | d h => cases h; exact ⟨_, rfl, p⟩
  · exact p.elim
theorem bind_id {α : Type} (o : Out α) : o.bind (fun a s => .ok a s) = o := by cases o <;> rfl
theorem st_val {ta : TE} {ma : ME} (ha : SE C E ta ma) : ST C E (L2.tB ta) (tB ma) := fun H₀ μ₀ μ H σ ρ s Q h p => by
  refine SG.bind (t := ta) ha h p (fun x v s1 H1 μ1 k1 r1 hx p1 => ?_)
  rw [← bind_id (tst v s1)] at p1
  obtain ⟨b, e, p2⟩ := tst_ok hx p1
  exact ⟨b, e, p2.ok r1 rfl⟩
theorem st_test {ta : TE} {ma : ME} (ha : SE C E ta ma) : ST C E (tTest ta) (tB ma) := st_val ha
theorem st_not {ta : TT} {ma : MT} (ha : ST C E ta ma) : ST C E (tNot ta) (tNt ma) := fun H₀ μ₀ μ H σ ρ s Q h p => by
  refine SG.bind (t := ta) ha h p (fun x v s1 H1 μ1 k1 r1 hx p1 => ?_)
  obtain rfl := hx
  exact p1.ok r1 rfl
theorem st_and {ta tb : TT} {ma mb : MT} (ha : ST C E ta ma) (hb : ST C E tb mb) : ST C E (tAnd ta tb) (tAn ma mb) := fun H₀ μ₀ μ H σ ρ s Q h p => by
  refine SG.bind (t := ta) ha h p (fun x v s1 H1 μ1 k1 r1 hx p1 => ?_)
  obtain rfl := hx
  cases x with
  | true => exact iteT (hb _ _ _ _ _ _ _ _ r1 p1)
  | false => exact iteF (p1.ok r1 rfl)
theorem st_or {ta tb : TT} {ma mb : MT} (ha : ST C E ta ma) (hb : ST C E tb mb) : ST C E (tOr ta tb) (tOR ma mb) := fun H₀ μ₀ μ H σ ρ s Q h p => by
  refine SG.bind (t := ta) ha h p (fun x v s1 H1 μ1 k1 r1 hx p1 => ?_)
  obtain rfl := hx
  cases x with
  | true => exact iteT (p1.ok r1 rfl)
  | false => exact iteF (hb _ _ _ _ _ _ _ _ r1 p1)
theorem se_if {tt : TT} {ta tb : TE} {mt : MT} {ma mb : ME} (ht : ST C E tt mt) (ha : SE C E ta ma) (hb : SE C E tb mb) : SE C E (tIf tt ta tb) (eIf mt ma mb) := fun H₀ μ₀ μ H σ ρ s Q h p => by
  refine SG.bind (t := tt) ht h p (fun x v s1 H1 μ1 k1 r1 hx p1 => ?_)
  obtain rfl := hx
  cases x with
  | true => exact iteT (ha _ _ _ _ _ _ _ _ r1 p1)
  | false => exact iteF (hb _ _ _ _ _ _ _ _ r1 p1)
theorem se_and {ta tb : TE} {ma mb : ME} (ha : SE C E ta ma) (hb : SE C E tb mb) : SE C E (tAndV ta tb) (eAnd ma mb) := fun H₀ μ₀ μ H σ ρ s Q h p => by
  refine SG.bind (t := ta) ha h p (fun x v s1 H1 μ1 k1 r1 hx p1 => ?_)
  obtain ⟨b, e, p2⟩ := tst_ok hx p1
  refine ⟨b, e, ?_⟩
  cases b with
  | true => exact iteT (hb _ _ _ _ _ _ _ _ r1 p2)
  | false => exact iteF (p2.ok r1 (.d (.bl _)))
theorem se_or {ta tb : TE} {ma mb : ME} (ha : SE C E ta ma) (hb : SE C E tb mb) : SE C E (tOrV ta tb) (eOr ma mb) := fun H₀ μ₀ μ H σ ρ s Q h p => by
  refine SG.bind (t := ta) ha h p (fun x v s1 H1 μ1 k1 r1 hx p1 => ?_)
  obtain ⟨b, e, p2⟩ := tst_ok hx p1
  refine ⟨b, e, ?_⟩
  cases b with
  | true => exact iteT (p2.ok r1 (.d (.bl _)))
  | false => exact iteF (hb _ _ _ _ _ _ _ _ r1 p2)
theorem se_not {ta : TE} {ma : ME} (ha : SE C E ta ma) : SE C E (tNotV ta) (eNot ma) := fun H₀ μ₀ μ H σ ρ s Q h p => by
  refine SG.bind (t := ta) ha h p (fun x v s1 H1 μ1 k1 r1 hx p1 => ?_)
  obtain ⟨b, e, p2⟩ := tst_ok hx p1
  exact ⟨b, e, p2.ok r1 (.d (.bl _))⟩
end
end Pz
set_option maxRecDepth 100000
set_option autoImplicit false
set_option maxHeartbeats 1000000
/-! Pz2: statements of plain programs. -/
namespace Pz
open PySem PySem.Spec PyProof.Rows
open L2 Hk
def PostS (C : Cn) (H₀ : Hp) (μ₀ μ : List Addr) (H : Hp) (E : XK) (D : Ends) : Out Fl → Prop
  | .ok (.nx ρ') s' => ∀ σ' H' μ', KeepT H H' → μ <+: μ' → SR C H₀ μ₀ μ' H' σ' ρ' s' → D.nx σ' H'
  | .ok (.bk ρ') s' => ∀ σ' H' μ', KeepT H H' → μ <+: μ' → SR C H₀ μ₀ μ' H' σ' ρ' s' → D.bk σ' H'
  | .ok (.ct ρ') s' => ∀ σ' H' μ', KeepT H H' → μ <+: μ' → SR C H₀ μ₀ μ' H' σ' ρ' s' → D.ct σ' H'
  | .ok (.rt v) s' => ∀ x H' μ', FR C H₀ μ₀ μ' H' s' → RV C μ' H' x v → D.rt x H'
  | .exc e s' => ExE C H₀ μ₀ e s' E
  | .stk => False
def SS (C : Cn) (E : XK) (t : TS) (m : MS) : Prop := ∀ H₀ μ₀ μ H σ ρ s D, SR C H₀ μ₀ μ H σ ρ s → PostS C H₀ μ₀ μ H E D (m ρ s) → t D σ H
/-- a target -/
abbrev MG := AV → Env → Option Env
def GG (C : Cn) (g : TG) (m : MG) : Prop := ∀ H₀ μ₀ μ H σ ρ s x v ρ' Q, SR C H₀ μ₀ μ H σ ρ s → RV C μ H x v → m v ρ = some ρ' → (∀ σ', SR C H₀ μ₀ μ H σ' ρ' s → Q σ' H) → g x σ H Q
def GGs (C : Cn) (g : TGs) (m : List AV → Env → Option Env) : Prop := ∀ H₀ μ₀ μ H σ ρ s x v ρ' Q, SR C H₀ μ₀ μ H σ ρ s → RVs C μ H x v → m v ρ = some ρ' → (∀ σ', SR C H₀ μ₀ μ H σ' ρ' s → Q σ' H) → g x σ H Q
section
variable {C : Cn} {H₀ : Hp} {μ₀ μ μ' : List Addr} {H H' : Hp} {σ : L2.St} {ρ : Env} {s : Store} {E : XK} {D : Ends}
theorem PostS.mono {o : Out Fl} (p : PostS C H₀ μ₀ μ H E D o) (k : KeepT H H') (q : μ <+: μ') : PostS C H₀ μ₀ μ' H' E D o := by
  cases o with
  | ok v s' =>
    cases v with
    | nx ρ' => exact fun x H1 μ1 k1 q1 => p x H1 μ1 (k.trans k1) (q.trans q1)
    | bk ρ' => exact fun x H1 μ1 k1 q1 => p x H1 μ1 (k.trans k1) (q.trans q1)
    | ct ρ' => exact fun x H1 μ1 k1 q1 => p x H1 μ1 (k.trans k1) (q.trans q1)
    | rt v => exact p
  | exc e s' => exact p
  | stk => exact p
theorem SG.bindS {α β : Type} {R : Rel α β} {t : L2.St → Hp → (α → Hp → Prop) → Prop} {m : Env → Store → Out β} {f : β → Store → Out Fl} {Q1 : α → Hp → Prop} (h : SG C R E t m)
    (r : SR C H₀ μ₀ μ H σ ρ s) (p : PostS C H₀ μ₀ μ H E D ((m ρ s).bind f))
    (k : ∀ x v s1 H1 μ1, Stp μ H μ1 H1 → SR C H₀ μ₀ μ1 H1 σ ρ s1 → R H₀ H σ ρ μ1 H1 x v → PostS C H₀ μ₀ μ1 H1 E D (f v s1) → Q1 x H1) : t σ H Q1 := by
  refine h H₀ μ₀ μ H σ ρ s Q1 r ?_
  cases e : m ρ s with
  | ok v s1 =>
    rw [e] at p
    exact fun x H1 μ1 k1 r1 hx => k x v s1 H1 μ1 k1 r1 hx (p.mono k1.kt k1.pre)
  | exc e' s1 => rw [e] at p; exact fun c dd H1 μ1 _ => p c dd H1 μ1
  | stk => rw [e] at p; exact p
theorem PostS.nx (p : PostS C H₀ μ₀ μ H E D (.ok (.nx ρ) s)) (r : SR C H₀ μ₀ μ H σ ρ s) : D.nx σ H := p σ H μ (.refl _) (List.prefix_refl _) r
/-! ### names are set -/
theorem ER.set {x : V} {v : AV} {i : Nat} (r : ER C H₀ μ H σ ρ) (h : RV C μ H x v) : ER C H₀ μ H (σ.set i (some x)) (ρ.set i (some (.v v))) where
  len := by rw [List.length_set, List.length_set, r.len]
  env := fun j sl e => by
    by_cases z : i = j
    · subst z
      have lt : i < ρ.length := by
        have := (List.getElem?_eq_some_iff.mp e).1
        rwa [List.length_set] at this
      rw [List.getElem?_set_self lt] at e
      cases e
      exact ⟨x, by rw [List.getElem?_set_self (by rw [r.len]; exact lt)], h⟩
    · rw [List.getElem?_set_ne z] at e ⊢
      exact r.env j sl e
  own := fun j sl p e o e2 => by
    by_cases z : i = j
    · subst z
      have lt : i < ρ.length := by
        have := (List.getElem?_eq_some_iff.mp e).1
        rwa [List.length_set] at this
      rw [List.getElem?_set_self lt] at e
      cases e
      cases o
    · rw [List.getElem?_set_ne z] at e e2
      exact r.own j sl p e o e2
  dis := fun j k sl sl' p e1 e2 o1 o2 e3 e4 => by
    have ne : ∀ j (sl : Sl), (ρ.set i (some (.v v)))[j]? = some (some sl) → sl.owned = true → i ≠ j := fun j sl e o z => by
      subst z
      have lt : i < ρ.length := by
        have := (List.getElem?_eq_some_iff.mp e).1
        rwa [List.length_set] at this
      rw [List.getElem?_set_self lt] at e
      cases e
      cases o
    have n1 := ne j sl e1 o1
    have n2 := ne k sl' e2 o2
    rw [List.getElem?_set_ne n1] at e1 e3
    rw [List.getElem?_set_ne n2] at e2 e4
    exact r.dis j k sl sl' p e1 e2 o1 o2 e3 e4
theorem SR.set {x : V} {v : AV} {i : Nat} (r : SR C H₀ μ₀ μ H σ ρ s) (h : RV C μ H x v) : SR C H₀ μ₀ μ H (σ.set i (some x)) (ρ.set i (some (.v v))) s := ⟨r.fr, r.er.set h⟩
/-- a name's own list or dict, at p -/
theorem ER.setOwn {p : Addr} {sl : Sl} {i : Nat} (r : ER C H₀ μ H σ ρ) (h : SlR C μ H (.ref p) sl) (n0 : Free H₀ p) (nm : p ∉ μ) (ns : ∀ (j : Nat) (sl : Sl), j ≠ i → ρ[j]? = some (some sl) → sl.owned = true → σ[j]? ≠ some (some (.ref p))) : ER C H₀ μ H (σ.set i (some (.ref p))) (ρ.set i (some sl)) where
  len := by rw [List.length_set, List.length_set, r.len]
  env := fun j sl' e => by
    by_cases z : i = j
    · subst z
      have lt : i < ρ.length := by
        have := (List.getElem?_eq_some_iff.mp e).1
        rwa [List.length_set] at this
      rw [List.getElem?_set_self lt] at e
      cases e
      exact ⟨_, by rw [List.getElem?_set_self (by rw [r.len]; exact lt)], h⟩
    · rw [List.getElem?_set_ne z] at e ⊢
      exact r.env j sl' e
  own := fun j sl' q e o e2 => by
    by_cases z : i = j
    · subst z
      have lt : i < σ.length := by
        have := (List.getElem?_eq_some_iff.mp e2).1
        rwa [List.length_set] at this
      rw [List.getElem?_set_self lt] at e2
      cases e2
      exact ⟨n0, nm⟩
    · rw [List.getElem?_set_ne z] at e e2
      exact r.own j sl' q e o e2
  dis := fun j k sl1 sl2 q e1 e2 o1 o2 e3 e4 => by
    by_cases zj : i = j
    · by_cases zk : i = k
      · rw [← zj, ← zk]
      · exfalso
        subst zj
        have lt : i < σ.length := by
          have := (List.getElem?_eq_some_iff.mp e3).1
          rwa [List.length_set] at this
        rw [List.getElem?_set_self lt] at e3
        cases e3
        rw [List.getElem?_set_ne zk] at e2 e4
        exact ns k sl2 (Ne.symm zk) e2 o2 e4
    · by_cases zk : i = k
      · exfalso
        subst zk
        have lt : i < σ.length := by
          have := (List.getElem?_eq_some_iff.mp e4).1
          rwa [List.length_set] at this
        rw [List.getElem?_set_self lt] at e4
        cases e4
        rw [List.getElem?_set_ne zj] at e1 e3
        exact ns j sl1 (Ne.symm zj) e1 o1 e3
      · rw [List.getElem?_set_ne zj] at e1 e3
        rw [List.getElem?_set_ne zk] at e2 e4
        exact r.dis j k sl1 sl2 q e1 e2 o1 o2 e3 e4
/-- what stands in σ at i is no new thing: the name's own object changes -/
theorem SR.chg {p : Addr} {sl sl' : Sl} {i : Nat} {o o0 : HO} (e0 : H p = some o0) (b0 : Box o0) (b : Box o) (r : SR C H₀ μ₀ μ H σ ρ s) (e : ρ[i]? = some (some sl)) (ow : sl.owned = true) (e2 : σ[i]? = some (some (.ref p))) (k : KeepT H (L2.upd H p o)) (h : SlR C μ (L2.upd H p o) (.ref p) sl') : SR C H₀ μ₀ μ (L2.upd H p o) σ (ρ.set i (some sl')) s := by
  obtain ⟨n0, nm⟩ := r.er.own i sl p e ow e2
  refine ⟨r.fr.upd e0 b0 b n0 nm k, ?_⟩
  have lt : i < ρ.length := (List.getElem?_eq_some_iff.mp e).1
  have base : ER C H₀ μ (L2.upd H p o) σ (ρ.set i none) := {
    len := by rw [List.length_set, r.er.len]
    env := fun j sl1 e1 => by
      by_cases z : i = j
      · subst z; rw [List.getElem?_set_self lt] at e1; cases e1
      · rw [List.getElem?_set_ne z] at e1
        obtain ⟨v, e3, e4⟩ := r.er.env j sl1 e1
        refine ⟨v, e3, ?_⟩
        cases sl1 with
        | v x => exact RV.kt k (List.prefix_refl _) e4
        | lst xs =>
          obtain ⟨q, ws, rfl, e5, e6⟩ := e4
          exact ⟨q, ws, rfl, by rw [upd_ne (fun z2 => z (r.er.dis i j sl _ p e e1 ow rfl e2 (by rw [← z2]; exact e3)))]; exact e5, e6.kt k⟩
        | dic kvs =>
          obtain ⟨q, ws, rfl, e5, e6⟩ := e4
          exact ⟨q, ws, rfl, by rw [upd_ne (fun z2 => z (r.er.dis i j sl _ p e e1 ow rfl e2 (by rw [← z2]; exact e3)))]; exact e5, KV.same e6 k⟩
    own := fun j sl1 q e1 o1 e3 => by
      by_cases z : i = j
      · subst z; rw [List.getElem?_set_self lt] at e1; cases e1
      · rw [List.getElem?_set_ne z] at e1
        exact r.er.own j sl1 q e1 o1 e3
    dis := fun j k' sl1 sl2 q e1 e3 o1 o2 e5 e6 => by
      by_cases z : i = j
      · subst z; rw [List.getElem?_set_self lt] at e1; cases e1
      by_cases z2 : i = k'
      · subst z2; rw [List.getElem?_set_self lt] at e3; cases e3
      rw [List.getElem?_set_ne z] at e1
      rw [List.getElem?_set_ne z2] at e3
      exact r.er.dis j k' sl1 sl2 q e1 e3 o1 o2 e5 e6 }
  have := base.setOwn (i := i) h n0 nm (fun j sl1 nj e1 o1 e3 => by
    rw [List.getElem?_set_ne (Ne.symm nj)] at e1
    exact nj (r.er.dis i j sl sl1 p e e1 ow o1 e2 e3).symm)
  rw [List.set_set] at this
  have e9 : σ.set i (some (V.ref p)) = σ := by
    refine List.ext_getElem? fun j => ?_
    by_cases z : i = j
    · subst z; rw [List.getElem?_set_self (by rw [r.er.len]; exact lt), e2]
    · rw [List.getElem?_set_ne z]
  rw [e9] at this
  exact this
end
/-! ### statements -/
def gN (i : Nat) : MG := fun v ρ => some (ρ.set i (some (.v v)))
def gsN : List AV → Env → Option Env
  | [], ρ => some ρ
  | _ :: _, _ => none
def gsC (g : MG) (gs : List AV → Env → Option Env) : List AV → Env → Option Env
  | v :: vs, ρ => (g v ρ).bind (gs vs)
  | [], _ => none
/-- a, b, .. = a tuple -/
def gT (n : Nat) (gs : List AV → Env → Option Env) : MG := fun v ρ => match v with
  | .d (.tuple ds) => if ds.length = n then gs (ds.map AV.d) ρ else none
  | _ => none
def sNext : MS := fun ρ s => .ok (.nx ρ) s
def sBrk : MS := fun ρ s => .ok (.bk ρ) s
def sCnt : MS := fun ρ s => .ok (.ct ρ) s
def thenS (o : Out Fl) (m : MS) : Out Fl := match o with
  | .ok (.nx ρ) s => m ρ s
  | o => o
def sSeq (a b : MS) : MS := fun ρ s => thenS (a ρ s) b
def sAsg (e : ME) (g : MG) : MS := fun ρ s => (e ρ s).bind fun v s => match g v ρ with
  | some ρ' => .ok (.nx ρ') s
  | none => .stk
/-- a name's own new list -/
def sOwn (i : Nat) (m : Env → Store → Out (List PyData)) : MS := fun ρ s => (m ρ s).bind fun ds s => .ok (.nx (ρ.set i (some (.lst ds)))) s
/-- a name's own new dict -/
def sDic (i : Nat) : MS := fun ρ s => .ok (.nx (ρ.set i (some (.dic [])))) s
def sDrop (e : ME) : MS := fun ρ s => (e ρ s).bind fun _ s => .ok (.nx ρ) s
def sRet (e : ME) : MS := fun ρ s => (e ρ s).bind fun v s => .ok (.rt v) s
/-- return a name's own list -/
def sRetOwn (i : Nat) : MS := fun ρ s => match ρ[i]? with
  | some (some (.lst xs)) => .ok (.rt (.d (.list xs))) s
  | _ => .stk
def sRetN : MS := fun _ s => .ok (.rt (.d .none)) s
def sIf (t : MT) (a b : MS) : MS := fun ρ s => (t ρ s).bind fun c s => if c = true then a ρ s else b ρ s
/-- from here on a name's own list is only read -/
def sFz (i : Nat) (m : MS) : MS := fun ρ s => match ρ[i]? with
  | some (some (.lst xs)) => m (ρ.set i (some (.v (.d (.list xs))))) s
  | _ => .stk
@[irreducible] def LIM : Nat := 1000000
def own (i : Nat) (ρ : Env) (f : List PyData → Out Fl) : Out Fl := match ρ[i]? with
  | some (some (.lst xs)) => f xs
  | _ => .stk
def dat (v : AV) (f : PyData → Out Fl) : Out Fl := match v with
  | .d x => f x
  | _ => .stk
def sApp (i : Nat) (e : ME) : MS := fun ρ s => own i ρ fun xs => (e ρ s).bind fun v s => dat v fun x => if xs.length < LIM then .ok (.nx (ρ.set i (some (.lst (xs ++ [x]))))) s else .stk
/-- loops -/
def forL (g : MG) (b : MS) : List AV → MS
  | [], ρ, s => .ok (.nx ρ) s
  | v :: vs, ρ, s => match g v ρ with
    | none => .stk
    | some ρ1 => match b ρ1 s with
      | .ok (.nx ρ2) s2 => forL g b vs ρ2 s2
      | .ok (.ct ρ2) s2 => forL g b vs ρ2 s2
      | .ok (.bk ρ2) s2 => .ok (.nx ρ2) s2
      | o => o
def sFor (it : MA) (g : MG) (b : MS) : MS := fun ρ s => (it ρ s).bind fun vs s => forL g b vs ρ s
def whileL (c : MT) (b : MS) : Nat → MS
  | 0, _, _ => .stk
  | n + 1, ρ, s => (c ρ s).bind fun t s => if t = true then
      match b ρ s with
      | .ok (.nx ρ2) s2 => whileL c b n ρ2 s2
      | .ok (.ct ρ2) s2 => whileL c b n ρ2 s2
      | .ok (.bk ρ2) s2 => .ok (.nx ρ2) s2
      | o => o
    else .ok (.nx ρ) s
section
variable {C : Cn} {E : XK}
theorem gg_name {i : Nat} : GG C (gName i) (gN i) := fun H₀ μ₀ μ H σ ρ s x v ρ' Q r h e q => by
  cases e
  exact q _ (r.set h)
theorem ggs_nil : GGs C gNil gsN := fun H₀ μ₀ μ H σ ρ s x v ρ' Q r h e q => by
  cases h with
  | nil => cases e; exact ⟨rfl, q _ r⟩
  | cons _ _ => cases e
theorem ggs_cons {g : TG} {gs : TGs} {m : MG} {ms : List AV → Env → Option Env} (hg : GG C g m) (hs : GGs C gs ms) : GGs C (gCons g gs) (gsC m ms) := fun H₀ μ₀ μ H σ ρ s x v ρ' Q r h e q => by
  cases h with
  | nil => cases e
  | @cons w ws y ys h1 h2 =>
    replace e : (m y ρ).bind (ms ys) = some ρ' := e
    cases e1 : m y ρ with
    | none => rw [e1] at e; cases e
    | some ρ1 =>
      rw [e1] at e
      exact ⟨w, ws, rfl, hg H₀ μ₀ μ H σ ρ s w y ρ1 _ r h1 e1 (fun σ1 r1 => hs H₀ μ₀ μ H σ1 ρ1 s ws ys ρ' _ r1 h2 e q)⟩
theorem gg_tup {n : Nat} {gs : TGs} {ms : List AV → Env → Option Env} (hs : GGs C gs ms) : GG C (gTup C.K n gs) (gT n ms) := fun H₀ μ₀ μ H σ ρ s x v ρ' Q r h e q => by
  unfold gT at e
  split at e
  · rename_i ds
    split at e
    · rename_i hl
      cases h with
      | d h => cases h with
        | @tup a xs _ h1 h2 => exact ⟨a, xs, rfl, h1, by rw [h2.len, hl], hs H₀ μ₀ μ H σ ρ s xs _ ρ' Q r h2.vs e q⟩
    · cases e
  · cases e
theorem ss_next : SS C E tNext sNext := fun H₀ μ₀ μ H σ ρ s D r p => p.nx r
theorem ss_brk : SS C E tBreak sBrk := fun H₀ μ₀ μ H σ ρ s D r p => p σ H μ (.refl _) (List.prefix_refl _) r
theorem ss_cnt : SS C E tCont sCnt := fun H₀ μ₀ μ H σ ρ s D r p => p σ H μ (.refl _) (List.prefix_refl _) r
theorem ss_seq {t u : TS} {a b : MS} (ha : SS C E t a) (hb : SS C E u b) : SS C E (tSeq t u) (sSeq a b) := fun H₀ μ₀ μ H σ ρ s D r p => by
  refine ha H₀ μ₀ μ H σ ρ s _ r ?_
  unfold sSeq at p
  cases e : a ρ s with
  | ok v s1 =>
    rw [e] at p
    cases v with
    | nx ρ' => exact fun σ' H' μ' k q r' => hb H₀ μ₀ μ' H' σ' ρ' s1 D r' (p.mono k q)
    | bk ρ' => exact p
    | ct ρ' => exact p
    | rt v => exact p
  | exc e s1 => rw [e] at p; exact p
  | stk => rw [e] at p; exact p
theorem ss_asg {te : TE} {m : ME} {g : TG} {mg : MG} (h : SE C E te m) (hg : GG C g mg) : SS C E (tAsg te g) (sAsg m mg) := fun H₀ μ₀ μ H σ ρ s D r p => by
  refine SG.bindS (t := te) h r p (fun x v s1 H1 μ1 k1 r1 hx p1 => ?_)
  cases e : mg v ρ with
  | none => rw [e] at p1; exact p1.elim
  | some ρ' => rw [e] at p1; exact hg H₀ μ₀ μ1 H1 σ ρ s1 x v ρ' _ r1 hx e (fun σ' r' => p1.nx r')
theorem ss_own {i : Nat} {te : TE} {m : Env → Store → Out (List PyData)} (h : SF C E te m) : SS C E (tAsg te (gName i)) (sOwn i m) := fun H₀ μ₀ μ H σ ρ s D r p => by
  refine SG.bindS (t := te) h r p (fun x ds s1 H1 μ1 k1 r1 hx p1 => ?_)
  obtain ⟨q, vs, rfl, e, rd, nh, n0, nm, ns⟩ := hx
  exact p1.nx ⟨r1.fr, r1.er.setOwn ⟨q, vs, rfl, e, rd⟩ n0 nm (fun j sl _ e1 o1 => ns j sl e1 o1)⟩
theorem ss_dic {i : Nat} : SS C E (tAsg tDNewK (gName i)) (sDic i) := fun H₀ μ₀ μ H σ ρ s D r p q n => by
  have r1 : SR C H₀ μ₀ μ (upd H q (.dK [])) σ ρ s := r.same (sameUpd n)
  exact p _ _ _ (Same.kt (sameUpd n)) (List.prefix_refl _) ⟨r1.fr, r1.er.setOwn ⟨q, [], rfl, upd_same, .nil⟩ (r.fr.new n).1 (r.fr.new n).2 (fun j sl _ e1 o1 => r.er.new n e1 o1)⟩
theorem ss_drop {te : TE} {m : ME} (h : SE C E te m) : SS C E (tDrop te) (sDrop m) := fun H₀ μ₀ μ H σ ρ s D r p =>
  SG.bindS (t := te) h r p (fun x v s1 H1 μ1 k1 r1 hx p1 => p1.nx r1)
theorem ss_ret {te : TE} {m : ME} (h : SE C E te m) : SS C E (tRet te) (sRet m) := fun H₀ μ₀ μ H σ ρ s D r p =>
  SG.bindS (t := te) h r p (fun x v s1 H1 μ1 k1 r1 hx p1 => p1 x H1 μ1 r1.fr hx)
theorem ss_retOwn {i : Nat} : SS C E (tRet (tFz (L2.tVar i))) (sRetOwn i) := fun H₀ μ₀ μ H σ ρ s D r p => by
  unfold sRetOwn at p
  split at p
  · rename_i xs e
    obtain ⟨v, e1, q, vs, rfl, e2, e3⟩ := r.er.env i _ e
    obtain ⟨n0, nm⟩ := r.er.own i _ q e rfl e1
    exact ⟨_, e1, .inr ⟨q, vs, rfl, e2, fun o => p _ _ μ (r.fr.upd e2 trivial trivial n0 nm (frz_kt e2)) (.d (.lst ⟨o, upd_same⟩ (e3.kt (frz_kt e2))))⟩⟩
  · exact p.elim
theorem ss_retN : SS C E tRetN sRetN := fun H₀ μ₀ μ H σ ρ s D r p => p _ H μ r.fr (.d .non)
theorem ss_if {c : TT} {t u : TS} {mt : MT} {a b : MS} (hc : ST C E c mt) (ha : SS C E t a) (hb : SS C E u b) : SS C E (tIfS c t u) (sIf mt a b) := fun H₀ μ₀ μ H σ ρ s D r p => by
  refine SG.bindS (t := c) hc r p (fun x v s1 H1 μ1 k1 r1 hx p1 => ?_)
  obtain rfl := hx
  cases x with
  | true => exact iteT (ha _ _ _ _ _ _ _ _ r1 p1)
  | false => exact iteF (hb _ _ _ _ _ _ _ _ r1 p1)
theorem ss_fz {i : Nat} {t : TS} {m : MS} (h : SS C E t m) : SS C E (tFzS i t) (sFz i m) := fun H₀ μ₀ μ H σ ρ s D r p => by
  unfold sFz at p
  split at p
  · rename_i xs e
    obtain ⟨v, e1, q, vs, rfl, e2, e3⟩ := r.er.env i _ e
    refine ⟨q, vs, e1, e2, fun o => ?_⟩
    have r2 := SR.chg e2 trivial (by trivial) r (sl' := .v (.d (.list xs))) e rfl e1 (frz_kt (o := o) e2) (.d (.lst ⟨o, upd_same⟩ (e3.kt (frz_kt e2))))
    exact h H₀ μ₀ μ _ σ _ s D r2 (p.mono (frz_kt e2) (List.prefix_refl _))
  · exact p.elim
theorem own_ok {H₀ : Hp} {μ₀ μ : List Addr} {H : Hp} {ρ : Env} {D : Ends} {i : Nat} {f : List PyData → Out Fl} (p : PostS C H₀ μ₀ μ H E D (own i ρ f)) : ∃ xs, ρ[i]? = some (some (.lst xs)) ∧ PostS C H₀ μ₀ μ H E D (f xs) := by
  unfold own at p
  split at p
  · exact ⟨_, by assumption, p⟩
  · exact p.elim
theorem dat_ok {H₀ : Hp} {μ₀ μ : List Addr} {H : Hp} {D : Ends} {v : AV} {f : PyData → Out Fl} (p : PostS C H₀ μ₀ μ H E D (dat v f)) : ∃ x, v = .d x ∧ PostS C H₀ μ₀ μ H E D (f x) := by
  unfold dat at p
  split at p
  · exact ⟨_, rfl, p⟩
  · exact p.elim
theorem lim {n : Nat} (h : n < LIM) : n < sizeLine := by rw [sizeLine_eq]; unfold LIM at h; omega
theorem ss_app {i : Nat} {te : TE} {m : ME} (h : SE C E te m) : SS C E (tDrop (tBM C.K "list" rAppend (L2.tVar i) (tCons te tNil))) (sApp i m) := fun H₀ μ₀ μ H σ ρ s D r p => by
  obtain ⟨xs, e, p⟩ := own_ok p
  obtain ⟨v, e1, q, vs, rfl, e2, e3⟩ := r.er.env i _ e
  refine ⟨_, e1, .inl ⟨rfl, _, SqL.of e2⟩, ?_⟩
  refine SG.bindS (t := te) h r p (fun x v s1 H1 μ1 k1 r1 hx p1 => ?_)
  obtain ⟨d, rfl, p1⟩ := dat_ok p1
  split at p1
  · rename_i hl
    obtain ⟨w, e4, q', vs1, e5, e6, e7⟩ := r1.er.env i _ e
    rw [e1] at e4
    cases e4
    cases e5
    cases hx with
    | d hx =>
      have k := ktUpd (o := .lst (vs1 ++ [x])) e6
      refine ⟨q, vs1, x, rfl, rfl, e6, lim (by rw [e7.len]; exact hl), ?_⟩
      exact p1 _ _ μ1 k (List.prefix_refl _) (SR.chg e6 trivial (by trivial) r1 e rfl e1 k ⟨q, _, rfl, upd_same, (e7.app (.one hx)).kt k⟩)
  · exact p1.elim
/-! ### loops -/
/-- what a loop walks: the items are known ahead -/
def IterR (C : Cn) (J : It) (μ : List Addr) (H : Hp) (xs : List AV) : Prop := ∀ i H2 μ2, KeepT H H2 → μ <+: μ2 → (i < xs.length → J.go i H2 ∧ ∀ x H3, J.yld i H2 x H3 → Same H2 H3 ∧ ∃ v, xs[i]? = some v ∧ RV C μ2 H3 x v) ∧ (i = xs.length → J.stop i H2)
abbrev rI (C : Cn) : Rel It (List AV) := fun _ _ _ _ μ H J xs => IterR C J μ H xs
instance (C : Cn) : ROk (rI C) := ⟨fun _ h => h⟩
abbrev SI (C : Cn) := SG C (rI C)
theorem drop_at {α : Type} {xs : List α} {i : Nat} {v : α} (h : xs[i]? = some v) : xs.drop i = v :: xs.drop (i + 1) := by
  obtain ⟨lt, e⟩ := List.getElem?_eq_some_iff.mp h
  rw [List.drop_eq_getElem_cons lt, e]
theorem ss_for {wi : TI} {it : MA} {g : TG} {mg : MG} {tb : TS} {b : MS} (hi : SI C E wi it) (hg : GG C g mg) (hb : SS C E tb b) : SS C E (tFor wi g tb) (sFor it mg b) := fun H₀ μ₀ μ H σ ρ s D r p => by
  refine SG.bindS (t := wi) hi r p (fun J xs s1 H1 μ1 k1 r1 hJ p1 => ?_)
  refine ⟨fun i m σ2 H2 => m = xs.length - i ∧ i ≤ xs.length ∧ ∃ ρ2 s2 μ2, KeepT H1 H2 ∧ μ1 <+: μ2 ∧ SR C H₀ μ₀ μ2 H2 σ2 ρ2 s2 ∧ PostS C H₀ μ₀ μ2 H2 E D (forL mg b (xs.drop i) ρ2 s2), ⟨xs.length, by simp, Nat.zero_le _, ρ, s1, μ1, .refl _, List.prefix_refl _, r1, p1⟩, ?_⟩
  rintro i m σ2 H2 ⟨rfl, hil, ρ2, s2, μ2, k2, q2, r2, p2⟩
  obtain ⟨hgo, hst⟩ := hJ i H2 μ2 k2 q2
  by_cases lt : i < xs.length
  · right
    obtain ⟨go, yld⟩ := hgo lt
    refine ⟨go, fun σ3 H3 => ∃ ρ3 s3 μ3, KeepT H1 H3 ∧ μ1 <+: μ3 ∧ SR C H₀ μ₀ μ3 H3 σ3 ρ3 s3 ∧ PostS C H₀ μ₀ μ3 H3 E D (forL mg b (xs.drop (i + 1)) ρ3 s3), fun σ3 H3 z => ⟨xs.length - (i + 1), by omega, rfl, by omega, z⟩, fun x H3 y => ?_⟩
    obtain ⟨sm, v, ev, rv⟩ := yld x H3 y
    rw [drop_at ev, forL] at p2
    have p2 := p2.mono (Same.kt sm) (List.prefix_refl _)
    have r3 := r2.same sm
    cases eg : mg v ρ2 with
    | none => rw [eg] at p2; exact p2.elim
    | some ρ3 =>
      rw [eg] at p2
      refine hg H₀ μ₀ μ2 H3 σ2 ρ2 s2 x v ρ3 _ r3 rv eg (fun σ3 r4 => hb H₀ μ₀ μ2 H3 σ3 ρ3 s2 _ r4 ?_)
      have k3 : KeepT H1 H3 := k2.trans (Same.kt sm)
      replace p2 : PostS C H₀ μ₀ μ2 H3 E D (match b ρ3 s2 with
        | .ok (.nx ρ2) s2 => forL mg b (xs.drop (i + 1)) ρ2 s2
        | .ok (.ct ρ2) s2 => forL mg b (xs.drop (i + 1)) ρ2 s2
        | .ok (.bk ρ2) s2 => .ok (.nx ρ2) s2
        | o => o) := p2
      cases eb : b ρ3 s2 with
      | ok v s3 =>
        rw [eb] at p2
        cases v with
        | nx ρ4 => exact fun σ4 H4 μ4 k4 q4 r5 => ⟨ρ4, s3, μ4, k3.trans k4, q2.trans q4, r5, p2.mono k4 q4⟩
        | ct ρ4 => exact fun σ4 H4 μ4 k4 q4 r5 => ⟨ρ4, s3, μ4, k3.trans k4, q2.trans q4, r5, p2.mono k4 q4⟩
        | bk ρ4 => exact p2
        | rt v => exact p2
      | exc e s3 => rw [eb] at p2; exact p2
      | stk => rw [eb] at p2; exact p2
  · left
    have e : i = xs.length := by omega
    refine ⟨hst e, ?_⟩
    rw [e, List.drop_length] at p2
    exact p2.nx r2
theorem ss_while {c : TT} {mc : MT} {tb : TS} {b : MS} (n : Nat) (hc : ST C E c mc) (hb : SS C E tb b) : SS C E (tWhile c tb) (whileL mc b n) := fun H₀ μ₀ μ H σ ρ s D r p => by
  refine ⟨fun m σ2 H2 => ∃ ρ2 s2 μ2, SR C H₀ μ₀ μ2 H2 σ2 ρ2 s2 ∧ PostS C H₀ μ₀ μ2 H2 E D (whileL mc b m ρ2 s2), ⟨n, ρ, s, μ, r, p⟩, ?_⟩
  rintro m σ2 H2 ⟨ρ2, s2, μ2, r2, p2⟩
  cases m with
  | zero => exact p2.elim
  | succ m =>
    refine SG.bindS (t := c) hc r2 p2 (fun x v s1 H1 μ1 k1 r1 hx p1 => ?_)
    obtain rfl := hx
    cases x with
    | false => exact iteF (p1.nx r1)
    | true =>
      refine iteT ⟨fun σ3 H3 => ∃ ρ3 s3 μ3, SR C H₀ μ₀ μ3 H3 σ3 ρ3 s3 ∧ PostS C H₀ μ₀ μ3 H3 E D (whileL mc b m ρ3 s3), fun σ3 H3 z => ⟨m, Nat.lt_succ_self m, z⟩, ?_⟩
      refine hb H₀ μ₀ μ1 H1 σ2 ρ2 s1 _ r1 ?_
      replace p1 : PostS C H₀ μ₀ μ1 H1 E D (match b ρ2 s1 with
        | .ok (.nx ρ2) s2 => whileL mc b m ρ2 s2
        | .ok (.ct ρ2) s2 => whileL mc b m ρ2 s2
        | .ok (.bk ρ2) s2 => .ok (.nx ρ2) s2
        | o => o) := p1
      cases eb : b ρ2 s1 with
      | ok v s3 =>
        rw [eb] at p1
        cases v with
        | nx ρ4 => exact fun σ4 H4 μ4 k4 q4 r5 => ⟨ρ4, s3, μ4, r5, p1.mono k4 q4⟩
        | ct ρ4 => exact fun σ4 H4 μ4 k4 q4 r5 => ⟨ρ4, s3, μ4, r5, p1.mono k4 q4⟩
        | bk ρ4 => exact p1
        | rt v => exact p1
      | exc e s3 => rw [eb] at p1; exact p1
      | stk => rw [eb] at p1; exact p1
end
end Pz
set_option maxRecDepth 100000
set_option autoImplicit false
set_option maxHeartbeats 1000000
/-! Pz3: comprehensions, what is walked. -/
namespace Pz
open PySem PySem.Spec PyProof.Rows
open L2 Hk
section
variable {C : Cn} {H₀ : Hp} {μ₀ μ μ' : List Addr} {H H' : Hp} {σ σ' : L2.St} {ρ ρ' : Env} {s s' : Store} {E : XK}
theorem ER.step (r : ER C H₀ μ H σ ρ) (sto : StoR C μ H s) (k : Stp μ H μ' H') : ER C H₀ μ' H' σ ρ where
  len := r.len
  env := fun i sl e => by
    obtain ⟨v, e1, e2⟩ := r.env i sl e
    refine ⟨v, e1, ?_⟩
    cases sl with
    | v x => exact RV.kt k.kt k.pre e2
    | lst xs =>
      obtain ⟨q, ws, rfl, e5, e6⟩ := e2
      exact ⟨q, ws, rfl, k.keep _ _ e5 (r.own i _ q e rfl e1).2 (fun _ z => by cases z), e6.kt k.kt⟩
    | dic kvs =>
      obtain ⟨q, ws, rfl, e5, e6⟩ := e2
      exact ⟨q, ws, rfl, k.keep _ _ e5 (r.own i _ q e rfl e1).2 (fun _ z => by cases z), KV.same e6 k.kt⟩
  own := fun i sl p e o e2 => by
    obtain ⟨n0, nm⟩ := r.own i sl p e o e2
    refine ⟨n0, fun m => ?_⟩
    rcases k.fresh p m with m | m
    · exact nm m
    · obtain ⟨v, e1, e3⟩ := r.env i sl e
      rw [e2] at e1
      cases e1
      obtain ⟨q, ob, e4, e5, e6⟩ := e3.there o
      cases e4
      exact m.not e5 e6
  dis := r.dis
theorem SR.step (r : SR C H₀ μ₀ μ H σ ρ s) (k : Stp μ H μ' H') (sto : StoR C μ' H' s') (tab : LamX.Tabs C.T H') : SR C H₀ μ₀ μ' H' σ ρ s' := ⟨⟨sto, r.fr.stp.trans k, tab⟩, r.er.step r.fr.sto k⟩
/-! ### names that are put aside -/
def wipeE (ρ : Env) : List Nat → Env
  | [] => ρ
  | v :: vs => (wipeE ρ vs).set v none
theorem wipeE_len (ρ : Env) : ∀ vs : List Nat, (wipeE ρ vs).length = ρ.length
  | [] => rfl
  | v :: vs => by rw [wipeE, List.length_set, wipeE_len ρ vs]
theorem wipeE_some {ρ : Env} {i : Nat} {x : Sl} : ∀ {vs : List Nat}, (wipeE ρ vs)[i]? = some (some x) → ρ[i]? = some (some x) ∧ i ∉ vs
  | [], h => ⟨h, by simp⟩
  | v :: vs, h => by
    unfold wipeE at h
    by_cases e : v = i
    · subst e
      by_cases hv : v < (wipeE ρ vs).length
      · rw [List.getElem?_set_self hv] at h; cases h
      · rw [List.getElem?_eq_none (by rw [List.length_set]; omega)] at h; cases h
    · rw [List.getElem?_set_ne e] at h
      obtain ⟨h1, h2⟩ := wipeE_some h
      exact ⟨h1, by simp; exact ⟨Ne.symm e, h2⟩⟩
theorem wipe_in {σ : L2.St} {i : Nat} : ∀ {vs : List Nat}, i ∈ vs → i < σ.length → (wipe σ vs)[i]? = some none
  | [], h, _ => by simp at h
  | v :: vs, h, lt => by
    unfold wipe
    by_cases e : v = i
    · subst e
      rw [List.getElem?_set_self (by rw [wipe_length]; exact lt)]
    · rw [List.getElem?_set_ne e]
      exact wipe_in ((List.mem_cons.mp h).resolve_left (Ne.symm e)) lt
theorem wipe_eq {σ τ : L2.St} {vs : List Nat} (hl : σ.length = τ.length) (h : ∀ j, j ∉ vs → σ[j]? = τ[j]?) : wipe σ vs = wipe τ vs := by
  refine List.ext_getElem? fun j => ?_
  by_cases m : j ∈ vs
  · by_cases lt : j < σ.length
    · rw [wipe_in m lt, wipe_in m (by omega)]
    · rw [List.getElem?_eq_none (by rw [wipe_length]; omega), List.getElem?_eq_none (by rw [wipe_length]; omega)]
  · rw [wipe_out m, wipe_out m, h j m]
theorem SR.wipe (r : SR C H₀ μ₀ μ H σ ρ s) (vs : List Nat) : SR C H₀ μ₀ μ H (L2.wipe σ vs) (wipeE ρ vs) s := ⟨r.fr, {
  len := by rw [wipe_length, wipeE_len, r.er.len]
  env := fun i sl e => by
    obtain ⟨e1, n⟩ := wipeE_some e
    obtain ⟨v, e2, e3⟩ := r.er.env i sl e1
    exact ⟨v, by rw [wipe_out n]; exact e2, e3⟩
  own := fun i sl p e o e2 => by
    obtain ⟨e1, n⟩ := wipeE_some e
    rw [wipe_out n] at e2
    exact r.er.own i sl p e1 o e2
  dis := fun i j sl sl' p e1 e2 o1 o2 e3 e4 => by
    obtain ⟨f1, n1⟩ := wipeE_some e1
    obtain ⟨f2, n2⟩ := wipeE_some e2
    rw [wipe_out n1] at e3
    rw [wipe_out n2] at e4
    exact r.er.dis i j sl sl' p f1 f2 o1 o2 e3 e4 }⟩
/-! ### a block's targets -/
def GW (C : Cn) (vs : List Nat) (g : TG) (m : MG) : Prop := ∀ H₀ μ₀ μ H σ ρ s x v ρ' Q, SR C H₀ μ₀ μ H σ ρ s → RV C μ H x v → m v ρ = some ρ' → (∀ σ', σ'.length = σ.length → (∀ j, j ∉ vs → σ'[j]? = σ[j]?) → SR C H₀ μ₀ μ H σ' ρ' s → Q σ' H) → g x σ H Q
def GWs (C : Cn) (vs : List Nat) (g : TGs) (m : List AV → Env → Option Env) : Prop := ∀ H₀ μ₀ μ H σ ρ s x v ρ' Q, SR C H₀ μ₀ μ H σ ρ s → RVs C μ H x v → m v ρ = some ρ' → (∀ σ', σ'.length = σ.length → (∀ j, j ∉ vs → σ'[j]? = σ[j]?) → SR C H₀ μ₀ μ H σ' ρ' s → Q σ' H) → g x σ H Q
theorem gw_name {vs : List Nat} {i : Nat} (h : i ∈ vs) : GW C vs (gName i) (gN i) := fun H₀ μ₀ μ H σ ρ s x v ρ' Q r hv e q => by
  cases e
  exact q _ (by rw [List.length_set]) (fun j n => by rw [List.getElem?_set_ne (fun z => n (by rw [← z]; exact h))]) (r.set hv)
theorem gws_nil {vs : List Nat} : GWs C vs gNil gsN := fun H₀ μ₀ μ H σ ρ s x v ρ' Q r h e q => by
  cases h with
  | nil => cases e; exact ⟨rfl, q _ rfl (fun _ _ => rfl) r⟩
  | cons _ _ => cases e
theorem gws_cons {vs : List Nat} {g : TG} {gs : TGs} {m : MG} {ms : List AV → Env → Option Env} (hg : GW C vs g m) (hs : GWs C vs gs ms) : GWs C vs (gCons g gs) (gsC m ms) := fun H₀ μ₀ μ H σ ρ s x v ρ' Q r h e q => by
  cases h with
  | nil => cases e
  | @cons w ws y ys h1 h2 =>
    replace e : (m y ρ).bind (ms ys) = some ρ' := e
    cases e1 : m y ρ with
    | none => rw [e1] at e; cases e
    | some ρ1 =>
      rw [e1] at e
      exact ⟨w, ws, rfl, hg H₀ μ₀ μ H σ ρ s w y ρ1 _ r h1 e1 (fun σ1 l1 f1 r1 => hs H₀ μ₀ μ H σ1 ρ1 s ws ys ρ' _ r1 h2 e (fun σ2 l2 f2 r2 => q σ2 (l2.trans l1) (fun j n => (f2 j n).trans (f1 j n)) r2))⟩
theorem gw_tup {vs : List Nat} {n : Nat} {gs : TGs} {ms : List AV → Env → Option Env} (hs : GWs C vs gs ms) : GW C vs (gTup C.K n gs) (gT n ms) := fun H₀ μ₀ μ H σ ρ s x v ρ' Q r h e q => by
  unfold gT at e
  split at e
  · rename_i ds
    split at e
    · rename_i hl
      cases h with
      | d h => cases h with
        | @tup a xs _ h1 h2 => exact ⟨a, xs, rfl, h1, by rw [h2.len, hl], hs H₀ μ₀ μ H σ ρ s xs _ ρ' Q r h2.vs e q⟩
    · cases e
  · cases e
end
/-! ### comprehensions -/
def lcL (g : MG) (c : MT) (e : ME) : List AV → Env → Store → Out (List PyData)
  | [], _, s => .ok [] s
  | v :: vs, ρ, s => match g v ρ with
    | none => .stk
    | some ρ1 => (c ρ1 s).bind fun t s => if t = true then (e ρ1 s).bind fun y s => (match y with
        | .d y => (lcL g c e vs ρ s).bind fun ys s => .ok (y :: ys) s
        | _ => .stk) else lcL g c e vs ρ s
def fLc (it : MA) (g : MG) (c : MT) (e : ME) (vs : List Nat) : Env → Store → Out (List PyData) := fun ρ s => (it ρ s).bind fun xs s => if xs.length ≤ LIM then lcL g c e xs (wipeE ρ vs) s else .stk
def tYes : MT := fun _ s => .ok true s
theorem bind_assoc {α β γ : Type} (o : Out α) (f : α → Store → Out β) (g : β → Store → Out γ) : (o.bind f).bind g = o.bind fun a s => (f a s).bind g := by cases o <;> rfl
section
variable {C : Cn} {E : XK}
theorem st_yes : ST C E L2.tYes tYes := fun H₀ μ₀ μ H σ ρ s Q r p => p.ok r rfl
theorem lim1 {n : Nat} (h : n ≤ LIM) : n ≤ sizeLine := by rw [sizeLine_eq]; unfold LIM at h; omega
/-- first one, then what follows: the end is any -/
theorem SG.bindG {α β β' : Type} {R : Rel α β} {t : L2.St → Hp → (α → Hp → Prop) → Prop} {m : Env → Store → Out β} {f : β → Store → Out β'} {Q1 : α → Hp → Prop} {H₀ : Hp} {μ₀ μ : List Addr} {H : Hp} {σ : L2.St} {ρ : Env} {s : Store} (P : Out β' → Prop) (he : ∀ e s', P (.exc e s') → ExP C H₀ μ₀ μ H e s' E) (hs : ¬ P .stk)
    (h : SG C R E t m) (r : SR C H₀ μ₀ μ H σ ρ s) (p : P ((m ρ s).bind f))
    (k : ∀ x v s1 H1 μ1, Stp μ H μ1 H1 → SR C H₀ μ₀ μ1 H1 σ ρ s1 → R H₀ H σ ρ μ1 H1 x v → P (f v s1) → Q1 x H1) : t σ H Q1 := by
  refine h H₀ μ₀ μ H σ ρ s Q1 r ?_
  cases e : m ρ s with
  | ok v s1 =>
    rw [e] at p
    exact fun x H1 μ1 k1 r1 hx => k x v s1 H1 μ1 k1 r1 hx p
  | exc e' s1 => rw [e] at p; exact he _ _ p
  | stk => rw [e] at p; exact (hs p).elim
theorem sf_lc {wi : TI} {it : MA} {g : TG} {mg : MG} {tt : TT} {mt : MT} {te : TE} {me : ME} {vs : List Nat} (hi : SI C E wi it) (hg : GW C vs g mg) (ht : ST C E tt mt) (he : SE C E te me) : SF C E (tLc wi g tt te vs) (fLc it mg mt me vs) := fun H₀ μ₀ μ H σ ρ s Q r p => by
  refine SG.bind (t := wi) hi r p (fun J xs s1 H1 μ1 k1 r1 hJ p1 => ?_)
  split at p1
  case isFalse => exact p1.elim
  rename_i hlim
  intro D nD
  refine ⟨fun i m H2 => m = xs.length - i ∧ i ≤ xs.length ∧ ∃ s2 μ2 acc va, Stp μ1 H1 μ2 H2 ∧ StoR C μ2 H2 s2 ∧ LamX.Tabs C.T H2 ∧ D ∉ μ2 ∧ H2 D = some (.lst va) ∧ RDs C.K H2 va acc ∧ acc.length ≤ i ∧
    Post C (rF C) H₀ μ₀ σ ρ μ1 H1 E Q ((lcL mg mt me (xs.drop i) (wipeE ρ vs) s2).bind fun ys s => .ok (acc ++ ys) s),
    ⟨xs.length, by simp, Nat.zero_le _, s1, μ1, [], [], .same (sameUpd nD), r1.fr.sto.same (sameUpd nD), tabs_same r1.fr.tab (sameUpd nD), (r1.fr.new nD).2, upd_same, .nil, Nat.le_refl _, ?_⟩, ?_⟩
  · rw [List.drop_zero, show (fun (ys : List PyData) (s : Store) => (.ok ([] ++ ys) s : Out (List PyData))) = fun ys s => .ok ys s from rfl, bind_id]; exact p1
  rintro i m H2 ⟨rfl, hil, s2, μ2, acc, va, k2, sto2, tab2, nDμ, eD, rD, la, p2⟩
  obtain ⟨hgo, hst⟩ := hJ i H2 μ2 k2.kt k2.pre
  have r2 : SR C H₀ μ₀ μ2 H2 σ ρ s2 := r1.step k2 sto2 tab2
  by_cases lt : i < xs.length
  · right
    obtain ⟨go, yld⟩ := hgo lt
    refine ⟨go, fun H3 => ∃ s2 μ2 acc va, Stp μ1 H1 μ2 H3 ∧ StoR C μ2 H3 s2 ∧ LamX.Tabs C.T H3 ∧ D ∉ μ2 ∧ H3 D = some (.lst va) ∧ RDs C.K H3 va acc ∧ acc.length ≤ i + 1 ∧
      Post C (rF C) H₀ μ₀ σ ρ μ1 H1 E Q ((lcL mg mt me (xs.drop (i + 1)) (wipeE ρ vs) s2).bind fun ys s => .ok (acc ++ ys) s), fun H3 z => ⟨xs.length - (i + 1), by omega, rfl, by omega, z⟩, fun x H3 y => ?_⟩
    obtain ⟨sm, v, ev, rv⟩ := yld x H3 y
    rw [drop_at ev, lcL] at p2
    have k3 := k2.trans (Stp.same (μ := μ2) sm)
    have r3 := r2.same sm
    have r4 := r3.wipe vs
    cases eg : mg v (wipeE ρ vs) with
    | none => rw [eg] at p2; exact p2.elim
    | some ρ1 =>
      rw [eg] at p2
      refine hg H₀ μ₀ μ2 H3 _ _ s2 x v ρ1 _ r4 rv eg (fun σ4 l4 f4 r5 => ⟨?_, ?_⟩)
      · exact wipe_eq (l4.trans (wipe_length σ vs)) (fun j n => (f4 j n).trans (wipe_out n))
      replace p2 : Post C (rF C) H₀ μ₀ σ ρ μ1 H1 E Q (((mt ρ1 s2).bind fun t s => if t = true then (me ρ1 s).bind fun y s => (match y with
        | .d y => (lcL mg mt me (xs.drop (i + 1)) (wipeE ρ vs) s).bind fun ys s => .ok (y :: ys) s
        | _ => .stk) else lcL mg mt me (xs.drop (i + 1)) (wipeE ρ vs) s).bind fun ys s => .ok (acc ++ ys) s) := p2
      rw [bind_assoc] at p2
      refine SG.bindG (t := tt) (Post C (rF C) H₀ μ₀ σ ρ μ1 H1 E Q) (fun _ _ z c dd H9 μ9 k => z c dd H9 μ9 (k3.trans k)) (fun z => z) ht r5 p2 (fun b b' s5 H5 μ5 k5 r6 e p5 => ?_)
      obtain rfl := e
      have eD5 : ∀ {H6 : Hp} {μ6 : List Addr}, Stp μ2 H3 μ6 H6 → H6 D = some (.lst va) ∧ D ∉ μ6 := fun {H6 μ6} k => ⟨k.keep _ _ (sm _ _ eD) nDμ (fun _ z => by cases z), fun m => by
        rcases k.fresh D m with m | m
        · exact nDμ m
        · exact m.not (sm _ _ eD) (fun _ z => by cases z)⟩
      cases b with
      | false =>
        refine iteF ⟨s5, μ5, acc, va, k3.trans k5, r6.fr.sto, r6.fr.tab, (eD5 k5).2, (eD5 k5).1, rD.kt ((Same.kt sm).trans k5.kt), by omega, p5⟩
      | true =>
        refine iteT ?_
        replace p5 : Post C (rF C) H₀ μ₀ σ ρ μ1 H1 E Q (((me ρ1 s5).bind fun y s => (match y with
          | .d y => (lcL mg mt me (xs.drop (i + 1)) (wipeE ρ vs) s).bind fun ys s => .ok (y :: ys) s
          | _ => .stk)).bind fun ys s => .ok (acc ++ ys) s) := p5
        rw [bind_assoc] at p5
        refine SG.bindG (t := te) (Post C (rF C) H₀ μ₀ σ ρ μ1 H1 E Q) (fun _ _ z c dd H9 μ9 k => z c dd H9 μ9 ((k3.trans k5).trans k)) (fun z => z) he r6 p5 (fun y y' s7 H7 μ7 k7 r7 hy p7 => ?_)
        cases hy with
        | ref h => exact p7.elim
        | fn h => exact p7.elim
        | @d _ d hy =>
          have k8 := k5.trans k7
          have kD := ktUpd (o := .lst (va ++ [y])) (eD5 k8).1
          refine ⟨va, (eD5 k8).1, by rw [rD.len, sizeLine_eq]; unfold LIM at hlim; omega, s7, μ7, acc ++ [d], va ++ [y], (k3.trans k8).upd (.of nD) (fun _ z => by cases z) kD, (r7.fr.upd (eD5 k8).1 trivial (by trivial) (r1.fr.new nD).1 (eD5 k8).2 kD).sto, (r7.fr.upd (eD5 k8).1 trivial (by trivial) (r1.fr.new nD).1 (eD5 k8).2 kD).tab, (eD5 k8).2, upd_same, ((rD.kt ((Same.kt sm).trans k8.kt)).app (.one hy)).kt kD, by rw [List.length_append]; simp; omega, ?_⟩
          replace p7 : Post C (rF C) H₀ μ₀ σ ρ μ1 H1 E Q (((lcL mg mt me (xs.drop (i + 1)) (wipeE ρ vs) s7).bind fun ys s => .ok (d :: ys) s).bind fun ys s => .ok (acc ++ ys) s) := p7
          rw [bind_assoc] at p7
          simpa only [bind_ok, List.append_assoc, List.singleton_append] using p7
  · left
    have e : i = xs.length := by omega
    refine ⟨hst e, ?_⟩
    rw [e, List.drop_length] at p2
    replace p2 : Post C (rF C) H₀ μ₀ σ ρ μ1 H1 E Q (.ok (acc ++ []) s2) := p2
    rw [List.append_nil] at p2
    exact p2 (.ref D) H2 μ2 k2 r2 ⟨D, va, rfl, eD, rD, .of nD, (r1.fr.new nD).1, nDμ, fun j sl e1 o1 => r1.er.new nD e1 o1⟩
end
end Pz
set_option maxRecDepth 100000
set_option autoImplicit false
set_option maxHeartbeats 1000000
/-! Pz4: what is walked, operations on data. -/
namespace Pz
open PySem PySem.Spec PyProof.Rows
open L2 Hk
/-! ### what is walked -/
def itLst (a : ME) : MA := fun ρ s => (a ρ s).bind fun v s => match v with
  | .d (.list ds) => .ok (ds.map AV.d) s
  | _ => .stk
def itTup (a : ME) : MA := fun ρ s => (a ρ s).bind fun v s => match v with
  | .d (.tuple ds) => .ok (ds.map AV.d) s
  | _ => .stk
/-- i, i + 1, .. below j -/
def rng (i j : Int) : List Int := (List.range (j - i).toNat).map fun (k : Nat) => i + (k : Nat)
/-- (natural numbers: the kernel must not count down from such an Int) -/
@[irreducible] def B62 : Nat := 4611686018427387904
def itRng1 (a : ME) : MA := fun ρ s => (a ρ s).bind fun v s => match v with
  | .d (.int j) => if j.natAbs < B62 then .ok ((rng 0 j).map fun i => .d (.int i)) s else .stk
  | _ => .stk
def itRng2 (a b : ME) : MA := fun ρ s => (a ρ s).bind fun v s => (b ρ s).bind fun w s => match v, w with
  | .d (.int i), .d (.int j) => if i.natAbs < B62 ∧ j.natAbs < B62 then .ok ((rng i j).map fun i => .d (.int i)) s else .stk
  | _, _ => .stk
/-- (0, x0), (1, x1), .. -/
def enumD (ds : List PyData) : List AV := (ds.zipIdx 0).map fun p => .d (.tuple [.int (p.2 : Nat), p.1])
def itEnumT (a : ME) : MA := fun ρ s => (a ρ s).bind fun v s => match v with
  | .d (.tuple ds) => .ok (enumD ds) s
  | _ => .stk
def itEnumZ (a b : ME) : MA := fun ρ s => (a ρ s).bind fun v s => (b ρ s).bind fun w s => match v, w with
  | .d (.tuple ds), .d (.tuple es) => .ok (enumD ((ds.zip es).map fun p => .tuple [p.1, p.2])) s
  | _, _ => .stk
def itStr (a : ME) : MA := fun ρ s => (a ρ s).bind fun v s => match v with
  | .d (.str x) => .ok (x.cps.toList.map fun c => .d (.str ⟨#[c]⟩)) s
  | _ => .stk
section
variable {C : Cn} {E : XK}
theorem SqT.inj2 : True := trivial
theorem si_lst {te : TE} {m : ME} (h : SE C E te m) : SI C E (iList C.K te) (itLst m) := fun H₀ μ₀ μ H σ ρ s Q r p => by
  refine SG.bind (t := te) h r p (fun x v s1 H1 μ1 k1 r1 hx p1 => ?_)
  split at p1
  · rename_i ds
    cases hx with
    | d hx => cases hx with
      | @lst a xs _ hq rd =>
        refine ⟨a, rfl, ⟨xs, hq.sq⟩, p1 _ H1 μ1 (.refl _ _) r1 (fun i H2 μ2 k q => ⟨fun lt => ?_, fun e => ⟨xs, (hq.kt k).sq, by rw [rd.len, e, List.length_map]; exact Nat.le_refl _⟩⟩)⟩
        rw [List.length_map] at lt
        have lx : i < xs.length := by rw [rd.len]; exact lt
        refine ⟨⟨xs, xs[i], (hq.kt k).sq, List.getElem?_eq_getElem lx⟩, fun x H3 y => ?_⟩
        obtain ⟨rfl, y⟩ := y
        have e := y xs (hq.kt k).sq
        obtain ⟨d, e1, e2⟩ := (rd.kt k).get e
        exact ⟨.refl _, .d d, by rw [List.getElem?_map, e1]; rfl, .d e2⟩
  · exact p1.elim
theorem si_tup {te : TE} {m : ME} (h : SE C E te m) : SI C E (iTup C.K te) (itTup m) := fun H₀ μ₀ μ H σ ρ s Q r p => by
  refine SG.bind (t := te) h r p (fun x v s1 H1 μ1 k1 r1 hx p1 => ?_)
  split at p1
  · rename_i ds
    cases hx with
    | d hx => cases hx with
      | @tup a xs _ hq rd =>
        refine ⟨a, rfl, ⟨xs, hq⟩, p1 _ H1 μ1 (.refl _ _) r1 (fun i H2 μ2 k q => ⟨fun lt => ?_, fun e => ⟨xs, SqT.kt k hq, by rw [rd.len, e, List.length_map]; exact Nat.le_refl _⟩⟩)⟩
        rw [List.length_map] at lt
        have lx : i < xs.length := by rw [rd.len]; exact lt
        refine ⟨⟨xs, xs[i], SqT.kt k hq, List.getElem?_eq_getElem lx⟩, fun x H3 y => ?_⟩
        obtain ⟨rfl, y⟩ := y
        have e := y xs (SqT.kt k hq)
        obtain ⟨d, e1, e2⟩ := (rd.kt k).get e
        exact ⟨.refl _, .d d, by rw [List.getElem?_map, e1]; rfl, .d e2⟩
  · exact p1.elim
theorem iter_rng {μ : List Addr} {H : Hp} (lo hi : Int) : IterR C (Itr lo (hi - lo).toNat) μ H ((rng lo hi).map fun i => .d (.int i)) := fun i H2 μ2 k q => by
  have hl : ((rng lo hi).map fun i => AV.d (.int i)).length = (hi - lo).toNat := by unfold rng; simp
  refine ⟨fun lt => ⟨by rw [← hl]; exact lt, fun x H3 y => ?_⟩, fun e => by rw [← hl, ← e]; exact Nat.le_refl _⟩
  obtain ⟨rfl, rfl⟩ := y
  refine ⟨.refl _, .d (.int (lo + (i : Nat))), ?_, .d (.int _)⟩
  unfold rng
  rw [hl] at lt
  rw [List.getElem?_map, List.getElem?_map, List.getElem?_range lt]
  rfl
theorem si_rng1 {te : TE} {m : ME} (h : SE C E te m) : SI C E (iRng1 (tCons te tNil)) (itRng1 m) := fun H₀ μ₀ μ H σ ρ s Q r p => by
  refine SG.bind (t := te) h r p (fun x v s1 H1 μ1 k1 r1 hx p1 => ?_)
  split at p1
  · rename_i j
    split at p1
    · rename_i hj
      cases hx with
      | d hx =>
        cases hx
        unfold B62 at hj
        have e := iter_rng (C := C) (μ := μ1) (H := H1) 0 j
        rw [Int.sub_zero] at e
        exact ⟨j, rfl, by omega, by omega, p1 _ H1 μ1 (.refl _ _) r1 e⟩
    · exact p1.elim
  · exact p1.elim
theorem si_rng2 {te tf : TE} {m n : ME} (h : SE C E te m) (h2 : SE C E tf n) : SI C E (iRng2 (tCons te (tCons tf tNil))) (itRng2 m n) := fun H₀ μ₀ μ H σ ρ s Q r p => by
  refine SG.bind (t := te) h r p (fun x v s1 H1 μ1 k1 r1 hx p1 => ?_)
  refine SG.bind (t := tf) h2 r1 p1 (fun y w s2 H2 μ2 k2 r2 hy p2 => ?_)
  split at p2
  · rename_i i j
    split at p2
    · rename_i hj
      cases hx with
      | d hx =>
        cases hx
        cases hy with
        | d hy =>
          cases hy
          unfold B62 at hj
          exact ⟨i, j, rfl, by omega, p2 _ H2 μ2 (.refl _ _) r2 (iter_rng i j)⟩
    · exact p2.elim
  · exact p2.elim
theorem enumD_get {ds : List PyData} {i : Nat} {d : PyData} (h : ds[i]? = some d) : (enumD ds)[i]? = some (.d (.tuple [.int (i : Nat), d])) := by
  unfold enumD
  rw [List.getElem?_map, List.getElem?_zipIdx, h]
  simp
theorem enumD_len (ds : List PyData) : (enumD ds).length = ds.length := by unfold enumD; simp
theorem si_enumT {te : TE} {m : ME} (h : SE C E te m) : SI C E (iEnumT C.K (tCons te tNil)) (itEnumT m) := fun H₀ μ₀ μ H σ ρ s Q r p => by
  refine SG.bind (t := te) h r p (fun x v s1 H1 μ1 k1 r1 hx p1 => ?_)
  split at p1
  · rename_i ds
    cases hx with
    | d hx => cases hx with
      | @tup a xs _ hq rd =>
        refine ⟨a, xs, rfl, hq, p1 _ H1 μ1 (.refl _ _) r1 (fun i H2 μ2 k q => ⟨fun lt => ?_, fun e => ⟨xs, SqT.kt k hq, by rw [rd.len, e, enumD_len]; exact Nat.le_refl _⟩⟩)⟩
        rw [enumD_len] at lt
        have lx : i < xs.length := by rw [rd.len]; exact lt
        refine ⟨⟨xs, xs[i], SqT.kt k hq, List.getElem?_eq_getElem lx⟩, fun x H3 y => ?_⟩
        obtain ⟨U, x', rfl, nU, rfl, y⟩ := y
        have e := y xs (SqT.kt k hq)
        obtain ⟨d, e1, e2⟩ := (rd.kt k).get e
        refine ⟨sameUpd nU, _, enumD_get e1, .d (.tup (.inl (.inl upd_same)) (.cons (.int _) (.one (e2.kt (Same.kt (sameUpd nU))))))⟩
  · exact p1.elim
theorem si_enumZ {te tf : TE} {m n : ME} (h : SE C E te m) (h2 : SE C E tf n) : SI C E (iEnumZ C.K (tCons te (tCons tf tNil))) (itEnumZ m n) := fun H₀ μ₀ μ H σ ρ s Q r p => by
  refine SG.bind (t := te) h r p (fun x v s1 H1 μ1 k1 r1 hx p1 => ?_)
  refine SG.bind (t := tf) h2 r1 p1 (fun y w s2 H2 μ2 k2 r2 hy p2 => ?_)
  split at p2
  · rename_i ds es
    cases hx.kt k2.kt k2.pre with
    | d hx => cases hx with
      | @tup a xs _ hq rd =>
        cases hy with
        | d hy => cases hy with
          | @tup b ys _ hq2 rd2 =>
            have lz : (enumD ((ds.zip es).map fun p => PyData.tuple [p.1, p.2])).length = min ds.length es.length := by rw [enumD_len, List.length_map, List.length_zip]
            refine ⟨a, b, xs, ys, rfl, hq, hq2, p2 _ H2 μ2 (.refl _ _) r2 (fun i H3 μ3 k q => ⟨fun lt => ?_, fun e => ⟨xs, ys, SqT.kt k hq, SqT.kt k hq2, by rw [rd.len, rd2.len]; rw [lz] at e; omega⟩⟩)⟩
            rw [lz] at lt
            have lx : i < xs.length := by rw [rd.len]; omega
            have ly : i < ys.length := by rw [rd2.len]; omega
            refine ⟨⟨xs, ys, xs[i], ys[i], SqT.kt k hq, SqT.kt k hq2, List.getElem?_eq_getElem lx, List.getElem?_eq_getElem ly⟩, fun x H4 z => ?_⟩
            obtain ⟨T, U, x', y', rfl, nT, nU, ne, rfl, z1, z2⟩ := z
            obtain ⟨d, e1, e2⟩ := (rd.kt k).get (z1 xs (SqT.kt k hq))
            obtain ⟨f, f1, f2⟩ := (rd2.kt k).get (z2 ys (SqT.kt k hq2))
            have nU' : (upd H3 T (.tup [x', y'])) U = none := by rw [upd_ne (Ne.symm ne)]; exact nU
            have sm := (sameUpd (o := .tup [x', y']) nT).trans (sameUpd (o := .tup [.int (i : Nat), .ref T]) nU')
            refine ⟨sm, _, enumD_get (d := .tuple [d, f]) ?_, .d (.tup (.inl (.inl upd_same)) (.cons (.int _) (.one (.tup (.inl (.inl ((sameUpd nU') _ _ upd_same))) (.cons (e2.kt (Same.kt sm)) (.one (f2.kt (Same.kt sm))))))))⟩
            rw [List.getElem?_map, (List.getElem?_zip_eq_some (z := (d, f))).mpr ⟨e1, f1⟩]
            rfl
  · exact p2.elim
theorem si_str {te : TE} {m : ME} (h : SE C E te m) : SI C E (iStr te) (itStr m) := fun H₀ μ₀ μ H σ ρ s Q r p => by
  refine SG.bind (t := te) h r p (fun x v s1 H1 μ1 k1 r1 hx p1 => ?_)
  split at p1
  · rename_i z
    cases hx with
    | d hx =>
      cases hx
      refine ⟨z, rfl, p1 _ H1 μ1 (.refl _ _) r1 (fun i H2 μ2 k q => ⟨fun lt => ?_, fun e => ?_⟩)⟩
      · rw [List.length_map, Array.length_toList] at lt
        refine ⟨lt, fun x H3 y => ?_⟩
        obtain ⟨rfl, c, e, rfl⟩ := y
        exact ⟨.refl _, .d (.str ⟨#[c]⟩), by rw [List.getElem?_map, Array.getElem?_toList, e]; rfl, .d (.str _)⟩
      · rw [List.length_map, Array.length_toList] at e
        exact Nat.le_of_eq e.symm
  · exact p1.elim
end
end Pz
set_option maxRecDepth 100000
set_option autoImplicit false
set_option maxHeartbeats 1000000
/-! Pz5: operations on data. -/
namespace Pz
open PySem PySem.Spec PyProof.Rows
open L2 Hk
/-! ### list + list, whatever lists they are -/
section
variable {X : Cx}
def rCatA : R2 := fun x y H Q => ∃ l b xs zs, x = .ref l ∧ y = .ref b ∧ Rd H l (.lst xs) ∧ Rd H b (.lst zs) ∧ xs.length + zs.length ≤ sizeLine ∧ ∀ p, H p = none → Q (.ref p) (upd H p (.lst (xs ++ zs)))
theorem op_catA : OpR X (binaryOp .Add) rCatA := by
  intro pins s σ H x y v u Q I rx ry h
  obtain ⟨l, b, xs, zs, rfl, rfl, hH, hB, hz, q⟩ := h
  cases rx
  cases ry
  obtain ⟨hl, its, n, r, e⟩ := hH.ok I.hok
  obtain ⟨hl2, its2, n2, r2, e2⟩ := hB.ok I.hok
  refine PySem.P.add_list e e2 ?_ (by rw [List.size_toArray, List.size_toArray]; have := r.length; have := r2.length; omega)
  have ea : its.toArray ++ its2.toArray = (its ++ its2).toArray := by simp
  rw [ea]
  exact ⟨.ref _, _, I.lnew (t' := s.toks) (r.append r2) (by rw [List.length_append]; omega), rfl, q _ I.fresh⟩
end
/-! ### + - * // % ** -/
def addD : PyData → PyData → Option PyData
  | .int i, .int j => some (.int (i + j))
  | .str x, .str y => if x.length + y.length ≤ LIM then some (.str (x ++ y)) else none
  | .tuple xs, .tuple ys => if xs.length + ys.length ≤ LIM then some (.tuple (xs ++ ys)) else none
  | _, _ => none
def subD : PyData → PyData → Option PyData
  | .int i, .int j => some (.int (i - j))
  | _, _ => none
@[irreducible] def B64 : Nat := 18446744073709551616
def mulD : PyData → PyData → Option PyData
  | .int i, .int j => if i.natAbs < B64 ∨ j.natAbs < B64 then some (.int (i * j)) else none
  | _, _ => none
def modD : PyData → PyData → Option PyData
  | .int i, .int j => if j ≠ 0 then some (.int (i.fmod j)) else none
  | _, _ => none
def fdivD : PyData → PyData → Option PyData
  | .int i, .int j => if j ≠ 0 ∧ j.natAbs < 1073741824 then some (.int (i.fdiv j)) else none
  | _, _ => none
def powD : PyData → PyData → Option PyData
  | .int i, .int j => if 0 ≤ j ∧ j ≤ 1000000 ∧ i.natAbs < 18446744073709551616 then some (.int (i ^ j.toNat)) else none
  | _, _ => none
def negD : PyData → Option PyData
  | .int i => some (.int (-i))
  | _ => none
/-! ### == != < <= > >= is None -/
def eqB (a b : PyData) : Option Bool := match a, b with
  | .int i, .int j => some (decide (i = j))
  | .str x, .str y => some (decide (x = y))
  | a, b => if SeqAt.shaped a && SeqAt.shaped b then some (PyData.eqv a b) else none
def eqD (a b : PyData) : Option PyData := (eqB a b).map .bool
def neD (a b : PyData) : Option PyData := (eqB a b).map fun c => .bool (!c)
def cmpD (f : Int → Int → Bool) : PyData → PyData → Option PyData
  | .int i, .int j => some (.bool (f i j))
  | _, _ => none
abbrev ltD := cmpD fun i j => decide (i < j)
abbrev leD := cmpD fun i j => decide (i ≤ j)
abbrev gtD := cmpD fun i j => decide (j < i)
abbrev geD := cmpD fun i j => decide (j ≤ i)
def isNoneD : PyData → Bool
  | .none => true
  | _ => false
def isND : PyData → PyData → Option PyData
  | a, .none => some (.bool (isNoneD a))
  | _, _ => none
def notND : PyData → PyData → Option PyData
  | a, .none => some (.bool (!isNoneD a))
  | _, _ => none
/-! ### items -/
def ixD : PyData → PyData → Option PyData
  | .tuple xs, .int i => atI xs i
  | .list xs, .int i => atI xs i
  | .str z, .int i => if z.length ≤ LIM then (atI z.cps.toList i).map fun c => .str ⟨#[c]⟩ else none
  | _, _ => none
def cutD (xs : List PyData) (lo hi : Option Int) : List PyData := (xs.drop (HT.sIx xs.length 0 lo)).take (HT.sIx xs.length xs.length hi - HT.sIx xs.length 0 lo)
/-- what is flat: no list, no tuple -/
def flatD : PyData → Bool
  | .none => true
  | .bool _ => true
  | .int _ => true
  | .str _ => true
  | _ => false
def inD : PyData → PyData → Option Bool
  | x, .tuple ys => if flatD x && ys.all flatD then some (ys.any fun y => PyData.eqv y x) else none
  | x, .list ys => if flatD x && ys.all flatD then some (ys.any fun y => PyData.eqv y x) else none
  | _, _ => none
def isInD (x y : PyData) : Option PyData := (inD x y).map .bool
def notInD (x y : PyData) : Option PyData := (inD x y).map fun c => .bool (!c)
section
variable {K : PySem.W.Frag} {X : Cx}
theorem limS {n : Nat} (h : n ≤ LIM) : n ≤ sizeLine := lim1 h
theorem os_add : OpS K (UAdd K) addD := fun H x y a b z Q hx hy e q => by
  unfold addD at e
  split at e
  · cases e; cases hx.int; cases hy.int; exact .int (q _ H (.refl _) (.int _))
  · split at e
    · rename_i h; cases e; cases hx.str; cases hy.str; exact .str (limS h) (q _ H (.refl _) (.str _))
    · cases e
  · split at e
    · rename_i h
      cases e
      obtain ⟨p, vs, rfl, h1, r1⟩ := hx.tuple
      obtain ⟨p', ws, rfl, h2, r2⟩ := hy.tuple
      exact .tup h1 h2 (by rw [r1.len, r2.len]; exact limS h) (fun p H' sm hT => q _ H' sm (.tup hT ((r1.app r2).kt (Same.kt sm))))
    · cases e
  · cases e
theorem os_sub : OpS K USub subD := fun H x y a b z Q hx hy e q => by
  unfold subD at e
  split at e
  · cases e; cases hx.int; cases hy.int; exact ⟨_, _, rfl, rfl, q _ H (.refl _) (.int _)⟩
  · cases e
theorem os_mul : OpS K UMul mulD := fun H x y a b z Q hx hy e q => by
  unfold mulD at e
  split at e
  · split at e
    · rename_i h
      cases e; cases hx.int; cases hy.int
      unfold B64 at h
      exact ⟨_, _, rfl, rfl, by unfold CMul; omega, q _ H (.refl _) (.int _)⟩
    · cases e
  · cases e
theorem os_mod : OpS K UMod modD := fun H x y a b z Q hx hy e q => by
  unfold modD at e
  split at e
  · split at e
    · rename_i h; cases e; cases hx.int; cases hy.int; exact ⟨_, _, rfl, rfl, h, q _ H (.refl _) (.int _)⟩
    · cases e
  · cases e
theorem os_fdiv : OpS K UFdiv fdivD := fun H x y a b z Q hx hy e q => by
  unfold fdivD at e
  split at e
  · split at e
    · rename_i h; cases e; cases hx.int; cases hy.int; exact ⟨_, _, rfl, rfl, h, q _ H (.refl _) (.int _)⟩
    · cases e
  · cases e
theorem os_pow : OpS K UPow powD := fun H x y a b z Q hx hy e q => by
  unfold powD at e
  split at e
  · split at e
    · rename_i h; cases e; cases hx.int; cases hy.int; exact ⟨_, _, rfl, rfl, ⟨h.1, h.2.1, by have := h.2.2; omega⟩, q _ H (.refl _) (.int _)⟩
    · cases e
  · cases e
theorem ou_neg : OpU K (rU fun i => V.int (-i)) negD := fun H x a z Q hx e q => by
  unfold negD at e
  split at e
  · cases e; cases hx.int; exact ⟨_, rfl, q _ H (.refl _) (.int _)⟩
  · cases e
theorem os_eq : OpS K (UEq K) eqD := fun H x y a b z Q hx hy e q => by
  unfold eqD eqB at e
  split at e
  · cases e; cases hx.int; cases hy.int; exact .int (q _ H (.refl _) (.bl _))
  · cases e; cases hx.str; cases hy.str; exact .str (q _ H (.refl _) (.bl _))
  · split at e
    · rename_i h
      cases e
      rw [Bool.and_eq_true] at h
      exact .dat hx.dp hy.dp h.1 h.2 (q _ H (.refl _) (.bl _))
    · cases e
theorem os_ne : OpS K (UNe K) neD := fun H x y a b z Q hx hy e q => by
  unfold neD eqB at e
  split at e
  · cases e; cases hx.int; cases hy.int; exact .int (q _ H (.refl _) (.bl _))
  · cases e; cases hx.str; cases hy.str; exact .str (q _ H (.refl _) (.bl _))
  · split at e
    · rename_i h
      cases e
      rw [Bool.and_eq_true] at h
      exact .dat hx.dp hy.dp h.1 h.2 (q _ H (.refl _) (.bl _))
    · cases e
theorem os_cmp (f : Int → Int → Bool) : OpS K (rI0 fun i j => .bl (f i j)) (cmpD f) := fun H x y a b z Q hx hy e q => by
  unfold cmpD at e
  split at e
  · cases e; cases hx.int; cases hy.int; exact ⟨_, _, rfl, rfl, q _ H (.refl _) (.bl _)⟩
  · cases e
theorem bd_non {H : Hp} {x : V} {a : PyData} (h : BD K H x a) : decide (x = .non) = isNoneD a := by
  cases h with
  | of h => cases h <;> first | rfl | simp [isNoneD]
  | own h r => rfl
theorem os_isN : OpS K (fun x y H Q => y = .non ∧ Q (.bl (decide (x = .non))) H) isND := fun H x y a b z Q hx hy e q => by
  unfold isND at e
  split at e
  · cases e; cases hy.non; exact ⟨rfl, by rw [bd_non hx]; exact q _ H (.refl _) (.bl _)⟩
  · cases e
theorem os_notN : OpS K (fun x y H Q => y = .non ∧ Q (.bl (!decide (x = .non))) H) notND := fun H x y a b z Q hx hy e q => by
  unfold notND at e
  split at e
  · cases e; cases hy.non; exact ⟨rfl, by rw [bd_non hx]; exact q _ H (.refl _) (.bl _)⟩
  · cases e
theorem atI_rd {H : Hp} {vs : List V} {ds : List PyData} {i : Int} {d : PyData} (r : RDs K H vs ds) (h : atI ds i = some d) : ∃ v, atI vs i = some v ∧ RD K H v d := by
  unfold atI at h ⊢
  rw [r.len]
  cases e : ixN ds.length i with
  | none => rw [e] at h; cases h
  | some j =>
    rw [e] at h
    exact r.get' h
theorem os_ix : OpS K (UIx K) ixD := fun H x y a b z Q hx hy e q => by
  unfold ixD at e
  split at e
  · cases hy.int
    obtain ⟨p, vs, rfl, h1, r1⟩ := hx.tuple
    obtain ⟨v, e1, e2⟩ := atI_rd r1 e
    exact .tup h1 e1 (q _ H (.refl _) e2)
  · cases hy.int
    obtain ⟨p, vs, rfl, h1, r1⟩ := hx.list
    obtain ⟨v, e1, e2⟩ := atI_rd r1 e
    exact .lst h1 e1 (q _ H (.refl _) e2)
  · split at e
    · rename_i z' i h
      cases hy.int
      cases hx.str
      cases e1 : atI z'.cps.toList i with
      | none => rw [e1] at e; cases e
      | some c =>
        rw [e1] at e
        cases e
        exact .str (limS h) e1 (q _ H (.refl _) (.str _))
    · cases e
  · cases e
theorem flat_rd {H : Hp} {v : V} {d : PyData} (h : RD K H v d) (f : flatD d = true) : flatV v = true := by
  cases h <;> first | rfl | cases f
theorem eqv_flat {H : Hp} {v w : V} {d e : PyData} (h : RD K H v d) (g : RD K H w e) (f : flatD d = true) (f2 : flatD e = true) : eqV v w = PyData.eqv d e := by
  cases h <;> cases g <;> first | rfl | cases f | cases f2
theorem flats_rd {H : Hp} : ∀ {vs : List V} {ds : List PyData}, RDs K H vs ds → ds.all flatD = true → vs.all flatV = true
  | _, _, .nil, _ => rfl
  | _, _, .cons h r, f => by
    rw [List.all_cons, Bool.and_eq_true] at f ⊢
    exact ⟨flat_rd h f.1, flats_rd r f.2⟩
theorem inV_rd {H : Hp} {x : V} {d : PyData} (hx : RD K H x d) (fx : flatD d = true) : ∀ {vs : List V} {ds : List PyData}, RDs K H vs ds → ds.all flatD = true → inV x vs = ds.any fun y => PyData.eqv y d
  | _, _, .nil, _ => rfl
  | _, _, .cons h r, f => by
    rw [List.all_cons, Bool.and_eq_true] at f
    show (eqV _ x || inV x _) = _
    rw [eqv_flat h hx f.1 fx, inV_rd hx fx r f.2]
    rfl
theorem bd_flat {H : Hp} {x : V} {d : PyData} (h : BD K H x d) (f : flatD d = true) : RD K H x d := by
  cases h with
  | of h => exact h
  | own h r => cases f
theorem in_core {H : Hp} {x y : V} {a b : PyData} {c : Bool} (hx : BD K H x a) (hy : BD K H y b) (e : inD a b = some c) : ∃ p xs, y = .ref p ∧ (SqL K H p xs ∨ SqT K H p xs) ∧ flatV x = true ∧ xs.all flatV = true ∧ inV x xs = c := by
  unfold inD at e
  split at e
  · split at e
    · rename_i h
      rw [Bool.and_eq_true] at h
      cases e
      obtain ⟨p, vs, rfl, h1, r1⟩ := hy.tuple
      have hx := bd_flat hx h.1
      exact ⟨p, vs, rfl, .inr h1, flat_rd hx h.1, flats_rd r1 h.2, inV_rd hx h.1 r1 h.2⟩
    · cases e
  · split at e
    · rename_i h
      rw [Bool.and_eq_true] at h
      cases e
      obtain ⟨p, vs, rfl, h1, r1⟩ := hy.list
      have hx := bd_flat hx h.1
      exact ⟨p, vs, rfl, .inl h1, flat_rd hx h.1, flats_rd r1 h.2, inV_rd hx h.1 r1 h.2⟩
    · cases e
  · cases e
theorem os_in : OpS K (rIn K false) isInD := fun H x y a b z Q hx hy e q => by
  unfold isInD at e
  cases e1 : inD a b with
  | none => rw [e1] at e; cases e
  | some c =>
    rw [e1] at e
    cases e
    obtain ⟨p, xs, rfl, h1, h2, h3, h4⟩ := in_core hx hy e1
    exact ⟨p, xs, rfl, h1, h2, h3, by rw [h4]; exact q _ H (.refl _) (.bl _)⟩
theorem os_notIn : OpS K (rIn K true) notInD := fun H x y a b z Q hx hy e q => by
  unfold notInD at e
  cases e1 : inD a b with
  | none => rw [e1] at e; cases e
  | some c =>
    rw [e1] at e
    cases e
    obtain ⟨p, xs, rfl, h1, h2, h3, h4⟩ := in_core hx hy e1
    exact ⟨p, xs, rfl, h1, h2, h3, by rw [h4]; exact q _ H (.refl _) (.bl _)⟩
end
end Pz
set_option maxRecDepth 100000
set_option autoImplicit false
set_option maxHeartbeats 1000000
/-! Pz6: more operations: lists, slices, built-ins, dicts, objects of the store. -/
namespace Pz
open PySem PySem.Spec PyProof.Rows
open L2 Hk
/-! ### operations that may give a new list -/
def OpZ (K : PySem.W.Frag) (r : R2) (f : PyData → PyData → Option PyData) : Prop := ∀ (H : Hp) (x y : V) (a b z : PyData) (Q : VK), BD K H x a → BD K H y b → f a b = some z → (∀ w H', Same H H' → RD K H' w z → Q w H') → r x y H (Fz Q)
theorem fzL {K : PySem.W.Frag} {H : Hp} {vs : List V} {ds : List PyData} {Q : VK} (r : RDs K H vs ds) (q : ∀ w H', Same H H' → RD K H' w (.list ds) → Q w H') : ∀ p, H p = none → Fz Q (.ref p) (upd H p (.lst vs)) := fun p n => .inr ⟨p, vs, rfl, upd_same, fun o => by
  rw [upd_upd]
  exact q _ _ (sameUpd n) (.lst ⟨o, upd_same⟩ (r.kt (Same.kt (sameUpd n))))⟩
inductive UAddA (K : PySem.W.Frag) : V → V → Hp → VK → Prop
  | old {x y : V} {H : Hp} {Q : VK} (h : UAdd K x y H Q) : UAddA K x y H Q
  | lst {x y : V} {H : Hp} {Q : VK} (h : rCatA x y H Q) : UAddA K x y H Q
theorem op_uaddA {X : Cx} {K : PySem.W.Frag} (hK : X.K = K := by rfl) : OpR X (binaryOp .Add) (UAddA K) := by
  intro pins s σ H x y v u Q I rx ry h
  cases h with
  | old h => exact op_uadd hK pins s σ H x y v u Q I rx ry h
  | lst h => exact op_catA pins s σ H x y v u Q I rx ry h
def addA : PyData → PyData → Option PyData
  | .list xs, .list ys => if xs.length + ys.length ≤ LIM then some (.list (xs ++ ys)) else none
  | x, y => addD x y
def fCat (a b : ME) : Env → Store → Out (List PyData) := fun ρ s => (a ρ s).bind fun x s => (b ρ s).bind fun y s => match x, y with
  | .d (.list xs), .d (.list ys) => if xs.length + ys.length ≤ LIM then .ok (xs ++ ys) s else .stk
  | _, _ => .stk
/-! ### slices -/
abbrev MP := Env → Store → Out (Option Int)
abbrev rP : Rel (Option Int) (Option Int) := fun _ _ _ _ _ _ x v => x = v
instance : ROk rP := ⟨fun _ h => h⟩
def pNone : MP := fun _ s => .ok none s
def pSome (e : ME) : MP := fun ρ s => (e ρ s).bind fun v s => match v with
  | .d (.int i) => .ok (some i) s
  | _ => .stk
def slD (x : PyData) (l u : Option Int) : Option PyData := match x with
  | .list xs => some (.list (cutD xs l u))
  | .tuple xs => some (.tuple (cutD xs l u))
  | .str z => if z.length ≤ LIM then some (.str (cutS z l u)) else none
  | _ => none
def eSl (a : ME) (l u : MP) : ME := fun ρ s => (a ρ s).bind fun x s => (l ρ s).bind fun l s => (u ρ s).bind fun u s => ap1 (fun x => slD x l u) x s
/-! ### built-ins -/
def CB := List PyData → Option PyData
def eCB (f : List PyData → Option PyData) (a : MA) : ME := fun ρ s => (a ρ s).bind fun xs s => match datas xs with
  | some ds => (match f ds with
    | some z => .ok (.d z) s
    | none => .stk)
  | none => .stk
def lenD : List PyData → Option PyData
  | [.list xs] => some (.int xs.length)
  | [.tuple xs] => some (.int xs.length)
  | [.str z] => if z.length ≤ LIM then some (.int z.length) else none
  | _ => none
def absD : List PyData → Option PyData
  | [.int i] => some (.int (if i < 0 then -i else i))
  | _ => none
def intD : List PyData → Option PyData
  | [.int i] => some (.int i)
  | [.bool b] => some (.int (if b then 1 else 0))
  | [.str z] => if z.length ≤ 640 then (PySem.intText? z).map .int else none
  | _ => none
def tupleD : List PyData → Option PyData
  | [.list xs] => some (.tuple xs)
  | [.tuple xs] => some (.tuple xs)
  | _ => none
def listD : List PyData → Option PyData
  | [.list xs] => some (.list xs)
  | [.tuple xs] => some (.list xs)
  | _ => none
def max2D : List PyData → Option PyData
  | [.int i, .int j] => some (.int (max i j))
  | _ => none
def reprD : List PyData → Option PyData
  | [d] => if okd d then some (.str d.shown) else none
  | _ => none
def boolsD : List PyData → Option (List Bool)
  | [] => some []
  | .bool b :: r => (boolsD r).map (b :: ·)
  | _ => none
def allD : List PyData → Option PyData
  | [.list xs] => (boolsD xs).map fun bs => .bool (bs.all id)
  | _ => none
def indexD : PyData → PyData → Option PyData
  | .list xs, y => if flatD y && xs.all flatD then (if xs.any (fun z => PyData.eqv z y) then some (.int (xs.findIdx (fun z => PyData.eqv z y) : Nat)) else none) else none
  | _, _ => none
def repD : PyData → PyData → Option PyData
  | .tuple [v], .int k => if 0 ≤ k ∧ k ≤ 1000 then some (.tuple (List.replicate k.toNat v)) else none
  | _, _ => none
def isiD (T : String) (x : PyData) : Option PyData := some (.bool (isT x T))
abbrev rAB (C : Cn) : Rel (List V) (List AV) := fun _ _ σ ρ μ H xs vs => Paired (fun x v => RV C μ H x v ∨ ∃ (i : Nat) (ys : List PyData), v = AV.d (.list ys) ∧ ρ[i]? = some (some (Sl.lst ys)) ∧ σ[i]? = some (some x)) xs vs
instance (C : Cn) : ROk (rAB C) := ⟨fun _ h => h⟩
abbrev SAB (C : Cn) := SG C (rAB C)
inductive BDs (K : PySem.W.Frag) (H : Hp) : List V → List PyData → Prop
  | nil : BDs K H [] []
  | cons {v : V} {d : PyData} {vs : List V} {ds : List PyData} : BD K H v d → BDs K H vs ds → BDs K H (v :: vs) (d :: ds)
section
variable {C : Cn} {E : XK}
theorem se_opz {r : R2} {f : PyData → PyData → Option PyData} {ta tb : TE} {ma mb : ME} (o : OpZ C.K r f) (ha : SB C E ta ma) (hb : SB C E tb mb) : SE C E (tFz (tOp r ta tb)) (eOp f ma mb) := fun H₀ μ₀ μ H σ ρ s Q h p => by
  refine SG.bind (t := ta) ha h p (fun x v s1 H1 μ1 k1 r1 hx p1 => ?_)
  refine SG.bind (t := tb) hb r1 p1 (fun y w s2 H2 μ2 k2 r2 hy p2 => ?_)
  unfold ap2 at p2
  split at p2
  · rename_i a b
    split at p2
    · rename_i z e
      exact o H2 x y a b z Q ((rB.later (Hs' := H) hx k2).bd r2) (hy.bd r2) e (fun w H' k rd => p2.same r2 k (.d rd))
    · exact p2.elim
  · exact p2.elim
theorem oz_add {K : PySem.W.Frag} : OpZ K (UAddA K) addA := fun H x y a b z Q hx hy e q => by
  unfold addA at e
  split at e
  · split at e
    · rename_i h
      cases e
      obtain ⟨p, vs, rfl, h1, r1⟩ := hx.listR
      obtain ⟨p', ws, rfl, h2, r2⟩ := hy.listR
      exact .lst ⟨p, p', vs, ws, rfl, rfl, h1, h2, by rw [r1.len, r2.len]; exact limS h, fzL (r1.app r2) q⟩
    · cases e
  · exact .old (os_add H x y a b z _ hx hy e (fun w H' k r => .inl (q w H' k r)))
theorem sf_cat {ta tb : TE} {ma mb : ME} (ha : SB C E ta ma) (hb : SB C E tb mb) : SF C E (tOp (UAddA C.K) ta tb) (fCat ma mb) := fun H₀ μ₀ μ H σ ρ s Q h p => by
  refine SG.bind (t := ta) ha h p (fun x v s1 H1 μ1 k1 r1 hx p1 => ?_)
  refine SG.bind (t := tb) hb r1 p1 (fun y w s2 H2 μ2 k2 r2 hy p2 => ?_)
  split at p2
  · split at p2
    · rename_i h
      obtain ⟨p, vs, rfl, h1, q1⟩ := ((rB.later (Hs' := H) hx k2).bd r2).listR
      obtain ⟨p', ws, rfl, h2, q2⟩ := (hy.bd r2).listR
      exact .lst ⟨p, p', vs, ws, rfl, rfl, h1, h2, by rw [q1.len, q2.len]; exact limS h, fun q n => p2.same r2 (sameUpd n) (r2.newL n (q1.app q2))⟩
    · exact p2.elim
  · exact p2.elim
theorem sp_none : SG C rP E tNoPart pNone := fun _ _ _ _ _ _ _ _ r p => p.ok r rfl
theorem sp_some {te : TE} {m : ME} (h : SE C E te m) : SG C rP E (tPart te) (pSome m) := fun H₀ μ₀ μ H σ ρ s Q r p => by
  refine SG.bind (t := te) h r p (fun x v s1 H1 μ1 k1 r1 hx p1 => ?_)
  split at p1
  · cases hx with
    | d hx => cases hx; exact ⟨_, rfl, p1.ok r1 rfl⟩
  · exact p1.elim
theorem cutD_rd {K : PySem.W.Frag} {H : Hp} {vs : List V} {ds : List PyData} (l u : Option Int) (r : RDs K H vs ds) : RDs K H (cutV vs l u) (cutD ds l u) := by
  unfold cutV cutD
  rw [r.len]
  exact (r.drop _).take _
theorem se_sl {te : TE} {tl tu : TO} {m : ME} {ml mu : MP} (h : SB C E te m) (hl : SG C rP E tl ml) (hu : SG C rP E tu mu) : SE C E (tFz (tSl (USl C.K) te tl tu)) (eSl m ml mu) := fun H₀ μ₀ μ H σ ρ s Q r p => by
  refine SG.bind (t := te) h r p (fun x v s1 H1 μ1 k1 r1 hx p1 => ?_)
  refine SG.bind (t := tl) hl r1 p1 (fun y w s2 H2 μ2 k2 r2 hy p2 => ?_)
  obtain rfl := hy
  refine SG.bind (t := tu) hu r2 p2 (fun y' w s3 H3 μ3 k3 r3 hy' p3 => ?_)
  obtain rfl := hy'
  unfold ap1 at p3
  split at p3
  · rename_i a
    split at p3
    · rename_i z e
      have b := (rB.later (Hs' := H) hx (k2.trans k3)).bd r3
      replace e : slD a y y' = some z := e
      unfold slD at e
      split at e
      · cases e
        obtain ⟨p, vs, rfl, h1, q1⟩ := b.list
        exact .lst h1 (fzL (cutD_rd _ _ q1) (fun w H' k rd => p3.same r3 k (.d rd)))
      · cases e
        obtain ⟨p, vs, rfl, h1, q1⟩ := b.tuple
        exact .tup h1 (fun q H' k hT => .inl (p3.same r3 k (.d (.tup hT ((cutD_rd _ _ q1).kt (Same.kt k))))))
      · split at e
        · rename_i hz
          cases e
          cases b.str
          exact .str (limS hz) (.inl (p3.ok r3 (.d (.str _))))
        · cases e
      · cases e
    · exact p3.elim
  · exact p3.elim
/-! ### arguments, looked at -/
theorem sab_nil : SAB C E tNil aNil := fun _ _ _ _ _ _ _ _ r p => p.ok r .nil
theorem rAB.later {xs : List V} {vs : List AV} {H₀ Hs Hs' H H1 : Hp} {σ : L2.St} {ρ : Env} {μ μ1 : List Addr} (h : rAB C H₀ Hs σ ρ μ H xs vs) (k : Stp μ H μ1 H1) : rAB C H₀ Hs' σ ρ μ1 H1 xs vs := Paired.mapP h fun x v z => by
  rcases z with z | z
  · exact .inl (z.kt k.kt k.pre)
  · exact .inr z
theorem sab_cons {ta : TE} {tb : TA} {ma : ME} {mb : MA} (ha : SB C E ta ma) (hb : SAB C E tb mb) : SAB C E (tCons ta tb) (aCons ma mb) := fun H₀ μ₀ μ H σ ρ s Q h p => by
  refine SG.bind (t := ta) ha h p (fun x v s1 H1 μ1 k1 r1 hx p1 => ?_)
  refine SG.bind (t := tb) hb r1 p1 (fun xs vs s2 H2 μ2 k2 r2 hy p2 => ?_)
  exact p2.ok r2 (.cons (rB.later (Hs' := H) hx k2) hy)
theorem rAB.bds {H₀ Hs H : Hp} {σ : L2.St} {ρ : Env} {μ₀ μ : List Addr} {s : Store} (r : SR C H₀ μ₀ μ H σ ρ s) : ∀ {xs : List V} {vs : List AV} {ds : List PyData}, rAB C H₀ Hs σ ρ μ H xs vs → vs = ds.map AV.d → BDs C.K H xs ds
  | _, _, [], .nil, _ => .nil
  | _, _, [], .cons _ _, e => by cases e
  | _, _, _ :: _, .nil, e => by cases e
  | _, _, d :: ds, .cons h q, e => by
    rw [List.map_cons] at e
    injection e with e1 e2
    subst e1
    exact .cons (rB.bd (Hs := Hs) (H₀ := H₀) h r) (rAB.bds (Hs := Hs) r q e2)
/-- what a built-in's rule has to be for data -/
def CbZ (K : PySem.W.Frag) (r : List V → Hp → VK → Prop) (f : List PyData → Option PyData) : Prop := ∀ (H : Hp) (xs : List V) (ds : List PyData) (z : PyData) (Q : VK), BDs K H xs ds → f ds = some z → (∀ w H', Same H H' → RD K H' w z → Q w H') → r xs H (Fz Q)
theorem se_cb {r : List V → Hp → VK → Prop} {f : List PyData → Option PyData} {t : TA} {m : MA} (o : CbZ C.K r f) (h : SAB C E t m) : SE C E (tFz (tCB r t)) (eCB f m) := fun H₀ μ₀ μ H σ ρ s Q r p => by
  refine SG.bind (t := t) h r p (fun xs vs s1 H1 μ1 k1 r1 hx p1 => ?_)
  split at p1
  · rename_i ds e
    split at p1
    · rename_i z e2
      exact o H1 xs ds z Q (rAB.bds r1 hx (datas_eq e)) e2 (fun w H' k rd => p1.same r1 k (.d rd))
    · exact p1.elim
  · exact p1.elim
theorem cz_len {K : PySem.W.Frag} : CbZ K (ULen K) lenD := fun H xs ds z Q hx e q => by
  unfold lenD at e
  split at e
  · cases e
    cases hx with
    | cons h r => cases r; obtain ⟨p, vs, rfl, h1, r1⟩ := h.list; exact .lst h1 (.inl (by rw [r1.len]; exact q _ H (.refl _) (.int _)))
  · cases e
    cases hx with
    | cons h r => cases r; obtain ⟨p, vs, rfl, h1, r1⟩ := h.tuple; exact .tup h1 (.inl (by rw [r1.len]; exact q _ H (.refl _) (.int _)))
  · split at e
    · rename_i hz
      cases e
      cases hx with
      | cons h r => cases r; cases h.str; exact .str (limS hz) (.inl (q _ H (.refl _) (.int _)))
    · cases e
  · cases e
theorem cz_abs {K : PySem.W.Frag} : CbZ K UAbs absD := fun H xs ds z Q hx e q => by
  unfold absD at e
  split at e
  · cases e
    cases hx with
    | cons h r => cases r; cases h.int; exact .int (.inl (q _ H (.refl _) (.int _)))
  · cases e
theorem cz_int {K : PySem.W.Frag} : CbZ K UInt intD := fun H xs ds z Q hx e q => by
  unfold intD at e
  split at e
  · cases e
    cases hx with
    | cons h r => cases r; cases h.int; exact .int (.inl (q _ H (.refl _) (.int _)))
  · cases e
    cases hx with
    | cons h r => cases r; cases h.bl; exact .bl (.inl (q _ H (.refl _) (.int _)))
  · split at e
    · rename_i z' hz
      cases hx with
      | cons h r =>
        cases r; cases h.str
        cases e1 : PySem.intText? z' with
        | none => rw [e1] at e; cases e
        | some n => rw [e1] at e; cases e; exact .str e1 hz (.inl (q _ H (.refl _) (.int _)))
    · cases e
  · cases e
theorem cz_tuple {K : PySem.W.Frag} : CbZ K (UTup K) tupleD := fun H xs ds z Q hx e q => by
  unfold tupleD at e
  split at e
  · cases e
    cases hx with
    | cons h r => cases r; obtain ⟨p, vs, rfl, h1, r1⟩ := h.list; exact .lst h1 (fun p n => .inl (q _ _ (sameUpd n) (.tup (.inl (.inl upd_same)) (r1.kt (Same.kt (sameUpd n))))))
  · cases e
    cases hx with
    | cons h r => cases r; obtain ⟨p, vs, rfl, h1, r1⟩ := h.tuple; exact .tup h1 (.inl (q _ H (.refl _) (.tup h1 r1)))
  · cases e
theorem cz_list {K : PySem.W.Frag} : CbZ K (UList K) listD := fun H xs ds z Q hx e q => by
  unfold listD at e
  split at e
  · cases e
    cases hx with
    | cons h r => cases r; obtain ⟨p, vs, rfl, h1, r1⟩ := h.list; exact ⟨p, vs, rfl, .inl h1, fzL r1 q⟩
  · cases e
    cases hx with
    | cons h r => cases r; obtain ⟨p, vs, rfl, h1, r1⟩ := h.tuple; exact ⟨p, vs, rfl, .inr h1, fzL r1 q⟩
  · cases e
theorem cz_max2 {K : PySem.W.Frag} : CbZ K UMax2 max2D := fun H xs ds z Q hx e q => by
  unfold max2D at e
  split at e
  · cases e
    cases hx with
    | cons h r => cases r with
      | cons h2 r => cases r; cases h.int; cases h2.int; exact ⟨_, _, rfl, .inl (q _ H (.refl _) (.int _))⟩
  · cases e
theorem cz_repr {K : PySem.W.Frag} : CbZ K (rRepr K) reprD := fun H xs ds z Q hx e q => by
  unfold reprD at e
  split at e
  · split at e
    · rename_i ho
      cases e
      cases hx with
      | cons h r => cases r; exact ⟨_, _, rfl, h.dp, ho, .inl (q _ H (.refl _) (.str _))⟩
    · cases e
  · cases e
theorem bools_rd {K : PySem.W.Frag} {H : Hp} : ∀ {vs : List V} {ds : List PyData} {bs : List Bool}, RDs K H vs ds → boolsD ds = some bs → vs = bs.map V.bl
  | _, _, _, .nil, e => by cases e; rfl
  | _, _, _, .cons (d := d) h r, e => by
    cases h with
    | bl b =>
      unfold boolsD at e
      cases e1 : boolsD _ with
      | none => rw [e1] at e; cases e
      | some bs => rw [e1] at e; cases e; rw [bools_rd r e1]; rfl
    | _ => cases e
theorem cz_all {K : PySem.W.Frag} : CbZ K (rAll K) allD := fun H xs ds z Q hx e q => by
  unfold allD at e
  split at e
  · rename_i ys
    cases e1 : boolsD ys with
    | none => rw [e1] at e; cases e
    | some bs =>
      rw [e1] at e
      cases e
      cases hx with
      | cons h r =>
        cases r
        obtain ⟨p, vs, rfl, h1, r1⟩ := h.list
        exact ⟨p, bs, rfl, by rw [← bools_rd r1 e1]; exact h1, .inl (q _ H (.refl _) (.bl _))⟩
  · cases e
/-- isinstance(x, T) -/
def eIsi (T : String) (a : ME) : ME := fun ρ s => (a ρ s).bind fun x s => ap1 (isiD T) x s
theorem se_isi {T : String} {te : TE} {m : ME} (hT : T ∈ ["int", "bool", "str", "tuple", "list"]) (h : SB C E te m) : SE C E (tCB (UIsi C.K) (tCons te (tCons (L2.tC (.ty T)) tNil))) (eIsi T m) := fun H₀ μ₀ μ H σ ρ s Q r p => by
  refine SG.bind (t := te) h r p (fun x v s1 H1 μ1 k1 r1 hx p1 => ?_)
  unfold ap1 at p1
  split at p1
  · exact .dat (hx.bd r1).dp hT (p1.ok r1 (.d (.bl _)))
  · exact p1.elim
/-- xs.index(y) -/
def eIndex (a b : ME) : ME := fun ρ s => (a ρ s).bind fun x s => match x with
  | .d (.list xs) => (b ρ s).bind fun y s => ap2 indexD (.d (.list xs)) y s
  | _ => .stk
theorem index_core {K : PySem.W.Frag} {H : Hp} {vs : List V} {ds : List PyData} {y : V} {d : PyData} (r : RDs K H vs ds) (hy : RD K H y d) (fd : flatD d = true) (fs : ds.all flatD = true) (ha : ds.any (fun z => PyData.eqv z d) = true) :
    ∃ (j : Nat) (z : V), j = ds.findIdx (fun z => PyData.eqv z d) ∧ vs[j]? = some z ∧ eqV z y = true ∧ ∀ (m : Nat) (z' : V), m < j → vs[m]? = some z' → eqV z' y = false := by
  have lt : ds.findIdx (fun z => PyData.eqv z d) < ds.length := List.findIdx_lt_length_of_exists (by simpa [List.any_eq_true] using ha)
  obtain ⟨v, e1, e2⟩ := r.get' (List.getElem?_eq_getElem lt)
  have ff : ∀ {i : Nat} {x : PyData}, ds[i]? = some x → flatD x = true := fun e => List.all_eq_true.mp fs _ (List.mem_of_getElem? e)
  refine ⟨_, v, rfl, e1, ?_, fun m z' hm hz => ?_⟩
  · rw [eqv_flat e2 hy (ff (List.getElem?_eq_getElem lt)) fd]
    exact List.findIdx_getElem (w := lt)
  · obtain ⟨x, e3, e4⟩ := r.get hz
    rw [eqv_flat e4 hy (ff e3) fd]
    have := List.not_of_lt_findIdx hm
    rw [(List.getElem?_eq_some_iff.mp e3).2] at this
    simpa using this
theorem se_index {ta tb : TE} {ma mb : ME} (ha : SB C E ta ma) (hb : SB C E tb mb) : SE C E (tBM C.K "list" (rIndex C.K) ta (tCons tb tNil)) (eIndex ma mb) := fun H₀ μ₀ μ H σ ρ s Q h p => by
  refine SG.bind (t := ta) ha h p (fun x v s1 H1 μ1 k1 r1 hx p1 => ?_)
  split at p1
  · rename_i xs
    obtain ⟨p, vs, rfl, h1, q1⟩ := (rB.bd (Hs := H) hx r1).list
    refine ⟨.inl ⟨rfl, _, h1⟩, ?_⟩
    refine SG.bind (t := tb) hb r1 p1 (fun y w s2 H2 μ2 k2 r2 hy p2 => ?_)
    unfold ap2 at p2
    split at p2
    · rename_i a b e0
      cases e0
      split at p2
      · rename_i z e
        obtain ⟨p', ws, e1, h2, q2⟩ := ((rB.later (Hs' := H) hx k2).bd r2).list
        cases e1
        replace e : (if (flatD b && xs.all flatD) = true then (if (xs.any fun z => PyData.eqv z b) = true then some (PyData.int (xs.findIdx (fun z => PyData.eqv z b) : Nat)) else none) else none) = some z := e
        by_cases hf : (flatD b && xs.all flatD) = true
        · rw [if_pos hf] at e
          rw [Bool.and_eq_true] at hf
          by_cases hany : (xs.any fun z => PyData.eqv z b) = true
          · rw [if_pos hany] at e
            cases e
            obtain ⟨j, z, rfl, g1, g2, g3⟩ := index_core q2 (bd_flat (hy.bd r2) hf.1) hf.1 hf.2 hany
            exact ⟨p, ws, y, _, z, rfl, rfl, h2, flat_rd (bd_flat (hy.bd r2) hf.1) hf.1, flats_rd q2 hf.2, g1, g2, g3, p2.ok r2 (.d (.int _))⟩
          · rw [if_neg hany] at e; cases e
        · rw [if_neg hf] at e; cases e
      · exact p2.elim
    · exact p2.elim
  · exact p1.elim
theorem oz_rep {K : PySem.W.Frag} : OpS K (rRep1 K) repD := fun H x y a b z Q hx hy e q => by
  unfold repD at e
  split at e
  · rename_i v k
    split at e
    · rename_i hk
      cases e
      cases hy.int
      obtain ⟨p, vs, rfl, h1, r1⟩ := hx.tuple
      cases r1 with
      | cons h r =>
        cases r
        refine ⟨p, k.toNat, _, rfl, by rw [Int.toNat_of_nonneg hk.1], h1, by omega, fun p' H' sm hT => q _ H' sm (.tup hT (RDs.rep (h.kt (Same.kt sm)) _))⟩
    · cases e
  · cases e
end
end Pz
set_option maxRecDepth 100000
set_option autoImplicit false
set_option maxHeartbeats 1000000
/-! Pz7: defs, calls, exceptions. -/
namespace Pz
open PySem PySem.Spec PyProof.Rows
open L2 Hk
/-! ### defs -/
def PostF (C : Cn) (μ : List Addr) (H : Hp) (E : XK) (Q : VK) : Out AV → Prop
  | .ok v s' => ∀ x H' μ', FR C H μ μ' H' s' → RV C μ' H' x v → Q x H'
  | .exc e s' => ExE C H μ e s' E
  | .stk => False
/-- the promise of a plain def -/
def spF (C : Cn) (F : Fn) : Sp := fun vs H Q E => ∃ μ args s, RVs C μ H vs args ∧ StoR C μ H s ∧ LamX.Tabs C.T H ∧ PostF C μ H E Q (F args s)
def finF : Out Fl → Out AV
  | .ok (.rt v) s => .ok v s
  | .ok (.nx _) s => .ok (.d .none) s
  | .exc e s => .exc e s
  | _ => .stk
/-- a def of n parameters, N names -/
def mkF (n N : Nat) (m : MS) : Fn := fun args s => if args.length = n then finF (m (args.map (fun v => some (.v v)) ++ List.replicate (N - n) none) s) else .stk
def eCall (F : Fn) (a : MA) : ME := fun ρ s => (a ρ s).bind fun vs s => F vs s
def noxF (F : Fn) : Fn := fun vs s => (F vs s).nox
section
variable {C : Cn} {E : XK}
theorem RVs.get {μ : List Addr} {H : Hp} : ∀ {vs : List V} {xs : List AV} {i : Nat} {v : V}, RVs C μ H vs xs → vs[i]? = some v → ∃ x, xs[i]? = some x ∧ RV C μ H v x
  | _, _, i, _, .nil, e => by simp at e
  | _, _, 0, _, .cons h _, e => by obtain rfl := Option.some.inj (by simpa using e); exact ⟨_, rfl, h⟩
  | _, _, i + 1, _, .cons _ r, e => by obtain ⟨v, h1, h2⟩ := RVs.get (i := i) r (by simpa using e); exact ⟨v, by simpa using h1, h2⟩
theorem start_er {N : List Str} {n : Nat} {vs : List V} {args : List AV} {μ : List Addr} {H : Hp} (r : RVs C μ H vs args) (hn : args.length = n) (hN : n ≤ N.length) : ER C H μ H (L2.start N vs) (args.map (fun v => some (Sl.v v)) ++ List.replicate (N.length - n) none) := by
  have hl : vs.length = n := by rw [r.len, hn]
  have key : ∀ (i : Nat) (sl : Sl), (args.map (fun v => some (Sl.v v)) ++ List.replicate (N.length - n) none)[i]? = some (some sl) → ∃ v x, sl = .v x ∧ (L2.start N vs)[i]? = some (some v) ∧ RV C μ H v x := fun i sl e => by
    unfold L2.start
    by_cases lt : i < args.length
    · rw [List.getElem?_append_left (by rw [List.length_map]; exact lt), List.getElem?_map, List.getElem?_eq_getElem lt] at e
      cases e
      obtain ⟨v, h1, h2⟩ := r.get' (List.getElem?_eq_getElem lt)
      exact ⟨v, _, rfl, by rw [List.getElem?_append_left (by rw [List.length_map]; omega), List.getElem?_map, h1]; rfl, h2⟩
    · rw [List.getElem?_append_right (by rw [List.length_map]; omega)] at e
      have := List.mem_of_getElem? e
      rw [List.mem_replicate] at this
      cases this.2
  exact {
    len := by unfold L2.start; rw [List.length_append, List.length_append, List.length_map, List.length_map, List.length_replicate, List.length_replicate, hl, hn]
    env := fun i sl e => by
      obtain ⟨v, x, rfl, h1, h2⟩ := key i sl e
      exact ⟨v, h1, h2⟩
    own := fun i sl p e o _ => by
      obtain ⟨v, x, rfl, _, _⟩ := key i sl e
      cases o
    dis := fun i j sl sl' p e _ o _ _ _ => by
      obtain ⟨v, x, rfl, _, _⟩ := key i sl e
      cases o }
/-- a body keeps the def's promise -/
theorem body_of {N : List Str} {n : Nat} {t : TS} {m : MS} (h : SS C E t m) (hN : n ≤ N.length) {vs : List V} {H : Hp} {Q : VK} (p : spF C (mkF n N.length m) vs H Q E) : t { nx := fun _ H' => Q .non H', rt := Q } (L2.start N vs) H := by
  obtain ⟨μ, args, s, r, sto, tab, p⟩ := p
  unfold mkF at p
  split at p
  · rename_i hn
    refine h H μ μ H _ _ s _ ⟨FR.refl sto tab, start_er r hn hN⟩ ?_
    cases e : m (args.map (fun v => some (.v v)) ++ List.replicate (N.length - n) none) s with
    | ok v s1 =>
      rw [e] at p
      cases v with
      | nx ρ' => exact fun σ' H' μ' _ _ r' => p .non H' μ' r'.fr (.d .non)
      | rt v => exact fun x H' μ' fr rv => p x H' μ' fr rv
      | bk ρ' => exact p.elim
      | ct ρ' => exact p.elim
    | exc e1 s1 => rw [e] at p; exact p
    | stk => rw [e] at p; exact p
  · exact p.elim
theorem len_of {n N : Nat} {m : MS} {vs : List V} {H : Hp} {Q : VK} {E : XK} (p : spF C (mkF n N m) vs H Q E) : vs.length = n := by
  obtain ⟨μ, args, s, r, sto, tab, p⟩ := p
  unfold mkF at p
  split at p
  · rename_i hn; rw [r.len, hn]
  · exact p.elim
/-! ### calls -/
theorem se_callX {F : Fn} {ta : TA} {ma : MA} (h : SA C E ta ma) : SE C E (tCall (spF C F) [] E ta) (eCall F ma) := fun H₀ μ₀ μ H σ ρ s Q r p => by
  refine SG.bind (t := ta) h r p (fun xs vs s1 H1 μ1 k1 r1 hx p1 => ?_)
  refine ⟨μ1, vs, s1, by rw [List.append_nil]; exact hx, r1.fr.sto, r1.fr.tab, ?_⟩
  cases e : F vs s1 with
  | ok v s2 =>
    rw [e] at p1
    exact fun x H2 μ2 fr rv => p1 x H2 μ2 fr.stp (r1.step fr.stp fr.sto fr.tab) rv
  | exc e1 s2 =>
    rw [e] at p1
    exact fun c dd H2 μ2 fr ex => p1 c dd H2 μ2 fr.stp ⟨fr.sto, r1.fr.stp.trans fr.stp, fr.tab⟩ ex
  | stk => rw [e] at p1; exact p1
theorem se_call {F : Fn} {ta : TA} {ma : MA} {E' : XK} (h : SA C E ta ma) : SE C E (tCall (spF C F) [] E' ta) (eCall (noxF F) ma) := fun H₀ μ₀ μ H σ ρ s Q r p => by
  refine SG.bind (t := ta) h r p (fun xs vs s1 H1 μ1 k1 r1 hx p1 => ?_)
  refine ⟨μ1, vs, s1, by rw [List.append_nil]; exact hx, r1.fr.sto, r1.fr.tab, ?_⟩
  unfold noxF at p1
  cases e : F vs s1 with
  | ok v s2 =>
    rw [e] at p1
    exact fun x H2 μ2 fr rv => p1 x H2 μ2 fr.stp (r1.step fr.stp fr.sto fr.tab) rv
  | exc e1 s2 => rw [e] at p1; exact p1.elim
  | stk => rw [e] at p1; exact p1.elim
/-- a call of a name that holds a def -/
def eCallV (i : Nat) (Fs : List (Str × Fn)) (a : MA) : ME := fun ρ s => match ρ[i]? with
  | some (some (.v (.fn f))) => (match Fs.lookup f with
    | some F => (a ρ s).bind fun vs s => (F vs s).nox
    | none => .stk)
  | _ => .stk
theorem se_callV {i : Nat} {Fs : List (Str × Fn)} {Sf : Addr → Option Sp} {ta : TA} {ma : MA} (hS : ∀ f F p, Fs.lookup f = some F → C.mg f = some (.ref p) → Sf p = some (spF C F)) (h : SA C E ta ma) : SE C E (tCallA i Sf ta) (eCallV i Fs ma) := fun H₀ μ₀ μ H σ ρ s Q r p => by
  unfold eCallV at p
  split at p
  · rename_i f e
    split at p
    · rename_i F eF
      obtain ⟨v, e1, e2⟩ := r.er.env i _ e
      cases e2 with
      | fn e2 =>
        refine ⟨_, _, e1, hS f F _ eF e2, ?_⟩
        refine SG.bind (t := ta) h r p (fun xs vs s1 H1 μ1 k1 r1 hx p1 => ?_)
        refine ⟨μ1, vs, s1, hx, r1.fr.sto, r1.fr.tab, ?_⟩
        cases e : F vs s1 with
        | ok v s2 =>
          rw [e] at p1
          exact fun x H2 μ2 fr rv => p1 x H2 μ2 fr.stp (r1.step fr.stp fr.sto fr.tab) rv
        | exc e1 s2 => rw [e] at p1; exact p1.elim
        | stk => rw [e] at p1; exact p1.elim
    · exact p.elim
  · exact p.elim
end
/-! ### exceptions -/
def sRaise0 (x : Str) : MS := fun _ s => .exc ⟨x, []⟩ s
def sRaise2 (x f1 f2 : Str) (a : MA) : MS := fun ρ s => (a ρ s).bind fun vs s => match vs with
  | [.d y, .d z] => .exc ⟨x, [(f1, y), (f2, z)]⟩ s
  | _ => .stk
section
variable {C : Cn} {E : XK}
theorem ss_raise0 {x : Str} {A : Addr} {t : TS} (g : C.mg x = some (.ref A)) (h : ∀ D σ H, E (.ref A) none H → t D σ H) : SS C E t (sRaise0 x) := fun H₀ μ₀ μ H σ ρ s D r p => h D σ H (p _ _ H μ r.fr ⟨A, rfl, g, .inl ⟨rfl, rfl⟩⟩)
theorem ss_raise2 {x f1 f2 : Str} {A : Addr} {ta : TA} {ma : MA} {t : TS} (g : C.mg x = some (.ref A)) (ha : SA C E ta ma) (h : ∀ D σ H, tMkT A f1 f2 ta σ H E → t D σ H) : SS C E t (sRaise2 x f1 f2 ma) := fun H₀ μ₀ μ H σ ρ s D r p => h D σ H (by
  refine SG.bindS (t := ta) ha r p (fun xs vs s1 H1 μ1 k1 r1 hx p1 => ?_)
  split at p1
  · rename_i y z
    cases hx with
    | @cons w1 _ _ _ h1 q =>
      cases q with
      | @cons w2 _ _ _ h2 q =>
        cases q
        cases h1 with
        | d h1 => cases h2 with
          | d h2 =>
            refine ⟨_, _, rfl, fun d n => ?_⟩
            have k := Same.kt (sameUpd (o := .xd [(f1, w1), (f2, w2)]) n)
            exact p1 _ _ _ μ1 (r1.fr.same (sameUpd n)) ⟨A, rfl, g, .inr ⟨d, _, rfl, upd_same, .cons ⟨rfl, h1.kt k⟩ (.cons ⟨rfl, h2.kt k⟩ .nil)⟩⟩
  · exact p1.elim)
/-! ### hearing -/
/-- what is heard of an outcome -/
def hearO (known : List (Str × List Str)) : Out AV → Out AV
  | .ok (.d x) s => .ok (.d (.tuple [.str "told", x])) s
  | .exc e s => if (e.cls, e.flds.map (·.1)) ∈ known then .ok (.d (.tuple (.str e.cls :: e.flds.map (·.2)))) s else .stk
  | _ => .stk
def eHear (known : List (Str × List Str)) (m : ME) : ME := fun ρ s => hearO known (m ρ s)
/-- the clauses tell the class and the fields -/
def HearR (C : Cn) (n : Nat) (l : List Cl) (known : List (Str × List Str)) : Prop := ∀ (e : Exc) (c : Value) (dd : Option Addr) (H : Hp) (Q : VK), (e.cls, e.flds.map (·.1)) ∈ known → ExcR C H c dd e →
  (∀ p vs, H p = none → RDs C.K H vs (e.flds.map (·.2)) → Q (.ref p) (upd H p (.tup (.str e.cls :: vs)))) → heardX C.K n l Q c dd H
theorem Stp.sr {H₀ : Hp} {μ₀ μ : List Addr} {H H' : Hp} {σ : L2.St} {ρ : Env} {s : Store} (r : SR C H₀ μ₀ μ H σ ρ s) (k : LamX.ExtN H H') (t : LamX.Tabs C.T H') : SR C H₀ μ₀ μ H' σ ρ s := r.step (Stp.ext k) ⟨r.fr.sto.len, r.fr.sto.nd, fun a c e => by
  obtain ⟨p, e1, e2⟩ := r.fr.sto.at_ a c e
  refine ⟨p, e1, ?_⟩
  cases c with
  | lst xs => obtain ⟨vs, e3, e4⟩ := e2; exact ⟨vs, extN_lst k e3, e4.kt (extN_kt k) (List.prefix_refl _)⟩⟩ t
theorem se_hear {known : List (Str × List Str)} {n : Nat} {l : List Cl} {t : XK → TE} {m : ME} {told : Str} (hR : HearR C n l known) (ht : told = "told") (h : ∀ E, SE C E (t E) m) : SE C E (LamX.tLam C.T (fun tl H Q => tl (heardX C.K n l Q) H (fun v G => [V.str told, v].length ≤ sizeLine ∧ ∀ p, G p = none → Q (.ref p) (upd G p (.tup [.str told, v])))) t) (eHear known m) := fun H₀ μ₀ μ H σ ρ s Q r p => by
  subst ht
  refine ⟨r.fr.tab, fun H1 ex tab => ?_⟩
  have r1 := Stp.sr r ex tab
  have k1 : Stp μ H μ H1 := Stp.ext ex
  refine h _ H₀ μ₀ μ H1 σ ρ s _ r1 ?_
  unfold eHear at p
  cases e : m ρ s with
  | ok v s1 =>
    rw [e] at p
    cases v with
    | d x =>
      intro y H2 μ2 k2 r2 hy
      cases hy with
      | d hy =>
        refine ⟨szl, fun q n => ?_⟩
        exact p _ _ μ2 (k1.trans (k2.trans (Stp.same (sameUpd n)))) (r2.same (sameUpd n)) (.d (.tup (.inl (.inl upd_same)) (.cons (.str _) (.one (hy.kt (Same.kt (sameUpd n)))))))
    | ref a => exact p.elim
    | fn f => exact p.elim
  | exc e1 s1 =>
    rw [e] at p
    replace p : Post C (rV C) H₀ μ₀ σ ρ μ H E Q (if (e1.cls, e1.flds.map (·.1)) ∈ known then .ok (.d (.tuple (.str e1.cls :: e1.flds.map (·.2)))) s1 else .stk) := p
    split at p
    · rename_i hk
      intro c dd H2 μ2 k2 fr exr
      refine hR e1 c dd H2 Q hk exr (fun q vs n rd => ?_)
      have r2 := r1.step k2 fr.sto fr.tab
      exact p _ _ μ2 (k1.trans (k2.trans (Stp.same (sameUpd n)))) (r2.same (sameUpd n)) (.d (.tup (.inl (.inl upd_same)) (.cons (.str _) (rd.kt (Same.kt (sameUpd n))))))
    · exact p.elim
  | stk => rw [e] at p; exact p.elim
end
end Pz
set_option maxRecDepth 100000
set_option autoImplicit false
set_option maxHeartbeats 1000000
/-! Pz8: objects of the store, dicts, what is set. -/
namespace Pz
open PySem PySem.Spec PyProof.Rows
open L2 Hk
/-! ### a list of the store -/
def cell (s : Store) (v : AV) : Option (Nat × List AV) := match v with
  | .ref a => match s[a]? with
    | some (.lst xs) => some (a, xs)
    | _ => none
  | _ => none
theorem cell_some {s : Store} {v : AV} {a : Nat} {xs : List AV} (h : cell s v = some (a, xs)) : v = .ref a ∧ s[a]? = some (.lst xs) := by
  unfold cell at h
  split at h
  · split at h
    · cases h; exact ⟨rfl, by assumption⟩
    · cases h
  · cases h
def eCIx (a b : ME) : ME := fun ρ s => (a ρ s).bind fun x s => (b ρ s).bind fun y s => match cell s x, y with
  | some (_, xs), .d (.int i) => (match atI xs i with
    | some v => .ok v s
    | none => .stk)
  | _, _ => .stk
/-- a[i] = v -/
def setC (x y v : AV) (s : Store) : Option Store := match cell s x, y with
  | some (a, xs), .d (.int i) => (ixN xs.length i).map fun j => s.set a (.lst (xs.set j v))
  | _, _ => none
def sCPut (a b e : ME) : MS := fun ρ s => (e ρ s).bind fun v s => (a ρ s).bind fun x s => (b ρ s).bind fun y s => match setC x y v s with
  | some s' => .ok (.nx ρ) s'
  | none => .stk
/-- a[k] += e, ints -/
def sCAug (f : Int → Int → Int) (a : ME) (k : Nat) (e : ME) : MS := fun ρ s => (a ρ s).bind fun x s => match cell s x with
  | some (_, xs) => (match xs[k]? with
    | some (.d (.int i)) => (e ρ s).bind fun y s => (match y with
      | .d (.int j) => (match setC x (.d (.int k)) (.d (.int (f i j))) s with
        | some s' => .ok (.nx ρ) s'
        | none => .stk)
      | _ => .stk)
    | _ => .stk)
  | none => .stk
section
variable {C : Cn} {E : XK} {H₀ : Hp} {μ₀ μ : List Addr} {H : Hp} {σ : L2.St} {ρ : Env} {s : Store}
theorem SR.cellAt (r : SR C H₀ μ₀ μ H σ ρ s) {v : AV} {a : Nat} {xs : List AV} {x : V} (h : cell s v = some (a, xs)) (hx : RV C μ H x v) : ∃ p vs, x = .ref p ∧ μ[a]? = some p ∧ H p = some (.lst vs) ∧ RVs C μ H vs xs := by
  obtain ⟨rfl, e⟩ := cell_some h
  cases hx with
  | ref hp =>
    obtain ⟨p, e1, vs, e2, e3⟩ := r.fr.sto.at_ a _ e
    rw [hp] at e1
    cases e1
    exact ⟨_, vs, rfl, hp, e2, e3⟩
/-- an object of the store changes -/
theorem SR.put (r : SR C H₀ μ₀ μ H σ ρ s) {a : Nat} {p : Addr} {vs ws : List V} {ys : List AV} (hp : μ[a]? = some p) (e : H p = some (.lst vs)) (h : RVs C μ H ws ys) : KeepT H (L2.upd H p (.lst ws)) ∧ SR C H₀ μ₀ μ (L2.upd H p (.lst ws)) σ ρ (s.set a (.lst ys)) := by
  have k : KeepT H (L2.upd H p (.lst ws)) := ktUpd e
  have mp : p ∈ μ := List.mem_of_getElem? hp
  have lt : a < s.length := by rw [← r.fr.sto.len]; exact (List.getElem?_eq_some_iff.mp hp).1
  refine ⟨k, ⟨⟨⟨by rw [List.length_set]; exact r.fr.sto.len, r.fr.sto.nd, fun b c eb => ?_⟩, ⟨fun q o e1 n t => ?_, fun q f => ?_, r.fr.stp.kt.trans k, r.fr.stp.pre, r.fr.stp.fresh⟩, tabs_upd r.fr.tab e (fun _ z => by cases z) (fun _ z => by cases z)⟩, ⟨r.er.len, fun i sl ei => ?_, r.er.own, r.er.dis⟩⟩⟩
  · by_cases z : a = b
    · subst z
      rw [List.getElem?_set_self lt] at eb
      cases eb
      exact ⟨p, hp, ws, upd_same, h.kt k (List.prefix_refl _)⟩
    · rw [List.getElem?_set_ne z] at eb
      obtain ⟨q, e1, e2⟩ := r.fr.sto.at_ b c eb
      have nq : q ≠ p := fun w => by
        subst w
        have l1 : a < μ.length := (List.getElem?_eq_some_iff.mp hp).1
        have l2 : b < μ.length := (List.getElem?_eq_some_iff.mp e1).1
        exact z ((List.getElem?_inj l1 r.fr.sto.nd).mp (hp.trans e1.symm))
      refine ⟨q, e1, ?_⟩
      cases c with
      | lst xs => obtain ⟨us, e3, e4⟩ := e2; exact ⟨us, by rw [upd_ne nq]; exact e3, e4.kt k (List.prefix_refl _)⟩
  · have nq : q ≠ p := fun w => by
      subst w
      rcases r.fr.stp.fresh q mp with m | m
      · exact n m
      · exact m.not e1 t
    rw [upd_ne nq]
    exact r.fr.stp.keep q o e1 n t
  · refine r.fr.stp.there q (fun o e1 => ?_)
    by_cases z : q = p
    · subst z
      obtain ⟨ps, w⟩ := f _ upd_same
      cases w
    · exact f o (by rw [upd_ne z]; exact e1)
  · obtain ⟨v, e1, e2⟩ := r.er.env i sl ei
    refine ⟨v, e1, ?_⟩
    cases sl with
    | v x => exact RV.kt k (List.prefix_refl _) e2
    | lst xs =>
      obtain ⟨q, us, rfl, e3, e4⟩ := e2
      exact ⟨q, us, rfl, by rw [upd_ne (fun w => (r.er.own i _ q ei rfl e1).2 (by rw [w]; exact mp))]; exact e3, e4.kt k⟩
    | dic kvs =>
      obtain ⟨q, us, rfl, e3, e4⟩ := e2
      exact ⟨q, us, rfl, by rw [upd_ne (fun w => (r.er.own i _ q ei rfl e1).2 (by rw [w]; exact mp))]; exact e3, KV.same e4 k⟩
theorem atI_rv {vs : List V} {xs : List AV} {i : Int} {x : AV} (r : RVs C μ H vs xs) (h : atI xs i = some x) : ∃ v, atI vs i = some v ∧ RV C μ H v x := by
  unfold atI at h ⊢
  rw [r.len]
  cases e : ixN xs.length i with
  | none => rw [e] at h; cases h
  | some j =>
    rw [e] at h
    exact r.get' h
theorem se_cix {ta tb : TE} {ma mb : ME} (ha : SE C E ta ma) (hb : SE C E tb mb) : SE C E (tOp (UIx C.K) ta tb) (eCIx ma mb) := fun H₀ μ₀ μ H σ ρ s Q r p => by
  refine SG.bind (t := ta) ha r p (fun x v s1 H1 μ1 k1 r1 hx p1 => ?_)
  refine SG.bind (t := tb) hb r1 p1 (fun y w s2 H2 μ2 k2 r2 hy p2 => ?_)
  cases e : cell s2 v with
  | none => rw [e] at p2; exact p2.elim
  | some c =>
    obtain ⟨a, xs⟩ := c
    rw [e] at p2
    obtain ⟨q, vs, rfl, h1, h2, h3⟩ := r2.cellAt e (hx.kt k2.kt k2.pre)
    cases w with
    | ref b => exact p2.elim
    | fn f => exact p2.elim
    | d w =>
      cases w with
      | int i =>
        cases hy with
        | d hy =>
          cases hy
          replace p2 : Post C (rV C) H₀ μ₀ σ ρ μ2 H2 E Q (match atI xs i with
            | some v => .ok v s2
            | none => .stk) := p2
          cases e1 : atI xs i with
          | none => rw [e1] at p2; exact p2.elim
          | some z =>
            rw [e1] at p2
            obtain ⟨u, e2, e3⟩ := atI_rv h3 e1
            exact .lst (SqL.of h2) e2 (p2.ok r2 e3)
      | _ => exact p2.elim
theorem setC_some {x y v : AV} {s s' : Store} (h : setC x y v s = some s') : ∃ a xs i j, cell s x = some (a, xs) ∧ y = .d (.int i) ∧ ixN xs.length i = some j ∧ s' = s.set a (.lst (xs.set j v)) := by
  unfold setC at h
  split at h
  · rename_i a xs i e
    cases e1 : ixN xs.length i with
    | none => rw [e1] at h; cases h
    | some j => rw [e1] at h; cases h; exact ⟨a, xs, i, j, e, rfl, e1, rfl⟩
  · cases h
theorem ss_cput {ta ti te : TE} {ma mi me : ME} (ha : SE C E ta ma) (hi : SE C E ti mi) (he : SE C E te me) : SS C E (tAsg te (gSub ta ti rSetL)) (sCPut ma mi me) := fun H₀ μ₀ μ H σ ρ s D r p => by
  refine SG.bindS (t := te) he r p (fun w v s0 H0 μ0 k0 r0 hw p0 => ?_)
  refine SG.bindS (t := ta) ha r0 p0 (fun x x' s1 H1 μ1 k1 r1 hx p1 => ?_)
  refine SG.bindS (t := ti) hi r1 p1 (fun y y' s2 H2 μ2 k2 r2 hy p2 => ?_)
  cases e : setC x' y' v s2 with
  | none => rw [e] at p2; exact p2.elim
  | some s3 =>
    rw [e] at p2
    obtain ⟨a, xs, i, j, e1, rfl, e2, rfl⟩ := setC_some e
    obtain ⟨q, vs, rfl, h1, h2, h3⟩ := r2.cellAt e1 (hx.kt k2.kt k2.pre)
    cases hy with
    | d hy =>
      cases hy
      have rw := r2.put h1 h2 (h3.set (hw.kt (k1.kt.trans k2.kt) (k1.pre.trans k2.pre)) j)
      exact ⟨q, vs, i, j, rfl, rfl, h2, by rw [h3.len]; exact e2, p2 σ _ μ2 rw.1 (List.prefix_refl _) rw.2⟩
theorem ss_caug {f : Int → Int → Int} {k : Nat} {ta te : TE} {ma me : ME} (ha : SE C E ta ma) (he : SE C E te me) : SS C E (tAugS ta (L2.tC (.int k)) te (rGetL C.K) (ipI f) rSetL) (sCAug f ma k me) := fun H₀ μ₀ μ H σ ρ s D r p => by
  refine SG.bindS (t := ta) ha r p (fun x x' s1 H1 μ1 k1 r1 hx p1 => ?_)
  cases e : cell s1 x' with
  | none => rw [e] at p1; exact p1.elim
  | some c =>
    obtain ⟨a, xs⟩ := c
    rw [e] at p1
    obtain ⟨q, vs, rfl, h1, h2, h3⟩ := r1.cellAt e hx
    replace p1 : PostS C H₀ μ₀ μ1 H1 E D (match xs[k]? with
      | some (.d (.int i)) => (me ρ s1).bind fun y s => (match y with
        | .d (.int j) => (match setC x' (.d (.int k)) (.d (.int (f i j))) s with
          | some s' => .ok (.nx ρ) s'
          | none => .stk)
        | _ => .stk)
      | _ => .stk) := p1
    split at p1
    · rename_i i ek
      obtain ⟨u, e2, e3⟩ := h3.get' ek
      cases e3 with
      | d e3 =>
        cases e3
        refine ⟨q, vs, k, .int i, rfl, rfl, SqL.of h2, e2, ?_⟩
        refine SG.bindS (t := te) he r1 p1 (fun y y' s2 H2 μ2 k2 r2 hy p2 => ?_)
        split at p2
        · rename_i j
          cases hy with
          | d hy =>
            cases hy
            refine ⟨i, j, rfl, rfl, ?_⟩
            cases e4 : setC x' (.d (.int k)) (.d (.int (f i j))) s2 with
            | none => rw [e4] at p2; exact p2.elim
            | some s3 =>
              rw [e4] at p2
              obtain ⟨a2, xs2, i2, j2, e5, e6, e7, rfl⟩ := setC_some e4
              obtain ⟨q2, vs2, e8, g1, g2, g3⟩ := r2.cellAt e5 (hx.kt k2.kt k2.pre)
              cases e6
              cases e8
              have rw := r2.put g1 g2 (g3.set (.d (.int (f i j))) j2)
              exact ⟨q, vs2, k, j2, rfl, rfl, g2, by rw [g3.len]; exact e7, p2 σ _ μ2 rw.1 (List.prefix_refl _) rw.2⟩
        · exact p2.elim
    · exact p1.elim
end
/-! ### a name's own dict -/
def keyD : PyData → Option Key
  | .int i => some (.inl i)
  | .str x => some (.inr x)
  | _ => none
def getK (kvs : List (Key × PyData)) (k : Key) : Option PyData := (kvs.find? fun kv => decide (kv.1 = k)).map (·.2)
def putKD (kvs : List (Key × PyData)) (k : Key) (v : PyData) : List (Key × PyData) :=
  if (kvs.any fun kv => decide (kv.1 = k)) = true then kvs.map (fun kv => if kv.1 = k then (kv.1, v) else kv) else kvs ++ [(k, v)]
def eDIn (neg : Bool) (e : ME) (i : Nat) : ME := fun ρ s => (e ρ s).bind fun x s => match ρ[i]?, x with
  | some (some (.dic kvs)), .d x => (match keyD x with
    | some k => .ok (.d (.bool (if neg then !(getK kvs k).isSome else (getK kvs k).isSome))) s
    | none => .stk)
  | _, _ => .stk
def eDGet (i : Nat) (e : ME) : ME := fun ρ s => match ρ[i]? with
  | some (some (.dic kvs)) => (e ρ s).bind fun x s => (match x with
    | .d x => (match (keyD x).bind (getK kvs) with
      | some v => .ok (.d v) s
      | none => .stk)
    | _ => .stk)
  | _ => .stk
def sDPut (i : Nat) (ek ev : ME) : MS := fun ρ s => (ev ρ s).bind fun v s => match ρ[i]? with
  | some (some (.dic kvs)) => (ek ρ s).bind fun x s => (match x, v with
    | .d x, .d v => (match keyD x with
      | some k => if kvs.length < LIM then .ok (.nx (ρ.set i (some (.dic (putKD kvs k v))))) s else .stk
      | none => .stk)
    | _, _ => .stk)
  | _ => .stk
/-- xs[i] = v of a name's own list -/
def sLPut (i : Nat) (ek ev : ME) : MS := fun ρ s => (ev ρ s).bind fun v s => match ρ[i]? with
  | some (some (.lst xs)) => (ek ρ s).bind fun x s => (match x, v with
    | .d (.int j), .d v => (match ixN xs.length j with
      | some k => .ok (.nx (ρ.set i (some (.lst (xs.set k v))))) s
      | none => .stk)
    | _, _ => .stk)
  | _ => .stk
section
variable {C : Cn} {E : XK}
theorem key_rd {K : PySem.W.Frag} {H : Hp} {v : V} {d : PyData} {k : Key} (h : RD K H v d) (e : keyD d = some k) : v = kV k := by
  cases h with
  | int i => cases e; rfl
  | str x => cases e; rfl
  | _ => cases e
theorem KV.get {K : PySem.W.Frag} {H : Hp} {ws : List (Key × V)} {kvs : List (Key × PyData)} (r : KV K H ws kvs) (k : Key) : (valV ws k = none ∧ getK kvs k = none) ∨ ∃ v d, valV ws k = some v ∧ getK kvs k = some d ∧ RD K H v d := by
  induction r with
  | nil => exact .inl ⟨rfl, rfl⟩
  | @cons a b l1 l2 h r ih =>
    obtain ⟨a1, a2⟩ := a
    obtain ⟨b1, b2⟩ := b
    obtain ⟨rfl, hd⟩ := h
    unfold valV getK at ih ⊢
    rw [List.find?_cons, List.find?_cons]
    by_cases e : a1 = k
    · rw [decide_eq_true e]
      exact .inr ⟨a2, b2, rfl, rfl, hd⟩
    · rw [decide_eq_false e]
      exact ih
theorem KV.any {K : PySem.W.Frag} {H : Hp} {ws : List (Key × V)} {kvs : List (Key × PyData)} (r : KV K H ws kvs) (k : Key) : (ws.any fun kv => decide (kv.1 = k)) = kvs.any fun kv => decide (kv.1 = k) := by
  induction r with
  | nil => rfl
  | @cons a b l1 l2 h r ih => rw [List.any_cons, List.any_cons, ih, h.1]
theorem KV.len {K : PySem.W.Frag} {H : Hp} {ws : List (Key × V)} {kvs : List (Key × PyData)} (r : KV K H ws kvs) : ws.length = kvs.length := by
  induction r with
  | nil => rfl
  | cons h r ih => rw [List.length_cons, List.length_cons, ih]
theorem KV.app {K : PySem.W.Frag} {H : Hp} {ws us : List (Key × V)} {kvs lvs : List (Key × PyData)} (r : KV K H ws kvs) (q : KV K H us lvs) : KV K H (ws ++ us) (kvs ++ lvs) := by
  induction r with
  | nil => exact q
  | cons h r ih => exact .cons h ih
theorem KV.put {K : PySem.W.Frag} {H : Hp} {ws : List (Key × V)} {kvs : List (Key × PyData)} (r : KV K H ws kvs) (k : Key) {v : V} {d : PyData} (h : RD K H v d) : KV K H (putK ws k v) (putKD kvs k d) := by
  unfold putK putKD
  rw [r.any k]
  split
  · rename_i hc
    clear hc
    induction r with
    | nil => exact .nil
    | @cons a b l1 l2 hab r ih =>
      rw [List.map_cons, List.map_cons]
      refine .cons ?_ ih
      obtain ⟨a1, a2⟩ := a
      obtain ⟨b1, b2⟩ := b
      obtain ⟨rfl, hd⟩ := hab
      by_cases e : a1 = k
      · simp only [e, if_true]; exact ⟨trivial, h⟩
      · simp only [e, if_false]; exact ⟨trivial, hd⟩
  · exact r.app (.cons ⟨rfl, h⟩ .nil)
theorem se_din {neg : Bool} {i : Nat} {te : TE} {m : ME} (h : SE C E te m) : SE C E (tOp (rDIn neg) te (L2.tVar i)) (eDIn neg m i) := fun H₀ μ₀ μ H σ ρ s Q r p => by
  refine SG.bind (t := te) h r p (fun x v s1 H1 μ1 k1 r1 hx p1 => ?_)
  split at p1
  · rename_i kvs d e
    split at p1
    · rename_i k ek
      obtain ⟨w, e1, q, ws, rfl, e2, e3⟩ := r1.er.env i _ e
      cases hx with
      | d hx =>
        have := key_rd hx ek
        subst this
        refine ⟨_, e1, q, _, rfl, DGet.k e2, ?_⟩
        have hs : (valV ws k).isSome = (getK kvs k).isSome := by
          rcases e3.get k with ⟨h1, h2⟩ | ⟨v, d, h1, h2, _⟩ <;> rw [h1, h2] <;> rfl
        rw [hs]
        exact p1.ok r1 (.d (.bl _))
    · exact p1.elim
  · exact p1.elim
theorem se_dget {i : Nat} {te : TE} {m : ME} (h : SE C E te m) : SE C E (tDGet (L2.tVar i) te) (eDGet i m) := fun H₀ μ₀ μ H σ ρ s Q r p => by
  unfold eDGet at p
  split at p
  · rename_i kvs e
    obtain ⟨w, e1, q, ws, rfl, e2, e3⟩ := r.er.env i _ e
    refine ⟨_, e1, ?_⟩
    refine SG.bind (t := te) h r p (fun x v s1 H1 μ1 k1 r1 hx p1 => ?_)
    obtain ⟨w2, f1, q2, ws2, f2, e4, e5⟩ := r1.er.env i _ e
    rw [e1] at f1
    cases f1
    cases f2
    split at p1
    · rename_i d
      cases hx with
      | d hx =>
        cases ek : keyD d with
        | none => rw [ek] at p1; exact p1.elim
        | some k =>
          rw [ek] at p1
          replace p1 : Post C (rV C) H₀ μ₀ σ ρ μ1 H1 E Q (match getK kvs k with
            | some v => .ok (.d v) s1
            | none => .stk) := p1
          rcases e5.get k with ⟨h1, h2⟩ | ⟨v, d', h1, h2, h3⟩
          · rw [h2] at p1; exact p1.elim
          · rw [h2] at p1
            have := key_rd hx ek
            subst this
            exact ⟨q, v, rfl, by rw [← h1]; exact DGet.k e4, p1.ok r1 (.d h3)⟩
    · exact p1.elim
  · exact p.elim
theorem ss_dput {i : Nat} {tk te : TE} {mk me : ME} (hk : SE C E tk mk) (he : SE C E te me) : SS C E (tAsg te (gSub (L2.tVar i) tk rSetD)) (sDPut i mk me) := fun H₀ μ₀ μ H σ ρ s D r p => by
  refine SG.bindS (t := te) he r p (fun w v s0 H0 μ0 k0 r0 hw p0 => ?_)
  split at p0
  · rename_i kvs e
    obtain ⟨w1, e1, q, ws, rfl, e2, e3⟩ := r0.er.env i _ e
    refine ⟨_, e1, ?_⟩
    refine SG.bindS (t := tk) hk r0 p0 (fun x y s1 H1 μ1 k1 r1 hx p1 => ?_)
    obtain ⟨w2, f1, q2, ws2, f2, e4, e5⟩ := r1.er.env i _ e
    rw [e1] at f1
    cases f1
    cases f2
    split at p1
    · rename_i d v'
      split at p1
      · rename_i k ek
        split at p1
        · rename_i hl
          cases hx with
          | d hx => cases hw with
            | d hw =>
              have := key_rd hx ek
              subst this
              have kk : KeepT H1 (upd H1 q (.dK (putK ws2 k w))) := ⟨fun a xs h => by rw [upd_ne (ne_of h e4 (by intro z; cases z))]; exact h, fun a o u h => by rw [upd_ne (ne_of h e4 (by intro z; cases z))]; exact h⟩
              exact ⟨q, _, rfl, DPut.k e4 (lim (by rw [e5.len]; exact hl)), p1 _ _ μ1 kk (List.prefix_refl _) (SR.chg e4 trivial (by trivial) r1 e rfl e1 kk ⟨q, _, rfl, upd_same, KV.same (e5.put k (hw.kt k1.kt)) kk⟩)⟩
        · exact p1.elim
      · exact p1.elim
    · exact p1.elim
  · exact p0.elim
theorem ss_lput {i : Nat} {tk te : TE} {mk me : ME} (hk : SE C E tk mk) (he : SE C E te me) : SS C E (tAsg te (gSub (L2.tVar i) tk rSetL)) (sLPut i mk me) := fun H₀ μ₀ μ H σ ρ s D r p => by
  refine SG.bindS (t := te) he r p (fun w v s0 H0 μ0 k0 r0 hw p0 => ?_)
  split at p0
  · rename_i xs e
    obtain ⟨w1, e1, q, ws, rfl, e2, e3⟩ := r0.er.env i _ e
    refine ⟨_, e1, ?_⟩
    refine SG.bindS (t := tk) hk r0 p0 (fun x y s1 H1 μ1 k1 r1 hx p1 => ?_)
    obtain ⟨w2, f1, q2, ws2, f2, e4, e5⟩ := r1.er.env i _ e
    rw [e1] at f1
    cases f1
    cases f2
    split at p1
    · rename_i j v'
      split at p1
      · rename_i k ek
        cases hx with
        | d hx =>
          cases hx
          cases hw with
          | d hw =>
            have kk := ktUpd (o := .lst (ws2.set k w)) e4
            exact ⟨q, ws2, j, k, rfl, rfl, e4, by rw [e5.len]; exact ek, p1 _ _ μ1 kk (List.prefix_refl _) (SR.chg e4 trivial (by trivial) r1 e rfl e1 kk ⟨q, _, rfl, upd_same, (e5.set (hw.kt k1.kt) k).kt kk⟩)⟩
      · exact p1.elim
    · exact p1.elim
  · exact p0.elim
end
end Pz
set_option maxRecDepth 100000
set_option autoImplicit false
set_option maxHeartbeats 1000000
/-! Pz9: the six clauses of what is heard; the bag; the law's end. -/
namespace Pz
open PySem PySem.Spec PyProof.Rows
open L2 Hk
section
variable {C : Cn}
/-- the clause's tuple of two fields -/
theorem cl_two {a c : Addr} {cls : Value} {d : Addr} {f g x : Str} {v w : V} {σ : L2.St} {H : Hp} {D : Ends} (hl : σ.length = 2) (hc : cls = .ref c) (hd : H d = some (.xd [(f, v), (g, w)])) (fg : f ≠ g)
    (q : ∀ p, H p = none → D.rt (.ref p) (upd H p (.tup [.str x, v, w]))) : tRet (tTup (tCons (L2.tC (.str x)) (tCons (tXf a cls (some d) c f (L2.tVar 1)) (tCons (tXf a cls (some d) c g (L2.tVar 1)) tNil)))) (asEnds 1 D) (σ.set 1 (some (.ref a))) H := by
  obtain ⟨u, u', rfl⟩ : ∃ u u', σ = [u, u'] := by
    match σ, hl with
    | [u, u'], _ => exact ⟨u, u', rfl⟩
  have lg : List.lookup g [(f, v), (g, w)] = some w := by
    rw [List.lookup_cons, beq_false_of_ne (Ne.symm fg), List.lookup_cons_self]
  exact ⟨.ref a, rfl, rfl, hc, d, _, v, rfl, hd, List.lookup_cons_self, .ref a, rfl, rfl, hc, d, _, w, rfl, hd, lg, szl, fun p np => q p np⟩
theorem cl_one {a c : Addr} {cls : Value} {d : Addr} {f x : Str} {v : V} {σ : L2.St} {H : Hp} {D : Ends} (hl : σ.length = 2) (hc : cls = .ref c) (hd : H d = some (.xd [(f, v)]))
    (q : ∀ p, H p = none → D.rt (.ref p) (upd H p (.tup [.str x, v]))) : tRet (tTup (tCons (L2.tC (.str x)) (tCons (tXf a cls (some d) c f (L2.tVar 1)) tNil))) (asEnds 1 D) (σ.set 1 (some (.ref a))) H := by
  obtain ⟨u, u', rfl⟩ : ∃ u u', σ = [u, u'] := by
    match σ, hl with
    | [u, u'], _ => exact ⟨u, u', rfl⟩
  exact ⟨.ref a, rfl, rfl, hc, d, _, v, rfl, hd, List.lookup_cons_self, szl, fun p np => q p np⟩
theorem map_two {fl : List (Str × PyData)} {f g : Str} (e : fl.map (·.1) = [f, g]) : ∃ x y, fl = [(f, x), (g, y)] := by
  match fl, e with
  | [(a, x), (b, y)], e => cases e; exact ⟨x, y, rfl⟩
theorem map_one {fl : List (Str × PyData)} {f : Str} (e : fl.map (·.1) = [f]) : ∃ x, fl = [(f, x)] := by
  match fl, e with
  | [(a, x)], e => cases e; exact ⟨x, rfl⟩
theorem exr_two {H : Hp} {c : Value} {dd : Option Addr} {x f g : Str} {fl : List (Str × PyData)} (h : ExcR C H c dd ⟨x, fl⟩) (e : fl.map (·.1) = [f, g]) : ∃ p d v w, c = .ref p ∧ C.mg x = some (.ref p) ∧ dd = some d ∧ H d = some (.xd [(f, v), (g, w)]) ∧ RDs C.K H [v, w] (fl.map (·.2)) := by
  obtain ⟨y, z, rfl⟩ := map_two e
  obtain ⟨p, rfl, hm, h⟩ := h
  rcases h with ⟨h1, _⟩ | ⟨d, fs, rfl, hd, r⟩
  · cases h1
  · have r : Paired (fun (x : Str × V) (y : Str × PyData) => x.1 = y.1 ∧ RD C.K H x.2 y.2) fs [(f, y), (g, z)] := r
    cases r with
    | cons h1 r => cases r with
      | cons h2 r =>
        cases r
        rename_i a b
        obtain ⟨a1, a2⟩ := a
        obtain ⟨b1, b2⟩ := b
        obtain ⟨e1, h1⟩ := h1
        obtain ⟨e2, h2⟩ := h2
        obtain rfl : a1 = f := e1
        obtain rfl : b1 = g := e2
        exact ⟨p, d, _, _, rfl, hm, rfl, hd, .cons h1 (.one h2)⟩
theorem exr_one {H : Hp} {c : Value} {dd : Option Addr} {x f : Str} {fl : List (Str × PyData)} (h : ExcR C H c dd ⟨x, fl⟩) (e : fl.map (·.1) = [f]) : ∃ p d v, c = .ref p ∧ C.mg x = some (.ref p) ∧ dd = some d ∧ H d = some (.xd [(f, v)]) ∧ RDs C.K H [v] (fl.map (·.2)) := by
  obtain ⟨y, rfl⟩ := map_one e
  obtain ⟨p, rfl, hm, h⟩ := h
  rcases h with ⟨h1, _⟩ | ⟨d, fs, rfl, hd, r⟩
  · cases h1
  · have r : Paired (fun (x : Str × V) (y : Str × PyData) => x.1 = y.1 ∧ RD C.K H x.2 y.2) fs [(f, y)] := r
    cases r with
    | cons h1 r =>
      cases r
      rename_i a
      obtain ⟨a1, a2⟩ := a
      obtain ⟨e1, h1⟩ := h1
      obtain rfl : a1 = f := e1
      exact ⟨p, d, _, rfl, hm, rfl, hd, .one h1⟩
/-- the classes of the package's errors -/
structure Six (C : Cn) (c0 c1 c2 c3 c4 c5 : Addr) : Prop where
  g0 : C.mg "Nothing" = some (.ref c0)
  g1 : C.mg "BadText" = some (.ref c1)
  g2 : C.mg "BadWorld" = some (.ref c2)
  g3 : C.mg "BadProgram" = some (.ref c3)
  g4 : C.mg "NoCommand" = some (.ref c4)
  g5 : C.mg "TooLarge" = some (.ref c5)
  t0 : PySem.W.exmOne C.K (.ref c0) (.ref c0) = some true
  t1 : PySem.W.exmOne C.K (.ref c1) (.ref c1) = some true
  t2 : PySem.W.exmOne C.K (.ref c2) (.ref c2) = some true
  t3 : PySem.W.exmOne C.K (.ref c3) (.ref c3) = some true
  t4 : PySem.W.exmOne C.K (.ref c4) (.ref c4) = some true
  t5 : PySem.W.exmOne C.K (.ref c5) (.ref c5) = some true
  f10 : PySem.W.exmOne C.K (.ref c1) (.ref c0) = some false
  f20 : PySem.W.exmOne C.K (.ref c2) (.ref c0) = some false
  f21 : PySem.W.exmOne C.K (.ref c2) (.ref c1) = some false
  f30 : PySem.W.exmOne C.K (.ref c3) (.ref c0) = some false
  f31 : PySem.W.exmOne C.K (.ref c3) (.ref c1) = some false
  f32 : PySem.W.exmOne C.K (.ref c3) (.ref c2) = some false
  f40 : PySem.W.exmOne C.K (.ref c4) (.ref c0) = some false
  f41 : PySem.W.exmOne C.K (.ref c4) (.ref c1) = some false
  f42 : PySem.W.exmOne C.K (.ref c4) (.ref c2) = some false
  f43 : PySem.W.exmOne C.K (.ref c4) (.ref c3) = some false
  f50 : PySem.W.exmOne C.K (.ref c5) (.ref c0) = some false
  f51 : PySem.W.exmOne C.K (.ref c5) (.ref c1) = some false
  f52 : PySem.W.exmOne C.K (.ref c5) (.ref c2) = some false
  f53 : PySem.W.exmOne C.K (.ref c5) (.ref c3) = some false
  f54 : PySem.W.exmOne C.K (.ref c5) (.ref c4) = some false
def known6 : List (Str × List Str) := [("Nothing", []), ("BadText", ["line", "column"]), ("BadWorld", ["where", "fault"]), ("BadProgram", ["where", "fault"]), ("NoCommand", ["line"]), ("TooLarge", ["what", "limit"])]
def clauses6 (c0 c1 c2 c3 c4 c5 : Addr) : List Cl := [
  { c := .ref c0, at_ := none, ts := fun a cls d => tRet (tTup (tCons (L2.tC (.str "Nothing")) tNil)) },
  { c := .ref c1, at_ := some 1, ts := fun a cls d => tRet (tTup (tCons (L2.tC (.str "BadText")) (tCons (tXf a cls d c1 "line" (L2.tVar 1)) (tCons (tXf a cls d c1 "column" (L2.tVar 1)) tNil)))) },
  { c := .ref c2, at_ := some 1, ts := fun a cls d => tRet (tTup (tCons (L2.tC (.str "BadWorld")) (tCons (tXf a cls d c2 "where" (L2.tVar 1)) (tCons (tXf a cls d c2 "fault" (L2.tVar 1)) tNil)))) },
  { c := .ref c3, at_ := some 1, ts := fun a cls d => tRet (tTup (tCons (L2.tC (.str "BadProgram")) (tCons (tXf a cls d c3 "where" (L2.tVar 1)) (tCons (tXf a cls d c3 "fault" (L2.tVar 1)) tNil)))) },
  { c := .ref c4, at_ := some 1, ts := fun a cls d => tRet (tTup (tCons (L2.tC (.str "NoCommand")) (tCons (tXf a cls d c4 "line" (L2.tVar 1)) tNil))) },
  { c := .ref c5, at_ := some 1, ts := fun a cls d => tRet (tTup (tCons (L2.tC (.str "TooLarge")) (tCons (tXf a cls d c5 "what" (L2.tVar 1)) (tCons (tXf a cls d c5 "limit" (L2.tVar 1)) tNil)))) }]
theorem nof {P : Prop} : false = true → P := fun h => by cases h
theorem not_ {P : Prop} : true = false → P := fun h => by cases h
theorem hear6 {c0 c1 c2 c3 c4 c5 : Addr} (S : Six C c0 c1 c2 c3 c4 c5) : HearR C 2 (clauses6 c0 c1 c2 c3 c4 c5) known6 := by
  rintro ⟨cls, fl⟩ c dd H Q hk ex q σ hl
  have hk : (cls, fl.map (·.1)) ∈ known6 := hk
  have same : ∀ {a b : Addr} {x : Str}, C.mg x = some (.ref a) → C.mg x = some (.ref b) → a = b := fun h1 h2 => by
    rw [h1] at h2; injection Option.some.inj h2
  unfold known6 at hk
  rcases List.mem_cons.mp hk with e | hk
  · injection e with e1 e2
    subst e1
    obtain ⟨p, rfl, hm, _⟩ := ex
    obtain rfl := same hm S.g0
    have e2 : fl = [] := List.map_eq_nil_iff.mp e2
    subst e2
    exact ⟨true, S.t0, fun _ a na => ⟨szl, fun p np => q p [] np .nil⟩, not_⟩
  rcases List.mem_cons.mp hk with e | hk
  · injection e with e1 e2
    subst e1
    obtain ⟨p, d, v, w, rfl, hm, rfl, hd, r⟩ := exr_two ex e2
    obtain rfl := same hm S.g1
    exact ⟨false, S.f10, nof, fun _ => ⟨true, S.t1, fun _ a na => cl_two hl rfl hd (by decide) (fun p np => q p _ np r), not_⟩⟩
  rcases List.mem_cons.mp hk with e | hk
  · injection e with e1 e2
    subst e1
    obtain ⟨p, d, v, w, rfl, hm, rfl, hd, r⟩ := exr_two ex e2
    obtain rfl := same hm S.g2
    exact ⟨false, S.f20, nof, fun _ => ⟨false, S.f21, nof, fun _ => ⟨true, S.t2, fun _ a na => cl_two hl rfl hd (by decide) (fun p np => q p _ np r), not_⟩⟩⟩
  rcases List.mem_cons.mp hk with e | hk
  · injection e with e1 e2
    subst e1
    obtain ⟨p, d, v, w, rfl, hm, rfl, hd, r⟩ := exr_two ex e2
    obtain rfl := same hm S.g3
    exact ⟨false, S.f30, nof, fun _ => ⟨false, S.f31, nof, fun _ => ⟨false, S.f32, nof, fun _ => ⟨true, S.t3, fun _ a na => cl_two hl rfl hd (by decide) (fun p np => q p _ np r), not_⟩⟩⟩⟩
  rcases List.mem_cons.mp hk with e | hk
  · injection e with e1 e2
    subst e1
    obtain ⟨p, d, v, rfl, hm, rfl, hd, r⟩ := exr_one ex e2
    obtain rfl := same hm S.g4
    exact ⟨false, S.f40, nof, fun _ => ⟨false, S.f41, nof, fun _ => ⟨false, S.f42, nof, fun _ => ⟨false, S.f43, nof, fun _ => ⟨true, S.t4, fun _ a na => cl_one hl rfl hd (fun p np => q p _ np r), not_⟩⟩⟩⟩⟩
  · obtain e := List.mem_singleton.mp hk
    injection e with e1 e2
    subst e1
    obtain ⟨p, d, v, w, rfl, hm, rfl, hd, r⟩ := exr_two ex e2
    obtain rfl := same hm S.g5
    exact ⟨false, S.f50, nof, fun _ => ⟨false, S.f51, nof, fun _ => ⟨false, S.f52, nof, fun _ => ⟨false, S.f53, nof, fun _ => ⟨false, S.f54, nof, fun _ => ⟨true, S.t5, fun _ a na => cl_two hl rfl hd (by decide) (fun p np => q p _ np r), not_⟩⟩⟩⟩⟩⟩
end
/-! ### the bag -/
def bagC (x y z : Int) (cs : List Int) : Cell := .lst [.d (.int x), .d (.int y), .d (.int z), .d (.list (cs.map PyData.int))]
/-- the bag of a script -/
def bag0 (ns : List Int) : Cell := bagC 0 1234567891 0 ((ns.take 63).map fun n => if n < 0 then -n else n)
def spBagZ (K : PySem.W.Frag) : Sp := fun vs H Q _ => ∃ (a : Addr) (ns : List Int), vs = [.ref a] ∧ SqL K H a (ns.map V.int) ∧ ∀ (b c : Addr) (H' : Hp), Same H H' → H b = none → H' b = some (.lst [.int 0, .int 1234567891, .int 0, .ref c]) → SqF K H' c (((ns.take 63).map fun n => if n < 0 then -n else n).map V.int) → Q (.ref b) H'
/-- a law's body behind its first row: from the bag alone -/
def lawS (N : Nat) : Env := none :: some (.v (.ref 0)) :: List.replicate (N - 2) none
theorem law_body {C : Cn} {E : XK} {t : TS} {m : MS} {N : List Str} {a : Addr} {ns : List Int} {H : Hp} {Q : VK} (h : SS C E t m) (hN : 2 ≤ N.length) (hS : SqL C.K H a (ns.map V.int)) (tab : LamX.Tabs C.T H) (hr : ∃ s', m (lawS N.length) [bag0 ns] = .ok (.rt (.d (.bool true))) s') (q : ∀ H', Q (.bl true) H') {E' : XK} :
    tSeq (tAsg (tCall (spBagZ C.K) [] E' (tCons (L2.tVar 0) tNil)) (gName 1)) t { nx := fun _ H' => Q .non H', rt := Q } (L2.start N [.ref a]) H := by
  obtain ⟨s', hr⟩ := hr
  have hst : L2.start N [V.ref a] = some (.ref a) :: List.replicate (N.length - 1) none := rfl
  refine ⟨.ref a, by rw [hst]; rfl, a, ns, rfl, hS, fun b c H1 s1 nb eb hc => ?_⟩
  have sto : StoR C [b] H1 [bag0 ns] := ⟨rfl, List.nodup_cons.mpr ⟨List.not_mem_nil, List.nodup_nil⟩, fun i cl e => by
    cases i with
    | zero =>
      cases e
      exact ⟨b, rfl, _, eb, .cons (.d (.int _)) (.cons (.d (.int _)) (.cons (.d (.int _)) (.cons (.d (.lst hc (RDs.ints _))) .nil)))⟩
    | succ i => cases e⟩
  have er : ER C H1 [b] H1 ((L2.start N [V.ref a]).set 1 (some (.ref b))) (lawS N.length) := by
    obtain ⟨k, hk⟩ : ∃ k, N.length = k + 2 := ⟨N.length - 2, by omega⟩
    rw [hst, hk]
    have e1 : (some (V.ref a) :: List.replicate (k + 2 - 1) none).set 1 (some (V.ref b)) = some (V.ref a) :: some (V.ref b) :: List.replicate k none := rfl
    have e2 : lawS (k + 2) = none :: some (.v (.ref 0)) :: List.replicate k none := rfl
    rw [e1, e2]
    have key : ∀ (i : Nat) (sl : Sl), (none :: some (Sl.v (.ref 0)) :: List.replicate k none)[i]? = some (some sl) → i = 1 ∧ sl = .v (.ref 0) := fun i sl e => by
      match i, e with
      | 1, e => cases e; exact ⟨rfl, rfl⟩
      | i + 2, e =>
        have := List.mem_of_getElem? (show (List.replicate k (none : Option Sl))[i]? = some (some sl) from e)
        rw [List.mem_replicate] at this
        cases this.2
    exact {
      len := by simp
      env := fun i sl e => by
        obtain ⟨rfl, rfl⟩ := key i sl e
        exact ⟨_, rfl, .ref rfl⟩
      own := fun i sl p e o _ => by
        obtain ⟨rfl, rfl⟩ := key i sl e
        cases o
      dis := fun i j sl sl' p e _ o _ _ _ => by
        obtain ⟨rfl, rfl⟩ := key i sl e
        cases o }
  refine h H1 [b] [b] H1 _ _ _ _ ⟨FR.refl sto (tabs_same tab s1), er⟩ ?_
  rw [hr]
  intro x H2 μ2 _ hx
  cases hx with
  | d hx => cases hx; exact q H2
end Pz
set_option maxRecDepth 100000
set_option autoImplicit false
set_option maxHeartbeats 1000000
/-! Pz10: chains, pairs of names, names of defs as values. -/
namespace Pz
open PySem PySem.Spec PyProof.Rows
open L2 Hk
@[irreducible] def FUEL : Nat := 1000000000
def eCh (f g : PyData → PyData → Option PyData) (a b c : ME) : ME := fun ρ s => (a ρ s).bind fun x s => (b ρ s).bind fun y s => (ap2 f x y s).bind fun z s => (tst z s).bind fun k s => if k = true then (c ρ s).bind fun w s => ap2 g y w s else .ok (.d (.bool false)) s
section
variable {C : Cn} {E : XK}
theorem se_chain {r r' : R2} {f g : PyData → PyData → Option PyData} {ta tb tc : TE} {ma mb mc : ME} (o : OpS C.K r f) (o' : OpS C.K r' g) (ha : SB C E ta ma) (hb : SB C E tb mb) (hc : SB C E tc mc) : SE C E (tChain r r' ta tb tc) (eCh f g ma mb mc) := fun H₀ μ₀ μ H σ ρ s Q h p => by
  refine SG.bind (t := ta) ha h p (fun x v s1 H1 μ1 k1 r1 hx p1 => ?_)
  refine SG.bind (t := tb) hb r1 p1 (fun y w s2 H2 μ2 k2 r2 hy p2 => ?_)
  cases v with
  | ref a => exact p2.elim
  | fn a => exact p2.elim
  | d a =>
    cases w with
    | ref b => exact p2.elim
    | fn b => exact p2.elim
    | d b =>
      cases e : f a b with
      | none =>
        replace p2 : Post C (rV C) H₀ μ₀ σ ρ μ2 H2 E Q (Out.bind (match f a b with
          | some z => .ok (.d z) s2
          | none => .stk) fun z s => (tst z s).bind fun k s => if k = true then (mc ρ s).bind fun w s => ap2 g (.d b) w s else .ok (.d (.bool false)) s) := p2
        rw [e] at p2
        exact p2.elim
      | some z =>
        replace p2 : Post C (rV C) H₀ μ₀ σ ρ μ2 H2 E Q (Out.bind (match f a b with
          | some z => .ok (.d z) s2
          | none => .stk) fun z s => (tst z s).bind fun k s => if k = true then (mc ρ s).bind fun w s => ap2 g (.d b) w s else .ok (.d (.bool false)) s) := p2
        rw [e] at p2
        refine o H2 x y a b z _ ((rB.later (Hs' := H) hx k2).bd r2) (hy.bd r2) e (fun u H3 sm rd => ?_)
        have r3 := r2.same sm
        have k3 : Stp μ2 H2 μ2 H3 := Stp.same sm
        have p3 := Post.mono (C := C) (R := rV C) p2 k3
        obtain ⟨k, eu, p4⟩ := tst_ok (RV.d rd) p3
        refine ⟨k, eu, ?_⟩
        cases k with
        | false => exact iteF (p4.ok r3 (.d (.bl _)))
        | true =>
          refine iteT ?_
          refine SG.bind (t := tc) hc r3 p4 (fun z' w' s5 H5 μ5 k5 r5 hz p5 => ?_)
          unfold ap2 at p5
          split at p5
          · rename_i b' c' e1
            cases e1
            split at p5
            · rename_i z2 e2
              exact o' H5 y z' b c' z2 Q ((rB.later (Hs' := H) hy (k3.trans k5)).bd r5) (hz.bd r5) e2 (fun w H' k rd => p5.same r5 k (.d rd))
            · exact p5.elim
          · exact p5.elim
end
/-! ### a, b = x, y -/
inductive El where
  | v (m : ME) | own (m : Env → Store → Out (List PyData)) | dic
def El.run : El → Env → Store → Out Sl
  | .v m => fun ρ s => (m ρ s).bind fun x s => .ok (.v x) s
  | .own m => fun ρ s => (m ρ s).bind fun ds s => .ok (.lst ds) s
  | .dic => fun _ s => .ok (.dic []) s
def sPar2 (i j : Nat) (a b : El) : MS := fun ρ s => (a.run ρ s).bind fun x s => (b.run ρ s).bind fun y s => .ok (.nx ((ρ.set i (some x)).set j (some y))) s
def sPar3 (i j l : Nat) (a b c : El) : MS := fun ρ s => (a.run ρ s).bind fun x s => (b.run ρ s).bind fun y s => (c.run ρ s).bind fun z s => .ok (.nx (((ρ.set i (some x)).set j (some y)).set l (some z))) s
/-- a value, or something new -/
abbrev rS (C : Cn) : Rel V Sl := fun H₀ Hs σ ρ μ H x sl => SlR C μ H x sl ∧ (sl.owned = true → ∃ p, x = .ref p ∧ Free Hs p ∧ Free H₀ p ∧ p ∉ μ ∧ ∀ (i : Nat) (sl' : Sl), ρ[i]? = some (some sl') → sl'.owned = true → σ[i]? ≠ some (some (.ref p)))
instance (C : Cn) : ROk (rS C) := ⟨fun a h => ⟨h.1, fun o => by
  obtain ⟨p, e, h1, h2⟩ := h.2 o
  exact ⟨p, e, a.there p h1, h2⟩⟩⟩
/-- an element stands for what it is -/
inductive SEl (C : Cn) (E : XK) : TE → El → Prop
  | v {t : TE} {m : ME} (h : SE C E t m) : SEl C E t (.v m)
  | own {t : TE} {m : Env → Store → Out (List PyData)} (h : SF C E t m) : SEl C E t (.own m)
  | dic : SEl C E tDNewK .dic
section
variable {C : Cn} {E : XK} {H₀ : Hp} {μ₀ μ μ' : List Addr} {H H' : Hp} {σ : L2.St} {ρ : Env} {s s' : Store}
theorem SEl.sg {t : TE} {a : El} (h : SEl C E t a) : SG C (rS C) E t a.run := by
  cases h with
  | v h =>
    intro H₀ μ₀ μ H σ ρ s Q r p
    exact SG.bind (t := t) h r p (fun x v s1 H1 μ1 k1 r1 hx p1 => p1.ok r1 ⟨hx, fun o => by cases o⟩)
  | own h =>
    intro H₀ μ₀ μ H σ ρ s Q r p
    refine h H₀ μ₀ μ H σ ρ s Q r ?_
    replace p : Post C (rS C) H₀ μ₀ σ ρ μ H E Q ((_ : Out (List PyData)).bind fun ds s => .ok (.lst ds) s) := p
    rename_i m
    cases e : m ρ s with
    | ok ds s1 =>
      rw [e] at p
      intro x H1 μ1 k1 r1 hx
      obtain ⟨q, vs, rfl, e1, rd, f1, f2, f3, f4⟩ := hx
      exact p _ H1 μ1 k1 r1 ⟨⟨q, vs, rfl, e1, rd⟩, fun _ => ⟨q, rfl, f1, f2, f3, f4⟩⟩
    | exc e' s1 => rw [e] at p; exact p
    | stk => rw [e] at p; exact p
  | dic =>
    intro H₀ μ₀ μ H σ ρ s Q r p q n
    exact p _ _ μ (.same (sameUpd n)) (r.same (sameUpd n)) ⟨⟨q, [], rfl, upd_same, .nil⟩, fun _ => ⟨q, rfl, .of n, (r.fr.new n).1, (r.fr.new n).2, fun i sl e o => r.er.new n e o⟩⟩
/-- kept while others are asked -/
theorem rS.later {Hs Hs' : Hp} {x : V} {sl : Sl} (h : rS C H₀ Hs σ ρ μ H x sl) (k : Stp μ H μ' H') (f : ∀ p, Free Hs p → Free Hs' p) : rS C H₀ Hs' σ ρ μ' H' x sl := by
  refine ⟨?_, fun o => ?_⟩
  · cases sl with
    | v y => exact RV.kt k.kt k.pre h.1
    | lst xs =>
      obtain ⟨q, ws, rfl, e5, e6⟩ := h.1
      obtain ⟨p, e, _, _, n, _⟩ := h.2 rfl
      cases e
      exact ⟨q, ws, rfl, k.keep _ _ e5 n (fun _ z => by cases z), e6.kt k.kt⟩
    | dic kvs =>
      obtain ⟨q, ws, rfl, e5, e6⟩ := h.1
      obtain ⟨p, e, _, _, n, _⟩ := h.2 rfl
      cases e
      exact ⟨q, ws, rfl, k.keep _ _ e5 n (fun _ z => by cases z), KV.same e6 k.kt⟩
  · obtain ⟨p, e, f1, f2, n, g⟩ := h.2 o
    refine ⟨p, e, f p f1, f2, fun m => ?_, g⟩
    rcases k.fresh p m with m | m
    · exact n m
    · obtain ⟨q, ob, e1, e2, e3⟩ := SlR.there h.1 o
      rw [e] at e1
      cases e1
      exact m.not e2 e3
/-- a name is set to a value or to something new -/
theorem SR.setSl {Hs : Hp} {x : V} {sl : Sl} {i : Nat} (r : SR C H₀ μ₀ μ H σ ρ s) (h : rS C H₀ Hs σ ρ μ H x sl) : SR C H₀ μ₀ μ H (σ.set i (some x)) (ρ.set i (some sl)) s := by
  cases sl with
  | v y => exact r.set h.1
  | lst xs =>
    obtain ⟨p, rfl, f1, f2, n, g⟩ := h.2 rfl
    exact ⟨r.fr, r.er.setOwn h.1 f2 n (fun j sl' _ e o => g j sl' e o)⟩
  | dic kvs =>
    obtain ⟨p, rfl, f1, f2, n, g⟩ := h.2 rfl
    exact ⟨r.fr, r.er.setOwn h.1 f2 n (fun j sl' _ e o => g j sl' e o)⟩
/-- the second is apart from the first -/
theorem rS.next {Hs Hs' : Hp} {x y : V} {sl sl' : Sl} {i : Nat} {H1 : Hp} {μ1 : List Addr} (h : rS C H₀ Hs σ ρ μ1 H1 x sl) (q : rS C H₀ H1 σ ρ μ H y sl') : rS C H₀ H1 (σ.set i (some x)) (ρ.set i (some sl)) μ H y sl' := by
  refine ⟨q.1, fun o => ?_⟩
  obtain ⟨p, e, f1, f2, n, g⟩ := q.2 o
  refine ⟨p, e, f1, f2, n, fun j sl2 ej oj z => ?_⟩
  by_cases w : i = j
  · subst w
    have lt : i < σ.length := by
      have := (List.getElem?_eq_some_iff.mp z).1
      rwa [List.length_set] at this
    rw [List.getElem?_set_self lt] at z
    cases z
    have lt2 : i < ρ.length := by
      have := (List.getElem?_eq_some_iff.mp ej).1
      rwa [List.length_set] at this
    rw [List.getElem?_set_self lt2] at ej
    cases ej
    obtain ⟨q2, ob, e1, e2, e3⟩ := SlR.there h.1 oj
    cases e1
    exact f1.not e2 e3
  · rw [List.getElem?_set_ne w] at z ej
    exact g j sl2 ej oj z
theorem ss_par2 {i j : Nat} {ta tb : TE} {a b : El} (h : True) (ha : SEl C E ta a) (hb : SEl C E tb b) : SS C E (tPar i j (tCons ta (tCons tb tNil))) (sPar2 i j a b) := fun H₀ μ₀ μ H σ ρ s D r p => by
  refine SG.bindS (t := ta) ha.sg r p (fun x v s1 H1 μ1 k1 r1 hx p1 => ?_)
  refine SG.bindS (t := tb) hb.sg r1 p1 (fun y w s2 H2 μ2 k2 r2 hy p2 => ?_)
  refine ⟨x, y, rfl, ?_⟩
  have hx2 := rS.later (Hs' := H) hx k2 (fun _ z => z)
  have r3 := r2.setSl (i := i) hx2
  have hy2 : rS C H₀ H1 (σ.set i (some x)) (ρ.set i (some v)) μ2 H2 y w := rS.next (Hs := H) (Hs' := H) hx hy
  exact p2.nx (r3.setSl (i := j) hy2)
theorem ss_par3 {i j l : Nat} {ta tb tc : TE} {a b c : El} (h : True) (ha : SEl C E ta a) (hb : SEl C E tb b) (hc : SEl C E tc c) : SS C E (tPar3 i j l (tCons ta (tCons tb (tCons tc tNil)))) (sPar3 i j l a b c) := fun H₀ μ₀ μ H σ ρ s D r p => by
  refine SG.bindS (t := ta) ha.sg r p (fun x v s1 H1 μ1 k1 r1 hx p1 => ?_)
  refine SG.bindS (t := tb) hb.sg r1 p1 (fun y w s2 H2 μ2 k2 r2 hy p2 => ?_)
  refine SG.bindS (t := tc) hc.sg r2 p2 (fun z u s3 H3 μ3 k3 r3 hz p3 => ?_)
  refine ⟨x, y, z, rfl, ?_⟩
  have hx2 := rS.later (Hs' := H) hx k2 (fun _ z => z)
  have hx3 := rS.later (Hs' := H) hx (k2.trans k3) (fun _ z => z)
  have hy3 := rS.later (Hs' := H1) hy k3 (fun _ z => z)
  have r4 := r3.setSl (i := i) hx3
  have hy4 : rS C H₀ H1 (σ.set i (some x)) (ρ.set i (some v)) μ3 H3 y w := rS.next (Hs := H) (Hs' := H) hx hy3
  have r5 := r4.setSl (i := j) hy4
  have hz4 : rS C H₀ H2 (σ.set i (some x)) (ρ.set i (some v)) μ3 H3 z u := rS.next (Hs := H) (Hs' := H) hx2 hz
  have hy2 : rS C H₀ H1 (σ.set i (some x)) (ρ.set i (some v)) μ2 H2 y w := rS.next (Hs := H) (Hs' := H) hx hy
  have hz5 : rS C H₀ H2 ((σ.set i (some x)).set j (some y)) ((ρ.set i (some v)).set j (some w)) μ3 H3 z u := rS.next (Hs := H1) (Hs' := H) hy2 hz4
  exact p3.nx (r5.setSl (i := l) hz5)
end
/-! ### defs as values -/
theorem S_mg {K : PySem.W.Frag} {mg : Str → Option Value} {x : Str} {st : Stmt} (S : Src K mg x st) : mg x = some (.ref (Classical.choose S)) := by
  obtain ⟨fd, h, _⟩ := Classical.choose_spec S
  exact h
theorem src_inj {K : PySem.W.Frag} {mg : Str → Option Value} {x y : Str} {st st' : Stmt} (S : Src K mg x st) (S' : Src K mg y st') (e : mg x = mg y) : x = y := by
  obtain ⟨f, fd, g, F⟩ := S
  obtain ⟨f', fd', g', F'⟩ := S'
  rw [g, g'] at e
  injection Option.some.inj e with e
  subst e
  obtain ⟨_, _, _, _, _, _, _, _, _, _, rfl, lk, _⟩ := F.ex
  obtain ⟨_, _, _, _, _, _, _, _, _, _, rfl, lk', _⟩ := F'.ex
  rw [lk] at lk'
  injection lk' with lk'
  injection lk' with _ _ lk' _
  injection lk' with lk'
  exact congrArg FuncData.name lk'
open Classical in
noncomputable def SfOf (C : Cn) (Fs : List (Str × Fn)) (p : Addr) : Option Sp := (Fs.find? fun q => decide (C.mg q.1 = some (.ref p))).map fun q => spF C q.2
inductive FnTab (P : Program) (w : World) (base : Heap) (k : Nat) (C : Cn) : List (Str × Fn) → Prop
  | nil : FnTab P w base k C []
  | cons {x : Str} {F : Fn} {l : List (Str × Fn)} {ps : List Str} {st : Stmt} {j : Nat} (h : Has P w C.K C.mg base CX0 x j ps (spF C F)) (S : Src C.K C.mg x st) (hj : j ≤ k) (r : FnTab P w base k C l) : FnTab P w base k C ((x, F) :: l)
section
variable {P : Program} {w : World} {base : Heap} {k : Nat} {C : Cn}
theorem FnTab.mem {Fs : List (Str × Fn)} (T : FnTab P w base k C Fs) : ∀ {x : Str} {F : Fn}, (x, F) ∈ Fs → (∃ ps j, j ≤ k ∧ Has P w C.K C.mg base CX0 x j ps (spF C F)) ∧ ∃ st, Src C.K C.mg x st := by
  induction T with
  | nil => intro x F m; cases m
  | cons h S hj r ih =>
    intro x F m
    rcases List.mem_cons.mp m with e | m
    · cases e; exact ⟨⟨_, _, hj, h⟩, _, S⟩
    · exact ih m
theorem lookup_mem {x : Str} {F : Fn} : ∀ {Fs : List (Str × Fn)}, Fs.lookup x = some F → (x, F) ∈ Fs
  | [], e => by cases e
  | (y, G) :: l, e => by
    rw [List.lookup_cons] at e
    by_cases h : x = y
    · subst h
      simp at e
      subst e
      exact List.mem_cons_self
    · rw [beq_false_of_ne h] at e
      exact List.mem_cons_of_mem _ (lookup_mem e)
theorem fn_tab {Fs : List (Str × Fn)} (T : FnTab P w base k C Fs) (nd : (Fs.map (·.1)).Nodup) : (∀ f sp, SfOf C Fs f = some sp → Held P w C.K C.mg base k f sp) ∧ (∀ f F p, Fs.lookup f = some F → C.mg f = some (.ref p) → SfOf C Fs p = some (spF C F)) := by
  constructor
  · intro f sp e
    unfold SfOf at e
    cases e1 : Fs.find? fun q => decide (C.mg q.1 = some (.ref f)) with
    | none => rw [e1] at e; cases e
    | some q =>
      rw [e1] at e
      cases e
      obtain ⟨x, F⟩ := q
      have m := List.mem_of_find?_eq_some e1
      have h0 := List.find?_some e1
      have h := of_decide_eq_true h0
      obtain ⟨⟨ps, j, hj, f2, fd, g, kp, bd, FF⟩, _⟩ := T.mem m
      replace h : C.mg x = some (.ref f) := h
      rw [g] at h
      injection Option.some.inj h with h
      subst h
      exact ⟨fd, ps, FF.mono hj, kp, bd.b⟩
  · intro f F p e g
    have m := lookup_mem e
    unfold SfOf
    cases e1 : Fs.find? fun q => decide (C.mg q.1 = some (.ref p)) with
    | none =>
      have := List.find?_eq_none.mp e1 _ m
      exact absurd (decide_eq_true g) this
    | some q =>
      obtain ⟨x, G⟩ := q
      have m2 := List.mem_of_find?_eq_some e1
      have h0 := List.find?_some e1
      have h := of_decide_eq_true h0
      obtain ⟨_, st, S⟩ := T.mem m
      obtain ⟨_, st', S'⟩ := T.mem m2
      have : f = x := src_inj S S' (g.trans h.symm)
      subst this
      have key : ∀ {l : List (Str × Fn)}, (l.map (·.1)).Nodup → (f, F) ∈ l → (f, G) ∈ l → F = G := by
        intro l
        induction l with
        | nil => intro _ m; cases m
        | cons a l ih =>
          intro nd m m2
          rw [List.map_cons, List.nodup_cons] at nd
          rcases List.mem_cons.mp m with e | m
          · rcases List.mem_cons.mp m2 with e2 | m2
            · rw [← e] at e2; cases e2; rfl
            · exact absurd (List.mem_map.mpr ⟨_, m2, by rw [← e]⟩) nd.1
          · rcases List.mem_cons.mp m2 with e2 | m2
            · exact absurd (List.mem_map.mpr ⟨_, m, by rw [← e2]⟩) nd.1
            · exact ih nd.2 m m2
      rw [key nd m m2]
      rfl
end
end Pz
set_option maxRecDepth 100000
set_option autoImplicit false
set_option maxHeartbeats 1000000
/-! Pz11: the bag is made; the bag's draws. -/
namespace Pz
open PySem PySem.Spec PyProof.Rows
open L2 Hk
theorem cut63 (ns : List Int) : cutV (ns.map V.int) none (some 63) = (ns.take 63).map V.int := by
  unfold cutV
  rw [show HT.sIx (ns.map V.int).length (ns.map V.int).length (some 63) = min 63 (ns.map V.int).length from HT.sIx_nat _ _ 63, HT.sIx_none, List.drop_zero, ← List.map_take]
  congr 1
  rw [Nat.sub_zero]
  by_cases h : 63 ≤ ns.length
  · rw [Nat.min_eq_left (by rw [List.length_map]; exact h)]
  · rw [Nat.min_eq_right (by rw [List.length_map]; omega), List.length_map, List.take_of_length_le (Nat.le_refl _), List.take_of_length_le (by omega)]
def absI (n : Int) : Int := if n < 0 then -n else n
/-- what _law_bag's body reads as -/
theorem bag_reads {K : PySem.W.Frag} {H : Hp} {Q : VK} {a : Addr} {ns : List Int} {nx : L2.St → Hp → Prop} {bk ct : L2.St → Hp → Prop} (hS : SqL K H a (ns.map V.int)) (q : ∀ (b c : Addr) (H' : Hp), Same H H' → H b = none → H' b = some (.lst [.int 0, .int 1234567891, .int 0, .ref c]) → SqF K H' c (((ns.take 63).map fun n => if n < 0 then -n else n).map V.int) → Q (.ref b) H') :
    tRet (tLst (tCons (L2.tC (.int 0)) (tCons (L2.tC (.int 1234567891)) (tCons (L2.tC (.int 0)) (tCons (tFz (tLc (iList K (tSl (USl K) (L2.tVar 0) tNoPart (tPart (L2.tC (.int 63))))) (gName 1) L2.tYes (tCB UAbs (tCons (L2.tVar 1) tNil)) [1])) tNil))))) ⟨nx, Q, bk, ct⟩ [some (.ref a), none] H := by
  refine ⟨.ref a, rfl, 63, rfl, .lst hS (fun p np => ⟨p, rfl, ⟨_, SqL.of upd_same⟩, fun D nD => ?_⟩)⟩
  rw [cut63] at nD ⊢
  generalize hms : ns.take 63 = ms at nD ⊢
  have l63 : ms.length ≤ 63 := by rw [← hms, List.length_take]; omega
  rw [hms] at q
  refine walk_list (xs := ms.map V.int) (Pv := fun i H1 => Same (upd H p (.lst (ms.map V.int))) H1 ∧ H1 D = some (.lst (((ms.take i).map absI).map V.int))) ⟨sameUpd nD, upd_same⟩ (fun i H1 _ z => SqL.of (z.1 _ _ upd_same)) (fun i x H1 hx z => ?_) (fun H1 z => ?_)
  · obtain ⟨s1, e1⟩ := z
    rw [List.getElem?_map] at hx
    obtain ⟨n, en, rfl⟩ : ∃ n : Int, ms[i]? = some n ∧ x = .int n := by
      cases e : ms[i]? with
      | none => rw [e] at hx; cases hx
      | some n => rw [e] at hx; exact ⟨n, rfl, (Option.some.inj hx).symm⟩
    have et : ms.take (i + 1) = ms.take i ++ [n] := by rw [List.take_add_one, en]; rfl
    refine ⟨rfl, _, rfl, .int ⟨_, e1, small1000 (by rw [List.length_map, List.length_map, List.length_take]; omega), fun b o hb => ?_, by rw [upd_same, et, List.map_append, List.map_append]; rfl⟩⟩
    rw [upd_ne (ne_of_none hb nD)]
    exact s1 _ _ hb
  · obtain ⟨s1, e1⟩ := z
    rw [List.length_map, List.take_length] at e1
    have s2 : Same H H1 := (sameUpd np).trans s1
    have nD0 : H D = none := by
      cases e : H D with
      | none => rfl
      | some o => rw [(sameUpd np) _ _ e] at nD; cases nD
    refine .inr ⟨D, _, rfl, e1, fun o => ⟨szl, fun b nb => ?_⟩⟩
    have s3 : Same H (upd H1 D (.frz o (.lst ((ms.map absI).map V.int)))) := fun x ob e => by rw [upd_ne (ne_of_none e nD0)]; exact s2 x ob e
    refine q b D _ (s3.trans (sameUpd nb)) (s3.free nb) upd_same ⟨o, (sameUpd nb) _ _ upd_same⟩
end Pz
set_option maxRecDepth 100000
set_option autoImplicit false
set_option maxHeartbeats 4000000
/-! Pz12: the bag's draws (F_take was printed by genz.py); loops in plain words. -/
namespace Pz
open PySem L2 Hk
def F_take : Fn := mkF 2 7
  (sSeq (sIf (tB (eOp eqD (eCIx (eVar 0) (eC (.d (.int 0)))) (eC (.d (.int 0)))))
      (sSeq (sAsg (eOp ixD (eOp addA (eSl (eCIx (eVar 0) (eC (.d (.int 3)))) (pSome (eCIx (eVar 0) (eC (.d (.int 2))))) pNone) (eFz (fLst (aCons (eC (.d (.int 0))) aNil)))) (eC (.d (.int 0)))) (gN 2))
    (sSeq (sCAug (fun i j => i + j) (eVar 0) 2 (eC (.d (.int 1))))
    (sSeq (sIf (tB (eOp geD (eVar 2) (eOp powD (eC (.d (.int 10))) (eC (.d (.int 18))))))
      (sCPut (eVar 0) (eC (.d (.int 0))) (eVar 2))
      sNext)
    (sSeq (sAsg (eOp addA (eOp addA (eOp mulD (eCIx (eVar 0) (eC (.d (.int 1)))) (eC (.d (.int 48271)))) (eOp modD (eCB intD (aCons (eVar 2) aNil)) (eC (.d (.int 2147483647))))) (eOp mulD (eC (.d (.int 7919))) (eCIx (eVar 0) (eC (.d (.int 2)))))) (gN 3))
    (sCPut (eVar 0) (eC (.d (.int 1))) (eOp modD (eCB intD (aCons (eVar 3) aNil)) (eC (.d (.int 2147483647)))))))))
      sNext)
    (sSeq (sIf (tB (eOp gtD (eCIx (eVar 0) (eC (.d (.int 0)))) (eC (.d (.int 0)))))
      (sSeq (sAsg (eOp modD (eCB intD (aCons (eCIx (eVar 0) (eC (.d (.int 0)))) aNil)) (eVar 1)) (gN 4))
    (sSeq (sCPut (eVar 0) (eC (.d (.int 0))) (eOp fdivD (eCB intD (aCons (eCIx (eVar 0) (eC (.d (.int 0)))) aNil)) (eVar 1)))
    (sRet (eVar 4))))
      sNext)
    (sSeq (sAsg (eOp modD (eCB intD (aCons (eOp mulD (eOp addA (eCIx (eVar 0) (eC (.d (.int 1)))) (eC (.d (.int 1)))) (eC (.d (.int 39373)))) aNil)) (eC (.d (.int 1000000007)))) (gN 5))
    (sSeq (sAsg (eOp modD (eCB intD (aCons (eOp mulD (eOp modD (eCB intD (aCons (eOp mulD (eVar 5) (eVar 5)) aNil)) (eC (.d (.int 998244353)))) (eC (.d (.int 30011)))) aNil)) (eC (.d (.int 998244353)))) (gN 6))
    (sRet (eOp modD (eCB intD (aCons (eOp fdivD (eVar 6) (eC (.d (.int 7)))) aNil)) (eVar 1)))))))
/-- a bag that is well -/
structure Bag where
  x : Int
  y : Int
  z : Int
  cs : List Int
  hy : 0 ≤ y ∧ y < 2147483647
  hc : cs.length ≤ 63
def Bag.cell (b : Bag) : Cell := bagC b.x b.y b.z b.cs
theorem ints_cut (cs : List Int) (l u : Option Int) : ∃ ms : List Int, cutD (cs.map PyData.int) l u = ms.map PyData.int ∧ ms.length ≤ cs.length := by
  unfold cutD
  rw [← List.map_drop, ← List.map_take]
  refine ⟨_, rfl, ?_⟩
  rw [List.length_take, List.length_drop]
  omega
/-- the head of such a list, 0 of none -/
theorem head_ints (ms : List Int) : ∃ i : Int, atI (ms.map PyData.int ++ [.int 0]) 0 = some (.int i) := by
  cases ms with
  | nil => exact ⟨0, rfl⟩
  | cons m ms => exact ⟨m, atI_nat (j := 0) rfl⟩
/-! ### one statement after another -/
theorem seq_step {a b : MS} {ρ ρ1 : Env} {s s1 : Store} {o : Out Fl} (h : a ρ s = .ok (.nx ρ1) s1) (k : b ρ1 s1 = o) : sSeq a b ρ s = o := by
  unfold sSeq
  rw [h]; exact k
/-- it comes to True -/
def Yes (o : Out Fl) : Prop := ∃ s', o = .ok (.rt (.d (.bool true))) s'
theorem seq_yes {a b : MS} {ρ ρ1 : Env} {s s1 : Store} (h : a ρ s = .ok (.nx ρ1) s1) (k : Yes (b ρ1 s1)) : Yes (sSeq a b ρ s) := by
  unfold sSeq
  rw [h]; exact k
/-- a statement that returns -/
theorem seq_rt {a b : MS} {ρ : Env} {s s1 : Store} {v : AV} (h : a ρ s = .ok (.rt v) s1) : sSeq a b ρ s = .ok (.rt v) s1 := by
  unfold sSeq
  rw [h]; rfl
theorem seq_exc {a b : MS} {ρ : Env} {s s1 : Store} {e : Exc} (h : a ρ s = .exc e s1) : sSeq a b ρ s = .exc e s1 := by
  unfold sSeq
  rw [h]; rfl
theorem if_true_ {t : MT} {a b : MS} {ρ : Env} {s s1 : Store} (h : t ρ s = .ok true s1) : sIf t a b ρ s = a ρ s1 := by
  unfold sIf
  rw [h]; rfl
theorem if_false_ {t : MT} {a b : MS} {ρ : Env} {s s1 : Store} (h : t ρ s = .ok false s1) : sIf t a b ρ s = b ρ s1 := by
  unfold sIf
  rw [h]; rfl
theorem while_go {c : MT} {b : MS} {n : Nat} {ρ ρ1 : Env} {s s1 s2 : Store} (h : c ρ s = .ok true s1) (k : b ρ s1 = .ok (.nx ρ1) s2) : whileL c b (n + 1) ρ s = whileL c b n ρ1 s2 := by
  rw [whileL, h]
  show (match b ρ s1 with
    | .ok (.nx ρ2) s2 => whileL c b n ρ2 s2
    | .ok (.ct ρ2) s2 => whileL c b n ρ2 s2
    | .ok (.bk ρ2) s2 => .ok (.nx ρ2) s2
    | o => o) = _
  rw [k]
theorem while_end {c : MT} {b : MS} {n : Nat} {ρ : Env} {s s1 : Store} (h : c ρ s = .ok false s1) : whileL c b (n + 1) ρ s = .ok (.nx ρ) s1 := by
  rw [whileL, h]; rfl
/-- a loop keeps a word -/
theorem forL_inv {g : MG} {b : MS} (I : Env → Store → Prop) : ∀ (vs : List AV) (ρ : Env) (s : Store), I ρ s → (∀ v ∈ vs, ∀ ρ s, I ρ s → ∃ ρ1 ρ2 s2, g v ρ = some ρ1 ∧ b ρ1 s = .ok (.nx ρ2) s2 ∧ I ρ2 s2) → ∃ ρ2 s2, forL g b vs ρ s = .ok (.nx ρ2) s2 ∧ I ρ2 s2
  | [], ρ, s, h, _ => ⟨ρ, s, rfl, h⟩
  | v :: vs, ρ, s, h, k => by
    obtain ⟨ρ1, ρ2, s2, e1, e2, h2⟩ := k v List.mem_cons_self ρ s h
    obtain ⟨ρ3, s3, e3, h3⟩ := forL_inv I vs ρ2 s2 h2 (fun v m => k v (List.mem_cons_of_mem _ m))
    refine ⟨ρ3, s3, ?_, h3⟩
    rw [forL, e1]
    simp only [e2, e3]
/-- a loop, turn by turn -/
theorem forL_fold {α : Type} {g : MG} {b : MS} (f : α → AV) (st : Nat → Env) (so : Nat → Store) : ∀ (xs : List α) (k : Nat), (∀ i x, xs[i]? = some x → ∃ ρ1, g (f x) (st (k + i)) = some ρ1 ∧ b ρ1 (so (k + i)) = .ok (.nx (st (k + i + 1))) (so (k + i + 1))) → forL g b (xs.map f) (st k) (so k) = .ok (.nx (st (k + xs.length))) (so (k + xs.length))
  | [], k, _ => rfl
  | x :: xs, k, h => by
    obtain ⟨ρ1, e1, e2⟩ := h 0 x rfl
    rw [Nat.add_zero] at e1 e2
    rw [List.map_cons, forL, e1]
    simp only [e2]
    have := forL_fold f st so xs (k + 1) (fun i y e => by
      have := h (i + 1) y e
      rw [show k + (i + 1) = k + 1 + i by omega] at this
      exact this)
    rw [this, List.length_cons, show k + 1 + xs.length = k + (xs.length + 1) by omega]
/-- a comprehension of plain data -/
theorem lcL_d {α : Type} {g : MG} {c : MT} {e : ME} {ρ : Env} {s : Store} (f : α → AV) (p : α → Bool) (h : α → PyData) : ∀ (xs : List α), (∀ x ∈ xs, ∃ ρ1, g (f x) ρ = some ρ1 ∧ c ρ1 s = .ok (p x) s ∧ (p x = true → e ρ1 s = .ok (.d (h x)) s)) → lcL g c e (xs.map f) ρ s = .ok ((xs.filter p).map h) s
  | [], _ => rfl
  | x :: xs, k => by
    obtain ⟨ρ1, e1, e2, e3⟩ := k x List.mem_cons_self
    have ih := lcL_d f p h xs (fun y m => k y (List.mem_cons_of_mem _ m))
    rw [List.map_cons, lcL, e1]
    show (c ρ1 s).bind _ = _
    rw [e2]
    cases hp : p x with
    | false => rw [List.filter_cons, hp]; exact ih
    | true =>
      show (e ρ1 s).bind _ = _
      rw [e3 hp, List.filter_cons, hp]
      show (lcL g c e (xs.map f) ρ s).bind _ = _
      rw [ih]
      rfl
theorem fLc_eq {it : MA} {g : MG} {c : MT} {e : ME} {vs : List Nat} {ρ : Env} {s s1 : Store} {xs : List AV} (h : it ρ s = .ok xs s1) (l : xs.length ≤ LIM) : fLc it g c e vs ρ s = lcL g c e xs (wipeE ρ vs) s1 := by
  simp only [fLc, h, bind_ok, if_pos l]
theorem fLc_d {α : Type} {it : MA} {g : MG} {c : MT} {e : ME} {vs : List Nat} {ρ : Env} {s : Store} (f : α → AV) (p : α → Bool) (h : α → PyData) (xs : List α) (hi : it ρ s = .ok (xs.map f) s) (l : xs.length ≤ LIM) (k : ∀ x ∈ xs, ∃ ρ1, g (f x) (wipeE ρ vs) = some ρ1 ∧ c ρ1 s = .ok (p x) s ∧ (p x = true → e ρ1 s = .ok (.d (h x)) s)) : fLc it g c e vs ρ s = .ok ((xs.filter p).map h) s := by
  rw [fLc_eq hi (by rw [List.length_map]; exact l)]
  exact lcL_d f p h xs k
theorem lim_of {n k : Nat} (h : n ≤ k) (hk : k ≤ 1000000 := by decide) : n ≤ LIM := by unfold LIM; exact Nat.le_trans h hk
/-- a comprehension whose steps draw: what comes has a word -/
theorem lcL_inv {α : Type} {g : MG} {e : ME} {ρ : Env} (f : α → AV) (I : Store → Prop) (W : PyData → Prop) : ∀ (xs : List α) (s : Store), I s → (∀ x ∈ xs, ∀ s, I s → ∃ ρ1 d s2, g (f x) ρ = some ρ1 ∧ e ρ1 s = .ok (.d d) s2 ∧ W d ∧ I s2) → ∃ ds s2, lcL g tYes e (xs.map f) ρ s = .ok ds s2 ∧ ds.length = xs.length ∧ (∀ d ∈ ds, W d) ∧ I s2
  | [], s, h, _ => ⟨[], s, rfl, rfl, by simp, h⟩
  | x :: xs, s, h, k => by
    obtain ⟨ρ1, d, s2, e1, e2, w, h2⟩ := k x List.mem_cons_self s h
    obtain ⟨ds, s3, e3, l3, w3, h3⟩ := lcL_inv f I W xs s2 h2 (fun y m => k y (List.mem_cons_of_mem _ m))
    refine ⟨d :: ds, s3, ?_, by rw [List.length_cons, List.length_cons, l3], fun z m => ?_, h3⟩
    · rw [List.map_cons, lcL, e1]
      show (e ρ1 s).bind _ = _
      rw [e2]
      show (lcL g tYes e (xs.map f) ρ s2).bind _ = _
      rw [e3]
      rfl
    · rcases List.mem_cons.mp m with rfl | m
      · exact w
      · exact w3 z m
/-! ### a draw -/
theorem mul_ok {i j : Int} (h : i.natAbs < B64 ∨ j.natAbs < B64) : mulD (.int i) (.int j) = some (.int (i * j)) := if_pos h
theorem fmodB {a b : Int} (h : 0 < b) : 0 ≤ a.fmod b ∧ a.fmod b < b := fmod_lt h
def takeT : MT := tB (eOp eqD (eCIx (eVar 0) (eC (.d (.int 0)))) (eC (.d (.int 0))))
theorem cut_int (cs : List Int) (l u : Option Int) : ∃ ms : List Int, cutD (cs.map PyData.int) l u = ms.map PyData.int ∧ ms.length ≤ cs.length := ints_cut cs l u
theorem take_ok (b : Bag) (m : Int) (m0 : 0 < m) (m1 : m < 1073741824) (r : Store) : ∃ (d : Int) (b' : Bag), F_take [.ref 0, .d (.int m)] (b.cell :: r) = .ok (.d (.int d)) (b'.cell :: r) ∧ 0 ≤ d ∧ d < m := by
  obtain ⟨x, y, z, cs, hy, hc⟩ := b
  show ∃ (d : Int) (b' : Bag), F_take [.ref 0, .d (.int m)] (bagC x y z cs :: r) = _ ∧ _
  -- behind the first if
  have step2 : ∀ (x y z : Int) (c st : Option Sl) (hy : 0 ≤ y ∧ y < 2147483647), ∃ (d : Int) (b' : Bag), finF (sSeq (sIf (tB (eOp gtD (eCIx (eVar 0) (eC (.d (.int 0)))) (eC (.d (.int 0)))))
      (sSeq (sAsg (eOp modD (eCB intD (aCons (eCIx (eVar 0) (eC (.d (.int 0)))) aNil)) (eVar 1)) (gN 4))
    (sSeq (sCPut (eVar 0) (eC (.d (.int 0))) (eOp fdivD (eCB intD (aCons (eCIx (eVar 0) (eC (.d (.int 0)))) aNil)) (eVar 1)))
    (sRet (eVar 4))))
      sNext)
    (sSeq (sAsg (eOp modD (eCB intD (aCons (eOp mulD (eOp addA (eCIx (eVar 0) (eC (.d (.int 1)))) (eC (.d (.int 1)))) (eC (.d (.int 39373)))) aNil)) (eC (.d (.int 1000000007)))) (gN 5))
    (sSeq (sAsg (eOp modD (eCB intD (aCons (eOp mulD (eOp modD (eCB intD (aCons (eOp mulD (eVar 5) (eVar 5)) aNil)) (eC (.d (.int 998244353)))) (eC (.d (.int 30011)))) aNil)) (eC (.d (.int 998244353)))) (gN 6))
    (sRet (eOp modD (eCB intD (aCons (eOp fdivD (eVar 6) (eC (.d (.int 7)))) aNil)) (eVar 1))))) [some (.v (.ref 0)), some (.v (.d (.int m))), c, st, none, none, none] (bagC x y z cs :: r)) = .ok (.d (.int d)) (b'.cell :: r) ∧ 0 ≤ d ∧ d < m := by
    intro x y z c st hy
    have mn : m ≠ 0 := by omega
    by_cases hx : x > 0
    · refine ⟨x.fmod m, ⟨x.fdiv m, y, z, cs, hy, hc⟩, ?_, (fmodB m0).1, (fmodB m0).2⟩
      have e1 : (tB (eOp gtD (eCIx (eVar 0) (eC (.d (.int 0)))) (eC (.d (.int 0))))) [some (.v (.ref 0)), some (.v (.d (.int m))), c, st, none, none, none] (bagC x y z cs :: r) = .ok true (bagC x y z cs :: r) := by
        show Out.ok (decide (0 < x)) _ = _
        rw [decide_eq_true (show 0 < x from hx)]
      rw [seq_rt (v := .d (.int (x.fmod m))) (s1 := bagC (x.fdiv m) y z cs :: r)]
      · rfl
      refine (if_true_ e1).trans ?_
      refine seq_step (ρ1 := [some (.v (.ref 0)), some (.v (.d (.int m))), c, st, some (.v (.d (.int (x.fmod m)))), none, none]) (s1 := bagC x y z cs :: r) ?_ ?_
      · simp [finF, sRet, thenS, sAsg, sIf, sNext, sDrop, sCPut, sCAug, setC, tB, tNt, tAn, tOR, eOp, eUn, eIf, eAnd, eOr, eNot, eCB, eCIx, eVar, eOwn, eC, eTup, eFz, fLst, fCat, eSl, pNone, pSome, eCall, noxF, aCons, aNil, cell, datas, ap1, ap2, tst, gN, gsN, gsC, gT, eIsi, eIndex, eDIn, eDGet, sDPut, sLPut, sApp, own, dat, sOwn, sDic, sFz, sRetOwn, sRetN, negD, isND, notND, isNoneD, cmpD, keyD, tupleD, subD, L2.atI, L2.ixN, bagC, modD, intD, mn]
      refine seq_step (ρ1 := [some (.v (.ref 0)), some (.v (.d (.int m))), c, st, some (.v (.d (.int (x.fmod m)))), none, none]) (s1 := bagC (x.fdiv m) y z cs :: r) ?_ rfl
      have hm : m.natAbs < 1073741824 := by omega
      simp [finF, sRet, thenS, sAsg, sIf, sNext, sDrop, sCPut, sCAug, setC, tB, tNt, tAn, tOR, eOp, eUn, eIf, eAnd, eOr, eNot, eCB, eCIx, eVar, eOwn, eC, eTup, eFz, fLst, fCat, eSl, pNone, pSome, eCall, noxF, aCons, aNil, cell, datas, ap1, ap2, tst, gN, gsN, gsC, gT, eIsi, eIndex, eDIn, eDGet, sDPut, sLPut, sApp, own, dat, sOwn, sDic, sFz, sRetOwn, sRetN, negD, isND, notND, isNoneD, cmpD, keyD, tupleD, subD, L2.atI, L2.ixN, bagC, fdivD, intD, mn, hm]
    · have e1 : (tB (eOp gtD (eCIx (eVar 0) (eC (.d (.int 0)))) (eC (.d (.int 0))))) [some (.v (.ref 0)), some (.v (.d (.int m))), c, st, none, none, none] (bagC x y z cs :: r) = .ok false (bagC x y z cs :: r) := by
        show Out.ok (decide (0 < x)) _ = _
        rw [decide_eq_false (show ¬ 0 < x from hx)]
      have f1 := fmodB (a := (y + 1) * 39373) (b := 1000000007) (by decide)
      generalize hB : ((y + 1) * 39373).fmod 1000000007 = B at f1
      have f2 := fmodB (a := B * B) (b := 998244353) (by decide)
      generalize hC : (B * B).fmod 998244353 = C at f2
      have f3 := fmodB (a := C * 30011) (b := 998244353) (by decide)
      generalize hS : (C * 30011).fmod 998244353 = S at f3
      refine ⟨(S.fdiv 7).fmod m, ⟨x, y, z, cs, hy, hc⟩, ?_, (fmodB m0).1, (fmodB m0).2⟩
      have main : (sSeq (sIf (tB (eOp gtD (eCIx (eVar 0) (eC (.d (.int 0)))) (eC (.d (.int 0))))) (sSeq (sAsg (eOp modD (eCB intD (aCons (eCIx (eVar 0) (eC (.d (.int 0)))) aNil)) (eVar 1)) (gN 4))
    (sSeq (sCPut (eVar 0) (eC (.d (.int 0))) (eOp fdivD (eCB intD (aCons (eCIx (eVar 0) (eC (.d (.int 0)))) aNil)) (eVar 1)))
    (sRet (eVar 4)))) sNext) (sSeq (sAsg (eOp modD (eCB intD (aCons (eOp mulD (eOp addA (eCIx (eVar 0) (eC (.d (.int 1)))) (eC (.d (.int 1)))) (eC (.d (.int 39373)))) aNil)) (eC (.d (.int 1000000007)))) (gN 5))
    (sSeq (sAsg (eOp modD (eCB intD (aCons (eOp mulD (eOp modD (eCB intD (aCons (eOp mulD (eVar 5) (eVar 5)) aNil)) (eC (.d (.int 998244353)))) (eC (.d (.int 30011)))) aNil)) (eC (.d (.int 998244353)))) (gN 6))
    (sRet (eOp modD (eCB intD (aCons (eOp fdivD (eVar 6) (eC (.d (.int 7)))) aNil)) (eVar 1)))))) [some (.v (.ref 0)), some (.v (.d (.int m))), c, st, none, none, none] (bagC x y z cs :: r) = .ok (.rt (.d (.int ((S.fdiv 7).fmod m)))) (bagC x y z cs :: r) := by
        refine seq_step (ρ1 := [some (.v (.ref 0)), some (.v (.d (.int m))), c, st, none, none, none]) (s1 := bagC x y z cs :: r) ((if_false_ e1).trans rfl) ?_
        refine seq_step (ρ1 := [some (.v (.ref 0)), some (.v (.d (.int m))), c, st, none, some (.v (.d (.int B))), none]) (s1 := bagC x y z cs :: r) ?_ ?_
        · have hb : mulD (.int (y + 1)) (.int 39373) = some (.int ((y + 1) * 39373)) := mul_ok (.inr (by unfold B64; decide))
          simp [finF, sRet, thenS, sAsg, sIf, sNext, sDrop, sCPut, sCAug, setC, tB, tNt, tAn, tOR, eOp, eUn, eIf, eAnd, eOr, eNot, eCB, eCIx, eVar, eOwn, eC, eTup, eFz, fLst, fCat, eSl, pNone, pSome, eCall, noxF, aCons, aNil, cell, datas, ap1, ap2, tst, gN, gsN, gsC, gT, eIsi, eIndex, eDIn, eDGet, sDPut, sLPut, sApp, own, dat, sOwn, sDic, sFz, sRetOwn, sRetN, negD, isND, notND, isNoneD, cmpD, keyD, tupleD, subD, L2.atI, L2.ixN, bagC, modD, intD, addA, addD, hb, hB]
        refine seq_step (ρ1 := [some (.v (.ref 0)), some (.v (.d (.int m))), c, st, none, some (.v (.d (.int B))), some (.v (.d (.int S)))]) (s1 := bagC x y z cs :: r) ?_ ?_
        · have hb : mulD (.int B) (.int B) = some (.int (B * B)) := mul_ok (.inl (by unfold B64; omega))
          have hb2 : mulD (.int C) (.int 30011) = some (.int (C * 30011)) := mul_ok (.inr (by unfold B64; decide))
          simp [finF, sRet, thenS, sAsg, sIf, sNext, sDrop, sCPut, sCAug, setC, tB, tNt, tAn, tOR, eOp, eUn, eIf, eAnd, eOr, eNot, eCB, eCIx, eVar, eOwn, eC, eTup, eFz, fLst, fCat, eSl, pNone, pSome, eCall, noxF, aCons, aNil, cell, datas, ap1, ap2, tst, gN, gsN, gsC, gT, eIsi, eIndex, eDIn, eDGet, sDPut, sLPut, sApp, own, dat, sOwn, sDic, sFz, sRetOwn, sRetN, negD, isND, notND, isNoneD, cmpD, keyD, tupleD, subD, L2.atI, L2.ixN, modD, intD, hb, hb2, hB, hC, hS]
        · simp [finF, sRet, thenS, sAsg, sIf, sNext, sDrop, sCPut, sCAug, setC, tB, tNt, tAn, tOR, eOp, eUn, eIf, eAnd, eOr, eNot, eCB, eCIx, eVar, eOwn, eC, eTup, eFz, fLst, fCat, eSl, pNone, pSome, eCall, noxF, aCons, aNil, cell, datas, ap1, ap2, tst, gN, gsN, gsC, gT, eIsi, eIndex, eDIn, eDGet, sDPut, sLPut, sApp, own, dat, sOwn, sDic, sFz, sRetOwn, sRetN, negD, isND, notND, isNoneD, cmpD, keyD, tupleD, subD, L2.atI, L2.ixN, modD, intD, fdivD, mn]
      rw [main]; rfl
  by_cases hx : x = 0
  · subst hx
    obtain ⟨ms, em, _⟩ := ints_cut cs (some z) none
    obtain ⟨cl, ec⟩ := head_ints ms
    have e1 : (tB (eOp eqD (eCIx (eVar 0) (eC (.d (.int 0)))) (eC (.d (.int 0))))) [some (.v (.ref 0)), some (.v (.d (.int m))), none, none, none, none, none] (bagC 0 y z cs :: r) = .ok true (bagC 0 y z cs :: r) := rfl
    -- the bag behind it
    have key : ∃ x' : Int, ∃ y' : Int, (0 ≤ y' ∧ y' < 2147483647) ∧ ∃ st, (sIf (tB (eOp eqD (eCIx (eVar 0) (eC (.d (.int 0)))) (eC (.d (.int 0)))))
      (sSeq (sAsg (eOp ixD (eOp addA (eSl (eCIx (eVar 0) (eC (.d (.int 3)))) (pSome (eCIx (eVar 0) (eC (.d (.int 2))))) pNone) (eFz (fLst (aCons (eC (.d (.int 0))) aNil)))) (eC (.d (.int 0)))) (gN 2))
    (sSeq (sCAug (fun i j => i + j) (eVar 0) 2 (eC (.d (.int 1))))
    (sSeq (sIf (tB (eOp geD (eVar 2) (eOp powD (eC (.d (.int 10))) (eC (.d (.int 18))))))
      (sCPut (eVar 0) (eC (.d (.int 0))) (eVar 2))
      sNext)
    (sSeq (sAsg (eOp addA (eOp addA (eOp mulD (eCIx (eVar 0) (eC (.d (.int 1)))) (eC (.d (.int 48271)))) (eOp modD (eCB intD (aCons (eVar 2) aNil)) (eC (.d (.int 2147483647))))) (eOp mulD (eC (.d (.int 7919))) (eCIx (eVar 0) (eC (.d (.int 2)))))) (gN 3))
    (sCPut (eVar 0) (eC (.d (.int 1))) (eOp modD (eCB intD (aCons (eVar 3) aNil)) (eC (.d (.int 2147483647)))))))))
      sNext) [some (.v (.ref 0)), some (.v (.d (.int m))), none, none, none, none, none] (bagC 0 y z cs :: r) = .ok (.nx [some (.v (.ref 0)), some (.v (.d (.int m))), some (.v (.d (.int cl))), some (.v (.d (.int st))), none, none, none]) (bagC x' y' (z + 1) cs :: r) := by
      refine ⟨if 1000000000000000000 ≤ cl then cl else 0, _, fmodB (a := y * 48271 + cl.fmod 2147483647 + 7919 * (z + 1)) (b := 2147483647) (by decide), y * 48271 + cl.fmod 2147483647 + 7919 * (z + 1), ?_⟩
      rw [if_true_ e1]
      refine seq_step (ρ1 := [some (.v (.ref 0)), some (.v (.d (.int m))), some (.v (.d (.int cl))), none, none, none, none]) (s1 := bagC 0 y z cs :: r) ?_ ?_
      · have l1 : ms.length + 1 ≤ LIM := by unfold LIM; omega
        have e2 : slD (.list (cs.map PyData.int)) (some z) none = some (.list (ms.map PyData.int)) := congrArg (fun x => some (PyData.list x)) em
        have e3 : addA (.list (ms.map PyData.int)) (.list [.int 0]) = some (.list (ms.map PyData.int ++ [.int 0])) := if_pos (by rw [List.length_map]; exact l1)
        have e4 : ixD (.list (ms.map PyData.int ++ [.int 0])) (.int 0) = some (.int cl) := ec
        simp [finF, sRet, thenS, sAsg, sIf, sNext, sDrop, sCPut, sCAug, setC, tB, tNt, tAn, tOR, eOp, eUn, eIf, eAnd, eOr, eNot, eCB, eCIx, eVar, eOwn, eC, eTup, eFz, fLst, fCat, eSl, pNone, pSome, eCall, noxF, aCons, aNil, cell, datas, ap1, ap2, tst, gN, gsN, gsC, gT, eIsi, eIndex, eDIn, eDGet, sDPut, sLPut, sApp, own, dat, sOwn, sDic, sFz, sRetOwn, sRetN, negD, isND, notND, isNoneD, cmpD, keyD, tupleD, subD, L2.atI, L2.ixN, bagC, e2, e3, e4]
      refine seq_step (ρ1 := [some (.v (.ref 0)), some (.v (.d (.int m))), some (.v (.d (.int cl))), none, none, none, none]) (s1 := bagC 0 y (z + 1) cs :: r) ?_ ?_
      · simp [finF, sRet, thenS, sAsg, sIf, sNext, sDrop, sCPut, sCAug, setC, tB, tNt, tAn, tOR, eOp, eUn, eIf, eAnd, eOr, eNot, eCB, eCIx, eVar, eOwn, eC, eTup, eFz, fLst, fCat, eSl, pNone, pSome, eCall, noxF, aCons, aNil, cell, datas, ap1, ap2, tst, gN, gsN, gsC, gT, eIsi, eIndex, eDIn, eDGet, sDPut, sLPut, sApp, own, dat, sOwn, sDic, sFz, sRetOwn, sRetN, negD, isND, notND, isNoneD, cmpD, keyD, tupleD, subD, L2.atI, L2.ixN, bagC]
      refine seq_step (ρ1 := [some (.v (.ref 0)), some (.v (.d (.int m))), some (.v (.d (.int cl))), none, none, none, none]) (s1 := bagC (if 1000000000000000000 ≤ cl then cl else 0) y (z + 1) cs :: r) ?_ ?_
      · have et : (tB (eOp geD (eVar 2) (eOp powD (eC (.d (.int 10))) (eC (.d (.int 18)))))) [some (.v (.ref 0)), some (.v (.d (.int m))), some (.v (.d (.int cl))), none, none, none, none] (bagC 0 y (z + 1) cs :: r) = .ok (decide (1000000000000000000 ≤ cl)) (bagC 0 y (z + 1) cs :: r) := by
          have ep : powD (.int 10) (.int 18) = some (.int 1000000000000000000) := by
            have e : (10 : Int) ^ (18 : Int).toNat = 1000000000000000000 := by decide +kernel
            rw [← e]
            exact if_pos (e := none) (c := (0 : Int) ≤ 18 ∧ (18 : Int) ≤ 1000000 ∧ (10 : Int).natAbs < 18446744073709551616) (by decide)
          simp [finF, sRet, thenS, sAsg, sIf, sNext, sDrop, sCPut, sCAug, setC, tB, tNt, tAn, tOR, eOp, eUn, eIf, eAnd, eOr, eNot, eCB, eCIx, eVar, eOwn, eC, eTup, eFz, fLst, fCat, eSl, pNone, pSome, eCall, noxF, aCons, aNil, cell, datas, ap1, ap2, tst, gN, gsN, gsC, gT, eIsi, eIndex, eDIn, eDGet, sDPut, sLPut, sApp, own, dat, sOwn, sDic, sFz, sRetOwn, sRetN, negD, isND, notND, isNoneD, cmpD, keyD, tupleD, subD, L2.atI, L2.ixN, ep, cmpD]
        by_cases h : 1000000000000000000 ≤ cl
        · rw [decide_eq_true h] at et
          rw [if_true_ et, if_pos h]
          simp [finF, sRet, thenS, sAsg, sIf, sNext, sDrop, sCPut, sCAug, setC, tB, tNt, tAn, tOR, eOp, eUn, eIf, eAnd, eOr, eNot, eCB, eCIx, eVar, eOwn, eC, eTup, eFz, fLst, fCat, eSl, pNone, pSome, eCall, noxF, aCons, aNil, cell, datas, ap1, ap2, tst, gN, gsN, gsC, gT, eIsi, eIndex, eDIn, eDGet, sDPut, sLPut, sApp, own, dat, sOwn, sDic, sFz, sRetOwn, sRetN, negD, isND, notND, isNoneD, cmpD, keyD, tupleD, subD, L2.atI, L2.ixN, bagC]
        · rw [decide_eq_false h] at et
          rw [if_false_ et, if_neg h]
          rfl
      generalize (if 1000000000000000000 ≤ cl then cl else 0) = x'
      refine seq_step (ρ1 := [some (.v (.ref 0)), some (.v (.d (.int m))), some (.v (.d (.int cl))), some (.v (.d (.int (y * 48271 + cl.fmod 2147483647 + 7919 * (z + 1))))), none, none, none]) (s1 := bagC x' y (z + 1) cs :: r) ?_ ?_
      · have m1 : mulD (.int y) (.int 48271) = some (.int (y * 48271)) := mul_ok (.inr (by unfold B64; decide))
        have m2 : mulD (.int 7919) (.int (z + 1)) = some (.int (7919 * (z + 1))) := mul_ok (.inl (by unfold B64; decide))
        simp [finF, sRet, thenS, sAsg, sIf, sNext, sDrop, sCPut, sCAug, setC, tB, tNt, tAn, tOR, eOp, eUn, eIf, eAnd, eOr, eNot, eCB, eCIx, eVar, eOwn, eC, eTup, eFz, fLst, fCat, eSl, pNone, pSome, eCall, noxF, aCons, aNil, cell, datas, ap1, ap2, tst, gN, gsN, gsC, gT, eIsi, eIndex, eDIn, eDGet, sDPut, sLPut, sApp, own, dat, sOwn, sDic, sFz, sRetOwn, sRetN, negD, isND, notND, isNoneD, cmpD, keyD, tupleD, subD, L2.atI, L2.ixN, bagC, m1, m2, modD, intD, addA, addD]
      · simp [finF, sRet, thenS, sAsg, sIf, sNext, sDrop, sCPut, sCAug, setC, tB, tNt, tAn, tOR, eOp, eUn, eIf, eAnd, eOr, eNot, eCB, eCIx, eVar, eOwn, eC, eTup, eFz, fLst, fCat, eSl, pNone, pSome, eCall, noxF, aCons, aNil, cell, datas, ap1, ap2, tst, gN, gsN, gsC, gT, eIsi, eIndex, eDIn, eDGet, sDPut, sLPut, sApp, own, dat, sOwn, sDic, sFz, sRetOwn, sRetN, negD, isND, notND, isNoneD, cmpD, keyD, tupleD, subD, L2.atI, L2.ixN, bagC, modD, intD]
    obtain ⟨x', y', hy', st, ek⟩ := key
    obtain ⟨d, b', e, h1, h2⟩ := step2 x' y' (z + 1) (some (.v (.d (.int cl)))) (some (.v (.d (.int st)))) hy'
    exact ⟨d, b', (congrArg finF (seq_step ek rfl)).trans e, h1, h2⟩
  · have e1 : (tB (eOp eqD (eCIx (eVar 0) (eC (.d (.int 0)))) (eC (.d (.int 0))))) [some (.v (.ref 0)), some (.v (.d (.int m))), none, none, none, none, none] (bagC x y z cs :: r) = .ok false (bagC x y z cs :: r) := by
      show Out.ok (decide (x = 0)) _ = _
      rw [decide_eq_false hx]
    obtain ⟨d, b', e, h1, h2⟩ := step2 x y z none none hy
    exact ⟨d, b', (congrArg finF (seq_step ((if_false_ e1).trans rfl) rfl)).trans e, h1, h2⟩
def Bag0 (ns : List Int) : Bag := ⟨0, 1234567891, 0, (ns.take 63).map fun n => if n < 0 then -n else n, by decide, by rw [List.length_map, List.length_take]; omega⟩
theorem bag0_eq (ns : List Int) : bag0 ns = (Bag0 ns).cell := rfl
theorem rng_nat (n : Nat) : rng 0 (n : Nat) = (List.range n).map fun k => ((k : Nat) : Int) := by
  unfold rng
  rw [show ((n : Nat) : Int) - 0 = (n : Nat) by omega, Int.toNat_natCast]
  congr 1
  funext k
  omega
theorem itRng1_nat {a : ME} {ρ : Env} {s s1 : Store} {n : Nat} (h : a ρ s = .ok (.d (.int (n : Nat))) s1) (l : n ≤ 1000000) : itRng1 a ρ s = .ok ((List.range n).map fun k => AV.d (.int (k : Nat))) s1 := by
  have hB : ((n : Nat) : Int).natAbs < B62 := by unfold B62; omega
  have e : (rng 0 (n : Nat)).map (fun i => AV.d (.int i)) = (List.range n).map fun k => AV.d (.int (k : Nat)) := by rw [rng_nat, List.map_map]; rfl
  simp only [itRng1, h, bind_ok, if_pos hB, e]
end Pz
set_option maxRecDepth 100000
set_option autoImplicit false
set_option maxHeartbeats 1000000
/-! Pz13: which data may be compared; loops with a word for each turn. -/
namespace Pz
open PySem Hk
structure Sh (n : Nat) (d : PyData) : Prop where
  lay : d.canLay0 = true
  dep : d.depth ≤ n
theorem Sh.ok {n : Nat} {d : PyData} (h : Sh n d) (hn : n ≤ 64 := by decide) : SeqAt.shaped d = true := by
  unfold SeqAt.shaped
  rw [h.lay, decide_eq_true (Nat.le_trans h.dep hn)]; rfl
theorem Sh.mono {n m : Nat} {d : PyData} (h : Sh n d) (l : n ≤ m := by decide) : Sh m d := ⟨h.lay, Nat.le_trans h.dep l⟩
theorem Sh.non {n : Nat} : Sh n .none := ⟨rfl, Nat.zero_le _⟩
theorem Sh.bl {n : Nat} {b : Bool} : Sh n (.bool b) := ⟨rfl, Nat.zero_le _⟩
theorem Sh.int {n : Nat} {i : Int} : Sh n (.int i) := ⟨rfl, Nat.zero_le _⟩
theorem Sh.str {n : Nat} {x : Str} (h : (PyData.str x).canLay0 = true := by decide +kernel) : Sh n (.str x) := ⟨h, Nat.zero_le _⟩
theorem shAll {n : Nat} : ∀ {ds : List PyData}, (∀ d ∈ ds, Sh n d) → PyData.canLayAll0 ds = true ∧ PyData.depthAll ds ≤ n
  | [], _ => ⟨rfl, Nat.zero_le _⟩
  | d :: ds, h => by
    obtain ⟨a, b⟩ := shAll (ds := ds) (fun x hx => h x (List.mem_cons_of_mem _ hx))
    have hd := h d List.mem_cons_self
    refine ⟨?_, ?_⟩
    · show (d.canLay0 && PyData.canLayAll0 ds) = true
      rw [hd.lay, a]; rfl
    · exact Nat.max_le.mpr ⟨hd.dep, b⟩
theorem Sh.tup {n : Nat} {ds : List PyData} (h : ∀ d ∈ ds, Sh n d) : Sh (n + 1) (.tuple ds) := ⟨(shAll h).1, Nat.succ_le_succ (shAll h).2⟩
theorem Sh.lst {n : Nat} {ds : List PyData} (h : ∀ d ∈ ds, Sh n d) : Sh (n + 1) (.list ds) := ⟨(shAll h).1, Nat.succ_le_succ (shAll h).2⟩
/-- every one of a written list -/
inductive Shs (n : Nat) : List PyData → Prop
  | nil : Shs n []
  | cons {d : PyData} {ds : List PyData} : Sh n d → Shs n ds → Shs n (d :: ds)
theorem Shs.all {n : Nat} {ds : List PyData} (h : Shs n ds) : ∀ d ∈ ds, Sh n d := by
  induction h with
  | nil => intro d m; cases m
  | cons a _ ih => intro d m; exact (List.mem_cons.mp m).elim (fun e => e ▸ a) (ih d)
theorem eqB_other {a b : PyData} (hi : ∀ i, b ≠ .int i) (hs : ∀ x, b ≠ .str x) (ha : SeqAt.shaped a = true) (hb : SeqAt.shaped b = true) : eqB a b = some (PyData.eqv a b) := by
  unfold eqB
  split
  · exact absurd rfl (hi _)
  · exact absurd rfl (hs _)
  · rw [ha, hb, if_pos (by rfl)]
theorem eqB_same {d : PyData} (h : SeqAt.shaped d = true) : eqB d d = some true := by
  unfold eqB
  split
  · simp
  · simp
  · rw [h, if_pos (by rfl), SeqAt.eqv_refl d (SeqAt.canLay_of_shaped h)]
theorem ne_same {n : Nat} {d : PyData} (h : Sh n d) (hn : n ≤ 64 := by decide) : neD d d = some (.bool false) := by
  unfold neD
  rw [eqB_same (h.ok hn)]; rfl
theorem eq_same {n : Nat} {d : PyData} (h : Sh n d) (hn : n ≤ 64 := by decide) : eqD d d = some (.bool true) := by
  unfold eqD
  rw [eqB_same (h.ok hn)]; rfl
theorem sh_ints {n : Nat} (is : List Int) : ∀ d ∈ is.map PyData.int, Sh n d := fun d m => by
  obtain ⟨i, _, rfl⟩ := List.mem_map.mp m
  exact .int
theorem if_skip {t : MT} {a : MS} {ρ : Env} {s s1 : Store} (h : t ρ s = .ok false s1) : sIf t a sNext ρ s = .ok (.nx ρ) s1 := (if_false_ h).trans rfl
theorem seq_skip {t : MT} {a b : MS} {ρ : Env} {s s1 : Store} {o : Out Fl} (h : t ρ s = .ok false s1) (k : b ρ s1 = o) : sSeq (sIf t a sNext) b ρ s = o := seq_step (if_skip h) k
/-- a loop keeps a word, turn by turn -/
theorem forL_at {g : MG} {b : MS} (I : Nat → Env → Store → Prop) : ∀ (vs : List AV) (k : Nat) (ρ : Env) (s : Store), I k ρ s → (∀ i v, vs[i]? = some v → ∀ ρ s, I (k + i) ρ s → ∃ ρ1 ρ2 s2, g v ρ = some ρ1 ∧ b ρ1 s = .ok (.nx ρ2) s2 ∧ I (k + i + 1) ρ2 s2) → ∃ ρ2 s2, forL g b vs ρ s = .ok (.nx ρ2) s2 ∧ I (k + vs.length) ρ2 s2
  | [], k, ρ, s, h, _ => ⟨ρ, s, rfl, h⟩
  | v :: vs, k, ρ, s, h, hk => by
    obtain ⟨ρ1, ρ2, s2, e1, e2, h2⟩ := hk 0 v rfl ρ s h
    obtain ⟨ρ3, s3, e3, h3⟩ := forL_at I vs (k + 1) ρ2 s2 h2 (fun i v m ρ s z => by
      have := hk (i + 1) v m ρ s (by rw [← Nat.add_assoc, Nat.add_right_comm]; exact z)
      rw [show k + (i + 1) + 1 = k + 1 + i + 1 by omega] at this
      exact this)
    refine ⟨ρ3, s3, ?_, by rw [List.length_cons, show k + (vs.length + 1) = k + 1 + vs.length by omega]; exact h3⟩
    rw [forL, e1]
    simp only [e2]
    exact e3
theorem for_inv {it : MA} {g : MG} {b : MS} {ρ : Env} {s s1 : Store} {xs : List AV} (I : Env → Store → Prop) (h : it ρ s = .ok xs s1) (h0 : I ρ s1) (k : ∀ v ∈ xs, ∀ ρ s, I ρ s → ∃ ρ1 ρ2 s2, g v ρ = some ρ1 ∧ b ρ1 s = .ok (.nx ρ2) s2 ∧ I ρ2 s2) : ∃ ρ2 s2, sFor it g b ρ s = .ok (.nx ρ2) s2 ∧ I ρ2 s2 := by
  obtain ⟨ρ2, s2, e, hI⟩ := forL_inv I xs ρ s1 h0 k
  exact ⟨ρ2, s2, by unfold sFor; rw [h]; exact e, hI⟩
theorem for_at {it : MA} {g : MG} {b : MS} {ρ : Env} {s s1 : Store} {xs : List AV} (I : Nat → Env → Store → Prop) (h : it ρ s = .ok xs s1) (h0 : I 0 ρ s1) (k : ∀ i v, xs[i]? = some v → ∀ ρ s, I i ρ s → ∃ ρ1 ρ2 s2, g v ρ = some ρ1 ∧ b ρ1 s = .ok (.nx ρ2) s2 ∧ I (i + 1) ρ2 s2) : ∃ ρ2 s2, sFor it g b ρ s = .ok (.nx ρ2) s2 ∧ I xs.length ρ2 s2 := by
  obtain ⟨ρ2, s2, e, hI⟩ := forL_at I xs 0 ρ s1 h0 (fun i v m ρ s z => by rw [Nat.zero_add] at z ⊢; exact k i v m ρ s z)
  exact ⟨ρ2, s2, by unfold sFor; rw [h]; exact e, by rw [Nat.zero_add] at hI; exact hI⟩
end Pz
set_option maxRecDepth 100000
set_option maxHeartbeats 4000000
namespace K01
open PySem PySem.Spec PyProof.Rows
open L2 Hk Pz
/-- the i-th row of the top -/
def tp (i : Nat) : Stmt := PySem.Challenge.pw_everymap_k01_worlds_their_ways_and_rings.main.body.getD i (.Pass ⟨0, 0, 0, 0⟩)
abbrev s_is_number : Stmt := tp 12
theorem sc_is_number : FnScope ["thing"] ["thing"] (defScope s_is_number) := ⟨rfl, rfl, rfl, by decide +kernel, rfl, by decide +kernel, by decide +kernel⟩
abbrev s_is_index : Stmt := tp 13
theorem sc_is_index : FnScope ["thing"] ["thing"] (defScope s_is_index) := ⟨rfl, rfl, rfl, by decide +kernel, rfl, by decide +kernel, by decide +kernel⟩
abbrev s_is_between : Stmt := tp 14
theorem sc_is_between : FnScope ["thing", "low", "high"] ["thing", "low", "high"] (defScope s_is_between) := ⟨rfl, rfl, rfl, by decide +kernel, rfl, by decide +kernel, by decide +kernel⟩
abbrev s_is_sized : Stmt := tp 15
theorem sc_is_sized : FnScope ["thing", "many"] ["thing", "many"] (defScope s_is_sized) := ⟨rfl, rfl, rfl, by decide +kernel, rfl, by decide +kernel, by decide +kernel⟩
abbrev s_is_tuple_of : Stmt := tp 16
theorem sc_is_tuple_of : FnScope ["thing", "is_one", "one"] ["thing", "is_one"] (defScope s_is_tuple_of) := ⟨rfl, rfl, rfl, by decide +kernel, rfl, by decide +kernel, by decide +kernel⟩
abbrev s_is_hues : Stmt := tp 17
theorem sc_is_hues : FnScope ["thing"] ["thing"] (defScope s_is_hues) := ⟨rfl, rfl, rfl, by decide +kernel, rfl, by decide +kernel, by decide +kernel⟩
abbrev s_is_thing_or_none : Stmt := tp 18
theorem sc_is_thing_or_none : FnScope ["thing"] ["thing"] (defScope s_is_thing_or_none) := ⟨rfl, rfl, rfl, by decide +kernel, rfl, by decide +kernel, by decide +kernel⟩
abbrev s_is_world : Stmt := tp 19
theorem sc_is_world : FnScope ["thing"] ["thing"] (defScope s_is_world) := ⟨rfl, rfl, rfl, by decide +kernel, rfl, by decide +kernel, by decide +kernel⟩
abbrev s_check_hues : Stmt := tp 21
theorem sc_check_hues : FnScope ["hues"] ["hues"] (defScope s_check_hues) := ⟨rfl, rfl, rfl, by decide +kernel, rfl, by decide +kernel, by decide +kernel⟩
abbrev s_checked_world : Stmt := tp 22
theorem sc_checked_world : FnScope ["hues", "thing", "at", "hue", "after"] ["hues", "thing"] (defScope s_checked_world) := ⟨rfl, rfl, rfl, by decide +kernel, rfl, by decide +kernel, by decide +kernel⟩
abbrev s_check_thing : Stmt := tp 23
theorem sc_check_thing : FnScope ["world", "thing"] ["world", "thing"] (defScope s_check_thing) := ⟨rfl, rfl, rfl, by decide +kernel, rfl, by decide +kernel, by decide +kernel⟩
abbrev s_check_both : Stmt := tp 24
theorem sc_check_both : FnScope ["world", "thing"] ["world", "thing"] (defScope s_check_both) := ⟨rfl, rfl, rfl, by decide +kernel, rfl, by decide +kernel, by decide +kernel⟩
abbrev s_pointing_at : Stmt := tp 25
theorem sc_pointing_at : FnScope ["world", "thing", "one", "after"] ["world", "thing"] (defScope s_pointing_at) := ⟨rfl, rfl, rfl, by decide +kernel, rfl, by decide +kernel, by decide +kernel⟩
abbrev s_plain_way : Stmt := tp 26
theorem sc_plain_way : FnScope ["world", "thing", "found", "met"] ["world", "thing"] (defScope s_plain_way) := ⟨rfl, rfl, rfl, by decide +kernel, rfl, by decide +kernel, by decide +kernel⟩
abbrev s_way_of : Stmt := tp 27
theorem sc_way_of : FnScope ["world", "thing"] ["world", "thing"] (defScope s_way_of) := ⟨rfl, rfl, rfl, by decide +kernel, rfl, by decide +kernel, by decide +kernel⟩
abbrev s_plain_ring : Stmt := tp 28
theorem sc_plain_ring : FnScope ["world", "thing", "way", "after"] ["world", "thing"] (defScope s_plain_ring) := ⟨rfl, rfl, rfl, by decide +kernel, rfl, by decide +kernel, by decide +kernel⟩
abbrev s_ring_of : Stmt := tp 29
theorem sc_ring_of : FnScope ["world", "thing"] ["world", "thing"] (defScope s_ring_of) := ⟨rfl, rfl, rfl, by decide +kernel, rfl, by decide +kernel, by decide +kernel⟩
abbrev s_stepped : Stmt := tp 30
theorem sc_stepped : FnScope ["world", "thing", "many", "way", "ring"] ["world", "thing", "many"] (defScope s_stepped) := ⟨rfl, rfl, rfl, by decide +kernel, rfl, by decide +kernel, by decide +kernel⟩
abbrev s_on_rings : Stmt := tp 31
theorem sc_on_rings : FnScope ["world", "thing"] ["world"] (defScope s_on_rings) := ⟨rfl, rfl, rfl, by decide +kernel, rfl, by decide +kernel, by decide +kernel⟩
abbrev s_law_take : Stmt := tp 33
theorem sc_law_take : FnScope ["bag", "many", "cell", "stirred", "drawn", "begin", "second"] ["bag", "many"] (defScope s_law_take) := ⟨rfl, rfl, rfl, by decide +kernel, rfl, by decide +kernel, by decide +kernel⟩
abbrev s_law_some : Stmt := tp 34
theorem sc_law_some : FnScope ["bag", "things"] ["bag", "things"] (defScope s_law_some) := ⟨rfl, rfl, rfl, by decide +kernel, rfl, by decide +kernel, by decide +kernel⟩
abbrev s_law_bag : Stmt := tp 35
theorem sc_law_bag : FnScope ["script", "cell"] ["script"] (defScope s_law_bag) := ⟨rfl, rfl, rfl, by decide +kernel, rfl, by decide +kernel, by decide +kernel⟩
abbrev s_law_world : Stmt := tp 36
theorem sc_law_world : FnScope ["bag", "hues", "most", "many", "nexts", "place"] ["bag", "hues", "most"] (defScope s_law_world) := ⟨rfl, rfl, rfl, by decide +kernel, rfl, by decide +kernel, by decide +kernel⟩
abbrev s_law_heard : Stmt := tp 37
theorem sc_law_heard : FnScope ["call", "error"] ["call"] (defScope s_law_heard) := ⟨rfl, rfl, rfl, by decide +kernel, rfl, by decide +kernel, by decide +kernel⟩
abbrev s_law_way : Stmt := tp 38
theorem sc_law_way : FnScope ["world", "thing", "found"] ["world", "thing"] (defScope s_law_way) := ⟨rfl, rfl, rfl, by decide +kernel, rfl, by decide +kernel, by decide +kernel⟩
abbrev s_law_alike : Stmt := tp 39
theorem sc_law_alike : FnScope ["found", "due"] ["found", "due"] (defScope s_law_alike) := ⟨rfl, rfl, rfl, by decide +kernel, rfl, by decide +kernel, by decide +kernel⟩
abbrev s_law_fault : Stmt := tp 40
theorem sc_law_fault : FnScope ["hues", "world", "at", "hue", "after"] ["hues", "world"] (defScope s_law_fault) := ⟨rfl, rfl, rfl, by decide +kernel, rfl, by decide +kernel, by decide +kernel⟩
abbrev s_law_bent : Stmt := tp 41
theorem sc_law_bent : FnScope ["bag", "hues", "world", "colours", "nexts", "at", "some"] ["bag", "hues", "world"] (defScope s_law_bent) := ⟨rfl, rfl, rfl, by decide +kernel, rfl, by decide +kernel, by decide +kernel⟩
abbrev s_law_steps : Stmt := tp 42
theorem sc_law_steps : FnScope ["world", "thing", "many", "lap"] ["world", "thing", "many"] (defScope s_law_steps) := ⟨rfl, rfl, rfl, by decide +kernel, rfl, by decide +kernel, by decide +kernel⟩
abbrev s_law : Stmt := tp 43
theorem sc_law : FnScope ["script", "bag", "turn", "hues", "world", "lap", "bent", "fault", "wrong", "many", "circled", "thing", "way", "after", "ring", "one", "few", "far"] ["script"] (defScope s_law) := ⟨rfl, rfl, rfl, by decide +kernel, rfl, by decide +kernel, by decide +kernel⟩
abbrev i_BadText : Stmt := clsItem (tp 3) 0
def in_BadText : InitD := ⟨"BadText", "line", "column", defArgs i_BadText, defBody i_BadText, defScope i_BadText⟩
theorem in_BadText_ok : in_BadText.Ok := ⟨⟨rfl, rfl, rfl, by decide +kernel, rfl, rfl, rfl, rfl, rfl, by decide, by decide, by decide, by decide, by decide⟩, _, _, _, _, _, _, _, _, _, _, _, _, _, _, _, _, _, _, rfl, rfl, ⟨_, fun _ => rfl⟩, fun _ _ _ _ _ _ _ _ _ => rfl⟩
abbrev i_BadWorld : Stmt := clsItem (tp 4) 0
def in_BadWorld : InitD := ⟨"BadWorld", "where", "fault", defArgs i_BadWorld, defBody i_BadWorld, defScope i_BadWorld⟩
theorem in_BadWorld_ok : in_BadWorld.Ok := ⟨⟨rfl, rfl, rfl, by decide +kernel, rfl, rfl, rfl, rfl, rfl, by decide, by decide, by decide, by decide, by decide⟩, _, _, _, _, _, _, _, _, _, _, _, _, _, _, _, _, _, _, rfl, rfl, ⟨_, fun _ => rfl⟩, fun _ _ _ _ _ _ _ _ _ => rfl⟩
abbrev i_BadProgram : Stmt := clsItem (tp 5) 0
def in_BadProgram : InitD := ⟨"BadProgram", "where", "fault", defArgs i_BadProgram, defBody i_BadProgram, defScope i_BadProgram⟩
theorem in_BadProgram_ok : in_BadProgram.Ok := ⟨⟨rfl, rfl, rfl, by decide +kernel, rfl, rfl, rfl, rfl, rfl, by decide, by decide, by decide, by decide, by decide⟩, _, _, _, _, _, _, _, _, _, _, _, _, _, _, _, _, _, _, rfl, rfl, ⟨_, fun _ => rfl⟩, fun _ _ _ _ _ _ _ _ _ => rfl⟩
abbrev i_TooLarge : Stmt := clsItem (tp 8) 0
def in_TooLarge : InitD := ⟨"TooLarge", "what", "limit", defArgs i_TooLarge, defBody i_TooLarge, defScope i_TooLarge⟩
theorem in_TooLarge_ok : in_TooLarge.Ok := ⟨⟨rfl, rfl, rfl, by decide +kernel, rfl, rfl, rfl, rfl, rfl, by decide, by decide, by decide, by decide, by decide⟩, _, _, _, _, _, _, _, _, _, _, _, _, _, _, _, _, _, _, rfl, rfl, ⟨_, fun _ => rfl⟩, fun _ _ _ _ _ _ _ _ _ => rfl⟩
def F_is_number : Fn := mkF 1 1
  (sRet (eAnd (eIsi "int" (eVar 0)) (eNot (eIsi "bool" (eVar 0)))))
def F_is_index : Fn := mkF 1 1
  (sRet (eAnd (eCall (noxF F_is_number) (aCons (eVar 0) aNil)) (eOp geD (eVar 0) (eC (.d (.int 0))))))
def F_is_between : Fn := mkF 3 3
  (sRet (eAnd (eCall (noxF F_is_number) (aCons (eVar 0) aNil)) (eCh leD leD (eVar 1) (eVar 0) (eVar 2))))
def F_is_sized : Fn := mkF 2 2
  (sRet (eAnd (eIsi "tuple" (eVar 0)) (eOp eqD (eCB lenD (aCons (eVar 0) aNil)) (eVar 1))))
def F_is_thing_or_none : Fn := mkF 1 1
  (sRet (eOr (eOp isND (eVar 0) (eC (.d .none))) (eCall (noxF F_is_index) (aCons (eVar 0) aNil))))
def Fs_is_tuple_of : List (Str × Fn) := [("is_index", F_is_index), ("is_thing_or_none", F_is_thing_or_none)]
def F_is_tuple_of : Fn := mkF 2 3
  (sRet (eAnd (eIsi "tuple" (eVar 0)) (eCB allD (aCons (eFz (fLc (itTup (eVar 0)) (gN 2) tYes (eCallV 1 Fs_is_tuple_of (aCons (eVar 2) aNil)) [2])) aNil))))
def F_is_hues : Fn := mkF 1 1
  (sRet (eCall (noxF F_is_between) (aCons (eVar 0) (aCons (eC (.d (.int 1))) (aCons (eC (.d (.int 3))) aNil)))))
def F_is_world : Fn := mkF 1 1
  (sSeq (sIf (tOR (tNt (tB (eCall (noxF F_is_sized) (aCons (eVar 0) (aCons (eC (.d (.int 2))) aNil))))) (tOR (tNt (tB (eCall (noxF F_is_tuple_of) (aCons (eOp ixD (eVar 0) (eC (.d (.int 0)))) (aCons (eC (.fn "is_index")) aNil))))) (tNt (tB (eCall (noxF F_is_tuple_of) (aCons (eOp ixD (eVar 0) (eC (.d (.int 1)))) (aCons (eC (.fn "is_thing_or_none")) aNil)))))))
      (sRet (eC (.d (.bool false))))
      sNext)
    (sRet (eAnd (eOp leD (eCB lenD (aCons (eOp ixD (eVar 0) (eC (.d (.int 0)))) aNil)) (eC (.d (.int 400)))) (eOp leD (eCB lenD (aCons (eOp ixD (eVar 0) (eC (.d (.int 1)))) aNil)) (eC (.d (.int 400)))))))
def F_check_hues : Fn := mkF 1 1
  (sIf (tNt (tB (eCall (noxF F_is_hues) (aCons (eVar 0) aNil))))
      (sRaise0 "Nothing")
      sNext)
def L_checked_world_1 : MS :=
  (sSeq (sIf (tB (eOp geD (eVar 3) (eVar 0)))
      (sRaise2 "BadWorld" "where" "fault" (aCons (eTup (aCons (eC (.d (.str "thing"))) (aCons (eVar 2) aNil))) (aCons (eC (.d (.str "hue"))) aNil)))
      sNext)
    (sIf (tAn (tB (eOp notND (eVar 4) (eC (.d .none)))) (tB (eOp geD (eVar 4) (eCB lenD (aCons (eOp ixD (eVar 1) (eC (.d (.int 0)))) aNil)))))
      (sRaise2 "BadWorld" "where" "fault" (aCons (eTup (aCons (eC (.d (.str "thing"))) (aCons (eVar 2) aNil))) (aCons (eC (.d (.str "next"))) aNil)))
      sNext))
def F_checked_world : Fn := mkF 2 5
  (sSeq (sDrop (eCall F_check_hues (aCons (eVar 0) aNil)))
    (sSeq (sIf (tNt (tB (eCall (noxF F_is_world) (aCons (eVar 1) aNil))))
      (sRaise0 "Nothing")
      sNext)
    (sSeq (sIf (tB (eOp neD (eCB lenD (aCons (eOp ixD (eVar 1) (eC (.d (.int 0)))) aNil)) (eCB lenD (aCons (eOp ixD (eVar 1) (eC (.d (.int 1)))) aNil))))
      (sRaise2 "BadWorld" "where" "fault" (aCons (eTup (aCons (eC (.d (.str "things"))) aNil)) (aCons (eC (.d (.str "many"))) aNil)))
      sNext)
    (sSeq (sFor (itEnumZ (eOp ixD (eVar 1) (eC (.d (.int 0)))) (eOp ixD (eVar 1) (eC (.d (.int 1))))) (gT 2 (gsC (gN 2) (gsC (gT 2 (gsC (gN 3) (gsC (gN 4) gsN))) gsN))) L_checked_world_1)
    (sRet (eVar 1))))))
def F_check_thing : Fn := mkF 2 2
  (sIf (tOR (tNt (tB (eCall (noxF F_is_index) (aCons (eVar 1) aNil)))) (tB (eOp geD (eVar 1) (eCB lenD (aCons (eOp ixD (eVar 0) (eC (.d (.int 0)))) aNil)))))
      (sRaise0 "Nothing")
      sNext)
def F_check_both : Fn := mkF 2 2
  (sSeq (sDrop (eCall F_checked_world (aCons (eC (.d (.int 3))) (aCons (eVar 0) aNil))))
    (sDrop (eCall F_check_thing (aCons (eVar 0) (aCons (eVar 1) aNil)))))
def F_pointing_at : Fn := mkF 2 4
  (sSeq (sDrop (eCall F_check_both (aCons (eVar 0) (aCons (eVar 1) aNil))))
    (sRet (eCB tupleD (aCons (eFz (fLc (itEnumT (eOp ixD (eVar 0) (eC (.d (.int 1))))) (gT 2 (gsC (gN 2) (gsC (gN 3) gsN))) (tB (eOp eqD (eVar 3) (eVar 1))) (eVar 2) [2, 3])) aNil))))
def L_plain_way_1 : MS :=
  (sSeq (sApp 2 (eVar 1))
    (sSeq (sDPut 3 (eVar 1) (eC (.d (.bool true))))
    (sAsg (eOp ixD (eOp ixD (eVar 0) (eC (.d (.int 1)))) (eVar 1)) (gN 1))))
def C_plain_way_2 : MT :=
  (tAn (tB (eOp notND (eVar 1) (eC (.d .none)))) (tB (eDIn true (eVar 1) 3)))
def F_plain_way : Fn := mkF 2 4
  (sSeq (sPar2 2 3 (.own (fLst aNil)) .dic)
    (sSeq (whileL C_plain_way_2 L_plain_way_1 FUEL)
    (sRetOwn 2)))
def F_way_of : Fn := mkF 2 2
  (sSeq (sDrop (eCall F_check_both (aCons (eVar 0) (aCons (eVar 1) aNil))))
    (sRet (eCB tupleD (aCons (eCall (noxF F_plain_way) (aCons (eVar 0) (aCons (eVar 1) aNil))) aNil))))
def F_plain_ring : Fn := mkF 2 4
  (sSeq (sAsg (eCall (noxF F_plain_way) (aCons (eVar 0) (aCons (eVar 1) aNil))) (gN 2))
    (sSeq (sAsg (eOp ixD (eOp ixD (eVar 0) (eC (.d (.int 1)))) (eOp ixD (eVar 2) (eUn negD (eC (.d (.int 1)))))) (gN 3))
    (sRet (eIf (tB (eOp isND (eVar 3) (eC (.d .none)))) (eFz (fLst aNil)) (eSl (eVar 2) (pSome (eIndex (eVar 2) (eVar 3))) pNone)))))
def F_ring_of : Fn := mkF 2 2
  (sSeq (sDrop (eCall F_check_both (aCons (eVar 0) (aCons (eVar 1) aNil))))
    (sRet (eCB tupleD (aCons (eCall (noxF F_plain_ring) (aCons (eVar 0) (aCons (eVar 1) aNil))) aNil))))
def F_stepped : Fn := mkF 3 5
  (sSeq (sDrop (eCall F_check_both (aCons (eVar 0) (aCons (eVar 1) aNil))))
    (sSeq (sIf (tNt (tB (eCall (noxF F_is_index) (aCons (eVar 2) aNil))))
      (sRaise0 "Nothing")
      sNext)
    (sSeq (sAsg (eCall (noxF F_plain_way) (aCons (eVar 0) (aCons (eVar 1) aNil))) (gN 3))
    (sSeq (sIf (tB (eOp ltD (eVar 2) (eCB lenD (aCons (eVar 3) aNil))))
      (sRet (eOp ixD (eVar 3) (eVar 2)))
      sNext)
    (sSeq (sAsg (eCall (noxF F_plain_ring) (aCons (eVar 0) (aCons (eVar 1) aNil))) (gN 4))
    (sRet (eIf (tB (eOp neD (eVar 4) (eFz (fLst aNil)))) (eOp ixD (eVar 4) (eOp modD (eOp addA (eOp subD (eVar 2) (eCB lenD (aCons (eVar 3) aNil))) (eCB lenD (aCons (eVar 4) aNil))) (eCB lenD (aCons (eVar 4) aNil)))) (eC (.d .none)))))))))
def F_on_rings : Fn := mkF 1 2
  (sSeq (sDrop (eCall F_checked_world (aCons (eC (.d (.int 3))) (aCons (eVar 0) aNil))))
    (sRet (eCB tupleD (aCons (eFz (fLc (itRng1 (eCB lenD (aCons (eOp ixD (eVar 0) (eC (.d (.int 0)))) aNil))) (gN 1) (tB (eOp isInD (eVar 1) (eSl (eCall (noxF F_plain_ring) (aCons (eVar 0) (aCons (eVar 1) aNil))) pNone (pSome (eC (.d (.int 1))))))) (eVar 1) [1])) aNil))))
def F_law_take : Fn := mkF 2 7
  (sSeq (sIf (tB (eOp eqD (eCIx (eVar 0) (eC (.d (.int 0)))) (eC (.d (.int 0)))))
      (sSeq (sAsg (eOp ixD (eOp addA (eSl (eCIx (eVar 0) (eC (.d (.int 3)))) (pSome (eCIx (eVar 0) (eC (.d (.int 2))))) pNone) (eFz (fLst (aCons (eC (.d (.int 0))) aNil)))) (eC (.d (.int 0)))) (gN 2))
    (sSeq (sCAug (fun i j => i + j) (eVar 0) 2 (eC (.d (.int 1))))
    (sSeq (sIf (tB (eOp geD (eVar 2) (eOp powD (eC (.d (.int 10))) (eC (.d (.int 18))))))
      (sCPut (eVar 0) (eC (.d (.int 0))) (eVar 2))
      sNext)
    (sSeq (sAsg (eOp addA (eOp addA (eOp mulD (eCIx (eVar 0) (eC (.d (.int 1)))) (eC (.d (.int 48271)))) (eOp modD (eCB intD (aCons (eVar 2) aNil)) (eC (.d (.int 2147483647))))) (eOp mulD (eC (.d (.int 7919))) (eCIx (eVar 0) (eC (.d (.int 2)))))) (gN 3))
    (sCPut (eVar 0) (eC (.d (.int 1))) (eOp modD (eCB intD (aCons (eVar 3) aNil)) (eC (.d (.int 2147483647)))))))))
      sNext)
    (sSeq (sIf (tB (eOp gtD (eCIx (eVar 0) (eC (.d (.int 0)))) (eC (.d (.int 0)))))
      (sSeq (sAsg (eOp modD (eCB intD (aCons (eCIx (eVar 0) (eC (.d (.int 0)))) aNil)) (eVar 1)) (gN 4))
    (sSeq (sCPut (eVar 0) (eC (.d (.int 0))) (eOp fdivD (eCB intD (aCons (eCIx (eVar 0) (eC (.d (.int 0)))) aNil)) (eVar 1)))
    (sRet (eVar 4))))
      sNext)
    (sSeq (sAsg (eOp modD (eCB intD (aCons (eOp mulD (eOp addA (eCIx (eVar 0) (eC (.d (.int 1)))) (eC (.d (.int 1)))) (eC (.d (.int 39373)))) aNil)) (eC (.d (.int 1000000007)))) (gN 5))
    (sSeq (sAsg (eOp modD (eCB intD (aCons (eOp mulD (eOp modD (eCB intD (aCons (eOp mulD (eVar 5) (eVar 5)) aNil)) (eC (.d (.int 998244353)))) (eC (.d (.int 30011)))) aNil)) (eC (.d (.int 998244353)))) (gN 6))
    (sRet (eOp modD (eCB intD (aCons (eOp fdivD (eVar 6) (eC (.d (.int 7)))) aNil)) (eVar 1)))))))
def F_law_some : Fn := mkF 2 2
  (sRet (eOp ixD (eVar 1) (eCall (noxF F_law_take) (aCons (eVar 0) (aCons (eCB lenD (aCons (eVar 1) aNil)) aNil)))))
def F_law_world : Fn := mkF 3 6
  (sSeq (sAsg (eCall (noxF F_law_take) (aCons (eVar 0) (aCons (eOp addA (eVar 2) (eC (.d (.int 1)))) aNil))) (gN 3))
    (sSeq (sOwn 4 (fLc (itRng1 (eVar 3)) (gN 5) tYes (eCall (noxF F_law_some) (aCons (eVar 0) (aCons (eFz (fLst (aCons (eC (.d .none)) (aCons (eVar 5) (aCons (eOp modD (eOp addA (eVar 5) (eC (.d (.int 1)))) (eVar 3)) (aCons (eCB max2D (aCons (eC (.d (.int 0))) (aCons (eOp subD (eVar 5) (eC (.d (.int 1)))) aNil))) (aCons (eCall (noxF F_law_take) (aCons (eVar 0) (aCons (eVar 3) aNil))) aNil))))))) aNil))) [5]))
    (sFz 4 (sRet (eTup (aCons (eCB tupleD (aCons (eFz (fLc (itRng1 (eVar 3)) (gN 5) tYes (eCall (noxF F_law_take) (aCons (eVar 0) (aCons (eVar 1) aNil))) [5])) aNil)) (aCons (eCB tupleD (aCons (eVar 4) aNil)) aNil)))))))
def L_law_way_1 : MS :=
  (sSeq (sApp 2 (eVar 1))
    (sAsg (eOp ixD (eOp ixD (eVar 0) (eC (.d (.int 1)))) (eVar 1)) (gN 1)))
def C_law_way_2 : MT :=
  (tAn (tB (eOp notND (eVar 1) (eC (.d .none)))) (tB (eOp notInD (eVar 1) (eOwn 2))))
def F_law_way : Fn := mkF 2 3
  (sSeq (sOwn 2 (fLst aNil))
    (sSeq (whileL C_law_way_2 L_law_way_1 FUEL)
    (sRetOwn 2)))
def F_law_alike : Fn := mkF 2 2
  (sRet (eAnd (eOp eqD (eCB reprD (aCons (eVar 0) aNil)) (eCB reprD (aCons (eVar 1) aNil))) (eOp eqD (eVar 0) (eVar 1))))
def L_law_fault_1 : MS :=
  (sSeq (sIf (tB (eOp geD (eVar 3) (eVar 0)))
      (sRet (eTup (aCons (eTup (aCons (eC (.d (.str "thing"))) (aCons (eVar 2) aNil))) (aCons (eC (.d (.str "hue"))) aNil))))
      sNext)
    (sIf (tAn (tB (eOp notND (eVar 4) (eC (.d .none)))) (tB (eOp geD (eVar 4) (eCB lenD (aCons (eOp ixD (eVar 1) (eC (.d (.int 0)))) aNil)))))
      (sRet (eTup (aCons (eTup (aCons (eC (.d (.str "thing"))) (aCons (eVar 2) aNil))) (aCons (eC (.d (.str "next"))) aNil))))
      sNext))
def F_law_fault : Fn := mkF 2 5
  (sSeq (sIf (tB (eOp neD (eCB lenD (aCons (eOp ixD (eVar 1) (eC (.d (.int 0)))) aNil)) (eCB lenD (aCons (eOp ixD (eVar 1) (eC (.d (.int 1)))) aNil))))
      (sRet (eTup (aCons (eTup (aCons (eC (.d (.str "things"))) aNil)) (aCons (eC (.d (.str "many"))) aNil))))
      sNext)
    (sSeq (sFor (itEnumZ (eOp ixD (eVar 1) (eC (.d (.int 0)))) (eOp ixD (eVar 1) (eC (.d (.int 1))))) (gT 2 (gsC (gN 2) (gsC (gT 2 (gsC (gN 3) (gsC (gN 4) gsN))) gsN))) L_law_fault_1)
    (sRet (eC (.d .none)))))
def F_law_bent : Fn := mkF 3 7
  (sSeq (sAsg (eVar 2) (gT 2 (gsC (gN 3) (gsC (gN 4) gsN))))
    (sSeq (sAsg (eCall (noxF F_law_take) (aCons (eVar 0) (aCons (eOp addA (eCB lenD (aCons (eVar 3) aNil)) (eC (.d (.int 1)))) aNil))) (gN 5))
    (sSeq (sAsg (eFz (fLst (aCons (eTup (aCons (eOp addA (eVar 3) (eTup (aCons (eC (.d (.int 0))) aNil))) (aCons (eVar 4) aNil))) (aCons (eTup (aCons (eVar 3) (aCons (eSl (eVar 4) pNone (pSome (eUn negD (eC (.d (.int 1)))))) aNil))) (aCons (eTup (aCons (eOp addA (eOp addA (eSl (eVar 3) pNone (pSome (eVar 5))) (eTup (aCons (eVar 1) aNil))) (eSl (eVar 3) (pSome (eOp addA (eVar 5) (eC (.d (.int 1))))) pNone)) (aCons (eVar 4) aNil))) (aCons (eTup (aCons (eVar 3) (aCons (eOp addA (eOp addA (eSl (eVar 4) pNone (pSome (eVar 5))) (eTup (aCons (eCB lenD (aCons (eVar 3) aNil)) aNil))) (eSl (eVar 4) (pSome (eOp addA (eVar 5) (eC (.d (.int 1))))) pNone)) aNil))) aNil)))))) (gN 6))
    (sSeq (sAsg (eOp addA (eVar 6) (eFz (fLst (aCons (eTup (aCons (eOp addA (eOp addA (eSl (eVar 3) pNone (pSome (eVar 5))) (eTup (aCons (eC (.d (.int 3))) aNil))) (eSl (eVar 3) (pSome (eOp addA (eVar 5) (eC (.d (.int 1))))) pNone)) (aCons (eOp addA (eOp addA (eSl (eVar 4) pNone (pSome (eVar 5))) (eTup (aCons (eC (.d (.int 99))) aNil))) (eSl (eVar 4) (pSome (eOp addA (eVar 5) (eC (.d (.int 1))))) pNone)) aNil))) (aCons (eTup (aCons (eOp addA (eVar 3) (eTup (aCons (eC (.d (.int 0))) aNil))) (aCons (eOp addA (eVar 4) (eTup (aCons (eC (.d .none)) aNil))) aNil))) aNil))))) (gN 6))
    (sRet (eCall (noxF F_law_some) (aCons (eVar 0) (aCons (eVar 6) aNil))))))))
def L_law_steps_1 : MS :=
  (sIf (tB (eOp notND (eVar 1) (eC (.d .none))))
      (sAsg (eOp ixD (eOp ixD (eVar 0) (eC (.d (.int 1)))) (eVar 1)) (gN 1))
      sNext)
def F_law_steps : Fn := mkF 3 4
  (sSeq (sFor (itRng1 (eVar 2)) (gN 3) L_law_steps_1)
    (sRet (eVar 1)))
def L_law_1 : MS :=
  (sSeq (sAsg (eCall (noxF F_law_bent) (aCons (eVar 1) (aCons (eVar 3) (aCons (eVar 4) aNil)))) (gN 6))
    (sSeq (sAsg (eCall (noxF F_law_fault) (aCons (eVar 3) (aCons (eVar 6) aNil))) (gN 7))
    (sSeq (sIf (tB (eOp neD (eHear known6 (eCall F_checked_world (aCons (eVar 3) (aCons (eVar 6) aNil)))) (eIf (tB (eOp isND (eVar 7) (eC (.d .none)))) (eTup (aCons (eC (.d (.str "told"))) (aCons (eVar 6) aNil))) (eOp addA (eTup (aCons (eC (.d (.str "BadWorld"))) aNil)) (eVar 7)))))
      (sRet (eC (.d (.bool false))))
      sNext)
    (sSeq (sAsg (eCall (noxF F_law_fault) (aCons (eC (.d (.int 3))) (aCons (eVar 6) aNil))) (gN 7))
    (sIf (tAn (tB (eOp notND (eVar 7) (eC (.d .none)))) (tB (eOp neD (eHear known6 (eCall F_on_rings (aCons (eVar 6) aNil))) (eOp addA (eTup (aCons (eC (.d (.str "BadWorld"))) aNil)) (eVar 7)))))
      (sRet (eC (.d (.bool false))))
      sNext)))))
def L_law_2 : MS :=
  (sIf (tAn (tB (eOp neD (eVar 8) (eTup (aCons (eTup aNil) (aCons (eTup aNil) aNil))))) (tB (eOp neD (eHear known6 (eCall F_checked_world (aCons (eVar 3) (aCons (eVar 8) aNil)))) (eTup (aCons (eC (.d (.str "Nothing"))) aNil)))))
      (sRet (eC (.d (.bool false))))
      sNext)
def L_law_3 : MS :=
  (sIf (tB (eOp neD (eHear known6 (eCall F_checked_world (aCons (eVar 8) (aCons (eVar 4) aNil)))) (eTup (aCons (eC (.d (.str "Nothing"))) aNil))))
      (sRet (eC (.d (.bool false))))
      sNext)
def L_law_4 : MS :=
  (sSeq (sAsg (eCall (noxF F_law_way) (aCons (eVar 4) (aCons (eVar 11) aNil))) (gN 12))
    (sSeq (sAsg (eOp ixD (eOp ixD (eVar 4) (eC (.d (.int 1)))) (eOp ixD (eVar 12) (eUn negD (eC (.d (.int 1)))))) (gN 13))
    (sSeq (sAsg (eIf (tB (eOp isND (eVar 13) (eC (.d .none)))) (eFz (fLst aNil)) (eSl (eVar 12) (pSome (eIndex (eVar 12) (eVar 13))) pNone)) (gN 14))
    (sSeq (sAsg (eOp addA (eVar 10) (eIf (tB (eOp isInD (eVar 11) (eVar 14))) (eFz (fLst (aCons (eVar 11) aNil))) (eFz (fLst aNil)))) (gN 10))
    (sSeq (sIf (tNt (tB (eCall (noxF F_law_alike) (aCons (eFz (fLst (aCons (eCall (noxF F_way_of) (aCons (eVar 4) (aCons (eVar 11) aNil))) (aCons (eCall (noxF F_ring_of) (aCons (eVar 4) (aCons (eVar 11) aNil))) aNil)))) (aCons (eFz (fLst (aCons (eCB tupleD (aCons (eVar 12) aNil)) (aCons (eCB tupleD (aCons (eVar 14) aNil)) aNil)))) aNil)))))
      (sRet (eC (.d (.bool false))))
      sNext)
    (sSeq (sIf (tB (eOp neD (eCall (noxF F_pointing_at) (aCons (eVar 4) (aCons (eVar 11) aNil))) (eCB tupleD (aCons (eFz (fLc (itRng1 (eVar 9)) (gN 15) (tB (eOp eqD (eOp ixD (eOp ixD (eVar 4) (eC (.d (.int 1)))) (eVar 15)) (eVar 11))) (eVar 15) [15])) aNil))))
      (sRet (eC (.d (.bool false))))
      sNext)
    (sSeq (sAsg (eCall (noxF F_law_take) (aCons (eVar 1) (aCons (eC (.d (.int 20))) aNil))) (gN 16))
    (sSeq (sIf (tNt (tB (eCall (noxF F_law_alike) (aCons (eCall (noxF F_stepped) (aCons (eVar 4) (aCons (eVar 11) (aCons (eVar 16) aNil)))) (aCons (eCall (noxF F_law_steps) (aCons (eVar 4) (aCons (eVar 11) (aCons (eVar 16) aNil)))) aNil)))))
      (sRet (eC (.d (.bool false))))
      sNext)
    (sSeq (sAsg (eOp addA (eOp mulD (eC (.d (.int 840))) (eOp addA (eOp powD (eC (.d (.int 10))) (eC (.d (.int 20)))) (eCall (noxF F_law_take) (aCons (eVar 1) (aCons (eC (.d (.int 1000))) aNil))))) (eVar 16)) (gN 17))
    (sIf (tNt (tB (eCall (noxF F_law_alike) (aCons (eCall (noxF F_stepped) (aCons (eVar 4) (aCons (eVar 11) (aCons (eVar 17) aNil)))) (aCons (eCall (noxF F_law_steps) (aCons (eVar 4) (aCons (eVar 11) (aCons (eOp addA (eC (.d (.int 840))) (eVar 16)) aNil)))) aNil)))))
      (sRet (eC (.d (.bool false))))
      sNext))))))))))
def L_law_5 : MS :=
  (sSeq (sIf (tB (eOp neD (eHear known6 (eCall F_way_of (aCons (eVar 4) (aCons (eVar 8) aNil)))) (eTup (aCons (eC (.d (.str "Nothing"))) aNil))))
      (sRet (eC (.d (.bool false))))
      sNext)
    (sIf (tB (eOp neD (eHear known6 (eCall F_pointing_at (aCons (eVar 4) (aCons (eVar 8) aNil)))) (eTup (aCons (eC (.d (.str "Nothing"))) aNil))))
      (sRet (eC (.d (.bool false))))
      sNext))
def L_law_6 : MS :=
  (sSeq (sAsg (eOp addA (eC (.d (.int 1))) (eCall (noxF F_law_take) (aCons (eVar 1) (aCons (eC (.d (.int 3))) aNil)))) (gN 3))
    (sSeq (sAsg (eCall (noxF F_law_world) (aCons (eVar 1) (aCons (eVar 3) (aCons (eC (.d (.int 7))) aNil)))) (gN 4))
    (sSeq (sIf (tB (eOp neD (eCall (noxF F_checked_world) (aCons (eVar 3) (aCons (eVar 4) aNil))) (eVar 4)))
      (sRet (eC (.d (.bool false))))
      sNext)
    (sSeq (sFor (itRng1 (eC (.d (.int 4)))) (gN 5) L_law_1)
    (sSeq (sFor (itTup (eTup (aCons (eC (.d .none)) (aCons (eSl (eVar 4) pNone (pSome (eC (.d (.int 1))))) (aCons (eOp addA (eTup (aCons (eCB listD (aCons (eOp ixD (eVar 4) (eC (.d (.int 0)))) aNil)) aNil)) (eSl (eVar 4) (pSome (eC (.d (.int 1)))) pNone)) (aCons (eTup (aCons (eOp ixD (eVar 4) (eC (.d (.int 0)))) (aCons (eOp repD (eTup (aCons (eC (.d (.bool true))) aNil)) (eCB lenD (aCons (eOp ixD (eVar 4) (eC (.d (.int 0)))) aNil))) aNil))) (aCons (eTup (aCons (eTup aNil) (aCons (eTup (aCons (eUn negD (eC (.d (.int 1)))) aNil)) aNil))) aNil))))))) (gN 8) L_law_2)
    (sSeq (sFor (itTup (eTup (aCons (eC (.d (.int 0))) (aCons (eC (.d (.int 4))) (aCons (eC (.d .none)) (aCons (eC (.d (.bool true))) aNil)))))) (gN 8) L_law_3)
    (sSeq (sPar2 9 10 (.v (eCB lenD (aCons (eOp ixD (eVar 4) (eC (.d (.int 0)))) aNil))) (.v (eFz (fLst aNil))))
    (sSeq (sFor (itRng1 (eVar 9)) (gN 11) L_law_4)
    (sSeq (sIf (tB (eOp neD (eCall (noxF F_on_rings) (aCons (eVar 4) aNil)) (eCB tupleD (aCons (eVar 10) aNil))))
      (sRet (eC (.d (.bool false))))
      sNext)
    (sSeq (sFor (itTup (eTup (aCons (eVar 9) (aCons (eUn negD (eC (.d (.int 1)))) (aCons (eC (.d .none)) (aCons (eC (.d (.bool true))) aNil)))))) (gN 8) L_law_5)
    (sIf (tAn (tB (eOp gtD (eVar 9) (eC (.d (.int 0))))) (tB (eOp neD (eHear known6 (eCall F_stepped (aCons (eVar 4) (aCons (eC (.d (.int 0))) (aCons (eUn negD (eC (.d (.int 1)))) aNil))))) (eTup (aCons (eC (.d (.str "Nothing"))) aNil)))))
      (sRet (eC (.d (.bool false))))
      sNext)))))))))))
def lawM : MS :=
  (sSeq (sFor (itRng1 (eC (.d (.int 4)))) (gN 2) L_law_6)
    (sRet (eC (.d (.bool true)))))
end K01
set_option maxRecDepth 100000
set_option maxHeartbeats 4000000
/-! Z01p: what the plain defs of k01 compute. -/
namespace K01
open PySem Hk Pz
def isNum : PyData → Bool
  | .int _ => true
  | _ => false
def isIdx : PyData → Bool
  | .int i => decide (0 ≤ i)
  | _ => false
def isTh : PyData → Bool
  | .none => true
  | d => isIdx d
def isBet (d : PyData) (a b : Int) : Bool := match d with
  | .int i => decide (a ≤ i) && decide (i ≤ b)
  | _ => false
def sized (d : PyData) (n : Int) : Bool := match d with
  | .tuple ds => decide ((ds.length : Int) = n)
  | _ => false
def tupOf (pr : PyData → Bool) (d : PyData) : Bool := match d with
  | .tuple ds => ds.all pr
  | _ => false
def lenT : PyData → Nat
  | .tuple ds => ds.length
  | _ => 0
def isWorld (d : PyData) : Bool := match d with
  | .tuple [a, b] => tupOf isIdx a && (tupOf isTh b && (decide (lenT a ≤ 400) && decide (lenT b ≤ 400)))
  | _ => false
theorem f_is_number (x : PyData) (s : Store) : F_is_number [.d x] s = .ok (.d (.bool (isNum x))) s := by cases x <;> rfl
theorem f_is_index (x : PyData) (s : Store) : F_is_index [.d x] s = .ok (.d (.bool (isIdx x))) s := by cases x <;> rfl
theorem f_is_thing_or_none (x : PyData) (s : Store) : F_is_thing_or_none [.d x] s = .ok (.d (.bool (isTh x))) s := by cases x <;> rfl
theorem f_is_between (x : PyData) (a b : Int) (s : Store) : F_is_between [.d x, .d (.int a), .d (.int b)] s = .ok (.d (.bool (isBet x a b))) s := by
  cases x with
  | int i =>
    by_cases h : a ≤ i
    · simp [F_is_between, mkF, sSeq, eCh, finF, sRet, thenS, sAsg, sIf, sNext, sDrop, sCPut, sCAug, setC, tB, tNt, tAn, tOR, eOp, eUn, eIf, eAnd, eOr, eNot, eCB, eCIx, eVar, eOwn, eC, eTup, eFz, fLst, fCat, eSl, pNone, pSome, eCall, noxF, aCons, aNil, cell, datas, ap1, ap2, tst, gN, gsN, gsC, gT, eIsi, eIndex, eDIn, eDGet, sDPut, sLPut, sApp, own, dat, sOwn, sDic, sFz, sRetOwn, sRetN, negD, isND, notND, isNoneD, cmpD, keyD, tupleD, subD, L2.atI, L2.ixN, f_is_number, isNum, cmpD, isBet, h]
    · simp [F_is_between, mkF, sSeq, eCh, finF, sRet, thenS, sAsg, sIf, sNext, sDrop, sCPut, sCAug, setC, tB, tNt, tAn, tOR, eOp, eUn, eIf, eAnd, eOr, eNot, eCB, eCIx, eVar, eOwn, eC, eTup, eFz, fLst, fCat, eSl, pNone, pSome, eCall, noxF, aCons, aNil, cell, datas, ap1, ap2, tst, gN, gsN, gsC, gT, eIsi, eIndex, eDIn, eDGet, sDPut, sLPut, sApp, own, dat, sOwn, sDic, sFz, sRetOwn, sRetN, negD, isND, notND, isNoneD, cmpD, keyD, tupleD, subD, L2.atI, L2.ixN, f_is_number, isNum, cmpD, isBet, h]
  | _ => rfl
theorem f_is_sized (x : PyData) (n : Int) (s : Store) : F_is_sized [.d x, .d (.int n)] s = .ok (.d (.bool (sized x n))) s := by cases x <;> rfl
theorem f_is_hues (x : PyData) (s : Store) : F_is_hues [.d x] s = .ok (.d (.bool (isBet x 1 3))) s := by
  simp [F_is_hues, mkF, sSeq, eCh, finF, sRet, thenS, sAsg, sIf, sNext, sDrop, sCPut, sCAug, setC, tB, tNt, tAn, tOR, eOp, eUn, eIf, eAnd, eOr, eNot, eCB, eCIx, eVar, eOwn, eC, eTup, eFz, fLst, fCat, eSl, pNone, pSome, eCall, noxF, aCons, aNil, cell, datas, ap1, ap2, tst, gN, gsN, gsC, gT, eIsi, eIndex, eDIn, eDGet, sDPut, sLPut, sApp, own, dat, sOwn, sDic, sFz, sRetOwn, sRetN, negD, isND, notND, isNoneD, cmpD, keyD, tupleD, subD, L2.atI, L2.ixN, f_is_between]
theorem bools_map (bs : List Bool) : boolsD (bs.map PyData.bool) = some bs := by
  induction bs with
  | nil => rfl
  | cons b r ih => show (boolsD (r.map PyData.bool)).map (b :: ·) = _; rw [ih]; rfl
theorem all_map (pr : PyData → Bool) (ds : List PyData) : allD [.list (ds.map fun d => .bool (pr d))] = some (.bool (ds.all pr)) := by
  show (boolsD (ds.map fun d => .bool (pr d))).map _ = _
  have : (ds.map fun d => PyData.bool (pr d)) = (ds.map pr).map PyData.bool := by rw [List.map_map]; rfl
  rw [this, bools_map]
  simp [List.all_map]
/-- the tuple's test, whichever it is -/
theorem tuple_of_core (x : PyData) (f : Str) (F : Fn) (pr : PyData → Bool) (hf : Fs_is_tuple_of.lookup f = some F) (hF : ∀ d s, F [.d d] s = .ok (.d (.bool (pr d))) s) (s : Store) (hz : lenT x ≤ LIM) : F_is_tuple_of [.d x, .fn f] s = .ok (.d (.bool (tupOf pr x))) s := by
  cases x with
  | tuple ds =>
    have hl : fLc (itTup (eVar 0)) (gN 2) tYes (eCallV 1 Fs_is_tuple_of (aCons (eVar 2) aNil)) [2] [some (.v (.d (.tuple ds))), some (.v (.fn f)), none] s = .ok (ds.map fun d => .bool (pr d)) s := by
      have := lcL_d (g := gN 2) (c := tYes) (e := eCallV 1 Fs_is_tuple_of (aCons (eVar 2) aNil)) (ρ := [some (.v (.d (.tuple ds))), some (.v (.fn f)), none]) (s := s) AV.d (fun _ => true) (fun d => .bool (pr d)) ds (fun d _ => ⟨[some (.v (.d (.tuple ds))), some (.v (.fn f)), some (.v (.d d))], rfl, rfl, fun _ => by
        show (match Fs_is_tuple_of.lookup f with
          | some F => (F [.d d] s).nox
          | none => .stk) = _
        rw [hf]
        show (F [.d d] s).nox = _
        rw [hF]; rfl⟩)
      rw [show ds.filter (fun _ => true) = ds from List.filter_eq_self.mpr (fun _ _ => rfl)] at this
      show (if (ds.map AV.d).length ≤ LIM then lcL (gN 2) tYes (eCallV 1 Fs_is_tuple_of (aCons (eVar 2) aNil)) (ds.map AV.d) [some (.v (.d (.tuple ds))), some (.v (.fn f)), none] s else .stk) = _
      rw [if_pos (by rw [List.length_map]; exact hz), this]
    simp [F_is_tuple_of, mkF, sSeq, eCh, finF, sRet, thenS, sAsg, sIf, sNext, sDrop, sCPut, sCAug, setC, tB, tNt, tAn, tOR, eOp, eUn, eIf, eAnd, eOr, eNot, eCB, eCIx, eVar, eOwn, eC, eTup, eFz, fLst, fCat, eSl, pNone, pSome, eCall, noxF, aCons, aNil, cell, datas, ap1, ap2, tst, gN, gsN, gsC, gT, eIsi, eIndex, eDIn, eDGet, sDPut, sLPut, sApp, own, dat, sOwn, sDic, sFz, sRetOwn, sRetN, negD, isND, notND, isNoneD, cmpD, keyD, tupleD, subD, L2.atI, L2.ixN, isiD, isT, tyD, hl, all_map, tupOf]
  | _ => rfl
theorem f_tuple_idx (x : PyData) (s : Store) (hz : lenT x ≤ LIM) : F_is_tuple_of [.d x, .fn "is_index"] s = .ok (.d (.bool (tupOf isIdx x))) s := tuple_of_core x "is_index" F_is_index isIdx rfl f_is_index s hz
theorem f_tuple_th (x : PyData) (s : Store) (hz : lenT x ≤ LIM) : F_is_tuple_of [.d x, .fn "is_thing_or_none"] s = .ok (.d (.bool (tupOf isTh x))) s := tuple_of_core x "is_thing_or_none" F_is_thing_or_none isTh rfl f_is_thing_or_none s hz
/-- no tuple within is too long -/
def short : PyData → Prop
  | .tuple [a, b] => lenT a ≤ LIM ∧ lenT b ≤ LIM
  | _ => True
theorem sized_two {d : PyData} (h : sized d 2 = true) : ∃ a b, d = .tuple [a, b] := by
  cases d with
  | tuple ds =>
    unfold sized at h
    have h := of_decide_eq_true h
    match ds, h with
    | [a, b], _ => exact ⟨a, b, rfl⟩
    | [], h => cases h
    | [a], h => simp at h
    | a :: b :: c :: r, h => simp at h; omega
  | _ => cases h
theorem not_sized {d : PyData} (h : sized d 2 = false) : isWorld d = false := by
  cases d with
  | tuple ds =>
    match ds, h with
    | [a, b], h => cases h
    | [], h => rfl
    | [a], h => rfl
    | a :: b :: c :: r, h => rfl
  | _ => rfl
theorem len_tup {pr : PyData → Bool} {a : PyData} (h : tupOf pr a = true) : ∃ ds, a = .tuple ds := by
  cases a with
  | tuple ds => exact ⟨ds, rfl⟩
  | _ => cases h
theorem f_is_world (x : PyData) (s : Store) (hz : short x) : F_is_world [.d x] s = .ok (.d (.bool (isWorld x))) s := by
  cases hs : sized x 2 with
  | false =>
    rw [not_sized hs]
    simp [F_is_world, mkF, sSeq, eCh, finF, sRet, thenS, sAsg, sIf, sNext, sDrop, sCPut, sCAug, setC, tB, tNt, tAn, tOR, eOp, eUn, eIf, eAnd, eOr, eNot, eCB, eCIx, eVar, eOwn, eC, eTup, eFz, fLst, fCat, eSl, pNone, pSome, eCall, noxF, aCons, aNil, cell, datas, ap1, ap2, tst, gN, gsN, gsC, gT, eIsi, eIndex, eDIn, eDGet, sDPut, sLPut, sApp, own, dat, sOwn, sDic, sFz, sRetOwn, sRetN, negD, isND, notND, isNoneD, cmpD, keyD, tupleD, subD, L2.atI, L2.ixN, f_is_sized, hs]
  | true =>
    obtain ⟨a, b, rfl⟩ := sized_two hs
    have e0 : ixD (.tuple [a, b]) (.int 0) = some a := rfl
    have e1 : ixD (.tuple [a, b]) (.int 1) = some b := rfl
    show _ = Out.ok (AV.d (.bool (tupOf isIdx a && (tupOf isTh b && (decide (lenT a ≤ 400) && decide (lenT b ≤ 400)))))) s
    cases h1 : tupOf isIdx a with
    | false => simp [F_is_world, mkF, sSeq, eCh, finF, sRet, thenS, sAsg, sIf, sNext, sDrop, sCPut, sCAug, setC, tB, tNt, tAn, tOR, eOp, eUn, eIf, eAnd, eOr, eNot, eCB, eCIx, eVar, eOwn, eC, eTup, eFz, fLst, fCat, eSl, pNone, pSome, eCall, noxF, aCons, aNil, cell, datas, ap1, ap2, tst, gN, gsN, gsC, gT, eIsi, eIndex, eDIn, eDGet, sDPut, sLPut, sApp, own, dat, sOwn, sDic, sFz, sRetOwn, sRetN, negD, isND, notND, isNoneD, cmpD, keyD, tupleD, subD, L2.atI, L2.ixN, f_is_sized, hs, e0, e1, f_tuple_idx a s hz.1, h1]
    | true =>
      cases h2 : tupOf isTh b with
      | false => simp [F_is_world, mkF, sSeq, eCh, finF, sRet, thenS, sAsg, sIf, sNext, sDrop, sCPut, sCAug, setC, tB, tNt, tAn, tOR, eOp, eUn, eIf, eAnd, eOr, eNot, eCB, eCIx, eVar, eOwn, eC, eTup, eFz, fLst, fCat, eSl, pNone, pSome, eCall, noxF, aCons, aNil, cell, datas, ap1, ap2, tst, gN, gsN, gsC, gT, eIsi, eIndex, eDIn, eDGet, sDPut, sLPut, sApp, own, dat, sOwn, sDic, sFz, sRetOwn, sRetN, negD, isND, notND, isNoneD, cmpD, keyD, tupleD, subD, L2.atI, L2.ixN, f_is_sized, hs, e0, e1, f_tuple_idx a s hz.1, f_tuple_th b s hz.2, h1, h2]
      | true =>
        obtain ⟨as, rfl⟩ := len_tup h1
        obtain ⟨bs, rfl⟩ := len_tup h2
        have l1 : lenD [.tuple as] = some (.int as.length) := rfl
        have l2 : lenD [.tuple bs] = some (.int bs.length) := rfl
        have i1 : decide ((as.length : Int) ≤ 400) = decide (as.length ≤ 400) := by simp only [decide_eq_decide]; omega
        have i2 : decide ((bs.length : Int) ≤ 400) = decide (bs.length ≤ 400) := by simp only [decide_eq_decide]; omega
        by_cases h3 : as.length ≤ 400
        · simp [F_is_world, mkF, sSeq, eCh, finF, sRet, thenS, sAsg, sIf, sNext, sDrop, sCPut, sCAug, setC, tB, tNt, tAn, tOR, eOp, eUn, eIf, eAnd, eOr, eNot, eCB, eCIx, eVar, eOwn, eC, eTup, eFz, fLst, fCat, eSl, pNone, pSome, eCall, noxF, aCons, aNil, cell, datas, ap1, ap2, tst, gN, gsN, gsC, gT, eIsi, eIndex, eDIn, eDGet, sDPut, sLPut, sApp, own, dat, sOwn, sDic, sFz, sRetOwn, sRetN, negD, isND, notND, isNoneD, cmpD, keyD, tupleD, subD, L2.atI, L2.ixN, f_is_sized, hs, e0, e1, f_tuple_idx _ s hz.1, f_tuple_th _ s hz.2, h1, h2, l1, l2, cmpD, i1, i2, h3, lenT]
          exact decide_eq_decide.mpr Iff.rfl
        · simp [F_is_world, mkF, sSeq, eCh, finF, sRet, thenS, sAsg, sIf, sNext, sDrop, sCPut, sCAug, setC, tB, tNt, tAn, tOR, eOp, eUn, eIf, eAnd, eOr, eNot, eCB, eCIx, eVar, eOwn, eC, eTup, eFz, fLst, fCat, eSl, pNone, pSome, eCall, noxF, aCons, aNil, cell, datas, ap1, ap2, tst, gN, gsN, gsC, gT, eIsi, eIndex, eDIn, eDGet, sDPut, sLPut, sApp, own, dat, sOwn, sDic, sFz, sRetOwn, sRetN, negD, isND, notND, isNoneD, cmpD, keyD, tupleD, subD, L2.atI, L2.ixN, f_is_sized, hs, e0, e1, f_tuple_idx _ s hz.1, f_tuple_th _ s hz.2, h1, h2, l1, l2, cmpD, i1, i2, h3, lenT]
theorem f_check_hues (x : PyData) (s : Store) : F_check_hues [.d x] s = if isBet x 1 3 = true then .ok (.d .none) s else .exc ⟨"Nothing", []⟩ s := by
  cases h : isBet x 1 3 <;> simp [F_check_hues, mkF, sSeq, eCh, finF, sRet, thenS, sAsg, sIf, sNext, sDrop, sCPut, sCAug, setC, tB, tNt, tAn, tOR, eOp, eUn, eIf, eAnd, eOr, eNot, eCB, eCIx, eVar, eOwn, eC, eTup, eFz, fLst, fCat, eSl, pNone, pSome, eCall, noxF, aCons, aNil, cell, datas, ap1, ap2, tst, gN, gsN, gsC, gT, eIsi, eIndex, eDIn, eDGet, sDPut, sLPut, sApp, own, dat, sOwn, sDic, sFz, sRetOwn, sRetN, negD, isND, notND, isNoneD, cmpD, keyD, tupleD, subD, L2.atI, L2.ixN, f_is_hues, h, sRaise0]
/-! ### worlds -/
def oD : Option Int → PyData
  | none => .none
  | some i => .int i
def wD (cs : List Int) (ns : List (Option Int)) : PyData := .tuple [.tuple (cs.map PyData.int), .tuple (ns.map oD)]
structure Good (cs : List Int) (ns : List (Option Int)) : Prop where
  c0 : ∀ c ∈ cs, 0 ≤ c
  n0 : ∀ i, some i ∈ ns → 0 ≤ i
  cl : cs.length ≤ 400
  nl : ns.length ≤ 400
theorem Good.isWorld {cs : List Int} {ns : List (Option Int)} (g : Good cs ns) : isWorld (wD cs ns) = true := by
  show (tupOf isIdx _ && (tupOf isTh _ && (decide (lenT _ ≤ 400) && decide (lenT _ ≤ 400)))) = true
  have e1 : tupOf isIdx (.tuple (cs.map PyData.int)) = true := by
    show (cs.map PyData.int).all isIdx = true
    rw [List.all_map, List.all_eq_true]
    intro c hc
    exact decide_eq_true (g.c0 c hc)
  have e2 : tupOf isTh (.tuple (ns.map oD)) = true := by
    show (ns.map oD).all isTh = true
    rw [List.all_map, List.all_eq_true]
    intro o ho
    cases o with
    | none => rfl
    | some i => exact decide_eq_true (g.n0 i ho)
  have l1 : lenT (.tuple (cs.map PyData.int)) ≤ 400 := by show (cs.map PyData.int).length ≤ 400; rw [List.length_map]; exact g.cl
  have l2 : lenT (.tuple (ns.map oD)) ≤ 400 := by show (ns.map oD).length ≤ 400; rw [List.length_map]; exact g.nl
  rw [e1, e2, decide_eq_true l1, decide_eq_true l2]
  rfl
theorem Good.short {cs : List Int} {ns : List (Option Int)} (g : Good cs ns) : short (wD cs ns) := by
  have := g.cl
  have := g.nl
  exact ⟨by show (cs.map PyData.int).length ≤ LIM; rw [List.length_map]; unfold LIM; omega, by show (ns.map oD).length ≤ LIM; rw [List.length_map]; unfold LIM; omega⟩
/-! ### the fault of a world -/
def wThing (i : Nat) : PyData := .tuple [.str "thing", .int (i : Nat)]
def wThings : PyData := .tuple [.str "things"]
def oGe : Option Int → Int → Bool
  | none, _ => false
  | some i, n => decide (i ≥ n)
def scan (h n : Int) : Nat → List Int → List (Option Int) → Option (PyData × Str)
  | i, c :: cs, o :: ns => if c ≥ h then some (wThing i, "hue") else if oGe o n = true then some (wThing i, "next") else scan h n (i + 1) cs ns
  | _, _, _ => none
def flt (h : Int) (cs : List Int) (ns : List (Option Int)) : Option (PyData × Str) :=
  if cs.length ≠ ns.length then some (wThings, "many") else scan h cs.length 0 cs ns
/-- the items that are walked -/
def wit (cs : List Int) (ns : List (Option Int)) (k : Nat) : List AV := ((((cs.map PyData.int).zip (ns.map oD)).map fun p => PyData.tuple [p.1, p.2]).zipIdx k).map fun p => .d (.tuple [.int (p.2 : Nat), p.1])
theorem wit_cons (c : Int) (cs : List Int) (o : Option Int) (ns : List (Option Int)) (k : Nat) : wit (c :: cs) (o :: ns) k = .d (.tuple [.int (k : Nat), .tuple [.int c, oD o]]) :: wit cs ns (k + 1) := rfl
theorem wit_nil (ns : List (Option Int)) (k : Nat) : wit [] ns k = [] := rfl
theorem wit_nil2 (cs : List Int) (k : Nat) : wit cs [] k = [] := by cases cs <;> rfl
theorem check_loop (h : Int) (CS : List Int) (NS : List (Option Int)) (s : Store) : ∀ (cs : List Int) (ns : List (Option Int)) (k : Nat) (a b c : Option Sl), (∃ a' b' c', scan h CS.length k cs ns = none ∧ forL (gT 2 (gsC (gN 2) (gsC (gT 2 (gsC (gN 3) (gsC (gN 4) gsN))) gsN))) L_checked_world_1 (wit cs ns k) [some (.v (.d (.int h))), some (.v (.d (wD CS NS))), a, b, c] s = .ok (.nx [some (.v (.d (.int h))), some (.v (.d (wD CS NS))), a', b', c']) s) ∨
    ∃ wh f, scan h CS.length k cs ns = some (wh, f) ∧ forL (gT 2 (gsC (gN 2) (gsC (gT 2 (gsC (gN 3) (gsC (gN 4) gsN))) gsN))) L_checked_world_1 (wit cs ns k) [some (.v (.d (.int h))), some (.v (.d (wD CS NS))), a, b, c] s = .exc ⟨"BadWorld", [("where", wh), ("fault", .str f)]⟩ s
  | [], ns, k, a, b, c => .inl ⟨a, b, c, by cases ns <;> rfl, rfl⟩
  | c :: cs, [], k, a, b, d => .inl ⟨a, b, d, rfl, by rw [wit_nil2]; rfl⟩
  | c :: cs, o :: ns, k, a, b, d => by
    have e0 : ixD (wD CS NS) (.int 0) = some (.tuple (CS.map PyData.int)) := rfl
    have e1 : lenD [.tuple (CS.map PyData.int)] = some (.int CS.length) := by show some (PyData.int ((CS.map PyData.int).length : Nat)) = _; rw [List.length_map]
    have t2 : ∀ (i : PyData), eTup (aCons (eC (.d (.str "thing"))) (aCons (eVar 2) aNil)) [some (.v (.d (.int h))), some (.v (.d (wD CS NS))), some (.v (.d i)), some (.v (.d (.int c))), some (.v (.d (oD o)))] s = .ok (.d (.tuple [.str "thing", i])) s := fun i => rfl
    rw [wit_cons]
    simp only [scan]
    by_cases h1 : c ≥ h
    · rw [if_pos h1]
      refine .inr ⟨_, _, rfl, ?_⟩
      simp [forL, L_checked_world_1, mkF, sSeq, eCh, finF, sRet, thenS, sAsg, sIf, sNext, sDrop, sCPut, sCAug, setC, tB, tNt, tAn, tOR, eOp, eUn, eIf, eAnd, eOr, eNot, eCB, eCIx, eVar, eOwn, eC, eTup, eFz, fLst, fCat, eSl, pNone, pSome, eCall, noxF, aCons, aNil, cell, datas, ap1, ap2, tst, gN, gsN, gsC, gT, eIsi, eIndex, eDIn, eDGet, sDPut, sLPut, sApp, own, dat, sOwn, sDic, sFz, sRetOwn, sRetN, negD, isND, notND, isNoneD, cmpD, keyD, tupleD, subD, L2.atI, L2.ixN, cmpD, h1, sRaise2, wThing]
    rw [if_neg h1]
    have h1' : ¬ h ≤ c := h1
    cases o with
    | none =>
      rw [if_neg (show ¬ oGe none (CS.length : Nat) = true by simp [oGe])]
      have := check_loop h CS NS s cs ns (k + 1) (some (.v (.d (.int (k : Nat))))) (some (.v (.d (.int c)))) (some (.v (.d .none)))
      simpa [forL, L_checked_world_1, mkF, sSeq, eCh, finF, sRet, thenS, sAsg, sIf, sNext, sDrop, sCPut, sCAug, setC, tB, tNt, tAn, tOR, eOp, eUn, eIf, eAnd, eOr, eNot, eCB, eCIx, eVar, eOwn, eC, eTup, eFz, fLst, fCat, eSl, pNone, pSome, eCall, noxF, aCons, aNil, cell, datas, ap1, ap2, tst, gN, gsN, gsC, gT, eIsi, eIndex, eDIn, eDGet, sDPut, sLPut, sApp, own, dat, sOwn, sDic, sFz, sRetOwn, sRetN, negD, isND, notND, isNoneD, cmpD, keyD, tupleD, subD, L2.atI, L2.ixN, cmpD, h1', notND, isNoneD, oD] using this
    | some j =>
      by_cases h2 : oGe (some j) (CS.length : Nat) = true
      · rw [if_pos h2]
        have h2' : (CS.length : Int) ≤ j := of_decide_eq_true h2
        refine .inr ⟨_, _, rfl, ?_⟩
        simp [forL, L_checked_world_1, mkF, sSeq, eCh, finF, sRet, thenS, sAsg, sIf, sNext, sDrop, sCPut, sCAug, setC, tB, tNt, tAn, tOR, eOp, eUn, eIf, eAnd, eOr, eNot, eCB, eCIx, eVar, eOwn, eC, eTup, eFz, fLst, fCat, eSl, pNone, pSome, eCall, noxF, aCons, aNil, cell, datas, ap1, ap2, tst, gN, gsN, gsC, gT, eIsi, eIndex, eDIn, eDGet, sDPut, sLPut, sApp, own, dat, sOwn, sDic, sFz, sRetOwn, sRetN, negD, isND, notND, isNoneD, cmpD, keyD, tupleD, subD, L2.atI, L2.ixN, cmpD, h1', notND, isNoneD, oD, e0, e1, h2', sRaise2, wThing]
      · rw [if_neg h2]
        have h2' : ¬ (CS.length : Int) ≤ j := fun z => h2 (decide_eq_true z)
        have := check_loop h CS NS s cs ns (k + 1) (some (.v (.d (.int (k : Nat))))) (some (.v (.d (.int c)))) (some (.v (.d (.int j))))
        simpa [forL, L_checked_world_1, mkF, sSeq, eCh, finF, sRet, thenS, sAsg, sIf, sNext, sDrop, sCPut, sCAug, setC, tB, tNt, tAn, tOR, eOp, eUn, eIf, eAnd, eOr, eNot, eCB, eCIx, eVar, eOwn, eC, eTup, eFz, fLst, fCat, eSl, pNone, pSome, eCall, noxF, aCons, aNil, cell, datas, ap1, ap2, tst, gN, gsN, gsC, gT, eIsi, eIndex, eDIn, eDGet, sDPut, sLPut, sApp, own, dat, sOwn, sDic, sFz, sRetOwn, sRetN, negD, isND, notND, isNoneD, cmpD, keyD, tupleD, subD, L2.atI, L2.ixN, cmpD, h1', notND, isNoneD, oD, e0, e1, h2'] using this
end K01
set_option maxRecDepth 100000
set_option maxHeartbeats 4000000
/-! Z01q: worlds checked, ways, rings, steps. -/
namespace K01
open PySem Hk Pz
section
variable {cs : List Int} {ns : List (Option Int)} {s : Store}
theorem ix0 : ixD (wD cs ns) (.int 0) = some (.tuple (cs.map PyData.int)) := rfl
theorem ix1 : ixD (wD cs ns) (.int 1) = some (.tuple (ns.map oD)) := rfl
theorem len0 : lenD [.tuple (cs.map PyData.int)] = some (.int cs.length) := by show some (PyData.int ((cs.map PyData.int).length : Nat)) = _; rw [List.length_map]
theorem len1 : lenD [.tuple (ns.map oD)] = some (.int ns.length) := by show some (PyData.int ((ns.map oD).length : Nat)) = _; rw [List.length_map]
theorem lenL (is : List Int) : lenD [.list (is.map PyData.int)] = some (.int is.length) := by show some (PyData.int ((is.map PyData.int).length : Nat)) = _; rw [List.length_map]
theorem f_checked_bad {hd x : PyData} (h : (isBet hd 1 3 && isWorld x) = false) (hz : short x) : F_checked_world [.d hd, .d x] s = .exc ⟨"Nothing", []⟩ s := by
  cases h1 : isBet hd 1 3 with
  | false => simp [F_checked_world, mkF, sSeq, eCh, finF, sRet, thenS, sAsg, sIf, sNext, sDrop, sCPut, sCAug, setC, tB, tNt, tAn, tOR, eOp, eUn, eIf, eAnd, eOr, eNot, eCB, eCIx, eVar, eOwn, eC, eTup, eFz, fLst, fCat, eSl, pNone, pSome, eCall, noxF, aCons, aNil, cell, datas, ap1, ap2, tst, gN, gsN, gsC, gT, eIsi, eIndex, eDIn, eDGet, sDPut, sLPut, sApp, own, dat, sOwn, sDic, sFz, sRetOwn, sRetN, negD, isND, notND, isNoneD, cmpD, keyD, tupleD, subD, L2.atI, L2.ixN, f_check_hues, h1]
  | true =>
    rw [h1, Bool.true_and] at h
    have e : (sIf (tNt (tB (eCall (noxF F_is_world) (aCons (eVar 1) aNil)))) (sRaise0 "Nothing") sNext) [some (.v (.d hd)), some (.v (.d x)), none, none, none] s = .exc ⟨"Nothing", []⟩ s := by
      simp [mkF, sSeq, eCh, finF, sRet, thenS, sAsg, sIf, sNext, sDrop, sCPut, sCAug, setC, tB, tNt, tAn, tOR, eOp, eUn, eIf, eAnd, eOr, eNot, eCB, eCIx, eVar, eOwn, eC, eTup, eFz, fLst, fCat, eSl, pNone, pSome, eCall, noxF, aCons, aNil, cell, datas, ap1, ap2, tst, gN, gsN, gsC, gT, eIsi, eIndex, eDIn, eDGet, sDPut, sLPut, sApp, own, dat, sOwn, sDic, sFz, sRetOwn, sRetN, negD, isND, notND, isNoneD, cmpD, keyD, tupleD, subD, L2.atI, L2.ixN, f_is_world x s hz, h, sRaise0]
    have e0 : (sDrop (eCall F_check_hues (aCons (eVar 0) aNil))) [some (.v (.d hd)), some (.v (.d x)), none, none, none] s = .ok (.nx [some (.v (.d hd)), some (.v (.d x)), none, none, none]) s := by
      simp [mkF, sSeq, eCh, finF, sRet, thenS, sAsg, sIf, sNext, sDrop, sCPut, sCAug, setC, tB, tNt, tAn, tOR, eOp, eUn, eIf, eAnd, eOr, eNot, eCB, eCIx, eVar, eOwn, eC, eTup, eFz, fLst, fCat, eSl, pNone, pSome, eCall, noxF, aCons, aNil, cell, datas, ap1, ap2, tst, gN, gsN, gsC, gT, eIsi, eIndex, eDIn, eDGet, sDPut, sLPut, sApp, own, dat, sOwn, sDic, sFz, sRetOwn, sRetN, negD, isND, notND, isNoneD, cmpD, keyD, tupleD, subD, L2.atI, L2.ixN, f_check_hues, h1]
    exact congrArg finF (seq_step e0 (seq_exc e))
theorem f_checked {h : Int} (hb : isBet (.int h) 1 3 = true) (g : Good cs ns) : F_checked_world [.d (.int h), .d (wD cs ns)] s = match flt h cs ns with
    | none => .ok (.d (wD cs ns)) s
    | some (wh, f) => .exc ⟨"BadWorld", [("where", wh), ("fault", .str f)]⟩ s := by
  have e0 : (sDrop (eCall F_check_hues (aCons (eVar 0) aNil))) [some (.v (.d (.int h))), some (.v (.d (wD cs ns))), none, none, none] s = .ok (.nx [some (.v (.d (.int h))), some (.v (.d (wD cs ns))), none, none, none]) s := by
    simp [mkF, sSeq, eCh, finF, sRet, thenS, sAsg, sIf, sNext, sDrop, sCPut, sCAug, setC, tB, tNt, tAn, tOR, eOp, eUn, eIf, eAnd, eOr, eNot, eCB, eCIx, eVar, eOwn, eC, eTup, eFz, fLst, fCat, eSl, pNone, pSome, eCall, noxF, aCons, aNil, cell, datas, ap1, ap2, tst, gN, gsN, gsC, gT, eIsi, eIndex, eDIn, eDGet, sDPut, sLPut, sApp, own, dat, sOwn, sDic, sFz, sRetOwn, sRetN, negD, isND, notND, isNoneD, cmpD, keyD, tupleD, subD, L2.atI, L2.ixN, f_check_hues, hb]
  have e1 : (sIf (tNt (tB (eCall (noxF F_is_world) (aCons (eVar 1) aNil)))) (sRaise0 "Nothing") sNext) [some (.v (.d (.int h))), some (.v (.d (wD cs ns))), none, none, none] s = .ok (.nx [some (.v (.d (.int h))), some (.v (.d (wD cs ns))), none, none, none]) s := by
    simp [mkF, sSeq, eCh, finF, sRet, thenS, sAsg, sIf, sNext, sDrop, sCPut, sCAug, setC, tB, tNt, tAn, tOR, eOp, eUn, eIf, eAnd, eOr, eNot, eCB, eCIx, eVar, eOwn, eC, eTup, eFz, fLst, fCat, eSl, pNone, pSome, eCall, noxF, aCons, aNil, cell, datas, ap1, ap2, tst, gN, gsN, gsC, gT, eIsi, eIndex, eDIn, eDGet, sDPut, sLPut, sApp, own, dat, sOwn, sDic, sFz, sRetOwn, sRetN, negD, isND, notND, isNoneD, cmpD, keyD, tupleD, subD, L2.atI, L2.ixN, f_is_world _ s g.short, g.isWorld]
  by_cases hl : cs.length = ns.length
  · have ef : flt h cs ns = scan h cs.length 0 cs ns := if_neg (fun z => z hl)
    rw [ef]
    have e2 : (sIf (tB (eOp neD (eCB lenD (aCons (eOp ixD (eVar 1) (eC (.d (.int 0)))) aNil)) (eCB lenD (aCons (eOp ixD (eVar 1) (eC (.d (.int 1)))) aNil))))
      (sRaise2 "BadWorld" "where" "fault" (aCons (eTup (aCons (eC (.d (.str "things"))) aNil)) (aCons (eC (.d (.str "many"))) aNil))) sNext) [some (.v (.d (.int h))), some (.v (.d (wD cs ns))), none, none, none] s = .ok (.nx [some (.v (.d (.int h))), some (.v (.d (wD cs ns))), none, none, none]) s := by
      simp [mkF, sSeq, eCh, finF, sRet, thenS, sAsg, sIf, sNext, sDrop, sCPut, sCAug, setC, tB, tNt, tAn, tOR, eOp, eUn, eIf, eAnd, eOr, eNot, eCB, eCIx, eVar, eOwn, eC, eTup, eFz, fLst, fCat, eSl, pNone, pSome, eCall, noxF, aCons, aNil, cell, datas, ap1, ap2, tst, gN, gsN, gsC, gT, eIsi, eIndex, eDIn, eDGet, sDPut, sLPut, sApp, own, dat, sOwn, sDic, sFz, sRetOwn, sRetN, negD, isND, notND, isNoneD, cmpD, keyD, tupleD, subD, L2.atI, L2.ixN, ix0, ix1, len0, len1, neD, eqB, hl]
    rcases check_loop h cs ns s cs ns 0 none none none with ⟨a, b, c, es, el⟩ | ⟨wh, f, es, el⟩
    · rw [es]
      have e3 : (sFor (itEnumZ (eOp ixD (eVar 1) (eC (.d (.int 0)))) (eOp ixD (eVar 1) (eC (.d (.int 1))))) (gT 2 (gsC (gN 2) (gsC (gT 2 (gsC (gN 3) (gsC (gN 4) gsN))) gsN))) L_checked_world_1) [some (.v (.d (.int h))), some (.v (.d (wD cs ns))), none, none, none] s = .ok (.nx [some (.v (.d (.int h))), some (.v (.d (wD cs ns))), a, b, c]) s := el
      exact congrArg finF (seq_step e0 (seq_step e1 (seq_step e2 (seq_step e3 rfl))))
    · rw [es]
      have e3 : (sFor (itEnumZ (eOp ixD (eVar 1) (eC (.d (.int 0)))) (eOp ixD (eVar 1) (eC (.d (.int 1))))) (gT 2 (gsC (gN 2) (gsC (gT 2 (gsC (gN 3) (gsC (gN 4) gsN))) gsN))) L_checked_world_1) [some (.v (.d (.int h))), some (.v (.d (wD cs ns))), none, none, none] s = .exc ⟨"BadWorld", [("where", wh), ("fault", .str f)]⟩ s := el
      exact congrArg finF (seq_step e0 (seq_step e1 (seq_step e2 (seq_exc e3))))
  · have ef : flt h cs ns = some (wThings, ("many" : Str)) := if_pos hl
    rw [ef]
    have e2 : (sIf (tB (eOp neD (eCB lenD (aCons (eOp ixD (eVar 1) (eC (.d (.int 0)))) aNil)) (eCB lenD (aCons (eOp ixD (eVar 1) (eC (.d (.int 1)))) aNil))))
      (sRaise2 "BadWorld" "where" "fault" (aCons (eTup (aCons (eC (.d (.str "things"))) aNil)) (aCons (eC (.d (.str "many"))) aNil))) sNext) [some (.v (.d (.int h))), some (.v (.d (wD cs ns))), none, none, none] s = .exc ⟨"BadWorld", [("where", wThings), ("fault", .str "many")]⟩ s := by
      simp [mkF, sSeq, eCh, finF, sRet, thenS, sAsg, sIf, sNext, sDrop, sCPut, sCAug, setC, tB, tNt, tAn, tOR, eOp, eUn, eIf, eAnd, eOr, eNot, eCB, eCIx, eVar, eOwn, eC, eTup, eFz, fLst, fCat, eSl, pNone, pSome, eCall, noxF, aCons, aNil, cell, datas, ap1, ap2, tst, gN, gsN, gsC, gT, eIsi, eIndex, eDIn, eDGet, sDPut, sLPut, sApp, own, dat, sOwn, sDic, sFz, sRetOwn, sRetN, negD, isND, notND, isNoneD, cmpD, keyD, tupleD, subD, L2.atI, L2.ixN, ix0, ix1, len0, len1, neD, eqB, hl, sRaise2, wThings]
      omega
    exact congrArg finF (seq_step e0 (seq_step e1 (seq_exc e2)))
/-- every arrow leads to a thing -/
theorem oGe_of {o : Option Int} {n : Int} (h : ¬ oGe o n = true) {i : Int} (e : o = some i) : i < n := by
  subst e
  unfold oGe at h
  simpa using h
theorem scan_none {h n : Int} : ∀ {i : Nat} {cs : List Int} {ns : List (Option Int)}, cs.length = ns.length → scan h n i cs ns = none → ∀ o ∈ ns, ¬ oGe o n = true
  | i, [], [], _, _ => by simp
  | i, c :: cs, o :: ns, hl, hs => by
    unfold scan at hs
    by_cases h1 : c ≥ h
    · rw [if_pos h1] at hs; cases hs
    rw [if_neg h1] at hs
    by_cases h2 : oGe o n = true
    · rw [if_pos h2] at hs; cases hs
    rw [if_neg h2] at hs
    intro o' m
    rcases List.mem_cons.mp m with rfl | m
    · exact h2
    · exact scan_none (by simpa using hl) hs o' m
theorem flt_none {h : Int} (hf : flt h cs ns = none) (g : Good cs ns) : cs.length = ns.length ∧ Fine ns := by
  unfold flt at hf
  by_cases hl : cs.length = ns.length
  · rw [if_neg (fun z => z hl)] at hf
    refine ⟨hl, fun i hi => ⟨g.n0 i hi, ?_⟩⟩
    have := oGe_of (scan_none hl hf _ hi) rfl
    rw [hl] at this
    exact this
  · rw [if_pos hl] at hf; cases hf
theorem f_check_thing_ok {j : Nat} (h : j < cs.length) : F_check_thing [.d (wD cs ns), .d (.int j)] s = .ok (.d .none) s := by
  have h' : ¬ (cs.length : Int) ≤ j := by omega
  simp [F_check_thing, mkF, sSeq, eCh, finF, sRet, thenS, sAsg, sIf, sNext, sDrop, sCPut, sCAug, setC, tB, tNt, tAn, tOR, eOp, eUn, eIf, eAnd, eOr, eNot, eCB, eCIx, eVar, eOwn, eC, eTup, eFz, fLst, fCat, eSl, pNone, pSome, eCall, noxF, aCons, aNil, cell, datas, ap1, ap2, tst, gN, gsN, gsC, gT, eIsi, eIndex, eDIn, eDGet, sDPut, sLPut, sApp, own, dat, sOwn, sDic, sFz, sRetOwn, sRetN, negD, isND, notND, isNoneD, cmpD, keyD, tupleD, subD, L2.atI, L2.ixN, f_is_index, isIdx, ix0, len0, cmpD, h']
theorem f_check_thing_bad {x : PyData} (h : ∀ j, x = .int j → 0 ≤ j → (cs.length : Int) ≤ j) : F_check_thing [.d (wD cs ns), .d x] s = .exc ⟨"Nothing", []⟩ s := by
  cases hx : isIdx x with
  | false => simp [F_check_thing, mkF, sSeq, eCh, finF, sRet, thenS, sAsg, sIf, sNext, sDrop, sCPut, sCAug, setC, tB, tNt, tAn, tOR, eOp, eUn, eIf, eAnd, eOr, eNot, eCB, eCIx, eVar, eOwn, eC, eTup, eFz, fLst, fCat, eSl, pNone, pSome, eCall, noxF, aCons, aNil, cell, datas, ap1, ap2, tst, gN, gsN, gsC, gT, eIsi, eIndex, eDIn, eDGet, sDPut, sLPut, sApp, own, dat, sOwn, sDic, sFz, sRetOwn, sRetN, negD, isND, notND, isNoneD, cmpD, keyD, tupleD, subD, L2.atI, L2.ixN, f_is_index, hx, sRaise0]
  | true =>
    cases x with
    | int j =>
      have h0 : 0 ≤ j := of_decide_eq_true hx
      have h1 := h j rfl h0
      simp [F_check_thing, mkF, sSeq, eCh, finF, sRet, thenS, sAsg, sIf, sNext, sDrop, sCPut, sCAug, setC, tB, tNt, tAn, tOR, eOp, eUn, eIf, eAnd, eOr, eNot, eCB, eCIx, eVar, eOwn, eC, eTup, eFz, fLst, fCat, eSl, pNone, pSome, eCall, noxF, aCons, aNil, cell, datas, ap1, ap2, tst, gN, gsN, gsC, gT, eIsi, eIndex, eDIn, eDGet, sDPut, sLPut, sApp, own, dat, sOwn, sDic, sFz, sRetOwn, sRetN, negD, isND, notND, isNoneD, cmpD, keyD, tupleD, subD, L2.atI, L2.ixN, f_is_index, hx, ix0, len0, cmpD, h1, sRaise0]
    | _ => cases hx
/-- a world of three colours without a fault -/
structure W3 (cs : List Int) (ns : List (Option Int)) : Prop where
  g : Good cs ns
  f : flt 3 cs ns = none
theorem W3.len (w : W3 cs ns) : cs.length = ns.length := (flt_none w.f w.g).1
theorem W3.fine (w : W3 cs ns) : Fine ns := (flt_none w.f w.g).2
theorem f_checked3 (w : W3 cs ns) : F_checked_world [.d (.int 3), .d (wD cs ns)] s = .ok (.d (wD cs ns)) s := by
  rw [f_checked rfl w.g, w.f]
theorem f_both_ok (w : W3 cs ns) {j : Nat} (h : j < cs.length) : F_check_both [.d (wD cs ns), .d (.int j)] s = .ok (.d .none) s := by
  simp [F_check_both, mkF, sSeq, eCh, finF, sRet, thenS, sAsg, sIf, sNext, sDrop, sCPut, sCAug, setC, tB, tNt, tAn, tOR, eOp, eUn, eIf, eAnd, eOr, eNot, eCB, eCIx, eVar, eOwn, eC, eTup, eFz, fLst, fCat, eSl, pNone, pSome, eCall, noxF, aCons, aNil, cell, datas, ap1, ap2, tst, gN, gsN, gsC, gT, eIsi, eIndex, eDIn, eDGet, sDPut, sLPut, sApp, own, dat, sOwn, sDic, sFz, sRetOwn, sRetN, negD, isND, notND, isNoneD, cmpD, keyD, tupleD, subD, L2.atI, L2.ixN, f_checked3 w, f_check_thing_ok h]
theorem f_both_bad (w : W3 cs ns) {x : PyData} (h : ∀ j, x = .int j → 0 ≤ j → (cs.length : Int) ≤ j) : F_check_both [.d (wD cs ns), .d x] s = .exc ⟨"Nothing", []⟩ s := by
  simp [F_check_both, mkF, sSeq, eCh, finF, sRet, thenS, sAsg, sIf, sNext, sDrop, sCPut, sCAug, setC, tB, tNt, tAn, tOR, eOp, eUn, eIf, eAnd, eOr, eNot, eCB, eCIx, eVar, eOwn, eC, eTup, eFz, fLst, fCat, eSl, pNone, pSome, eCall, noxF, aCons, aNil, cell, datas, ap1, ap2, tst, gN, gsN, gsC, gT, eIsi, eIndex, eDIn, eDGet, sDPut, sLPut, sApp, own, dat, sOwn, sDic, sFz, sRetOwn, sRetN, negD, isND, notND, isNoneD, cmpD, keyD, tupleD, subD, L2.atI, L2.ixN, f_checked3 w, f_check_thing_bad h]
/-! ### ways -/
theorem ix_at {i : Int} (t : Thing ns i) : ixD (.tuple (ns.map oD)) (.int i) = some (oD (nx ns i)) := by
  obtain ⟨k, rfl⟩ := Int.eq_ofNat_of_zero_le t.1
  have lt : k < ns.length := by have := t.2; omega
  refine L2.atI_nat ?_
  rw [List.getElem?_map, List.getElem?_eq_getElem lt]
  show some (oD ns[k]) = some (oD ((ns[((k : Nat) : Int).toNat]?).getD none))
  rw [Int.toNat_natCast, List.getElem?_eq_getElem lt]; rfl
def metK (acc : List Int) : List (L2.Key × PyData) := acc.map fun i => (.inl i, .bool true)
theorem met_get (acc : List Int) (i : Int) : (getK (metK acc) (.inl i)).isSome = decide (i ∈ acc) := by
  induction acc with
  | nil => rfl
  | cons a acc ih =>
    unfold metK getK at ih ⊢
    rw [List.map_cons, List.find?_cons]
    by_cases h : a = i
    · subst h; simp
    · have e : decide ((Sum.inl a : L2.Key) = Sum.inl i) = false := decide_eq_false (fun z => h (by injection z))
      simp only [e]
      rw [ih]
      simp [Ne.symm h]
theorem met_put {acc : List Int} {i : Int} (h : i ∉ acc) : putKD (metK acc) (.inl i) (.bool true) = metK (acc ++ [i]) := by
  unfold putKD
  rw [if_neg ?_]
  · unfold metK; rw [List.map_append]; rfl
  · rw [List.any_eq_true]
    rintro ⟨p, hp, e⟩
    obtain ⟨a, ha, rfl⟩ := List.mem_map.mp hp
    have := of_decide_eq_true e
    injection this with z
    exact h (z ▸ ha)
theorem way_loop (F : Fine ns) {i : Int} : ∀ (f n : Nat) (o : Option Int) (acc : List Int), Wst ns i o acc → ns.length < f + acc.length → ns.length ≤ 400 → f < n → ∃ o' kv, whileL C_plain_way_2 L_plain_way_1 n [some (.v (.d (wD cs ns))), some (.v (.d (oD o))), some (.lst (acc.map PyData.int)), some (.dic (metK acc))] s = .ok (.nx [some (.v (.d (wD cs ns))), some (.v (.d (oD o'))), some (.lst ((way ns f o acc).map PyData.int)), some (.dic kv)]) s
  | 0, n, o, acc, w, h1, _, h2 => by have := w.le; omega
  | f + 1, 0, o, acc, w, h1, _, h2 => by omega
  | f + 1, n + 1, none, acc, w, h1, h4, h2 => by
    refine ⟨none, metK acc, ?_⟩
    rw [way_none]
    exact while_end (by simp [C_plain_way_2, mkF, sSeq, eCh, finF, sRet, thenS, sAsg, sIf, sNext, sDrop, sCPut, sCAug, setC, tB, tNt, tAn, tOR, eOp, eUn, eIf, eAnd, eOr, eNot, eCB, eCIx, eVar, eOwn, eC, eTup, eFz, fLst, fCat, eSl, pNone, pSome, eCall, noxF, aCons, aNil, cell, datas, ap1, ap2, tst, gN, gsN, gsC, gT, eIsi, eIndex, eDIn, eDGet, sDPut, sLPut, sApp, own, dat, sOwn, sDic, sFz, sRetOwn, sRetN, negD, isND, notND, isNoneD, cmpD, keyD, tupleD, subD, L2.atI, L2.ixN, notND, isNoneD, oD])
  | f + 1, n + 1, some j, acc, w, h1, h4, h2 => by
    have hget := met_get acc j
    by_cases hj : j ∈ acc
    · refine ⟨some j, metK acc, ?_⟩
      rw [way_mem hj]
      rw [decide_eq_true hj] at hget
      obtain ⟨v, hv⟩ := Option.isSome_iff_exists.mp hget
      exact while_end (by simp [C_plain_way_2, mkF, sSeq, eCh, finF, sRet, thenS, sAsg, sIf, sNext, sDrop, sCPut, sCAug, setC, tB, tNt, tAn, tOR, eOp, eUn, eIf, eAnd, eOr, eNot, eCB, eCIx, eVar, eOwn, eC, eTup, eFz, fLst, fCat, eSl, pNone, pSome, eCall, noxF, aCons, aNil, cell, datas, ap1, ap2, tst, gN, gsN, gsC, gT, eIsi, eIndex, eDIn, eDGet, sDPut, sLPut, sApp, own, dat, sOwn, sDic, sFz, sRetOwn, sRetN, negD, isND, notND, isNoneD, cmpD, keyD, tupleD, subD, L2.atI, L2.ixN, notND, isNoneD, oD, keyD, hv])
    · rw [decide_eq_false hj] at hget
      have hv : getK (metK acc) (.inl j) = none := by
        cases e : getK (metK acc) (.inl j) with
        | none => rfl
        | some v => rw [e] at hget; cases hget
      have tj : Thing ns j := w.ot j rfl
      have l1 : acc.length < LIM := by have := w.le; unfold LIM; omega
      have l2 : (metK acc).length < LIM := by unfold metK; rw [List.length_map]; exact l1
      obtain ⟨o', kv, e⟩ := way_loop F f n (nx ns j) (acc ++ [j]) (w.push F hj) (by rw [List.length_append]; simp; omega) h4 (by omega)
      refine ⟨o', kv, ?_⟩
      rw [way_step hj, ← e]
      exact while_go (s1 := s) (by simp [C_plain_way_2, mkF, sSeq, eCh, finF, sRet, thenS, sAsg, sIf, sNext, sDrop, sCPut, sCAug, setC, tB, tNt, tAn, tOR, eOp, eUn, eIf, eAnd, eOr, eNot, eCB, eCIx, eVar, eOwn, eC, eTup, eFz, fLst, fCat, eSl, pNone, pSome, eCall, noxF, aCons, aNil, cell, datas, ap1, ap2, tst, gN, gsN, gsC, gT, eIsi, eIndex, eDIn, eDGet, sDPut, sLPut, sApp, own, dat, sOwn, sDic, sFz, sRetOwn, sRetN, negD, isND, notND, isNoneD, cmpD, keyD, tupleD, subD, L2.atI, L2.ixN, notND, isNoneD, oD, keyD, hv]) (by simp [L_plain_way_1, mkF, sSeq, eCh, finF, sRet, thenS, sAsg, sIf, sNext, sDrop, sCPut, sCAug, setC, tB, tNt, tAn, tOR, eOp, eUn, eIf, eAnd, eOr, eNot, eCB, eCIx, eVar, eOwn, eC, eTup, eFz, fLst, fCat, eSl, pNone, pSome, eCall, noxF, aCons, aNil, cell, datas, ap1, ap2, tst, gN, gsN, gsC, gT, eIsi, eIndex, eDIn, eDGet, sDPut, sLPut, sApp, own, dat, sOwn, sDic, sFz, sRetOwn, sRetN, negD, isND, notND, isNoneD, cmpD, keyD, tupleD, subD, L2.atI, L2.ixN, keyD, l1, l2, met_put hj, ix1, ix_at tj, oD])
theorem f_plain_way (F : Fine ns) {i : Int} (t : Thing ns i) (hl : ns.length ≤ 400) : F_plain_way [.d (wD cs ns), .d (.int i)] s = .ok (.d (.list ((wayOf ns i).map PyData.int))) s := by
  obtain ⟨o', kv, e⟩ := way_loop (cs := cs) (s := s) F (ns.length + 1) FUEL (some i) [] (.start t) (by simp) hl (by unfold FUEL; omega)
  exact congrArg finF (seq_step (ρ1 := [some (.v (.d (wD cs ns))), some (.v (.d (.int i))), some (.lst []), some (.dic [])]) (s1 := s) rfl (seq_step e rfl))
/-! ### rings -/
theorem shaped_ints (is : List Int) : SeqAt.shaped (.list (is.map PyData.int)) = true := by
  have h : ∀ l : List Int, PyData.canLayAll0 (l.map PyData.int) = true ∧ PyData.depthAll (l.map PyData.int) = 0 := by
    intro l
    induction l with
    | nil => exact ⟨rfl, rfl⟩
    | cons a l ih =>
      refine ⟨ih.1, ?_⟩
      show max 0 (PyData.depthAll (l.map PyData.int)) = 0
      rw [ih.2]; rfl
  unfold SeqAt.shaped
  have h1 : (PyData.list (is.map PyData.int)).canLay0 = true := (h is).1
  have h2 : (PyData.list (is.map PyData.int)).depth = PyData.depthAll (is.map PyData.int) + 1 := rfl
  rw [h1, h2, (h is).2]; rfl
theorem eqv_ints_nil (is : List Int) : PyData.eqv (.list (is.map PyData.int)) (.list []) = is.isEmpty := by cases is <;> rfl
theorem ne_nil (is : List Int) : neD (.list (is.map PyData.int)) (.list []) = some (.bool (!is.isEmpty)) := by
  show ((if SeqAt.shaped (.list (is.map PyData.int)) && SeqAt.shaped (.list []) then some (PyData.eqv (.list (is.map PyData.int)) (.list [])) else none).map fun c => PyData.bool (!c)) = _
  rw [shaped_ints, if_pos (by rfl), eqv_ints_nil]; rfl
theorem at_list {is : List Int} {k : Nat} {i : Int} (h : is[k]? = some i) : ixD (.list (is.map PyData.int)) (.int k) = some (.int i) := L2.atI_nat (by rw [List.getElem?_map, h]; rfl)
theorem at_last {is : List Int} (h : is ≠ []) : ixD (.list (is.map PyData.int)) (.int (-1)) = some (.int (is.getLast?.getD 0)) := by
  obtain ⟨l, a, rfl⟩ : ∃ l a, is = l ++ [a] := ⟨is.dropLast, is.getLast h, (List.dropLast_concat_getLast h).symm⟩
  rw [List.map_append]
  show L2.atI (l.map PyData.int ++ [PyData.int a]) (-1) = _
  rw [L2.atI_last, List.getLast?_append]
  rfl
theorem flats (is : List Int) : (is.map PyData.int).all flatD = true := by simp [List.all_eq_true, flatD]
theorem eqv_int (a b : Int) : PyData.eqv (.int a) (.int b) = (a == b) := rfl
theorem index_ints {is : List Int} {i : Int} (h : i ∈ is) : indexD (.list (is.map PyData.int)) (.int i) = some (.int (is.idxOf i : Nat)) := by
  show (if (flatD (.int i) && (is.map PyData.int).all flatD) = true then (if ((is.map PyData.int).any fun z => PyData.eqv z (.int i)) = true then some (PyData.int ((is.map PyData.int).findIdx (fun z => PyData.eqv z (.int i)) : Nat)) else none) else none) = _
  rw [flats, if_pos (show (flatD (.int i) && true) = true from rfl), if_pos ?_]
  · congr 2
    have : ∀ l : List Int, (l.map PyData.int).findIdx (fun z => PyData.eqv z (.int i)) = l.idxOf i := by
      intro l
      induction l with
      | nil => rfl
      | cons a l ih => rw [List.map_cons, List.findIdx_cons, List.idxOf_cons, ih, eqv_int]
    rw [this]
  · rw [List.any_map, List.any_eq_true]
    exact ⟨i, h, by simp [eqv_int]⟩
theorem cut_from (is : List Int) (k : Nat) (h : k ≤ is.length) : slD (.list (is.map PyData.int)) (some (k : Nat)) none = some (.list ((is.drop k).map PyData.int)) := by
  show some (PyData.list (cutD _ _ _)) = _
  unfold cutD
  rw [HT.sIx_nat, HT.sIx_none, List.length_map, Nat.min_eq_left h, ← List.map_drop, List.take_of_length_le (by rw [List.length_map, List.length_drop]; exact Nat.le_refl _)]
theorem cut_one (is : List Int) : slD (.list (is.map PyData.int)) none (some 1) = some (.list ((is.map PyData.int).take 1)) := by
  show some (PyData.list (cutD _ _ _)) = _
  unfold cutD
  rw [show HT.sIx (is.map PyData.int).length (is.map PyData.int).length (some 1) = min 1 (is.map PyData.int).length from HT.sIx_nat _ _ 1, HT.sIx_none, List.drop_zero, Nat.sub_zero]
  congr 2
  cases is <;> simp
theorem f_plain_ring (F : Fine ns) {i : Int} (t : Thing ns i) (hl : ns.length ≤ 400) : F_plain_ring [.d (wD cs ns), .d (.int i)] s = .ok (.d (.list ((ringOf ns i).map PyData.int))) s := by
  obtain ⟨o, en⟩ := wayOf_end F t
  have el := en.last
  have hr := ring_eq en
  have tl : Thing ns ((wayOf ns i).getLast?.getD 0) := by
    have hne := en.ne
    cases e : (wayOf ns i).getLast? with
    | none => rw [List.getLast?_eq_none_iff] at e; exact absurd e hne
    | some a => exact en.th a (List.mem_of_getLast? e)
  have e1 : F_plain_way [.d (wD cs ns), .d (.int i)] s = _ := f_plain_way F t hl
  rw [hr]
  cases o with
  | none => simp [F_plain_ring, mkF, sSeq, eCh, finF, sRet, thenS, sAsg, sIf, sNext, sDrop, sCPut, sCAug, setC, tB, tNt, tAn, tOR, eOp, eUn, eIf, eAnd, eOr, eNot, eCB, eCIx, eVar, eOwn, eC, eTup, eFz, fLst, fCat, eSl, pNone, pSome, eCall, noxF, aCons, aNil, cell, datas, ap1, ap2, tst, gN, gsN, gsC, gT, eIsi, eIndex, eDIn, eDGet, sDPut, sLPut, sApp, own, dat, sOwn, sDic, sFz, sRetOwn, sRetN, negD, isND, notND, isNoneD, cmpD, keyD, tupleD, subD, L2.atI, L2.ixN, e1, at_last en.ne, ix1, ix_at tl, el, oD, isND, isNoneD, ringW]
  | some j =>
    have hj := en.en j rfl
    have hi := index_ints hj
    have hc := cut_from (wayOf ns i) _ (Nat.le_of_lt (List.idxOf_lt_length_of_mem hj))
    simp [F_plain_ring, mkF, sSeq, eCh, finF, sRet, thenS, sAsg, sIf, sNext, sDrop, sCPut, sCAug, setC, tB, tNt, tAn, tOR, eOp, eUn, eIf, eAnd, eOr, eNot, eCB, eCIx, eVar, eOwn, eC, eTup, eFz, fLst, fCat, eSl, pNone, pSome, eCall, noxF, aCons, aNil, cell, datas, ap1, ap2, tst, gN, gsN, gsC, gT, eIsi, eIndex, eDIn, eDGet, sDPut, sLPut, sApp, own, dat, sOwn, sDic, sFz, sRetOwn, sRetN, negD, isND, notND, isNoneD, cmpD, keyD, tupleD, subD, L2.atI, L2.ixN, e1, at_last en.ne, ix1, ix_at tl, el, oD, isND, isNoneD, hi, hc, ringW]
theorem f_way_of (w : W3 cs ns) {j : Nat} (h : j < cs.length) : F_way_of [.d (wD cs ns), .d (.int j)] s = .ok (.d (.tuple ((wayOf ns j).map PyData.int))) s := by
  have t : Thing ns (j : Nat) := ⟨by omega, by have := w.len; omega⟩
  simp [F_way_of, mkF, sSeq, eCh, finF, sRet, thenS, sAsg, sIf, sNext, sDrop, sCPut, sCAug, setC, tB, tNt, tAn, tOR, eOp, eUn, eIf, eAnd, eOr, eNot, eCB, eCIx, eVar, eOwn, eC, eTup, eFz, fLst, fCat, eSl, pNone, pSome, eCall, noxF, aCons, aNil, cell, datas, ap1, ap2, tst, gN, gsN, gsC, gT, eIsi, eIndex, eDIn, eDGet, sDPut, sLPut, sApp, own, dat, sOwn, sDic, sFz, sRetOwn, sRetN, negD, isND, notND, isNoneD, cmpD, keyD, tupleD, subD, L2.atI, L2.ixN, f_both_ok w h, f_plain_way w.fine t w.g.nl, tupleD]
theorem f_ring_of (w : W3 cs ns) {j : Nat} (h : j < cs.length) : F_ring_of [.d (wD cs ns), .d (.int j)] s = .ok (.d (.tuple ((ringOf ns j).map PyData.int))) s := by
  have t : Thing ns (j : Nat) := ⟨by omega, by have := w.len; omega⟩
  simp [F_ring_of, mkF, sSeq, eCh, finF, sRet, thenS, sAsg, sIf, sNext, sDrop, sCPut, sCAug, setC, tB, tNt, tAn, tOR, eOp, eUn, eIf, eAnd, eOr, eNot, eCB, eCIx, eVar, eOwn, eC, eTup, eFz, fLst, fCat, eSl, pNone, pSome, eCall, noxF, aCons, aNil, cell, datas, ap1, ap2, tst, gN, gsN, gsC, gT, eIsi, eIndex, eDIn, eDGet, sDPut, sLPut, sApp, own, dat, sOwn, sDic, sFz, sRetOwn, sRetN, negD, isND, notND, isNoneD, cmpD, keyD, tupleD, subD, L2.atI, L2.ixN, f_both_ok w h, f_plain_ring w.fine t w.g.nl, tupleD]
theorem f_way_bad (w : W3 cs ns) {x : PyData} (h : ∀ j, x = .int j → 0 ≤ j → (cs.length : Int) ≤ j) : F_way_of [.d (wD cs ns), .d x] s = .exc ⟨"Nothing", []⟩ s := by
  simp [F_way_of, mkF, sSeq, eCh, finF, sRet, thenS, sAsg, sIf, sNext, sDrop, sCPut, sCAug, setC, tB, tNt, tAn, tOR, eOp, eUn, eIf, eAnd, eOr, eNot, eCB, eCIx, eVar, eOwn, eC, eTup, eFz, fLst, fCat, eSl, pNone, pSome, eCall, noxF, aCons, aNil, cell, datas, ap1, ap2, tst, gN, gsN, gsC, gT, eIsi, eIndex, eDIn, eDGet, sDPut, sLPut, sApp, own, dat, sOwn, sDic, sFz, sRetOwn, sRetN, negD, isND, notND, isNoneD, cmpD, keyD, tupleD, subD, L2.atI, L2.ixN, f_both_bad w h]
theorem f_pointing_bad (w : W3 cs ns) {x : PyData} (h : ∀ j, x = .int j → 0 ≤ j → (cs.length : Int) ≤ j) : F_pointing_at [.d (wD cs ns), .d x] s = .exc ⟨"Nothing", []⟩ s := by
  simp [F_pointing_at, mkF, sSeq, eCh, finF, sRet, thenS, sAsg, sIf, sNext, sDrop, sCPut, sCAug, setC, tB, tNt, tAn, tOR, eOp, eUn, eIf, eAnd, eOr, eNot, eCB, eCIx, eVar, eOwn, eC, eTup, eFz, fLst, fCat, eSl, pNone, pSome, eCall, noxF, aCons, aNil, cell, datas, ap1, ap2, tst, gN, gsN, gsC, gT, eIsi, eIndex, eDIn, eDGet, sDPut, sLPut, sApp, own, dat, sOwn, sDic, sFz, sRetOwn, sRetN, negD, isND, notND, isNoneD, cmpD, keyD, tupleD, subD, L2.atI, L2.ixN, f_both_bad w h]
/-! ### steps -/
theorem idx_eq {m L R : Nat} (h : L ≤ m) (h0 : 0 < R) : (((m : Nat) : Int) - (L : Nat) + (R : Nat)).fmod (R : Nat) = (((m - L) % R : Nat) : Int) := by
  have e : ((m : Nat) : Int) - (L : Nat) + (R : Nat) = ((m - L + R : Nat) : Int) := by omega
  rw [e, Int.fmod_eq_emod_of_nonneg _ (by omega), ← Int.natCast_emod, Nat.add_mod_right]
theorem f_stepped_bad (w : W3 cs ns) {j : Nat} (h : j < cs.length) {x : PyData} (hx : isIdx x = false) : F_stepped [.d (wD cs ns), .d (.int j), .d x] s = .exc ⟨"Nothing", []⟩ s := by
  simp [F_stepped, mkF, sSeq, eCh, finF, sRet, thenS, sAsg, sIf, sNext, sDrop, sCPut, sCAug, setC, tB, tNt, tAn, tOR, eOp, eUn, eIf, eAnd, eOr, eNot, eCB, eCIx, eVar, eOwn, eC, eTup, eFz, fLst, fCat, eSl, pNone, pSome, eCall, noxF, aCons, aNil, cell, datas, ap1, ap2, tst, gN, gsN, gsC, gT, eIsi, eIndex, eDIn, eDGet, sDPut, sLPut, sApp, own, dat, sOwn, sDic, sFz, sRetOwn, sRetN, negD, isND, notND, isNoneD, cmpD, keyD, tupleD, subD, L2.atI, L2.ixN, f_both_ok w h, f_is_index, hx, sRaise0]
theorem f_stepped (w : W3 cs ns) {j : Nat} (h : j < cs.length) (m : Nat) : F_stepped [.d (wD cs ns), .d (.int j), .d (.int m)] s = .ok (.d (oD (stp ns m (some (j : Int))))) s := by
  have t : Thing ns (j : Nat) := ⟨by omega, by have := w.len; omega⟩
  obtain ⟨o, en⟩ := wayOf_end w.fine t
  have hq := stepped_eq en m
  have hi : isIdx (.int (m : Nat)) = true := by show decide (0 ≤ ((m : Nat) : Int)) = true; exact decide_eq_true (by omega)
  by_cases c : m < (wayOf ns j).length
  · rw [if_pos c] at hq
    rw [hq, List.getElem?_eq_getElem c]
    have c' : ((m : Nat) : Int) < ((wayOf ns j).length : Nat) := by omega
    have ha := at_list (List.getElem?_eq_getElem c)
    simp [F_stepped, mkF, sSeq, eCh, finF, sRet, thenS, sAsg, sIf, sNext, sDrop, sCPut, sCAug, setC, tB, tNt, tAn, tOR, eOp, eUn, eIf, eAnd, eOr, eNot, eCB, eCIx, eVar, eOwn, eC, eTup, eFz, fLst, fCat, eSl, pNone, pSome, eCall, noxF, aCons, aNil, cell, datas, ap1, ap2, tst, gN, gsN, gsC, gT, eIsi, eIndex, eDIn, eDGet, sDPut, sLPut, sApp, own, dat, sOwn, sDic, sFz, sRetOwn, sRetN, negD, isND, notND, isNoneD, cmpD, keyD, tupleD, subD, L2.atI, L2.ixN, f_both_ok w h, f_is_index, hi, f_plain_way w.fine t w.g.nl, lenL, cmpD, c, ha, oD]
  · rw [if_neg c] at hq
    have c' : ¬ ((m : Nat) : Int) < ((wayOf ns j).length : Nat) := by omega
    by_cases r : ringOf ns j = []
    · rw [if_pos r] at hq
      rw [hq]
      have hn := ne_nil (ringOf ns j)
      rw [r] at hn
      simp [F_stepped, mkF, sSeq, eCh, finF, sRet, thenS, sAsg, sIf, sNext, sDrop, sCPut, sCAug, setC, tB, tNt, tAn, tOR, eOp, eUn, eIf, eAnd, eOr, eNot, eCB, eCIx, eVar, eOwn, eC, eTup, eFz, fLst, fCat, eSl, pNone, pSome, eCall, noxF, aCons, aNil, cell, datas, ap1, ap2, tst, gN, gsN, gsC, gT, eIsi, eIndex, eDIn, eDGet, sDPut, sLPut, sApp, own, dat, sOwn, sDic, sFz, sRetOwn, sRetN, negD, isND, notND, isNoneD, cmpD, keyD, tupleD, subD, L2.atI, L2.ixN, f_both_ok w h, f_is_index, hi, f_plain_way w.fine t w.g.nl, f_plain_ring w.fine t w.g.nl, lenL, cmpD, c, r, oD]
      simp at hn
      simp [hn]
    · rw [if_neg r] at hq
      have l0 : 0 < (ringOf ns j).length := List.length_pos_iff.mpr r
      have lm : (m - (wayOf ns j).length) % (ringOf ns j).length < (ringOf ns j).length := Nat.mod_lt _ l0
      have hm : modD (.int (((m : Nat) : Int) - ((wayOf ns j).length : Nat) + ((ringOf ns j).length : Nat))) (.int ((ringOf ns j).length : Nat)) = some (.int (((m - (wayOf ns j).length) % (ringOf ns j).length : Nat))) := by
        show (if _ then some (PyData.int _) else none) = _
        rw [if_pos (by omega), idx_eq (by omega) l0]
      generalize (m - (wayOf ns j).length) % (ringOf ns j).length = k at hq lm hm
      rw [hq, List.getElem?_eq_getElem lm]
      have ha := at_list (List.getElem?_eq_getElem lm)
      have hn := ne_nil (ringOf ns j)
      have he : (ringOf ns j).isEmpty = false := by cases z : ringOf ns j with
        | nil => exact absurd z r
        | cons a l => rfl
      rw [he] at hn
      simp [F_stepped, mkF, sSeq, eCh, finF, sRet, thenS, sAsg, sIf, sNext, sDrop, sCPut, sCAug, setC, tB, tNt, tAn, tOR, eOp, eUn, eIf, eAnd, eOr, eNot, eCB, eCIx, eVar, eOwn, eC, eTup, eFz, fLst, fCat, eSl, pNone, pSome, eCall, noxF, aCons, aNil, cell, datas, ap1, ap2, tst, gN, gsN, gsC, gT, eIsi, eIndex, eDIn, eDGet, sDPut, sLPut, sApp, own, dat, sOwn, sDic, sFz, sRetOwn, sRetN, negD, isND, notND, isNoneD, cmpD, keyD, tupleD, subD, L2.atI, L2.ixN, f_both_ok w h, f_is_index, hi, f_plain_way w.fine t w.g.nl, f_plain_ring w.fine t w.g.nl, lenL, cmpD, c, hn, subD, addA, addD, hm, ha, oD]
/-! ### who points, on rings -/
def ptr (ns : List (Option Int)) (n : Nat) (j : Int) : List Int := ((List.range n).filter fun k => nx ns (k : Nat) == some j).map fun k => ((k : Nat) : Int)
def onR (ns : List (Option Int)) (n : Nat) : List Int := ((List.range n).filter fun k => decide (((k : Nat) : Int) ∈ ringOf ns (k : Nat))).map fun k => ((k : Nat) : Int)
theorem enum_range (ns : List (Option Int)) : enumD (ns.map oD) = (List.range ns.length).map fun k => AV.d (.tuple [.int (k : Nat), oD (nx ns (k : Nat))]) := by
  refine List.ext_getElem? fun k => ?_
  by_cases lt : k < ns.length
  · rw [enumD_get (d := oD (nx ns (k : Nat))), List.getElem?_map, List.getElem?_range lt]
    · rfl
    · rw [List.getElem?_map, List.getElem?_eq_getElem lt]
      show some (oD ns[k]) = some (oD ((ns[((k : Nat) : Int).toNat]?).getD none))
      rw [Int.toNat_natCast, List.getElem?_eq_getElem lt]; rfl
  · rw [List.getElem?_eq_none (by rw [enumD_len, List.length_map]; omega), List.getElem?_eq_none (by rw [List.length_map, List.length_range]; omega)]
theorem eq_opt (o : Option Int) (j : Int) : eqD (oD o) (.int j) = some (.bool (o == some j)) := by
  cases o with
  | none => rfl
  | some i =>
    show some (PyData.bool (decide (i = j))) = some (PyData.bool (some i == some j))
    by_cases e : i = j <;> simp [e]
theorem f_pointing (w : W3 cs ns) {j : Nat} (h : j < cs.length) : F_pointing_at [.d (wD cs ns), .d (.int j)] s = .ok (.d (.tuple ((ptr ns ns.length j).map PyData.int))) s := by
  have e1 := fLc_d (it := itEnumT (eOp ixD (eVar 0) (eC (.d (.int 1))))) (g := gT 2 (gsC (gN 2) (gsC (gN 3) gsN))) (c := tB (eOp eqD (eVar 3) (eVar 1))) (e := eVar 2) (vs := [2, 3]) (ρ := [some (.v (.d (wD cs ns))), some (.v (.d (.int j))), none, none]) (s := s)
    (fun k : Nat => AV.d (.tuple [.int (k : Nat), oD (nx ns (k : Nat))])) (fun k => nx ns (k : Nat) == some (j : Int)) (fun k => .int (k : Nat)) (List.range ns.length) (congrArg (fun x => Out.ok x s) (enum_range ns)) (by rw [List.length_range]; exact lim_of w.g.nl)
    (fun k hk => ⟨[some (.v (.d (wD cs ns))), some (.v (.d (.int j))), some (.v (.d (.int (k : Nat)))), some (.v (.d (oD (nx ns (k : Nat)))))], rfl, by simp [finF, sRet, thenS, sAsg, sIf, sNext, sDrop, sCPut, sCAug, setC, tB, tNt, tAn, tOR, eOp, eUn, eIf, eAnd, eOr, eNot, eCB, eCIx, eVar, eOwn, eC, eTup, eFz, fLst, fCat, eSl, pNone, pSome, eCall, noxF, aCons, aNil, cell, datas, ap1, ap2, tst, gN, gsN, gsC, gT, eIsi, eIndex, eDIn, eDGet, sDPut, sLPut, sApp, own, dat, sOwn, sDic, sFz, sRetOwn, sRetN, negD, isND, notND, isNoneD, cmpD, keyD, tupleD, subD, L2.atI, L2.ixN, eq_opt], fun _ => rfl⟩)
  have e2 : (((List.range ns.length).filter fun k => nx ns (k : Nat) == some (j : Int)).map fun k => PyData.int (k : Nat)) = (ptr ns ns.length j).map PyData.int := by unfold ptr; rw [List.map_map]; rfl
  rw [e2] at e1
  have e0 : (sDrop (eCall F_check_both (aCons (eVar 0) (aCons (eVar 1) aNil)))) [some (.v (.d (wD cs ns))), some (.v (.d (.int j))), none, none] s = .ok (.nx [some (.v (.d (wD cs ns))), some (.v (.d (.int j))), none, none]) s := by simp [finF, sRet, thenS, sAsg, sIf, sNext, sDrop, sCPut, sCAug, setC, tB, tNt, tAn, tOR, eOp, eUn, eIf, eAnd, eOr, eNot, eCB, eCIx, eVar, eOwn, eC, eTup, eFz, fLst, fCat, eSl, pNone, pSome, eCall, noxF, aCons, aNil, cell, datas, ap1, ap2, tst, gN, gsN, gsC, gT, eIsi, eIndex, eDIn, eDGet, sDPut, sLPut, sApp, own, dat, sOwn, sDic, sFz, sRetOwn, sRetN, negD, isND, notND, isNoneD, cmpD, keyD, tupleD, subD, L2.atI, L2.ixN, f_both_ok w h]
  refine (congrArg finF (seq_step e0 rfl)).trans ?_
  simp [finF, sRet, thenS, sAsg, sIf, sNext, sDrop, sCPut, sCAug, setC, tB, tNt, tAn, tOR, eOp, eUn, eIf, eAnd, eOr, eNot, eCB, eCIx, eVar, eOwn, eC, eTup, eFz, fLst, fCat, eSl, pNone, pSome, eCall, noxF, aCons, aNil, cell, datas, ap1, ap2, tst, gN, gsN, gsC, gT, eIsi, eIndex, eDIn, eDGet, sDPut, sLPut, sApp, own, dat, sOwn, sDic, sFz, sRetOwn, sRetN, negD, isND, notND, isNoneD, cmpD, keyD, tupleD, subD, L2.atI, L2.ixN, e1]
theorem in_first (F : Fine ns) {i : Int} (t : Thing ns i) : isInD (.int i) (.list (((ringOf ns i).map PyData.int).take 1)) = some (.bool (decide (i ∈ ringOf ns i))) := by
  obtain ⟨o, en⟩ := wayOf_end F t
  have h := ring_mem en
  rw [← List.map_take]
  show ((if (flatD (.int i) && (((ringOf ns i).take 1).map PyData.int).all flatD) = true then some ((((ringOf ns i).take 1).map PyData.int).any fun y => PyData.eqv y (.int i)) else none).map PyData.bool) = _
  rw [flats, if_pos (show (flatD (.int i) && true) = true from rfl)]
  generalize ringOf ns i = R at h
  cases R with
  | nil => rfl
  | cons a r =>
    show some (PyData.bool (PyData.eqv (.int a) (.int i) || false)) = _
    rw [Bool.or_false, eqv_int]
    congr 2
    rw [Bool.eq_iff_iff, beq_iff_eq, decide_eq_true_eq, h]
    simp
theorem f_on_rings (w : W3 cs ns) : F_on_rings [.d (wD cs ns)] s = .ok (.d (.tuple ((onR ns cs.length).map PyData.int))) s := by
  have e1 := fLc_d (it := itRng1 (eCB lenD (aCons (eOp ixD (eVar 0) (eC (.d (.int 0)))) aNil))) (g := gN 1) (c := tB (eOp isInD (eVar 1) (eSl (eCall (noxF F_plain_ring) (aCons (eVar 0) (aCons (eVar 1) aNil))) pNone (pSome (eC (.d (.int 1))))))) (e := eVar 1) (vs := [1]) (ρ := [some (.v (.d (wD cs ns))), none]) (s := s)
    (fun k : Nat => AV.d (.int (k : Nat))) (fun k => decide (((k : Nat) : Int) ∈ ringOf ns (k : Nat))) (fun k => .int (k : Nat)) (List.range cs.length) (itRng1_nat (by simp [finF, sRet, thenS, sAsg, sIf, sNext, sDrop, sCPut, sCAug, setC, tB, tNt, tAn, tOR, eOp, eUn, eIf, eAnd, eOr, eNot, eCB, eCIx, eVar, eOwn, eC, eTup, eFz, fLst, fCat, eSl, pNone, pSome, eCall, noxF, aCons, aNil, cell, datas, ap1, ap2, tst, gN, gsN, gsC, gT, eIsi, eIndex, eDIn, eDGet, sDPut, sLPut, sApp, own, dat, sOwn, sDic, sFz, sRetOwn, sRetN, negD, isND, notND, isNoneD, cmpD, keyD, tupleD, subD, L2.atI, L2.ixN, ix0, len0]) (Nat.le_trans w.g.cl (by decide))) (by rw [List.length_range]; exact lim_of w.g.cl)
    (fun k hk => ⟨[some (.v (.d (wD cs ns))), some (.v (.d (.int (k : Nat))))], rfl, by
      have lk := List.mem_range.mp hk
      have t : Thing ns (k : Nat) := ⟨by omega, by have := w.len; omega⟩
      simp [finF, sRet, thenS, sAsg, sIf, sNext, sDrop, sCPut, sCAug, setC, tB, tNt, tAn, tOR, eOp, eUn, eIf, eAnd, eOr, eNot, eCB, eCIx, eVar, eOwn, eC, eTup, eFz, fLst, fCat, eSl, pNone, pSome, eCall, noxF, aCons, aNil, cell, datas, ap1, ap2, tst, gN, gsN, gsC, gT, eIsi, eIndex, eDIn, eDGet, sDPut, sLPut, sApp, own, dat, sOwn, sDic, sFz, sRetOwn, sRetN, negD, isND, notND, isNoneD, cmpD, keyD, tupleD, subD, L2.atI, L2.ixN, f_plain_ring w.fine t w.g.nl, cut_one, in_first w.fine t], fun _ => rfl⟩)
  have e2 : (((List.range cs.length).filter fun k => decide (((k : Nat) : Int) ∈ ringOf ns (k : Nat))).map fun k => PyData.int (k : Nat)) = (onR ns cs.length).map PyData.int := by unfold onR; rw [List.map_map]; rfl
  rw [e2] at e1
  have e0 : (sDrop (eCall F_checked_world (aCons (eC (.d (.int 3))) (aCons (eVar 0) aNil)))) [some (.v (.d (wD cs ns))), none] s = .ok (.nx [some (.v (.d (wD cs ns))), none]) s := by simp [finF, sRet, thenS, sAsg, sIf, sNext, sDrop, sCPut, sCAug, setC, tB, tNt, tAn, tOR, eOp, eUn, eIf, eAnd, eOr, eNot, eCB, eCIx, eVar, eOwn, eC, eTup, eFz, fLst, fCat, eSl, pNone, pSome, eCall, noxF, aCons, aNil, cell, datas, ap1, ap2, tst, gN, gsN, gsC, gT, eIsi, eIndex, eDIn, eDGet, sDPut, sLPut, sApp, own, dat, sOwn, sDic, sFz, sRetOwn, sRetN, negD, isND, notND, isNoneD, cmpD, keyD, tupleD, subD, L2.atI, L2.ixN, f_checked3 w]
  refine (congrArg finF (seq_step e0 rfl)).trans ?_
  simp [finF, sRet, thenS, sAsg, sIf, sNext, sDrop, sCPut, sCAug, setC, tB, tNt, tAn, tOR, eOp, eUn, eIf, eAnd, eOr, eNot, eCB, eCIx, eVar, eOwn, eC, eTup, eFz, fLst, fCat, eSl, pNone, pSome, eCall, noxF, aCons, aNil, cell, datas, ap1, ap2, tst, gN, gsN, gsC, gT, eIsi, eIndex, eDIn, eDGet, sDPut, sLPut, sApp, own, dat, sOwn, sDic, sFz, sRetOwn, sRetN, negD, isND, notND, isNoneD, cmpD, keyD, tupleD, subD, L2.atI, L2.ixN, e1]
theorem f_on_rings_bad {wh : PyData} {f : Str} (g : Good cs ns) (hf : flt 3 cs ns = some (wh, f)) : F_on_rings [.d (wD cs ns)] s = .exc ⟨"BadWorld", [("where", wh), ("fault", .str f)]⟩ s := by
  have e : F_checked_world [.d (.int 3), .d (wD cs ns)] s = .exc ⟨"BadWorld", [("where", wh), ("fault", .str f)]⟩ s := by rw [f_checked rfl g, hf]
  have e0 : (sDrop (eCall F_checked_world (aCons (eC (.d (.int 3))) (aCons (eVar 0) aNil)))) [some (.v (.d (wD cs ns))), none] s = .exc ⟨"BadWorld", [("where", wh), ("fault", .str f)]⟩ s := by simp [finF, sRet, thenS, sAsg, sIf, sNext, sDrop, sCPut, sCAug, setC, tB, tNt, tAn, tOR, eOp, eUn, eIf, eAnd, eOr, eNot, eCB, eCIx, eVar, eOwn, eC, eTup, eFz, fLst, fCat, eSl, pNone, pSome, eCall, noxF, aCons, aNil, cell, datas, ap1, ap2, tst, gN, gsN, gsC, gT, eIsi, eIndex, eDIn, eDGet, sDPut, sLPut, sApp, own, dat, sOwn, sDic, sFz, sRetOwn, sRetN, negD, isND, notND, isNoneD, cmpD, keyD, tupleD, subD, L2.atI, L2.ixN, e]
  exact congrArg finF (seq_exc e0)
end
end K01
set_option maxRecDepth 100000
set_option maxHeartbeats 4000000
/-! Z01r: what the law's own defs compute. -/
namespace K01
open PySem Hk Pz
theorem take_law (b : Bag) (m : Int) (m0 : 0 < m) (m1 : m < 1073741824) (r : Store) : ∃ (d : Int) (b' : Bag), F_law_take [.ref 0, .d (.int m)] (b.cell :: r) = .ok (.d (.int d)) (b'.cell :: r) ∧ 0 ≤ d ∧ d < m := take_ok b m m0 m1 r
theorem some_law (b : Bag) (ds : List PyData) (h0 : ds ≠ []) (h1 : ds.length < 1073741824) (r : Store) : ∃ d ∈ ds, ∃ b' : Bag, F_law_some [.ref 0, .d (.list ds)] (b.cell :: r) = .ok (.d d) (b'.cell :: r) := by
  have l0 : 0 < ds.length := List.length_pos_iff.mpr h0
  obtain ⟨i, b', e, i0, i1⟩ := take_law b ds.length (by omega) (by omega) r
  obtain ⟨k, rfl⟩ := Int.eq_ofNat_of_zero_le i0
  have lt : k < ds.length := by omega
  refine ⟨ds[k], List.getElem_mem lt, b', ?_⟩
  have hl : lenD [.list ds] = some (.int ds.length) := rfl
  have hi : ixD (.list ds) (.int (k : Nat)) = some ds[k] := L2.atI_nat (List.getElem?_eq_getElem lt)
  simp [F_law_some, mkF, sSeq, eCh, finF, sRet, thenS, sAsg, sIf, sNext, sDrop, sCPut, sCAug, setC, tB, tNt, tAn, tOR, eOp, eUn, eIf, eAnd, eOr, eNot, eCB, eCIx, eVar, eOwn, eC, eTup, eFz, fLst, fCat, eSl, pNone, pSome, eCall, noxF, aCons, aNil, cell, datas, ap1, ap2, tst, gN, gsN, gsC, gT, eIsi, eIndex, eDIn, eDGet, sDPut, sLPut, sApp, own, dat, sOwn, sDic, sFz, sRetOwn, sRetN, negD, isND, notND, isNoneD, cmpD, keyD, tupleD, subD, L2.atI, L2.ixN, hl, e, hi]
/-- a drawn world of so many colours -/
structure Drawn (h : Int) (cs : List Int) (ns : List (Option Int)) : Prop where
  col : ∀ c ∈ cs, 0 ≤ c ∧ c < h
  len : cs.length = ns.length
  few : cs.length ≤ 7
  fine : Fine ns
theorem Drawn.good {h : Int} {cs : List Int} {ns : List (Option Int)} (d : Drawn h cs ns) : Good cs ns := ⟨fun c m => (d.col c m).1, fun i m => (d.fine i m).1, by have := d.few; omega, by have := d.few; have := d.len; omega⟩
theorem scan_fine {h n : Int} : ∀ {i : Nat} {cs : List Int} {ns : List (Option Int)}, (∀ c ∈ cs, c < h) → (∀ j, some j ∈ ns → j < n) → scan h n i cs ns = none
  | i, [], ns, _, _ => by cases ns <;> rfl
  | i, c :: cs, [], _, _ => rfl
  | i, c :: cs, o :: ns, h1, h2 => by
    unfold scan
    rw [if_neg (by have := h1 c List.mem_cons_self; omega), if_neg ?_]
    · exact scan_fine (fun c m => h1 c (List.mem_cons_of_mem _ m)) (fun j m => h2 j (List.mem_cons_of_mem _ m))
    · cases o with
      | none => simp [oGe]
      | some j => have := h2 j List.mem_cons_self; simp [oGe]; omega
theorem Drawn.flt {h k : Int} {cs : List Int} {ns : List (Option Int)} (d : Drawn h cs ns) (hk : h ≤ k) : flt k cs ns = none := by
  unfold K01.flt
  rw [if_neg (fun z => z d.len)]
  exact scan_fine (fun c m => by have := (d.col c m).2; omega) (fun j m => by have := (d.fine j m).2; have := d.len; omega)
theorem Drawn.w3 {h : Int} {cs : List Int} {ns : List (Option Int)} (d : Drawn h cs ns) (hk : h ≤ 3) : W3 cs ns := ⟨d.good, d.flt hk⟩
theorem ints_of {ds : List PyData} {P : Int → Prop} (h : ∀ d ∈ ds, ∃ i, d = .int i ∧ P i) : ∃ is : List Int, ds = is.map PyData.int ∧ ∀ i ∈ is, P i := by
  induction ds with
  | nil => exact ⟨[], rfl, by simp⟩
  | cons d ds ih =>
    obtain ⟨i, rfl, hi⟩ := h d List.mem_cons_self
    obtain ⟨is, rfl, hs⟩ := ih (fun d m => h d (List.mem_cons_of_mem _ m))
    exact ⟨i :: is, rfl, fun j m => (List.mem_cons.mp m).elim (fun e => e ▸ hi) (hs j)⟩
theorem opts_of {ds : List PyData} {P : Int → Prop} (h : ∀ d ∈ ds, ∃ o, d = oD o ∧ ∀ i, o = some i → P i) : ∃ os : List (Option Int), ds = os.map oD ∧ ∀ i, some i ∈ os → P i := by
  induction ds with
  | nil => exact ⟨[], rfl, by simp⟩
  | cons d ds ih =>
    obtain ⟨o, rfl, ho⟩ := h d List.mem_cons_self
    obtain ⟨os, rfl, hs⟩ := ih (fun d m => h d (List.mem_cons_of_mem _ m))
    exact ⟨o :: os, rfl, fun j m => (List.mem_cons.mp m).elim (fun e => ho j e.symm) (hs j)⟩
theorem pick {n k d2 : Int} (k0 : 0 ≤ k) (kn : k < n) (d0 : 0 ≤ d2) (dn : d2 < n) {x : PyData} (m : x ∈ [.none, .int k, .int ((k + 1).fmod n), .int (max 0 (k - 1)), .int d2]) : ∃ o : Option Int, x = oD o ∧ ∀ j, o = some j → 0 ≤ j ∧ j < n := by
  rcases List.mem_cons.mp m with rfl | m
  · exact ⟨none, rfl, fun j e => by cases e⟩
  rcases List.mem_cons.mp m with rfl | m
  · exact ⟨some k, rfl, fun j e => by cases e; exact ⟨k0, kn⟩⟩
  rcases List.mem_cons.mp m with rfl | m
  · exact ⟨some ((k + 1).fmod n), rfl, fun j e => by cases e; exact fmodB (by omega)⟩
  rcases List.mem_cons.mp m with rfl | m
  · refine ⟨some (max 0 (k - 1)), rfl, fun j e => ?_⟩
    cases e
    omega
  obtain rfl := List.mem_singleton.mp m
  exact ⟨some d2, rfl, fun j e => by cases e; exact ⟨d0, dn⟩⟩
theorem world_law (b : Bag) {h : Int} (h1 : 1 ≤ h) (h3 : h ≤ 3) (r : Store) : ∃ cs ns, ∃ b' : Bag, F_law_world [.ref 0, .d (.int h), .d (.int 7)] (b.cell :: r) = .ok (.d (wD cs ns)) (b'.cell :: r) ∧ Drawn h cs ns := by
  obtain ⟨n', b1, e1, n0, n8⟩ := take_law b 8 (by decide) (by decide) r
  obtain ⟨n, rfl⟩ := Int.eq_ofNat_of_zero_le n0
  have s1 : (sAsg (eCall (noxF F_law_take) (aCons (eVar 0) (aCons (eOp addA (eVar 2) (eC (.d (.int 1)))) aNil))) (gN 3)) [some (.v (.ref 0)), some (.v (.d (.int h))), some (.v (.d (.int 7))), none, none, none] (b.cell :: r) = .ok (.nx [some (.v (.ref 0)), some (.v (.d (.int h))), some (.v (.d (.int 7))), some (.v (.d (.int (n : Nat)))), none, none]) (b1.cell :: r) := by
    have ea : addA (.int 7) (.int 1) = some (.int 8) := rfl
    simp [finF, sRet, thenS, sAsg, sIf, sNext, sDrop, sCPut, sCAug, setC, tB, tNt, tAn, tOR, eOp, eUn, eIf, eAnd, eOr, eNot, eCB, eCIx, eVar, eOwn, eC, eTup, eFz, fLst, fCat, eSl, pNone, pSome, eCall, noxF, aCons, aNil, cell, datas, ap1, ap2, tst, gN, gsN, gsC, gT, eIsi, eIndex, eDIn, eDGet, sDPut, sLPut, sApp, own, dat, sOwn, sDic, sFz, sRetOwn, sRetN, negD, isND, notND, isNoneD, cmpD, keyD, tupleD, subD, L2.atI, L2.ixN, ea, e1]
  -- the arrows
  obtain ⟨ds, st2, e2, l2, w2, b2, rfl⟩ := lcL_inv (g := gN 5) (e := eCall (noxF F_law_some) (aCons (eVar 0) (aCons (eFz (fLst (aCons (eC (.d .none)) (aCons (eVar 5) (aCons (eOp modD (eOp addA (eVar 5) (eC (.d (.int 1)))) (eVar 3)) (aCons (eCB max2D (aCons (eC (.d (.int 0))) (aCons (eOp subD (eVar 5) (eC (.d (.int 1)))) aNil))) (aCons (eCall (noxF F_law_take) (aCons (eVar 0) (aCons (eVar 3) aNil))) aNil))))))) aNil)))
    (ρ := [some (.v (.ref 0)), some (.v (.d (.int h))), some (.v (.d (.int 7))), some (.v (.d (.int (n : Nat)))), none, none]) (fun k : Nat => AV.d (.int (k : Nat))) (fun s => ∃ b : Bag, s = b.cell :: r) (fun d => ∃ o, d = oD o ∧ ∀ i, o = some i → 0 ≤ i ∧ i < (n : Nat)) (List.range n) (b1.cell :: r) ⟨b1, rfl⟩ (fun k hk s ⟨b2, e⟩ => by
      subst e
      have lk := List.mem_range.mp hk
      obtain ⟨d2, b3, e3, f0, f1⟩ := take_law b2 (n : Nat) (by omega) (by omega) r
      obtain ⟨x, mx, b4, e4⟩ := some_law b3 [.none, .int (k : Nat), .int ((((k : Nat) : Int) + 1).fmod (n : Nat)), .int (max 0 (((k : Nat) : Int) - 1)), .int d2] (by simp) (by simp) r
      refine ⟨[some (.v (.ref 0)), some (.v (.d (.int h))), some (.v (.d (.int 7))), some (.v (.d (.int (n : Nat)))), none, some (.v (.d (.int (k : Nat))))], x, b4.cell :: r, rfl, ?_, pick (by omega) (by omega) f0 f1 mx, b4, rfl⟩
      have ea : addA (.int (k : Nat)) (.int 1) = some (.int ((k : Nat) + 1)) := rfl
      have em : modD (.int (((k : Nat) : Int) + 1)) (.int (n : Nat)) = some (.int ((((k : Nat) : Int) + 1).fmod (n : Nat))) := if_pos (by omega)
      have ex : max2D [.int 0, .int (((k : Nat) : Int) - 1)] = some (.int (max 0 (((k : Nat) : Int) - 1))) := rfl
      simp [finF, sRet, thenS, sAsg, sIf, sNext, sDrop, sCPut, sCAug, setC, tB, tNt, tAn, tOR, eOp, eUn, eIf, eAnd, eOr, eNot, eCB, eCIx, eVar, eOwn, eC, eTup, eFz, fLst, fCat, eSl, pNone, pSome, eCall, noxF, aCons, aNil, cell, datas, ap1, ap2, tst, gN, gsN, gsC, gT, eIsi, eIndex, eDIn, eDGet, sDPut, sLPut, sApp, own, dat, sOwn, sDic, sFz, sRetOwn, sRetN, negD, isND, notND, isNoneD, cmpD, keyD, tupleD, subD, L2.atI, L2.ixN, ea, em, ex, e3, e4])
  obtain ⟨ns, rfl, hns⟩ := opts_of w2
  have ln : ns.length = n := by rw [List.length_map, List.length_range] at l2; exact l2
  -- the colours
  obtain ⟨ds, st3, e3, l3, w3, b3, rfl⟩ := lcL_inv (g := gN 5) (e := eCall (noxF F_law_take) (aCons (eVar 0) (aCons (eVar 1) aNil)))
    (ρ := [some (.v (.ref 0)), some (.v (.d (.int h))), some (.v (.d (.int 7))), some (.v (.d (.int (n : Nat)))), some (.v (.d (.list (ns.map oD)))), none]) (fun k : Nat => AV.d (.int (k : Nat))) (fun s => ∃ b : Bag, s = b.cell :: r) (fun d => ∃ i, d = .int i ∧ 0 ≤ i ∧ i < h) (List.range n) (b2.cell :: r) ⟨b2, rfl⟩ (fun k hk s ⟨b2, e⟩ => by
      subst e
      obtain ⟨d2, b3, e3, f0, f1⟩ := take_law b2 h (by omega) (by omega) r
      exact ⟨[some (.v (.ref 0)), some (.v (.d (.int h))), some (.v (.d (.int 7))), some (.v (.d (.int (n : Nat)))), some (.v (.d (.list (ns.map oD)))), some (.v (.d (.int (k : Nat))))], .int d2, b3.cell :: r, rfl, by simp [finF, sRet, thenS, sAsg, sIf, sNext, sDrop, sCPut, sCAug, setC, tB, tNt, tAn, tOR, eOp, eUn, eIf, eAnd, eOr, eNot, eCB, eCIx, eVar, eOwn, eC, eTup, eFz, fLst, fCat, eSl, pNone, pSome, eCall, noxF, aCons, aNil, cell, datas, ap1, ap2, tst, gN, gsN, gsC, gT, eIsi, eIndex, eDIn, eDGet, sDPut, sLPut, sApp, own, dat, sOwn, sDic, sFz, sRetOwn, sRetN, negD, isND, notND, isNoneD, cmpD, keyD, tupleD, subD, L2.atI, L2.ixN, e3], ⟨d2, rfl, f0, f1⟩, b3, rfl⟩)
  obtain ⟨cs, rfl, hcs⟩ := ints_of w3
  have lc : cs.length = n := by rw [List.length_map, List.length_range] at l3; exact l3
  refine ⟨cs, ns, b3, ?_, hcs, by omega, by omega, fun i m => by rw [ln]; exact hns i m⟩
  have i2 : ∀ (ρ : Pz.Env) (s : Store), ρ[3]? = some (some (.v (.d (.int (n : Nat))))) → itRng1 (eVar 3) ρ s = .ok ((List.range n).map fun k => AV.d (.int (k : Nat))) s := fun ρ s h => itRng1_nat (by simp [eVar, h]) (by omega)
  have s2 : (sOwn 4 (fLc (itRng1 (eVar 3)) (gN 5) tYes (eCall (noxF F_law_some) (aCons (eVar 0) (aCons (eFz (fLst (aCons (eC (.d .none)) (aCons (eVar 5) (aCons (eOp modD (eOp addA (eVar 5) (eC (.d (.int 1)))) (eVar 3)) (aCons (eCB max2D (aCons (eC (.d (.int 0))) (aCons (eOp subD (eVar 5) (eC (.d (.int 1)))) aNil))) (aCons (eCall (noxF F_law_take) (aCons (eVar 0) (aCons (eVar 3) aNil))) aNil))))))) aNil))) [5])) [some (.v (.ref 0)), some (.v (.d (.int h))), some (.v (.d (.int 7))), some (.v (.d (.int (n : Nat)))), none, none] (b1.cell :: r) = .ok (.nx [some (.v (.ref 0)), some (.v (.d (.int h))), some (.v (.d (.int 7))), some (.v (.d (.int (n : Nat)))), some (.lst (ns.map oD)), none]) (b2.cell :: r) := by
    unfold sOwn
    rw [fLc_eq (i2 _ _ rfl) (by rw [List.length_map, List.length_range]; exact lim_of (show n ≤ 7 by omega))]
    simp only [wipeE, List.set_cons_succ, List.set_cons_zero]
    rw [e2]; rfl
  have s3 : fLc (itRng1 (eVar 3)) (gN 5) tYes (eCall (noxF F_law_take) (aCons (eVar 0) (aCons (eVar 1) aNil))) [5] [some (.v (.ref 0)), some (.v (.d (.int h))), some (.v (.d (.int 7))), some (.v (.d (.int (n : Nat)))), some (.v (.d (.list (ns.map oD)))), none] (b2.cell :: r) = .ok (cs.map PyData.int) (b3.cell :: r) := by
    rw [fLc_eq (i2 _ _ rfl) (by rw [List.length_map, List.length_range]; exact lim_of (show n ≤ 7 by omega))]
    simp only [wipeE, List.set_cons_succ, List.set_cons_zero]
    rw [e3]
  refine (congrArg finF (seq_step s1 (seq_step s2 rfl))).trans ?_
  simp [finF, sRet, thenS, sAsg, sIf, sNext, sDrop, sCPut, sCAug, setC, tB, tNt, tAn, tOR, eOp, eUn, eIf, eAnd, eOr, eNot, eCB, eCIx, eVar, eOwn, eC, eTup, eFz, fLst, fCat, eSl, pNone, pSome, eCall, noxF, aCons, aNil, cell, datas, ap1, ap2, tst, gN, gsN, gsC, gT, eIsi, eIndex, eDIn, eDGet, sDPut, sLPut, sApp, own, dat, sOwn, sDic, sFz, sRetOwn, sRetN, negD, isND, notND, isNoneD, cmpD, keyD, tupleD, subD, L2.atI, L2.ixN, s3, wD]
section
variable {cs : List Int} {ns : List (Option Int)} {s : Store}
/-! ### the law's own ways, steps, faults -/
theorem notin_ints (i : Int) (is : List Int) : notInD (.int i) (.list (is.map PyData.int)) = some (.bool (!decide (i ∈ is))) := by
  show ((if (flatD (.int i) && (is.map PyData.int).all flatD) = true then some ((is.map PyData.int).any fun y => PyData.eqv y (.int i)) else none).map fun c => PyData.bool (!c)) = _
  rw [flats, if_pos (show (flatD (.int i) && true) = true from rfl)]
  show some (PyData.bool (!((is.map PyData.int).any fun y => PyData.eqv y (.int i)))) = _
  congr 3
  induction is with
  | nil => rfl
  | cons a l ih =>
    rw [List.map_cons, List.any_cons, ih, eqv_int]
    by_cases e : a = i
    · subst e; simp
    · have : (a == i) = false := by simpa using e
      rw [this, Bool.false_or]
      simp [Ne.symm e]
theorem in_ints (i : Int) (is : List Int) : isInD (.int i) (.list (is.map PyData.int)) = some (.bool (decide (i ∈ is))) := by
  have h := notin_ints i is
  unfold notInD isInD at *
  cases e : inD (.int i) (.list (is.map PyData.int)) with
  | none => rw [e] at h; cases h
  | some c =>
    rw [e] at h
    have h : some (PyData.bool (!c)) = some (PyData.bool (!decide (i ∈ is))) := h
    injection h with h
    injection h with h
    have : c = decide (i ∈ is) := by cases c <;> cases z : decide (i ∈ is) <;> simp_all
    rw [this]; rfl
theorem lway_loop (F : Fine ns) {i : Int} : ∀ (f n : Nat) (o : Option Int) (acc : List Int), Wst ns i o acc → ns.length < f + acc.length → ns.length ≤ 400 → f < n → ∃ o', whileL C_law_way_2 L_law_way_1 n [some (.v (.d (wD cs ns))), some (.v (.d (oD o))), some (.lst (acc.map PyData.int))] s = .ok (.nx [some (.v (.d (wD cs ns))), some (.v (.d (oD o'))), some (.lst ((way ns f o acc).map PyData.int))]) s
  | 0, n, o, acc, w, h1, _, h2 => by have := w.le; omega
  | f + 1, 0, o, acc, w, h1, _, h2 => by omega
  | f + 1, n + 1, none, acc, w, h1, h4, h2 => by
    refine ⟨none, ?_⟩
    rw [way_none]
    exact while_end (by simp [C_law_way_2, finF, sRet, thenS, sAsg, sIf, sNext, sDrop, sCPut, sCAug, setC, tB, tNt, tAn, tOR, eOp, eUn, eIf, eAnd, eOr, eNot, eCB, eCIx, eVar, eOwn, eC, eTup, eFz, fLst, fCat, eSl, pNone, pSome, eCall, noxF, aCons, aNil, cell, datas, ap1, ap2, tst, gN, gsN, gsC, gT, eIsi, eIndex, eDIn, eDGet, sDPut, sLPut, sApp, own, dat, sOwn, sDic, sFz, sRetOwn, sRetN, negD, isND, notND, isNoneD, cmpD, keyD, tupleD, subD, L2.atI, L2.ixN, oD])
  | f + 1, n + 1, some j, acc, w, h1, h4, h2 => by
    have hget := notin_ints j acc
    by_cases hj : j ∈ acc
    · refine ⟨some j, ?_⟩
      rw [way_mem hj]
      rw [decide_eq_true hj] at hget
      exact while_end (by simp [C_law_way_2, finF, sRet, thenS, sAsg, sIf, sNext, sDrop, sCPut, sCAug, setC, tB, tNt, tAn, tOR, eOp, eUn, eIf, eAnd, eOr, eNot, eCB, eCIx, eVar, eOwn, eC, eTup, eFz, fLst, fCat, eSl, pNone, pSome, eCall, noxF, aCons, aNil, cell, datas, ap1, ap2, tst, gN, gsN, gsC, gT, eIsi, eIndex, eDIn, eDGet, sDPut, sLPut, sApp, own, dat, sOwn, sDic, sFz, sRetOwn, sRetN, negD, isND, notND, isNoneD, cmpD, keyD, tupleD, subD, L2.atI, L2.ixN, oD, hget])
    · rw [decide_eq_false hj] at hget
      have tj : Thing ns j := w.ot j rfl
      have l1 : acc.length < LIM := by have := w.le; unfold LIM; omega
      obtain ⟨o', e⟩ := lway_loop F f n (nx ns j) (acc ++ [j]) (w.push F hj) (by rw [List.length_append]; simp; omega) h4 (by omega)
      refine ⟨o', ?_⟩
      rw [way_step hj, ← e]
      exact while_go (s1 := s) (by simp [C_law_way_2, finF, sRet, thenS, sAsg, sIf, sNext, sDrop, sCPut, sCAug, setC, tB, tNt, tAn, tOR, eOp, eUn, eIf, eAnd, eOr, eNot, eCB, eCIx, eVar, eOwn, eC, eTup, eFz, fLst, fCat, eSl, pNone, pSome, eCall, noxF, aCons, aNil, cell, datas, ap1, ap2, tst, gN, gsN, gsC, gT, eIsi, eIndex, eDIn, eDGet, sDPut, sLPut, sApp, own, dat, sOwn, sDic, sFz, sRetOwn, sRetN, negD, isND, notND, isNoneD, cmpD, keyD, tupleD, subD, L2.atI, L2.ixN, oD, hget]) (by simp [L_law_way_1, mkF, sSeq, eCh, finF, sRet, thenS, sAsg, sIf, sNext, sDrop, sCPut, sCAug, setC, tB, tNt, tAn, tOR, eOp, eUn, eIf, eAnd, eOr, eNot, eCB, eCIx, eVar, eOwn, eC, eTup, eFz, fLst, fCat, eSl, pNone, pSome, eCall, noxF, aCons, aNil, cell, datas, ap1, ap2, tst, gN, gsN, gsC, gT, eIsi, eIndex, eDIn, eDGet, sDPut, sLPut, sApp, own, dat, sOwn, sDic, sFz, sRetOwn, sRetN, negD, isND, notND, isNoneD, cmpD, keyD, tupleD, subD, L2.atI, L2.ixN, l1, ix1, ix_at tj, oD])
theorem f_law_way (F : Fine ns) {i : Int} (t : Thing ns i) (hl : ns.length ≤ 400) : F_law_way [.d (wD cs ns), .d (.int i)] s = .ok (.d (.list ((wayOf ns i).map PyData.int))) s := by
  obtain ⟨o', e⟩ := lway_loop (cs := cs) (s := s) F (ns.length + 1) FUEL (some i) [] (.start t) (by simp) hl (by unfold FUEL; omega)
  exact congrArg finF (seq_step (ρ1 := [some (.v (.d (wD cs ns))), some (.v (.d (.int i))), some (.lst [])]) (s1 := s) rfl (seq_step e rfl))
theorem stp_thing (F : Fine ns) {i : Int} (t : Thing ns i) : ∀ (m : Nat) (j : Int), stp ns m (some i) = some j → Thing ns j
  | 0, j, h => by cases h; exact t
  | m + 1, j, h => by
    rw [stp_succ] at h
    cases e : stp ns m (some i) with
    | none => rw [e] at h; cases h
    | some k => rw [e] at h; exact F.nx h
theorem f_law_steps (F : Fine ns) {i : Int} (t : Thing ns i) (m : Nat) (hm : m ≤ 1000000) : F_law_steps [.d (wD cs ns), .d (.int i), .d (.int (m : Nat))] s = .ok (.d (oD (stp ns m (some i)))) s := by
  have el := forL_fold (g := gN 3) (b := L_law_steps_1) (fun k : Nat => AV.d (.int (k : Nat))) (fun k => [some (.v (.d (wD cs ns))), some (.v (.d (oD (stp ns k (some i))))), some (.v (.d (.int (m : Nat)))), if k = 0 then none else some (.v (.d (.int ((k : Nat) - 1))))]) (fun _ => s) (List.range m) 0 (fun k x hk => by
    have lk : k < m := by have := (List.getElem?_eq_some_iff.mp hk).1; rwa [List.length_range] at this
    rw [List.getElem?_range lk] at hk
    cases hk
    refine ⟨[some (.v (.d (wD cs ns))), some (.v (.d (oD (stp ns k (some i))))), some (.v (.d (.int (m : Nat)))), some (.v (.d (.int (k : Nat))))], by simp [gN], ?_⟩
    rw [Nat.zero_add, stp_succ]
    have ek : (if k + 1 = 0 then none else some (Sl.v (AV.d (PyData.int (((k + 1 : Nat) : Int) - 1))))) = some (Sl.v (AV.d (PyData.int (k : Nat)))) := by rw [if_neg (by omega)]; congr 4; omega
    rw [ek]
    cases e : stp ns k (some i) with
    | none => simp [L_law_steps_1, finF, sRet, thenS, sAsg, sIf, sNext, sDrop, sCPut, sCAug, setC, tB, tNt, tAn, tOR, eOp, eUn, eIf, eAnd, eOr, eNot, eCB, eCIx, eVar, eOwn, eC, eTup, eFz, fLst, fCat, eSl, pNone, pSome, eCall, noxF, aCons, aNil, cell, datas, ap1, ap2, tst, gN, gsN, gsC, gT, eIsi, eIndex, eDIn, eDGet, sDPut, sLPut, sApp, own, dat, sOwn, sDic, sFz, sRetOwn, sRetN, negD, isND, notND, isNoneD, cmpD, keyD, tupleD, subD, L2.atI, L2.ixN, oD]
    | some j =>
      have tj := stp_thing F t k j e
      simp [L_law_steps_1, finF, sRet, thenS, sAsg, sIf, sNext, sDrop, sCPut, sCAug, setC, tB, tNt, tAn, tOR, eOp, eUn, eIf, eAnd, eOr, eNot, eCB, eCIx, eVar, eOwn, eC, eTup, eFz, fLst, fCat, eSl, pNone, pSome, eCall, noxF, aCons, aNil, cell, datas, ap1, ap2, tst, gN, gsN, gsC, gT, eIsi, eIndex, eDIn, eDGet, sDPut, sLPut, sApp, own, dat, sOwn, sDic, sFz, sRetOwn, sRetN, negD, isND, notND, isNoneD, cmpD, keyD, tupleD, subD, L2.atI, L2.ixN, oD, ix1, ix_at tj])
  rw [Nat.zero_add, List.length_range] at el
  have e1 : (sFor (itRng1 (eVar 2)) (gN 3) L_law_steps_1) [some (.v (.d (wD cs ns))), some (.v (.d (.int i))), some (.v (.d (.int (m : Nat)))), none] s = .ok (.nx [some (.v (.d (wD cs ns))), some (.v (.d (oD (stp ns m (some i))))), some (.v (.d (.int (m : Nat)))), if m = 0 then none else some (.v (.d (.int ((m : Nat) - 1))))]) s := by
    unfold sFor
    rw [itRng1_nat (n := m) (s1 := s) (by simp [eVar]) hm]
    exact el
  exact congrArg finF (seq_step e1 rfl)
def fltT : Option (PyData × Str) → PyData
  | none => .none
  | some (wh, f) => .tuple [wh, .str f]
theorem fault_loop (h : Int) (CS : List Int) (NS : List (Option Int)) (s : Store) : ∀ (cs : List Int) (ns : List (Option Int)) (k : Nat) (a b c : Option Sl), (∃ a' b' c', scan h CS.length k cs ns = none ∧ forL (gT 2 (gsC (gN 2) (gsC (gT 2 (gsC (gN 3) (gsC (gN 4) gsN))) gsN))) L_law_fault_1 (wit cs ns k) [some (.v (.d (.int h))), some (.v (.d (wD CS NS))), a, b, c] s = .ok (.nx [some (.v (.d (.int h))), some (.v (.d (wD CS NS))), a', b', c']) s) ∨
    ∃ wh f, scan h CS.length k cs ns = some (wh, f) ∧ forL (gT 2 (gsC (gN 2) (gsC (gT 2 (gsC (gN 3) (gsC (gN 4) gsN))) gsN))) L_law_fault_1 (wit cs ns k) [some (.v (.d (.int h))), some (.v (.d (wD CS NS))), a, b, c] s = .ok (.rt (.d (.tuple [wh, .str f]))) s
  | [], ns, k, a, b, c => .inl ⟨a, b, c, by cases ns <;> rfl, rfl⟩
  | c :: cs, [], k, a, b, d => .inl ⟨a, b, d, rfl, by rw [wit_nil2]; rfl⟩
  | c :: cs, o :: ns, k, a, b, d => by
    have e0 : ixD (wD CS NS) (.int 0) = some (.tuple (CS.map PyData.int)) := rfl
    have e1 : lenD [.tuple (CS.map PyData.int)] = some (.int CS.length) := by show some (PyData.int ((CS.map PyData.int).length : Nat)) = _; rw [List.length_map]
    rw [wit_cons]
    simp only [scan]
    by_cases h1 : c ≥ h
    · rw [if_pos h1]
      refine .inr ⟨_, _, rfl, ?_⟩
      simp [forL, L_law_fault_1, mkF, sSeq, eCh, finF, sRet, thenS, sAsg, sIf, sNext, sDrop, sCPut, sCAug, setC, tB, tNt, tAn, tOR, eOp, eUn, eIf, eAnd, eOr, eNot, eCB, eCIx, eVar, eOwn, eC, eTup, eFz, fLst, fCat, eSl, pNone, pSome, eCall, noxF, aCons, aNil, cell, datas, ap1, ap2, tst, gN, gsN, gsC, gT, eIsi, eIndex, eDIn, eDGet, sDPut, sLPut, sApp, own, dat, sOwn, sDic, sFz, sRetOwn, sRetN, negD, isND, notND, isNoneD, cmpD, keyD, tupleD, subD, L2.atI, L2.ixN, h1, wThing]
    rw [if_neg h1]
    have h1' : ¬ h ≤ c := h1
    cases o with
    | none =>
      rw [if_neg (show ¬ oGe none (CS.length : Nat) = true by simp [oGe])]
      have := fault_loop h CS NS s cs ns (k + 1) (some (.v (.d (.int (k : Nat))))) (some (.v (.d (.int c)))) (some (.v (.d .none)))
      simpa [forL, L_law_fault_1, mkF, sSeq, eCh, finF, sRet, thenS, sAsg, sIf, sNext, sDrop, sCPut, sCAug, setC, tB, tNt, tAn, tOR, eOp, eUn, eIf, eAnd, eOr, eNot, eCB, eCIx, eVar, eOwn, eC, eTup, eFz, fLst, fCat, eSl, pNone, pSome, eCall, noxF, aCons, aNil, cell, datas, ap1, ap2, tst, gN, gsN, gsC, gT, eIsi, eIndex, eDIn, eDGet, sDPut, sLPut, sApp, own, dat, sOwn, sDic, sFz, sRetOwn, sRetN, negD, isND, notND, isNoneD, cmpD, keyD, tupleD, subD, L2.atI, L2.ixN, h1', oD] using this
    | some j =>
      by_cases h2 : oGe (some j) (CS.length : Nat) = true
      · rw [if_pos h2]
        have h2' : (CS.length : Int) ≤ j := of_decide_eq_true h2
        refine .inr ⟨_, _, rfl, ?_⟩
        simp [forL, L_law_fault_1, mkF, sSeq, eCh, finF, sRet, thenS, sAsg, sIf, sNext, sDrop, sCPut, sCAug, setC, tB, tNt, tAn, tOR, eOp, eUn, eIf, eAnd, eOr, eNot, eCB, eCIx, eVar, eOwn, eC, eTup, eFz, fLst, fCat, eSl, pNone, pSome, eCall, noxF, aCons, aNil, cell, datas, ap1, ap2, tst, gN, gsN, gsC, gT, eIsi, eIndex, eDIn, eDGet, sDPut, sLPut, sApp, own, dat, sOwn, sDic, sFz, sRetOwn, sRetN, negD, isND, notND, isNoneD, cmpD, keyD, tupleD, subD, L2.atI, L2.ixN, h1', oD, e0, e1, h2', wThing]
      · rw [if_neg h2]
        have h2' : ¬ (CS.length : Int) ≤ j := fun z => h2 (decide_eq_true z)
        have := fault_loop h CS NS s cs ns (k + 1) (some (.v (.d (.int (k : Nat))))) (some (.v (.d (.int c)))) (some (.v (.d (.int j))))
        simpa [forL, L_law_fault_1, mkF, sSeq, eCh, finF, sRet, thenS, sAsg, sIf, sNext, sDrop, sCPut, sCAug, setC, tB, tNt, tAn, tOR, eOp, eUn, eIf, eAnd, eOr, eNot, eCB, eCIx, eVar, eOwn, eC, eTup, eFz, fLst, fCat, eSl, pNone, pSome, eCall, noxF, aCons, aNil, cell, datas, ap1, ap2, tst, gN, gsN, gsC, gT, eIsi, eIndex, eDIn, eDGet, sDPut, sLPut, sApp, own, dat, sOwn, sDic, sFz, sRetOwn, sRetN, negD, isND, notND, isNoneD, cmpD, keyD, tupleD, subD, L2.atI, L2.ixN, h1', oD, e0, e1, h2'] using this
theorem f_law_fault {h : Int} : F_law_fault [.d (.int h), .d (wD cs ns)] s = .ok (.d (fltT (flt h cs ns))) s := by
  by_cases hl : cs.length = ns.length
  · have ef : flt h cs ns = scan h cs.length 0 cs ns := if_neg (fun z => z hl)
    rw [ef]
    have e2 : (sIf (tB (eOp neD (eCB lenD (aCons (eOp ixD (eVar 1) (eC (.d (.int 0)))) aNil)) (eCB lenD (aCons (eOp ixD (eVar 1) (eC (.d (.int 1)))) aNil))))
      (sRet (eTup (aCons (eTup (aCons (eC (.d (.str "things"))) aNil)) (aCons (eC (.d (.str "many"))) aNil)))) sNext) [some (.v (.d (.int h))), some (.v (.d (wD cs ns))), none, none, none] s = .ok (.nx [some (.v (.d (.int h))), some (.v (.d (wD cs ns))), none, none, none]) s := by
      simp [mkF, sSeq, eCh, finF, sRet, thenS, sAsg, sIf, sNext, sDrop, sCPut, sCAug, setC, tB, tNt, tAn, tOR, eOp, eUn, eIf, eAnd, eOr, eNot, eCB, eCIx, eVar, eOwn, eC, eTup, eFz, fLst, fCat, eSl, pNone, pSome, eCall, noxF, aCons, aNil, cell, datas, ap1, ap2, tst, gN, gsN, gsC, gT, eIsi, eIndex, eDIn, eDGet, sDPut, sLPut, sApp, own, dat, sOwn, sDic, sFz, sRetOwn, sRetN, negD, isND, notND, isNoneD, cmpD, keyD, tupleD, subD, L2.atI, L2.ixN, ix0, ix1, len0, len1, neD, eqB, hl]
    rcases fault_loop h cs ns s cs ns 0 none none none with ⟨a, b, c, es, el⟩ | ⟨wh, f, es, el⟩
    · rw [es]
      have e3 : (sFor (itEnumZ (eOp ixD (eVar 1) (eC (.d (.int 0)))) (eOp ixD (eVar 1) (eC (.d (.int 1))))) (gT 2 (gsC (gN 2) (gsC (gT 2 (gsC (gN 3) (gsC (gN 4) gsN))) gsN))) L_law_fault_1) [some (.v (.d (.int h))), some (.v (.d (wD cs ns))), none, none, none] s = .ok (.nx [some (.v (.d (.int h))), some (.v (.d (wD cs ns))), a, b, c]) s := el
      exact congrArg finF (seq_step e2 (seq_step e3 rfl))
    · rw [es]
      have e3 : (sFor (itEnumZ (eOp ixD (eVar 1) (eC (.d (.int 0)))) (eOp ixD (eVar 1) (eC (.d (.int 1))))) (gT 2 (gsC (gN 2) (gsC (gT 2 (gsC (gN 3) (gsC (gN 4) gsN))) gsN))) L_law_fault_1) [some (.v (.d (.int h))), some (.v (.d (wD cs ns))), none, none, none] s = .ok (.rt (.d (.tuple [wh, .str f]))) s := el
      exact congrArg finF (seq_step e2 (seq_rt e3))
  · have ef : flt h cs ns = some (wThings, ("many" : Str)) := if_pos hl
    rw [ef]
    have e2 : (sIf (tB (eOp neD (eCB lenD (aCons (eOp ixD (eVar 1) (eC (.d (.int 0)))) aNil)) (eCB lenD (aCons (eOp ixD (eVar 1) (eC (.d (.int 1)))) aNil))))
      (sRet (eTup (aCons (eTup (aCons (eC (.d (.str "things"))) aNil)) (aCons (eC (.d (.str "many"))) aNil)))) sNext) [some (.v (.d (.int h))), some (.v (.d (wD cs ns))), none, none, none] s = .ok (.rt (.d (.tuple [wThings, .str "many"]))) s := by
      simp [mkF, sSeq, eCh, finF, sRet, thenS, sAsg, sIf, sNext, sDrop, sCPut, sCAug, setC, tB, tNt, tAn, tOR, eOp, eUn, eIf, eAnd, eOr, eNot, eCB, eCIx, eVar, eOwn, eC, eTup, eFz, fLst, fCat, eSl, pNone, pSome, eCall, noxF, aCons, aNil, cell, datas, ap1, ap2, tst, gN, gsN, gsC, gT, eIsi, eIndex, eDIn, eDGet, sDPut, sLPut, sApp, own, dat, sOwn, sDic, sFz, sRetOwn, sRetN, negD, isND, notND, isNoneD, cmpD, keyD, tupleD, subD, L2.atI, L2.ixN, ix0, ix1, len0, len1, neD, eqB, hl, wThings]
      omega
    exact congrArg finF (seq_rt e2)
theorem f_alike {d : PyData} (h : okd d = true) : F_law_alike [.d d, .d d] s = .ok (.d (.bool true)) s := by
  have e1 : reprD [d] = some (.str d.shown) := if_pos h
  have e2 : eqD d d = some (.bool true) := by
    unfold eqD eqB
    split
    · simp
    · simp
    · rw [okd.shaped h, if_pos (by rfl), okd.refl h]; rfl
  have e3 : eqD (.str d.shown) (.str d.shown) = some (.bool true) := by show some (PyData.bool (decide (d.shown = d.shown))) = _; simp
  simp [F_law_alike, mkF, sSeq, eCh, finF, sRet, thenS, sAsg, sIf, sNext, sDrop, sCPut, sCAug, setC, tB, tNt, tAn, tOR, eOp, eUn, eIf, eAnd, eOr, eNot, eCB, eCIx, eVar, eOwn, eC, eTup, eFz, fLst, fCat, eSl, pNone, pSome, eCall, noxF, aCons, aNil, cell, datas, ap1, ap2, tst, gN, gsN, gsC, gT, eIsi, eIndex, eDIn, eDGet, sDPut, sLPut, sApp, own, dat, sOwn, sDic, sFz, sRetOwn, sRetN, negD, isND, notND, isNoneD, cmpD, keyD, tupleD, subD, L2.atI, L2.ixN, e1, e2, e3]
/-! ### a bent world -/
def OkC (cs : List Int) : Prop := (∀ x ∈ cs, 0 ≤ x) ∧ cs.length ≤ 100
def OkN (ns : List (Option Int)) : Prop := (∀ x, some x ∈ ns → 0 ≤ x) ∧ ns.length ≤ 100
theorem OkC.good {cs : List Int} {ns : List (Option Int)} (c : OkC cs) (n : OkN ns) : Good cs ns := ⟨c.1, n.1, by have := c.2; omega, by have := n.2; omega⟩
theorem cut_map {α : Type} (f : α → PyData) (xs : List α) (lo hi : Option Int) : ∃ ys : List α, cutD (xs.map f) lo hi = ys.map f ∧ (∀ y ∈ ys, y ∈ xs) ∧ ys.length ≤ xs.length := by
  unfold cutD
  rw [← List.map_drop, ← List.map_take]
  refine ⟨_, rfl, fun y hy => List.mem_of_mem_drop (List.mem_of_mem_take hy), ?_⟩
  rw [List.length_take, List.length_drop]
  omega
/-- xs[:at] + (x,) + xs[at + 1:] -/
def midM (i : Nat) (e : ME) : ME := eOp addA (eOp addA (eSl (eVar i) pNone (pSome (eVar 5))) (eTup (aCons e aNil))) (eSl (eVar i) (pSome (eOp addA (eVar 5) (eC (.d (.int 1))))) pNone)
theorem mid_eval {α : Type} (f : α → PyData) (xs : List α) (x : α) (i : Nat) (e : ME) (k : Int) (ρ : Pz.Env) (hi : ρ[i]? = some (some (.v (.d (.tuple (xs.map f)))))) (h5 : ρ[5]? = some (some (.v (.d (.int k))))) (he : e ρ s = .ok (.d (f x)) s) (hl : xs.length ≤ 7) : ∃ ys : List α, midM i e ρ s = .ok (.d (.tuple (ys.map f))) s ∧ (∀ y ∈ ys, y ∈ xs ∨ y = x) ∧ ys.length ≤ 100 := by
  obtain ⟨a, ea, ma, la⟩ := cut_map f xs none (some k)
  obtain ⟨c, ec, mc, lc⟩ := cut_map f xs (some (k + 1)) none
  have s1 : slD (.tuple (xs.map f)) none (some k) = some (.tuple (a.map f)) := congrArg (fun z => some (PyData.tuple z)) ea
  have s2 : slD (.tuple (xs.map f)) (some (k + 1)) none = some (.tuple (c.map f)) := congrArg (fun z => some (PyData.tuple z)) ec
  have l1 : (a.map f).length + [f x].length ≤ LIM := by rw [List.length_map]; simp; exact lim_of (show a.length + 1 ≤ 8 by omega)
  have l2 : (a.map f ++ [f x]).length + (c.map f).length ≤ LIM := by rw [List.length_append, List.length_map, List.length_map]; simp; exact lim_of (show a.length + 1 + c.length ≤ 15 by omega)
  have a1 : addA (.tuple (a.map f)) (.tuple [f x]) = some (.tuple (a.map f ++ [f x])) := if_pos l1
  have a2 : addA (.tuple (a.map f ++ [f x])) (.tuple (c.map f)) = some (.tuple (a.map f ++ [f x] ++ c.map f)) := if_pos l2
  have a3 : addA (.int k) (.int 1) = some (.int (k + 1)) := rfl
  refine ⟨a ++ [x] ++ c, ?_, fun y m => ?_, by rw [List.length_append, List.length_append]; simp; omega⟩
  · rw [List.map_append, List.map_append]
    have a2' : addA (.tuple (a.map f ++ [f x])) (.tuple (c.map f)) = some (.tuple (a.map f ++ f x :: c.map f)) := by rw [a2]; simp
    simp [midM, finF, sRet, thenS, sAsg, sIf, sNext, sDrop, sCPut, sCAug, setC, tB, tNt, tAn, tOR, eOp, eUn, eIf, eAnd, eOr, eNot, eCB, eCIx, eVar, eOwn, eC, eTup, eFz, fLst, fCat, eSl, pNone, pSome, eCall, noxF, aCons, aNil, cell, datas, ap1, ap2, tst, gN, gsN, gsC, gT, eIsi, eIndex, eDIn, eDGet, sDPut, sLPut, sApp, own, dat, sOwn, sDic, sFz, sRetOwn, sRetN, negD, isND, notND, isNoneD, cmpD, keyD, tupleD, subD, L2.atI, L2.ixN, hi, h5, he, s1, s2, a1, a3, a2']
  · rcases List.mem_append.mp m with m | m
    · rcases List.mem_append.mp m with m | m
      · exact .inl (ma y m)
      · exact .inr (List.mem_singleton.mp m)
    · exact .inl (mc y m)
theorem bent_law (b : Bag) {h : Int} {cs : List Int} {ns : List (Option Int)} (d : Drawn h cs ns) (h1 : 1 ≤ h) (r : Store) : ∃ cs' ns', ∃ b' : Bag, F_law_bent [.ref 0, .d (.int h), .d (wD cs ns)] (b.cell :: r) = .ok (.d (wD cs' ns')) (b'.cell :: r) ∧ Good cs' ns' := by
  have few := d.few
  have len := d.len
  have okc : OkC cs := ⟨fun c m => (d.col c m).1, by omega⟩
  have okn : OkN ns := ⟨fun i m => (d.fine i m).1, by omega⟩
  obtain ⟨k, b1, e1, k0, k1⟩ := take_law b (cs.length + 1) (by omega) (by omega) r
  let ρ5 : Pz.Env := [some (.v (.ref 0)), some (.v (.d (.int h))), some (.v (.d (wD cs ns))), some (.v (.d (.tuple (cs.map PyData.int)))), some (.v (.d (.tuple (ns.map oD)))), some (.v (.d (.int k))), none]
  have s0 : (sAsg (eVar 2) (gT 2 (gsC (gN 3) (gsC (gN 4) gsN)))) [some (.v (.ref 0)), some (.v (.d (.int h))), some (.v (.d (wD cs ns))), none, none, none, none] (b.cell :: r) = .ok (.nx [some (.v (.ref 0)), some (.v (.d (.int h))), some (.v (.d (wD cs ns))), some (.v (.d (.tuple (cs.map PyData.int)))), some (.v (.d (.tuple (ns.map oD)))), none, none]) (b.cell :: r) := rfl
  have s1 : (sAsg (eCall (noxF F_law_take) (aCons (eVar 0) (aCons (eOp addA (eCB lenD (aCons (eVar 3) aNil)) (eC (.d (.int 1)))) aNil))) (gN 5)) [some (.v (.ref 0)), some (.v (.d (.int h))), some (.v (.d (wD cs ns))), some (.v (.d (.tuple (cs.map PyData.int)))), some (.v (.d (.tuple (ns.map oD)))), none, none] (b.cell :: r) = .ok (.nx ρ5) (b1.cell :: r) := by
    have ea : addA (.int (cs.length : Nat)) (.int 1) = some (.int ((cs.length : Nat) + 1)) := rfl
    simp [finF, sRet, thenS, sAsg, sIf, sNext, sDrop, sCPut, sCAug, setC, tB, tNt, tAn, tOR, eOp, eUn, eIf, eAnd, eOr, eNot, eCB, eCIx, eVar, eOwn, eC, eTup, eFz, fLst, fCat, eSl, pNone, pSome, eCall, noxF, aCons, aNil, cell, datas, ap1, ap2, tst, gN, gsN, gsC, gT, eIsi, eIndex, eDIn, eDGet, sDPut, sLPut, sApp, own, dat, sOwn, sDic, sFz, sRetOwn, sRetN, negD, isND, notND, isNoneD, cmpD, keyD, tupleD, subD, L2.atI, L2.ixN, len0, ea, e1, ρ5]
  -- the pieces
  obtain ⟨c3, ec3, mc3, lc3⟩ := mid_eval (s := b1.cell :: r) PyData.int cs h 3 (eVar 1) k ρ5 rfl rfl rfl few
  obtain ⟨n4, en4, mn4, ln4⟩ := mid_eval (s := b1.cell :: r) oD ns (some (cs.length : Nat)) 4 (eCB lenD (aCons (eVar 3) aNil)) k ρ5 rfl rfl (by simp [finF, sRet, thenS, sAsg, sIf, sNext, sDrop, sCPut, sCAug, setC, tB, tNt, tAn, tOR, eOp, eUn, eIf, eAnd, eOr, eNot, eCB, eCIx, eVar, eOwn, eC, eTup, eFz, fLst, fCat, eSl, pNone, pSome, eCall, noxF, aCons, aNil, cell, datas, ap1, ap2, tst, gN, gsN, gsC, gT, eIsi, eIndex, eDIn, eDGet, sDPut, sLPut, sApp, own, dat, sOwn, sDic, sFz, sRetOwn, sRetN, negD, isND, notND, isNoneD, cmpD, keyD, tupleD, subD, L2.atI, L2.ixN, len0, ρ5, oD]) (by omega)
  have zc : 0 ≤ (0 : Int) := Int.le_refl _
  have c01 : addA (.tuple (cs.map PyData.int)) (.tuple [.int 0]) = some (.tuple ((cs ++ [0]).map PyData.int)) := by
    rw [List.map_append]; exact if_pos (by rw [List.length_map]; exact lim_of (show cs.length + 1 ≤ 8 by omega))
  have n01 : addA (.tuple (ns.map oD)) (.tuple [.none]) = some (.tuple ((ns ++ [none]).map oD)) := by
    rw [List.map_append]; exact if_pos (by rw [List.length_map]; exact lim_of (show ns.length + 1 ≤ 8 by omega))
  obtain ⟨n2, en2, mn2, ln2⟩ := cut_map oD ns none (some (-1))
  have sl2 : slD (.tuple (ns.map oD)) none (some (-1)) = some (.tuple (n2.map oD)) := congrArg (fun z => some (PyData.tuple z)) en2
  have okc0 : OkC (cs ++ [0]) := ⟨fun x m => (List.mem_append.mp m).elim (okc.1 x) (fun m => by rw [List.mem_singleton.mp m]; exact zc), by rw [List.length_append]; simp; omega⟩
  have okn0 : OkN (ns ++ [none]) := ⟨fun x m => (List.mem_append.mp m).elim (okn.1 x) (fun m => by cases List.mem_singleton.mp m), by rw [List.length_append]; simp; omega⟩
  have okn2 : OkN n2 := ⟨fun x m => okn.1 x (mn2 _ m), by omega⟩
  have okc3 : OkC c3 := ⟨fun x m => (mc3 x m).elim (okc.1 x) (fun e => by rw [e]; omega), lc3⟩
  have okn4 : OkN n4 := ⟨fun x m => (mn4 _ m).elim (okn.1 x) (fun e => by cases e; omega), ln4⟩
  let four : List PyData := [wD (cs ++ [0]) ns, wD cs n2, wD c3 ns, wD cs n4]
  let ρ6 : Pz.Env := [some (.v (.ref 0)), some (.v (.d (.int h))), some (.v (.d (wD cs ns))), some (.v (.d (.tuple (cs.map PyData.int)))), some (.v (.d (.tuple (ns.map oD)))), some (.v (.d (.int k))), some (.v (.d (.list four)))]
  obtain ⟨c5, ec5, mc5, lc5⟩ := mid_eval (s := b1.cell :: r) PyData.int cs 3 3 (eC (.d (.int 3))) k ρ6 rfl rfl rfl few
  obtain ⟨n5, en5, mn5, ln5⟩ := mid_eval (s := b1.cell :: r) oD ns (some 99) 4 (eC (.d (.int 99))) k ρ6 rfl rfl rfl (by omega)
  have okc5 : OkC c5 := ⟨fun x m => (mc5 x m).elim (okc.1 x) (fun e => by rw [e]; decide), lc5⟩
  have okn5 : OkN n5 := ⟨fun x m => (mn5 _ m).elim (okn.1 x) (fun e => by cases e; decide), ln5⟩
  let six : List PyData := four ++ [wD c5 n5, wD (cs ++ [0]) (ns ++ [none])]
  obtain ⟨x, mx, b2, e2⟩ := some_law b1 six (by simp [six, four]) (by simp [six, four]) r
  have s2 : (sAsg (eFz (fLst (aCons (eTup (aCons (eOp addA (eVar 3) (eTup (aCons (eC (.d (.int 0))) aNil))) (aCons (eVar 4) aNil))) (aCons (eTup (aCons (eVar 3) (aCons (eSl (eVar 4) pNone (pSome (eUn negD (eC (.d (.int 1)))))) aNil))) (aCons (eTup (aCons (midM 3 (eVar 1)) (aCons (eVar 4) aNil))) (aCons (eTup (aCons (eVar 3) (aCons (midM 4 (eCB lenD (aCons (eVar 3) aNil))) aNil))) aNil)))))) (gN 6)) ρ5 (b1.cell :: r) = .ok (.nx ρ6) (b1.cell :: r) := by
    have g1 : eTup (aCons (eOp addA (eVar 3) (eTup (aCons (eC (.d (.int 0))) aNil))) (aCons (eVar 4) aNil)) ρ5 (b1.cell :: r) = .ok (.d (wD (cs ++ [0]) ns)) (b1.cell :: r) := by simp [finF, sRet, thenS, sAsg, sIf, sNext, sDrop, sCPut, sCAug, setC, tB, tNt, tAn, tOR, eOp, eUn, eIf, eAnd, eOr, eNot, eCB, eCIx, eVar, eOwn, eC, eTup, eFz, fLst, fCat, eSl, pNone, pSome, eCall, noxF, aCons, aNil, cell, datas, ap1, ap2, tst, gN, gsN, gsC, gT, eIsi, eIndex, eDIn, eDGet, sDPut, sLPut, sApp, own, dat, sOwn, sDic, sFz, sRetOwn, sRetN, negD, isND, notND, isNoneD, cmpD, keyD, tupleD, subD, L2.atI, L2.ixN, ρ5, c01, wD]
    have g2 : eTup (aCons (eVar 3) (aCons (eSl (eVar 4) pNone (pSome (eUn negD (eC (.d (.int 1)))))) aNil)) ρ5 (b1.cell :: r) = .ok (.d (wD cs n2)) (b1.cell :: r) := by
      have ng : negD (.int 1) = some (.int (-1)) := rfl
      simp [finF, sRet, thenS, sAsg, sIf, sNext, sDrop, sCPut, sCAug, setC, tB, tNt, tAn, tOR, eOp, eUn, eIf, eAnd, eOr, eNot, eCB, eCIx, eVar, eOwn, eC, eTup, eFz, fLst, fCat, eSl, pNone, pSome, eCall, noxF, aCons, aNil, cell, datas, ap1, ap2, tst, gN, gsN, gsC, gT, eIsi, eIndex, eDIn, eDGet, sDPut, sLPut, sApp, own, dat, sOwn, sDic, sFz, sRetOwn, sRetN, negD, isND, notND, isNoneD, cmpD, keyD, tupleD, subD, L2.atI, L2.ixN, ρ5, ng, sl2, wD]
    have g3 : eTup (aCons (midM 3 (eVar 1)) (aCons (eVar 4) aNil)) ρ5 (b1.cell :: r) = .ok (.d (wD c3 ns)) (b1.cell :: r) := by
      have ev : eVar 4 ρ5 (b1.cell :: r) = .ok (.d (.tuple (ns.map oD))) (b1.cell :: r) := rfl
      simp only [eTup, aCons, aNil, ev, ec3, bind_ok]
      rfl
    have g4 : eTup (aCons (eVar 3) (aCons (midM 4 (eCB lenD (aCons (eVar 3) aNil))) aNil)) ρ5 (b1.cell :: r) = .ok (.d (wD cs n4)) (b1.cell :: r) := by
      have ev : eVar 3 ρ5 (b1.cell :: r) = .ok (.d (.tuple (cs.map PyData.int))) (b1.cell :: r) := rfl
      simp only [eTup, aCons, aNil, ev, en4, bind_ok]
      rfl
    simp only [sAsg, eFz, fLst, aCons, aNil, g1, g2, g3, g4, bind_ok]
    rfl
  have s3 : (sAsg (eOp addA (eVar 6) (eFz (fLst (aCons (eTup (aCons (midM 3 (eC (.d (.int 3)))) (aCons (midM 4 (eC (.d (.int 99)))) aNil))) (aCons (eTup (aCons (eOp addA (eVar 3) (eTup (aCons (eC (.d (.int 0))) aNil))) (aCons (eOp addA (eVar 4) (eTup (aCons (eC (.d .none)) aNil))) aNil))) aNil))))) (gN 6)) ρ6 (b1.cell :: r) = .ok (.nx [some (.v (.ref 0)), some (.v (.d (.int h))), some (.v (.d (wD cs ns))), some (.v (.d (.tuple (cs.map PyData.int)))), some (.v (.d (.tuple (ns.map oD)))), some (.v (.d (.int k))), some (.v (.d (.list six)))]) (b1.cell :: r) := by
    have a6 : addA (.list four) (.list [wD c5 n5, wD (cs ++ [0]) (ns ++ [none])]) = some (.list six) := if_pos (lim_of (show four.length + 2 ≤ 6 from Nat.le_refl _))
    have e5 : eTup (aCons (midM 3 (eC (.d (.int 3)))) (aCons (midM 4 (eC (.d (.int 99)))) aNil)) ρ6 (b1.cell :: r) = .ok (.d (wD c5 n5)) (b1.cell :: r) := by simp [finF, sRet, thenS, sAsg, sIf, sNext, sDrop, sCPut, sCAug, setC, tB, tNt, tAn, tOR, eOp, eUn, eIf, eAnd, eOr, eNot, eCB, eCIx, eVar, eOwn, eC, eTup, eFz, fLst, fCat, eSl, pNone, pSome, eCall, noxF, aCons, aNil, cell, datas, ap1, ap2, tst, gN, gsN, gsC, gT, eIsi, eIndex, eDIn, eDGet, sDPut, sLPut, sApp, own, dat, sOwn, sDic, sFz, sRetOwn, sRetN, negD, isND, notND, isNoneD, cmpD, keyD, tupleD, subD, L2.atI, L2.ixN, ec5, en5, wD]
    have e6 : eTup (aCons (eOp addA (eVar 3) (eTup (aCons (eC (.d (.int 0))) aNil))) (aCons (eOp addA (eVar 4) (eTup (aCons (eC (.d .none)) aNil))) aNil)) ρ6 (b1.cell :: r) = .ok (.d (wD (cs ++ [0]) (ns ++ [none]))) (b1.cell :: r) := by simp [finF, sRet, thenS, sAsg, sIf, sNext, sDrop, sCPut, sCAug, setC, tB, tNt, tAn, tOR, eOp, eUn, eIf, eAnd, eOr, eNot, eCB, eCIx, eVar, eOwn, eC, eTup, eFz, fLst, fCat, eSl, pNone, pSome, eCall, noxF, aCons, aNil, cell, datas, ap1, ap2, tst, gN, gsN, gsC, gT, eIsi, eIndex, eDIn, eDGet, sDPut, sLPut, sApp, own, dat, sOwn, sDic, sFz, sRetOwn, sRetN, negD, isND, notND, isNoneD, cmpD, keyD, tupleD, subD, L2.atI, L2.ixN, ρ6, c01, n01, wD]
    have ev : eVar 6 ρ6 (b1.cell :: r) = .ok (.d (.list four)) (b1.cell :: r) := rfl
    have ef : eFz (fLst (aCons (eTup (aCons (midM 3 (eC (.d (.int 3)))) (aCons (midM 4 (eC (.d (.int 99)))) aNil))) (aCons (eTup (aCons (eOp addA (eVar 3) (eTup (aCons (eC (.d (.int 0))) aNil))) (aCons (eOp addA (eVar 4) (eTup (aCons (eC (.d .none)) aNil))) aNil))) aNil))) ρ6 (b1.cell :: r) = .ok (.d (.list [wD c5 n5, wD (cs ++ [0]) (ns ++ [none])])) (b1.cell :: r) := by
      simp only [eFz, fLst, aCons, aNil, e5, e6, bind_ok]
      rfl
    simp only [sAsg, eOp, ev, ef, bind_ok, ap2, a6]
    rfl
  have s4 : (sRet (eCall (noxF F_law_some) (aCons (eVar 0) (aCons (eVar 6) aNil)))) [some (.v (.ref 0)), some (.v (.d (.int h))), some (.v (.d (wD cs ns))), some (.v (.d (.tuple (cs.map PyData.int)))), some (.v (.d (.tuple (ns.map oD)))), some (.v (.d (.int k))), some (.v (.d (.list six)))] (b1.cell :: r) = .ok (.rt (.d x)) (b2.cell :: r) := by
    simp [finF, sRet, thenS, sAsg, sIf, sNext, sDrop, sCPut, sCAug, setC, tB, tNt, tAn, tOR, eOp, eUn, eIf, eAnd, eOr, eNot, eCB, eCIx, eVar, eOwn, eC, eTup, eFz, fLst, fCat, eSl, pNone, pSome, eCall, noxF, aCons, aNil, cell, datas, ap1, ap2, tst, gN, gsN, gsC, gT, eIsi, eIndex, eDIn, eDGet, sDPut, sLPut, sApp, own, dat, sOwn, sDic, sFz, sRetOwn, sRetN, negD, isND, notND, isNoneD, cmpD, keyD, tupleD, subD, L2.atI, L2.ixN, e2]
  have main : F_law_bent [.ref 0, .d (.int h), .d (wD cs ns)] (b.cell :: r) = .ok (.d x) (b2.cell :: r) := congrArg finF (seq_step s0 (seq_step s1 (seq_step s2 (seq_step s3 s4))))
  have fin : ∃ cs' ns', x = wD cs' ns' ∧ Good cs' ns' := by
    rcases List.mem_cons.mp mx with rfl | m
    · exact ⟨_, _, rfl, okc0.good okn⟩
    rcases List.mem_cons.mp m with rfl | m
    · exact ⟨_, _, rfl, okc.good okn2⟩
    rcases List.mem_cons.mp m with rfl | m
    · exact ⟨_, _, rfl, okc3.good okn⟩
    rcases List.mem_cons.mp m with rfl | m
    · exact ⟨_, _, rfl, okc.good okn4⟩
    rcases List.mem_cons.mp m with rfl | m
    · exact ⟨_, _, rfl, okc5.good okn5⟩
    obtain rfl := List.mem_singleton.mp m
    exact ⟨_, _, rfl, okc0.good okn0⟩
  obtain ⟨cs', ns', rfl, g⟩ := fin
  exact ⟨cs', ns', b2, main, g⟩
end
end K01
set_option maxRecDepth 100000
set_option maxHeartbeats 4000000
/-! Z01s: the law itself. -/
namespace K01
open PySem Hk Pz
section
variable {cs : List Int} {ns : List (Option Int)}
theorem sh_opts {n : Nat} (os : List (Option Int)) : ∀ d ∈ os.map oD, Sh n d := fun d m => by
  obtain ⟨o, _, rfl⟩ := List.mem_map.mp m
  cases o with
  | none => exact .non
  | some i => exact .int
theorem sh_cs (cs : List Int) : Sh 1 (.tuple (cs.map PyData.int)) := .tup (sh_ints cs)
theorem sh_ns (ns : List (Option Int)) : Sh 1 (.tuple (ns.map oD)) := .tup (sh_opts ns)
theorem sh_w (cs : List Int) (ns : List (Option Int)) : Sh 2 (wD cs ns) := .tup (Shs.cons (sh_cs cs) (.cons (sh_ns ns) .nil)).all
theorem scan_sh {h n : Int} {wh : PyData} {f : Str} : ∀ {i : Nat} {cs : List Int} {ns : List (Option Int)}, scan h n i cs ns = some (wh, f) → Sh 1 wh ∧ (f = "hue" ∨ f = "next")
  | i, [], ns, e => by cases ns <;> cases e
  | i, c :: cs, [], e => by cases e
  | i, c :: cs, o :: ns, e => by
    unfold scan at e
    split at e
    · cases e; exact ⟨.tup (Shs.cons .str (.cons .int .nil)).all, .inl rfl⟩
    · split at e
      · cases e; exact ⟨.tup (Shs.cons .str (.cons .int .nil)).all, .inr rfl⟩
      · exact scan_sh e
theorem flt_sh {h : Int} {wh : PyData} {f : Str} (e : flt h cs ns = some (wh, f)) : Sh 1 wh ∧ Sh 1 (.str f) := by
  unfold flt at e
  split at e
  · cases e; exact ⟨.tup (Shs.cons .str .nil).all, .str⟩
  · obtain ⟨a, b⟩ := scan_sh e
    rcases b with rfl | rfl
    · exact ⟨a, .str⟩
    · exact ⟨a, .str⟩
/-- what the law has under its names -/
abbrev EE (h : Int) (w : PyData) (t l b f wr mn ci th wy af rg on fe fr : Option Sl) : Pz.Env := [none, some (.v (.ref 0)), t, some (.v (.d (.int h))), some (.v (.d w)), l, b, f, wr, mn, ci, th, wy, af, rg, on, fe, fr]
def badW (wh : PyData) (f : Str) : PyData := .tuple [.str "BadWorld", wh, .str f]
theorem hear_bad {wh : PyData} {f : Str} {s : Store} : hearO known6 (.exc ⟨"BadWorld", [("where", wh), ("fault", .str f)]⟩ s) = .ok (.d (badW wh f)) s := if_pos (e := Out.stk) (show (("BadWorld" : Str), ([("where", wh), ("fault", PyData.str f)] : List (Str × PyData)).map (·.1)) ∈ known6 by show (("BadWorld" : Str), (["where", "fault"] : List Str)) ∈ known6; decide)
theorem hear_no {s : Store} : hearO known6 (.exc ⟨"Nothing", []⟩ s) = .ok (.d (.tuple [.str "Nothing"])) s := if_pos (e := Out.stk) (show (("Nothing" : Str), ([] : List Str)) ∈ known6 by decide)
theorem add_bad {wh : PyData} {f : Str} : addA (.tuple [.str "BadWorld"]) (.tuple [wh, .str f]) = some (badW wh f) := if_pos (lim_of (show 1 + 2 ≤ 3 by decide))
theorem sh_bad {wh : PyData} {f : Str} (h : Sh 1 wh ∧ Sh 1 (.str f)) : Sh 2 (badW wh f) := .tup (Shs.cons .str (.cons h.1 (.cons h.2 .nil))).all
theorem sh_told {n : Nat} {d : PyData} (h : Sh n d) : Sh (n + 1) (.tuple [.str "told", d]) := .tup (Shs.cons .str (.cons h .nil)).all
section
variable {h : Int} {t l bb f wr mn ci th wy af rg on fe fr : Option Sl}
theorem bent_step (d : Drawn h cs ns) (h1 : 1 ≤ h) (h3 : h ≤ 3) (b : Bag) : ∃ b6 f7, ∃ b' : Bag, L_law_1 (EE h (wD cs ns) t l bb f wr mn ci th wy af rg on fe fr) [b.cell] = .ok (.nx (EE h (wD cs ns) t l b6 f7 wr mn ci th wy af rg on fe fr)) [b'.cell] := by
  obtain ⟨cs', ns', b', e, g⟩ := bent_law b d h1 []
  have hb : isBet (.int h) 1 3 = true := by show (decide (1 ≤ h) && decide (h ≤ 3)) = true; simp [h1, h3]
  refine ⟨some (.v (.d (wD cs' ns'))), some (.v (.d (fltT (flt 3 cs' ns')))), b', ?_⟩
  refine seq_step (ρ1 := EE h (wD cs ns) t l (some (.v (.d (wD cs' ns')))) f wr mn ci th wy af rg on fe fr) (s1 := [b'.cell]) (by simp [finF, sRet, thenS, sAsg, sIf, sNext, sDrop, sCPut, sCAug, setC, tB, tNt, tAn, tOR, eOp, eUn, eIf, eAnd, eOr, eNot, eCB, eCIx, eVar, eOwn, eC, eTup, eFz, fLst, fCat, eSl, pNone, pSome, eCall, noxF, aCons, aNil, cell, datas, ap1, ap2, tst, gN, gsN, gsC, gT, eIsi, eIndex, eDIn, eDGet, sDPut, sLPut, sApp, own, dat, sOwn, sDic, sFz, sRetOwn, sRetN, negD, isND, notND, isNoneD, cmpD, keyD, tupleD, subD, L2.atI, L2.ixN, e]) ?_
  refine seq_step (ρ1 := EE h (wD cs ns) t l (some (.v (.d (wD cs' ns')))) (some (.v (.d (fltT (flt h cs' ns'))))) wr mn ci th wy af rg on fe fr) (s1 := [b'.cell]) (by simp [finF, sRet, thenS, sAsg, sIf, sNext, sDrop, sCPut, sCAug, setC, tB, tNt, tAn, tOR, eOp, eUn, eIf, eAnd, eOr, eNot, eCB, eCIx, eVar, eOwn, eC, eTup, eFz, fLst, fCat, eSl, pNone, pSome, eCall, noxF, aCons, aNil, cell, datas, ap1, ap2, tst, gN, gsN, gsC, gT, eIsi, eIndex, eDIn, eDGet, sDPut, sLPut, sApp, own, dat, sOwn, sDic, sFz, sRetOwn, sRetN, negD, isND, notND, isNoneD, cmpD, keyD, tupleD, subD, L2.atI, L2.ixN, f_law_fault]) ?_
  have fc := f_checked (s := [b'.cell]) hb g
  have t3 : (tB (eOp neD (eHear known6 (eCall F_checked_world (aCons (eVar 3) (aCons (eVar 6) aNil)))) (eIf (tB (eOp isND (eVar 7) (eC (.d .none)))) (eTup (aCons (eC (.d (.str "told"))) (aCons (eVar 6) aNil))) (eOp addA (eTup (aCons (eC (.d (.str "BadWorld"))) aNil)) (eVar 7))))) (EE h (wD cs ns) t l (some (.v (.d (wD cs' ns')))) (some (.v (.d (fltT (flt h cs' ns'))))) wr mn ci th wy af rg on fe fr) [b'.cell] = .ok false [b'.cell] := by
    cases ef : flt h cs' ns' with
    | none =>
      rw [ef] at fc
      have n1 := ne_same (sh_told (sh_w cs' ns'))
      simp [finF, sRet, thenS, sAsg, sIf, sNext, sDrop, sCPut, sCAug, setC, tB, tNt, tAn, tOR, eOp, eUn, eIf, eAnd, eOr, eNot, eCB, eCIx, eVar, eOwn, eC, eTup, eFz, fLst, fCat, eSl, pNone, pSome, eCall, noxF, aCons, aNil, cell, datas, ap1, ap2, tst, gN, gsN, gsC, gT, eIsi, eIndex, eDIn, eDGet, sDPut, sLPut, sApp, own, dat, sOwn, sDic, sFz, sRetOwn, sRetN, negD, isND, notND, isNoneD, cmpD, keyD, tupleD, subD, L2.atI, L2.ixN, eHear, hearO, fc, fltT, n1]
    | some p =>
      obtain ⟨wh, f⟩ := p
      rw [ef] at fc
      have n1 := ne_same (sh_bad (flt_sh ef))
      simp [finF, sRet, thenS, sAsg, sIf, sNext, sDrop, sCPut, sCAug, setC, tB, tNt, tAn, tOR, eOp, eUn, eIf, eAnd, eOr, eNot, eCB, eCIx, eVar, eOwn, eC, eTup, eFz, fLst, fCat, eSl, pNone, pSome, eCall, noxF, aCons, aNil, cell, datas, ap1, ap2, tst, gN, gsN, gsC, gT, eIsi, eIndex, eDIn, eDGet, sDPut, sLPut, sApp, own, dat, sOwn, sDic, sFz, sRetOwn, sRetN, negD, isND, notND, isNoneD, cmpD, keyD, tupleD, subD, L2.atI, L2.ixN, eHear, fc, fltT, hear_bad, add_bad, n1]
  refine seq_step ((if_false_ t3).trans rfl) ?_
  refine seq_step (ρ1 := EE h (wD cs ns) t l (some (.v (.d (wD cs' ns')))) (some (.v (.d (fltT (flt 3 cs' ns'))))) wr mn ci th wy af rg on fe fr) (s1 := [b'.cell]) (by simp [finF, sRet, thenS, sAsg, sIf, sNext, sDrop, sCPut, sCAug, setC, tB, tNt, tAn, tOR, eOp, eUn, eIf, eAnd, eOr, eNot, eCB, eCIx, eVar, eOwn, eC, eTup, eFz, fLst, fCat, eSl, pNone, pSome, eCall, noxF, aCons, aNil, cell, datas, ap1, ap2, tst, gN, gsN, gsC, gT, eIsi, eIndex, eDIn, eDGet, sDPut, sLPut, sApp, own, dat, sOwn, sDic, sFz, sRetOwn, sRetN, negD, isND, notND, isNoneD, cmpD, keyD, tupleD, subD, L2.atI, L2.ixN, f_law_fault]) ?_
  have t5 : (tAn (tB (eOp notND (eVar 7) (eC (.d .none)))) (tB (eOp neD (eHear known6 (eCall F_on_rings (aCons (eVar 6) aNil))) (eOp addA (eTup (aCons (eC (.d (.str "BadWorld"))) aNil)) (eVar 7))))) (EE h (wD cs ns) t l (some (.v (.d (wD cs' ns')))) (some (.v (.d (fltT (flt 3 cs' ns'))))) wr mn ci th wy af rg on fe fr) [b'.cell] = .ok false [b'.cell] := by
    cases ef : flt 3 cs' ns' with
    | none => simp [finF, sRet, thenS, sAsg, sIf, sNext, sDrop, sCPut, sCAug, setC, tB, tNt, tAn, tOR, eOp, eUn, eIf, eAnd, eOr, eNot, eCB, eCIx, eVar, eOwn, eC, eTup, eFz, fLst, fCat, eSl, pNone, pSome, eCall, noxF, aCons, aNil, cell, datas, ap1, ap2, tst, gN, gsN, gsC, gT, eIsi, eIndex, eDIn, eDGet, sDPut, sLPut, sApp, own, dat, sOwn, sDic, sFz, sRetOwn, sRetN, negD, isND, notND, isNoneD, cmpD, keyD, tupleD, subD, L2.atI, L2.ixN, fltT]
    | some p =>
      obtain ⟨wh, f⟩ := p
      have fo := f_on_rings_bad (s := [b'.cell]) g ef
      have n1 := ne_same (sh_bad (flt_sh ef))
      simp [finF, sRet, thenS, sAsg, sIf, sNext, sDrop, sCPut, sCAug, setC, tB, tNt, tAn, tOR, eOp, eUn, eIf, eAnd, eOr, eNot, eCB, eCIx, eVar, eOwn, eC, eTup, eFz, fLst, fCat, eSl, pNone, pSome, eCall, noxF, aCons, aNil, cell, datas, ap1, ap2, tst, gN, gsN, gsC, gT, eIsi, eIndex, eDIn, eDGet, sDPut, sLPut, sApp, own, dat, sOwn, sDic, sFz, sRetOwn, sRetN, negD, isND, notND, isNoneD, cmpD, keyD, tupleD, subD, L2.atI, L2.ixN, eHear, fo, fltT, hear_bad, add_bad, n1]
  exact (if_false_ t5).trans rfl
theorem wrong_world {x : PyData} (hz : short x) (sh : Sh 2 x) (hx : isWorld x = false ∨ x = .tuple [.tuple [], .tuple []]) (b : Bag) : L_law_2 (EE h (wD cs ns) t l bb f (some (.v (.d x))) mn ci th wy af rg on fe fr) [b.cell] = .ok (.nx (EE h (wD cs ns) t l bb f (some (.v (.d x))) mn ci th wy af rg on fe fr)) [b.cell] := by
  have sE : Sh 2 (.tuple [.tuple [], .tuple []]) := .tup (Shs.cons (.mono (.tup (n := 0) (fun d m => by cases m))) (.cons (.mono (.tup (n := 0) (fun d m => by cases m))) .nil)).all
  refine (if_false_ ?_).trans rfl
  rcases hx with hx | rfl
  · have c := eqB_other (a := x) (b := .tuple [.tuple [], .tuple []]) (fun i e => by cases e) (fun i e => by cases e) sh.ok sE.ok
    have n0 : neD x (.tuple [.tuple [], .tuple []]) = some (.bool (!PyData.eqv x (.tuple [.tuple [], .tuple []]))) := by unfold neD; rw [c]; rfl
    have n1 := ne_same (d := .tuple [.str "Nothing"]) (.tup (n := 0) (Shs.cons .str .nil).all)
    have fc := f_checked_bad (hd := .int h) (x := x) (s := [b.cell]) (by rw [hx, Bool.and_false]) hz
    cases PyData.eqv x (.tuple [.tuple [], .tuple []]) <;> simp [finF, sRet, thenS, sAsg, sIf, sNext, sDrop, sCPut, sCAug, setC, tB, tNt, tAn, tOR, eOp, eUn, eIf, eAnd, eOr, eNot, eCB, eCIx, eVar, eOwn, eC, eTup, eFz, fLst, fCat, eSl, pNone, pSome, eCall, noxF, aCons, aNil, cell, datas, ap1, ap2, tst, gN, gsN, gsC, gT, eIsi, eIndex, eDIn, eDGet, sDPut, sLPut, sApp, own, dat, sOwn, sDic, sFz, sRetOwn, sRetN, negD, isND, notND, isNoneD, cmpD, keyD, tupleD, subD, L2.atI, L2.ixN, eHear, n0, fc, hear_no, n1]
  · have n0 := ne_same sE
    simp [finF, sRet, thenS, sAsg, sIf, sNext, sDrop, sCPut, sCAug, setC, tB, tNt, tAn, tOR, eOp, eUn, eIf, eAnd, eOr, eNot, eCB, eCIx, eVar, eOwn, eC, eTup, eFz, fLst, fCat, eSl, pNone, pSome, eCall, noxF, aCons, aNil, cell, datas, ap1, ap2, tst, gN, gsN, gsC, gT, eIsi, eIndex, eDIn, eDGet, sDPut, sLPut, sApp, own, dat, sOwn, sDic, sFz, sRetOwn, sRetN, negD, isND, notND, isNoneD, cmpD, keyD, tupleD, subD, L2.atI, L2.ixN, n0]
theorem wrong_hue {x : PyData} (hx : isBet x 1 3 = false) (g : Good cs ns) (b : Bag) : L_law_3 (EE h (wD cs ns) t l bb f (some (.v (.d x))) mn ci th wy af rg on fe fr) [b.cell] = .ok (.nx (EE h (wD cs ns) t l bb f (some (.v (.d x))) mn ci th wy af rg on fe fr)) [b.cell] := by
  refine (if_false_ ?_).trans rfl
  have n1 := ne_same (d := .tuple [.str "Nothing"]) (.tup (n := 0) (Shs.cons .str .nil).all)
  have fc := f_checked_bad (hd := x) (x := wD cs ns) (s := [b.cell]) (by rw [hx, Bool.false_and]) g.short
  simp [finF, sRet, thenS, sAsg, sIf, sNext, sDrop, sCPut, sCAug, setC, tB, tNt, tAn, tOR, eOp, eUn, eIf, eAnd, eOr, eNot, eCB, eCIx, eVar, eOwn, eC, eTup, eFz, fLst, fCat, eSl, pNone, pSome, eCall, noxF, aCons, aNil, cell, datas, ap1, ap2, tst, gN, gsN, gsC, gT, eIsi, eIndex, eDIn, eDGet, sDPut, sLPut, sApp, own, dat, sOwn, sDic, sFz, sRetOwn, sRetN, negD, isND, notND, isNoneD, cmpD, keyD, tupleD, subD, L2.atI, L2.ixN, eHear, fc, hear_no, n1]
theorem wrong_thing {x : PyData} (w : W3 cs ns) (hx : ∀ j, x = .int j → 0 ≤ j → (cs.length : Int) ≤ j) (b : Bag) : L_law_5 (EE h (wD cs ns) t l bb f (some (.v (.d x))) mn ci th wy af rg on fe fr) [b.cell] = .ok (.nx (EE h (wD cs ns) t l bb f (some (.v (.d x))) mn ci th wy af rg on fe fr)) [b.cell] := by
  have n1 := ne_same (d := .tuple [.str "Nothing"]) (.tup (n := 0) (Shs.cons .str .nil).all)
  refine seq_skip (s1 := [b.cell]) ?_ (if_skip ?_)
  · simp [finF, sRet, thenS, sAsg, sIf, sNext, sDrop, sCPut, sCAug, setC, tB, tNt, tAn, tOR, eOp, eUn, eIf, eAnd, eOr, eNot, eCB, eCIx, eVar, eOwn, eC, eTup, eFz, fLst, fCat, eSl, pNone, pSome, eCall, noxF, aCons, aNil, cell, datas, ap1, ap2, tst, gN, gsN, gsC, gT, eIsi, eIndex, eDIn, eDGet, sDPut, sLPut, sApp, own, dat, sOwn, sDic, sFz, sRetOwn, sRetN, negD, isND, notND, isNoneD, cmpD, keyD, tupleD, subD, L2.atI, L2.ixN, eHear, f_way_bad w hx, hear_no, n1]
  · simp [finF, sRet, thenS, sAsg, sIf, sNext, sDrop, sCPut, sCAug, setC, tB, tNt, tAn, tOR, eOp, eUn, eIf, eAnd, eOr, eNot, eCB, eCIx, eVar, eOwn, eC, eTup, eFz, fLst, fCat, eSl, pNone, pSome, eCall, noxF, aCons, aNil, cell, datas, ap1, ap2, tst, gN, gsN, gsC, gT, eIsi, eIndex, eDIn, eDGet, sDPut, sLPut, sApp, own, dat, sOwn, sDic, sFz, sRetOwn, sRetN, negD, isND, notND, isNoneD, cmpD, keyD, tupleD, subD, L2.atI, L2.ixN, eHear, f_pointing_bad w hx, hear_no, n1]
def circ (ns : List (Option Int)) (n : Nat) : List Int := ((List.range n).filter fun k => decide (((k : Nat) : Int) ∈ ringOf ns (k : Nat))).map fun k => ((k : Nat) : Int)
theorem circ_succ (ns : List (Option Int)) (n : Nat) : circ ns (n + 1) = circ ns n ++ if ((n : Nat) : Int) ∈ ringOf ns (n : Nat) then [((n : Nat) : Int)] else [] := by
  unfold circ
  rw [List.range_succ, List.filter_append, List.map_append]
  by_cases h : ((n : Nat) : Int) ∈ ringOf ns (n : Nat)
  · rw [if_pos h, List.filter_cons_of_pos (by simpa using h)]; rfl
  · rw [if_neg h, List.filter_cons_of_neg (by simpa using h)]; rfl
theorem circ_len (ns : List (Option Int)) (n : Nat) : (circ ns n).length ≤ n := by
  unfold circ
  rw [List.length_map]
  exact Nat.le_trans (List.length_filter_le _ _) (by rw [List.length_range]; exact Nat.le_refl _)
theorem ok_oD {o : Option Int} (h : ∀ j, o = some j → 0 ≤ j ∧ j < 1000000000000) : okd (oD o) = true := by
  cases o with
  | none => exact OkAt.non.okd (by decide) (by decide)
  | some j => exact (OkAt.int (by have := h j rfl; omega)).okd (by decide) (by decide)
theorem ok_ints {is : List Int} (hi : ∀ i ∈ is, 0 ≤ i ∧ i < 1000000000000) (l : is.length ≤ 400) : OkAt 1 (41 * 400) (.tuple (is.map PyData.int)) := .tup (fun d m => by
  obtain ⟨i, mi, rfl⟩ := List.mem_map.mp m
  exact .int (by have := hi i mi; omega)) (by rw [List.length_map]; exact l)
theorem far_step {j : Nat} (F : Fine ns) (tj : Thing ns (j : Nat)) (l7 : ns.length ≤ 7) (tt few : Nat) : stp ns (840 * (10 ^ 20 + tt) + few) (some (j : Nat)) = stp ns (840 + few) (some (j : Nat)) := by
  obtain ⟨o, en⟩ := wayOf_end F tj
  have lw := en.toWst.le
  rw [stepped_eq en, stepped_eq en, if_neg (show ¬ 840 * (10 ^ 20 + tt) + few < (wayOf ns (j : Nat)).length by omega), if_neg (show ¬ 840 + few < (wayOf ns (j : Nat)).length by omega)]
  split
  · rfl
  · rename_i h0
    have hR : (ringOf ns (j : Nat)).length ≤ 7 := by
      rw [ring_eq en]
      cases o with
      | none => simp [ringW]
      | some i => rw [ringW, List.length_drop]; omega
    rw [far_eq (List.length_pos_iff.mpr h0) hR (by omega)]
theorem thing_step (d : Drawn h cs ns) (h3 : h ≤ 3) {j : Nat} (hj : j < cs.length) (b : Bag) : ∃ a12 a13 a14 a15 a16 a17, ∃ b' : Bag, L_law_4 (EE h (wD cs ns) t l bb f wr (some (.v (.d (.int (cs.length : Nat))))) (some (.v (.d (.list ((circ ns j).map PyData.int))))) (some (.v (.d (.int (j : Nat))))) wy af rg on fe fr) [b.cell] = .ok (.nx (EE h (wD cs ns) t l bb f wr (some (.v (.d (.int (cs.length : Nat))))) (some (.v (.d (.list ((circ ns (j + 1)).map PyData.int))))) (some (.v (.d (.int (j : Nat))))) a12 a13 a14 a15 a16 a17)) [b'.cell] := by
  have few := d.few
  have len := d.len
  have F := d.fine
  have w := d.w3 h3
  have tj : Thing ns (j : Nat) := ⟨by omega, by omega⟩
  obtain ⟨o, en⟩ := wayOf_end F tj
  have lw := en.toWst.le
  have tl : Thing ns ((wayOf ns j).getLast?.getD 0) := by
    rw [List.getLast?_eq_some_getLast en.ne]
    exact en.th _ (List.getLast_mem en.ne)
  have el : nx ns ((wayOf ns j).getLast?.getD 0) = o := en.last
  have er : ringOf ns j = ringW (wayOf ns j) o := ring_eq en
  have lr : (ringOf ns j).length ≤ 7 := by
    rw [er]
    cases o with
    | none => simp [ringW]
    | some i => rw [ringW, List.length_drop]; omega
  have mr : ∀ x ∈ ringOf ns j, x ∈ wayOf ns j := fun x m => by
    rw [er] at m
    cases o with
    | none => cases m
    | some i => exact List.mem_of_mem_drop m
  obtain ⟨f1, b1, e1, f0, f2⟩ := take_law b 20 (by decide) (by decide) []
  obtain ⟨fw, rfl⟩ := Int.eq_ofNat_of_zero_le f0
  obtain ⟨t1, b2, e2, t0, t2⟩ := take_law b1 1000 (by decide) (by decide) []
  obtain ⟨tt, rfl⟩ := Int.eq_ofNat_of_zero_le t0
  let W : Option Sl := some (.v (.d (.list ((wayOf ns j).map PyData.int))))
  let R : Option Sl := some (.v (.d (.list ((ringOf ns j).map PyData.int))))
  let A : Option Sl := some (.v (.d (oD o)))
  let M : Option Sl := some (.v (.d (.int (cs.length : Nat))))
  let J : Option Sl := some (.v (.d (.int (j : Nat))))
  let C0 : Option Sl := some (.v (.d (.list ((circ ns j).map PyData.int))))
  let C1 : Option Sl := some (.v (.d (.list ((circ ns (j + 1)).map PyData.int))))
  let FE : Option Sl := some (.v (.d (.int (fw : Nat))))
  obtain ⟨BIG, hB⟩ : ∃ z : Int, z = ((840 * (10 ^ 20 + tt) + fw : Nat) : Int) := ⟨_, rfl⟩
  let FR : Option Sl := some (.v (.d (.int BIG)))
  refine ⟨W, A, R, on, FE, FR, b2, ?_⟩
  refine seq_step (ρ1 := EE h (wD cs ns) t l bb f wr M C0 J W af rg on fe fr) (s1 := [b.cell]) (by simp [finF, sRet, thenS, sAsg, sIf, sNext, sDrop, sCPut, sCAug, setC, tB, tNt, tAn, tOR, eOp, eUn, eIf, eAnd, eOr, eNot, eCB, eCIx, eVar, eOwn, eC, eTup, eFz, fLst, fCat, eSl, pNone, pSome, eCall, noxF, aCons, aNil, cell, datas, ap1, ap2, tst, gN, gsN, gsC, gT, eIsi, eIndex, eDIn, eDGet, sDPut, sLPut, sApp, own, dat, sOwn, sDic, sFz, sRetOwn, sRetN, negD, isND, notND, isNoneD, cmpD, keyD, tupleD, subD, L2.atI, L2.ixN, f_law_way F tj (by omega), M, C0, J, W]) ?_
  refine seq_step (ρ1 := EE h (wD cs ns) t l bb f wr M C0 J W A rg on fe fr) (s1 := [b.cell]) (by
    have ng : negD (.int 1) = some (.int (-1)) := rfl
    simp [finF, sRet, thenS, sAsg, sIf, sNext, sDrop, sCPut, sCAug, setC, tB, tNt, tAn, tOR, eOp, eUn, eIf, eAnd, eOr, eNot, eCB, eCIx, eVar, eOwn, eC, eTup, eFz, fLst, fCat, eSl, pNone, pSome, eCall, noxF, aCons, aNil, cell, datas, ap1, ap2, tst, gN, gsN, gsC, gT, eIsi, eIndex, eDIn, eDGet, sDPut, sLPut, sApp, own, dat, sOwn, sDic, sFz, sRetOwn, sRetN, negD, isND, notND, isNoneD, cmpD, keyD, tupleD, subD, L2.atI, L2.ixN, ng, at_last en.ne, ix1, ix_at tl, el, M, C0, J, W, A]) ?_
  refine seq_step (ρ1 := EE h (wD cs ns) t l bb f wr M C0 J W A R on fe fr) (s1 := [b.cell]) (by
    rw [show R = some (.v (.d (.list ((ringW (wayOf ns j) o).map PyData.int)))) by rw [← er]]
    cases o with
    | none => simp [finF, sRet, thenS, sAsg, sIf, sNext, sDrop, sCPut, sCAug, setC, tB, tNt, tAn, tOR, eOp, eUn, eIf, eAnd, eOr, eNot, eCB, eCIx, eVar, eOwn, eC, eTup, eFz, fLst, fCat, eSl, pNone, pSome, eCall, noxF, aCons, aNil, cell, datas, ap1, ap2, tst, gN, gsN, gsC, gT, eIsi, eIndex, eDIn, eDGet, sDPut, sLPut, sApp, own, dat, sOwn, sDic, sFz, sRetOwn, sRetN, negD, isND, notND, isNoneD, cmpD, keyD, tupleD, subD, L2.atI, L2.ixN, M, C0, J, W, A, oD, ringW]
    | some i =>
      have hi := index_ints (en.en i rfl)
      have hc := cut_from (wayOf ns j) _ (Nat.le_of_lt (List.idxOf_lt_length_of_mem (en.en i rfl)))
      simp [finF, sRet, thenS, sAsg, sIf, sNext, sDrop, sCPut, sCAug, setC, tB, tNt, tAn, tOR, eOp, eUn, eIf, eAnd, eOr, eNot, eCB, eCIx, eVar, eOwn, eC, eTup, eFz, fLst, fCat, eSl, pNone, pSome, eCall, noxF, aCons, aNil, cell, datas, ap1, ap2, tst, gN, gsN, gsC, gT, eIsi, eIndex, eDIn, eDGet, sDPut, sLPut, sApp, own, dat, sOwn, sDic, sFz, sRetOwn, sRetN, negD, isND, notND, isNoneD, cmpD, keyD, tupleD, subD, L2.atI, L2.ixN, M, C0, J, W, A, oD, hi, hc, ringW]) ?_
  refine seq_step (ρ1 := EE h (wD cs ns) t l bb f wr M C1 J W A R on fe fr) (s1 := [b.cell]) (by
    have hin := in_ints (j : Nat) (ringOf ns j)
    have cl := circ_len ns j
    by_cases hm : ((j : Nat) : Int) ∈ ringOf ns j
    · rw [decide_eq_true hm] at hin
      have ha : addA (.list ((circ ns j).map PyData.int)) (.list [.int (j : Nat)]) = some (.list ((circ ns (j + 1)).map PyData.int)) := by
        rw [circ_succ, if_pos hm, List.map_append]
        exact if_pos (by rw [List.length_map]; exact lim_of (show (circ ns j).length + 1 ≤ 8 by omega))
      simp [finF, sRet, thenS, sAsg, sIf, sNext, sDrop, sCPut, sCAug, setC, tB, tNt, tAn, tOR, eOp, eUn, eIf, eAnd, eOr, eNot, eCB, eCIx, eVar, eOwn, eC, eTup, eFz, fLst, fCat, eSl, pNone, pSome, eCall, noxF, aCons, aNil, cell, datas, ap1, ap2, tst, gN, gsN, gsC, gT, eIsi, eIndex, eDIn, eDGet, sDPut, sLPut, sApp, own, dat, sOwn, sDic, sFz, sRetOwn, sRetN, negD, isND, notND, isNoneD, cmpD, keyD, tupleD, subD, L2.atI, L2.ixN, M, C0, C1, J, W, A, R, hin, ha]
    · rw [decide_eq_false hm] at hin
      have ha : addA (.list ((circ ns j).map PyData.int)) (.list []) = some (.list ((circ ns (j + 1)).map PyData.int)) := by
        rw [circ_succ, if_neg hm, List.map_append]
        exact if_pos (by rw [List.length_map]; exact lim_of (show (circ ns j).length + 0 ≤ 8 by omega))
      simp [finF, sRet, thenS, sAsg, sIf, sNext, sDrop, sCPut, sCAug, setC, tB, tNt, tAn, tOR, eOp, eUn, eIf, eAnd, eOr, eNot, eCB, eCIx, eVar, eOwn, eC, eTup, eFz, fLst, fCat, eSl, pNone, pSome, eCall, noxF, aCons, aNil, cell, datas, ap1, ap2, tst, gN, gsN, gsC, gT, eIsi, eIndex, eDIn, eDGet, sDPut, sLPut, sApp, own, dat, sOwn, sDic, sFz, sRetOwn, sRetN, negD, isND, notND, isNoneD, cmpD, keyD, tupleD, subD, L2.atI, L2.ixN, M, C0, C1, J, W, A, R, hin, ha]) ?_
  have oki : ∀ x ∈ wayOf ns j, 0 ≤ x ∧ x < 1000000000000 := fun x m => by
    have := en.th x m
    exact ⟨this.1, by have := this.2; omega⟩
  refine seq_step (ρ1 := EE h (wD cs ns) t l bb f wr M C1 J W A R on fe fr) (s1 := [b.cell]) ((if_false_ (by
    have ok := f_alike (s := [b.cell]) (d := .list [.tuple ((wayOf ns j).map PyData.int), .tuple ((ringOf ns j).map PyData.int)]) ((OkAt.lst (m := 2) (fun d m => by
      rcases List.mem_cons.mp m with rfl | m
      · exact ok_ints oki (by omega)
      · obtain rfl := List.mem_singleton.mp m
        exact ok_ints (fun x m => oki x (mr x m)) (by omega)) (Nat.le_refl _)).okd (by decide) (by decide))
    simp [finF, sRet, thenS, sAsg, sIf, sNext, sDrop, sCPut, sCAug, setC, tB, tNt, tAn, tOR, eOp, eUn, eIf, eAnd, eOr, eNot, eCB, eCIx, eVar, eOwn, eC, eTup, eFz, fLst, fCat, eSl, pNone, pSome, eCall, noxF, aCons, aNil, cell, datas, ap1, ap2, tst, gN, gsN, gsC, gT, eIsi, eIndex, eDIn, eDGet, sDPut, sLPut, sApp, own, dat, sOwn, sDic, sFz, sRetOwn, sRetN, negD, isND, notND, isNoneD, cmpD, keyD, tupleD, subD, L2.atI, L2.ixN, M, C1, J, W, A, R, f_way_of w hj, f_ring_of w hj, tupleD, ok])).trans rfl) ?_
  refine seq_step (ρ1 := EE h (wD cs ns) t l bb f wr M C1 J W A R on fe fr) (s1 := [b.cell]) ((if_false_ (by
    have hn := ne_same (d := .tuple ((ptr ns ns.length (j : Nat)).map PyData.int)) (.tup (n := 0) (sh_ints _))
    have hc : (fLc (itRng1 (eVar 9)) (gN 15) (tB (eOp eqD (eOp ixD (eOp ixD (eVar 4) (eC (.d (.int 1)))) (eVar 15)) (eVar 11))) (eVar 15) [15]) (EE h (wD cs ns) t l bb f wr M C1 J W A R on fe fr) [b.cell] = .ok ((ptr ns ns.length (j : Nat)).map PyData.int) [b.cell] := by
      rw [fLc_d (fun k : Nat => AV.d (.int (k : Nat))) (fun k => nx ns (k : Nat) == some ((j : Nat) : Int)) (fun k => .int (k : Nat)) (List.range cs.length) (itRng1_nat (by simp [eVar, M]) (by omega)) (by rw [List.length_range]; exact lim_of (show cs.length ≤ 7 by omega)) (fun k mk => by
        have lk := List.mem_range.mp mk
        refine ⟨EE h (wD cs ns) t l bb f wr M C1 J W A R (some (.v (.d (.int (k : Nat))))) fe fr, rfl, ?_, fun _ => ?_⟩
        · simp [finF, sRet, thenS, sAsg, sIf, sNext, sDrop, sCPut, sCAug, setC, tB, tNt, tAn, tOR, eOp, eUn, eIf, eAnd, eOr, eNot, eCB, eCIx, eVar, eOwn, eC, eTup, eFz, fLst, fCat, eSl, pNone, pSome, eCall, noxF, aCons, aNil, cell, datas, ap1, ap2, tst, gN, gsN, gsC, gT, eIsi, eIndex, eDIn, eDGet, sDPut, sLPut, sApp, own, dat, sOwn, sDic, sFz, sRetOwn, sRetN, negD, isND, notND, isNoneD, cmpD, keyD, tupleD, subD, L2.atI, L2.ixN, M, C1, J, W, A, R, ix1, ix_at (show Thing ns (k : Nat) from ⟨by omega, by omega⟩), eq_opt]
        · simp [finF, sRet, thenS, sAsg, sIf, sNext, sDrop, sCPut, sCAug, setC, tB, tNt, tAn, tOR, eOp, eUn, eIf, eAnd, eOr, eNot, eCB, eCIx, eVar, eOwn, eC, eTup, eFz, fLst, fCat, eSl, pNone, pSome, eCall, noxF, aCons, aNil, cell, datas, ap1, ap2, tst, gN, gsN, gsC, gT, eIsi, eIndex, eDIn, eDGet, sDPut, sLPut, sApp, own, dat, sOwn, sDic, sFz, sRetOwn, sRetN, negD, isND, notND, isNoneD, cmpD, keyD, tupleD, subD, L2.atI, L2.ixN, M, C1, J, W, A, R])]
      unfold ptr
      rw [List.map_map, len]
      rfl
    simp [finF, sRet, thenS, sAsg, sIf, sNext, sDrop, sCPut, sCAug, setC, tB, tNt, tAn, tOR, eOp, eUn, eIf, eAnd, eOr, eNot, eCB, eCIx, eVar, eOwn, eC, eTup, eFz, fLst, fCat, eSl, pNone, pSome, eCall, noxF, aCons, aNil, cell, datas, ap1, ap2, tst, gN, gsN, gsC, gT, eIsi, eIndex, eDIn, eDGet, sDPut, sLPut, sApp, own, dat, sOwn, sDic, sFz, sRetOwn, sRetN, negD, isND, notND, isNoneD, cmpD, keyD, tupleD, subD, L2.atI, L2.ixN, M, C1, J, W, A, R, f_pointing w hj, hc, tupleD, hn])).trans rfl) ?_
  refine seq_step (ρ1 := EE h (wD cs ns) t l bb f wr M C1 J W A R on FE fr) (s1 := [b1.cell]) (by simp [finF, sRet, thenS, sAsg, sIf, sNext, sDrop, sCPut, sCAug, setC, tB, tNt, tAn, tOR, eOp, eUn, eIf, eAnd, eOr, eNot, eCB, eCIx, eVar, eOwn, eC, eTup, eFz, fLst, fCat, eSl, pNone, pSome, eCall, noxF, aCons, aNil, cell, datas, ap1, ap2, tst, gN, gsN, gsC, gT, eIsi, eIndex, eDIn, eDGet, sDPut, sLPut, sApp, own, dat, sOwn, sDic, sFz, sRetOwn, sRetN, negD, isND, notND, isNoneD, cmpD, keyD, tupleD, subD, L2.atI, L2.ixN, M, C1, J, W, A, R, FE, e1]) ?_
  have okS : ∀ m, okd (oD (stp ns m (some ((j : Nat) : Int)))) = true := fun m => ok_oD fun k e => by
    have := stp_thing F tj m k e
    exact ⟨this.1, by have := this.2; omega⟩
  refine seq_step (ρ1 := EE h (wD cs ns) t l bb f wr M C1 J W A R on FE fr) (s1 := [b1.cell]) ((if_false_ (by
    simp [finF, sRet, thenS, sAsg, sIf, sNext, sDrop, sCPut, sCAug, setC, tB, tNt, tAn, tOR, eOp, eUn, eIf, eAnd, eOr, eNot, eCB, eCIx, eVar, eOwn, eC, eTup, eFz, fLst, fCat, eSl, pNone, pSome, eCall, noxF, aCons, aNil, cell, datas, ap1, ap2, tst, gN, gsN, gsC, gT, eIsi, eIndex, eDIn, eDGet, sDPut, sLPut, sApp, own, dat, sOwn, sDic, sFz, sRetOwn, sRetN, negD, isND, notND, isNoneD, cmpD, keyD, tupleD, subD, L2.atI, L2.ixN, M, C1, J, W, A, R, FE, f_stepped w hj, f_law_steps F tj fw (by omega), f_alike (okS fw)])).trans rfl) ?_
  refine seq_step (ρ1 := EE h (wD cs ns) t l bb f wr M C1 J W A R on FE FR) (s1 := [b2.cell]) (by
    have ep : powD (.int 10) (.int 20) = some (.int 100000000000000000000) := by
      have e : (10 : Int) ^ (20 : Int).toNat = 100000000000000000000 := by decide +kernel
      rw [← e]
      exact if_pos (e := none) (c := (0 : Int) ≤ 20 ∧ (20 : Int) ≤ 1000000 ∧ (10 : Int).natAbs < 18446744073709551616) (by decide)
    have ea : addA (.int 100000000000000000000) (.int (tt : Nat)) = some (.int (100000000000000000000 + (tt : Nat))) := rfl
    have em : mulD (.int 840) (.int (100000000000000000000 + (tt : Nat))) = some (.int (840 * (100000000000000000000 + (tt : Nat)))) := mul_ok (.inl (by unfold B64; decide))
    have ec : addA (.int (840 * (100000000000000000000 + (tt : Nat)))) (.int (fw : Nat)) = some (.int (840 * (100000000000000000000 + (tt : Nat)) + (fw : Nat))) := rfl
    have ef : (840 * (100000000000000000000 + ((tt : Nat) : Int)) + ((fw : Nat) : Int)) = ((840 * (10 ^ 20 + tt) + fw : Nat) : Int) := by omega
    rw [← hB] at ef
    rw [ef] at ec
    simp [finF, sRet, thenS, sAsg, sIf, sNext, sDrop, sCPut, sCAug, setC, tB, tNt, tAn, tOR, eOp, eUn, eIf, eAnd, eOr, eNot, eCB, eCIx, eVar, eOwn, eC, eTup, eFz, fLst, fCat, eSl, pNone, pSome, eCall, noxF, aCons, aNil, cell, datas, ap1, ap2, tst, gN, gsN, gsC, gT, eIsi, eIndex, eDIn, eDGet, sDPut, sLPut, sApp, own, dat, sOwn, sDic, sFz, sRetOwn, sRetN, negD, isND, notND, isNoneD, cmpD, keyD, tupleD, subD, L2.atI, L2.ixN, M, C1, J, W, A, R, FE, FR, ep, ea, e2, em, ec]) ?_
  refine (if_false_ (?_ : _ = Out.ok false [b2.cell])).trans rfl
  have ea : addA (.int 840) (.int (fw : Nat)) = some (.int ((840 + fw : Nat) : Int)) := congrArg (fun z => some (PyData.int z)) (by omega)
  have fs := f_stepped (s := [b2.cell]) w hj (840 * (10 ^ 20 + tt) + fw)
  rw [far_step F tj (by omega) tt fw] at fs
  rw [← hB] at fs
  have fl := f_law_steps (cs := cs) (s := [b2.cell]) F tj (840 + fw) (by omega)
  generalize ((840 + fw : Nat) : Int) = B2 at fl ea
  simp [finF, sRet, thenS, sAsg, sIf, sNext, sDrop, sCPut, sCAug, setC, tB, tNt, tAn, tOR, eOp, eUn, eIf, eAnd, eOr, eNot, eCB, eCIx, eVar, eOwn, eC, eTup, eFz, fLst, fCat, eSl, pNone, pSome, eCall, noxF, aCons, aNil, cell, datas, ap1, ap2, tst, gN, gsN, gsC, gT, eIsi, eIndex, eDIn, eDGet, sDPut, sLPut, sApp, own, dat, sOwn, sDic, sFz, sRetOwn, sRetN, negD, isND, notND, isNoneD, cmpD, keyD, tupleD, subD, L2.atI, L2.ixN, M, C1, J, W, A, R, FE, FR, ea, fs, fl, f_alike (okS (840 + fw))]
end
abbrev EV0 (t hh ww l b f wr mn ci th wy af rg on fe fr : Option Sl) : Pz.Env := [none, some (.v (.ref 0)), t, hh, ww, l, b, f, wr, mn, ci, th, wy, af, rg, on, fe, fr]
theorem rep_true (n : Nat) (h : n ≤ 7) : repD (.tuple [.bool true]) (.int (n : Nat)) = some (.tuple (List.replicate n (.bool true))) := by
  show (if (0 : Int) ≤ (n : Nat) ∧ ((n : Nat) : Int) ≤ 1000 then some (PyData.tuple (List.replicate ((n : Nat) : Int).toNat (.bool true))) else none) = _
  rw [if_pos (by omega), Int.toNat_natCast]
theorem turn_step {t hh ww l bb f wr mn ci th wy af rg on fe fr : Option Sl} (b : Bag) : ∃ hh' ww' l' bb' f' wr' mn' ci' th' wy' af' rg' on' fe' fr', ∃ b' : Bag, L_law_6 (EV0 t hh ww l bb f wr mn ci th wy af rg on fe fr) [b.cell] = .ok (.nx (EV0 t hh' ww' l' bb' f' wr' mn' ci' th' wy' af' rg' on' fe' fr')) [b'.cell] := by
  obtain ⟨h0, b1, e1, p0, p1⟩ := take_law b 3 (by decide) (by decide) []
  obtain ⟨h, hhe⟩ : ∃ h : Int, h = 1 + h0 := ⟨_, rfl⟩
  have h1 : 1 ≤ h := by omega
  have h3 : h ≤ 3 := by omega
  obtain ⟨cs, ns, b2, e2, d⟩ := world_law b1 h1 h3 []
  have few := d.few
  have len := d.len
  have w := d.w3 h3
  have hb : isBet (.int h) 1 3 = true := by show (decide (1 ≤ h) && decide (h ≤ 3)) = true; simp [h1, h3]
  have fc := f_checked (s := [b2.cell]) hb d.good
  rw [d.flt (Int.le_refl _)] at fc
  have s1 : (sAsg (eOp addA (eC (.d (.int 1))) (eCall (noxF F_law_take) (aCons (eVar 1) (aCons (eC (.d (.int 3))) aNil)))) (gN 3)) (EV0 t hh ww l bb f wr mn ci th wy af rg on fe fr) [b.cell] = .ok (.nx (EV0 t (some (.v (.d (.int h)))) ww l bb f wr mn ci th wy af rg on fe fr)) [b1.cell] := by
    have ea : addA (.int 1) (.int h0) = some (.int h) := by rw [hhe]; rfl
    simp [finF, sRet, thenS, sAsg, sIf, sNext, sDrop, sCPut, sCAug, setC, tB, tNt, tAn, tOR, eOp, eUn, eIf, eAnd, eOr, eNot, eCB, eCIx, eVar, eOwn, eC, eTup, eFz, fLst, fCat, eSl, pNone, pSome, eCall, noxF, aCons, aNil, cell, datas, ap1, ap2, tst, gN, gsN, gsC, gT, eIsi, eIndex, eDIn, eDGet, sDPut, sLPut, sApp, own, dat, sOwn, sDic, sFz, sRetOwn, sRetN, negD, isND, notND, isNoneD, cmpD, keyD, tupleD, subD, L2.atI, L2.ixN, e1, ea]
  have s2 : (sAsg (eCall (noxF F_law_world) (aCons (eVar 1) (aCons (eVar 3) (aCons (eC (.d (.int 7))) aNil)))) (gN 4)) (EV0 t (some (.v (.d (.int h)))) ww l bb f wr mn ci th wy af rg on fe fr) [b1.cell] = .ok (.nx (EE h (wD cs ns) t l bb f wr mn ci th wy af rg on fe fr)) [b2.cell] := by
    simp [finF, sRet, thenS, sAsg, sIf, sNext, sDrop, sCPut, sCAug, setC, tB, tNt, tAn, tOR, eOp, eUn, eIf, eAnd, eOr, eNot, eCB, eCIx, eVar, eOwn, eC, eTup, eFz, fLst, fCat, eSl, pNone, pSome, eCall, noxF, aCons, aNil, cell, datas, ap1, ap2, tst, gN, gsN, gsC, gT, eIsi, eIndex, eDIn, eDGet, sDPut, sLPut, sApp, own, dat, sOwn, sDic, sFz, sRetOwn, sRetN, negD, isND, notND, isNoneD, cmpD, keyD, tupleD, subD, L2.atI, L2.ixN, e2]
  have t3 : (tB (eOp neD (eCall (noxF F_checked_world) (aCons (eVar 3) (aCons (eVar 4) aNil))) (eVar 4))) (EE h (wD cs ns) t l bb f wr mn ci th wy af rg on fe fr) [b2.cell] = .ok false [b2.cell] := by
    simp [finF, sRet, thenS, sAsg, sIf, sNext, sDrop, sCPut, sCAug, setC, tB, tNt, tAn, tOR, eOp, eUn, eIf, eAnd, eOr, eNot, eCB, eCIx, eVar, eOwn, eC, eTup, eFz, fLst, fCat, eSl, pNone, pSome, eCall, noxF, aCons, aNil, cell, datas, ap1, ap2, tst, gN, gsN, gsC, gT, eIsi, eIndex, eDIn, eDGet, sDPut, sLPut, sApp, own, dat, sOwn, sDic, sFz, sRetOwn, sRetN, negD, isND, notND, isNoneD, cmpD, keyD, tupleD, subD, L2.atI, L2.ixN, fc, ne_same (sh_w cs ns)]
  obtain ⟨ρ4, st4, e4, ⟨l4, bb4, f4, rfl⟩, b4, rfl⟩ := for_inv (it := itRng1 (eC (.d (.int 4)))) (g := gN 5) (b := L_law_1) (ρ := EE h (wD cs ns) t l bb f wr mn ci th wy af rg on fe fr) (s := [b2.cell]) (fun ρ s => (∃ l bb f, ρ = EE h (wD cs ns) t l bb f wr mn ci th wy af rg on fe fr) ∧ ∃ b : Bag, s = [b.cell]) (itRng1_nat (n := 4) rfl (by decide)) ⟨⟨_, _, _, rfl⟩, _, rfl⟩ (fun v m ρ s ⟨⟨l, bb, f, er⟩, b, es⟩ => by
    subst er; subst es
    obtain ⟨b6, f7, b', e⟩ := bent_step (t := t) (l := some (.v v)) (bb := bb) (f := f) (wr := wr) (mn := mn) (ci := ci) (th := th) (wy := wy) (af := af) (rg := rg) (on := on) (fe := fe) (fr := fr) d h1 h3 b
    exact ⟨_, _, _, rfl, e, ⟨_, _, _, rfl⟩, _, rfl⟩)
  have ws : itTup (eTup (aCons (eC (.d .none)) (aCons (eSl (eVar 4) pNone (pSome (eC (.d (.int 1))))) (aCons (eOp addA (eTup (aCons (eCB listD (aCons (eOp ixD (eVar 4) (eC (.d (.int 0)))) aNil)) aNil)) (eSl (eVar 4) (pSome (eC (.d (.int 1)))) pNone)) (aCons (eTup (aCons (eOp ixD (eVar 4) (eC (.d (.int 0)))) (aCons (eOp repD (eTup (aCons (eC (.d (.bool true))) aNil)) (eCB lenD (aCons (eOp ixD (eVar 4) (eC (.d (.int 0)))) aNil))) aNil))) (aCons (eTup (aCons (eTup aNil) (aCons (eTup (aCons (eUn negD (eC (.d (.int 1)))) aNil)) aNil))) aNil)))))) (EE h (wD cs ns) t l4 bb4 f4 wr mn ci th wy af rg on fe fr) [b4.cell] = .ok ([PyData.none, .tuple [.tuple (cs.map PyData.int)], .tuple [.list (cs.map PyData.int), .tuple (ns.map oD)], .tuple [.tuple (cs.map PyData.int), .tuple (List.replicate cs.length (.bool true))], .tuple [.tuple [], .tuple [.int (-1)]]].map AV.d) [b4.cell] := by
    have c1 : slD (wD cs ns) none (some 1) = some (.tuple [.tuple (cs.map PyData.int)]) := rfl
    have c2 : slD (wD cs ns) (some 1) none = some (.tuple [.tuple (ns.map oD)]) := rfl
    have ea : addA (.tuple [.list (cs.map PyData.int)]) (.tuple [.tuple (ns.map oD)]) = some (.tuple [.list (cs.map PyData.int), .tuple (ns.map oD)]) := if_pos (lim_of (show 1 + 1 ≤ 2 by decide))
    have el : listD [.tuple (cs.map PyData.int)] = some (.list (cs.map PyData.int)) := rfl
    have ng : negD (.int 1) = some (.int (-1)) := rfl
    simp [itTup, finF, sRet, thenS, sAsg, sIf, sNext, sDrop, sCPut, sCAug, setC, tB, tNt, tAn, tOR, eOp, eUn, eIf, eAnd, eOr, eNot, eCB, eCIx, eVar, eOwn, eC, eTup, eFz, fLst, fCat, eSl, pNone, pSome, eCall, noxF, aCons, aNil, cell, datas, ap1, ap2, tst, gN, gsN, gsC, gT, eIsi, eIndex, eDIn, eDGet, sDPut, sLPut, sApp, own, dat, sOwn, sDic, sFz, sRetOwn, sRetN, negD, isND, notND, isNoneD, cmpD, keyD, tupleD, subD, L2.atI, L2.ixN, c1, c2, ea, el, ng, ix0, len0, rep_true cs.length few]
  obtain ⟨ρ5, st5, e5, ⟨wr5, rfl⟩, rfl⟩ := for_inv (g := gN 8) (b := L_law_2) (fun ρ s => (∃ wr, ρ = EE h (wD cs ns) t l4 bb4 f4 wr mn ci th wy af rg on fe fr) ∧ s = [b4.cell]) ws ⟨⟨_, rfl⟩, rfl⟩ (fun v m ρ s ⟨⟨wr, er⟩, es⟩ => by
    subst er; subst es
    obtain ⟨x, mx, rfl⟩ := List.mem_map.mp m
    have lc : (cs.map PyData.int).length ≤ LIM := by rw [List.length_map]; exact lim_of (show cs.length ≤ 7 by omega)
    have ln : (ns.map oD).length ≤ LIM := by rw [List.length_map]; exact lim_of (show ns.length ≤ 7 by omega)
    have key : short x ∧ Sh 2 x ∧ (isWorld x = false ∨ x = .tuple [.tuple [], .tuple []]) := by
      rcases List.mem_cons.mp mx with rfl | mx
      · exact ⟨trivial, .non, .inl rfl⟩
      rcases List.mem_cons.mp mx with rfl | mx
      · exact ⟨trivial, .tup (Shs.cons (sh_cs cs) .nil).all, .inl rfl⟩
      rcases List.mem_cons.mp mx with rfl | mx
      · exact ⟨⟨Nat.zero_le _, ln⟩, .tup (Shs.cons (.lst (sh_ints cs)) (.cons (sh_ns ns) .nil)).all, .inl rfl⟩
      rcases List.mem_cons.mp mx with rfl | mx
      · refine ⟨⟨lc, by show (List.replicate cs.length (PyData.bool true)).length ≤ LIM; rw [List.length_replicate]; exact lim_of (show cs.length ≤ 7 by omega)⟩, .tup (Shs.cons (sh_cs cs) (.cons (.tup (fun d m => by rw [(List.mem_replicate.mp m).2]; exact .bl)) .nil)).all, ?_⟩
        cases cs with
        | nil => exact .inr rfl
        | cons c cs => exact .inl (by
            show (tupOf isIdx _ && (tupOf isTh (.tuple (.bool true :: List.replicate cs.length (.bool true))) && _)) = false
            rw [show tupOf isTh (.tuple (.bool true :: List.replicate cs.length (.bool true))) = false from rfl, Bool.false_and, Bool.and_false])
      obtain rfl := List.mem_singleton.mp mx
      exact ⟨⟨by decide +kernel, by decide +kernel⟩, .tup (Shs.cons (.mono (.tup (n := 0) (fun d m => by cases m))) (.cons (.tup (Shs.cons .int .nil).all) .nil)).all, .inl rfl⟩
    exact ⟨_, _, _, rfl, wrong_world key.1 key.2.1 key.2.2 b4, ⟨_, rfl⟩, rfl⟩)
  obtain ⟨ρ6, st6, e6, ⟨wr6, rfl⟩, rfl⟩ := for_inv (it := itTup (eTup (aCons (eC (.d (.int 0))) (aCons (eC (.d (.int 4))) (aCons (eC (.d .none)) (aCons (eC (.d (.bool true))) aNil)))))) (g := gN 8) (b := L_law_3) (ρ := EE h (wD cs ns) t l4 bb4 f4 wr5 mn ci th wy af rg on fe fr) (s := [b4.cell]) (xs := [PyData.int 0, .int 4, .none, .bool true].map AV.d) (fun ρ s => (∃ wr, ρ = EE h (wD cs ns) t l4 bb4 f4 wr mn ci th wy af rg on fe fr) ∧ s = [b4.cell]) rfl ⟨⟨_, rfl⟩, rfl⟩ (fun v m ρ s ⟨⟨wr, er⟩, es⟩ => by
    subst er; subst es
    obtain ⟨x, mx, rfl⟩ := List.mem_map.mp m
    have key : isBet x 1 3 = false := by
      rcases List.mem_cons.mp mx with rfl | mx
      · rfl
      rcases List.mem_cons.mp mx with rfl | mx
      · rfl
      rcases List.mem_cons.mp mx with rfl | mx
      · rfl
      obtain rfl := List.mem_singleton.mp mx
      rfl
    exact ⟨_, _, _, rfl, wrong_hue key d.good b4, ⟨_, rfl⟩, rfl⟩)
  have s7 : (sPar2 9 10 (.v (eCB lenD (aCons (eOp ixD (eVar 4) (eC (.d (.int 0)))) aNil))) (.v (eFz (fLst aNil)))) (EE h (wD cs ns) t l4 bb4 f4 wr6 mn ci th wy af rg on fe fr) [b4.cell] = .ok (.nx (EE h (wD cs ns) t l4 bb4 f4 wr6 (some (.v (.d (.int (cs.length : Nat))))) (some (.v (.d (.list ((circ ns 0).map PyData.int))))) th wy af rg on fe fr)) [b4.cell] := by
    simp [sPar2, El.run, finF, sRet, thenS, sAsg, sIf, sNext, sDrop, sCPut, sCAug, setC, tB, tNt, tAn, tOR, eOp, eUn, eIf, eAnd, eOr, eNot, eCB, eCIx, eVar, eOwn, eC, eTup, eFz, fLst, fCat, eSl, pNone, pSome, eCall, noxF, aCons, aNil, cell, datas, ap1, ap2, tst, gN, gsN, gsC, gT, eIsi, eIndex, eDIn, eDGet, sDPut, sLPut, sApp, own, dat, sOwn, sDic, sFz, sRetOwn, sRetN, negD, isND, notND, isNoneD, cmpD, keyD, tupleD, subD, L2.atI, L2.ixN, ix0, len0, circ]
  obtain ⟨ρ8, st8, e8, ⟨th8, wy8, af8, rg8, on8, fe8, fr8, rfl⟩, b8, rfl⟩ := for_at (it := itRng1 (eVar 9)) (g := gN 11) (b := L_law_4) (ρ := EE h (wD cs ns) t l4 bb4 f4 wr6 (some (.v (.d (.int (cs.length : Nat))))) (some (.v (.d (.list ((circ ns 0).map PyData.int))))) th wy af rg on fe fr) (s := [b4.cell]) (fun k ρ s => (∃ th wy af rg on fe fr, ρ = EE h (wD cs ns) t l4 bb4 f4 wr6 (some (.v (.d (.int (cs.length : Nat))))) (some (.v (.d (.list ((circ ns k).map PyData.int))))) th wy af rg on fe fr) ∧ ∃ b : Bag, s = [b.cell]) (itRng1_nat (n := cs.length) rfl (by omega)) ⟨⟨_, _, _, _, _, _, _, rfl⟩, _, rfl⟩ (fun k v m ρ s ⟨⟨th, wy, af, rg, on, fe, fr, er⟩, b, es⟩ => by
    subst er; subst es
    have lk : k < cs.length := by have := (List.getElem?_eq_some_iff.mp m).1; rwa [List.length_map, List.length_range] at this
    rw [List.getElem?_map, List.getElem?_range lk] at m
    cases m
    obtain ⟨a12, a13, a14, a15, a16, a17, b', e⟩ := thing_step (t := t) (l := l4) (bb := bb4) (f := f4) (wr := wr6) (wy := wy) (af := af) (rg := rg) (on := on) (fe := fe) (fr := fr) d h3 lk b
    exact ⟨_, _, _, rfl, e, ⟨_, _, _, _, _, _, _, rfl⟩, _, rfl⟩)
  rw [List.length_map, List.length_range] at e8
  have t9 : (tB (eOp neD (eCall (noxF F_on_rings) (aCons (eVar 4) aNil)) (eCB tupleD (aCons (eVar 10) aNil)))) (EE h (wD cs ns) t l4 bb4 f4 wr6 (some (.v (.d (.int (cs.length : Nat))))) (some (.v (.d (.list ((circ ns cs.length).map PyData.int))))) th8 wy8 af8 rg8 on8 fe8 fr8) [b8.cell] = .ok false [b8.cell] := by
    have hn := ne_same (d := .tuple ((circ ns cs.length).map PyData.int)) (.tup (n := 0) (sh_ints _))
    have ho : onR ns cs.length = circ ns cs.length := rfl
    simp [finF, sRet, thenS, sAsg, sIf, sNext, sDrop, sCPut, sCAug, setC, tB, tNt, tAn, tOR, eOp, eUn, eIf, eAnd, eOr, eNot, eCB, eCIx, eVar, eOwn, eC, eTup, eFz, fLst, fCat, eSl, pNone, pSome, eCall, noxF, aCons, aNil, cell, datas, ap1, ap2, tst, gN, gsN, gsC, gT, eIsi, eIndex, eDIn, eDGet, sDPut, sLPut, sApp, own, dat, sOwn, sDic, sFz, sRetOwn, sRetN, negD, isND, notND, isNoneD, cmpD, keyD, tupleD, subD, L2.atI, L2.ixN, f_on_rings w, ho, tupleD, hn]
  have ts : itTup (eTup (aCons (eVar 9) (aCons (eUn negD (eC (.d (.int 1)))) (aCons (eC (.d .none)) (aCons (eC (.d (.bool true))) aNil))))) (EE h (wD cs ns) t l4 bb4 f4 wr6 (some (.v (.d (.int (cs.length : Nat))))) (some (.v (.d (.list ((circ ns cs.length).map PyData.int))))) th8 wy8 af8 rg8 on8 fe8 fr8) [b8.cell] = .ok ([PyData.int (cs.length : Nat), .int (-1), .none, .bool true].map AV.d) [b8.cell] := rfl
  obtain ⟨ρ9, st9, e9, ⟨wr9, rfl⟩, rfl⟩ := for_inv (g := gN 8) (b := L_law_5) (fun ρ s => (∃ wr, ρ = EE h (wD cs ns) t l4 bb4 f4 wr (some (.v (.d (.int (cs.length : Nat))))) (some (.v (.d (.list ((circ ns cs.length).map PyData.int))))) th8 wy8 af8 rg8 on8 fe8 fr8) ∧ s = [b8.cell]) ts ⟨⟨_, rfl⟩, rfl⟩ (fun v m ρ s ⟨⟨wr, er⟩, es⟩ => by
    subst er; subst es
    obtain ⟨x, mx, rfl⟩ := List.mem_map.mp m
    have key : ∀ j, x = .int j → 0 ≤ j → (cs.length : Int) ≤ j := by
      rcases List.mem_cons.mp mx with rfl | mx
      · intro j e _; cases e; exact Int.le_refl _
      rcases List.mem_cons.mp mx with rfl | mx
      · intro j e z; cases e; omega
      rcases List.mem_cons.mp mx with rfl | mx
      · intro j e; cases e
      obtain rfl := List.mem_singleton.mp mx
      intro j e; cases e
    exact ⟨_, _, _, rfl, wrong_thing w key b8, ⟨_, rfl⟩, rfl⟩)
  have t10 : (tAn (tB (eOp gtD (eVar 9) (eC (.d (.int 0))))) (tB (eOp neD (eHear known6 (eCall F_stepped (aCons (eVar 4) (aCons (eC (.d (.int 0))) (aCons (eUn negD (eC (.d (.int 1)))) aNil))))) (eTup (aCons (eC (.d (.str "Nothing"))) aNil))))) (EE h (wD cs ns) t l4 bb4 f4 wr9 (some (.v (.d (.int (cs.length : Nat))))) (some (.v (.d (.list ((circ ns cs.length).map PyData.int))))) th8 wy8 af8 rg8 on8 fe8 fr8) [b8.cell] = .ok false [b8.cell] := by
    have n1 := ne_same (d := .tuple [.str "Nothing"]) (.tup (n := 0) (Shs.cons .str .nil).all)
    have ng : negD (.int 1) = some (.int (-1)) := rfl
    by_cases z : 0 < cs.length
    · have fs := f_stepped_bad (s := [b8.cell]) w (j := 0) z (x := .int (-1)) rfl
      have g1 : gtD (.int (cs.length : Nat)) (.int 0) = some (.bool true) := by show some (PyData.bool (decide ((0 : Int) < (cs.length : Nat)))) = _; rw [decide_eq_true (by omega)]
      have fs' : F_stepped [.d (wD cs ns), .d (.int 0), .d (.int (-1))] [b8.cell] = .exc ⟨"Nothing", []⟩ [b8.cell] := fs
      simp [finF, sRet, thenS, sAsg, sIf, sNext, sDrop, sCPut, sCAug, setC, tB, tNt, tAn, tOR, eOp, eUn, eIf, eAnd, eOr, eNot, eCB, eCIx, eVar, eOwn, eC, eTup, eFz, fLst, fCat, eSl, pNone, pSome, eCall, noxF, aCons, aNil, cell, datas, ap1, ap2, tst, gN, gsN, gsC, gT, eIsi, eIndex, eDIn, eDGet, sDPut, sLPut, sApp, own, dat, sOwn, sDic, sFz, sRetOwn, sRetN, negD, isND, notND, isNoneD, cmpD, keyD, tupleD, subD, L2.atI, L2.ixN, eHear, g1, ng, fs', hear_no, n1]
    · have g1 : gtD (.int (cs.length : Nat)) (.int 0) = some (.bool false) := by show some (PyData.bool (decide ((0 : Int) < (cs.length : Nat)))) = _; rw [decide_eq_false (by omega)]
      simp [finF, sRet, thenS, sAsg, sIf, sNext, sDrop, sCPut, sCAug, setC, tB, tNt, tAn, tOR, eOp, eUn, eIf, eAnd, eOr, eNot, eCB, eCIx, eVar, eOwn, eC, eTup, eFz, fLst, fCat, eSl, pNone, pSome, eCall, noxF, aCons, aNil, cell, datas, ap1, ap2, tst, gN, gsN, gsC, gT, eIsi, eIndex, eDIn, eDGet, sDPut, sLPut, sApp, own, dat, sOwn, sDic, sFz, sRetOwn, sRetN, negD, isND, notND, isNoneD, cmpD, keyD, tupleD, subD, L2.atI, L2.ixN, g1]
  exact ⟨_, _, _, _, _, _, _, _, _, _, _, _, _, _, _, b8, seq_step s1 (seq_step s2 (seq_skip t3 (seq_step e4 (seq_step e5 (seq_step e6 (seq_step s7 (seq_step e8 (seq_skip t9 (seq_step e9 (if_skip t10))))))))))⟩
theorem lawM_ok (ns : List Int) : ∃ s', lawM (lawS 18) [bag0 ns] = .ok (.rt (.d (.bool true))) s' := by
  obtain ⟨ρ, st, e, ⟨a2, a3, a4, a5, a6, a7, a8, a9, a10, a11, a12, a13, a14, a15, a16, a17, rfl⟩, b, rfl⟩ := for_inv (it := itRng1 (eC (.d (.int 4)))) (g := gN 2) (b := L_law_6) (ρ := lawS 18) (s := [bag0 ns]) (fun ρ s => (∃ t hh ww l bb f wr mn ci th wy af rg on fe fr, ρ = EV0 t hh ww l bb f wr mn ci th wy af rg on fe fr) ∧ ∃ b : Bag, s = [b.cell]) (itRng1_nat (n := 4) rfl (by decide)) ⟨⟨_, _, _, _, _, _, _, _, _, _, _, _, _, _, _, _, rfl⟩, Bag0 ns, by rw [bag0_eq]⟩ (fun v m ρ s ⟨⟨t, hh, ww, l, bb, f, wr, mn, ci, th, wy, af, rg, on, fe, fr, er⟩, b, es⟩ => by
    subst er; subst es
    obtain ⟨c3, c4, c5, c6, c7, c8, c9, c10, c11, c12, c13, c14, c15, c16, c17, b', e⟩ := turn_step (t := some (.v v)) (hh := hh) (ww := ww) (l := l) (bb := bb) (f := f) (wr := wr) (mn := mn) (ci := ci) (th := th) (wy := wy) (af := af) (rg := rg) (on := on) (fe := fe) (fr := fr) b
    exact ⟨_, _, _, rfl, e, ⟨_, _, _, _, _, _, _, _, _, _, _, _, _, _, _, _, rfl⟩, _, rfl⟩)
  exact ⟨[b.cell], seq_step e rfl⟩
end
end K01
set_option maxRecDepth 100000
set_option maxHeartbeats 4000000
namespace K01
open PySem PySem.Spec PyProof.Rows
open L2 Hk Pz
section
variable {P : Program} {w : World} {K : PySem.W.Frag} {mg : Str → Option Value} {base : Heap} {T : List (Addr × Str)}
theorem z_is_number (S_is_number : Src K mg "is_number" s_is_number) (m_bool : mg "bool" = none) (m_int : mg "int" = none) (m_isinstance : mg "isinstance" = none) : Has P w K mg base CX0 "is_number" 1 ["thing"] (spF ⟨K, mg, T⟩ F_is_number) := by
  refine S_is_number.has sc_is_number (fun _ _ _ _ _ _ us hl => match us, hl with | [_], _ => rfl) (fun vs H Q E h => len_of h) (fun f cdv A out s H vs Q E hr h => ?_)
  have hu64 := hr.units
  exact ⟨_, (pss_one (ps_ret (pe_and (pe_callB (call_uisi (K := K)) rfl m_isinstance bb_isinstance (pa_cons (pv 0) (pa_cons (pe_cty bb_int m_int rfl) pa_nil))) (pe_one (pe_not (pe_callB (call_uisi (K := K)) rfl m_isinstance bb_isinstance (pa_cons (pv 0) (pa_cons (pe_cty bb_bool m_bool rfl) pa_nil)))))))), body_of (C := ⟨K, mg, T⟩) (ss_ret (se_and (se_isi (T := "int") (by decide) (SE.b (se_var (i := 0)))) (se_not (se_isi (T := "bool") (by decide) (SE.b (se_var (i := 0))))))) (by decide) h⟩
theorem z_is_index (S_is_index : Src K mg "is_index" s_is_index) (h_is_number : Has P w K mg base CX0 "is_number" 1 ["thing"] (spF ⟨K, mg, T⟩ F_is_number)) : Has P w K mg base CX0 "is_index" 2 ["thing"] (spF ⟨K, mg, T⟩ F_is_index) := by
  refine S_is_index.has sc_is_index (fun _ _ _ _ _ _ us hl => match us, hl with | [_], _ => rfl) (fun vs H Q E h => len_of h) (fun f cdv A out s H vs Q E hr h => ?_)
  have hu64 := hr.units
  exact ⟨_, (pss_one (ps_ret (pe_and (pe_has h_is_number (hr.mono (by decide)) rfl pass0 (pa_cons (pv 0) pa_nil)) (pe_one (pe_cmpR op_uge (pv 0) pe_int (nomark _)))))), body_of (C := ⟨K, mg, T⟩) (ss_ret (se_and (se_call (F := F_is_number) (sa_cons (se_var (i := 0)) sa_nil)) (se_op (os_cmp _) (SE.b (se_var (i := 0))) (SE.b se_int)))) (by decide) h⟩
theorem z_is_between (S_is_between : Src K mg "is_between" s_is_between) (h_is_number : Has P w K mg base CX0 "is_number" 1 ["thing"] (spF ⟨K, mg, T⟩ F_is_number)) : Has P w K mg base CX0 "is_between" 2 ["thing", "low", "high"] (spF ⟨K, mg, T⟩ F_is_between) := by
  refine S_is_between.has sc_is_between (fun _ _ _ _ _ _ us hl => match us, hl with | [_, _, _], _ => rfl) (fun vs H Q E h => len_of h) (fun f cdv A out s H vs Q E hr h => ?_)
  have hu64 := hr.units
  exact ⟨_, (pss_one (ps_ret (pe_and (pe_has h_is_number (hr.mono (by decide)) rfl pass0 (pa_cons (pv 0) pa_nil)) (pe_one (pe_chain op_ule op_ule (pv 1) (pv 0) (pv 2)))))), body_of (C := ⟨K, mg, T⟩) (ss_ret (se_and (se_call (F := F_is_number) (sa_cons (se_var (i := 0)) sa_nil)) (se_chain (os_cmp _) (os_cmp _) (SE.b (se_var (i := 1))) (SE.b (se_var (i := 0))) (SE.b (se_var (i := 2)))))) (by decide) h⟩
theorem z_is_sized (S_is_sized : Src K mg "is_sized" s_is_sized) (m_isinstance : mg "isinstance" = none) (m_len : mg "len" = none) (m_tuple : mg "tuple" = none) : Has P w K mg base CX0 "is_sized" 1 ["thing", "many"] (spF ⟨K, mg, T⟩ F_is_sized) := by
  refine S_is_sized.has sc_is_sized (fun _ _ _ _ _ _ us hl => match us, hl with | [_, _], _ => rfl) (fun vs H Q E h => len_of h) (fun f cdv A out s H vs Q E hr h => ?_)
  have hu64 := hr.units
  exact ⟨_, (pss_one (ps_ret (pe_and (pe_callB (call_uisi (K := K)) rfl m_isinstance bb_isinstance (pa_cons (pv 0) (pa_cons (pe_cty bb_tuple m_tuple rfl) pa_nil))) (pe_one (pe_cmpR (op_ueq (K := K) hu64) (pe_fz (pe_callB (call_ulen (K := K)) rfl m_len bb_len (pa_cons (pv 0) pa_nil))) (pv 1) (nomark _)))))), body_of (C := ⟨K, mg, T⟩) (ss_ret (se_and (se_isi (T := "tuple") (by decide) (SE.b (se_var (i := 0)))) (se_op os_eq (SE.b (se_cb cz_len (sab_cons (SE.b (se_var (i := 0))) sab_nil))) (SE.b (se_var (i := 1)))))) (by decide) h⟩
theorem z_is_thing_or_none (S_is_thing_or_none : Src K mg "is_thing_or_none" s_is_thing_or_none) (h_is_index : Has P w K mg base CX0 "is_index" 2 ["thing"] (spF ⟨K, mg, T⟩ F_is_index)) : Has P w K mg base CX0 "is_thing_or_none" 3 ["thing"] (spF ⟨K, mg, T⟩ F_is_thing_or_none) := by
  refine S_is_thing_or_none.has sc_is_thing_or_none (fun _ _ _ _ _ _ us hl => match us, hl with | [_], _ => rfl) (fun vs H Q E h => len_of h) (fun f cdv A out s H vs Q E hr h => ?_)
  have hu64 := hr.units
  exact ⟨_, (pss_one (ps_ret (pe_or (pe_cmpR op_isN (pv 0) pe_non (nomark _)) (pe_one (pe_has h_is_index (hr.mono (by decide)) rfl pass0 (pa_cons (pv 0) pa_nil)))))), body_of (C := ⟨K, mg, T⟩) (ss_ret (se_or (se_op os_isN (SE.b (se_var (i := 0))) (SE.b se_non)) (se_call (F := F_is_index) (sa_cons (se_var (i := 0)) sa_nil)))) (by decide) h⟩
theorem z_is_tuple_of (S_is_tuple_of : Src K mg "is_tuple_of" s_is_tuple_of) (m_all : mg "all" = none) (m_isinstance : mg "isinstance" = none) (m_tuple : mg "tuple" = none) (h_is_index : Has P w K mg base CX0 "is_index" 2 ["thing"] (spF ⟨K, mg, T⟩ F_is_index)) (S_is_index : Src K mg "is_index" s_is_index) (h_is_thing_or_none : Has P w K mg base CX0 "is_thing_or_none" 3 ["thing"] (spF ⟨K, mg, T⟩ F_is_thing_or_none)) (S_is_thing_or_none : Src K mg "is_thing_or_none" s_is_thing_or_none) : Has P w K mg base CX0 "is_tuple_of" 4 ["thing", "is_one"] (spF ⟨K, mg, T⟩ F_is_tuple_of) := by
  obtain ⟨hA, hS⟩ := fn_tab (P := P) (w := w) (base := base) (k := 3) (C := ⟨K, mg, T⟩) (Fs := Fs_is_tuple_of) (FnTab.cons h_is_index S_is_index (by decide) (.cons h_is_thing_or_none S_is_thing_or_none (by decide) .nil)) (by decide +kernel)
  refine S_is_tuple_of.has sc_is_tuple_of (fun _ _ _ _ _ _ us hl => match us, hl with | [_, _], _ => rfl) (fun vs H Q E h => len_of h) (fun f cdv A out s H vs Q E hr h => ?_)
  have hu64 := hr.units
  exact ⟨_, (pss_one (ps_ret (pe_and (pe_callB (call_uisi (K := K)) rfl m_isinstance bb_isinstance (pa_cons (pv 0) (pa_cons (pe_cty bb_tuple m_tuple rfl) pa_nil))) (pe_one (pe_fz (pe_callB (cr_all rfl) rfl m_all bb_all (pa_cons (pe_fz (pe_lc (own := [("one", 2)]) (by rfl) sc_is_tuple_of.nd (pi_utup (K := K) rfl (pv 0)) (blkOk_by (N := ["thing", "is_one", "one"]) (own := [("one", 2)]) (sc := defScope s_is_tuple_of) (by decide +kernel)) (fun _ _ _ _ _ => (pg_name (i := 2) sc_is_tuple_of.nd rfl (by first | exact Or.inl rfl | exact Or.inr rfl))) (fun _ _ _ _ _ => pts_nil) (fun _ _ _ _ _ => (pe_callA (S := SfOf ⟨K, mg, T⟩ Fs_is_tuple_of) (i := 1) hA (hr.mono (by decide)) rfl (by first | exact Or.inl rfl | exact Or.inr (Or.inl rfl) | exact Or.inr (Or.inr rfl)) (pa_cons (pv 2) pa_nil))))) pa_nil))))))), body_of (C := ⟨K, mg, T⟩) (ss_ret (se_and (se_isi (T := "tuple") (by decide) (SE.b (se_var (i := 0)))) (se_cb cz_all (sab_cons (SE.b (SF.fz (sf_lc (vs := [2]) (si_tup (se_var (i := 0))) (gw_name (i := 2) (by decide)) st_yes (se_callV (i := 1) (Fs := Fs_is_tuple_of) hS (sa_cons (se_var (i := 2)) sa_nil))))) sab_nil)))) (by decide) h⟩
theorem z_is_hues (S_is_hues : Src K mg "is_hues" s_is_hues) (c_MOST_HUES : ∃ t, mg "MOST_HUES" = some (.int 3 t)) (h_is_between : Has P w K mg base CX0 "is_between" 2 ["thing", "low", "high"] (spF ⟨K, mg, T⟩ F_is_between)) : Has P w K mg base CX0 "is_hues" 3 ["thing"] (spF ⟨K, mg, T⟩ F_is_hues) := by
  refine S_is_hues.has sc_is_hues (fun _ _ _ _ _ _ us hl => match us, hl with | [_], _ => rfl) (fun vs H Q E h => len_of h) (fun f cdv A out s H vs Q E hr h => ?_)
  have hu64 := hr.units
  exact ⟨_, (pss_one (ps_ret (pe_has h_is_between (hr.mono (by decide)) rfl pass0 (pa_cons (pv 0) (pa_cons pe_int (pa_cons (pe_cint c_MOST_HUES rfl) pa_nil)))))), body_of (C := ⟨K, mg, T⟩) (ss_ret (se_call (F := F_is_between) (sa_cons (se_var (i := 0)) (sa_cons se_int (sa_cons se_int sa_nil))))) (by decide) h⟩
theorem z_is_world (S_is_world : Src K mg "is_world" s_is_world) (m_len : mg "len" = none) (c_MOST_THINGS : ∃ t, mg "MOST_THINGS" = some (.int 400 t)) (S_is_index : Src K mg "is_index" s_is_index) (h_is_sized : Has P w K mg base CX0 "is_sized" 1 ["thing", "many"] (spF ⟨K, mg, T⟩ F_is_sized)) (h_is_tuple_of : Has P w K mg base CX0 "is_tuple_of" 4 ["thing", "is_one"] (spF ⟨K, mg, T⟩ F_is_tuple_of)) (S_is_thing_or_none : Src K mg "is_thing_or_none" s_is_thing_or_none) : Has P w K mg base CX0 "is_world" 5 ["thing"] (spF ⟨K, mg, T⟩ F_is_world) := by
  refine S_is_world.has sc_is_world (fun _ _ _ _ _ _ us hl => match us, hl with | [_], _ => rfl) (fun vs H Q E h => len_of h) (fun f cdv A out s H vs Q E hr h => ?_)
  have hu64 := hr.units
  exact ⟨_, (pss_cons (ps_if (PW.pt (pw_or (pt_not (pt_val (pe_has h_is_sized (hr.mono (by decide)) rfl pass0 (pa_cons (pv 0) (pa_cons pe_int pa_nil))))) (pw_or (pt_not (pt_val (pe_has h_is_tuple_of (hr.mono (by decide)) rfl pass0 (pa_cons (pe_ix (ix_u (K := K)) (pv 0) pe_int (fun _ _ => rfl)) (pa_cons (pe_cref (S_mg S_is_index) rfl) pa_nil))))) (pw_or1 (pt_not (pt_val (pe_has h_is_tuple_of (hr.mono (by decide)) rfl pass0 (pa_cons (pe_ix (ix_u (K := K)) (pv 0) pe_int (fun _ _ => rfl)) (pa_cons (pe_cref (S_mg S_is_thing_or_none) rfl) pa_nil)))))))))
      (pss_one (ps_ret pe_bl))
      pss_nil)
    (pss_one (ps_ret (pe_and (pe_cmpR op_ule (pe_fz (pe_callB (call_ulen (K := K)) rfl m_len bb_len (pa_cons (pe_ix (ix_u (K := K)) (pv 0) pe_int (fun _ _ => rfl)) pa_nil))) (pe_cint c_MOST_THINGS rfl) (nomark _)) (pe_one (pe_cmpR op_ule (pe_fz (pe_callB (call_ulen (K := K)) rfl m_len bb_len (pa_cons (pe_ix (ix_u (K := K)) (pv 0) pe_int (fun _ _ => rfl)) pa_nil))) (pe_cint c_MOST_THINGS rfl) (nomark _))))))), body_of (C := ⟨K, mg, T⟩) (ss_seq (ss_if (st_or (st_not (st_val (se_call (F := F_is_sized) (sa_cons (se_var (i := 0)) (sa_cons se_int sa_nil))))) (st_or (st_not (st_val (se_call (F := F_is_tuple_of) (sa_cons (se_op os_ix (SE.b (se_var (i := 0))) (SE.b se_int)) (sa_cons (se_fn (S_mg S_is_index)) sa_nil))))) (st_not (st_val (se_call (F := F_is_tuple_of) (sa_cons (se_op os_ix (SE.b (se_var (i := 0))) (SE.b se_int)) (sa_cons (se_fn (S_mg S_is_thing_or_none)) sa_nil)))))))
      (ss_ret se_bl)
      ss_next)
    (ss_ret (se_and (se_op (os_cmp _) (SE.b (se_cb cz_len (sab_cons (SE.b (se_op os_ix (SE.b (se_var (i := 0))) (SE.b se_int))) sab_nil))) (SE.b se_int)) (se_op (os_cmp _) (SE.b (se_cb cz_len (sab_cons (SE.b (se_op os_ix (SE.b (se_var (i := 0))) (SE.b se_int))) sab_nil))) (SE.b se_int))))) (by decide) h⟩
theorem z_check_hues (S_check_hues : Src K mg "check_hues" s_check_hues) (x_Nothing : ExcF K mg "Nothing" (He.ga K "Nothing")) (h_is_hues : Has P w K mg base CX0 "is_hues" 3 ["thing"] (spF ⟨K, mg, T⟩ F_is_hues)) : Has P w K mg base (L2.CX P w) "check_hues" 4 ["hues"] (spF ⟨K, mg, T⟩ F_check_hues) := by
  refine S_check_hues.hasX sc_check_hues (fun _ _ _ _ _ _ us hl => match us, hl with | [_], _ => rfl) (fun vs H Q E h => len_of h) (fun f cdv A out s H vs Q E hr h => ?_)
  have hu64 := hr.units
  exact ⟨_, (pss_one (ps_if (pt_not (pt_val (pe_has h_is_hues (hr.mono (by decide)) rfl pass0 (pa_cons (pv 0) pa_nil))))
      (pss_one (ps_raise rfl (takes_of rfl rfl rfl rfl) (pmk_own0 PySem.F.excBase_ValueError x_Nothing.ex x_Nothing.g x_Nothing.kp (raises_own x_Nothing.sub x_Nothing.ty) (by exact rfl))))
      pss_nil)), body_of (C := ⟨K, mg, T⟩) (ss_if (st_not (st_val (se_call (F := F_is_hues) (sa_cons (se_var (i := 0)) sa_nil))))
      (ss_raise0 (x := "Nothing") x_Nothing.g (fun _ _ _ z => z))
      ss_next) (by decide) h⟩
theorem z_checked_world (S_checked_world : Src K mg "checked_world" s_checked_world) (m_enumerate : mg "enumerate" = none) (m_len : mg "len" = none) (m_zip : mg "zip" = none) (x_BadWorld : ExcT P K mg "BadWorld" (He.ga K "BadWorld") "where" "fault") (x_Nothing : ExcF K mg "Nothing" (He.ga K "Nothing")) (h_is_world : Has P w K mg base CX0 "is_world" 5 ["thing"] (spF ⟨K, mg, T⟩ F_is_world)) (h_check_hues : Has P w K mg base (L2.CX P w) "check_hues" 4 ["hues"] (spF ⟨K, mg, T⟩ F_check_hues)) : Has P w K mg base (L2.CX P w) "checked_world" 6 ["hues", "thing"] (spF ⟨K, mg, T⟩ F_checked_world) := by
  refine S_checked_world.hasX sc_checked_world (fun _ _ _ _ _ _ us hl => match us, hl with | [_, _], _ => rfl) (fun vs H Q E h => len_of h) (fun f cdv A out s H vs Q E hr h => ?_)
  have hu64 := hr.units
  exact ⟨_, (pss_cons (ps_expr (pe_has h_check_hues (hr.mono (by decide)) rfl (passes_call (takes_of rfl rfl rfl rfl) (fun _ _ _ _ z => z)) (pa_cons (pv 0) pa_nil)))
    (pss_cons (ps_if (pt_not (pt_val (pe_has h_is_world (hr.mono (by decide)) rfl pass0 (pa_cons (pv 1) pa_nil))))
      (pss_one (ps_raise rfl (takes_of rfl rfl rfl rfl) (pmk_own0 PySem.F.excBase_ValueError x_Nothing.ex x_Nothing.g x_Nothing.kp (raises_own x_Nothing.sub x_Nothing.ty) (by exact rfl))))
      pss_nil)
    (pss_cons (ps_if (pt_cmpR (op_une (K := K) hu64) (pe_fz (pe_callB (call_ulen (K := K)) rfl m_len bb_len (pa_cons (pe_ix (ix_u (K := K)) (pv 1) pe_int (fun _ _ => rfl)) pa_nil))) (pe_fz (pe_callB (call_ulen (K := K)) rfl m_len bb_len (pa_cons (pe_ix (ix_u (K := K)) (pv 1) pe_int (fun _ _ => rfl)) pa_nil))) (nomark _))
      (pss_one (ps_raise rfl (takes_of rfl rfl rfl rfl) (pmk_two (k := 0) x_BadWorld (hr.mono (by decide)) (pa_cons (pe_tup (pa_cons pe_str pa_nil)) (pa_cons pe_str pa_nil)) rfl)))
      pss_nil)
    (pss_cons (ps_for (passes_of rfl) rfl (pi_enumZ (K := K) rfl m_enumerate rfl m_zip (pa_cons (pe_ix (ix_u (K := K)) (pv 1) pe_int (fun _ _ => rfl)) (pa_cons (pe_ix (ix_u (K := K)) (pv 1) pe_int (fun _ _ => rfl)) pa_nil))) (pg_utup (K := K) (n := 2) rfl rfl (by rfl) (pgs_cons (pg_name (i := 2) sc_checked_world.nd rfl (by first | exact Or.inl rfl | exact Or.inr rfl)) (pgs_cons (pg_utup (K := K) (n := 2) rfl rfl (by rfl) (pgs_cons (pg_name (i := 3) sc_checked_world.nd rfl (by first | exact Or.inl rfl | exact Or.inr rfl)) (pgs_cons (pg_name (i := 4) sc_checked_world.nd rfl (by first | exact Or.inl rfl | exact Or.inr rfl)) pgs_nil))) pgs_nil)))
      (pss_cons (ps_if (pt_cmpR op_uge (pv 3) (pv 0) (nomark _))
      (pss_one (ps_raise rfl (takes_of rfl rfl rfl rfl) (pmk_two (k := 0) x_BadWorld (hr.mono (by decide)) (pa_cons (pe_tup (pa_cons pe_str (pa_cons (pv 2) pa_nil))) (pa_cons pe_str pa_nil)) rfl)))
      pss_nil)
    (pss_one (ps_if (PW.pt (pw_and (pt_cmpR op_notN (pv 4) pe_non (nomark _)) (pw_and1 (pt_cmpR op_uge (pv 4) (pe_fz (pe_callB (call_ulen (K := K)) rfl m_len bb_len (pa_cons (pe_ix (ix_u (K := K)) (pv 1) pe_int (fun _ _ => rfl)) pa_nil))) (nomark _)))))
      (pss_one (ps_raise rfl (takes_of rfl rfl rfl rfl) (pmk_two (k := 0) x_BadWorld (hr.mono (by decide)) (pa_cons (pe_tup (pa_cons pe_str (pa_cons (pv 2) pa_nil))) (pa_cons pe_str pa_nil)) rfl)))
      pss_nil))))
    (pss_one (ps_ret (pv 1))))))), body_of (C := ⟨K, mg, T⟩) (ss_seq (ss_drop (se_callX (F := F_check_hues) (sa_cons (se_var (i := 0)) sa_nil)))
    (ss_seq (ss_if (st_not (st_val (se_call (F := F_is_world) (sa_cons (se_var (i := 1)) sa_nil))))
      (ss_raise0 (x := "Nothing") x_Nothing.g (fun _ _ _ z => z))
      ss_next)
    (ss_seq (ss_if (st_test (se_op os_ne (SE.b (se_cb cz_len (sab_cons (SE.b (se_op os_ix (SE.b (se_var (i := 1))) (SE.b se_int))) sab_nil))) (SE.b (se_cb cz_len (sab_cons (SE.b (se_op os_ix (SE.b (se_var (i := 1))) (SE.b se_int))) sab_nil)))))
      (ss_raise2 (x := "BadWorld") (f1 := "where") (f2 := "fault") x_BadWorld.g (sa_cons (se_tup (sa_cons se_str sa_nil)) (sa_cons se_str sa_nil)) (fun _ _ _ z => z))
      ss_next)
    (ss_seq (ss_for (si_enumZ (se_op os_ix (SE.b (se_var (i := 1))) (SE.b se_int)) (se_op os_ix (SE.b (se_var (i := 1))) (SE.b se_int))) (gg_tup (ggs_cons (gg_name (i := 2)) (ggs_cons (gg_tup (ggs_cons (gg_name (i := 3)) (ggs_cons (gg_name (i := 4)) ggs_nil))) ggs_nil)))
      (ss_seq (ss_if (st_test (se_op (os_cmp _) (SE.b (se_var (i := 3))) (SE.b (se_var (i := 0)))))
      (ss_raise2 (x := "BadWorld") (f1 := "where") (f2 := "fault") x_BadWorld.g (sa_cons (se_tup (sa_cons se_str (sa_cons (se_var (i := 2)) sa_nil))) (sa_cons se_str sa_nil)) (fun _ _ _ z => z))
      ss_next)
    (ss_if (st_and (st_test (se_op os_notN (SE.b (se_var (i := 4))) (SE.b se_non))) (st_test (se_op (os_cmp _) (SE.b (se_var (i := 4))) (SE.b (se_cb cz_len (sab_cons (SE.b (se_op os_ix (SE.b (se_var (i := 1))) (SE.b se_int))) sab_nil))))))
      (ss_raise2 (x := "BadWorld") (f1 := "where") (f2 := "fault") x_BadWorld.g (sa_cons (se_tup (sa_cons se_str (sa_cons (se_var (i := 2)) sa_nil))) (sa_cons se_str sa_nil)) (fun _ _ _ z => z))
      ss_next)))
    (ss_ret (se_var (i := 1))))))) (by decide) h⟩
theorem z_check_thing (S_check_thing : Src K mg "check_thing" s_check_thing) (m_len : mg "len" = none) (x_Nothing : ExcF K mg "Nothing" (He.ga K "Nothing")) (h_is_index : Has P w K mg base CX0 "is_index" 2 ["thing"] (spF ⟨K, mg, T⟩ F_is_index)) : Has P w K mg base (L2.CX P w) "check_thing" 3 ["world", "thing"] (spF ⟨K, mg, T⟩ F_check_thing) := by
  refine S_check_thing.hasX sc_check_thing (fun _ _ _ _ _ _ us hl => match us, hl with | [_, _], _ => rfl) (fun vs H Q E h => len_of h) (fun f cdv A out s H vs Q E hr h => ?_)
  have hu64 := hr.units
  exact ⟨_, (pss_one (ps_if (PW.pt (pw_or (pt_not (pt_val (pe_has h_is_index (hr.mono (by decide)) rfl pass0 (pa_cons (pv 1) pa_nil)))) (pw_or1 (pt_cmpR op_uge (pv 1) (pe_fz (pe_callB (call_ulen (K := K)) rfl m_len bb_len (pa_cons (pe_ix (ix_u (K := K)) (pv 0) pe_int (fun _ _ => rfl)) pa_nil))) (nomark _)))))
      (pss_one (ps_raise rfl (takes_of rfl rfl rfl rfl) (pmk_own0 PySem.F.excBase_ValueError x_Nothing.ex x_Nothing.g x_Nothing.kp (raises_own x_Nothing.sub x_Nothing.ty) (by exact rfl))))
      pss_nil)), body_of (C := ⟨K, mg, T⟩) (ss_if (st_or (st_not (st_val (se_call (F := F_is_index) (sa_cons (se_var (i := 1)) sa_nil)))) (st_test (se_op (os_cmp _) (SE.b (se_var (i := 1))) (SE.b (se_cb cz_len (sab_cons (SE.b (se_op os_ix (SE.b (se_var (i := 0))) (SE.b se_int))) sab_nil))))))
      (ss_raise0 (x := "Nothing") x_Nothing.g (fun _ _ _ z => z))
      ss_next) (by decide) h⟩
theorem z_check_both (S_check_both : Src K mg "check_both" s_check_both) (c_MOST_HUES : ∃ t, mg "MOST_HUES" = some (.int 3 t)) (h_checked_world : Has P w K mg base (L2.CX P w) "checked_world" 6 ["hues", "thing"] (spF ⟨K, mg, T⟩ F_checked_world)) (h_check_thing : Has P w K mg base (L2.CX P w) "check_thing" 3 ["world", "thing"] (spF ⟨K, mg, T⟩ F_check_thing)) : Has P w K mg base (L2.CX P w) "check_both" 7 ["world", "thing"] (spF ⟨K, mg, T⟩ F_check_both) := by
  refine S_check_both.hasX sc_check_both (fun _ _ _ _ _ _ us hl => match us, hl with | [_, _], _ => rfl) (fun vs H Q E h => len_of h) (fun f cdv A out s H vs Q E hr h => ?_)
  have hu64 := hr.units
  exact ⟨_, (pss_cons (ps_expr (pe_has h_checked_world (hr.mono (by decide)) rfl (passes_call (takes_of rfl rfl rfl rfl) (fun _ _ _ _ z => z)) (pa_cons (pe_cint c_MOST_HUES rfl) (pa_cons (pv 0) pa_nil))))
    (pss_one (ps_expr (pe_has h_check_thing (hr.mono (by decide)) rfl (passes_call (takes_of rfl rfl rfl rfl) (fun _ _ _ _ z => z)) (pa_cons (pv 0) (pa_cons (pv 1) pa_nil)))))), body_of (C := ⟨K, mg, T⟩) (ss_seq (ss_drop (se_callX (F := F_checked_world) (sa_cons se_int (sa_cons (se_var (i := 0)) sa_nil))))
    (ss_drop (se_callX (F := F_check_thing) (sa_cons (se_var (i := 0)) (sa_cons (se_var (i := 1)) sa_nil))))) (by decide) h⟩
theorem z_pointing_at (S_pointing_at : Src K mg "pointing_at" s_pointing_at) (m_enumerate : mg "enumerate" = none) (m_tuple : mg "tuple" = none) (h_check_both : Has P w K mg base (L2.CX P w) "check_both" 7 ["world", "thing"] (spF ⟨K, mg, T⟩ F_check_both)) : Has P w K mg base (L2.CX P w) "pointing_at" 8 ["world", "thing"] (spF ⟨K, mg, T⟩ F_pointing_at) := by
  refine S_pointing_at.hasX sc_pointing_at (fun _ _ _ _ _ _ us hl => match us, hl with | [_, _], _ => rfl) (fun vs H Q E h => len_of h) (fun f cdv A out s H vs Q E hr h => ?_)
  have hu64 := hr.units
  exact ⟨_, (pss_cons (ps_expr (pe_has h_check_both (hr.mono (by decide)) rfl (passes_call (takes_of rfl rfl rfl rfl) (fun _ _ _ _ z => z)) (pa_cons (pv 0) (pa_cons (pv 1) pa_nil))))
    (pss_one (ps_ret (pe_fz (pe_callTy (call_utup (K := K)) rfl m_tuple bb_tuple (pa_cons (pe_fz (pe_lc (own := [("one", 2), ("after", 3)]) (by rfl) sc_pointing_at.nd (pi_enumT (K := K) rfl m_enumerate (pa_cons (pe_ix (ix_u (K := K)) (pv 0) pe_int (fun _ _ => rfl)) pa_nil)) (blkOk_by (N := ["world", "thing", "one", "after"]) (own := [("one", 2), ("after", 3)]) (sc := defScope s_pointing_at) (by decide +kernel)) (fun _ _ _ _ _ => (pg_utup (K := K) (n := 2) rfl rfl (by rfl) (pgs_cons (pg_name (i := 2) sc_pointing_at.nd rfl (by first | exact Or.inl rfl | exact Or.inr rfl)) (pgs_cons (pg_name (i := 3) sc_pointing_at.nd rfl (by first | exact Or.inl rfl | exact Or.inr rfl)) pgs_nil)))) (fun _ _ _ _ _ => pts_one (pt_cmpR (op_ueq (K := K) hu64) (pv 3) (pv 1) (nomark _))) (fun _ _ _ _ _ => (pv 2)))) pa_nil)))))), body_of (C := ⟨K, mg, T⟩) (ss_seq (ss_drop (se_callX (F := F_check_both) (sa_cons (se_var (i := 0)) (sa_cons (se_var (i := 1)) sa_nil))))
    (ss_ret (se_cb cz_tuple (sab_cons (SE.b (SF.fz (sf_lc (vs := [2, 3]) (si_enumT (se_op os_ix (SE.b (se_var (i := 0))) (SE.b se_int))) (gw_tup (gws_cons (gw_name (i := 2) (by decide)) (gws_cons (gw_name (i := 3) (by decide)) gws_nil))) (st_test (se_op os_eq (SE.b (se_var (i := 3))) (SE.b (se_var (i := 1))))) (se_var (i := 2))))) sab_nil)))) (by decide) h⟩
theorem z_plain_way (S_plain_way : Src K mg "plain_way" s_plain_way)  : Has P w K mg base CX0 "plain_way" 1 ["world", "thing"] (spF ⟨K, mg, T⟩ F_plain_way) := by
  refine S_plain_way.has sc_plain_way (fun _ _ _ _ _ _ us hl => match us, hl with | [_, _], _ => rfl) (fun vs H Q E h => len_of h) (fun f cdv A out s H vs Q E hr h => ?_)
  have hu64 := hr.units
  exact ⟨_, (pss_cons (ps_par (i := 2) (j := 3) (by rfl) sc_plain_way.nd rfl rfl (by decide) rfl rfl (pa_cons (pe_lst pa_nil) (pa_cons pe_dnewK pa_nil)) (by rfl))
    (pss_cons (ps_while PassesOwn.never (PW.pt (pw_and (pt_cmpR op_notN (pv 1) pe_non (nomark _)) (pw_and1 (pt_cmpR (op_dnotin hu64) (pv 1) (pv 3) (by with_unfolding_all rfl)))))
      (pss_cons (ps_expr (pe_bm PySem.F.plainAttrs_list PySem.F.slot_list_append PySem.F.type_list_append mt_append (pv 2) (pa_cons (pv 1) pa_nil)))
    (pss_cons (ps_asg pe_bl (pg_sub (pv 3) (pv 1) (set_dict (u1 hu64))))
    (pss_one (ps_set (i := 1) sc_plain_way.nd rfl (by first | exact Or.inl rfl | exact Or.inr rfl) (pe_ix (ix_u (K := K)) (pe_ix (ix_u (K := K)) (pv 0) pe_int (fun _ _ => rfl)) (pv 1) (fun _ _ => rfl)))))))
    (pss_one (ps_ret (pe_fz (pv 2)))))), body_of (C := ⟨K, mg, T⟩) (ss_seq (ss_par2 trivial (.own (sf_lst sa_nil)) .dic)
    (ss_seq (ss_while FUEL (st_and (st_test (se_op os_notN (SE.b (se_var (i := 1))) (SE.b se_non))) (st_test (se_din (neg := true) (i := 3) (se_var (i := 1)))))
      (ss_seq (ss_app (i := 2) (se_var (i := 1)))
    (ss_seq (ss_dput (i := 3) (se_var (i := 1)) se_bl)
    (ss_asg (se_op os_ix (SE.b (se_op os_ix (SE.b (se_var (i := 0))) (SE.b se_int))) (SE.b (se_var (i := 1)))) (gg_name (i := 1))))))
    (ss_retOwn (i := 2)))) (by decide) h⟩
theorem z_way_of (S_way_of : Src K mg "way_of" s_way_of) (m_tuple : mg "tuple" = none) (h_check_both : Has P w K mg base (L2.CX P w) "check_both" 7 ["world", "thing"] (spF ⟨K, mg, T⟩ F_check_both)) (h_plain_way : Has P w K mg base CX0 "plain_way" 1 ["world", "thing"] (spF ⟨K, mg, T⟩ F_plain_way)) : Has P w K mg base (L2.CX P w) "way_of" 8 ["world", "thing"] (spF ⟨K, mg, T⟩ F_way_of) := by
  refine S_way_of.hasX sc_way_of (fun _ _ _ _ _ _ us hl => match us, hl with | [_, _], _ => rfl) (fun vs H Q E h => len_of h) (fun f cdv A out s H vs Q E hr h => ?_)
  have hu64 := hr.units
  exact ⟨_, (pss_cons (ps_expr (pe_has h_check_both (hr.mono (by decide)) rfl (passes_call (takes_of rfl rfl rfl rfl) (fun _ _ _ _ z => z)) (pa_cons (pv 0) (pa_cons (pv 1) pa_nil))))
    (pss_one (ps_ret (pe_fz (pe_callTy (call_utup (K := K)) rfl m_tuple bb_tuple (pa_cons (pe_has h_plain_way (hr.mono (by decide)) rfl pass0 (pa_cons (pv 0) (pa_cons (pv 1) pa_nil))) pa_nil)))))), body_of (C := ⟨K, mg, T⟩) (ss_seq (ss_drop (se_callX (F := F_check_both) (sa_cons (se_var (i := 0)) (sa_cons (se_var (i := 1)) sa_nil))))
    (ss_ret (se_cb cz_tuple (sab_cons (SE.b (se_call (F := F_plain_way) (sa_cons (se_var (i := 0)) (sa_cons (se_var (i := 1)) sa_nil)))) sab_nil)))) (by decide) h⟩
theorem z_plain_ring (S_plain_ring : Src K mg "plain_ring" s_plain_ring) (h_plain_way : Has P w K mg base CX0 "plain_way" 1 ["world", "thing"] (spF ⟨K, mg, T⟩ F_plain_way)) : Has P w K mg base CX0 "plain_ring" 2 ["world", "thing"] (spF ⟨K, mg, T⟩ F_plain_ring) := by
  refine S_plain_ring.has sc_plain_ring (fun _ _ _ _ _ _ us hl => match us, hl with | [_, _], _ => rfl) (fun vs H Q E h => len_of h) (fun f cdv A out s H vs Q E hr h => ?_)
  have hu64 := hr.units
  exact ⟨_, (pss_cons (ps_set (i := 2) sc_plain_ring.nd rfl (by first | exact Or.inl rfl | exact Or.inr rfl) (pe_has h_plain_way (hr.mono (by decide)) rfl pass0 (pa_cons (pv 0) (pa_cons (pv 1) pa_nil))))
    (pss_cons (ps_set (i := 3) sc_plain_ring.nd rfl (by first | exact Or.inl rfl | exact Or.inr rfl) (pe_ix (ix_u (K := K)) (pe_ix (ix_u (K := K)) (pv 0) pe_int (fun _ _ => rfl)) (pe_ix (ix_u (K := K)) (pv 2) (pe_un un_neg pe_int) (fun _ _ => rfl)) (fun _ _ => rfl)))
    (pss_one (ps_ret (pe_ifExp (pt_cmpR op_isN (pv 3) pe_non (nomark _)) (pe_fz (pe_lst pa_nil)) (pe_fz (pe_slice (sl_u (K := K)) (pv 2) (po_some (pe_bm PySem.F.plainAttrs_list PySem.F.slot_list_index PySem.F.type_list_index (mt_uindex (K := K)) (pv 2) (pa_cons (pv 3) pa_nil))) po_none))))))), body_of (C := ⟨K, mg, T⟩) (ss_seq (ss_asg (se_call (F := F_plain_way) (sa_cons (se_var (i := 0)) (sa_cons (se_var (i := 1)) sa_nil))) (gg_name (i := 2)))
    (ss_seq (ss_asg (se_op os_ix (SE.b (se_op os_ix (SE.b (se_var (i := 0))) (SE.b se_int))) (SE.b (se_op os_ix (SE.b (se_var (i := 2))) (SE.b (se_un ou_neg (SE.b se_int)))))) (gg_name (i := 3)))
    (ss_ret (se_if (st_test (se_op os_isN (SE.b (se_var (i := 3))) (SE.b se_non))) (SF.fz (sf_lst sa_nil)) (se_sl (SE.b (se_var (i := 2))) (sp_some (se_index (SE.b (se_var (i := 2))) (SE.b (se_var (i := 3))))) sp_none))))) (by decide) h⟩
theorem z_ring_of (S_ring_of : Src K mg "ring_of" s_ring_of) (m_tuple : mg "tuple" = none) (h_check_both : Has P w K mg base (L2.CX P w) "check_both" 7 ["world", "thing"] (spF ⟨K, mg, T⟩ F_check_both)) (h_plain_ring : Has P w K mg base CX0 "plain_ring" 2 ["world", "thing"] (spF ⟨K, mg, T⟩ F_plain_ring)) : Has P w K mg base (L2.CX P w) "ring_of" 8 ["world", "thing"] (spF ⟨K, mg, T⟩ F_ring_of) := by
  refine S_ring_of.hasX sc_ring_of (fun _ _ _ _ _ _ us hl => match us, hl with | [_, _], _ => rfl) (fun vs H Q E h => len_of h) (fun f cdv A out s H vs Q E hr h => ?_)
  have hu64 := hr.units
  exact ⟨_, (pss_cons (ps_expr (pe_has h_check_both (hr.mono (by decide)) rfl (passes_call (takes_of rfl rfl rfl rfl) (fun _ _ _ _ z => z)) (pa_cons (pv 0) (pa_cons (pv 1) pa_nil))))
    (pss_one (ps_ret (pe_fz (pe_callTy (call_utup (K := K)) rfl m_tuple bb_tuple (pa_cons (pe_has h_plain_ring (hr.mono (by decide)) rfl pass0 (pa_cons (pv 0) (pa_cons (pv 1) pa_nil))) pa_nil)))))), body_of (C := ⟨K, mg, T⟩) (ss_seq (ss_drop (se_callX (F := F_check_both) (sa_cons (se_var (i := 0)) (sa_cons (se_var (i := 1)) sa_nil))))
    (ss_ret (se_cb cz_tuple (sab_cons (SE.b (se_call (F := F_plain_ring) (sa_cons (se_var (i := 0)) (sa_cons (se_var (i := 1)) sa_nil)))) sab_nil)))) (by decide) h⟩
theorem z_stepped (S_stepped : Src K mg "stepped" s_stepped) (m_len : mg "len" = none) (x_Nothing : ExcF K mg "Nothing" (He.ga K "Nothing")) (h_is_index : Has P w K mg base CX0 "is_index" 2 ["thing"] (spF ⟨K, mg, T⟩ F_is_index)) (h_check_both : Has P w K mg base (L2.CX P w) "check_both" 7 ["world", "thing"] (spF ⟨K, mg, T⟩ F_check_both)) (h_plain_way : Has P w K mg base CX0 "plain_way" 1 ["world", "thing"] (spF ⟨K, mg, T⟩ F_plain_way)) (h_plain_ring : Has P w K mg base CX0 "plain_ring" 2 ["world", "thing"] (spF ⟨K, mg, T⟩ F_plain_ring)) : Has P w K mg base (L2.CX P w) "stepped" 8 ["world", "thing", "many"] (spF ⟨K, mg, T⟩ F_stepped) := by
  refine S_stepped.hasX sc_stepped (fun _ _ _ _ _ _ us hl => match us, hl with | [_, _, _], _ => rfl) (fun vs H Q E h => len_of h) (fun f cdv A out s H vs Q E hr h => ?_)
  have hu64 := hr.units
  exact ⟨_, (pss_cons (ps_expr (pe_has h_check_both (hr.mono (by decide)) rfl (passes_call (takes_of rfl rfl rfl rfl) (fun _ _ _ _ z => z)) (pa_cons (pv 0) (pa_cons (pv 1) pa_nil))))
    (pss_cons (ps_if (pt_not (pt_val (pe_has h_is_index (hr.mono (by decide)) rfl pass0 (pa_cons (pv 2) pa_nil))))
      (pss_one (ps_raise rfl (takes_of rfl rfl rfl rfl) (pmk_own0 PySem.F.excBase_ValueError x_Nothing.ex x_Nothing.g x_Nothing.kp (raises_own x_Nothing.sub x_Nothing.ty) (by exact rfl))))
      pss_nil)
    (pss_cons (ps_set (i := 3) sc_stepped.nd rfl (by first | exact Or.inl rfl | exact Or.inr rfl) (pe_has h_plain_way (hr.mono (by decide)) rfl pass0 (pa_cons (pv 0) (pa_cons (pv 1) pa_nil))))
    (pss_cons (ps_if (pt_cmpR op_ult (pv 2) (pe_fz (pe_callB (call_ulen (K := K)) rfl m_len bb_len (pa_cons (pv 3) pa_nil))) (nomark _))
      (pss_one (ps_ret (pe_ix (ix_u (K := K)) (pv 3) (pv 2) (fun _ _ => rfl))))
      pss_nil)
    (pss_cons (ps_set (i := 4) sc_stepped.nd rfl (by first | exact Or.inl rfl | exact Or.inr rfl) (pe_has h_plain_ring (hr.mono (by decide)) rfl pass0 (pa_cons (pv 0) (pa_cons (pv 1) pa_nil))))
    (pss_one (ps_ret (pe_ifExp (pt_cmpR (op_une (K := K) hu64) (pv 4) (pe_fz (pe_lst pa_nil)) (nomark _)) (pe_ix (ix_u (K := K)) (pv 4) (pe_op op_umod (pe_fz (pe_op (op_uaddA (K := K)) (pe_op op_usub (pv 2) (pe_fz (pe_callB (call_ulen (K := K)) rfl m_len bb_len (pa_cons (pv 3) pa_nil)))) (pe_fz (pe_callB (call_ulen (K := K)) rfl m_len bb_len (pa_cons (pv 4) pa_nil))))) (pe_fz (pe_callB (call_ulen (K := K)) rfl m_len bb_len (pa_cons (pv 4) pa_nil)))) (fun _ _ => rfl)) pe_non)))))))), body_of (C := ⟨K, mg, T⟩) (ss_seq (ss_drop (se_callX (F := F_check_both) (sa_cons (se_var (i := 0)) (sa_cons (se_var (i := 1)) sa_nil))))
    (ss_seq (ss_if (st_not (st_val (se_call (F := F_is_index) (sa_cons (se_var (i := 2)) sa_nil))))
      (ss_raise0 (x := "Nothing") x_Nothing.g (fun _ _ _ z => z))
      ss_next)
    (ss_seq (ss_asg (se_call (F := F_plain_way) (sa_cons (se_var (i := 0)) (sa_cons (se_var (i := 1)) sa_nil))) (gg_name (i := 3)))
    (ss_seq (ss_if (st_test (se_op (os_cmp _) (SE.b (se_var (i := 2))) (SE.b (se_cb cz_len (sab_cons (SE.b (se_var (i := 3))) sab_nil)))))
      (ss_ret (se_op os_ix (SE.b (se_var (i := 3))) (SE.b (se_var (i := 2)))))
      ss_next)
    (ss_seq (ss_asg (se_call (F := F_plain_ring) (sa_cons (se_var (i := 0)) (sa_cons (se_var (i := 1)) sa_nil))) (gg_name (i := 4)))
    (ss_ret (se_if (st_test (se_op os_ne (SE.b (se_var (i := 4))) (SE.b (SF.fz (sf_lst sa_nil))))) (se_op os_ix (SE.b (se_var (i := 4))) (SE.b (se_op os_mod (SE.b (se_opz oz_add (SE.b (se_op os_sub (SE.b (se_var (i := 2))) (SE.b (se_cb cz_len (sab_cons (SE.b (se_var (i := 3))) sab_nil))))) (SE.b (se_cb cz_len (sab_cons (SE.b (se_var (i := 4))) sab_nil))))) (SE.b (se_cb cz_len (sab_cons (SE.b (se_var (i := 4))) sab_nil)))))) se_non))))))) (by decide) h⟩
theorem z_on_rings (S_on_rings : Src K mg "on_rings" s_on_rings) (m_len : mg "len" = none) (m_range : mg "range" = none) (m_tuple : mg "tuple" = none) (c_MOST_HUES : ∃ t, mg "MOST_HUES" = some (.int 3 t)) (h_checked_world : Has P w K mg base (L2.CX P w) "checked_world" 6 ["hues", "thing"] (spF ⟨K, mg, T⟩ F_checked_world)) (h_plain_ring : Has P w K mg base CX0 "plain_ring" 2 ["world", "thing"] (spF ⟨K, mg, T⟩ F_plain_ring)) : Has P w K mg base (L2.CX P w) "on_rings" 7 ["world"] (spF ⟨K, mg, T⟩ F_on_rings) := by
  refine S_on_rings.hasX sc_on_rings (fun _ _ _ _ _ _ us hl => match us, hl with | [_], _ => rfl) (fun vs H Q E h => len_of h) (fun f cdv A out s H vs Q E hr h => ?_)
  have hu64 := hr.units
  exact ⟨_, (pss_cons (ps_expr (pe_has h_checked_world (hr.mono (by decide)) rfl (passes_call (takes_of rfl rfl rfl rfl) (fun _ _ _ _ z => z)) (pa_cons (pe_cint c_MOST_HUES rfl) (pa_cons (pv 0) pa_nil))))
    (pss_one (ps_ret (pe_fz (pe_callTy (call_utup (K := K)) rfl m_tuple bb_tuple (pa_cons (pe_fz (pe_lc (own := [("thing", 1)]) (by rfl) sc_on_rings.nd (pi_range1 rfl m_range (pa_cons (pe_fz (pe_callB (call_ulen (K := K)) rfl m_len bb_len (pa_cons (pe_ix (ix_u (K := K)) (pv 0) pe_int (fun _ _ => rfl)) pa_nil))) pa_nil)) (blkOk_by (N := ["world", "thing"]) (own := [("thing", 1)]) (sc := defScope s_on_rings) (by decide +kernel)) (fun _ _ _ _ _ => (pg_name (i := 1) sc_on_rings.nd rfl (by first | exact Or.inl rfl | exact Or.inr rfl))) (fun _ _ _ _ _ => pts_one (pt_cmpR (op_uin (K := K)) (pv 1) (pe_fz (pe_slice (sl_u (K := K)) (pe_has h_plain_ring (hr.mono (by decide)) rfl pass0 (pa_cons (pv 0) (pa_cons (pv 1) pa_nil))) po_none (po_some pe_int))) (by with_unfolding_all rfl))) (fun _ _ _ _ _ => (pv 1)))) pa_nil)))))), body_of (C := ⟨K, mg, T⟩) (ss_seq (ss_drop (se_callX (F := F_checked_world) (sa_cons se_int (sa_cons (se_var (i := 0)) sa_nil))))
    (ss_ret (se_cb cz_tuple (sab_cons (SE.b (SF.fz (sf_lc (vs := [1]) (si_rng1 (se_cb cz_len (sab_cons (SE.b (se_op os_ix (SE.b (se_var (i := 0))) (SE.b se_int))) sab_nil))) (gw_name (i := 1) (by decide)) (st_test (se_op os_in (SE.b (se_var (i := 1))) (SE.b (se_sl (SE.b (se_call (F := F_plain_ring) (sa_cons (se_var (i := 0)) (sa_cons (se_var (i := 1)) sa_nil)))) sp_none (sp_some se_int))))) (se_var (i := 1))))) sab_nil)))) (by decide) h⟩
theorem z_law_take (S_law_take : Src K mg "_law_take" s_law_take) (m_int : mg "int" = none) : Has P w K mg base CX0 "_law_take" 1 ["bag", "many"] (spF ⟨K, mg, T⟩ F_law_take) := by
  refine S_law_take.has sc_law_take (fun _ _ _ _ _ _ us hl => match us, hl with | [_, _], _ => rfl) (fun vs H Q E h => len_of h) (fun f cdv A out s H vs Q E hr h => ?_)
  have hu64 := hr.units
  exact ⟨_, (pss_cons (ps_if (pt_cmpR (op_ueq (K := K) hu64) (pe_ix (ix_u (K := K)) (pv 0) pe_int (fun _ _ => rfl)) pe_int (nomark _))
      (pss_cons (ps_set (i := 2) sc_law_take.nd rfl (by first | exact Or.inl rfl | exact Or.inr rfl) (pe_ix (ix_u (K := K)) (pe_fz (pe_op (op_uaddA (K := K)) (pe_fz (pe_slice (sl_u (K := K)) (pe_ix (ix_u (K := K)) (pv 0) pe_int (fun _ _ => rfl)) (po_some (pe_ix (ix_u (K := K)) (pv 0) pe_int (fun _ _ => rfl))) po_none)) (pe_fz (pe_lst (pa_cons pe_int pa_nil))))) pe_int (fun _ _ => rfl)))
    (pss_cons (ps_augS (pv 0) pe_int (get_ulist (K := K)) pe_int ip_add set_list)
    (pss_cons (ps_if (pt_cmpR op_uge (pv 2) (pe_op op_upow pe_int pe_int) (nomark _))
      (pss_one (ps_asg (pv 2) (pg_sub (pv 0) pe_int set_list)))
      pss_nil)
    (pss_cons (ps_set (i := 3) sc_law_take.nd rfl (by first | exact Or.inl rfl | exact Or.inr rfl) (pe_fz (pe_op (op_uaddA (K := K)) (pe_fz (pe_op (op_uaddA (K := K)) (pe_op op_umul (pe_ix (ix_u (K := K)) (pv 0) pe_int (fun _ _ => rfl)) pe_int) (pe_op op_umod (pe_fz (pe_callTy call_uint rfl m_int bb_int (pa_cons (pv 2) pa_nil))) pe_int))) (pe_op op_umul pe_int (pe_ix (ix_u (K := K)) (pv 0) pe_int (fun _ _ => rfl))))))
    (pss_one (ps_asg (pe_op op_umod (pe_fz (pe_callTy call_uint rfl m_int bb_int (pa_cons (pv 3) pa_nil))) pe_int) (pg_sub (pv 0) pe_int set_list)))))))
      pss_nil)
    (pss_cons (ps_if (pt_cmpR op_ugt (pe_ix (ix_u (K := K)) (pv 0) pe_int (fun _ _ => rfl)) pe_int (nomark _))
      (pss_cons (ps_set (i := 4) sc_law_take.nd rfl (by first | exact Or.inl rfl | exact Or.inr rfl) (pe_op op_umod (pe_fz (pe_callTy call_uint rfl m_int bb_int (pa_cons (pe_ix (ix_u (K := K)) (pv 0) pe_int (fun _ _ => rfl)) pa_nil))) (pv 1)))
    (pss_cons (ps_asg (pe_op op_ufdiv (pe_fz (pe_callTy call_uint rfl m_int bb_int (pa_cons (pe_ix (ix_u (K := K)) (pv 0) pe_int (fun _ _ => rfl)) pa_nil))) (pv 1)) (pg_sub (pv 0) pe_int set_list))
    (pss_one (ps_ret (pv 4)))))
      pss_nil)
    (pss_cons (ps_set (i := 5) sc_law_take.nd rfl (by first | exact Or.inl rfl | exact Or.inr rfl) (pe_op op_umod (pe_fz (pe_callTy call_uint rfl m_int bb_int (pa_cons (pe_op op_umul (pe_fz (pe_op (op_uaddA (K := K)) (pe_ix (ix_u (K := K)) (pv 0) pe_int (fun _ _ => rfl)) pe_int)) pe_int) pa_nil))) pe_int))
    (pss_cons (ps_set (i := 6) sc_law_take.nd rfl (by first | exact Or.inl rfl | exact Or.inr rfl) (pe_op op_umod (pe_fz (pe_callTy call_uint rfl m_int bb_int (pa_cons (pe_op op_umul (pe_op op_umod (pe_fz (pe_callTy call_uint rfl m_int bb_int (pa_cons (pe_op op_umul (pv 5) (pv 5)) pa_nil))) pe_int) pe_int) pa_nil))) pe_int))
    (pss_one (ps_ret (pe_op op_umod (pe_fz (pe_callTy call_uint rfl m_int bb_int (pa_cons (pe_op op_ufdiv (pv 6) pe_int) pa_nil))) (pv 1)))))))), body_of (C := ⟨K, mg, T⟩) (ss_seq (ss_if (st_test (se_op os_eq (SE.b (se_cix (se_var (i := 0)) se_int)) (SE.b se_int)))
      (ss_seq (ss_asg (se_op os_ix (SE.b (se_opz oz_add (SE.b (se_sl (SE.b (se_cix (se_var (i := 0)) se_int)) (sp_some (se_cix (se_var (i := 0)) se_int)) sp_none)) (SE.b (SF.fz (sf_lst (sa_cons se_int sa_nil)))))) (SE.b se_int)) (gg_name (i := 2)))
    (ss_seq (ss_caug (k := 2) (se_var (i := 0)) se_int)
    (ss_seq (ss_if (st_test (se_op (os_cmp _) (SE.b (se_var (i := 2))) (SE.b (se_op os_pow (SE.b se_int) (SE.b se_int)))))
      (ss_cput (se_var (i := 0)) se_int (se_var (i := 2)))
      ss_next)
    (ss_seq (ss_asg (se_opz oz_add (SE.b (se_opz oz_add (SE.b (se_op os_mul (SE.b (se_cix (se_var (i := 0)) se_int)) (SE.b se_int))) (SE.b (se_op os_mod (SE.b (se_cb cz_int (sab_cons (SE.b (se_var (i := 2))) sab_nil))) (SE.b se_int))))) (SE.b (se_op os_mul (SE.b se_int) (SE.b (se_cix (se_var (i := 0)) se_int))))) (gg_name (i := 3)))
    (ss_cput (se_var (i := 0)) se_int (se_op os_mod (SE.b (se_cb cz_int (sab_cons (SE.b (se_var (i := 3))) sab_nil))) (SE.b se_int)))))))
      ss_next)
    (ss_seq (ss_if (st_test (se_op (os_cmp _) (SE.b (se_cix (se_var (i := 0)) se_int)) (SE.b se_int)))
      (ss_seq (ss_asg (se_op os_mod (SE.b (se_cb cz_int (sab_cons (SE.b (se_cix (se_var (i := 0)) se_int)) sab_nil))) (SE.b (se_var (i := 1)))) (gg_name (i := 4)))
    (ss_seq (ss_cput (se_var (i := 0)) se_int (se_op os_fdiv (SE.b (se_cb cz_int (sab_cons (SE.b (se_cix (se_var (i := 0)) se_int)) sab_nil))) (SE.b (se_var (i := 1)))))
    (ss_ret (se_var (i := 4)))))
      ss_next)
    (ss_seq (ss_asg (se_op os_mod (SE.b (se_cb cz_int (sab_cons (SE.b (se_op os_mul (SE.b (se_opz oz_add (SE.b (se_cix (se_var (i := 0)) se_int)) (SE.b se_int))) (SE.b se_int))) sab_nil))) (SE.b se_int)) (gg_name (i := 5)))
    (ss_seq (ss_asg (se_op os_mod (SE.b (se_cb cz_int (sab_cons (SE.b (se_op os_mul (SE.b (se_op os_mod (SE.b (se_cb cz_int (sab_cons (SE.b (se_op os_mul (SE.b (se_var (i := 5))) (SE.b (se_var (i := 5))))) sab_nil))) (SE.b se_int))) (SE.b se_int))) sab_nil))) (SE.b se_int)) (gg_name (i := 6)))
    (ss_ret (se_op os_mod (SE.b (se_cb cz_int (sab_cons (SE.b (se_op os_fdiv (SE.b (se_var (i := 6))) (SE.b se_int))) sab_nil))) (SE.b (se_var (i := 1))))))))) (by decide) h⟩
theorem z_law_some (S_law_some : Src K mg "_law_some" s_law_some) (m_len : mg "len" = none) (h_law_take : Has P w K mg base CX0 "_law_take" 1 ["bag", "many"] (spF ⟨K, mg, T⟩ F_law_take)) : Has P w K mg base CX0 "_law_some" 2 ["bag", "things"] (spF ⟨K, mg, T⟩ F_law_some) := by
  refine S_law_some.has sc_law_some (fun _ _ _ _ _ _ us hl => match us, hl with | [_, _], _ => rfl) (fun vs H Q E h => len_of h) (fun f cdv A out s H vs Q E hr h => ?_)
  have hu64 := hr.units
  exact ⟨_, (pss_one (ps_ret (pe_ix (ix_u (K := K)) (pv 1) (pe_has h_law_take (hr.mono (by decide)) rfl pass0 (pa_cons (pv 0) (pa_cons (pe_fz (pe_callB (call_ulen (K := K)) rfl m_len bb_len (pa_cons (pv 1) pa_nil))) pa_nil))) (fun _ _ => rfl)))), body_of (C := ⟨K, mg, T⟩) (ss_ret (se_op os_ix (SE.b (se_var (i := 1))) (SE.b (se_call (F := F_law_take) (sa_cons (se_var (i := 0)) (sa_cons (se_cb cz_len (sab_cons (SE.b (se_var (i := 1))) sab_nil)) sa_nil)))))) (by decide) h⟩
theorem z_law_world (S_law_world : Src K mg "_law_world" s_law_world) (m_max : mg "max" = none) (m_range : mg "range" = none) (m_tuple : mg "tuple" = none) (h_law_take : Has P w K mg base CX0 "_law_take" 1 ["bag", "many"] (spF ⟨K, mg, T⟩ F_law_take)) (h_law_some : Has P w K mg base CX0 "_law_some" 2 ["bag", "things"] (spF ⟨K, mg, T⟩ F_law_some)) : Has P w K mg base CX0 "_law_world" 3 ["bag", "hues", "most"] (spF ⟨K, mg, T⟩ F_law_world) := by
  refine S_law_world.has sc_law_world (fun _ _ _ _ _ _ us hl => match us, hl with | [_, _, _], _ => rfl) (fun vs H Q E h => len_of h) (fun f cdv A out s H vs Q E hr h => ?_)
  have hu64 := hr.units
  exact ⟨_, (pss_cons (ps_set (i := 3) sc_law_world.nd rfl (by first | exact Or.inl rfl | exact Or.inr rfl) (pe_has h_law_take (hr.mono (by decide)) rfl pass0 (pa_cons (pv 0) (pa_cons (pe_fz (pe_op (op_uaddA (K := K)) (pv 2) pe_int)) pa_nil))))
    (pss_cons (ps_setLc (i := 4) (own := [("place", 5)]) (by rfl) sc_law_world.nd rfl rfl (sw_true rfl rfl rfl (by decide +kernel)) (pi_range1 rfl m_range (pa_cons (pv 3) pa_nil)) (blkOk_by (N := ["bag", "hues", "most", "many", "nexts", "place"]) (own := [("place", 5)]) (sc := defScope s_law_world) (by decide +kernel)) (fun _ _ _ _ _ => (pg_name (i := 5) sc_law_world.nd rfl (by first | exact Or.inl rfl | exact Or.inr rfl))) (fun _ _ _ _ _ => pts_nil) (fun _ _ _ _ _ => (pe_has h_law_some (hr.mono (by decide)) rfl pass0 (pa_cons (pv 0) (pa_cons (pe_fz (pe_lst (pa_cons pe_non (pa_cons (pv 5) (pa_cons (pe_op op_umod (pe_fz (pe_op (op_uaddA (K := K)) (pv 5) pe_int)) (pv 3)) (pa_cons (pe_fz (pe_callB (call_umax2 rfl) rfl m_max bb_max (pa_cons pe_int (pa_cons (pe_op op_usub (pv 5) pe_int) pa_nil)))) (pa_cons (pe_has h_law_take (hr.mono (by decide)) rfl pass0 (pa_cons (pv 0) (pa_cons (pv 3) pa_nil))) pa_nil))))))) pa_nil)))))
    (pss_fz (i := 4) (pss_one (ps_ret (pe_tup (pa_cons (pe_fz (pe_callTy (call_utup (K := K)) rfl m_tuple bb_tuple (pa_cons (pe_fz (pe_lc (own := [("place", 5)]) (by rfl) sc_law_world.nd (pi_range1 rfl m_range (pa_cons (pv 3) pa_nil)) (blkOk_by (N := ["bag", "hues", "most", "many", "nexts", "place"]) (own := [("place", 5)]) (sc := defScope s_law_world) (by decide +kernel)) (fun _ _ _ _ _ => (pg_name (i := 5) sc_law_world.nd rfl (by first | exact Or.inl rfl | exact Or.inr rfl))) (fun _ _ _ _ _ => pts_nil) (fun _ _ _ _ _ => (pe_has h_law_take (hr.mono (by decide)) rfl pass0 (pa_cons (pv 0) (pa_cons (pv 1) pa_nil)))))) pa_nil))) (pa_cons (pe_fz (pe_callTy (call_utup (K := K)) rfl m_tuple bb_tuple (pa_cons (pv 4) pa_nil))) pa_nil)))))))), body_of (C := ⟨K, mg, T⟩) (ss_seq (ss_asg (se_call (F := F_law_take) (sa_cons (se_var (i := 0)) (sa_cons (se_opz oz_add (SE.b (se_var (i := 2))) (SE.b se_int)) sa_nil))) (gg_name (i := 3)))
    (ss_seq (ss_own (i := 4) (sf_lc (vs := [5]) (si_rng1 (se_var (i := 3))) (gw_name (i := 5) (by decide)) st_yes (se_call (F := F_law_some) (sa_cons (se_var (i := 0)) (sa_cons (SF.fz (sf_lst (sa_cons se_non (sa_cons (se_var (i := 5)) (sa_cons (se_op os_mod (SE.b (se_opz oz_add (SE.b (se_var (i := 5))) (SE.b se_int))) (SE.b (se_var (i := 3)))) (sa_cons (se_cb cz_max2 (sab_cons (SE.b se_int) (sab_cons (SE.b (se_op os_sub (SE.b (se_var (i := 5))) (SE.b se_int))) sab_nil))) (sa_cons (se_call (F := F_law_take) (sa_cons (se_var (i := 0)) (sa_cons (se_var (i := 3)) sa_nil))) sa_nil))))))) sa_nil)))))
    (ss_fz (i := 4) (ss_ret (se_tup (sa_cons (se_cb cz_tuple (sab_cons (SE.b (SF.fz (sf_lc (vs := [5]) (si_rng1 (se_var (i := 3))) (gw_name (i := 5) (by decide)) st_yes (se_call (F := F_law_take) (sa_cons (se_var (i := 0)) (sa_cons (se_var (i := 1)) sa_nil)))))) sab_nil)) (sa_cons (se_cb cz_tuple (sab_cons (SE.b (se_var (i := 4))) sab_nil)) sa_nil))))))) (by decide) h⟩
theorem z_law_way (S_law_way : Src K mg "_law_way" s_law_way)  : Has P w K mg base CX0 "_law_way" 1 ["world", "thing"] (spF ⟨K, mg, T⟩ F_law_way) := by
  refine S_law_way.has sc_law_way (fun _ _ _ _ _ _ us hl => match us, hl with | [_, _], _ => rfl) (fun vs H Q E h => len_of h) (fun f cdv A out s H vs Q E hr h => ?_)
  have hu64 := hr.units
  exact ⟨_, (pss_cons (ps_set (i := 2) sc_law_way.nd rfl (by first | exact Or.inl rfl | exact Or.inr rfl) (pe_lst pa_nil))
    (pss_cons (ps_while PassesOwn.never (PW.pt (pw_and (pt_cmpR op_notN (pv 1) pe_non (nomark _)) (pw_and1 (pt_cmpR (op_unotin (K := K)) (pv 1) (pv 2) (by with_unfolding_all rfl)))))
      (pss_cons (ps_expr (pe_bm PySem.F.plainAttrs_list PySem.F.slot_list_append PySem.F.type_list_append mt_append (pv 2) (pa_cons (pv 1) pa_nil)))
    (pss_one (ps_set (i := 1) sc_law_way.nd rfl (by first | exact Or.inl rfl | exact Or.inr rfl) (pe_ix (ix_u (K := K)) (pe_ix (ix_u (K := K)) (pv 0) pe_int (fun _ _ => rfl)) (pv 1) (fun _ _ => rfl))))))
    (pss_one (ps_ret (pe_fz (pv 2)))))), body_of (C := ⟨K, mg, T⟩) (ss_seq (ss_own (i := 2) (sf_lst sa_nil))
    (ss_seq (ss_while FUEL (st_and (st_test (se_op os_notN (SE.b (se_var (i := 1))) (SE.b se_non))) (st_test (se_op os_notIn (SE.b (se_var (i := 1))) (sb_own (i := 2)))))
      (ss_seq (ss_app (i := 2) (se_var (i := 1)))
    (ss_asg (se_op os_ix (SE.b (se_op os_ix (SE.b (se_var (i := 0))) (SE.b se_int))) (SE.b (se_var (i := 1)))) (gg_name (i := 1)))))
    (ss_retOwn (i := 2)))) (by decide) h⟩
theorem z_law_alike (S_law_alike : Src K mg "_law_alike" s_law_alike) (m_repr : mg "repr" = none) : HasG P w K mg base CX0 "_law_alike" 1 ["found", "due"] (spF ⟨K, mg, T⟩ F_law_alike) := by
  refine S_law_alike.hasG sc_law_alike (fun _ _ _ _ _ _ us hl => match us, hl with | [_, _], _ => rfl) (fun vs H Q E h => len_of h) (fun f cdv A out s H vs Q E gd hr h => ?_)
  have hu64 := hr.units
  have hu66 : (A.deeper (envOfC "_law_alike" (defScope s_law_alike) s.heap.objs.size f cdv)).units + 66 < cLine := by have := hr.un; omega
  exact ⟨_, (pss_one (ps_ret (pe_and (pe_cmpR (op_ueq (K := K) hu64) (pe_fz (pe_callB (call_reprD gd hu66) rfl m_repr bb_repr (pa_cons (pv 0) pa_nil))) (pe_fz (pe_callB (call_reprD gd hu66) rfl m_repr bb_repr (pa_cons (pv 1) pa_nil))) (nomark _)) (pe_one (pe_cmpR (op_ueq (K := K) hu64) (pv 0) (pv 1) (nomark _)))))), body_of (C := ⟨K, mg, T⟩) (ss_ret (se_and (se_op os_eq (SE.b (se_cb cz_repr (sab_cons (SE.b (se_var (i := 0))) sab_nil))) (SE.b (se_cb cz_repr (sab_cons (SE.b (se_var (i := 1))) sab_nil)))) (se_op os_eq (SE.b (se_var (i := 0))) (SE.b (se_var (i := 1)))))) (by decide) h⟩
theorem z_law_fault (S_law_fault : Src K mg "_law_fault" s_law_fault) (m_enumerate : mg "enumerate" = none) (m_len : mg "len" = none) (m_zip : mg "zip" = none) : Has P w K mg base CX0 "_law_fault" 1 ["hues", "world"] (spF ⟨K, mg, T⟩ F_law_fault) := by
  refine S_law_fault.has sc_law_fault (fun _ _ _ _ _ _ us hl => match us, hl with | [_, _], _ => rfl) (fun vs H Q E h => len_of h) (fun f cdv A out s H vs Q E hr h => ?_)
  have hu64 := hr.units
  exact ⟨_, (pss_cons (ps_if (pt_cmpR (op_une (K := K) hu64) (pe_fz (pe_callB (call_ulen (K := K)) rfl m_len bb_len (pa_cons (pe_ix (ix_u (K := K)) (pv 1) pe_int (fun _ _ => rfl)) pa_nil))) (pe_fz (pe_callB (call_ulen (K := K)) rfl m_len bb_len (pa_cons (pe_ix (ix_u (K := K)) (pv 1) pe_int (fun _ _ => rfl)) pa_nil))) (nomark _))
      (pss_one (ps_ret (pe_tup (pa_cons (pe_tup (pa_cons pe_str pa_nil)) (pa_cons pe_str pa_nil)))))
      pss_nil)
    (pss_cons (ps_for PassesOwn.never rfl (pi_enumZ (K := K) rfl m_enumerate rfl m_zip (pa_cons (pe_ix (ix_u (K := K)) (pv 1) pe_int (fun _ _ => rfl)) (pa_cons (pe_ix (ix_u (K := K)) (pv 1) pe_int (fun _ _ => rfl)) pa_nil))) (pg_utup (K := K) (n := 2) rfl rfl (by rfl) (pgs_cons (pg_name (i := 2) sc_law_fault.nd rfl (by first | exact Or.inl rfl | exact Or.inr rfl)) (pgs_cons (pg_utup (K := K) (n := 2) rfl rfl (by rfl) (pgs_cons (pg_name (i := 3) sc_law_fault.nd rfl (by first | exact Or.inl rfl | exact Or.inr rfl)) (pgs_cons (pg_name (i := 4) sc_law_fault.nd rfl (by first | exact Or.inl rfl | exact Or.inr rfl)) pgs_nil))) pgs_nil)))
      (pss_cons (ps_if (pt_cmpR op_uge (pv 3) (pv 0) (nomark _))
      (pss_one (ps_ret (pe_tup (pa_cons (pe_tup (pa_cons pe_str (pa_cons (pv 2) pa_nil))) (pa_cons pe_str pa_nil)))))
      pss_nil)
    (pss_one (ps_if (PW.pt (pw_and (pt_cmpR op_notN (pv 4) pe_non (nomark _)) (pw_and1 (pt_cmpR op_uge (pv 4) (pe_fz (pe_callB (call_ulen (K := K)) rfl m_len bb_len (pa_cons (pe_ix (ix_u (K := K)) (pv 1) pe_int (fun _ _ => rfl)) pa_nil))) (nomark _)))))
      (pss_one (ps_ret (pe_tup (pa_cons (pe_tup (pa_cons pe_str (pa_cons (pv 2) pa_nil))) (pa_cons pe_str pa_nil)))))
      pss_nil))))
    (pss_one (ps_ret pe_non)))), body_of (C := ⟨K, mg, T⟩) (ss_seq (ss_if (st_test (se_op os_ne (SE.b (se_cb cz_len (sab_cons (SE.b (se_op os_ix (SE.b (se_var (i := 1))) (SE.b se_int))) sab_nil))) (SE.b (se_cb cz_len (sab_cons (SE.b (se_op os_ix (SE.b (se_var (i := 1))) (SE.b se_int))) sab_nil)))))
      (ss_ret (se_tup (sa_cons (se_tup (sa_cons se_str sa_nil)) (sa_cons se_str sa_nil))))
      ss_next)
    (ss_seq (ss_for (si_enumZ (se_op os_ix (SE.b (se_var (i := 1))) (SE.b se_int)) (se_op os_ix (SE.b (se_var (i := 1))) (SE.b se_int))) (gg_tup (ggs_cons (gg_name (i := 2)) (ggs_cons (gg_tup (ggs_cons (gg_name (i := 3)) (ggs_cons (gg_name (i := 4)) ggs_nil))) ggs_nil)))
      (ss_seq (ss_if (st_test (se_op (os_cmp _) (SE.b (se_var (i := 3))) (SE.b (se_var (i := 0)))))
      (ss_ret (se_tup (sa_cons (se_tup (sa_cons se_str (sa_cons (se_var (i := 2)) sa_nil))) (sa_cons se_str sa_nil))))
      ss_next)
    (ss_if (st_and (st_test (se_op os_notN (SE.b (se_var (i := 4))) (SE.b se_non))) (st_test (se_op (os_cmp _) (SE.b (se_var (i := 4))) (SE.b (se_cb cz_len (sab_cons (SE.b (se_op os_ix (SE.b (se_var (i := 1))) (SE.b se_int))) sab_nil))))))
      (ss_ret (se_tup (sa_cons (se_tup (sa_cons se_str (sa_cons (se_var (i := 2)) sa_nil))) (sa_cons se_str sa_nil))))
      ss_next)))
    (ss_ret se_non))) (by decide) h⟩
theorem z_law_bent (S_law_bent : Src K mg "_law_bent" s_law_bent) (m_len : mg "len" = none) (h_law_take : Has P w K mg base CX0 "_law_take" 1 ["bag", "many"] (spF ⟨K, mg, T⟩ F_law_take)) (h_law_some : Has P w K mg base CX0 "_law_some" 2 ["bag", "things"] (spF ⟨K, mg, T⟩ F_law_some)) : Has P w K mg base CX0 "_law_bent" 3 ["bag", "hues", "world"] (spF ⟨K, mg, T⟩ F_law_bent) := by
  refine S_law_bent.has sc_law_bent (fun _ _ _ _ _ _ us hl => match us, hl with | [_, _, _], _ => rfl) (fun vs H Q E h => len_of h) (fun f cdv A out s H vs Q E hr h => ?_)
  have hu64 := hr.units
  exact ⟨_, (pss_cons (ps_asg (pv 2) (pg_utup (K := K) (n := 2) rfl rfl (by rfl) (pgs_cons (pg_name (i := 3) sc_law_bent.nd rfl (by first | exact Or.inl rfl | exact Or.inr rfl)) (pgs_cons (pg_name (i := 4) sc_law_bent.nd rfl (by first | exact Or.inl rfl | exact Or.inr rfl)) pgs_nil))))
    (pss_cons (ps_set (i := 5) sc_law_bent.nd rfl (by first | exact Or.inl rfl | exact Or.inr rfl) (pe_has h_law_take (hr.mono (by decide)) rfl pass0 (pa_cons (pv 0) (pa_cons (pe_fz (pe_op (op_uaddA (K := K)) (pe_fz (pe_callB (call_ulen (K := K)) rfl m_len bb_len (pa_cons (pv 3) pa_nil))) pe_int)) pa_nil))))
    (pss_cons (ps_set (i := 6) sc_law_bent.nd rfl (by first | exact Or.inl rfl | exact Or.inr rfl) (pe_fz (pe_lst (pa_cons (pe_tup (pa_cons (pe_fz (pe_op (op_uaddA (K := K)) (pv 3) (pe_tup (pa_cons pe_int pa_nil)))) (pa_cons (pv 4) pa_nil))) (pa_cons (pe_tup (pa_cons (pv 3) (pa_cons (pe_fz (pe_slice (sl_u (K := K)) (pv 4) po_none (po_some (pe_un un_neg pe_int)))) pa_nil))) (pa_cons (pe_tup (pa_cons (pe_fz (pe_op (op_uaddA (K := K)) (pe_fz (pe_op (op_uaddA (K := K)) (pe_fz (pe_slice (sl_u (K := K)) (pv 3) po_none (po_some (pv 5)))) (pe_tup (pa_cons (pv 1) pa_nil)))) (pe_fz (pe_slice (sl_u (K := K)) (pv 3) (po_some (pe_fz (pe_op (op_uaddA (K := K)) (pv 5) pe_int))) po_none)))) (pa_cons (pv 4) pa_nil))) (pa_cons (pe_tup (pa_cons (pv 3) (pa_cons (pe_fz (pe_op (op_uaddA (K := K)) (pe_fz (pe_op (op_uaddA (K := K)) (pe_fz (pe_slice (sl_u (K := K)) (pv 4) po_none (po_some (pv 5)))) (pe_tup (pa_cons (pe_fz (pe_callB (call_ulen (K := K)) rfl m_len bb_len (pa_cons (pv 3) pa_nil))) pa_nil)))) (pe_fz (pe_slice (sl_u (K := K)) (pv 4) (po_some (pe_fz (pe_op (op_uaddA (K := K)) (pv 5) pe_int))) po_none)))) pa_nil))) pa_nil)))))))
    (pss_cons (ps_set (i := 6) sc_law_bent.nd rfl (by first | exact Or.inl rfl | exact Or.inr rfl) (pe_fz (pe_op (op_uaddA (K := K)) (pv 6) (pe_fz (pe_lst (pa_cons (pe_tup (pa_cons (pe_fz (pe_op (op_uaddA (K := K)) (pe_fz (pe_op (op_uaddA (K := K)) (pe_fz (pe_slice (sl_u (K := K)) (pv 3) po_none (po_some (pv 5)))) (pe_tup (pa_cons pe_int pa_nil)))) (pe_fz (pe_slice (sl_u (K := K)) (pv 3) (po_some (pe_fz (pe_op (op_uaddA (K := K)) (pv 5) pe_int))) po_none)))) (pa_cons (pe_fz (pe_op (op_uaddA (K := K)) (pe_fz (pe_op (op_uaddA (K := K)) (pe_fz (pe_slice (sl_u (K := K)) (pv 4) po_none (po_some (pv 5)))) (pe_tup (pa_cons pe_int pa_nil)))) (pe_fz (pe_slice (sl_u (K := K)) (pv 4) (po_some (pe_fz (pe_op (op_uaddA (K := K)) (pv 5) pe_int))) po_none)))) pa_nil))) (pa_cons (pe_tup (pa_cons (pe_fz (pe_op (op_uaddA (K := K)) (pv 3) (pe_tup (pa_cons pe_int pa_nil)))) (pa_cons (pe_fz (pe_op (op_uaddA (K := K)) (pv 4) (pe_tup (pa_cons pe_non pa_nil)))) pa_nil))) pa_nil)))))))
    (pss_one (ps_ret (pe_has h_law_some (hr.mono (by decide)) rfl pass0 (pa_cons (pv 0) (pa_cons (pv 6) pa_nil))))))))), body_of (C := ⟨K, mg, T⟩) (ss_seq (ss_asg (se_var (i := 2)) (gg_tup (ggs_cons (gg_name (i := 3)) (ggs_cons (gg_name (i := 4)) ggs_nil))))
    (ss_seq (ss_asg (se_call (F := F_law_take) (sa_cons (se_var (i := 0)) (sa_cons (se_opz oz_add (SE.b (se_cb cz_len (sab_cons (SE.b (se_var (i := 3))) sab_nil))) (SE.b se_int)) sa_nil))) (gg_name (i := 5)))
    (ss_seq (ss_asg (SF.fz (sf_lst (sa_cons (se_tup (sa_cons (se_opz oz_add (SE.b (se_var (i := 3))) (SE.b (se_tup (sa_cons se_int sa_nil)))) (sa_cons (se_var (i := 4)) sa_nil))) (sa_cons (se_tup (sa_cons (se_var (i := 3)) (sa_cons (se_sl (SE.b (se_var (i := 4))) sp_none (sp_some (se_un ou_neg (SE.b se_int)))) sa_nil))) (sa_cons (se_tup (sa_cons (se_opz oz_add (SE.b (se_opz oz_add (SE.b (se_sl (SE.b (se_var (i := 3))) sp_none (sp_some (se_var (i := 5))))) (SE.b (se_tup (sa_cons (se_var (i := 1)) sa_nil))))) (SE.b (se_sl (SE.b (se_var (i := 3))) (sp_some (se_opz oz_add (SE.b (se_var (i := 5))) (SE.b se_int))) sp_none))) (sa_cons (se_var (i := 4)) sa_nil))) (sa_cons (se_tup (sa_cons (se_var (i := 3)) (sa_cons (se_opz oz_add (SE.b (se_opz oz_add (SE.b (se_sl (SE.b (se_var (i := 4))) sp_none (sp_some (se_var (i := 5))))) (SE.b (se_tup (sa_cons (se_cb cz_len (sab_cons (SE.b (se_var (i := 3))) sab_nil)) sa_nil))))) (SE.b (se_sl (SE.b (se_var (i := 4))) (sp_some (se_opz oz_add (SE.b (se_var (i := 5))) (SE.b se_int))) sp_none))) sa_nil))) sa_nil)))))) (gg_name (i := 6)))
    (ss_seq (ss_asg (se_opz oz_add (SE.b (se_var (i := 6))) (SE.b (SF.fz (sf_lst (sa_cons (se_tup (sa_cons (se_opz oz_add (SE.b (se_opz oz_add (SE.b (se_sl (SE.b (se_var (i := 3))) sp_none (sp_some (se_var (i := 5))))) (SE.b (se_tup (sa_cons se_int sa_nil))))) (SE.b (se_sl (SE.b (se_var (i := 3))) (sp_some (se_opz oz_add (SE.b (se_var (i := 5))) (SE.b se_int))) sp_none))) (sa_cons (se_opz oz_add (SE.b (se_opz oz_add (SE.b (se_sl (SE.b (se_var (i := 4))) sp_none (sp_some (se_var (i := 5))))) (SE.b (se_tup (sa_cons se_int sa_nil))))) (SE.b (se_sl (SE.b (se_var (i := 4))) (sp_some (se_opz oz_add (SE.b (se_var (i := 5))) (SE.b se_int))) sp_none))) sa_nil))) (sa_cons (se_tup (sa_cons (se_opz oz_add (SE.b (se_var (i := 3))) (SE.b (se_tup (sa_cons se_int sa_nil)))) (sa_cons (se_opz oz_add (SE.b (se_var (i := 4))) (SE.b (se_tup (sa_cons se_non sa_nil)))) sa_nil))) sa_nil)))))) (gg_name (i := 6)))
    (ss_ret (se_call (F := F_law_some) (sa_cons (se_var (i := 0)) (sa_cons (se_var (i := 6)) sa_nil)))))))) (by decide) h⟩
theorem z_law_steps (S_law_steps : Src K mg "_law_steps" s_law_steps) (m_range : mg "range" = none) : Has P w K mg base CX0 "_law_steps" 1 ["world", "thing", "many"] (spF ⟨K, mg, T⟩ F_law_steps) := by
  refine S_law_steps.has sc_law_steps (fun _ _ _ _ _ _ us hl => match us, hl with | [_, _, _], _ => rfl) (fun vs H Q E h => len_of h) (fun f cdv A out s H vs Q E hr h => ?_)
  have hu64 := hr.units
  exact ⟨_, (pss_cons (ps_for PassesOwn.never rfl (pi_range1 rfl m_range (pa_cons (pv 2) pa_nil)) (pg_name (i := 3) sc_law_steps.nd rfl (by first | exact Or.inl rfl | exact Or.inr rfl))
      (pss_one (ps_if (pt_cmpR op_notN (pv 1) pe_non (nomark _))
      (pss_one (ps_set (i := 1) sc_law_steps.nd rfl (by first | exact Or.inl rfl | exact Or.inr rfl) (pe_ix (ix_u (K := K)) (pe_ix (ix_u (K := K)) (pv 0) pe_int (fun _ _ => rfl)) (pv 1) (fun _ _ => rfl))))
      pss_nil)))
    (pss_one (ps_ret (pv 1)))), body_of (C := ⟨K, mg, T⟩) (ss_seq (ss_for (si_rng1 (se_var (i := 2))) (gg_name (i := 3))
      (ss_if (st_test (se_op os_notN (SE.b (se_var (i := 1))) (SE.b se_non)))
      (ss_asg (se_op os_ix (SE.b (se_op os_ix (SE.b (se_var (i := 0))) (SE.b se_int))) (SE.b (se_var (i := 1)))) (gg_name (i := 1)))
      ss_next))
    (ss_ret (se_var (i := 1)))) (by decide) h⟩
end
end K01
set_option maxRecDepth 100000
set_option maxHeartbeats 4000000
namespace K01
open PySem PySem.Spec PyProof.Rows
open L2 Hk Pz
section
variable {P : Program} {w : World} {K : PySem.W.Frag} {mg : Str → Option Value} {base : Heap}
theorem z_law_bag (S : Src K mg "_law_bag" s_law_bag) (m_abs : mg "abs" = none) : Has P w K mg base CX0 "_law_bag" 1 ["script"] (spBagZ K) := by
  refine S.has sc_law_bag (fun _ _ _ _ _ _ us hl => match us, hl with | [_], _ => rfl) (fun vs H Q E ⟨a, ns, e, _⟩ => e ▸ rfl) (fun f cdv A out s H vs Q E hr ⟨a, ns, e, hS, q⟩ => ⟨_, (pss_one (ps_ret (pe_lst (pa_cons pe_int (pa_cons pe_int (pa_cons pe_int (pa_cons (pe_fz (pe_lc (own := [("cell", 1)]) (by rfl) sc_law_bag.nd (pi_ulist (K := K) rfl (pe_slice (sl_u (K := K)) (pv 0) po_none (po_some pe_int))) (blkOk_by (N := ["script", "cell"]) (own := [("cell", 1)]) (sc := defScope s_law_bag) (by decide +kernel)) (fun _ _ _ _ _ => (pg_name (i := 1) sc_law_bag.nd rfl (by first | exact Or.inl rfl | exact Or.inr rfl))) (fun _ _ _ _ _ => pts_nil) (fun _ _ _ _ _ => (pe_callB call_uabs rfl m_abs bb_abs (pa_cons (pv 1) pa_nil))))) pa_nil))))))), ?_⟩)
  subst e
  exact bag_reads hS q
theorem z_law (S_law : SrcC K mg "law" s_law) (m_len : mg "len" = none) (m_list : mg "list" = none) (m_range : mg "range" = none) (m_tuple : mg "tuple" = none) (h_checked_world : Has P w K mg base (L2.CX P w) "checked_world" 6 ["hues", "thing"] (spF ⟨K, mg, tabsOf K [("law", none)]⟩ F_checked_world)) (h_pointing_at : Has P w K mg base (L2.CX P w) "pointing_at" 8 ["world", "thing"] (spF ⟨K, mg, tabsOf K [("law", none)]⟩ F_pointing_at)) (h_way_of : Has P w K mg base (L2.CX P w) "way_of" 8 ["world", "thing"] (spF ⟨K, mg, tabsOf K [("law", none)]⟩ F_way_of)) (h_ring_of : Has P w K mg base (L2.CX P w) "ring_of" 8 ["world", "thing"] (spF ⟨K, mg, tabsOf K [("law", none)]⟩ F_ring_of)) (h_stepped : Has P w K mg base (L2.CX P w) "stepped" 8 ["world", "thing", "many"] (spF ⟨K, mg, tabsOf K [("law", none)]⟩ F_stepped)) (h_on_rings : Has P w K mg base (L2.CX P w) "on_rings" 7 ["world"] (spF ⟨K, mg, tabsOf K [("law", none)]⟩ F_on_rings)) (h_law_take : Has P w K mg base CX0 "_law_take" 1 ["bag", "many"] (spF ⟨K, mg, tabsOf K [("law", none)]⟩ F_law_take)) (h_law_world : Has P w K mg base CX0 "_law_world" 3 ["bag", "hues", "most"] (spF ⟨K, mg, tabsOf K [("law", none)]⟩ F_law_world)) (S_law_heard : Src K mg "_law_heard" s_law_heard) (h_law_way : Has P w K mg base CX0 "_law_way" 1 ["world", "thing"] (spF ⟨K, mg, tabsOf K [("law", none)]⟩ F_law_way)) (h_law_alike : HasG P w K mg base CX0 "_law_alike" 1 ["found", "due"] (spF ⟨K, mg, tabsOf K [("law", none)]⟩ F_law_alike)) (h_law_fault : Has P w K mg base CX0 "_law_fault" 1 ["hues", "world"] (spF ⟨K, mg, tabsOf K [("law", none)]⟩ F_law_fault)) (h_law_bent : Has P w K mg base CX0 "_law_bent" 3 ["bag", "hues", "world"] (spF ⟨K, mg, tabsOf K [("law", none)]⟩ F_law_bent)) (h_law_steps : Has P w K mg base CX0 "_law_steps" 1 ["world", "thing", "many"] (spF ⟨K, mg, tabsOf K [("law", none)]⟩ F_law_steps)) (h_law_bag : Has P w K mg base CX0 "_law_bag" 1 ["script"] (spBagZ K)) (six : Six ⟨K, mg, tabsOf K [("law", none)]⟩ (He.ga K "Nothing") (He.ga K "BadText") (He.ga K "BadWorld") (He.ga K "BadProgram") (He.ga K "NoCommand") (He.ga K "TooLarge")) (g_BadText : mg "BadText" = some (.ref (He.ga K "BadText"))) (xf_BadText : XfC K (He.ga K "BadText")) (no_BadText_line : PySem.W.findIn K (.ref (He.ga K "BadText")) "line" = some none) (no_BadText_column : PySem.W.findIn K (.ref (He.ga K "BadText")) "column" = some none) (g_BadWorld : mg "BadWorld" = some (.ref (He.ga K "BadWorld"))) (xf_BadWorld : XfC K (He.ga K "BadWorld")) (no_BadWorld_where : PySem.W.findIn K (.ref (He.ga K "BadWorld")) "where" = some none) (no_BadWorld_fault : PySem.W.findIn K (.ref (He.ga K "BadWorld")) "fault" = some none) (g_BadProgram : mg "BadProgram" = some (.ref (He.ga K "BadProgram"))) (xf_BadProgram : XfC K (He.ga K "BadProgram")) (no_BadProgram_where : PySem.W.findIn K (.ref (He.ga K "BadProgram")) "where" = some none) (no_BadProgram_fault : PySem.W.findIn K (.ref (He.ga K "BadProgram")) "fault" = some none) (g_NoCommand : mg "NoCommand" = some (.ref (He.ga K "NoCommand"))) (xf_NoCommand : XfC K (He.ga K "NoCommand")) (no_NoCommand_line : PySem.W.findIn K (.ref (He.ga K "NoCommand")) "line" = some none) (g_Nothing : mg "Nothing" = some (.ref (He.ga K "Nothing"))) (g_TooLarge : mg "TooLarge" = some (.ref (He.ga K "TooLarge"))) (xf_TooLarge : XfC K (He.ga K "TooLarge")) (no_TooLarge_what : PySem.W.findIn K (.ref (He.ga K "TooLarge")) "what" = some none) (no_TooLarge_limit : PySem.W.findIn K (.ref (He.ga K "TooLarge")) "limit" = some none) (TB : LamX.TabB base mg (He.cT K ("law", none)).1 (He.cT K ("law", none)).2) : HasG P w K mg base CX0 "law" 11 ["script"] (spLawT K [("law", none)]) := by
  refine S_law.hasG sc_law (fun _ _ _ _ _ _ us hl => match us, hl with | [_], _ => rfl) (fun vs H Q E ⟨a, ns, e, _⟩ => e ▸ rfl) (fun f cdv A out s H vs Q E hcode gd hr ⟨a, ns, e, hS, hT, hq⟩ => ?_)
  have hu64 := hr.units
  have hmT : ((He.cT K ("law", none)).2, lamQ ("law", none)) ∈ tabsOf K [("law", none)] := List.mem_singleton.mpr rfl
  have huT : ∀ p ∈ tabsOf K [("law", none)], p.1 = (He.cT K ("law", none)).2 → p.2 = lamQ ("law", none) := fun p hp _ => by
    obtain rfl := List.mem_singleton.mp hp; rfl
  subst e
  exact ⟨_, pss_cons (ps_set (i := 1) sc_law.nd rfl (by first | exact Or.inl rfl | exact Or.inr rfl) (pe_has h_law_bag (hr.mono (by decide)) rfl pass0 (pa_cons (pv 0) pa_nil)))
    (pss_cons (ps_for PassesOwn.never rfl (pi_range1 rfl m_range (pa_cons pe_int pa_nil)) (pg_name (i := 2) sc_law.nd rfl (by first | exact Or.inl rfl | exact Or.inr rfl))
      (pss_cons (ps_set (i := 3) sc_law.nd rfl (by first | exact Or.inl rfl | exact Or.inr rfl) (pe_fz (pe_op (op_uaddA (K := K)) pe_int (pe_has h_law_take (hr.mono (by decide)) rfl pass0 (pa_cons (pv 1) (pa_cons pe_int pa_nil))))))
    (pss_cons (ps_set (i := 4) sc_law.nd rfl (by first | exact Or.inl rfl | exact Or.inr rfl) (pe_has h_law_world (hr.mono (by decide)) rfl pass0 (pa_cons (pv 1) (pa_cons (pv 3) (pa_cons pe_int pa_nil)))))
    (pss_cons (ps_if (pt_cmpR (op_une (K := K) hu64) (pe_has h_checked_world (hr.mono (by decide)) rfl passL (pa_cons (pv 3) (pa_cons (pv 4) pa_nil))) (pv 4) (nomark _))
      (pss_one (ps_ret pe_bl))
      pss_nil)
    (pss_cons (ps_for PassesOwn.never rfl (pi_range1 rfl m_range (pa_cons pe_int pa_nil)) (pg_name (i := 5) sc_law.nd rfl (by first | exact Or.inl rfl | exact Or.inr rfl))
      (pss_cons (ps_set (i := 6) sc_law.nd rfl (by first | exact Or.inl rfl | exact Or.inr rfl) (pe_has h_law_bent (hr.mono (by decide)) rfl pass0 (pa_cons (pv 1) (pa_cons (pv 3) (pa_cons (pv 4) pa_nil)))))
    (pss_cons (ps_set (i := 7) sc_law.nd rfl (by first | exact Or.inl rfl | exact Or.inr rfl) (pe_has h_law_fault (hr.mono (by decide)) rfl pass0 (pa_cons (pv 3) (pa_cons (pv 6) pa_nil))))
    (pss_cons (ps_if (pt_cmpR (op_une (K := K) hu64) (pe_heard (k := 8) S_law_heard sc_law_heard (fun _ _ _ _ _ _ us hl => match us, hl with | [_], _ => rfl) (by rfl) rfl (by first | exact Or.inl rfl | exact Or.inr rfl) (fun g cdv => hear_gives (fun _ => rfl) (fun s H => (.plain ⟨rfl, by decide, .inl g_Nothing⟩ ⟨List.cons_ne_nil _ _, fun a oe cls d pn hz hf => (pss_one (ps_ret (pe_tup (pa_cons pe_str pa_nil))))⟩ (.named sc_law_heard.nd (i := 1) rfl rfl ⟨rfl, by decide, .inl g_BadText⟩ ⟨List.cons_ne_nil _ _, fun a oe cls d pn hz hf => (pss_one (ps_ret (pe_tup (pa_cons pe_str (pa_cons (pe_xf (n := "line") xf_BadText no_BadText_line hz hf (pv 1)) (pa_cons (pe_xf (n := "column") xf_BadText no_BadText_column hz hf (pv 1)) pa_nil))))))⟩ (.named sc_law_heard.nd (i := 1) rfl rfl ⟨rfl, by decide, .inl g_BadWorld⟩ ⟨List.cons_ne_nil _ _, fun a oe cls d pn hz hf => (pss_one (ps_ret (pe_tup (pa_cons pe_str (pa_cons (pe_xf (n := "where") xf_BadWorld no_BadWorld_where hz hf (pv 1)) (pa_cons (pe_xf (n := "fault") xf_BadWorld no_BadWorld_fault hz hf (pv 1)) pa_nil))))))⟩ (.named sc_law_heard.nd (i := 1) rfl rfl ⟨rfl, by decide, .inl g_BadProgram⟩ ⟨List.cons_ne_nil _ _, fun a oe cls d pn hz hf => (pss_one (ps_ret (pe_tup (pa_cons pe_str (pa_cons (pe_xf (n := "where") xf_BadProgram no_BadProgram_where hz hf (pv 1)) (pa_cons (pe_xf (n := "fault") xf_BadProgram no_BadProgram_fault hz hf (pv 1)) pa_nil))))))⟩ (.named sc_law_heard.nd (i := 1) rfl rfl ⟨rfl, by decide, .inl g_NoCommand⟩ ⟨List.cons_ne_nil _ _, fun a oe cls d pn hz hf => (pss_one (ps_ret (pe_tup (pa_cons pe_str (pa_cons (pe_xf (n := "line") xf_NoCommand no_NoCommand_line hz hf (pv 1)) pa_nil)))))⟩ (.named sc_law_heard.nd (i := 1) rfl rfl ⟨rfl, by decide, .inl g_TooLarge⟩ ⟨List.cons_ne_nil _ _, fun a oe cls d pn hz hf => (pss_one (ps_ret (pe_tup (pa_cons pe_str (pa_cons (pe_xf (n := "what") xf_TooLarge no_TooLarge_what hz hf (pv 1)) (pa_cons (pe_xf (n := "limit") xf_TooLarge no_TooLarge_limit hz hf (pv 1)) pa_nil))))))⟩ .nil)))))))) TB hcode hmT huT (hr.mono (by decide)) (LamX.lamS_by (sc := defScope s_law) (by decide +kernel)) rfl (fun _ _ _ _ _ => rfl) (fun A out s H E f c hr2 => (pe_has h_checked_world (hr2.mono (by decide)) rfl (passes_call (takes_of rfl rfl rfl rfl) (fun _ _ _ _ z => z)) (pa_cons (pv 3) (pa_cons (pv 6) pa_nil))))) (pe_ifExp (pt_cmpR op_isN (pv 7) pe_non (nomark _)) (pe_tup (pa_cons pe_str (pa_cons (pv 6) pa_nil))) (pe_fz (pe_op (op_uaddA (K := K)) (pe_tup (pa_cons pe_str pa_nil)) (pv 7)))) (nomark _))
      (pss_one (ps_ret pe_bl))
      pss_nil)
    (pss_cons (ps_set (i := 7) sc_law.nd rfl (by first | exact Or.inl rfl | exact Or.inr rfl) (pe_has h_law_fault (hr.mono (by decide)) rfl pass0 (pa_cons pe_int (pa_cons (pv 6) pa_nil))))
    (pss_one (ps_if (PW.pt (pw_and (pt_cmpR op_notN (pv 7) pe_non (nomark _)) (pw_and1 (pt_cmpR (op_une (K := K) hu64) (pe_heard (k := 8) S_law_heard sc_law_heard (fun _ _ _ _ _ _ us hl => match us, hl with | [_], _ => rfl) (by rfl) rfl (by first | exact Or.inl rfl | exact Or.inr rfl) (fun g cdv => hear_gives (fun _ => rfl) (fun s H => (.plain ⟨rfl, by decide, .inl g_Nothing⟩ ⟨List.cons_ne_nil _ _, fun a oe cls d pn hz hf => (pss_one (ps_ret (pe_tup (pa_cons pe_str pa_nil))))⟩ (.named sc_law_heard.nd (i := 1) rfl rfl ⟨rfl, by decide, .inl g_BadText⟩ ⟨List.cons_ne_nil _ _, fun a oe cls d pn hz hf => (pss_one (ps_ret (pe_tup (pa_cons pe_str (pa_cons (pe_xf (n := "line") xf_BadText no_BadText_line hz hf (pv 1)) (pa_cons (pe_xf (n := "column") xf_BadText no_BadText_column hz hf (pv 1)) pa_nil))))))⟩ (.named sc_law_heard.nd (i := 1) rfl rfl ⟨rfl, by decide, .inl g_BadWorld⟩ ⟨List.cons_ne_nil _ _, fun a oe cls d pn hz hf => (pss_one (ps_ret (pe_tup (pa_cons pe_str (pa_cons (pe_xf (n := "where") xf_BadWorld no_BadWorld_where hz hf (pv 1)) (pa_cons (pe_xf (n := "fault") xf_BadWorld no_BadWorld_fault hz hf (pv 1)) pa_nil))))))⟩ (.named sc_law_heard.nd (i := 1) rfl rfl ⟨rfl, by decide, .inl g_BadProgram⟩ ⟨List.cons_ne_nil _ _, fun a oe cls d pn hz hf => (pss_one (ps_ret (pe_tup (pa_cons pe_str (pa_cons (pe_xf (n := "where") xf_BadProgram no_BadProgram_where hz hf (pv 1)) (pa_cons (pe_xf (n := "fault") xf_BadProgram no_BadProgram_fault hz hf (pv 1)) pa_nil))))))⟩ (.named sc_law_heard.nd (i := 1) rfl rfl ⟨rfl, by decide, .inl g_NoCommand⟩ ⟨List.cons_ne_nil _ _, fun a oe cls d pn hz hf => (pss_one (ps_ret (pe_tup (pa_cons pe_str (pa_cons (pe_xf (n := "line") xf_NoCommand no_NoCommand_line hz hf (pv 1)) pa_nil)))))⟩ (.named sc_law_heard.nd (i := 1) rfl rfl ⟨rfl, by decide, .inl g_TooLarge⟩ ⟨List.cons_ne_nil _ _, fun a oe cls d pn hz hf => (pss_one (ps_ret (pe_tup (pa_cons pe_str (pa_cons (pe_xf (n := "what") xf_TooLarge no_TooLarge_what hz hf (pv 1)) (pa_cons (pe_xf (n := "limit") xf_TooLarge no_TooLarge_limit hz hf (pv 1)) pa_nil))))))⟩ .nil)))))))) TB hcode hmT huT (hr.mono (by decide)) (LamX.lamS_by (sc := defScope s_law) (by decide +kernel)) rfl (fun _ _ _ _ _ => rfl) (fun A out s H E f c hr2 => (pe_has h_on_rings (hr2.mono (by decide)) rfl (passes_call (takes_of rfl rfl rfl rfl) (fun _ _ _ _ z => z)) (pa_cons (pv 6) pa_nil)))) (pe_fz (pe_op (op_uaddA (K := K)) (pe_tup (pa_cons pe_str pa_nil)) (pv 7))) (nomark _)))))
      (pss_one (ps_ret pe_bl))
      pss_nil)))))))
    (pss_cons (ps_for PassesOwn.never rfl (pi_utup (K := K) rfl (pe_tup (pa_cons pe_non (pa_cons (pe_fz (pe_slice (sl_u (K := K)) (pv 4) po_none (po_some pe_int))) (pa_cons (pe_fz (pe_op (op_uaddA (K := K)) (pe_tup (pa_cons (pe_fz (pe_callTy (call_ulist (K := K)) rfl m_list bb_list (pa_cons (pe_ix (ix_u (K := K)) (pv 4) pe_int (fun _ _ => rfl)) pa_nil))) pa_nil)) (pe_fz (pe_slice (sl_u (K := K)) (pv 4) (po_some pe_int) po_none)))) (pa_cons (pe_tup (pa_cons (pe_ix (ix_u (K := K)) (pv 4) pe_int (fun _ _ => rfl)) (pa_cons (pe_op (op_rep1 (K := K)) (pe_tup (pa_cons pe_bl pa_nil)) (pe_fz (pe_callB (call_ulen (K := K)) rfl m_len bb_len (pa_cons (pe_ix (ix_u (K := K)) (pv 4) pe_int (fun _ _ => rfl)) pa_nil)))) pa_nil))) (pa_cons (pe_tup (pa_cons (pe_tup pa_nil) (pa_cons (pe_tup (pa_cons (pe_un un_neg pe_int) pa_nil)) pa_nil))) pa_nil))))))) (pg_name (i := 8) sc_law.nd rfl (by first | exact Or.inl rfl | exact Or.inr rfl))
      (pss_one (ps_if (PW.pt (pw_and (pt_cmpR (op_une (K := K) hu64) (pv 8) (pe_tup (pa_cons (pe_tup pa_nil) (pa_cons (pe_tup pa_nil) pa_nil))) (nomark _)) (pw_and1 (pt_cmpR (op_une (K := K) hu64) (pe_heard (k := 8) S_law_heard sc_law_heard (fun _ _ _ _ _ _ us hl => match us, hl with | [_], _ => rfl) (by rfl) rfl (by first | exact Or.inl rfl | exact Or.inr rfl) (fun g cdv => hear_gives (fun _ => rfl) (fun s H => (.plain ⟨rfl, by decide, .inl g_Nothing⟩ ⟨List.cons_ne_nil _ _, fun a oe cls d pn hz hf => (pss_one (ps_ret (pe_tup (pa_cons pe_str pa_nil))))⟩ (.named sc_law_heard.nd (i := 1) rfl rfl ⟨rfl, by decide, .inl g_BadText⟩ ⟨List.cons_ne_nil _ _, fun a oe cls d pn hz hf => (pss_one (ps_ret (pe_tup (pa_cons pe_str (pa_cons (pe_xf (n := "line") xf_BadText no_BadText_line hz hf (pv 1)) (pa_cons (pe_xf (n := "column") xf_BadText no_BadText_column hz hf (pv 1)) pa_nil))))))⟩ (.named sc_law_heard.nd (i := 1) rfl rfl ⟨rfl, by decide, .inl g_BadWorld⟩ ⟨List.cons_ne_nil _ _, fun a oe cls d pn hz hf => (pss_one (ps_ret (pe_tup (pa_cons pe_str (pa_cons (pe_xf (n := "where") xf_BadWorld no_BadWorld_where hz hf (pv 1)) (pa_cons (pe_xf (n := "fault") xf_BadWorld no_BadWorld_fault hz hf (pv 1)) pa_nil))))))⟩ (.named sc_law_heard.nd (i := 1) rfl rfl ⟨rfl, by decide, .inl g_BadProgram⟩ ⟨List.cons_ne_nil _ _, fun a oe cls d pn hz hf => (pss_one (ps_ret (pe_tup (pa_cons pe_str (pa_cons (pe_xf (n := "where") xf_BadProgram no_BadProgram_where hz hf (pv 1)) (pa_cons (pe_xf (n := "fault") xf_BadProgram no_BadProgram_fault hz hf (pv 1)) pa_nil))))))⟩ (.named sc_law_heard.nd (i := 1) rfl rfl ⟨rfl, by decide, .inl g_NoCommand⟩ ⟨List.cons_ne_nil _ _, fun a oe cls d pn hz hf => (pss_one (ps_ret (pe_tup (pa_cons pe_str (pa_cons (pe_xf (n := "line") xf_NoCommand no_NoCommand_line hz hf (pv 1)) pa_nil)))))⟩ (.named sc_law_heard.nd (i := 1) rfl rfl ⟨rfl, by decide, .inl g_TooLarge⟩ ⟨List.cons_ne_nil _ _, fun a oe cls d pn hz hf => (pss_one (ps_ret (pe_tup (pa_cons pe_str (pa_cons (pe_xf (n := "what") xf_TooLarge no_TooLarge_what hz hf (pv 1)) (pa_cons (pe_xf (n := "limit") xf_TooLarge no_TooLarge_limit hz hf (pv 1)) pa_nil))))))⟩ .nil)))))))) TB hcode hmT huT (hr.mono (by decide)) (LamX.lamS_by (sc := defScope s_law) (by decide +kernel)) rfl (fun _ _ _ _ _ => rfl) (fun A out s H E f c hr2 => (pe_has h_checked_world (hr2.mono (by decide)) rfl (passes_call (takes_of rfl rfl rfl rfl) (fun _ _ _ _ z => z)) (pa_cons (pv 3) (pa_cons (pv 8) pa_nil))))) (pe_tup (pa_cons pe_str pa_nil)) (nomark _)))))
      (pss_one (ps_ret pe_bl))
      pss_nil)))
    (pss_cons (ps_for PassesOwn.never rfl (pi_utup (K := K) rfl (pe_tup (pa_cons pe_int (pa_cons pe_int (pa_cons pe_non (pa_cons pe_bl pa_nil)))))) (pg_name (i := 8) sc_law.nd rfl (by first | exact Or.inl rfl | exact Or.inr rfl))
      (pss_one (ps_if (pt_cmpR (op_une (K := K) hu64) (pe_heard (k := 8) S_law_heard sc_law_heard (fun _ _ _ _ _ _ us hl => match us, hl with | [_], _ => rfl) (by rfl) rfl (by first | exact Or.inl rfl | exact Or.inr rfl) (fun g cdv => hear_gives (fun _ => rfl) (fun s H => (.plain ⟨rfl, by decide, .inl g_Nothing⟩ ⟨List.cons_ne_nil _ _, fun a oe cls d pn hz hf => (pss_one (ps_ret (pe_tup (pa_cons pe_str pa_nil))))⟩ (.named sc_law_heard.nd (i := 1) rfl rfl ⟨rfl, by decide, .inl g_BadText⟩ ⟨List.cons_ne_nil _ _, fun a oe cls d pn hz hf => (pss_one (ps_ret (pe_tup (pa_cons pe_str (pa_cons (pe_xf (n := "line") xf_BadText no_BadText_line hz hf (pv 1)) (pa_cons (pe_xf (n := "column") xf_BadText no_BadText_column hz hf (pv 1)) pa_nil))))))⟩ (.named sc_law_heard.nd (i := 1) rfl rfl ⟨rfl, by decide, .inl g_BadWorld⟩ ⟨List.cons_ne_nil _ _, fun a oe cls d pn hz hf => (pss_one (ps_ret (pe_tup (pa_cons pe_str (pa_cons (pe_xf (n := "where") xf_BadWorld no_BadWorld_where hz hf (pv 1)) (pa_cons (pe_xf (n := "fault") xf_BadWorld no_BadWorld_fault hz hf (pv 1)) pa_nil))))))⟩ (.named sc_law_heard.nd (i := 1) rfl rfl ⟨rfl, by decide, .inl g_BadProgram⟩ ⟨List.cons_ne_nil _ _, fun a oe cls d pn hz hf => (pss_one (ps_ret (pe_tup (pa_cons pe_str (pa_cons (pe_xf (n := "where") xf_BadProgram no_BadProgram_where hz hf (pv 1)) (pa_cons (pe_xf (n := "fault") xf_BadProgram no_BadProgram_fault hz hf (pv 1)) pa_nil))))))⟩ (.named sc_law_heard.nd (i := 1) rfl rfl ⟨rfl, by decide, .inl g_NoCommand⟩ ⟨List.cons_ne_nil _ _, fun a oe cls d pn hz hf => (pss_one (ps_ret (pe_tup (pa_cons pe_str (pa_cons (pe_xf (n := "line") xf_NoCommand no_NoCommand_line hz hf (pv 1)) pa_nil)))))⟩ (.named sc_law_heard.nd (i := 1) rfl rfl ⟨rfl, by decide, .inl g_TooLarge⟩ ⟨List.cons_ne_nil _ _, fun a oe cls d pn hz hf => (pss_one (ps_ret (pe_tup (pa_cons pe_str (pa_cons (pe_xf (n := "what") xf_TooLarge no_TooLarge_what hz hf (pv 1)) (pa_cons (pe_xf (n := "limit") xf_TooLarge no_TooLarge_limit hz hf (pv 1)) pa_nil))))))⟩ .nil)))))))) TB hcode hmT huT (hr.mono (by decide)) (LamX.lamS_by (sc := defScope s_law) (by decide +kernel)) rfl (fun _ _ _ _ _ => rfl) (fun A out s H E f c hr2 => (pe_has h_checked_world (hr2.mono (by decide)) rfl (passes_call (takes_of rfl rfl rfl rfl) (fun _ _ _ _ z => z)) (pa_cons (pv 8) (pa_cons (pv 4) pa_nil))))) (pe_tup (pa_cons pe_str pa_nil)) (nomark _))
      (pss_one (ps_ret pe_bl))
      pss_nil)))
    (pss_cons (ps_par (i := 9) (j := 10) (by rfl) sc_law.nd rfl rfl (by decide) rfl rfl (pa_cons (pe_fz (pe_callB (call_ulen (K := K)) rfl m_len bb_len (pa_cons (pe_ix (ix_u (K := K)) (pv 4) pe_int (fun _ _ => rfl)) pa_nil))) (pa_cons (pe_fz (pe_lst pa_nil)) pa_nil)) (by rfl))
    (pss_cons (ps_for PassesOwn.never rfl (pi_range1 rfl m_range (pa_cons (pv 9) pa_nil)) (pg_name (i := 11) sc_law.nd rfl (by first | exact Or.inl rfl | exact Or.inr rfl))
      (pss_cons (ps_set (i := 12) sc_law.nd rfl (by first | exact Or.inl rfl | exact Or.inr rfl) (pe_has h_law_way (hr.mono (by decide)) rfl pass0 (pa_cons (pv 4) (pa_cons (pv 11) pa_nil))))
    (pss_cons (ps_set (i := 13) sc_law.nd rfl (by first | exact Or.inl rfl | exact Or.inr rfl) (pe_ix (ix_u (K := K)) (pe_ix (ix_u (K := K)) (pv 4) pe_int (fun _ _ => rfl)) (pe_ix (ix_u (K := K)) (pv 12) (pe_un un_neg pe_int) (fun _ _ => rfl)) (fun _ _ => rfl)))
    (pss_cons (ps_set (i := 14) sc_law.nd rfl (by first | exact Or.inl rfl | exact Or.inr rfl) (pe_ifExp (pt_cmpR op_isN (pv 13) pe_non (nomark _)) (pe_fz (pe_lst pa_nil)) (pe_fz (pe_slice (sl_u (K := K)) (pv 12) (po_some (pe_bm PySem.F.plainAttrs_list PySem.F.slot_list_index PySem.F.type_list_index (mt_uindex (K := K)) (pv 12) (pa_cons (pv 13) pa_nil))) po_none))))
    (pss_cons (ps_set (i := 10) sc_law.nd rfl (by first | exact Or.inl rfl | exact Or.inr rfl) (pe_fz (pe_op (op_uaddA (K := K)) (pv 10) (pe_ifExp (pt_cmpR (op_uin (K := K)) (pv 11) (pv 14) (by with_unfolding_all rfl)) (pe_fz (pe_lst (pa_cons (pv 11) pa_nil))) (pe_fz (pe_lst pa_nil))))))
    (pss_cons (ps_if (pt_not (pt_val (pe_hasG h_law_alike gd (hr.mono (by decide)) rfl pass0 (pa_cons (pe_fz (pe_lst (pa_cons (pe_has h_way_of (hr.mono (by decide)) rfl passL (pa_cons (pv 4) (pa_cons (pv 11) pa_nil))) (pa_cons (pe_has h_ring_of (hr.mono (by decide)) rfl passL (pa_cons (pv 4) (pa_cons (pv 11) pa_nil))) pa_nil)))) (pa_cons (pe_fz (pe_lst (pa_cons (pe_fz (pe_callTy (call_utup (K := K)) rfl m_tuple bb_tuple (pa_cons (pv 12) pa_nil))) (pa_cons (pe_fz (pe_callTy (call_utup (K := K)) rfl m_tuple bb_tuple (pa_cons (pv 14) pa_nil))) pa_nil)))) pa_nil)))))
      (pss_one (ps_ret pe_bl))
      pss_nil)
    (pss_cons (ps_if (pt_cmpR (op_une (K := K) hu64) (pe_has h_pointing_at (hr.mono (by decide)) rfl passL (pa_cons (pv 4) (pa_cons (pv 11) pa_nil))) (pe_fz (pe_callTy (call_utup (K := K)) rfl m_tuple bb_tuple (pa_cons (pe_fz (pe_lc (own := [("one", 15)]) (by rfl) sc_law.nd (pi_range1 rfl m_range (pa_cons (pv 9) pa_nil)) (blkOk_by (N := ["script", "bag", "turn", "hues", "world", "lap", "bent", "fault", "wrong", "many", "circled", "thing", "way", "after", "ring", "one", "few", "far"]) (own := [("one", 15)]) (sc := defScope s_law) (by decide +kernel)) (fun _ _ _ _ _ => (pg_name (i := 15) sc_law.nd rfl (by first | exact Or.inl rfl | exact Or.inr rfl))) (fun _ _ _ _ _ => pts_one (pt_cmpR (op_ueq (K := K) hu64) (pe_ix (ix_u (K := K)) (pe_ix (ix_u (K := K)) (pv 4) pe_int (fun _ _ => rfl)) (pv 15) (fun _ _ => rfl)) (pv 11) (nomark _))) (fun _ _ _ _ _ => (pv 15)))) pa_nil))) (nomark _))
      (pss_one (ps_ret pe_bl))
      pss_nil)
    (pss_cons (ps_set (i := 16) sc_law.nd rfl (by first | exact Or.inl rfl | exact Or.inr rfl) (pe_has h_law_take (hr.mono (by decide)) rfl pass0 (pa_cons (pv 1) (pa_cons pe_int pa_nil))))
    (pss_cons (ps_if (pt_not (pt_val (pe_hasG h_law_alike gd (hr.mono (by decide)) rfl pass0 (pa_cons (pe_has h_stepped (hr.mono (by decide)) rfl passL (pa_cons (pv 4) (pa_cons (pv 11) (pa_cons (pv 16) pa_nil)))) (pa_cons (pe_has h_law_steps (hr.mono (by decide)) rfl pass0 (pa_cons (pv 4) (pa_cons (pv 11) (pa_cons (pv 16) pa_nil)))) pa_nil)))))
      (pss_one (ps_ret pe_bl))
      pss_nil)
    (pss_cons (ps_set (i := 17) sc_law.nd rfl (by first | exact Or.inl rfl | exact Or.inr rfl) (pe_fz (pe_op (op_uaddA (K := K)) (pe_op op_umul pe_int (pe_fz (pe_op (op_uaddA (K := K)) (pe_op op_upow pe_int pe_int) (pe_has h_law_take (hr.mono (by decide)) rfl pass0 (pa_cons (pv 1) (pa_cons pe_int pa_nil)))))) (pv 16))))
    (pss_one (ps_if (pt_not (pt_val (pe_hasG h_law_alike gd (hr.mono (by decide)) rfl pass0 (pa_cons (pe_has h_stepped (hr.mono (by decide)) rfl passL (pa_cons (pv 4) (pa_cons (pv 11) (pa_cons (pv 17) pa_nil)))) (pa_cons (pe_has h_law_steps (hr.mono (by decide)) rfl pass0 (pa_cons (pv 4) (pa_cons (pv 11) (pa_cons (pe_fz (pe_op (op_uaddA (K := K)) pe_int (pv 16))) pa_nil)))) pa_nil)))))
      (pss_one (ps_ret pe_bl))
      pss_nil))))))))))))
    (pss_cons (ps_if (pt_cmpR (op_une (K := K) hu64) (pe_has h_on_rings (hr.mono (by decide)) rfl passL (pa_cons (pv 4) pa_nil)) (pe_fz (pe_callTy (call_utup (K := K)) rfl m_tuple bb_tuple (pa_cons (pv 10) pa_nil))) (nomark _))
      (pss_one (ps_ret pe_bl))
      pss_nil)
    (pss_cons (ps_for PassesOwn.never rfl (pi_utup (K := K) rfl (pe_tup (pa_cons (pv 9) (pa_cons (pe_un un_neg pe_int) (pa_cons pe_non (pa_cons pe_bl pa_nil)))))) (pg_name (i := 8) sc_law.nd rfl (by first | exact Or.inl rfl | exact Or.inr rfl))
      (pss_cons (ps_if (pt_cmpR (op_une (K := K) hu64) (pe_heard (k := 8) S_law_heard sc_law_heard (fun _ _ _ _ _ _ us hl => match us, hl with | [_], _ => rfl) (by rfl) rfl (by first | exact Or.inl rfl | exact Or.inr rfl) (fun g cdv => hear_gives (fun _ => rfl) (fun s H => (.plain ⟨rfl, by decide, .inl g_Nothing⟩ ⟨List.cons_ne_nil _ _, fun a oe cls d pn hz hf => (pss_one (ps_ret (pe_tup (pa_cons pe_str pa_nil))))⟩ (.named sc_law_heard.nd (i := 1) rfl rfl ⟨rfl, by decide, .inl g_BadText⟩ ⟨List.cons_ne_nil _ _, fun a oe cls d pn hz hf => (pss_one (ps_ret (pe_tup (pa_cons pe_str (pa_cons (pe_xf (n := "line") xf_BadText no_BadText_line hz hf (pv 1)) (pa_cons (pe_xf (n := "column") xf_BadText no_BadText_column hz hf (pv 1)) pa_nil))))))⟩ (.named sc_law_heard.nd (i := 1) rfl rfl ⟨rfl, by decide, .inl g_BadWorld⟩ ⟨List.cons_ne_nil _ _, fun a oe cls d pn hz hf => (pss_one (ps_ret (pe_tup (pa_cons pe_str (pa_cons (pe_xf (n := "where") xf_BadWorld no_BadWorld_where hz hf (pv 1)) (pa_cons (pe_xf (n := "fault") xf_BadWorld no_BadWorld_fault hz hf (pv 1)) pa_nil))))))⟩ (.named sc_law_heard.nd (i := 1) rfl rfl ⟨rfl, by decide, .inl g_BadProgram⟩ ⟨List.cons_ne_nil _ _, fun a oe cls d pn hz hf => (pss_one (ps_ret (pe_tup (pa_cons pe_str (pa_cons (pe_xf (n := "where") xf_BadProgram no_BadProgram_where hz hf (pv 1)) (pa_cons (pe_xf (n := "fault") xf_BadProgram no_BadProgram_fault hz hf (pv 1)) pa_nil))))))⟩ (.named sc_law_heard.nd (i := 1) rfl rfl ⟨rfl, by decide, .inl g_NoCommand⟩ ⟨List.cons_ne_nil _ _, fun a oe cls d pn hz hf => (pss_one (ps_ret (pe_tup (pa_cons pe_str (pa_cons (pe_xf (n := "line") xf_NoCommand no_NoCommand_line hz hf (pv 1)) pa_nil)))))⟩ (.named sc_law_heard.nd (i := 1) rfl rfl ⟨rfl, by decide, .inl g_TooLarge⟩ ⟨List.cons_ne_nil _ _, fun a oe cls d pn hz hf => (pss_one (ps_ret (pe_tup (pa_cons pe_str (pa_cons (pe_xf (n := "what") xf_TooLarge no_TooLarge_what hz hf (pv 1)) (pa_cons (pe_xf (n := "limit") xf_TooLarge no_TooLarge_limit hz hf (pv 1)) pa_nil))))))⟩ .nil)))))))) TB hcode hmT huT (hr.mono (by decide)) (LamX.lamS_by (sc := defScope s_law) (by decide +kernel)) rfl (fun _ _ _ _ _ => rfl) (fun A out s H E f c hr2 => (pe_has h_way_of (hr2.mono (by decide)) rfl (passes_call (takes_of rfl rfl rfl rfl) (fun _ _ _ _ z => z)) (pa_cons (pv 4) (pa_cons (pv 8) pa_nil))))) (pe_tup (pa_cons pe_str pa_nil)) (nomark _))
      (pss_one (ps_ret pe_bl))
      pss_nil)
    (pss_one (ps_if (pt_cmpR (op_une (K := K) hu64) (pe_heard (k := 8) S_law_heard sc_law_heard (fun _ _ _ _ _ _ us hl => match us, hl with | [_], _ => rfl) (by rfl) rfl (by first | exact Or.inl rfl | exact Or.inr rfl) (fun g cdv => hear_gives (fun _ => rfl) (fun s H => (.plain ⟨rfl, by decide, .inl g_Nothing⟩ ⟨List.cons_ne_nil _ _, fun a oe cls d pn hz hf => (pss_one (ps_ret (pe_tup (pa_cons pe_str pa_nil))))⟩ (.named sc_law_heard.nd (i := 1) rfl rfl ⟨rfl, by decide, .inl g_BadText⟩ ⟨List.cons_ne_nil _ _, fun a oe cls d pn hz hf => (pss_one (ps_ret (pe_tup (pa_cons pe_str (pa_cons (pe_xf (n := "line") xf_BadText no_BadText_line hz hf (pv 1)) (pa_cons (pe_xf (n := "column") xf_BadText no_BadText_column hz hf (pv 1)) pa_nil))))))⟩ (.named sc_law_heard.nd (i := 1) rfl rfl ⟨rfl, by decide, .inl g_BadWorld⟩ ⟨List.cons_ne_nil _ _, fun a oe cls d pn hz hf => (pss_one (ps_ret (pe_tup (pa_cons pe_str (pa_cons (pe_xf (n := "where") xf_BadWorld no_BadWorld_where hz hf (pv 1)) (pa_cons (pe_xf (n := "fault") xf_BadWorld no_BadWorld_fault hz hf (pv 1)) pa_nil))))))⟩ (.named sc_law_heard.nd (i := 1) rfl rfl ⟨rfl, by decide, .inl g_BadProgram⟩ ⟨List.cons_ne_nil _ _, fun a oe cls d pn hz hf => (pss_one (ps_ret (pe_tup (pa_cons pe_str (pa_cons (pe_xf (n := "where") xf_BadProgram no_BadProgram_where hz hf (pv 1)) (pa_cons (pe_xf (n := "fault") xf_BadProgram no_BadProgram_fault hz hf (pv 1)) pa_nil))))))⟩ (.named sc_law_heard.nd (i := 1) rfl rfl ⟨rfl, by decide, .inl g_NoCommand⟩ ⟨List.cons_ne_nil _ _, fun a oe cls d pn hz hf => (pss_one (ps_ret (pe_tup (pa_cons pe_str (pa_cons (pe_xf (n := "line") xf_NoCommand no_NoCommand_line hz hf (pv 1)) pa_nil)))))⟩ (.named sc_law_heard.nd (i := 1) rfl rfl ⟨rfl, by decide, .inl g_TooLarge⟩ ⟨List.cons_ne_nil _ _, fun a oe cls d pn hz hf => (pss_one (ps_ret (pe_tup (pa_cons pe_str (pa_cons (pe_xf (n := "what") xf_TooLarge no_TooLarge_what hz hf (pv 1)) (pa_cons (pe_xf (n := "limit") xf_TooLarge no_TooLarge_limit hz hf (pv 1)) pa_nil))))))⟩ .nil)))))))) TB hcode hmT huT (hr.mono (by decide)) (LamX.lamS_by (sc := defScope s_law) (by decide +kernel)) rfl (fun _ _ _ _ _ => rfl) (fun A out s H E f c hr2 => (pe_has h_pointing_at (hr2.mono (by decide)) rfl (passes_call (takes_of rfl rfl rfl rfl) (fun _ _ _ _ z => z)) (pa_cons (pv 4) (pa_cons (pv 8) pa_nil))))) (pe_tup (pa_cons pe_str pa_nil)) (nomark _))
      (pss_one (ps_ret pe_bl))
      pss_nil))))
    (pss_one (ps_if (PW.pt (pw_and (pt_cmpR op_ugt (pv 9) pe_int (nomark _)) (pw_and1 (pt_cmpR (op_une (K := K) hu64) (pe_heard (k := 8) S_law_heard sc_law_heard (fun _ _ _ _ _ _ us hl => match us, hl with | [_], _ => rfl) (by rfl) rfl (by first | exact Or.inl rfl | exact Or.inr rfl) (fun g cdv => hear_gives (fun _ => rfl) (fun s H => (.plain ⟨rfl, by decide, .inl g_Nothing⟩ ⟨List.cons_ne_nil _ _, fun a oe cls d pn hz hf => (pss_one (ps_ret (pe_tup (pa_cons pe_str pa_nil))))⟩ (.named sc_law_heard.nd (i := 1) rfl rfl ⟨rfl, by decide, .inl g_BadText⟩ ⟨List.cons_ne_nil _ _, fun a oe cls d pn hz hf => (pss_one (ps_ret (pe_tup (pa_cons pe_str (pa_cons (pe_xf (n := "line") xf_BadText no_BadText_line hz hf (pv 1)) (pa_cons (pe_xf (n := "column") xf_BadText no_BadText_column hz hf (pv 1)) pa_nil))))))⟩ (.named sc_law_heard.nd (i := 1) rfl rfl ⟨rfl, by decide, .inl g_BadWorld⟩ ⟨List.cons_ne_nil _ _, fun a oe cls d pn hz hf => (pss_one (ps_ret (pe_tup (pa_cons pe_str (pa_cons (pe_xf (n := "where") xf_BadWorld no_BadWorld_where hz hf (pv 1)) (pa_cons (pe_xf (n := "fault") xf_BadWorld no_BadWorld_fault hz hf (pv 1)) pa_nil))))))⟩ (.named sc_law_heard.nd (i := 1) rfl rfl ⟨rfl, by decide, .inl g_BadProgram⟩ ⟨List.cons_ne_nil _ _, fun a oe cls d pn hz hf => (pss_one (ps_ret (pe_tup (pa_cons pe_str (pa_cons (pe_xf (n := "where") xf_BadProgram no_BadProgram_where hz hf (pv 1)) (pa_cons (pe_xf (n := "fault") xf_BadProgram no_BadProgram_fault hz hf (pv 1)) pa_nil))))))⟩ (.named sc_law_heard.nd (i := 1) rfl rfl ⟨rfl, by decide, .inl g_NoCommand⟩ ⟨List.cons_ne_nil _ _, fun a oe cls d pn hz hf => (pss_one (ps_ret (pe_tup (pa_cons pe_str (pa_cons (pe_xf (n := "line") xf_NoCommand no_NoCommand_line hz hf (pv 1)) pa_nil)))))⟩ (.named sc_law_heard.nd (i := 1) rfl rfl ⟨rfl, by decide, .inl g_TooLarge⟩ ⟨List.cons_ne_nil _ _, fun a oe cls d pn hz hf => (pss_one (ps_ret (pe_tup (pa_cons pe_str (pa_cons (pe_xf (n := "what") xf_TooLarge no_TooLarge_what hz hf (pv 1)) (pa_cons (pe_xf (n := "limit") xf_TooLarge no_TooLarge_limit hz hf (pv 1)) pa_nil))))))⟩ .nil)))))))) TB hcode hmT huT (hr.mono (by decide)) (LamX.lamS_by (sc := defScope s_law) (by decide +kernel)) rfl (fun _ _ _ _ _ => rfl) (fun A out s H E f c hr2 => (pe_has h_stepped (hr2.mono (by decide)) rfl (passes_call (takes_of rfl rfl rfl rfl) (fun _ _ _ _ z => z)) (pa_cons (pv 4) (pa_cons pe_int (pa_cons (pe_un un_neg pe_int) pa_nil)))))) (pe_tup (pa_cons pe_str pa_nil)) (nomark _)))))
      (pss_one (ps_ret pe_bl))
      pss_nil)))))))))))))
    (pss_one (ps_ret pe_bl))), law_body (C := ⟨K, mg, tabsOf K [("law", none)]⟩) (E := E0) (N := ["script", "bag", "turn", "hues", "world", "lap", "bent", "fault", "wrong", "many", "circled", "thing", "way", "after", "ring", "one", "few", "far"]) (ss_seq (ss_for (si_rng1 se_int) (gg_name (i := 2))
      (ss_seq (ss_asg (se_opz oz_add (SE.b se_int) (SE.b (se_call (F := F_law_take) (sa_cons (se_var (i := 1)) (sa_cons se_int sa_nil))))) (gg_name (i := 3)))
    (ss_seq (ss_asg (se_call (F := F_law_world) (sa_cons (se_var (i := 1)) (sa_cons (se_var (i := 3)) (sa_cons se_int sa_nil)))) (gg_name (i := 4)))
    (ss_seq (ss_if (st_test (se_op os_ne (SE.b (se_call (F := F_checked_world) (sa_cons (se_var (i := 3)) (sa_cons (se_var (i := 4)) sa_nil)))) (SE.b (se_var (i := 4)))))
      (ss_ret se_bl)
      ss_next)
    (ss_seq (ss_for (si_rng1 se_int) (gg_name (i := 5))
      (ss_seq (ss_asg (se_call (F := F_law_bent) (sa_cons (se_var (i := 1)) (sa_cons (se_var (i := 3)) (sa_cons (se_var (i := 4)) sa_nil)))) (gg_name (i := 6)))
    (ss_seq (ss_asg (se_call (F := F_law_fault) (sa_cons (se_var (i := 3)) (sa_cons (se_var (i := 6)) sa_nil))) (gg_name (i := 7)))
    (ss_seq (ss_if (st_test (se_op os_ne (SE.b (se_hear (l := clauses6 _ _ _ _ _ _) (hear6 six) rfl (fun E => (se_callX (F := F_checked_world) (sa_cons (se_var (i := 3)) (sa_cons (se_var (i := 6)) sa_nil)))))) (SE.b (se_if (st_test (se_op os_isN (SE.b (se_var (i := 7))) (SE.b se_non))) (se_tup (sa_cons se_str (sa_cons (se_var (i := 6)) sa_nil))) (se_opz oz_add (SE.b (se_tup (sa_cons se_str sa_nil))) (SE.b (se_var (i := 7))))))))
      (ss_ret se_bl)
      ss_next)
    (ss_seq (ss_asg (se_call (F := F_law_fault) (sa_cons se_int (sa_cons (se_var (i := 6)) sa_nil))) (gg_name (i := 7)))
    (ss_if (st_and (st_test (se_op os_notN (SE.b (se_var (i := 7))) (SE.b se_non))) (st_test (se_op os_ne (SE.b (se_hear (l := clauses6 _ _ _ _ _ _) (hear6 six) rfl (fun E => (se_callX (F := F_on_rings) (sa_cons (se_var (i := 6)) sa_nil))))) (SE.b (se_opz oz_add (SE.b (se_tup (sa_cons se_str sa_nil))) (SE.b (se_var (i := 7))))))))
      (ss_ret se_bl)
      ss_next))))))
    (ss_seq (ss_for (si_tup (se_tup (sa_cons se_non (sa_cons (se_sl (SE.b (se_var (i := 4))) sp_none (sp_some se_int)) (sa_cons (se_opz oz_add (SE.b (se_tup (sa_cons (se_cb cz_list (sab_cons (SE.b (se_op os_ix (SE.b (se_var (i := 4))) (SE.b se_int))) sab_nil)) sa_nil))) (SE.b (se_sl (SE.b (se_var (i := 4))) (sp_some se_int) sp_none))) (sa_cons (se_tup (sa_cons (se_op os_ix (SE.b (se_var (i := 4))) (SE.b se_int)) (sa_cons (se_op oz_rep (SE.b (se_tup (sa_cons se_bl sa_nil))) (SE.b (se_cb cz_len (sab_cons (SE.b (se_op os_ix (SE.b (se_var (i := 4))) (SE.b se_int))) sab_nil)))) sa_nil))) (sa_cons (se_tup (sa_cons (se_tup sa_nil) (sa_cons (se_tup (sa_cons (se_un ou_neg (SE.b se_int)) sa_nil)) sa_nil))) sa_nil))))))) (gg_name (i := 8))
      (ss_if (st_and (st_test (se_op os_ne (SE.b (se_var (i := 8))) (SE.b (se_tup (sa_cons (se_tup sa_nil) (sa_cons (se_tup sa_nil) sa_nil)))))) (st_test (se_op os_ne (SE.b (se_hear (l := clauses6 _ _ _ _ _ _) (hear6 six) rfl (fun E => (se_callX (F := F_checked_world) (sa_cons (se_var (i := 3)) (sa_cons (se_var (i := 8)) sa_nil)))))) (SE.b (se_tup (sa_cons se_str sa_nil))))))
      (ss_ret se_bl)
      ss_next))
    (ss_seq (ss_for (si_tup (se_tup (sa_cons se_int (sa_cons se_int (sa_cons se_non (sa_cons se_bl sa_nil)))))) (gg_name (i := 8))
      (ss_if (st_test (se_op os_ne (SE.b (se_hear (l := clauses6 _ _ _ _ _ _) (hear6 six) rfl (fun E => (se_callX (F := F_checked_world) (sa_cons (se_var (i := 8)) (sa_cons (se_var (i := 4)) sa_nil)))))) (SE.b (se_tup (sa_cons se_str sa_nil)))))
      (ss_ret se_bl)
      ss_next))
    (ss_seq (ss_par2 trivial (.v (se_cb cz_len (sab_cons (SE.b (se_op os_ix (SE.b (se_var (i := 4))) (SE.b se_int))) sab_nil))) (.v (SF.fz (sf_lst sa_nil))))
    (ss_seq (ss_for (si_rng1 (se_var (i := 9))) (gg_name (i := 11))
      (ss_seq (ss_asg (se_call (F := F_law_way) (sa_cons (se_var (i := 4)) (sa_cons (se_var (i := 11)) sa_nil))) (gg_name (i := 12)))
    (ss_seq (ss_asg (se_op os_ix (SE.b (se_op os_ix (SE.b (se_var (i := 4))) (SE.b se_int))) (SE.b (se_op os_ix (SE.b (se_var (i := 12))) (SE.b (se_un ou_neg (SE.b se_int)))))) (gg_name (i := 13)))
    (ss_seq (ss_asg (se_if (st_test (se_op os_isN (SE.b (se_var (i := 13))) (SE.b se_non))) (SF.fz (sf_lst sa_nil)) (se_sl (SE.b (se_var (i := 12))) (sp_some (se_index (SE.b (se_var (i := 12))) (SE.b (se_var (i := 13))))) sp_none)) (gg_name (i := 14)))
    (ss_seq (ss_asg (se_opz oz_add (SE.b (se_var (i := 10))) (SE.b (se_if (st_test (se_op os_in (SE.b (se_var (i := 11))) (SE.b (se_var (i := 14))))) (SF.fz (sf_lst (sa_cons (se_var (i := 11)) sa_nil))) (SF.fz (sf_lst sa_nil))))) (gg_name (i := 10)))
    (ss_seq (ss_if (st_not (st_val (se_call (F := F_law_alike) (sa_cons (SF.fz (sf_lst (sa_cons (se_call (F := F_way_of) (sa_cons (se_var (i := 4)) (sa_cons (se_var (i := 11)) sa_nil))) (sa_cons (se_call (F := F_ring_of) (sa_cons (se_var (i := 4)) (sa_cons (se_var (i := 11)) sa_nil))) sa_nil)))) (sa_cons (SF.fz (sf_lst (sa_cons (se_cb cz_tuple (sab_cons (SE.b (se_var (i := 12))) sab_nil)) (sa_cons (se_cb cz_tuple (sab_cons (SE.b (se_var (i := 14))) sab_nil)) sa_nil)))) sa_nil)))))
      (ss_ret se_bl)
      ss_next)
    (ss_seq (ss_if (st_test (se_op os_ne (SE.b (se_call (F := F_pointing_at) (sa_cons (se_var (i := 4)) (sa_cons (se_var (i := 11)) sa_nil)))) (SE.b (se_cb cz_tuple (sab_cons (SE.b (SF.fz (sf_lc (vs := [15]) (si_rng1 (se_var (i := 9))) (gw_name (i := 15) (by decide)) (st_test (se_op os_eq (SE.b (se_op os_ix (SE.b (se_op os_ix (SE.b (se_var (i := 4))) (SE.b se_int))) (SE.b (se_var (i := 15))))) (SE.b (se_var (i := 11))))) (se_var (i := 15))))) sab_nil)))))
      (ss_ret se_bl)
      ss_next)
    (ss_seq (ss_asg (se_call (F := F_law_take) (sa_cons (se_var (i := 1)) (sa_cons se_int sa_nil))) (gg_name (i := 16)))
    (ss_seq (ss_if (st_not (st_val (se_call (F := F_law_alike) (sa_cons (se_call (F := F_stepped) (sa_cons (se_var (i := 4)) (sa_cons (se_var (i := 11)) (sa_cons (se_var (i := 16)) sa_nil)))) (sa_cons (se_call (F := F_law_steps) (sa_cons (se_var (i := 4)) (sa_cons (se_var (i := 11)) (sa_cons (se_var (i := 16)) sa_nil)))) sa_nil)))))
      (ss_ret se_bl)
      ss_next)
    (ss_seq (ss_asg (se_opz oz_add (SE.b (se_op os_mul (SE.b se_int) (SE.b (se_opz oz_add (SE.b (se_op os_pow (SE.b se_int) (SE.b se_int))) (SE.b (se_call (F := F_law_take) (sa_cons (se_var (i := 1)) (sa_cons se_int sa_nil)))))))) (SE.b (se_var (i := 16)))) (gg_name (i := 17)))
    (ss_if (st_not (st_val (se_call (F := F_law_alike) (sa_cons (se_call (F := F_stepped) (sa_cons (se_var (i := 4)) (sa_cons (se_var (i := 11)) (sa_cons (se_var (i := 17)) sa_nil)))) (sa_cons (se_call (F := F_law_steps) (sa_cons (se_var (i := 4)) (sa_cons (se_var (i := 11)) (sa_cons (se_opz oz_add (SE.b se_int) (SE.b (se_var (i := 16)))) sa_nil)))) sa_nil)))))
      (ss_ret se_bl)
      ss_next)))))))))))
    (ss_seq (ss_if (st_test (se_op os_ne (SE.b (se_call (F := F_on_rings) (sa_cons (se_var (i := 4)) sa_nil))) (SE.b (se_cb cz_tuple (sab_cons (SE.b (se_var (i := 10))) sab_nil)))))
      (ss_ret se_bl)
      ss_next)
    (ss_seq (ss_for (si_tup (se_tup (sa_cons (se_var (i := 9)) (sa_cons (se_un ou_neg (SE.b se_int)) (sa_cons se_non (sa_cons se_bl sa_nil)))))) (gg_name (i := 8))
      (ss_seq (ss_if (st_test (se_op os_ne (SE.b (se_hear (l := clauses6 _ _ _ _ _ _) (hear6 six) rfl (fun E => (se_callX (F := F_way_of) (sa_cons (se_var (i := 4)) (sa_cons (se_var (i := 8)) sa_nil)))))) (SE.b (se_tup (sa_cons se_str sa_nil)))))
      (ss_ret se_bl)
      ss_next)
    (ss_if (st_test (se_op os_ne (SE.b (se_hear (l := clauses6 _ _ _ _ _ _) (hear6 six) rfl (fun E => (se_callX (F := F_pointing_at) (sa_cons (se_var (i := 4)) (sa_cons (se_var (i := 8)) sa_nil)))))) (SE.b (se_tup (sa_cons se_str sa_nil)))))
      (ss_ret se_bl)
      ss_next)))
    (ss_if (st_and (st_test (se_op (os_cmp _) (SE.b (se_var (i := 9))) (SE.b se_int))) (st_test (se_op os_ne (SE.b (se_hear (l := clauses6 _ _ _ _ _ _) (hear6 six) rfl (fun E => (se_callX (F := F_stepped) (sa_cons (se_var (i := 4)) (sa_cons se_int (sa_cons (se_un ou_neg (SE.b se_int)) sa_nil))))))) (SE.b (se_tup (sa_cons se_str sa_nil))))))
      (ss_ret se_bl)
      ss_next))))))))))))
    (ss_ret se_bl)) (by decide) hS hT (lawM_ok ns) hq⟩
end
end K01
set_option maxRecDepth 100000
set_option maxHeartbeats 0
namespace K01
open PySem PySem.Spec PyProof.Rows
open L2 Hk Pz
def fn : List He.DefD := [⟨("is_number", none), "is_number", "is_number", defArgs s_is_number, defBody s_is_number, defScope s_is_number, [], []⟩,
  ⟨("is_index", none), "is_index", "is_index", defArgs s_is_index, defBody s_is_index, defScope s_is_index, [], []⟩,
  ⟨("is_between", none), "is_between", "is_between", defArgs s_is_between, defBody s_is_between, defScope s_is_between, [], []⟩,
  ⟨("is_sized", none), "is_sized", "is_sized", defArgs s_is_sized, defBody s_is_sized, defScope s_is_sized, [], []⟩,
  ⟨("is_tuple_of", none), "is_tuple_of", "is_tuple_of", defArgs s_is_tuple_of, defBody s_is_tuple_of, defScope s_is_tuple_of, [], []⟩,
  ⟨("is_hues", none), "is_hues", "is_hues", defArgs s_is_hues, defBody s_is_hues, defScope s_is_hues, [], []⟩,
  ⟨("is_thing_or_none", none), "is_thing_or_none", "is_thing_or_none", defArgs s_is_thing_or_none, defBody s_is_thing_or_none, defScope s_is_thing_or_none, [], []⟩,
  ⟨("is_world", none), "is_world", "is_world", defArgs s_is_world, defBody s_is_world, defScope s_is_world, [], []⟩,
  ⟨("check_hues", none), "check_hues", "check_hues", defArgs s_check_hues, defBody s_check_hues, defScope s_check_hues, [], []⟩,
  ⟨("checked_world", none), "checked_world", "checked_world", defArgs s_checked_world, defBody s_checked_world, defScope s_checked_world, [], []⟩,
  ⟨("check_thing", none), "check_thing", "check_thing", defArgs s_check_thing, defBody s_check_thing, defScope s_check_thing, [], []⟩,
  ⟨("check_both", none), "check_both", "check_both", defArgs s_check_both, defBody s_check_both, defScope s_check_both, [], []⟩,
  ⟨("pointing_at", none), "pointing_at", "pointing_at", defArgs s_pointing_at, defBody s_pointing_at, defScope s_pointing_at, [], []⟩,
  ⟨("plain_way", none), "plain_way", "plain_way", defArgs s_plain_way, defBody s_plain_way, defScope s_plain_way, [], []⟩,
  ⟨("way_of", none), "way_of", "way_of", defArgs s_way_of, defBody s_way_of, defScope s_way_of, [], []⟩,
  ⟨("plain_ring", none), "plain_ring", "plain_ring", defArgs s_plain_ring, defBody s_plain_ring, defScope s_plain_ring, [], []⟩,
  ⟨("ring_of", none), "ring_of", "ring_of", defArgs s_ring_of, defBody s_ring_of, defScope s_ring_of, [], []⟩,
  ⟨("stepped", none), "stepped", "stepped", defArgs s_stepped, defBody s_stepped, defScope s_stepped, [], []⟩,
  ⟨("on_rings", none), "on_rings", "on_rings", defArgs s_on_rings, defBody s_on_rings, defScope s_on_rings, [], []⟩,
  ⟨("_law_take", none), "_law_take", "_law_take", defArgs s_law_take, defBody s_law_take, defScope s_law_take, [], []⟩,
  ⟨("_law_some", none), "_law_some", "_law_some", defArgs s_law_some, defBody s_law_some, defScope s_law_some, [], []⟩,
  ⟨("_law_bag", none), "_law_bag", "_law_bag", defArgs s_law_bag, defBody s_law_bag, defScope s_law_bag, [], []⟩,
  ⟨("_law_world", none), "_law_world", "_law_world", defArgs s_law_world, defBody s_law_world, defScope s_law_world, [], []⟩,
  ⟨("_law_heard", none), "_law_heard", "_law_heard", defArgs s_law_heard, defBody s_law_heard, defScope s_law_heard, [], []⟩,
  ⟨("_law_way", none), "_law_way", "_law_way", defArgs s_law_way, defBody s_law_way, defScope s_law_way, [], []⟩,
  ⟨("_law_alike", none), "_law_alike", "_law_alike", defArgs s_law_alike, defBody s_law_alike, defScope s_law_alike, [], []⟩,
  ⟨("_law_fault", none), "_law_fault", "_law_fault", defArgs s_law_fault, defBody s_law_fault, defScope s_law_fault, [], []⟩,
  ⟨("_law_bent", none), "_law_bent", "_law_bent", defArgs s_law_bent, defBody s_law_bent, defScope s_law_bent, [], []⟩,
  ⟨("_law_steps", none), "_law_steps", "_law_steps", defArgs s_law_steps, defBody s_law_steps, defScope s_law_steps, [], []⟩,
  ⟨("law", none), "law", "law", defArgs s_law, defBody s_law, defScope s_law, [], []⟩]
def fa : List He.Fa := [.glo "is_number", .glo "is_index", .glo "is_between", .glo "is_sized", .glo "is_tuple_of", .glo "is_hues", .glo "is_thing_or_none", .glo "is_world", .glo "check_hues", .glo "checked_world", .glo "check_thing", .glo "check_both", .glo "pointing_at", .glo "plain_way", .glo "way_of", .glo "plain_ring", .glo "ring_of", .glo "stepped", .glo "on_rings", .glo "_law_take", .glo "_law_some", .glo "_law_bag", .glo "_law_world", .glo "_law_heard", .glo "_law_way", .glo "_law_alike", .glo "_law_fault", .glo "_law_bent", .glo "_law_steps", .glo "law", .int "MOST_HUES" 3, .int "MOST_THINGS" 400, .glo "MapError", .glo "BadText", .glo "BadWorld", .glo "BadProgram", .glo "NoCommand", .glo "Nothing", .glo "TooLarge", .exc "MapError", .exc "Nothing", .exm "MapError" "MapError" true, .exm "MapError" "BadText" false, .exm "MapError" "BadWorld" false, .exm "MapError" "BadProgram" false, .exm "MapError" "NoCommand" false, .exm "MapError" "Nothing" false, .exm "MapError" "TooLarge" false, .exm "BadText" "MapError" true, .exm "BadText" "BadText" true, .exm "BadText" "BadWorld" false, .exm "BadText" "BadProgram" false, .exm "BadText" "NoCommand" false, .exm "BadText" "Nothing" false, .exm "BadText" "TooLarge" false, .exm "BadWorld" "MapError" true, .exm "BadWorld" "BadText" false, .exm "BadWorld" "BadWorld" true, .exm "BadWorld" "BadProgram" false, .exm "BadWorld" "NoCommand" false, .exm "BadWorld" "Nothing" false, .exm "BadWorld" "TooLarge" false, .exm "BadProgram" "MapError" true, .exm "BadProgram" "BadText" false, .exm "BadProgram" "BadWorld" false, .exm "BadProgram" "BadProgram" true, .exm "BadProgram" "NoCommand" false, .exm "BadProgram" "Nothing" false, .exm "BadProgram" "TooLarge" false, .exm "NoCommand" "MapError" true, .exm "NoCommand" "BadText" false, .exm "NoCommand" "BadWorld" false, .exm "NoCommand" "BadProgram" false, .exm "NoCommand" "NoCommand" true, .exm "NoCommand" "Nothing" false, .exm "NoCommand" "TooLarge" false, .exm "Nothing" "MapError" true, .exm "Nothing" "BadText" false, .exm "Nothing" "BadWorld" false, .exm "Nothing" "BadProgram" false, .exm "Nothing" "NoCommand" false, .exm "Nothing" "Nothing" true, .exm "Nothing" "TooLarge" false, .exm "TooLarge" "MapError" true, .exm "TooLarge" "BadText" false, .exm "TooLarge" "BadWorld" false, .exm "TooLarge" "BadProgram" false, .exm "TooLarge" "NoCommand" false, .exm "TooLarge" "Nothing" false, .exm "TooLarge" "TooLarge" true, .free "abs", .free "all", .free "bool", .free "enumerate", .free "int", .free "isinstance", .free "len", .free "list", .free "max", .free "range", .free "repr", .free "super", .free "tuple", .free "zip"]
abbrev R : PySem.W.OpenRow := PySem.W.OpenLaw.row PySem.Challenge.rw_everymap_k01_worlds_their_ways_and_rings
def exs (K : PySem.W.Frag) : Bool := (xfB K (He.ga K "NoCommand") && (decide (PySem.W.findIn K (.ref (He.ga K "NoCommand")) "line" = some none))) && (true)
def ask : Ask := ⟨R.prog, fa, fn, [("law", none)], [in_BadText, in_BadWorld, in_BadProgram, in_TooLarge], exs⟩
abbrev hk : PySem.W.Hook := hookY 5 ask
def obs (s : PySem.W.SharedT) : AlY := obsY 5 ask (HandSHeadRun.getT s)
theorem obs_eq (s : PySem.W.SharedT) : obs s = hk.obs s.abs := obsY_eq (HandSHeadRun.getT_eq s)
def loose : List PySem.Str := (["_wall", "MapError", "BadText", "BadWorld", "BadProgram", "NoCommand", "Nothing", "TooLarge", "MOST_HUES", "MOST_THINGS", "is_number", "is_index", "is_between", "is_sized", "is_tuple_of", "is_hues", "is_thing_or_none", "is_world", "check_hues", "checked_world", "check_thing", "check_both", "pointing_at", "plain_way", "way_of", "plain_ring", "ring_of", "stepped", "on_rings", "_law_take"] : List PySem.Str) ++ (["_law_some", "_law_bag", "_law_world", "_law_heard", "_law_way", "_law_alike", "_law_fault", "_law_bent", "_law_steps"] : List PySem.Str)
theorem ran (w : World) : HandSHeadRun.RunEq R (PySem.W.view R.prog [43]) hk obs 20000 loose w := by
  intro os
  kernel_rfl
theorem fact (K : PySem.W.Frag) (c : He.SaysD fa fn K) (i : Nat) {f : He.Fa} (h : fa[i]? = some f := by rfl) : f.ok K = true := c.fact i h
theorem all_ok {w : World} {K : PySem.W.Frag} {mg : Str → Option Value} {h : Heap} (X : K.In h) (G : h.Ns mainGlobals mg) (c : SaysY ask h K) (base : Heap) (TB : ∀ p ∈ ask.tf, LamX.TabB base mg (He.cT K p).1 (He.cT K p).2) : HasG R.prog w K mg base CX0 "law" 11 ["script"] (spLawT K ask.tf) := by
  have S_is_number : Src K mg "is_number" s_is_number := src_of X G c.d 0 0
  have S_is_index : Src K mg "is_index" s_is_index := src_of X G c.d 1 1
  have S_is_between : Src K mg "is_between" s_is_between := src_of X G c.d 2 2
  have S_is_sized : Src K mg "is_sized" s_is_sized := src_of X G c.d 3 3
  have S_is_tuple_of : Src K mg "is_tuple_of" s_is_tuple_of := src_of X G c.d 4 4
  have S_is_hues : Src K mg "is_hues" s_is_hues := src_of X G c.d 5 5
  have S_is_thing_or_none : Src K mg "is_thing_or_none" s_is_thing_or_none := src_of X G c.d 6 6
  have S_is_world : Src K mg "is_world" s_is_world := src_of X G c.d 7 7
  have S_check_hues : Src K mg "check_hues" s_check_hues := src_of X G c.d 8 8
  have S_checked_world : Src K mg "checked_world" s_checked_world := src_of X G c.d 9 9
  have S_check_thing : Src K mg "check_thing" s_check_thing := src_of X G c.d 10 10
  have S_check_both : Src K mg "check_both" s_check_both := src_of X G c.d 11 11
  have S_pointing_at : Src K mg "pointing_at" s_pointing_at := src_of X G c.d 12 12
  have S_plain_way : Src K mg "plain_way" s_plain_way := src_of X G c.d 13 13
  have S_way_of : Src K mg "way_of" s_way_of := src_of X G c.d 14 14
  have S_plain_ring : Src K mg "plain_ring" s_plain_ring := src_of X G c.d 15 15
  have S_ring_of : Src K mg "ring_of" s_ring_of := src_of X G c.d 16 16
  have S_stepped : Src K mg "stepped" s_stepped := src_of X G c.d 17 17
  have S_on_rings : Src K mg "on_rings" s_on_rings := src_of X G c.d 18 18
  have S_law_take : Src K mg "_law_take" s_law_take := src_of X G c.d 19 19
  have S_law_some : Src K mg "_law_some" s_law_some := src_of X G c.d 20 20
  have S_law_bag : Src K mg "_law_bag" s_law_bag := src_of X G c.d 21 21
  have S_law_world : Src K mg "_law_world" s_law_world := src_of X G c.d 22 22
  have S_law_heard : Src K mg "_law_heard" s_law_heard := src_of X G c.d 23 23
  have S_law_way : Src K mg "_law_way" s_law_way := src_of X G c.d 24 24
  have S_law_alike : Src K mg "_law_alike" s_law_alike := src_of X G c.d 25 25
  have S_law_fault : Src K mg "_law_fault" s_law_fault := src_of X G c.d 26 26
  have S_law_bent : Src K mg "_law_bent" s_law_bent := src_of X G c.d 27 27
  have S_law_steps : Src K mg "_law_steps" s_law_steps := src_of X G c.d 28 28
  have S_law : SrcC K mg "law" s_law := srcC_of X G c.d 29 29
  have c_MOST_HUES : ∃ t, mg "MOST_HUES" = some (.int 3 t) := int_of X G c.d 30
  have c_MOST_THINGS : ∃ t, mg "MOST_THINGS" = some (.int 400 t) := int_of X G c.d 31
  have m_abs : mg "abs" = none := free_of X G c.d 90
  have m_all : mg "all" = none := free_of X G c.d 91
  have m_bool : mg "bool" = none := free_of X G c.d 92
  have m_enumerate : mg "enumerate" = none := free_of X G c.d 93
  have m_int : mg "int" = none := free_of X G c.d 94
  have m_isinstance : mg "isinstance" = none := free_of X G c.d 95
  have m_len : mg "len" = none := free_of X G c.d 96
  have m_list : mg "list" = none := free_of X G c.d 97
  have m_max : mg "max" = none := free_of X G c.d 98
  have m_range : mg "range" = none := free_of X G c.d 99
  have m_repr : mg "repr" = none := free_of X G c.d 100
  have m_super : mg "super" = none := free_of X G c.d 101
  have m_tuple : mg "tuple" = none := free_of X G c.d 102
  have m_zip : mg "zip" = none := free_of X G c.d 103
  have x_MapError := exc_of (x := "MapError") X G c.d 32 39 41
  have g_MapError : mg "MapError" = some (.ref (He.ga K "MapError")) := He.glo_ok X G (c.d.fact 32)
  have g_BadText : mg "BadText" = some (.ref (He.ga K "BadText")) := He.glo_ok X G (c.d.fact 33)
  have g_BadWorld : mg "BadWorld" = some (.ref (He.ga K "BadWorld")) := He.glo_ok X G (c.d.fact 34)
  have g_BadProgram : mg "BadProgram" = some (.ref (He.ga K "BadProgram")) := He.glo_ok X G (c.d.fact 35)
  have g_NoCommand : mg "NoCommand" = some (.ref (He.ga K "NoCommand")) := He.glo_ok X G (c.d.fact 36)
  have x_Nothing := exc_of (x := "Nothing") X G c.d 37 40 81
  have g_Nothing : mg "Nothing" = some (.ref (He.ga K "Nothing")) := He.glo_ok X G (c.d.fact 37)
  have g_TooLarge : mg "TooLarge" = some (.ref (He.ga K "TooLarge")) := He.glo_ok X G (c.d.fact 38)
  have x_BadText : ExcT R.prog K mg "BadText" (He.ga K "BadText") "line" "column" := c.two X G 33 0 in_BadText_ok m_super
  obtain ⟨xf_BadText, no_BadText_line, no_BadText_column⟩ := x_BadText.xf
  have x_BadWorld : ExcT R.prog K mg "BadWorld" (He.ga K "BadWorld") "where" "fault" := c.two X G 34 1 in_BadWorld_ok m_super
  obtain ⟨xf_BadWorld, no_BadWorld_where, no_BadWorld_fault⟩ := x_BadWorld.xf
  have x_BadProgram : ExcT R.prog K mg "BadProgram" (He.ga K "BadProgram") "where" "fault" := c.two X G 35 2 in_BadProgram_ok m_super
  obtain ⟨xf_BadProgram, no_BadProgram_where, no_BadProgram_fault⟩ := x_BadProgram.xf
  have x_TooLarge : ExcT R.prog K mg "TooLarge" (He.ga K "TooLarge") "what" "limit" := c.two X G 38 3 in_TooLarge_ok m_super
  obtain ⟨xf_TooLarge, no_TooLarge_what, no_TooLarge_limit⟩ := x_TooLarge.xf
  have y0 : exs K = true := c.ex
  obtain ⟨z0, y1⟩ := He.ba y0
  have xf_NoCommand : XfC K (He.ga K "NoCommand") := xfB_ok (He.ba z0).1
  have no_NoCommand_line : PySem.W.findIn K (.ref (He.ga K "NoCommand")) "line" = some none := of_decide_eq_true (He.ba z0).2
  have e_BadText_MapError : PySem.W.exmOne K (.ref (He.ga K "BadText")) (.ref (He.ga K "MapError")) = some true := He.exm_ok (c.d.fact 48)
  have e_BadText_BadText : PySem.W.exmOne K (.ref (He.ga K "BadText")) (.ref (He.ga K "BadText")) = some true := He.exm_ok (c.d.fact 49)
  have e_BadText_BadWorld : PySem.W.exmOne K (.ref (He.ga K "BadText")) (.ref (He.ga K "BadWorld")) = some false := He.exm_ok (c.d.fact 50)
  have e_BadText_BadProgram : PySem.W.exmOne K (.ref (He.ga K "BadText")) (.ref (He.ga K "BadProgram")) = some false := He.exm_ok (c.d.fact 51)
  have e_BadText_NoCommand : PySem.W.exmOne K (.ref (He.ga K "BadText")) (.ref (He.ga K "NoCommand")) = some false := He.exm_ok (c.d.fact 52)
  have e_BadText_Nothing : PySem.W.exmOne K (.ref (He.ga K "BadText")) (.ref (He.ga K "Nothing")) = some false := He.exm_ok (c.d.fact 53)
  have e_BadText_TooLarge : PySem.W.exmOne K (.ref (He.ga K "BadText")) (.ref (He.ga K "TooLarge")) = some false := He.exm_ok (c.d.fact 54)
  have e_BadWorld_MapError : PySem.W.exmOne K (.ref (He.ga K "BadWorld")) (.ref (He.ga K "MapError")) = some true := He.exm_ok (c.d.fact 55)
  have e_BadWorld_BadText : PySem.W.exmOne K (.ref (He.ga K "BadWorld")) (.ref (He.ga K "BadText")) = some false := He.exm_ok (c.d.fact 56)
  have e_BadWorld_BadWorld : PySem.W.exmOne K (.ref (He.ga K "BadWorld")) (.ref (He.ga K "BadWorld")) = some true := He.exm_ok (c.d.fact 57)
  have e_BadWorld_BadProgram : PySem.W.exmOne K (.ref (He.ga K "BadWorld")) (.ref (He.ga K "BadProgram")) = some false := He.exm_ok (c.d.fact 58)
  have e_BadWorld_NoCommand : PySem.W.exmOne K (.ref (He.ga K "BadWorld")) (.ref (He.ga K "NoCommand")) = some false := He.exm_ok (c.d.fact 59)
  have e_BadWorld_Nothing : PySem.W.exmOne K (.ref (He.ga K "BadWorld")) (.ref (He.ga K "Nothing")) = some false := He.exm_ok (c.d.fact 60)
  have e_BadWorld_TooLarge : PySem.W.exmOne K (.ref (He.ga K "BadWorld")) (.ref (He.ga K "TooLarge")) = some false := He.exm_ok (c.d.fact 61)
  have e_BadProgram_MapError : PySem.W.exmOne K (.ref (He.ga K "BadProgram")) (.ref (He.ga K "MapError")) = some true := He.exm_ok (c.d.fact 62)
  have e_BadProgram_BadText : PySem.W.exmOne K (.ref (He.ga K "BadProgram")) (.ref (He.ga K "BadText")) = some false := He.exm_ok (c.d.fact 63)
  have e_BadProgram_BadWorld : PySem.W.exmOne K (.ref (He.ga K "BadProgram")) (.ref (He.ga K "BadWorld")) = some false := He.exm_ok (c.d.fact 64)
  have e_BadProgram_BadProgram : PySem.W.exmOne K (.ref (He.ga K "BadProgram")) (.ref (He.ga K "BadProgram")) = some true := He.exm_ok (c.d.fact 65)
  have e_BadProgram_NoCommand : PySem.W.exmOne K (.ref (He.ga K "BadProgram")) (.ref (He.ga K "NoCommand")) = some false := He.exm_ok (c.d.fact 66)
  have e_BadProgram_Nothing : PySem.W.exmOne K (.ref (He.ga K "BadProgram")) (.ref (He.ga K "Nothing")) = some false := He.exm_ok (c.d.fact 67)
  have e_BadProgram_TooLarge : PySem.W.exmOne K (.ref (He.ga K "BadProgram")) (.ref (He.ga K "TooLarge")) = some false := He.exm_ok (c.d.fact 68)
  have e_NoCommand_MapError : PySem.W.exmOne K (.ref (He.ga K "NoCommand")) (.ref (He.ga K "MapError")) = some true := He.exm_ok (c.d.fact 69)
  have e_NoCommand_BadText : PySem.W.exmOne K (.ref (He.ga K "NoCommand")) (.ref (He.ga K "BadText")) = some false := He.exm_ok (c.d.fact 70)
  have e_NoCommand_BadWorld : PySem.W.exmOne K (.ref (He.ga K "NoCommand")) (.ref (He.ga K "BadWorld")) = some false := He.exm_ok (c.d.fact 71)
  have e_NoCommand_BadProgram : PySem.W.exmOne K (.ref (He.ga K "NoCommand")) (.ref (He.ga K "BadProgram")) = some false := He.exm_ok (c.d.fact 72)
  have e_NoCommand_NoCommand : PySem.W.exmOne K (.ref (He.ga K "NoCommand")) (.ref (He.ga K "NoCommand")) = some true := He.exm_ok (c.d.fact 73)
  have e_NoCommand_Nothing : PySem.W.exmOne K (.ref (He.ga K "NoCommand")) (.ref (He.ga K "Nothing")) = some false := He.exm_ok (c.d.fact 74)
  have e_NoCommand_TooLarge : PySem.W.exmOne K (.ref (He.ga K "NoCommand")) (.ref (He.ga K "TooLarge")) = some false := He.exm_ok (c.d.fact 75)
  have e_Nothing_MapError : PySem.W.exmOne K (.ref (He.ga K "Nothing")) (.ref (He.ga K "MapError")) = some true := He.exm_ok (c.d.fact 76)
  have e_Nothing_BadText : PySem.W.exmOne K (.ref (He.ga K "Nothing")) (.ref (He.ga K "BadText")) = some false := He.exm_ok (c.d.fact 77)
  have e_Nothing_BadWorld : PySem.W.exmOne K (.ref (He.ga K "Nothing")) (.ref (He.ga K "BadWorld")) = some false := He.exm_ok (c.d.fact 78)
  have e_Nothing_BadProgram : PySem.W.exmOne K (.ref (He.ga K "Nothing")) (.ref (He.ga K "BadProgram")) = some false := He.exm_ok (c.d.fact 79)
  have e_Nothing_NoCommand : PySem.W.exmOne K (.ref (He.ga K "Nothing")) (.ref (He.ga K "NoCommand")) = some false := He.exm_ok (c.d.fact 80)
  have e_Nothing_Nothing : PySem.W.exmOne K (.ref (He.ga K "Nothing")) (.ref (He.ga K "Nothing")) = some true := He.exm_ok (c.d.fact 81)
  have e_Nothing_TooLarge : PySem.W.exmOne K (.ref (He.ga K "Nothing")) (.ref (He.ga K "TooLarge")) = some false := He.exm_ok (c.d.fact 82)
  have e_TooLarge_MapError : PySem.W.exmOne K (.ref (He.ga K "TooLarge")) (.ref (He.ga K "MapError")) = some true := He.exm_ok (c.d.fact 83)
  have e_TooLarge_BadText : PySem.W.exmOne K (.ref (He.ga K "TooLarge")) (.ref (He.ga K "BadText")) = some false := He.exm_ok (c.d.fact 84)
  have e_TooLarge_BadWorld : PySem.W.exmOne K (.ref (He.ga K "TooLarge")) (.ref (He.ga K "BadWorld")) = some false := He.exm_ok (c.d.fact 85)
  have e_TooLarge_BadProgram : PySem.W.exmOne K (.ref (He.ga K "TooLarge")) (.ref (He.ga K "BadProgram")) = some false := He.exm_ok (c.d.fact 86)
  have e_TooLarge_NoCommand : PySem.W.exmOne K (.ref (He.ga K "TooLarge")) (.ref (He.ga K "NoCommand")) = some false := He.exm_ok (c.d.fact 87)
  have e_TooLarge_Nothing : PySem.W.exmOne K (.ref (He.ga K "TooLarge")) (.ref (He.ga K "Nothing")) = some false := He.exm_ok (c.d.fact 88)
  have e_TooLarge_TooLarge : PySem.W.exmOne K (.ref (He.ga K "TooLarge")) (.ref (He.ga K "TooLarge")) = some true := He.exm_ok (c.d.fact 89)
  have h_law_bag := z_law_bag (P := R.prog) (w := w) (base := base) S_law_bag m_abs
  have six : Six ⟨K, mg, tabsOf K [("law", none)]⟩ (He.ga K "Nothing") (He.ga K "BadText") (He.ga K "BadWorld") (He.ga K "BadProgram") (He.ga K "NoCommand") (He.ga K "TooLarge") :=
    ⟨g_Nothing, g_BadText, g_BadWorld, g_BadProgram, g_NoCommand, g_TooLarge, e_Nothing_Nothing, e_BadText_BadText, e_BadWorld_BadWorld, e_BadProgram_BadProgram, e_NoCommand_NoCommand, e_TooLarge_TooLarge,
     e_BadText_Nothing, e_BadWorld_Nothing, e_BadWorld_BadText, e_BadProgram_Nothing, e_BadProgram_BadText, e_BadProgram_BadWorld, e_NoCommand_Nothing, e_NoCommand_BadText, e_NoCommand_BadWorld, e_NoCommand_BadProgram,
     e_TooLarge_Nothing, e_TooLarge_BadText, e_TooLarge_BadWorld, e_TooLarge_BadProgram, e_TooLarge_NoCommand⟩
  have TB := TB _ (List.mem_singleton.mpr rfl)
  have h_is_number := z_is_number (P := R.prog) (w := w) (K := K) (mg := mg) (base := base) (T := tabsOf K [("law", none)]) S_is_number m_bool m_int m_isinstance
  have h_is_index := z_is_index (P := R.prog) (w := w) (K := K) (mg := mg) (base := base) (T := tabsOf K [("law", none)]) S_is_index h_is_number
  have h_is_between := z_is_between (P := R.prog) (w := w) (K := K) (mg := mg) (base := base) (T := tabsOf K [("law", none)]) S_is_between h_is_number
  have h_is_sized := z_is_sized (P := R.prog) (w := w) (K := K) (mg := mg) (base := base) (T := tabsOf K [("law", none)]) S_is_sized m_isinstance m_len m_tuple
  have h_is_thing_or_none := z_is_thing_or_none (P := R.prog) (w := w) (K := K) (mg := mg) (base := base) (T := tabsOf K [("law", none)]) S_is_thing_or_none h_is_index
  have h_is_tuple_of := z_is_tuple_of (P := R.prog) (w := w) (K := K) (mg := mg) (base := base) (T := tabsOf K [("law", none)]) S_is_tuple_of m_all m_isinstance m_tuple h_is_index S_is_index h_is_thing_or_none S_is_thing_or_none
  have h_is_hues := z_is_hues (P := R.prog) (w := w) (K := K) (mg := mg) (base := base) (T := tabsOf K [("law", none)]) S_is_hues c_MOST_HUES h_is_between
  have h_is_world := z_is_world (P := R.prog) (w := w) (K := K) (mg := mg) (base := base) (T := tabsOf K [("law", none)]) S_is_world m_len c_MOST_THINGS S_is_index h_is_sized h_is_tuple_of S_is_thing_or_none
  have h_check_hues := z_check_hues (P := R.prog) (w := w) (K := K) (mg := mg) (base := base) (T := tabsOf K [("law", none)]) S_check_hues x_Nothing h_is_hues
  have h_checked_world := z_checked_world (P := R.prog) (w := w) (K := K) (mg := mg) (base := base) (T := tabsOf K [("law", none)]) S_checked_world m_enumerate m_len m_zip x_BadWorld x_Nothing h_is_world h_check_hues
  have h_check_thing := z_check_thing (P := R.prog) (w := w) (K := K) (mg := mg) (base := base) (T := tabsOf K [("law", none)]) S_check_thing m_len x_Nothing h_is_index
  have h_check_both := z_check_both (P := R.prog) (w := w) (K := K) (mg := mg) (base := base) (T := tabsOf K [("law", none)]) S_check_both c_MOST_HUES h_checked_world h_check_thing
  have h_pointing_at := z_pointing_at (P := R.prog) (w := w) (K := K) (mg := mg) (base := base) (T := tabsOf K [("law", none)]) S_pointing_at m_enumerate m_tuple h_check_both
  have h_plain_way := z_plain_way (P := R.prog) (w := w) (K := K) (mg := mg) (base := base) (T := tabsOf K [("law", none)]) S_plain_way
  have h_way_of := z_way_of (P := R.prog) (w := w) (K := K) (mg := mg) (base := base) (T := tabsOf K [("law", none)]) S_way_of m_tuple h_check_both h_plain_way
  have h_plain_ring := z_plain_ring (P := R.prog) (w := w) (K := K) (mg := mg) (base := base) (T := tabsOf K [("law", none)]) S_plain_ring h_plain_way
  have h_ring_of := z_ring_of (P := R.prog) (w := w) (K := K) (mg := mg) (base := base) (T := tabsOf K [("law", none)]) S_ring_of m_tuple h_check_both h_plain_ring
  have h_stepped := z_stepped (P := R.prog) (w := w) (K := K) (mg := mg) (base := base) (T := tabsOf K [("law", none)]) S_stepped m_len x_Nothing h_is_index h_check_both h_plain_way h_plain_ring
  have h_on_rings := z_on_rings (P := R.prog) (w := w) (K := K) (mg := mg) (base := base) (T := tabsOf K [("law", none)]) S_on_rings m_len m_range m_tuple c_MOST_HUES h_checked_world h_plain_ring
  have h_law_take := z_law_take (P := R.prog) (w := w) (K := K) (mg := mg) (base := base) (T := tabsOf K [("law", none)]) S_law_take m_int
  have h_law_some := z_law_some (P := R.prog) (w := w) (K := K) (mg := mg) (base := base) (T := tabsOf K [("law", none)]) S_law_some m_len h_law_take
  have h_law_world := z_law_world (P := R.prog) (w := w) (K := K) (mg := mg) (base := base) (T := tabsOf K [("law", none)]) S_law_world m_max m_range m_tuple h_law_take h_law_some
  have h_law_way := z_law_way (P := R.prog) (w := w) (K := K) (mg := mg) (base := base) (T := tabsOf K [("law", none)]) S_law_way
  have h_law_alike := z_law_alike (P := R.prog) (w := w) (K := K) (mg := mg) (base := base) (T := tabsOf K [("law", none)]) S_law_alike m_repr
  have h_law_fault := z_law_fault (P := R.prog) (w := w) (K := K) (mg := mg) (base := base) (T := tabsOf K [("law", none)]) S_law_fault m_enumerate m_len m_zip
  have h_law_bent := z_law_bent (P := R.prog) (w := w) (K := K) (mg := mg) (base := base) (T := tabsOf K [("law", none)]) S_law_bent m_len h_law_take h_law_some
  have h_law_steps := z_law_steps (P := R.prog) (w := w) (K := K) (mg := mg) (base := base) (T := tabsOf K [("law", none)]) S_law_steps m_range
  exact z_law (P := R.prog) (w := w) (base := base) S_law m_len m_list m_range m_tuple h_checked_world h_pointing_at h_way_of h_ring_of h_stepped h_on_rings h_law_take h_law_world S_law_heard h_law_way h_law_alike h_law_fault h_law_bent h_law_steps h_law_bag six g_BadText xf_BadText no_BadText_line no_BadText_column g_BadWorld xf_BadWorld no_BadWorld_where no_BadWorld_fault g_BadProgram xf_BadProgram no_BadProgram_where no_BadProgram_fault g_NoCommand xf_NoCommand no_NoCommand_line g_Nothing g_TooLarge xf_TooLarge no_TooLarge_what no_TooLarge_limit TB
end K01
open PySem PySem.W PySem.Calls PyProof.Rows
theorem PySem.Challenge.cw_everymap_k01_worlds_their_ways_and_rings_holds : PySem.Challenge.rw_everymap_k01_worlds_their_ways_and_rings.Holds := by
  w_on; o_law
  refine HandSHeadRun.head_any (r := OpenLaw.row PySem.Challenge.rw_everymap_k01_worlds_their_ways_and_rings) (q := view (OpenLaw.row PySem.Challenge.rw_everymap_k01_worlds_their_ways_and_rings).prog [43]) (H := K01.hk) (ob := K01.obs) (M := 20000) (loose := K01.loose) (d := HandSHeadRun.topDef (OpenLaw.row PySem.Challenge.rw_everymap_k01_worlds_their_ways_and_rings).prog 43) (kwd := []) K01.obs_eq
    (by kernel_rfl) (fun s => by kernel_rfl) K01.ran (by kernel_rfl) (by kernel_rfl) (by kernel_rfl) (by rfl) (by first | assumption | decide +kernel) (by decide +kernel) ⟨rfl, rfl, rfl, rfl, rfl, by decide +kernel⟩ ?hw ?hc
  case hw => w_witness2
  case hc => exact Hk.law_endY (k := 11) rfl (by kernel_rfl) (by kernel_rfl) ⟨rfl, by decide, by decide⟩ (fun w K mg h X G c base TB => K01.all_ok X G c base TB)
#print axioms PySem.Challenge.cw_everymap_k01_worlds_their_ways_and_rings_holds
