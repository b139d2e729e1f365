import PyProof.Rows.All
import Wide.All
import OpenK.AllK
import Wide.FinOn
import HandS.ForMost
import HandS.ForExc
import HandS.ExcInit
import HandS.ExcField
import HandS.TryMany
import HandS.IsInst
import HandS.Flow
import HandS.EndBits
import HandS.Defaults
import KE.KEqNest
import KE.DataEq
import HandS.More
import HandS.RaiseMore
import HandS.Wide
import HandS.TupAny
import HandS.TupLe
import HandS.Words
import HandS.Dict
import HandS.Comp
import HandS.Walk
import HandS.Iter
import HandS.NoneIn
import HandS.Text
import HandS.Small
import HandS.Base
import HandS.Call
import HandS.List
import HandS.Ends
import HandS.Exc
import HandS.ExcIs
import KE.KExcIs
import HandS.WordsExc
import HandS.Head0
import HandS.Head1
import HandS.Head2
import HandS.HeadEnd
import HandS.HeadHook1
import HandS.HeadHook2
import PySem.Challenge.RW_dyewoods_k01_errors_and_what_they_keep
set_option Elab.async false
set_option linter.all false
set_option maxRecDepth 100000
set_option maxHeartbeats 2000000
/-! DW0: defs that may ask repr of nested data: what runs around them holds no running repr. -/
namespace DW
open PySem PySem.Spec PyProof.Rows L2

structure RoomG (k : Nat) (A : Around) : Prop where
  room : Room k A
  gd : A.guards = some []
theorem RoomG.mono {j k : Nat} {A : Around} (r : RoomG k A) (h : j ≤ k) : RoomG j A := ⟨r.room.mono h, r.gd⟩
theorem RoomG.deeper {k : Nat} {A : Around} (r : RoomG (k + 1) A) (env : Env) : RoomG k (A.deeper env) := ⟨r.room.deeper env, r.gd⟩
theorem RoomG.callerOf {k : Nat} (h : Room k callerA) : RoomG k callerA := ⟨h, rfl⟩

/-- a def keeps a promise, where no repr runs around -/
structure FnG (P : Program) (w : World) (K : PySem.W.Frag) (mg : Str → Option Value) (base : Heap) (k : Nat) (f : Addr) (fd : FuncData) (ps : List Str) (sp : Sp) : Prop where
  len : ∀ vs H Q E, sp vs H Q E → vs.length = ps.length
  run : ∀ (A : Around) (outer : List Env) (s : Shared) (H : Hp) (args : Args) (us : List Value) (vs : List V) (Q : VK) (E : XK), RoomG k A → Env0 P w K mg base A outer s H → BindsTo s fd args (ps.zip us) → Vals vs us → sp vs H Q E →
    codeAny (model P w) A (.call (.ref f) args) (CR (L2.CX P w) outer P w H s Q E) s
section
variable {P : Program} {w : World} {K : PySem.W.Frag} {mg : Str → Option Value} {base : Heap} {k : Nat} {f : Addr} {fd : FuncData} {ps : List Str} {sp sp' : Sp}
theorem FnG.of (F : FnOk P w K mg base (L2.CX P w) k f fd ps sp) : FnG P w K mg base k f fd ps sp :=
  ⟨F.len, fun A outer s H args us vs Q E hr e0 hb r h => F.run A outer s H args us vs Q E hr.room e0 hb r h⟩
theorem FnG.up {j : Nat} (F : FnG P w K mg base j f fd ps sp) (h : j ≤ k) : FnG P w K mg base k f fd ps sp :=
  ⟨F.len, fun A outer s H args us vs Q E hr e0 hb r hs => F.run A outer s H args us vs Q E (hr.mono h) e0 hb r hs⟩
theorem FnG.imp (F : FnG P w K mg base k f fd ps sp) (h : ∀ vs H Q E, sp' vs H Q E → sp vs H Q E) : FnG P w K mg base k f fd ps sp' :=
  ⟨fun vs H Q E q => F.len vs H Q E (h _ _ _ _ q), fun A outer s H args us vs Q E hr e0 hb r hs => F.run A outer s H args us vs Q E hr e0 hb r (h _ _ _ _ hs)⟩
/-- THE RULE for a def: its body -/
theorem FnG.def_ {x qual : Str} {params : Arguments} {blk : List Stmt} {sc : Scope} {dv : List V} {kwd : List (Str × V)} {N : List Str} (F : FunD K x qual params blk sc dv kwd f fd) (S : FnScope N ps sc) (len : ∀ vs H Q E, sp vs H Q E → vs.length = ps.length)
    (body : ∀ (cdv : Value) (A : Around) (outer : List Env) (s : Shared) (H : Hp) (vs : List V) (Q : VK) (E : XK), RoomG k (A.deeper (envOfC qual sc s.heap.objs.size f cdv)) → sp vs H Q E →
      ∃ t, PSs (cxOf (L2.CX P w) P w K mg base N qual sc f cdv A outer s H E) blk t ∧ t { nx := fun _ H' => Q .non H', rt := Q } (start N vs) H) : FnG P w K mg base (k + 1) f fd ps sp := by
  obtain ⟨oc, od, dV, kV, doc, pm, an, cdv, ct, osl, rfl, lk, hcd, _, _⟩ := F.ex
  refine ⟨len, fun A outer s H args us vs Q E room e0 hb rel told => ?_⟩
  have inK : K.In s.heap := e0.mod.kin.keeps fun b o e => (e0.bs b o e).1
  have lim : s.heap.NoLimit := e0.mod.nolimit.keeps fun b o e => (e0.bs b o e).1
  have kinds : ∀ y ∈ ps.zip us, sc.names.lookup y.1 = some .local ∨ (sc.names.lookup y.1 = some .cell ∧ ((cellsFrom (s.heap.objs.size + 1) sc.names []).lookup y.1).isSome = true) := by
    rintro ⟨n, v⟩ hy
    exact (S.par n (List.of_mem_zip hy).1).elim .inl fun q => .inr ⟨q, PySem.W.cellsFrom_some _ _ _ (.inl q)⟩
  refine codeAny_call_function room.room.depth (inK _ _ lk) rfl S.co S.gen rfl (PySem.W.codeRec_of inK hcd) (hb _ _ _ _ ?_)
  refine wpAny_newFunctionEnv_cells S.kind kinds fun env he s1 x => ?_
  subst he
  refine ⟨lim.keeps x.toInCall.keep, codeAny_func ?_⟩
  obtain ⟨t, ht, hq⟩ := body cdv A outer s H vs Q E (room.deeper _) told
  refine wpAny_mono (ht.run [] s1 (start N vs) H _ (inv_start S room.room.hd e0 (len _ _ _ _ told) rel x) hq) (fun fl s' hs => ?_) fun e s' hs => hs
  cases fl with
  | ret u =>
    obtain ⟨v, σ', H', J, rv, q⟩ := hs
    exact ⟨v, H', J.os, J.bare, J.base, J.hok, rv, q⟩
  | next =>
    obtain ⟨σ', H', J, q⟩ := hs
    exact ⟨.non, H', J.os, J.bare, J.base, J.hok, rfl, q⟩
  | brk => exact hs.elim fun _ h => h.elim fun _ h => h.2.elim
  | cont => exact hs.elim fun _ h => h.elim fun _ h => h.2.elim
end

/-! ### a call of such a def -/
section
variable {X : Cx} {k : Nat} {f : Addr} {fd : FuncData} {ps : List Str} {sp : Sp} {E : L2.St → XK} {x : Str} {p pos : Pos} {e : Expr} {es : List Expr} {t : TA} {ds : List Value} {dvs : List V}
theorem run_g {pins : List (Addr × Obj)} {σ : L2.St} {H : Hp} {s : Shared} {Q : VK} {vs : List V} {args : Args} {ws : List Value} (F : FnG X.prog X.w X.K X.mg X.base k f fd ps sp) (hr : RoomG k X.A) (hb : BindsTo s fd args (ps.zip ws)) (hx : PassesAt (L2.CX X.prog X.w) X σ (E σ))
    (I : Inv X pins σ H s) (r : Vals vs ws) (h : sp vs H Q (E σ)) : codeAny (model X.prog X.w) X.A (.call (.ref f) args) (callEnd (EP X pins σ Q) X.xe) s := by
  refine codeAny_mono (F.run X.A X.stack s H args ws vs Q (E σ) hr I.env0 hb r h) fun o s' hq => ?_
  cases o with
  | error e => exact hx pins H s e s' I hq
  | ok fl =>
    cases fl with
    | ret u => exact I.after hq
    | next => exact False.elim hq
    | brk => exact False.elim hq
    | cont => exact False.elim hq
def tCallG (sp : Sp) (E : L2.St → XK) (dvs : List V) (t : TA) : TE := fun σ H Q => t σ H fun vs H1 => sp (vs ++ dvs) H1 Q (E σ)
theorem pe_callG (F : FnG X.prog X.w X.K X.mg X.base k f fd ps sp) (hr : RoomG k X.A) (hg : Gl X x) (hm : X.mg x = some (.ref f)) (hk : PySem.W.keepIn X.K (.ref f) = true) (hb : Binds X.K fd ps ds) (hd : Vals dvs ds) (hx : ∀ σ, PassesAt (L2.CX X.prog X.w) X σ (E σ))
    (ha : PA X (e :: es) t) (hdb : (x == ("__debug__" : Str)) = false := by decide) (he : starEach (e :: es) X.env = (false, eval e X.env) :: starEach es X.env := by rfl) (hpl : (backTo pos (starEach es X.env)).any (·.1) = false := by rfl) :
    PE X (.Call (.Name x p) (e :: es) [] pos) (tCallG sp E dvs t) := by
  refine ⟨fun pins s σ H Q I h => ?_⟩
  refine wpAny_Call_Name_kw (ld_glob I hg hm ?_ hdb)
  refine PySem.W.callWith_K (h₀ := X.base) I.ok.mod.kin hk (thn (ha.run pos pins s σ H _ I h) fun us s1 ⟨vs, H1, I1, r, q⟩ => ⟨I1.kIn, ?_⟩) he hpl
  have rr := r.append hd
  have hl : (us ++ ds).length = ps.length := by rw [← rr.length]; exact F.len _ _ _ _ q
  show wpAny _ _ (call (.ref f) us) _ _ _
  exact wpAny_call (run_g F hr (hb s1 us I1.kIn hl) (hx σ) I1 rr q)
theorem pe_callG0 (F : FnG X.prog X.w X.K X.mg X.base k f fd ps sp) (hr : RoomG k X.A) (hg : Gl X x) (hm : X.mg x = some (.ref f)) (hk : PySem.W.keepIn X.K (.ref f) = true) (hb : Binds X.K fd ps ds) (hd : Vals dvs ds) (hx : ∀ σ, PassesAt (L2.CX X.prog X.w) X σ (E σ))
    (hdb : (x == ("__debug__" : Str)) = false := by decide) : PE X (.Call (.Name x p) [] [] pos) (tCallG sp E dvs tNil) := by
  refine ⟨fun pins s σ H Q I h => ?_⟩
  have q : sp dvs H Q (E σ) := h
  have hl : (([] : List Value) ++ ds).length = ps.length := by rw [List.nil_append, ← hd.length]; exact F.len _ _ _ _ q
  refine wpAny_Call_Name_kw (ld_glob I hg hm ?_ hdb)
  have go : wpAny (model X.prog X.w) X.A (call (.ref f) []) (EP X pins σ Q) X.xe s := wpAny_call (run_g F hr (hb s [] I.kIn hl) (hx σ) I hd q)
  exact PySem.W.callWith_K0 I.kIn hk go
/-- f(e, .., k = v, ..): n values by place, the keywords named ks -/
def tCallGK (n m : Nat) (sp : Sp) (gV : List V → List V → List V) (E : L2.St → XK) (t tk : TA) : TE := fun σ H Q => t σ H fun vs H1 => tk σ H1 fun zs H2 => vs.length = n ∧ zs.length = m ∧ sp (gV vs zs) H2 Q (E σ)
variable {n : Nat} {ks : List Str} {g : List Value → List Value → List Value} {gV : List V → List V → List V} {kws : List Keyword} {tk : TA}
theorem pe_callGK (F : FnG X.prog X.w X.K X.mg X.base k f fd ps sp) (hr : RoomG k X.A) (hg : Gl X x) (hm : X.mg x = some (.ref f)) (hk : PySem.W.keepIn X.K (.ref f) = true) (hb : KBn X.K fd ps n ks g gV) (hx : ∀ σ, PassesAt (L2.CX X.prog X.w) X σ (E σ))
    (ha : PA X (e :: es) t) (hkw : PK X kws tk) (hall : (backToKw pos (keywordEach kws X.env)).all (·.1.isSome) = true := by rfl) (hks : (backToKw pos (keywordEach kws X.env)).filterMap (·.1) = ks := by rfl)
    (hdb : (x == ("__debug__" : Str)) = false := by decide) (he : starEach (e :: es) X.env = (false, eval e X.env) :: starEach es X.env := by rfl)
    (hpl : ((backTo pos (starEach (e :: es) X.env)).any (·.1) || (backToKw pos (keywordEach kws X.env)).any (·.1.isNone)) = false := by rfl) :
    PE X (.Call (.Name x p) (e :: es) kws pos) (tCallGK n ks.length sp gV E t tk) := by
  refine ⟨fun pins s σ H Q I h => ?_⟩
  refine wpAny_Call_Name_kw (ld_glob I hg hm ?_ hdb)
  refine PySem.W.callWith_KW (h₀ := X.base) I.ok.mod.kin hk hall (thn (ha.run pos pins s σ H _ I h) fun us s1 ⟨vs, H1, I1, r, q⟩ => ?_) hpl he
  refine thn (hkw.run pos pins s1 σ H1 _ I1 q) fun ws s2 ⟨zs, H2, I2, rz, l1, l2, q2⟩ => ⟨I2.kIn, ?_⟩
  rw [hks]
  show wpAny _ _ (call (.ref f) us (ks.zip ws)) _ _ _
  exact wpAny_call (run_g F hr (hb.to s2 us ws I2.kIn (r.length.symm.trans l1) (rz.length.symm.trans l2)) (hx σ) I2 (hb.rel r rz) q2)
theorem pe_callGK0 (F : FnG X.prog X.w X.K X.mg X.base k f fd ps sp) (hr : RoomG k X.A) (hg : Gl X x) (hm : X.mg x = some (.ref f)) (hk : PySem.W.keepIn X.K (.ref f) = true) (hb : KBn X.K fd ps 0 ks g gV) (hx : ∀ σ, PassesAt (L2.CX X.prog X.w) X σ (E σ))
    (hkw : PK X kws tk) (hall : (backToKw pos (keywordEach kws X.env)).all (·.1.isSome) = true := by rfl) (hks : (backToKw pos (keywordEach kws X.env)).filterMap (·.1) = ks := by rfl)
    (hdb : (x == ("__debug__" : Str)) = false := by decide)
    (hpl : ((backTo pos (starEach [] X.env)).any (·.1) || (backToKw pos (keywordEach kws X.env)).any (·.1.isNone)) = false := by rfl) :
    PE X (.Call (.Name x p) [] kws pos) (tCallGK 0 ks.length sp gV E tNil tk) := by
  refine ⟨fun pins s σ H Q I h => ?_⟩
  refine wpAny_Call_Name_kw (ld_glob I hg hm ?_ hdb)
  refine PySem.W.callWith_KW0 (h₀ := X.base) I.ok.mod.kin hk hall (thn (hkw.run pos pins s σ H _ I h) fun ws s2 ⟨zs, H2, I2, rz, l1, l2, q2⟩ => ⟨I2.kIn, ?_⟩) hpl
  rw [hks]
  show wpAny _ _ (call (.ref f) [] (ks.zip ws)) _ _ _
  exact wpAny_call (run_g (vs := gV [] zs) F hr (hb.to s2 [] ws I2.kIn rfl (rz.length.symm.trans l2)) (hx σ) I2 (hb.rel .nil rz) q2)
end

/-! ### the law's own call -/
theorem law_g {P : Program} {w : World} {K : PySem.W.Frag} {mg mb : Str → Option Value} {k : Nat} {fa a : Addr} {fd : FuncData} {x : Str} {sp : Sp} {s₁ : Shared} {vs : List Value} {ns : List Int}
    (inK : K.In s₁.heap) (glob : s₁.heap.Ns mainGlobals mg) (blt : s₁.heap.Ns builtinsNs mb) (bltIs : ∀ x : Str, x ≠ "__name__" → mb x = bootBuiltins x) (lim : s₁.heap.NoLimit) (nogens : s₁.gens = #[])
    (obj : s₁.heap.get? a = some { cls := .type "list", data := .seq vs.toArray }) (hints : IntsAre vs ns) (short : ns.length ≤ sizeLine) (room : Room k callerA)
    (F : ∀ base : Heap, K.In base → base.Ns mainGlobals mg → FnG P w K mg base k fa fd [x] sp) (binds : ∀ (s : Shared) (u : Value), BindsTo s fd ⟨[u], []⟩ [(x, u)])
    (told : ∀ H : Hp, SqL K H a (ns.map V.int) → sp [.ref a] H (fun v _ => v = .bl true) fun _ _ _ => False) :
    codeAny (model P w) callerA (.call (.ref fa) ⟨[.ref a], []⟩) (fun r s' => r = .ok (.ret (.bool true)) ∧ OldK s₁.heap s'.heap ∧ s'.os = s₁.os ∧ AllBare s'.gens) s₁ := by
  have rel := vals_ints hints
  have lenV := hints.length
  -- o: what is tracked of the script (nothing, where it is one of the module's own)
  have core : ∀ H : Hp, (∀ b, H b = none ∨ (b = a ∧ H b = some (.frz { cls := .type "list", data := .seq vs.toArray } (.lst (ns.map V.int))))) → SqL K H a (ns.map V.int) → (H a ≠ none → K.lookup a = none) →
      codeAny (model P w) callerA (.call (.ref fa) ⟨[.ref a], []⟩) (fun r s' => r = .ok (.ret (.bool true)) ∧ OldK s₁.heap s'.heap ∧ s'.os = s₁.os ∧ AllBare s'.gens) s₁ := by
    intro H only seen own
    have hok : HOk P w H s₁.heap := fun b u z => by
      rcases only b with q | ⟨rfl, q⟩
      · rw [q] at z; cases z
      · rw [q] at z; cases z
        exact ⟨obj, by rw [List.length_map]; exact short, vs, _, rel, obj⟩
    have dictFree : ∀ {b : Addr} {m : Str → Option Value}, s₁.heap.Ns b m → (hidT s₁.heap H).Ns b m := fun {b m} ⟨o, es, ep, e, d, r⟩ => by
      refine ⟨o, es, ep, hidT_get e ?_, d, r⟩
      rcases only b with q | ⟨rfl, _⟩
      · exact q
      · rw [obj] at e; cases e; cases d
    have inB : K.In (hidT s₁.heap H) := fun b o e => hidT_get (inK b o e) (by
      rcases only b with q | ⟨rfl, q⟩
      · exact q
      · rw [own (by rw [q]; exact fun z => nomatch z)] at e; cases e)
    have mod : Mod K mg (hidT s₁.heap H) := ⟨inB, dictFree glob, ⟨mb, dictFree blt, bltIs⟩, let ⟨mc, h1, h2⟩ := lim; ⟨mc, dictFree h1, h2⟩⟩
    have e0 : Env0 P w K mg (hidT s₁.heap H) callerA [] s₁ H := ⟨rfl, mod, fun b o e => of_hidT e, Nat.le_of_eq (hidT_size _ _), trivial, fun b hb => absurd (show b ∈ ([] : List Addr) from hb) List.not_mem_nil, hok, AllBare.of_eq nogens⟩
    refine codeAny_mono ((F _ inB (dictFree glob)).run callerA [] s₁ H ⟨[.ref a], []⟩ [.ref a] [.ref a] _ _ (RoomG.callerOf room) e0 (binds s₁ (.ref a)) (.cons rfl .nil) (told H seen)) fun r s' h => ?_
    cases r with
    | error e =>
      obtain ⟨_, _, _, _, _, _, _, _, _, _, _, _, z⟩ := h
      exact z.elim
    | ok fl =>
      cases fl with
      | next => exact False.elim h
      | brk => exact False.elim h
      | cont => exact False.elim h
      | ret u =>
        obtain ⟨v, H', os, bare, un, hok', r', q⟩ := h
        obtain rfl : v = .bl true := q
        obtain rfl : u = Value.bool true := r'
        refine ⟨rfl, OldK.of_keep fun b o e => ?_, os, bare⟩
        rcases only b with q | ⟨rfl, q⟩
        · exact un.keep b o e q (fun z => nomatch z) (fun z => nomatch z)
        · have z2 := un.frzs b _ _ q
          obtain ⟨e2, _⟩ := hok' b _ z2
          rw [obj] at e; cases e
          exact e2
  cases hk : K.lookup a with
  | some o =>
    have e := inK a o hk
    rw [obj] at e
    cases e
    exact core (fun _ => none) (fun _ => .inl rfl) (.inr ⟨_, vs.toArray, _, hk, rfl, rfl, rfl, by rw [List.size_toArray, lenV]; exact short, by simpa using rel⟩) fun z => absurd rfl z
  | none =>
    refine core (fun b => if b = a then some (.frz { cls := .type "list", data := .seq vs.toArray } (.lst (ns.map V.int))) else none) (fun b => ?_) (.inl (.inr ⟨_, if_pos rfl⟩)) fun _ => hk
    by_cases hb : b = a
    · exact .inr ⟨hb, if_pos hb⟩
    · exact .inl (if_neg hb)
end DW
set_option Elab.async false
set_option linter.all false
set_option maxRecDepth 100000
set_option maxHeartbeats 2000000
/-! DW1: values as data, the world that a mirror speaks of, the judgements. -/
namespace DW
open PySem PySem.Spec L2

/-! ### data -/
inductive D where
  | non | bl (b : Bool) | int (i : Int) | str (x : Str)
  | tup (ds : List D) | lst (ds : List D) | dct (kvs : List (Key × D))
  | fls (ds : List D) | exc (c : Str) (d : D) | ob (v : V)

/-- the written world: K, and the own exception classes by name: where, and the attribute each has -/
structure Zn where
  K : PySem.W.Frag
  cl : Str → Option (Addr × Str)

mutual
inductive IsD (Z : Zn) (G : Hp) : D → V → Prop
  | non : IsD Z G .non .non
  | bl (b : Bool) : IsD Z G (.bl b) (.bl b)
  | int (i : Int) : IsD Z G (.int i) (.int i)
  | str (x : Str) : IsD Z G (.str x) (.str x)
  | tup {a : Addr} {xs : List V} {ds : List D} : SqT Z.K G a xs → IsDs Z G ds xs → IsD Z G (.tup ds) (.ref a)
  | lst {a : Addr} {xs : List V} {ds : List D} : G a = some (.lst xs) → IsDs Z G ds xs → IsD Z G (.lst ds) (.ref a)
  | fls {a : Addr} {xs : List V} {ds : List D} : SqL Z.K G a xs → IsDs Z G ds xs → IsD Z G (.fls ds) (.ref a)
  | dct {a : Addr} {kvs : List (Key × V)} {ks : List (Key × D)} : G a = some (.dK kvs) → IsKs Z G ks kvs → IsD Z G (.dct ks) (.ref a)
  | exc {a C dx : Addr} {f : Str} {pv : V} {c : Str} {d : D} : Z.cl c = some (C, f) → G a = some (exo a C (some dx)) → G dx = some (exd dx [(f, pv)]) → IsD Z G d pv → IsD Z G (.exc c d) (.ref a)
  | ob (v : V) : IsD Z G (.ob v) v
inductive IsDs (Z : Zn) (G : Hp) : List D → List V → Prop
  | nil : IsDs Z G [] []
  | cons {d : D} {v : V} {ds : List D} {vs : List V} : IsD Z G d v → IsDs Z G ds vs → IsDs Z G (d :: ds) (v :: vs)
inductive IsKs (Z : Zn) (G : Hp) : List (Key × D) → List (Key × V) → Prop
  | nil : IsKs Z G [] []
  | cons {k : Key} {d : D} {v : V} {ds : List (Key × D)} {vs : List (Key × V)} : IsD Z G d v → IsKs Z G ds vs → IsKs Z G ((k, d) :: ds) ((k, v) :: vs)
end

theorem sqT_mono {K : PySem.W.Frag} {G G' : Hp} (e : Same G G') {a : Addr} {xs : List V} (h : SqT K G a xs) : SqT K G' a xs := by
  rcases h with (h | ⟨o, h⟩) | h
  · exact .inl (.inl (e _ _ h))
  · exact .inl (.inr ⟨o, e _ _ h⟩)
  · exact .inr h
mutual
theorem IsD.mono {Z : Zn} {G G' : Hp} (e : Same G G') : ∀ {d : D} {v : V}, IsD Z G d v → IsD Z G' d v
  | _, _, .non => .non
  | _, _, .bl b => .bl b
  | _, _, .int i => .int i
  | _, _, .str x => .str x
  | _, _, .tup h hs => .tup (sqT_mono e h) (IsDs.mono e hs)
  | _, _, .lst h hs => .lst (e _ _ h) (IsDs.mono e hs)
  | _, _, .fls h hs => .fls (e.seq h) (IsDs.mono e hs)
  | _, _, .dct h hs => .dct (e _ _ h) (IsKs.mono e hs)
  | _, _, .exc h1 h2 h3 h4 => .exc h1 (e _ _ h2) (e _ _ h3) (IsD.mono e h4)
  | _, _, .ob v => .ob v
theorem IsDs.mono {Z : Zn} {G G' : Hp} (e : Same G G') : ∀ {ds : List D} {vs : List V}, IsDs Z G ds vs → IsDs Z G' ds vs
  | _, _, .nil => .nil
  | _, _, .cons h hs => .cons (IsD.mono e h) (IsDs.mono e hs)
theorem IsKs.mono {Z : Zn} {G G' : Hp} (e : Same G G') : ∀ {ds : List (Key × D)} {vs : List (Key × V)}, IsKs Z G ds vs → IsKs Z G' ds vs
  | _, _, .nil => .nil
  | _, _, .cons h hs => .cons (IsD.mono e h) (IsKs.mono e hs)
end
theorem IsDs.length {Z : Zn} {G : Hp} : ∀ {ds : List D} {vs : List V}, IsDs Z G ds vs → ds.length = vs.length
  | _, _, .nil => rfl
  | _, _, .cons _ t => by rw [List.length_cons, List.length_cons, IsDs.length t]
theorem IsDs.get {Z : Zn} {G : Hp} : ∀ {ds : List D} {vs : List V} {i : Nat} {d : D}, IsDs Z G ds vs → ds[i]? = some d → ∃ v, vs[i]? = some v ∧ IsD Z G d v
  | _, _, _, _, .nil, e => by simp at e
  | _, _, 0, _, .cons h _, e => by simp at e; subst e; exact ⟨_, rfl, h⟩
  | _, _, i + 1, d, .cons _ t, e => by
    obtain ⟨v, h1, h2⟩ := IsDs.get (i := i) (d := d) t (by simpa using e)
    exact ⟨v, by simpa using h1, h2⟩
theorem IsDs.append {Z : Zn} {G : Hp} : ∀ {ds es : List D} {vs us : List V}, IsDs Z G ds vs → IsDs Z G es us → IsDs Z G (ds ++ es) (vs ++ us)
  | _, _, _, _, .nil, h => h
  | _, _, _, _, .cons h t, k => .cons h (t.append k)
theorem IsDs.take {Z : Zn} {G : Hp} : ∀ {ds : List D} {vs : List V} (n : Nat), IsDs Z G ds vs → IsDs Z G (ds.take n) (vs.take n)
  | _, _, 0, _ => .nil
  | _, _, _ + 1, .nil => .nil
  | _, _, n + 1, .cons h t => .cons h (t.take n)
theorem IsDs.drop {Z : Zn} {G : Hp} : ∀ {ds : List D} {vs : List V} (n : Nat), IsDs Z G ds vs → IsDs Z G (ds.drop n) (vs.drop n)
  | _, _, 0, h => h
  | _, _, _ + 1, .nil => .nil
  | _, _, n + 1, .cons _ t => IsDs.drop n t
theorem IsDs.set {Z : Zn} {G : Hp} {d : D} {v : V} (h : IsD Z G d v) : ∀ {ds : List D} {vs : List V} (n : Nat), IsDs Z G ds vs → IsDs Z G (ds.set n d) (vs.set n v)
  | _, _, _, .nil => .nil
  | _, _, 0, .cons _ t => .cons h t
  | _, _, n + 1, .cons q t => .cons q (t.set h n)
theorem IsDs.one {Z : Zn} {G : Hp} {d : D} {vs : List V} (h : IsDs Z G [d] vs) : ∃ v, vs = [v] ∧ IsD Z G d v := by
  cases h with
  | cons h t => cases t; exact ⟨_, rfl, h⟩
theorem IsDs.reverse {Z : Zn} {G : Hp} : ∀ {ds : List D} {vs : List V}, IsDs Z G ds vs → IsDs Z G ds.reverse vs.reverse
  | _, _, .nil => .nil
  | _, _, .cons h t => by
    rw [List.reverse_cons, List.reverse_cons]
    exact t.reverse.append (.cons h .nil)

/-! ### what may change -/
/-- a state that is changed in place: mu are its cells; R t G H: it is t -/
structure Th where
  T : Type
  mu : Addr → Prop
  R : T → Hp → Hp → Prop
  stab : ∀ {t : T} {G H G' H' : Hp}, R t G H → Same G G' → (∀ a, mu a → G' a = G a) → (∀ a, mu a → H' a = H a) → R t G' H'
  mem : ∀ {t : T} {G H : Hp} {a : Addr}, R t G H → mu a → H a ≠ none ∧ G a = none
/-- nothing is changed -/
abbrev Th.u : Th where
  T := Unit
  mu := fun _ => False
  R := fun _ _ _ => True
  stab := fun _ _ _ _ => trivial
  mem := fun _ h => h.elim
/-- from (G, H) to (G', H'): data stays data, what is tracked and not of the state stays as it is, new data stands at new places -/
structure Step (th : Th) (G H G' H' : Hp) : Prop where
  sub : Same G G'
  keep : ∀ a o, H a = some o → ¬ th.mu a → H' a = some o
  dom : ∀ a, H a ≠ none → H' a ≠ none
  old : ∀ a, H a ≠ none → G' a = G a
theorem Step.refl {th : Th} {G H : Hp} : Step th G H G H := ⟨fun _ _ h => h, fun _ _ h _ => h, fun _ h => h, fun _ _ => rfl⟩
theorem Step.trans {th : Th} {G H G1 H1 G2 H2 : Hp} (a : Step th G H G1 H1) (b : Step th G1 H1 G2 H2) : Step th G H G2 H2 :=
  ⟨fun x o h => b.sub x o (a.sub x o h), fun x o h n => b.keep x o (a.keep x o h n) n, fun x h => b.dom x (a.dom x h), fun x h => (b.old x (a.dom x h)).trans (a.old x h)⟩
/-- a new object, data -/
theorem Step.newD {th : Th} {G H : Hp} {p : Addr} {o : HO} (s : Same G H) (h : H p = none) : Step th G H (upd G p o) (upd H p o) := by
  have hg : G p = none := Same.free s h
  refine ⟨fun a u e => ?_, fun a u e _ => ?_, fun a e => ?_, fun a e => ?_⟩
  · rw [upd_ne (ne_of_none e hg)]; exact e
  · rw [upd_ne (ne_of_none e h)]; exact e
  · have : a ≠ p := fun z => e (z ▸ h)
    rw [upd_ne this]; exact e
  · have : a ≠ p := fun z => e (z ▸ h)
    rw [upd_ne this]
/-- a new object, no data -/
theorem Step.newO {th : Th} {G H : Hp} {p : Addr} {o : HO} (h : H p = none) : Step th G H G (upd H p o) := by
  refine ⟨fun a u e => e, fun a u e _ => ?_, fun a e => ?_, fun a e => rfl⟩
  · rw [upd_ne (ne_of_none e h)]; exact e
  · have : a ≠ p := fun z => e (z ▸ h)
    rw [upd_ne this]; exact e
/-- the heap alone grows -/
theorem Step.same {th : Th} {G H H' : Hp} (s : Same H H') : Step th G H G H' :=
  ⟨fun _ _ h => h, fun a o h _ => s a o h, fun a h z => h (s.free z), fun _ _ => rfl⟩
theorem sub_newD {G H : Hp} {p : Addr} {o : HO} (s : Same G H) : Same (upd G p o) (upd H p o) := fun a u e => by
  unfold upd at e ⊢
  split at e
  · rename_i z; rw [if_pos z]; exact e
  · rename_i z; rw [if_neg z]; exact s a u e
theorem sub_newO {G H : Hp} {p : Addr} {o : HO} (s : Same G H) (h : H p = none) : Same G (upd H p o) := fun a u e => by
  rw [upd_ne (ne_of_none (s a u e) h)]; exact s a u e

/-- a world: data G within H, the state t -/
structure Wd (th : Th) (t : th.T) (G H : Hp) : Prop where
  sub : Same G H
  r : th.R t G H
theorem Wd.newD {th : Th} {t : th.T} {G H : Hp} {p : Addr} {o : HO} (w : Wd th t G H) (h : H p = none) : Wd th t (upd G p o) (upd H p o) :=
  ⟨sub_newD w.sub, th.stab w.r (Step.newD (th := th) w.sub h).sub (fun a m => (Step.newD (th := th) w.sub h).old a (th.mem w.r m).1) fun a m => upd_ne fun z => (th.mem w.r m).1 (z ▸ h)⟩
theorem Wd.newO {th : Th} {t : th.T} {G H : Hp} {p : Addr} {o : HO} (w : Wd th t G H) (h : H p = none) : Wd th t G (upd H p o) :=
  ⟨sub_newO w.sub h, th.stab w.r (fun _ _ e => e) (fun _ _ => rfl) fun a m => upd_ne fun z => (th.mem w.r m).1 (z ▸ h)⟩
theorem Wd.same {th : Th} {t : th.T} {G H H' : Hp} (w : Wd th t G H) (s : Same H H') : Wd th t G H' :=
  ⟨w.sub.trans s, th.stab w.r (fun _ _ e => e) (fun _ _ => rfl) fun a m => by
    cases e : H a with
    | none => exact absurd e (th.mem w.r m).1
    | some o => exact s a o e⟩
/-- a step of the pure theory is a step of every theory -/
theorem Wd.pure {th : Th} {t : th.T} {G H G' H' : Hp} (w : Wd th t G H) (s : Step .u G H G' H') (sb : Same G' H') : Wd th t G' H' :=
  ⟨sb, th.stab w.r s.sub (fun a m => s.old a (th.mem w.r m).1) fun a m => by
    cases e : H a with
    | none => exact absurd e (th.mem w.r m).1
    | some o => exact s.keep a o e fun z => z.elim⟩
theorem Step.pure {th : Th} {G H G' H' : Hp} (s : Step .u G H G' H') : Step th G H G' H' := ⟨s.sub, fun a o h _ => s.keep a o h fun z => z.elim, s.dom, s.old⟩

/-! ### slots -/
inductive Sl where
  | un | va (d : D) | own (ds : List D) | ownK (kvs : List (Key × D)) | exn (c : Str) (d : D)
abbrev Rho := List Sl
def Sl.isOwn : Sl → Bool
  | .own _ => true
  | .ownK _ => true
  | _ => false
/-- the context of a body: the entry's world, the exception of the suite around -/
structure Ct (th : Th) where
  Z : Zn
  G0 : Hp
  H0 : Hp
  ex : Addr × Value × Option Addr
/-- what a slot's word says of what stands in it -/
def SlR {th : Th} (C : Ct th) (G H : Hp) : Sl → Option V → Prop
  | .un, _ => True
  | .va d, o => ∃ v, o = some v ∧ IsD C.Z G d v
  | .own ds, o => ∃ a xs, o = some (.ref a) ∧ H a = some (.lst xs) ∧ G a = none ∧ ¬ th.mu a ∧ C.H0 a = none ∧ IsDs C.Z G ds xs
  | .ownK ks, o => ∃ a kvs, o = some (.ref a) ∧ H a = some (.dK kvs) ∧ G a = none ∧ ¬ th.mu a ∧ C.H0 a = none ∧ IsKs C.Z G ks kvs
  | .exn c d, o => o = some (.ref C.ex.1) ∧ ∃ Ca f dx pv, C.Z.cl c = some (Ca, f) ∧ C.ex.2.1 = .ref Ca ∧ C.ex.2.2 = some dx ∧ G dx = some (.xd [(f, pv)]) ∧ IsD C.Z G d pv
structure EnvR {th : Th} (C : Ct th) (G H : Hp) (ρ : Rho) (σ : St) : Prop where
  len : ρ.length = σ.length
  at_ : ∀ (i : Nat) (s : Sl) (o : Option V), ρ[i]? = some s → σ[i]? = some o → SlR C G H s o
  sep : ∀ (i j : Nat) (s s' : Sl) (a : Addr), ρ[i]? = some s → ρ[j]? = some s' → s.isOwn = true → s'.isOwn = true → σ[i]? = some (some (.ref a)) → σ[j]? = some (some (.ref a)) → i = j
theorem SlR.step {th : Th} {C : Ct th} {G H G' H' : Hp} (s : Step th G H G' H') : ∀ {sl : Sl} {o : Option V}, SlR C G H sl o → SlR C G' H' sl o
  | .un, _, _ => trivial
  | .va d, _, ⟨v, e, h⟩ => ⟨v, e, h.mono s.sub⟩
  | .own ds, _, ⟨a, xs, e, h1, h2, h3, h4, h5⟩ => ⟨a, xs, e, s.keep a _ h1 h3, (s.old a (by rw [h1]; exact fun z => nomatch z)).trans h2, h3, h4, h5.mono s.sub⟩
  | .ownK ks, _, ⟨a, kvs, e, h1, h2, h3, h4, h5⟩ => ⟨a, kvs, e, s.keep a _ h1 h3, (s.old a (by rw [h1]; exact fun z => nomatch z)).trans h2, h3, h4, h5.mono s.sub⟩
  | .exn c d, _, ⟨e, Ca, f, dx, pv, h1, h2, h3, h4, h5⟩ => ⟨e, Ca, f, dx, pv, h1, h2, h3, s.sub _ _ h4, h5.mono s.sub⟩
theorem EnvR.step {th : Th} {C : Ct th} {G H G' H' : Hp} {ρ : Rho} {σ : St} (h : EnvR C G H ρ σ) (s : Step th G H G' H') : EnvR C G' H' ρ σ :=
  ⟨h.len, fun i sl o e1 e2 => (h.at_ i sl o e1 e2).step s, h.sep⟩
theorem EnvR.va {th : Th} {C : Ct th} {G H : Hp} {ρ : Rho} {σ : St} (h : EnvR C G H ρ σ) {i : Nat} {d : D} (e : ρ[i]? = some (.va d)) : ∃ v, σ[i]? = some (some v) ∧ IsD C.Z G d v := by
  have hi : i < σ.length := by rw [← h.len]; exact (List.getElem?_eq_some_iff.mp e).1
  obtain ⟨v, e1, e2⟩ := h.at_ i _ _ e (List.getElem?_eq_getElem hi)
  exact ⟨v, by rw [List.getElem?_eq_getElem hi, e1], e2⟩

/-! ### what a mirror gives -/
inductive Rs (T : Type) (α : Type) where
  | ok (a : α) (t : T) | er (c : Str) (d : D) (t : T) | bad
inductive Ss (T : Type) where
  | nx (ρ : Rho) (t : T) | rt (d : D) (t : T) | bk (ρ : Rho) (t : T) | ct (ρ : Rho) (t : T) | er (c : Str) (d : D) (ρ : Rho) (t : T) | bad
abbrev M (T : Type) (α : Type) := Rho → T → Rs T α
abbrev MS (T : Type) := Rho → T → Ss T
def bnd {T α β : Type} (r : Rs T α) (f : α → T → Rs T β) : Rs T β := match r with
  | .ok a t => f a t
  | .er c d t => .er c d t
  | .bad => .bad

variable {th : Th}
/-- an exception's own dict: its payload -/
def Pay (Z : Zn) (G : Hp) (c : Str) (p : D) (Ca dx : Addr) : Prop := ∃ f pv, Z.cl c = some (Ca, f) ∧ G dx = some (.xd [(f, pv)]) ∧ IsD Z G p pv
/-- the outcome r at (σ, G, H) meets the wish Q, or W -/
def OutG {α β : Type} (C : Ct th) (W : WX) (rel : Hp → α → β → Prop) (σ : St) (G H : Hp) (Q : β → Hp → Prop) : Rs th.T α → Prop
  | .ok a t => ∀ b G' H', Step th G H G' H' → Wd th t G' H' → rel G' a b → Q b H'
  | .er c p t => ∀ G' H' Ca dx, Step th G H G' H' → Wd th t G' H' → Pay C.Z G' c p Ca dx → W (.ref Ca) (some dx) σ H'
  | .bad => False
def tG {α β : Type} (C : Ct th) (W : WX) (rel : Hp → α → β → Prop) (f : M th.T α) : St → Hp → (β → Hp → Prop) → Prop := fun σ H Q =>
  ∃ ρ G t, Wd th t G H ∧ EnvR C G H ρ σ ∧ OutG C W rel σ G H Q (f ρ t)
abbrev tD (C : Ct th) (W : WX) (f : M th.T D) : TE := tG C W (IsD C.Z) f
abbrev tDs (C : Ct th) (W : WX) (f : M th.T (List D)) : TA := tG C W (IsDs C.Z) f
abbrev tB (C : Ct th) (W : WX) (f : M th.T Bool) : TT := tG C W (fun _ (a : Bool) (b : Bool) => b = a) f

theorem OutG.imp {α β : Type} {C : Ct th} {W : WX} {rel : Hp → α → β → Prop} {σ : St} {G H G1 H1 : Hp} {Q Q' : β → Hp → Prop} {r : Rs th.T α} (s : Step th G H G1 H1) (h : OutG C W rel σ G H Q r) (hq : ∀ b H', Q b H' → Q' b H') : OutG C W rel σ G1 H1 Q' r := by
  cases r with
  | ok a t => exact fun b G' H' s' w r => hq _ _ (h b G' H' (s.trans s') w r)
  | er c p t => exact fun G' H' Ca dx s' w r => h G' H' Ca dx (s.trans s') w r
  | bad => exact h
/-- first one, then another -/
theorem OutG.bnd {α α' β β' : Type} {C : Ct th} {W : WX} {rel : Hp → α → β → Prop} {rel' : Hp → α' → β' → Prop} {σ : St} {G H : Hp} {Q : β' → Hp → Prop} {r : Rs th.T α} {g : α → th.T → Rs th.T α'}
    (h : OutG C W rel' σ G H Q (bnd r g)) : OutG C W rel σ G H (fun b H1 => ∃ G1 a t1, Step th G H G1 H1 ∧ Wd th t1 G1 H1 ∧ rel G1 a b ∧ OutG C W rel' σ G1 H1 Q (g a t1)) r := by
  cases r with
  | ok a t => exact fun b G' H' s' w q => ⟨G', a, t, s', w, q, OutG.imp s' h fun _ _ z => z⟩
  | er c p t => exact h
  | bad => exact h
/-- the expression e computes f -/
abbrev PD (X : Cx) (C : Ct th) (W : WX) (e : Expr) (f : M th.T D) : Prop := PE X e (tD C W f)
abbrev PDs (X : Cx) (C : Ct th) (W : WX) (es : List Expr) (f : M th.T (List D)) : Prop := PA X es (tDs C W f)
abbrev PB (X : Cx) (C : Ct th) (W : WX) (e : Expr) (f : M th.T Bool) : Prop := PT X e (tB C W f)

/-! ### consequence -/
theorem PE.imp {X : Cx} {e : Expr} {t t' : TE} (h : PE X e t) (hi : ∀ σ H Q, t' σ H Q → t σ H Q) : PE X e t' := ⟨fun pins s σ H Q I w => h.run pins s σ H Q I (hi σ H Q w)⟩
theorem PT.imp {X : Cx} {e : Expr} {t t' : TT} (h : PT X e t) (hi : ∀ σ H Q, t' σ H Q → t σ H Q) : PT X e t' := ⟨fun pins s σ H Q I w => h.run pins s σ H Q I (hi σ H Q w)⟩
theorem PA.imp {X : Cx} {e : List Expr} {t t' : TA} (h : PA X e t) (hi : ∀ σ H Q, t' σ H Q → t σ H Q) : PA X e t' := ⟨fun pos pins s σ H Q I w => h.run pos pins s σ H Q I (hi σ H Q w)⟩
theorem PW.imp {X : Cx} {e : Expr} {t t' : TT} (h : PW X e t) (hi : ∀ σ H Q, t' σ H Q → t σ H Q) : PW X e t' := ⟨fun wh pins s σ H Q I w => h.run wh pins s σ H Q I (hi σ H Q w)⟩
theorem PS.imp {X : Cx} {e : Stmt} {t t' : TS} (h : PS X e t) (hi : ∀ D σ H, t' D σ H → t D σ H) : PS X e t' := ⟨fun pins s σ H D I w => h.run pins s σ H D I (hi D σ H w)⟩
theorem PSs.imp {X : Cx} {e : List Stmt} {t t' : TS} (h : PSs X e t) (hi : ∀ D σ H, t' D σ H → t D σ H) : PSs X e t' := ⟨fun pins s σ H D I w => h.run pins s σ H D I (hi D σ H w)⟩

/-! ### the mirrors' own words: expressions -/
section
variable {T : Type}
def eC (d : D) : M T D := fun _ t => .ok d t
def eV (i : Nat) : M T D := fun ρ t => match ρ[i]? with
  | some (.va d) => .ok d t
  | _ => .bad
/-- an operation by values -/
def lift1 (op : D → Option D) (a : D) (t : T) : Rs T D := match op a with
  | some d => .ok d t
  | none => .bad
def e1 (op : D → Option D) (f : M T D) : M T D := fun ρ t => bnd (f ρ t) fun a t => match op a with
  | some d => .ok d t
  | none => .bad
def e2 (op : D → D → Option D) (f g : M T D) : M T D := fun ρ t => bnd (f ρ t) fun a t => bnd (g ρ t) fun b t => match op a b with
  | some d => .ok d t
  | none => .bad
def aNil : M T (List D) := fun _ t => .ok [] t
def aCons (f : M T D) (g : M T (List D)) : M T (List D) := fun ρ t => bnd (f ρ t) fun a t => bnd (g ρ t) fun b t => .ok (a :: b) t
/-- a built-in's call by values -/
def eCB (op : List D → Option D) (f : M T (List D)) : M T D := fun ρ t => bnd (f ρ t) fun a t => match op a with
  | some d => .ok d t
  | none => .bad
def eTup (f : M T (List D)) : M T D := fun ρ t => bnd (f ρ t) fun a t => if a.length ≤ sizeLine then .ok (.tup a) t else .bad
def eLst (f : M T (List D)) : M T D := fun ρ t => bnd (f ρ t) fun a t => if a.length ≤ sizeLine then .ok (.lst a) t else .bad
/-- tests -/
def bVal (f : M T D) : M T Bool := fun ρ t => bnd (f ρ t) fun a t => match a with
  | .bl b => .ok b t
  | _ => .bad
def truD : D → Option Bool
  | .non => some false
  | .bl b => some b
  | .int i => some (i != 0)
  | .str y => if y.length ≤ sizeLine then some ((y.length : Int) != 0) else none
  | .tup ds => some (!ds.isEmpty)
  | .lst ds => some (!ds.isEmpty)
  | .fls ds => some (!ds.isEmpty)
  | _ => none
def bTru (f : M T D) : M T Bool := fun ρ t => bnd (f ρ t) fun a t => match truD a with
  | some b => .ok b t
  | none => .bad
def bAnd (f g : M T Bool) : M T Bool := fun ρ t => bnd (f ρ t) fun a t => if a then g ρ t else .ok false t
def bOr (f g : M T Bool) : M T Bool := fun ρ t => bnd (f ρ t) fun a t => if a then .ok true t else g ρ t
def bNot (f : M T Bool) : M T Bool := fun ρ t => bnd (f ρ t) fun a t => .ok (!a) t
/-- and, or, not as values (bools ahead) -/
def eAnd (f g : M T D) : M T D := fun ρ t => bnd (f ρ t) fun a t => match a with
  | .bl true => g ρ t
  | .bl false => .ok (.bl false) t
  | _ => .bad
def eOr (f g : M T D) : M T D := fun ρ t => bnd (f ρ t) fun a t => match a with
  | .bl true => .ok (.bl true) t
  | .bl false => g ρ t
  | _ => .bad
def eNot (f : M T D) : M T D := fun ρ t => bnd (f ρ t) fun a t => match a with
  | .bl b => .ok (.bl (!b)) t
  | _ => .bad
def eIf (c : M T Bool) (f g : M T D) : M T D := fun ρ t => bnd (c ρ t) fun a t => if a then f ρ t else g ρ t
/-- a call of a mirror: of the same theory, of the pure one -/
def eCall (F : List D → T → Rs T D) (f : M T (List D)) : M T D := fun ρ t => bnd (f ρ t) F
def unR {T : Type} (r : Rs Unit D) (t : T) : Rs T D := match r with
  | .ok a _ => .ok a t
  | .er c d _ => .er c d t
  | .bad => .bad
def eCallU (F : List D → Unit → Rs Unit D) (f : M T (List D)) : M T D := fun ρ t => bnd (f ρ t) fun ds t => unR (F ds ()) t
end

/-! ### rules: names, constants -/
section
variable {X : Cx} {C : Ct th} {W : WX} {pos : Pos}
/-- a value that is there -/
theorem out_ok {σ : St} {G H : Hp} {Q : VK} {d : D} {t : th.T} {v : V} (h : OutG C W (IsD C.Z) σ G H Q (.ok d t)) (w : Wd th t G H) (r : IsD C.Z G d v) : Q v H := h v G H .refl w r
theorem pd_v (i : Nat) {x : Str} (hN : X.N[i]? = some x := by rfl) (hv : Vis X.env.scope x := by first | exact Or.inl rfl | exact Or.inr (Or.inl rfl) | exact Or.inr (Or.inr rfl)) (hd : (x == ("__debug__" : Str)) = false := by decide)
    (hcd : (x == ("__classdict__" : Str)) = false := by decide) : PD X C W (.Name x pos) (eV i) := by
  refine PE.imp (pv i hN hv hd hcd) fun σ H Q h => ?_
  obtain ⟨ρ, G, t, w, e, o⟩ := h
  unfold eV at o
  split at o
  · rename_i d hd
    obtain ⟨v, h1, h2⟩ := e.va hd
    exact ⟨v, h1, out_ok o w h2⟩
  · exact o.elim
theorem pd_c {e : Expr} {v : V} {d : D} (h : PE X e (tC v)) (r : ∀ G, IsD C.Z G d v) : PD X C W e (eC d) := by
  refine PE.imp h fun σ H Q h => ?_
  obtain ⟨ρ, G, t, w, e, o⟩ := h
  exact out_ok o w (r G)
theorem pd_int {i : Int} {j : Nat} : PD X C W (.Constant (.int i) j pos) (eC (.int i)) := pd_c pe_int fun _ => .int i
theorem pd_bl {b : Bool} {j : Nat} : PD X C W (.Constant (.bool b) j pos) (eC (.bl b)) := pd_c pe_bl fun _ => .bl b
theorem pd_non {j : Nat} : PD X C W (.Constant .none j pos) (eC .non) := pd_c pe_non fun _ => .non
theorem pd_str {x : Str} {j : Nat} : PD X C W (.Constant (.str x) j pos) (eC (.str x)) := pd_c pe_str fun _ => .str x

/-! ### operations by values -/
/-- what an operation's reading r must give for the mirror's op -/
def Op2 (Z : Zn) (op : D → D → Option D) (r : R2) : Prop := ∀ (th : Th) (a b d : D) (x y : V) (G H : Hp) (t : th.T) (Q : VK), op a b = some d → IsD Z G a x → IsD Z G b y → Wd th t G H →
  (∀ v G' H', Step th G H G' H' → Wd th t G' H' → IsD Z G' d v → Q v H') → r x y H Q
theorem run2 {op : D → D → Option D} {r : R2} {f g : M th.T D} {σ : St} {H : Hp} {Q : VK} (hp : Op2 C.Z op r) (h : tD C W (e2 op f g) σ H Q) : tOp r (tD C W f) (tD C W g) σ H Q := by
  obtain ⟨ρ, G, t, w, e, o⟩ := h
  have o1 := OutG.bnd (rel := IsD C.Z) o
  refine ⟨ρ, G, t, w, e, OutG.imp .refl o1 fun x H1 hx => ?_⟩
  obtain ⟨G1, a, t1, s1, w1, r1, o2⟩ := hx
  have o3 := OutG.bnd (rel := IsD C.Z) o2
  refine ⟨ρ, G1, t1, w1, e.step s1, OutG.imp .refl o3 fun y H2 hy => ?_⟩
  obtain ⟨G2, b, t2, s2, w2, r2, o4⟩ := hy
  cases q : op a b with
  | none => rw [q] at o4; exact o4.elim
  | some d =>
    rw [q] at o4
    exact hp th a b d x y G2 H2 t2 Q q (r1.mono s2.sub) r2 w2 fun v G' H' s' w' r' => o4 v G' H' s' w' r'
theorem pd_op {o : Operator} {op : D → D → Option D} {r : R2} {a b : Expr} {f g : M th.T D} (ho : OpR X (binaryOp o) r) (hp : Op2 C.Z op r) (ha : PD X C W a f) (hb : PD X C W b g) : PD X C W (.BinOp a o b pos) (e2 op f g) :=
  PE.imp (pe_op ho ha hb) fun _ _ _ h => run2 hp h
theorem pd_cmp {o : CmpOp} {op : D → D → Option D} {r : R2} {a b : Expr} {f g : M th.T D} (ho : OpR X (compareOp o) r) (hp : Op2 C.Z op r) (ha : PD X C W a f) (hb : PD X C W b g)
    (hm : behindInMarks o b = false := by first | exact nobehind _ (by decide) (by decide) | rfl) : PD X C W (.Compare a [o] [b] pos) (e2 op f g) :=
  PE.imp (pe_cmpR ho ha hb hm) fun _ _ _ h => run2 hp h
/-- a bool's value as a test -/
theorem runV {f : M th.T D} {σ : St} {H : Hp} {Q : Bool → Hp → Prop} (h : tB C W (bVal f) σ H Q) : tD C W f σ H fun x H1 => ∃ c, x = .bl c ∧ Q c H1 := by
  obtain ⟨ρ, G, t, w, e, o⟩ := h
  have o1 := OutG.bnd (rel := IsD C.Z) o
  refine ⟨ρ, G, t, w, e, OutG.imp .refl o1 fun x H1 hx => ?_⟩
  obtain ⟨G1, a, t1, s1, w1, r1, o2⟩ := hx
  cases a with
  | bl b =>
    cases r1
    exact ⟨b, rfl, o2 b G1 H1 .refl w1 rfl⟩
  | _ => exact o2.elim
theorem pb_cmp {o : CmpOp} {op : D → D → Option D} {r : R2} {a b : Expr} {f g : M th.T D} (ho : OpR X (compareOp o) r) (hp : Op2 C.Z op r) (ha : PD X C W a f) (hb : PD X C W b g)
    (hm : behindInMarks o b = false := by first | exact nobehind _ (by decide) (by decide) | rfl) : PB X C W (.Compare a [o] [b] pos) (bVal (e2 op f g)) :=
  PT.imp (pt_cmpR ho ha hb hm) fun _ _ _ h => by
    obtain ⟨ρ, G, t, w, e, o⟩ := runV h
    exact run2 hp ⟨ρ, G, t, w, e, o⟩
end
end DW
set_option Elab.async false
set_option linter.all false
set_option maxRecDepth 100000
set_option maxHeartbeats 2000000
/-! DW2: data read off the heap: ==, repr. -/
namespace DW
open PySem PySem.Spec PyProof.Rows L2

mutual
def toPy : D → Option PyData
  | .non => some .none
  | .bl b => some (.bool b)
  | .int i => some (.int i)
  | .str x => some (.str x)
  | .tup ds => match toPys ds with
    | some ps => some (.tuple ps)
    | none => none
  | .lst ds => match toPys ds with
    | some ps => some (.list ps)
    | none => none
  | .fls ds => match toPys ds with
    | some ps => some (.list ps)
    | none => none
  | .dct ks => match toPyk ks with
    | some ps => some (.dict ps)
    | none => none
  | .exc _ _ => none
  | .ob _ => none
def toPys : List D → Option (List PyData)
  | [] => some []
  | d :: ds => match toPy d, toPys ds with
    | some p, some ps => some (p :: ps)
    | _, _ => none
def toPyk : List (Key × D) → Option (List (PyData × PyData))
  | [] => some []
  | (k, d) :: ds => match toPy d, toPyk ds with
    | some p, some ps => some ((keyP k, p) :: ps)
    | _, _ => none
def keyP : Key → PyData
  | .inl i => .int i
  | .inr x => .str x
end
theorem toPy_tup {ds : List D} {p : PyData} (h : toPy (.tup ds) = some p) : ∃ ps, toPys ds = some ps ∧ p = .tuple ps := by
  unfold toPy at h
  split at h
  · exact ⟨_, by assumption, (Option.some.inj h).symm⟩
  · cases h
theorem toPy_lst {ds : List D} {p : PyData} (h : toPy (.lst ds) = some p) : ∃ ps, toPys ds = some ps ∧ p = .list ps := by
  unfold toPy at h
  split at h
  · exact ⟨_, by assumption, (Option.some.inj h).symm⟩
  · cases h
theorem toPy_fls {ds : List D} {p : PyData} (h : toPy (.fls ds) = some p) : ∃ ps, toPys ds = some ps ∧ p = .list ps := by
  unfold toPy at h
  split at h
  · exact ⟨_, by assumption, (Option.some.inj h).symm⟩
  · cases h
theorem toPy_dct {ds : List (Key × D)} {p : PyData} (h : toPy (.dct ds) = some p) : ∃ ps, toPyk ds = some ps ∧ p = .dict ps := by
  unfold toPy at h
  split at h
  · exact ⟨_, by assumption, (Option.some.inj h).symm⟩
  · cases h
theorem toPys_cons {d : D} {ds : List D} {ps : List PyData} (h : toPys (d :: ds) = some ps) : ∃ p qs, toPy d = some p ∧ toPys ds = some qs ∧ ps = p :: qs := by
  unfold toPys at h
  split at h
  · exact ⟨_, _, by assumption, by assumption, (Option.some.inj h).symm⟩
  · cases h
theorem toPyk_cons {k : Key} {d : D} {ds : List (Key × D)} {ps : List (PyData × PyData)} (h : toPyk ((k, d) :: ds) = some ps) : ∃ p qs, toPy d = some p ∧ toPyk ds = some qs ∧ ps = (keyP k, p) :: qs := by
  unfold toPyk at h
  split at h
  · exact ⟨_, _, by assumption, by assumption, (Option.some.inj h).symm⟩
  · cases h

section
variable {X : Cx} {Z : Zn} {pins : List (Addr × Obj)} {σ : L2.St} {G H : Hp} {s : Shared}
theorem reads_key {k : Key} {u : Value} {h : Heap} (r : keyIs k u = true) : ∃ as, Reads h u (keyP k) as := by
  rcases keyIs_shape r with ⟨i, t, rfl, rfl⟩ | ⟨x, t, rfl, rfl⟩
  · exact ⟨_, .int i t⟩
  · exact ⟨_, .str x t⟩
mutual
theorem IsD.reads (I : Inv X pins σ H s) (hz : Z.K = X.K) (sb : Same G H) : ∀ (d : D) (v : V) (u : Value) (p : PyData), toPy d = some p → IsD Z G d v → RelV v u → ∃ as, Reads s.heap u p as
  | .non, _, _, _, e, h, r => by
    cases h; cases r; simp only [toPy, Option.some.injEq] at e; subst e; exact ⟨_, .none⟩
  | .bl b, _, _, _, e, h, r => by
    cases h; cases r; simp only [toPy, Option.some.injEq] at e; subst e; exact ⟨_, .bool b⟩
  | .int i, _, _, _, e, h, r => by
    cases h; obtain ⟨t, rfl⟩ := r; simp only [toPy, Option.some.injEq] at e; subst e; exact ⟨_, .int i t⟩
  | .str x, _, _, _, e, h, r => by
    cases h; obtain ⟨t, rfl⟩ := r; simp only [toPy, Option.some.injEq] at e; subst e; exact ⟨_, .str x t⟩
  | .tup ds, _, _, _, e, h, r => by
    obtain ⟨ps, e1, rfl⟩ := toPy_tup e
    cases h with
    | tup hs ha =>
      cases r
      rw [hz] at hs
      obtain ⟨its, rv, ⟨o, ho, hc, n, hd⟩, _⟩ := I.tuple (sqT_mono sb hs)
      obtain ⟨as, hr⟩ := IsDs.reads I hz sb ds _ its ps e1 ha rv
      exact ⟨_, .tuple ho hc hd hr⟩
  | .lst ds, _, _, _, e, h, r => by
    obtain ⟨ps, e1, rfl⟩ := toPy_lst e
    cases h with
    | lst hs ha =>
      cases r
      obtain ⟨its, rv, ⟨o, n, ho, hc, _, hd⟩, _⟩ := I.list (SqL.of (sb _ _ hs))
      obtain ⟨as, hr⟩ := IsDs.reads I hz sb ds _ its ps e1 ha rv
      exact ⟨_, .list ho hc hd hr⟩
  | .fls ds, _, _, _, e, h, r => by
    obtain ⟨ps, e1, rfl⟩ := toPy_fls e
    cases h with
    | fls hs ha =>
      cases r
      obtain ⟨its, rv, ⟨o, n, ho, hc, _, hd⟩, _⟩ := I.list (hz ▸ sb.seq hs)
      obtain ⟨as, hr⟩ := IsDs.reads I hz sb ds _ its ps e1 ha rv
      exact ⟨_, .list ho hc hd hr⟩
  | .dct ks, _, _, _, e, h, r => by
    obtain ⟨ps, e1, rfl⟩ := toPy_dct e
    cases h with
    | dct hs ha =>
      cases r
      obtain ⟨_, _, vs, rv, o, es, ep, ho, hc, hd, _, hp, _⟩ := dk_of I.hok (sb _ _ hs)
      obtain ⟨k1, k2⟩ := IsKs.reads I hz sb ks _ es.toList vs ps e1 ha rv hp
      obtain ⟨as, r1⟩ := k1
      obtain ⟨bs, r2⟩ := k2
      exact ⟨_, .dict ho hc.1 hd r1 r2⟩
  | .exc _ _, _, _, _, e, _, _ => by simp only [toPy] at e; cases e
  | .ob _, _, _, _, e, _, _ => by simp only [toPy] at e; cases e
theorem IsDs.reads (I : Inv X pins σ H s) (hz : Z.K = X.K) (sb : Same G H) : ∀ (ds : List D) (vs : List V) (us : List Value) (ps : List PyData), toPys ds = some ps → IsDs Z G ds vs → Vals vs us → ∃ as, ReadsAll s.heap us ps as
  | [], _, _, _, e, h, r => by
    cases h; cases r; simp only [toPys, Option.some.injEq] at e; subst e; exact ⟨_, .nil⟩
  | d :: ds, _, _, _, e, h, r => by
    obtain ⟨p, qs, e1, e2, rfl⟩ := toPys_cons e
    cases h with
    | cons h1 h2 =>
      cases r with
      | cons r1 r2 =>
        obtain ⟨as, q1⟩ := IsD.reads I hz sb d _ _ p e1 h1 r1
        obtain ⟨bs, q2⟩ := IsDs.reads I hz sb ds _ _ qs e2 h2 r2
        exact ⟨_, .cons q1 q2⟩
theorem IsKs.reads (I : Inv X pins σ H s) (hz : Z.K = X.K) (sb : Same G H) : ∀ (ds : List (Key × D)) (vs : List (Key × V)) (es : List DictEntry) (us : List (Key × Value)) (ps : List (PyData × PyData)), toPyk ds = some ps → IsKs Z G ds vs → KV vs us → Pairs (mixKind X.prog X.w) es us →
    (∃ as, ReadsAll s.heap (es.map (·.key)) (ps.map (·.1)) as) ∧ ∃ as, ReadsAll s.heap (es.map (·.val)) (ps.map (·.2)) as
  | [], _, es, _, _, e, h, r, hp => by
    cases h; cases r; simp only [toPyk, Option.some.injEq] at e; subst e
    have := hp.length
    cases es with
    | nil => exact ⟨⟨_, .nil⟩, _, .nil⟩
    | cons _ _ => simp at this
  | (k, d) :: ds, _, es, _, _, e, h, r, hp => by
    obtain ⟨p, qs, e1, e2, rfl⟩ := toPyk_cons e
    cases h with
    | cons h1 h2 =>
      cases r with
      | @cons _ kv _ rest r1 r2 =>
        obtain ⟨k', u⟩ := kv
        obtain ⟨ek, ru⟩ := r1
        have ek' : k = k' := ek
        subst ek'
        cases es with
        | nil => have := hp.length; simp at this
        | cons en es =>
          cases hp with
          | cons hk hv b =>
            obtain ⟨as, q1⟩ := IsD.reads I hz sb d _ u p e1 h1 ru
            obtain ⟨⟨bs, q2⟩, cs, q3⟩ := IsKs.reads I hz sb ds _ es _ qs e2 h2 r2 b
            obtain ⟨ks, q0⟩ := reads_key (h := s.heap) (show keyIs k en.key = true from hk)
            have hv' : en.val = u := hv
            refine ⟨⟨ks ++ bs, ReadsAll.cons q0 q2⟩, as ++ cs, ?_⟩
            show ReadsAll s.heap (en.val :: es.map (·.val)) (p :: qs.map (·.2)) (as ++ cs)
            rw [hv']
            exact ReadsAll.cons q1 q3
end
end
end DW
set_option Elab.async false
set_option linter.all false
set_option maxRecDepth 100000
set_option maxHeartbeats 2000000
/-! DW3: == and != of data. -/
namespace DW
open PySem PySem.Spec PyProof.Rows L2

mutual
/-- the same data, sign for sign -/
def sameD : D → D → Bool
  | .non, .non => true
  | .bl a, .bl b => a == b
  | .int a, .int b => a == b
  | .str a, .str b => decide (a = b)
  | .tup a, .tup b => sameDs a b
  | .lst a, .lst b => sameDs a b
  | .fls a, .fls b => sameDs a b
  | .dct a, .dct b => sameKs a b
  | _, _ => false
def sameDs : List D → List D → Bool
  | [], [] => true
  | a :: as, b :: bs => sameD a b && sameDs as bs
  | _, _ => false
def sameKs : List (Key × D) → List (Key × D) → Bool
  | [], [] => true
  | (k, a) :: as, (j, b) :: bs => decide (k = j) && (sameD a b && sameKs as bs)
  | _, _ => false
end
mutual
theorem sameD_eq : ∀ {a b : D}, sameD a b = true → a = b
  | .non, b, h => by cases b <;> simp_all [sameD]
  | .bl x, b, h => by cases b <;> simp_all [sameD]
  | .int x, b, h => by cases b <;> simp_all [sameD]
  | .str x, b, h => by cases b <;> simp_all [sameD]
  | .tup xs, b, h => by cases b <;> first | (simp only [sameD] at h; rw [sameDs_eq h]) | simp [sameD] at h
  | .lst xs, b, h => by cases b <;> first | (simp only [sameD] at h; rw [sameDs_eq h]) | simp [sameD] at h
  | .fls xs, b, h => by cases b <;> first | (simp only [sameD] at h; rw [sameDs_eq h]) | simp [sameD] at h
  | .dct xs, b, h => by cases b <;> first | (simp only [sameD] at h; rw [sameKs_eq h]) | simp [sameD] at h
  | .exc _ _, b, h => by cases b <;> simp [sameD] at h
  | .ob _, b, h => by cases b <;> simp [sameD] at h
theorem sameDs_eq : ∀ {a b : List D}, sameDs a b = true → a = b
  | [], b, h => by cases b <;> simp_all [sameDs]
  | x :: xs, b, h => by
    cases b with
    | nil => simp [sameDs] at h
    | cons y ys =>
      simp only [sameDs, Bool.and_eq_true] at h
      rw [sameD_eq h.1, sameDs_eq h.2]
theorem sameKs_eq : ∀ {a b : List (Key × D)}, sameKs a b = true → a = b
  | [], b, h => by cases b <;> simp_all [sameKs]
  | (k, x) :: xs, b, h => by
    cases b with
    | nil => simp [sameKs] at h
    | cons y ys =>
      obtain ⟨j, y⟩ := y
      simp only [sameKs, Bool.and_eq_true, decide_eq_true_eq] at h
      rw [h.1, sameD_eq h.2.1, sameKs_eq h.2.2]
end
mutual
/-- how deep; dicts have each key once -/
def dpt : D → Nat
  | .tup ds => dpts ds + 1
  | .lst ds => dpts ds + 1
  | .fls ds => dpts ds + 1
  | .dct ks => dptk ks + 1
  | _ => 0
def dpts : List D → Nat
  | [] => 0
  | d :: ds => max (dpt d) (dpts ds)
def dptk : List (Key × D) → Nat
  | [] => 0
  | (_, d) :: ds => max (dpt d) (dptk ds)
end
mutual
def okD : D → Bool
  | .tup ds => okDs ds
  | .lst ds => okDs ds
  | .fls ds => okDs ds
  | .dct ks => okKs ks
  | .exc _ _ => false
  | .ob _ => false
  | _ => true
def okDs : List D → Bool
  | [] => true
  | d :: ds => okD d && okDs ds
def okKs : List (Key × D) → Bool
  | [] => true
  | (k, d) :: ds => (ds.all fun p => decide (p.1 ≠ k)) && (okD d && okKs ds)
end
mutual
theorem sameD_refl : ∀ (a : D), okD a = true → sameD a a = true
  | .non, _ => rfl
  | .bl x, _ => by simp [sameD]
  | .int x, _ => by simp [sameD]
  | .str x, _ => by simp [sameD]
  | .tup xs, h => by simp only [sameD]; exact sameDs_refl xs (by simpa [okD] using h)
  | .lst xs, h => by simp only [sameD]; exact sameDs_refl xs (by simpa [okD] using h)
  | .fls xs, h => by simp only [sameD]; exact sameDs_refl xs (by simpa [okD] using h)
  | .dct xs, h => by simp only [sameD]; exact sameKs_refl xs (by simpa [okD] using h)
  | .exc _ _, h => by simp [okD] at h
  | .ob _, h => by simp [okD] at h
theorem sameDs_refl : ∀ (a : List D), okDs a = true → sameDs a a = true
  | [], _ => rfl
  | x :: xs, h => by
    simp only [okDs, Bool.and_eq_true] at h
    simp only [sameDs, sameD_refl x h.1, sameDs_refl xs h.2, Bool.and_self]
theorem sameKs_refl : ∀ (a : List (Key × D)), okKs a = true → sameKs a a = true
  | [], _ => rfl
  | (k, x) :: xs, h => by
    simp only [okKs, Bool.and_eq_true] at h
    simp only [sameKs, sameD_refl x h.2.1, sameKs_refl xs h.2.2, Bool.and_self, decide_true]
end

/-! ### the same data: == says True -/
section
variable {X : Cx} {Z : Zn} {pins : List (Addr × Obj)} {σ : L2.St} {G H : Hp} {s : Shared}
open PySem.W (EqTree)
theorem range_all_true (n : Nat) : ((List.range n).all fun _ => true) = true := List.all_eq_true.mpr fun _ _ => rfl
theorem valueAt_head {k : Key} {v : Value} {r : List (Key × Value)} : valueAt ((k, v) :: r) k = some v := by simp [valueAt]
theorem valueAt_tail {k j : Key} {v : Value} {r : List (Key × Value)} (h : k ≠ j) : valueAt ((k, v) :: r) j = valueAt r j := by simp [valueAt, List.find?_cons, h]
theorem kv_ks {ks : List (Key × D)} : ∀ {kvs : List (Key × V)} {us : List (Key × Value)}, IsKs Z G ks kvs → KV kvs us → us.map (·.1) = ks.map (·.1) := by
  induction ks with
  | nil => intro kvs us h r; cases h; cases r; rfl
  | cons p ks ih =>
    intro kvs us h r
    obtain ⟨k, d⟩ := p
    cases h with
    | cons h1 h2 =>
      cases r with
      | @cons _ kv _ rest r1 r2 =>
        have := ih h2 r2
        obtain ⟨e, _⟩ := r1
        simp only [List.map_cons, this]
        rw [← show k = kv.1 from e]
mutual
theorem eqT (I : Inv X pins σ H s) (hz : Z.K = X.K) (sb : Same G H) : ∀ (d : D) (n : Nat), dpt d ≤ n → okD d = true → ∀ (x y : V) (u v : Value), IsD Z G d x → IsD Z G d y → RelV x u → RelV y v → EqTree X.prog X.w s n u v true
  | .non, n, _, _, _, _, _, _, h1, h2, r1, r2 => by cases h1; cases h2; exact .leaf fun A _ => eqAt_same r1 r2 rfl
  | .bl _, n, _, _, _, _, _, _, h1, h2, r1, r2 => by cases h1; cases h2; exact .leaf fun A _ => eqAt_same r1 r2 rfl
  | .int _, n, _, _, _, _, _, _, h1, h2, r1, r2 => by cases h1; cases h2; exact .leaf fun A _ => eqAt_same r1 r2 rfl
  | .str _, n, _, _, _, _, _, _, h1, h2, r1, r2 => by cases h1; cases h2; exact .leaf fun A _ => eqAt_same r1 r2 rfl
  | .tup ds, 0, hn, _, _, _, _, _, _, _, _, _ => by simp [dpt] at hn
  | .lst ds, 0, hn, _, _, _, _, _, _, _, _, _ => by simp [dpt] at hn
  | .dct ds, 0, hn, _, _, _, _, _, _, _, _, _ => by simp [dpt] at hn
  | .fls ds, 0, hn, _, _, _, _, _, _, _, _, _ => by simp [dpt] at hn
  | .tup ds, n + 1, hn, ho, _, _, _, _, h1, h2, r1, r2 => by
    cases h1 with
    | @tup a xs _ ha hA =>
      cases h2 with
      | @tup b ys _ hb hB =>
        cases r1; cases r2
        by_cases e : a = b
        · subst e; exact .same
        rw [hz] at ha hb
        obtain ⟨us, v1, ⟨o1, g1, c1, n1, d1⟩, _⟩ := I.tuple (sqT_mono sb ha)
        obtain ⟨ws, v2, ⟨o2, g2, c2, n2, d2⟩, _⟩ := I.tuple (sqT_mono sb hb)
        have l1 := v1.length
        have l2 := v2.length
        have l3 := hA.length
        have l4 := hB.length
        have it := eqTs I hz sb ds n (by simp only [dpt] at hn; omega) (by simpa [okD] using ho) xs ys us ws hA hB v1 v2
        have q := EqTree.tuples (prog := X.prog) (w := X.w) (n := n) (e := fun _ => true) e ⟨o1, g1, c1, n1, d1⟩ ⟨o2, g2, c2, n2, d2⟩ fun j h1 h2 => by simpa using it j (by simpa using h1) (by simpa using h2)
        have e2 : ((List.range (min us.toArray.size ws.toArray.size)).all (fun _ => true) && us.toArray.size == ws.toArray.size) = true := by
          rw [range_all_true, Bool.true_and, beq_iff_eq, List.size_toArray, List.size_toArray]; omega
        rw [e2] at q
        exact q
  | .lst ds, n + 1, hn, ho, _, _, _, _, h1, h2, r1, r2 => by
    cases h1 with
    | @lst a xs _ ha hA =>
      cases h2 with
      | @lst b ys _ hb hB =>
        cases r1; cases r2
        by_cases e : a = b
        · subst e; exact .same
        obtain ⟨us, v1, p1, _⟩ := I.list (SqL.of (sb _ _ ha))
        obtain ⟨ws, v2, p2, _⟩ := I.list (SqL.of (sb _ _ hb))
        have l1 := v1.length
        have l2 := v2.length
        have l3 := hA.length
        have l4 := hB.length
        have it := eqTs I hz sb ds n (by simp only [dpt] at hn; omega) (by simpa [okD] using ho) xs ys us ws hA hB v1 v2
        have q := EqTree.lists (prog := X.prog) (w := X.w) (n := n) (e := fun _ => true) e p1.isList p2.isList (by rw [List.size_toArray, List.size_toArray]; omega) fun j h1 h2 => by simpa using it j (by simpa using h1) (by simpa using h2)
        rw [range_all_true] at q
        exact q
  | .fls ds, n + 1, hn, ho, _, _, _, _, h1, h2, r1, r2 => by
    cases h1 with
    | @fls a xs _ ha hA =>
      cases h2 with
      | @fls b ys _ hb hB =>
        cases r1; cases r2
        by_cases e : a = b
        · subst e; exact .same
        obtain ⟨us, v1, p1, _⟩ := I.list (hz ▸ sb.seq ha)
        obtain ⟨ws, v2, p2, _⟩ := I.list (hz ▸ sb.seq hb)
        have l1 := v1.length
        have l2 := v2.length
        have l3 := hA.length
        have l4 := hB.length
        have it := eqTs I hz sb ds n (by simp only [dpt] at hn; omega) (by simpa [okD] using ho) xs ys us ws hA hB v1 v2
        have q := EqTree.lists (prog := X.prog) (w := X.w) (n := n) (e := fun _ => true) e p1.isList p2.isList (by rw [List.size_toArray, List.size_toArray]; omega) fun j h1 h2 => by simpa using it j (by simpa using h1) (by simpa using h2)
        rw [range_all_true] at q
        exact q
  | .dct ds, n + 1, hn, ho, _, _, _, _, h1, h2, r1, r2 => by
    cases h1 with
    | @dct a ka _ ha hA =>
      cases h2 with
      | @dct b kb _ hb hB =>
        cases r1; cases r2
        by_cases e : a = b
        · subst e; exact .same
        obtain ⟨_, m1, us, v1, d1⟩ := dk_of I.hok (sb _ _ ha)
        obtain ⟨_, m2, ws, v2, d2⟩ := dk_of I.hok (sb _ _ hb)
        have k1 := kv_ks hA v1
        have k2 := kv_ks hB v2
        have hl : us.length = ws.length := by
          have := congrArg List.length (k1.trans k2.symm)
          simpa using this
        have it := eqTk I hz sb ds n (by simp only [dpt] at hn; omega) (by simpa [okD] using ho) ka kb us ws hA hB v1 v2
        have q := EqTree.dicts (prog := X.prog) (w := X.w) (n := n) (e := fun _ => true) e m1 m2 d1 d2 fun k v y hm hv => (it k v hm).elim fun y' ⟨z1, z2⟩ => by
          rw [z1] at hv; cases hv; exact z2
        have e2 : (us.length == ws.length && us.all fun p => (valueAt ws p.1).isSome && true) = true := by
          rw [Bool.and_eq_true, beq_iff_eq, List.all_eq_true]
          refine ⟨hl, fun p hp => ?_⟩
          obtain ⟨k, v⟩ := p
          obtain ⟨y, z1, _⟩ := it k v hp
          rw [z1]; rfl
        rw [e2] at q
        exact q
  | .exc _ _, _, _, h, _, _, _, _, _, _, _, _ => by simp [okD] at h
  | .ob _, _, _, h, _, _, _, _, _, _, _, _ => by simp [okD] at h
theorem eqTs (I : Inv X pins σ H s) (hz : Z.K = X.K) (sb : Same G H) : ∀ (ds : List D) (n : Nat), dpts ds ≤ n → okDs ds = true → ∀ (xs ys : List V) (us vs : List Value), IsDs Z G ds xs → IsDs Z G ds ys → Vals xs us → Vals ys vs → ∀ j (h1 : j < us.length) (h2 : j < vs.length), EqTree X.prog X.w s n us[j] vs[j] true
  | [], _, _, _, _, _, _, _, h1, h2, r1, r2 => by
    cases h1; cases r1
    intro j h; exact absurd h (Nat.not_lt_zero j)
  | d :: ds, n, hn, ho, _, _, _, _, h1, h2, r1, r2 => by
    simp only [dpts] at hn
    simp only [okDs, Bool.and_eq_true] at ho
    cases h1 with
    | cons a1 b1 =>
      cases h2 with
      | cons a2 b2 =>
        cases r1 with
        | cons p1 q1 =>
          cases r2 with
          | cons p2 q2 =>
            intro j h1 h2
            cases j with
            | zero => exact eqT I hz sb d n (by omega) ho.1 _ _ _ _ a1 a2 p1 p2
            | succ j => exact eqTs I hz sb ds n (by omega) ho.2 _ _ _ _ b1 b2 q1 q2 j (Nat.lt_of_succ_lt_succ h1) (Nat.lt_of_succ_lt_succ h2)
theorem eqTk (I : Inv X pins σ H s) (hz : Z.K = X.K) (sb : Same G H) : ∀ (ds : List (Key × D)) (n : Nat), dptk ds ≤ n → okKs ds = true → ∀ (xs ys : List (Key × V)) (us vs : List (Key × Value)), IsKs Z G ds xs → IsKs Z G ds ys → KV xs us → KV ys vs →
    ∀ k v, (k, v) ∈ us → ∃ y, valueAt vs k = some y ∧ EqTree X.prog X.w s n v y true
  | [], _, _, _, _, _, _, _, h1, h2, r1, r2 => by
    cases h1; cases r1
    intro k v hm; exact absurd hm List.not_mem_nil
  | (k0, d) :: ds, n, hn, ho, _, _, _, _, h1, h2, r1, r2 => by
    simp only [dptk] at hn
    simp only [okKs, Bool.and_eq_true, List.all_eq_true, decide_eq_true_eq] at ho
    cases h1 with
    | cons a1 b1 =>
      cases h2 with
      | cons a2 b2 =>
        cases r1 with
        | @cons _ kv1 _ us r1 q1 =>
          cases r2 with
          | @cons _ kv2 _ vs r2 q2 =>
            obtain ⟨k1, u1⟩ := kv1
            obtain ⟨k2, u2⟩ := kv2
            obtain ⟨e1, p1⟩ := r1
            obtain ⟨e2, p2⟩ := r2
            have e1' : k0 = k1 := e1
            have e2' : k0 = k2 := e2
            subst e1'; subst e2'
            intro k v hm
            rcases List.mem_cons.mp hm with e | hm
            · cases e
              exact ⟨u2, valueAt_head, eqT I hz sb d n (by omega) ho.2.1 _ _ _ _ a1 a2 p1 p2⟩
            · obtain ⟨y, z1, z2⟩ := eqTk I hz sb ds n (by omega) ho.2.2 _ _ _ _ b1 b2 q1 q2 k v hm
              refine ⟨y, (valueAt_tail ?_).trans z1, z2⟩
              have km := kv_ks b1 q1
              have : k ∈ ds.map (·.1) := by rw [← km]; exact List.mem_map.mpr ⟨(k, v), hm, rfl⟩
              obtain ⟨p, hp, ep⟩ := List.mem_map.mp this
              exact fun z => ho.1 p hp (ep.trans z.symm)
end
end

/-- == of data -/
def plainPy (p q : PyData) : Bool := p.plain && (q.plain && decide (min p.depth q.depth ≤ 100))
def eqB (a b : D) : Option Bool := match toPy a, toPy b with
  | some p, some q => if plainPy p q = true then some (PyData.eqv p q) else if sameD a b = true ∧ okD a = true ∧ dpt a ≤ 100 then some true else none
  | _, _ => none
mutual
theorem toPy_ok : ∀ (d : D), okD d = true → ∃ p, toPy d = some p
  | .non, _ => ⟨_, rfl⟩
  | .bl _, _ => ⟨_, rfl⟩
  | .int _, _ => ⟨_, rfl⟩
  | .str _, _ => ⟨_, rfl⟩
  | .tup ds, h => by
    obtain ⟨ps, e⟩ := toPys_ok ds (by simpa [okD] using h)
    exact ⟨_, by simp only [toPy, e]; rfl⟩
  | .lst ds, h => by
    obtain ⟨ps, e⟩ := toPys_ok ds (by simpa [okD] using h)
    exact ⟨_, by simp only [toPy, e]; rfl⟩
  | .fls ds, h => by
    obtain ⟨ps, e⟩ := toPys_ok ds (by simpa [okD] using h)
    exact ⟨_, by simp only [toPy, e]; rfl⟩
  | .dct ds, h => by
    obtain ⟨ps, e⟩ := toPyk_ok ds (by simpa [okD] using h)
    exact ⟨_, by simp only [toPy, e]; rfl⟩
  | .exc _ _, h => by simp [okD] at h
  | .ob _, h => by simp [okD] at h
theorem toPys_ok : ∀ (ds : List D), okDs ds = true → ∃ ps, toPys ds = some ps
  | [], _ => ⟨_, rfl⟩
  | d :: ds, h => by
    simp only [okDs, Bool.and_eq_true] at h
    obtain ⟨p, e⟩ := toPy_ok d h.1
    obtain ⟨ps, e2⟩ := toPys_ok ds h.2
    exact ⟨_, by simp only [toPys, e, e2]; rfl⟩
theorem toPyk_ok : ∀ (ds : List (Key × D)), okKs ds = true → ∃ ps, toPyk ds = some ps
  | [], _ => ⟨_, rfl⟩
  | (k, d) :: ds, h => by
    simp only [okKs, Bool.and_eq_true] at h
    obtain ⟨p, e⟩ := toPy_ok d h.2.1
    obtain ⟨ps, e2⟩ := toPyk_ok ds h.2.2
    exact ⟨_, by simp only [toPyk, e, e2]; rfl⟩
end
theorem eqB_same {a : D} (h1 : okD a = true) (h2 : dpt a ≤ 100) : eqB a a = some true := by
  obtain ⟨p, e⟩ := toPy_ok a h1
  unfold eqB
  rw [e]
  simp only
  split
  · rename_i h
    simp only [plainPy, Bool.and_eq_true] at h
    rw [SeqAt.eqv_refl_plain p h.1]
  · rw [if_pos ⟨sameD_refl a h1, h1, h2⟩]
def eqD (a b : D) : Option D := (eqB a b).map .bl
def neD (a b : D) : Option D := match toPy a, toPy b with
  | some p, some q => if plainPy p q = true then some (.bl (!PyData.eqv p q)) else none
  | _, _ => none
section
variable {X : Cx} {Z : Zn}
def rD2 (Z : Zn) (op : D → D → Option D) : R2 := fun x y H Q => ∃ G a b d, Same G H ∧ IsD Z G a x ∧ IsD Z G b y ∧ op a b = some d ∧ ∃ v, IsD Z G d v ∧ Q v H
theorem op2_D {op : D → D → Option D} (h : ∀ a b d, op a b = some d → ∃ v, ∀ G, IsD Z G d v) : Op2 Z op (rD2 Z op) := fun th a b d x y G H t Q e r1 r2 w q =>
  let ⟨v, hv⟩ := h a b d e
  ⟨G, a, b, d, w.sub, r1, r2, e, v, hv G, q v G H .refl w (hv G)⟩
theorem op_eqDD (hz : Z.K = X.K) (hu : X.A.units + 102 < cLine) : OpR X (compareOp .Eq) (rD2 Z eqD) := by
  intro pins s σ H x y v u Q I rx ry h
  obtain ⟨G, a, b, d, sb, ha, hb, e, w, hw, q⟩ := h
  unfold eqD eqB at e
  split at e
  · rename_i p1 p2 e1 e2
    obtain ⟨as, q1⟩ := IsD.reads I hz sb a x v p1 e1 ha rx
    obtain ⟨bs, q2⟩ := IsD.reads I hz sb b y u p2 e2 hb ry
    split at e
    · rename_i c
      simp only [plainPy, Bool.and_eq_true, decide_eq_true_eq] at c
      cases e
      cases hw
      exact SeqAt.eq_plain q1 q2 c.1 c.2.1 (by omega) ⟨.bl _, H, I, rfl, q⟩
    · rename_i nc
      split at e
      · rename_i c
        obtain ⟨c1, c2, c3⟩ := c
        cases e
        cases hw
        obtain rfl := sameD_eq c1
        cases a with
        | tup ds =>
          cases ha with
          | @tup a xs _ ha hA =>
            cases hb with
            | @tup b ys _ hb hB =>
              cases rx; cases ry
              rw [hz] at ha hb
              obtain ⟨us, v1, ⟨o1, g1, k1, n1, d1⟩, _⟩ := I.tuple (sqT_mono sb ha)
              obtain ⟨ws, v2, ⟨o2, g2, k2, n2, d2⟩, _⟩ := I.tuple (sqT_mono sb hb)
              have l1 := v1.length
              have l2 := v2.length
              have l3 := hA.length
              have l4 := hB.length
              have it := eqTs I hz sb ds 100 (by simp only [dpt] at c3; omega) (by simpa [okD] using c2) xs ys us ws hA hB v1 v2
              refine PySem.W.eq_tuplesT (n := 100) (e := fun _ => true) ⟨o1, g1, k1, n1, d1⟩ ⟨o2, g2, k2, n2, d2⟩ (fun j h1 h2 => by simpa using it j (by simpa using h1) (by simpa using h2)) (by omega) ?_
              have e2 : ((List.range (min us.toArray.size ws.toArray.size)).all (fun _ => true) && us.toArray.size == ws.toArray.size) = true := by
                rw [range_all_true, Bool.true_and, beq_iff_eq, List.size_toArray, List.size_toArray]; omega
              rw [e2]
              exact ⟨.bl true, H, I, rfl, q⟩
        | lst ds =>
          cases ha with
          | @lst a xs _ ha hA =>
            cases hb with
            | @lst b ys _ hb hB =>
              cases rx; cases ry
              obtain ⟨us, v1, p1, _⟩ := I.list (SqL.of (sb _ _ ha))
              obtain ⟨ws, v2, p2, _⟩ := I.list (SqL.of (sb _ _ hb))
              have l1 := v1.length
              have l2 := v2.length
              have l3 := hA.length
              have l4 := hB.length
              have it := eqTs I hz sb ds 100 (by simp only [dpt] at c3; omega) (by simpa [okD] using c2) xs ys us ws hA hB v1 v2
              refine PySem.W.eq_listsT (n := 100) (e := fun _ => true) p1.isList p2.isList (by rw [List.size_toArray, List.size_toArray]; omega) (fun j h1 h2 => by simpa using it j (by simpa using h1) (by simpa using h2)) (by omega) ?_
              rw [range_all_true]
              exact ⟨.bl true, H, I, rfl, q⟩
        | fls ds =>
          cases ha with
          | @fls a xs _ ha hA =>
            cases hb with
            | @fls b ys _ hb hB =>
              cases rx; cases ry
              obtain ⟨us, v1, p1, _⟩ := I.list (hz ▸ sb.seq ha)
              obtain ⟨ws, v2, p2, _⟩ := I.list (hz ▸ sb.seq hb)
              have l1 := v1.length
              have l2 := v2.length
              have l3 := hA.length
              have l4 := hB.length
              have it := eqTs I hz sb ds 100 (by simp only [dpt] at c3; omega) (by simpa [okD] using c2) xs ys us ws hA hB v1 v2
              refine PySem.W.eq_listsT (n := 100) (e := fun _ => true) p1.isList p2.isList (by rw [List.size_toArray, List.size_toArray]; omega) (fun j h1 h2 => by simpa using it j (by simpa using h1) (by simpa using h2)) (by omega) ?_
              rw [range_all_true]
              exact ⟨.bl true, H, I, rfl, q⟩
        | dct ds =>
          cases ha with
          | @dct a ka _ ha hA =>
            cases hb with
            | @dct b kb _ hb hB =>
              cases rx; cases ry
              obtain ⟨_, m1, us, v1, d1⟩ := dk_of I.hok (sb _ _ ha)
              obtain ⟨_, m2, ws, v2, d2⟩ := dk_of I.hok (sb _ _ hb)
              have k1 := kv_ks hA v1
              have k2 := kv_ks hB v2
              have hl : us.length = ws.length := by
                have := congrArg List.length (k1.trans k2.symm)
                simpa using this
              have it := eqTk I hz sb ds 100 (by simp only [dpt] at c3; omega) (by simpa [okD] using c2) ka kb us ws hA hB v1 v2
              refine PySem.W.eq_dictsT (n := 100) (e := fun _ => true) m1 m2 d1 d2 (fun k v y hm hv => (it k v hm).elim fun y' ⟨z1, z2⟩ => by
                rw [z1] at hv; cases hv; exact z2) (by omega) ?_
              have e2 : (us.length == ws.length && us.all fun p => (valueAt ws p.1).isSome && true) = true := by
                rw [Bool.and_eq_true, beq_iff_eq, List.all_eq_true]
                refine ⟨hl, fun p hp => ?_⟩
                obtain ⟨k, v⟩ := p
                obtain ⟨y, z1, _⟩ := it k v hp
                rw [z1]; rfl
              rw [e2]
              exact ⟨.bl true, H, I, rfl, q⟩
        | non => cases e1; cases e2; exact absurd (by rfl) nc
        | bl _ => cases e1; cases e2; exact absurd (by rfl) nc
        | int _ => cases e1; cases e2; exact absurd (by rfl) nc
        | str _ => cases e1; cases e2; exact absurd (by rfl) nc
        | exc _ _ => cases e1
        | ob _ => cases e1
      · cases e
  · cases e
theorem op_neDD (hz : Z.K = X.K) (hu : X.A.units + 102 < cLine) : OpR X (compareOp .NotEq) (rD2 Z neD) := by
  intro pins s σ H x y v u Q I rx ry h
  obtain ⟨G, a, b, d, sb, ha, hb, e, w, hw, q⟩ := h
  unfold neD at e
  split at e
  · rename_i p1 p2 e1 e2
    obtain ⟨as, q1⟩ := IsD.reads I hz sb a x v p1 e1 ha rx
    obtain ⟨bs, q2⟩ := IsD.reads I hz sb b y u p2 e2 hb ry
    split at e
    · rename_i c
      simp only [plainPy, Bool.and_eq_true, decide_eq_true_eq] at c
      cases e
      cases hw
      exact SeqAt.ne_plain q1 q2 c.1 c.2.1 (by omega) ⟨.bl _, H, I, rfl, q⟩
    · cases e
  · cases e
theorem op2_eq : Op2 Z eqD (rD2 Z eqD) := op2_D fun a b d e => by
  unfold eqD at e
  cases h : eqB a b with
  | none => rw [h] at e; cases e
  | some c => rw [h] at e; cases e; exact ⟨.bl c, fun _ => .bl c⟩
theorem op2_ne : Op2 Z neD (rD2 Z neD) := op2_D fun a b d e => by
  unfold neD at e
  split at e
  · split at e
    · cases e; exact ⟨.bl _, fun _ => .bl _⟩
    · cases e
  · cases e
end
end DW
set_option Elab.async false
set_option linter.all false
set_option maxRecDepth 100000
set_option maxHeartbeats 2000000
/-! DW4: repr of data. -/
namespace DW
open PySem PySem.Spec PyProof.Rows L2
section
variable {X : Cx} {Z : Zn} {pins : List (Addr × Obj)} {σ : L2.St} {G H : Hp} {s : Shared}
theorem reprK_key {k : Key} {u : Value} {h : Heap} (r : keyIs k u = true) (hs : (keyP k).showable = true) (hz : (keyP k).shown.length ≤ sizeLine) : ReprK X.prog X.w [] h 0 u (keyP k).shown := by
  rcases keyIs_shape r with ⟨i, t, rfl, rfl⟩ | ⟨x, t, rfl, rfl⟩
  · simp only [keyP, PyData.shown]
    exact .of_is (ReprIs.int t (by simpa [keyP, PyData.showable] using hs)) _ _ _
  · simp only [keyP, PyData.shown] at hz ⊢
    exact .of_is (ReprIs.str x t hz) _ _ _
mutual
theorem rK (I : Inv X pins σ H s) (hz : Z.K = X.K) (sb : Same G H) : ∀ (d : D) (v : V) (u : Value) (p : PyData), toPy d = some p → IsD Z G d v → RelV v u → p.showable = true → p.shown.length ≤ sizeLine →
    ∃ bs, ReadAtMost s.heap p.depth bs ∧ ReprK X.prog X.w bs s.heap p.depth u p.shown
  | .non, _, _, _, e, h, r, _, _ => by
    cases h; cases r; cases e
    exact ⟨[], fun _ q => (nomatch q), by simp only [PyData.shown]; exact .of_is ReprIs.none _ _ _⟩
  | .bl b, _, _, _, e, h, r, _, _ => by
    cases h; cases r; cases e
    exact ⟨[], fun _ q => (nomatch q), by simp only [PyData.shown]; exact .of_is (ReprIs.bool b) _ _ _⟩
  | .int i, _, _, _, e, h, r, hs, _ => by
    cases h; obtain ⟨t, rfl⟩ := r; cases e
    exact ⟨[], fun _ q => (nomatch q), by simp only [PyData.shown]; exact .of_is (ReprIs.int t (by simpa [PyData.showable] using hs)) _ _ _⟩
  | .str x, _, _, _, e, h, r, _, hl => by
    cases h; obtain ⟨t, rfl⟩ := r; cases e
    exact ⟨[], fun _ q => (nomatch q), by simp only [PyData.shown]; exact .of_is (ReprIs.str x t (by simpa only [PyData.shown] using hl)) _ _ _⟩
  | .tup ds, v, u, p, e, h, r, hs, hl => by
    obtain ⟨as0, rd⟩ := IsD.reads I hz sb (.tup ds) v u p e h r
    obtain ⟨ps, e1, rfl⟩ := toPy_tup e
    cases h with
    | tup ht ha =>
      cases r
      rw [hz] at ht
      obtain ⟨its, rv, ⟨o, ho, hc, n, hd⟩, _⟩ := I.tuple (sqT_mono sb ht)
      have big : (tupleText (PyData.shownAll ps)).length ≤ sizeLine := by simpa only [PyData.shown] using hl
      obtain ⟨bs, hb, hk⟩ := rKs I hz sb ds _ its ps e1 ha rv (by simpa [PyData.showable] using hs) fun t m => Nat.le_trans (tupleText_mem_le m) big
      have off := not_mem_of_deeper rd (n := PyData.depthAll ps) (by simp only [PyData.depth]; omega) hb
      refine ⟨_ :: bs, ReadAtMost.cons rd (by simp only [PyData.depth]; omega) hb, ?_⟩
      simp only [PyData.depth, PyData.shown]
      exact ReprK.tuple ho hc hd off (by simpa using hk)
  | .lst ds, v, u, p, e, h, r, hs, hl => by
    obtain ⟨as0, rd⟩ := IsD.reads I hz sb (.lst ds) v u p e h r
    obtain ⟨ps, e1, rfl⟩ := toPy_lst e
    cases h with
    | lst ht ha =>
      cases r
      obtain ⟨its, rv, ⟨o, n, ho, hc, _, hd⟩, _⟩ := I.list (SqL.of (sb _ _ ht))
      have big : (listText (PyData.shownAll ps)).length ≤ sizeLine := by simpa only [PyData.shown] using hl
      obtain ⟨bs, hb, hk⟩ := rKs I hz sb ds _ its ps e1 ha rv (by simpa [PyData.showable] using hs) fun t m => Nat.le_trans (listText_mem_le m) big
      have off := not_mem_of_deeper rd (n := PyData.depthAll ps) (by simp only [PyData.depth]; omega) hb
      refine ⟨_ :: bs, ReadAtMost.cons rd (by simp only [PyData.depth]; omega) hb, ?_⟩
      simp only [PyData.depth, PyData.shown]
      cases its with
      | nil =>
        have z : (PyData.shownAll ps).length = 0 := by simpa using hk.length_eq
        rw [List.length_eq_zero_iff.mp z, listText_nil]
        exact ReprK.listEmpty ho hc hd
      | cons y its => exact ReprK.list ho hc hd off (by simpa using hk.length_eq) fun i y e => hk.item i y (by simpa using e)
  | .fls ds, v, u, p, e, h, r, hs, hl => by
    obtain ⟨as0, rd⟩ := IsD.reads I hz sb (.fls ds) v u p e h r
    obtain ⟨ps, e1, rfl⟩ := toPy_fls e
    cases h with
    | fls ht ha =>
      cases r
      obtain ⟨its, rv, ⟨o, n, ho, hc, _, hd⟩, _⟩ := I.list (hz ▸ sb.seq ht)
      have big : (listText (PyData.shownAll ps)).length ≤ sizeLine := by simpa only [PyData.shown] using hl
      obtain ⟨bs, hb, hk⟩ := rKs I hz sb ds _ its ps e1 ha rv (by simpa [PyData.showable] using hs) fun t m => Nat.le_trans (listText_mem_le m) big
      have off := not_mem_of_deeper rd (n := PyData.depthAll ps) (by simp only [PyData.depth]; omega) hb
      refine ⟨_ :: bs, ReadAtMost.cons rd (by simp only [PyData.depth]; omega) hb, ?_⟩
      simp only [PyData.depth, PyData.shown]
      cases its with
      | nil =>
        have z : (PyData.shownAll ps).length = 0 := by simpa using hk.length_eq
        rw [List.length_eq_zero_iff.mp z, listText_nil]
        exact ReprK.listEmpty ho hc hd
      | cons y its => exact ReprK.list ho hc hd off (by simpa using hk.length_eq) fun i y e => hk.item i y (by simpa using e)
  | .dct ks, v, u, p, e, h, r, hs, hl => by
    obtain ⟨as0, rd⟩ := IsD.reads I hz sb (.dct ks) v u p e h r
    obtain ⟨ps, e1, rfl⟩ := toPy_dct e
    cases h with
    | dct ht ha =>
      cases r
      obtain ⟨_, sys, vs, rv, o, es, ep, ho, hc, hd, _, hp, _⟩ := dk_of I.hok (sb _ _ ht)
      have big : (dictText (PyData.shownKv ps)).length ≤ sizeLine := by simpa only [PyData.shown] using hl
      obtain ⟨s1, s2⟩ := PyData.showableKv_split ps (by simpa [PyData.showable] using hs)
      obtain ⟨k1, bs, hb, k2⟩ := rKk I hz sb ks _ es.toList vs ps e1 ha rv hp s1 s2 (fun t m => let ⟨q, m2, l2⟩ := PyData.shownKv_key_le ps t m; Nat.le_trans l2 (Nat.le_trans (dictText_mem_le m2) big))
        fun t m => let ⟨q, m2, l2⟩ := PyData.shownKv_val_le ps t m; Nat.le_trans l2 (Nat.le_trans (dictText_mem_le m2) big)
      have hb' : ReadAtMost s.heap (PyData.depthKv ps) bs := hb.mono (PyData.depthAll_vals_le ps)
      have off := not_mem_of_deeper rd (n := PyData.depthKv ps) (by simp only [PyData.depth]; omega) hb'
      refine ⟨_ :: bs, ReadAtMost.cons rd (by simp only [PyData.depth]; omega) hb', ?_⟩
      simp only [PyData.depth, PyData.shown, PyData.shownKv_eq]
      exact ReprK.dict ho hc.1 hd sys off (ReprEntriesK.of_two es.toList _ _ (k1.more_le (fun b q => absurd q List.not_mem_nil) (Nat.zero_le _)) (k2.more_le (fun b q => q) (PyData.depthAll_vals_le ps)))
  | .exc _ _, _, _, _, e, _, _, _, _ => by simp only [toPy] at e; cases e
  | .ob _, _, _, _, e, _, _, _, _ => by simp only [toPy] at e; cases e
theorem rKs (I : Inv X pins σ H s) (hz : Z.K = X.K) (sb : Same G H) : ∀ (ds : List D) (vs : List V) (us : List Value) (ps : List PyData), toPys ds = some ps → IsDs Z G ds vs → Vals vs us → PyData.showableAll ps = true → (∀ t ∈ PyData.shownAll ps, t.length ≤ sizeLine) →
    ∃ bs, ReadAtMost s.heap (PyData.depthAll ps) bs ∧ ReprAllK X.prog X.w bs s.heap (PyData.depthAll ps) us (PyData.shownAll ps)
  | [], _, _, _, e, h, r, _, _ => by
    cases h; cases r; cases e
    exact ⟨[], fun _ q => (nomatch q), by simp only [PyData.shownAll]; exact .nil⟩
  | d :: ds, _, _, _, e, h, r, hs, hl => by
    obtain ⟨p, qs, e1, e2, rfl⟩ := toPys_cons e
    simp only [PyData.showableAll, Bool.and_eq_true] at hs
    cases h with
    | cons h1 h2 =>
      cases r with
      | cons r1 r2 =>
        obtain ⟨bs, b1, k1⟩ := rK I hz sb d _ _ p e1 h1 r1 hs.1 (hl _ (by simp only [PyData.shownAll]; exact List.mem_cons_self))
        obtain ⟨cs, b2, k2⟩ := rKs I hz sb ds _ _ qs e2 h2 r2 hs.2 fun t m => hl t (by simp only [PyData.shownAll]; exact List.mem_cons_of_mem _ m)
        refine ⟨bs ++ cs, ?_, ?_⟩
        · simp only [PyData.depthAll]
          exact (b1.mono (Nat.le_max_left _ _)).append (b2.mono (Nat.le_max_right _ _))
        · simp only [PyData.depthAll, PyData.shownAll]
          exact .cons ((k1.more fun b q => List.mem_append_left _ q).level_le (Nat.le_max_left _ _)) (k2.more_le (fun b q => List.mem_append_right _ q) (Nat.le_max_right _ _))
theorem rKk (I : Inv X pins σ H s) (hz : Z.K = X.K) (sb : Same G H) : ∀ (ds : List (Key × D)) (vs : List (Key × V)) (es : List DictEntry) (us : List (Key × Value)) (ps : List (PyData × PyData)), toPyk ds = some ps → IsKs Z G ds vs → KV vs us → Pairs (mixKind X.prog X.w) es us →
    PyData.showableAll (ps.map (·.1)) = true → PyData.showableAll (ps.map (·.2)) = true → (∀ t ∈ PyData.shownAll (ps.map (·.1)), t.length ≤ sizeLine) → (∀ t ∈ PyData.shownAll (ps.map (·.2)), t.length ≤ sizeLine) →
    ReprAllK X.prog X.w [] s.heap 0 (es.map (·.key)) (PyData.shownAll (ps.map (·.1))) ∧ ∃ bs, ReadAtMost s.heap (PyData.depthAll (ps.map (·.2))) bs ∧ ReprAllK X.prog X.w bs s.heap (PyData.depthAll (ps.map (·.2))) (es.map (·.val)) (PyData.shownAll (ps.map (·.2)))
  | [], _, es, _, _, e, h, r, hp, _, _, _, _ => by
    cases h; cases r; cases e
    have := hp.length
    cases es with
    | nil => exact ⟨by simp only [List.map_nil, PyData.shownAll]; exact .nil, [], fun _ q => (nomatch q), by simp only [List.map_nil, PyData.shownAll]; exact .nil⟩
    | cons _ _ => simp at this
  | (k, d) :: ds, _, es, _, _, e, h, r, hp, s1, s2, l1, l2 => by
    obtain ⟨p, qs, e1, e2, rfl⟩ := toPyk_cons e
    simp only [List.map_cons, PyData.showableAll, Bool.and_eq_true] at s1 s2
    simp only [List.map_cons, PyData.shownAll] at l1 l2
    cases h with
    | cons h1 h2 =>
      cases r with
      | @cons _ kv _ rest r1 r2 =>
        obtain ⟨k', u⟩ := kv
        obtain ⟨ek, ru⟩ := r1
        have ek' : k = k' := ek
        subst ek'
        cases es with
        | nil => have := hp.length; simp at this
        | cons en es =>
          cases hp with
          | cons hk hv b =>
            obtain ⟨bs, b1, k1⟩ := rK I hz sb d _ u p e1 h1 ru s2.1 (l2 _ List.mem_cons_self)
            obtain ⟨k0, cs, b2, k2⟩ := rKk I hz sb ds _ es _ qs e2 h2 r2 b s1.2 s2.2 (fun t m => l1 t (List.mem_cons_of_mem _ m)) fun t m => l2 t (List.mem_cons_of_mem _ m)
            have hv' : en.val = u := hv
            simp only [List.map_cons, PyData.shownAll, PyData.depthAll]
            refine ⟨.cons (reprK_key (show keyIs k en.key = true from hk) s1.1 (l1 _ List.mem_cons_self)) k0, bs ++ cs, (b1.mono (Nat.le_max_left _ _)).append (b2.mono (Nat.le_max_right _ _)), ?_⟩
            rw [hv']
            exact .cons ((k1.more fun b q => List.mem_append_left _ q).level_le (Nat.le_max_left _ _)) (k2.more_le (fun b q => List.mem_append_right _ q) (Nat.le_max_right _ _))
end
/-- repr -/
def reprS (d : D) : Option Str := match toPy d with
  | some p => if (p.showable && (decide (p.shown.length ≤ sizeLine) && decide (p.depth ≤ 100))) = true then some p.shown else none
  | none => none
theorem reprS_inv {d : D} {x : Str} (h : reprS d = some x) : ∃ p, toPy d = some p ∧ p.showable = true ∧ p.shown.length ≤ sizeLine ∧ p.depth ≤ 100 ∧ x = p.shown := by
  unfold reprS at h
  split at h
  · rename_i p e
    split at h
    · rename_i c
      simp only [Bool.and_eq_true, decide_eq_true_eq] at c
      exact ⟨p, e, c.1, c.2.1, c.2.2, (Option.some.inj h).symm⟩
    · cases h
  · cases h
def reprD : List D → Option D
  | [d] => (reprS d).map .str
  | _ => none
theorem call_reprD (hz : Z.K = X.K) (hg : X.A.guards = some []) (hu : X.A.units + 110 < cLine) : CallR X (.builtin "repr") (fun xs H Q => ∃ G d x v, Same G H ∧ xs = [v] ∧ IsD Z G d v ∧ reprS d = some x ∧ ∀ H', Same H H' → Q (.str x) H') := by
  intro pins s σ H xs us Q I r h
  obtain ⟨G, d, x, v, sb, rfl, hd, e, q⟩ := h
  obtain ⟨p, e1, c1, c2, c3, rfl⟩ := reprS_inv e
  obtain ⟨u, rfl, ru⟩ := vals1 r
  have fin : ∀ h' tk, (∀ b o, s.heap.get? b = some o → h'.get? b = some o) → ∀ t, EP X pins σ Q (.str p.shown t) { s with heap := h', toks := tk } := fun h' tk hk t => ⟨.str p.shown, H, I.kept hk, ⟨t, rfl⟩, q H (Same.refl H)⟩
  have leaf : ∀ t, EP X pins σ Q (.str p.shown t) { s with toks := s.toks + 1 } := fun t => fin s.heap _ (fun _ _ e => e) t
  cases d with
  | int i =>
    cases hd; obtain ⟨t, rfl⟩ := ru; cases e1
    simp only [PyData.shown] at leaf
    exact PySem.P.repr_of_int (by simpa [PyData.showable] using c1) (leaf _)
  | tup ds =>
    obtain ⟨as0, rd⟩ := IsD.reads I hz sb _ v u p e1 hd ru
    obtain ⟨ps, e2, rfl⟩ := toPy_tup e1
    cases hd with
    | tup ht ha =>
      cases ru
      rw [hz] at ht
      obtain ⟨its, rv, ⟨o, ho, hc, n, hd⟩, _⟩ := I.tuple (sqT_mono sb ht)
      have big : (tupleText (PyData.shownAll ps)).length ≤ sizeLine := by simpa only [PyData.shown] using c2
      obtain ⟨bs, hb, hk⟩ := rKs I hz sb ds _ its ps e2 ha rv (by simpa [PyData.showable] using c1) fun t m => Nat.le_trans (tupleText_mem_le m) big
      have off := not_mem_of_deeper rd (n := PyData.depthAll ps) (by simp only [PyData.depth]; omega) hb
      simp only [PyData.depth] at c3
      simp only [PyData.shown] at fin
      exact call_repr_slot (by omega) ⟨o, ho, hc⟩ F.slot_tuple_repr (call_tuple_reprK ho hc hd off (by simpa using hk) hg (fun b _ => Clear.nil b) (by show X.A.units + 1 + _ < cLine; omega) (fun _ _ e => e) (fun h' u tk hk => ⟨_, _, rfl, fin h' tk hk u⟩) big)
  | lst ds =>
    obtain ⟨as0, rd⟩ := IsD.reads I hz sb _ v u p e1 hd ru
    obtain ⟨ps, e2, rfl⟩ := toPy_lst e1
    cases hd with
    | lst ht ha =>
      cases ru
      obtain ⟨its, rv, ⟨o, n, ho, hc, _, hd⟩, _⟩ := I.list (SqL.of (sb _ _ ht))
      have big : (listText (PyData.shownAll ps)).length ≤ sizeLine := by simpa only [PyData.shown] using c2
      obtain ⟨bs, hb, hk⟩ := rKs I hz sb ds _ its ps e2 ha rv (by simpa [PyData.showable] using c1) fun t m => Nat.le_trans (listText_mem_le m) big
      have off := not_mem_of_deeper rd (n := PyData.depthAll ps) (by simp only [PyData.depth]; omega) hb
      simp only [PyData.depth] at c3
      simp only [PyData.shown] at fin
      refine call_repr_slot (by omega) ⟨o, ho, hc⟩ F.slot_list_repr.toG ?_
      cases its with
      | nil =>
        have z : (PyData.shownAll ps).length = 0 := by simpa using hk.length_eq
        rw [List.length_eq_zero_iff.mp z, listText_nil] at fin
        exact call_list_repr_empty ⟨o, ho, hc⟩ ho hd ⟨_, _, rfl, fin s.heap _ (fun _ _ e => e) _⟩
      | cons y its => exact call_list_reprK ho hc hd off (by simpa using hk.length_eq) (fun i y e => hk.item i y (by simpa using e)) hg (fun b _ => Clear.nil b) (by show X.A.units + 1 + _ < cLine; omega) (fun _ _ e => e) (fun h' u tk hk => ⟨_, _, rfl, fin h' tk hk u⟩) big
  | fls ds =>
    obtain ⟨as0, rd⟩ := IsD.reads I hz sb _ v u p e1 hd ru
    obtain ⟨ps, e2, rfl⟩ := toPy_fls e1
    cases hd with
    | fls ht ha =>
      cases ru
      obtain ⟨its, rv, ⟨o, n, ho, hc, _, hd⟩, _⟩ := I.list (hz ▸ sb.seq ht)
      have big : (listText (PyData.shownAll ps)).length ≤ sizeLine := by simpa only [PyData.shown] using c2
      obtain ⟨bs, hb, hk⟩ := rKs I hz sb ds _ its ps e2 ha rv (by simpa [PyData.showable] using c1) fun t m => Nat.le_trans (listText_mem_le m) big
      have off := not_mem_of_deeper rd (n := PyData.depthAll ps) (by simp only [PyData.depth]; omega) hb
      simp only [PyData.depth] at c3
      simp only [PyData.shown] at fin
      refine call_repr_slot (by omega) ⟨o, ho, hc⟩ F.slot_list_repr.toG ?_
      cases its with
      | nil =>
        have z : (PyData.shownAll ps).length = 0 := by simpa using hk.length_eq
        rw [List.length_eq_zero_iff.mp z, listText_nil] at fin
        exact call_list_repr_empty ⟨o, ho, hc⟩ ho hd ⟨_, _, rfl, fin s.heap _ (fun _ _ e => e) _⟩
      | cons y its => exact call_list_reprK ho hc hd off (by simpa using hk.length_eq) (fun i y e => hk.item i y (by simpa using e)) hg (fun b _ => Clear.nil b) (by show X.A.units + 1 + _ < cLine; omega) (fun _ _ e => e) (fun h' u tk hk => ⟨_, _, rfl, fin h' tk hk u⟩) big
  | dct ks =>
    obtain ⟨as0, rd⟩ := IsD.reads I hz sb _ v u p e1 hd ru
    obtain ⟨ps, e2, rfl⟩ := toPy_dct e1
    cases hd with
    | dct ht ha =>
      cases ru
      obtain ⟨_, sys, vs, rv, o, es, ep, ho, hc, hd, _, hp, _⟩ := dk_of I.hok (sb _ _ ht)
      have big : (dictText (PyData.shownKv ps)).length ≤ sizeLine := by simpa only [PyData.shown] using c2
      obtain ⟨s1, s2⟩ := PyData.showableKv_split ps (by simpa [PyData.showable] using c1)
      obtain ⟨k1, bs, hb, k2⟩ := rKk I hz sb ks _ es.toList vs ps e2 ha rv hp s1 s2 (fun t m => let ⟨q, m2, l2⟩ := PyData.shownKv_key_le ps t m; Nat.le_trans l2 (Nat.le_trans (dictText_mem_le m2) big))
        fun t m => let ⟨q, m2, l2⟩ := PyData.shownKv_val_le ps t m; Nat.le_trans l2 (Nat.le_trans (dictText_mem_le m2) big)
      have hb' : ReadAtMost s.heap (PyData.depthKv ps) bs := hb.mono (PyData.depthAll_vals_le ps)
      have off := not_mem_of_deeper rd (n := PyData.depthKv ps) (by simp only [PyData.depth]; omega) hb'
      simp only [PyData.depth] at c3
      simp only [PyData.shown, PyData.shownKv_eq] at fin big
      exact call_repr_slot (by omega) ⟨o, ho, hc.1⟩ F.slot_dict_repr (call_dict_reprK ho hc.1 hd sys off (ReprEntriesK.of_two es.toList _ _ (k1.more_le (fun b q => absurd q List.not_mem_nil) (Nat.zero_le _)) (k2.more_le (fun b q => q) (PyData.depthAll_vals_le ps)))
        hg (fun b _ => Clear.nil b) (by show X.A.units + 1 + _ < cLine; omega) (fun _ _ e => e) (fun h' u tk hk => ⟨_, _, rfl, fin h' tk hk u⟩) big)
  | non =>
    cases hd; cases ru; cases e1
    simp only [PyData.shown] at leaf
    exact PySem.P.repr_of_none (leaf _)
  | bl b =>
    cases hd; cases ru; cases e1
    simp only [PyData.shown] at leaf
    exact PySem.P.repr_of_bool (leaf _)
  | str x =>
    cases hd; obtain ⟨t, rfl⟩ := ru; cases e1
    simp only [PyData.shown] at leaf c2
    exact PySem.P.repr_of_str (leaf _) c2
  | exc _ _ => simp only [toPy] at e1; cases e1
  | ob _ => simp only [toPy] at e1; cases e1
end
end DW
set_option Elab.async false
set_option linter.all false
set_option maxRecDepth 100000
set_option maxHeartbeats 2000000
/-! DW5: operations by data. -/
namespace DW
open PySem PySem.Spec PyProof.Rows L2
/-! ### one reading for all -/
def rG (Z : Zn) (op : D → D → Option D) : R2 := fun x y H Q => ∃ (th : Th) (t : th.T) (G : Hp) (a b d : D), Wd th t G H ∧ IsD Z G a x ∧ IsD Z G b y ∧ op a b = some d ∧ ∀ v G' H', Step th G H G' H' → Wd th t G' H' → IsD Z G' d v → Q v H'
theorem op2_G {Z : Zn} {op : D → D → Option D} : Op2 Z op (rG Z op) := fun th a b d x y G H t Q e r1 r2 w q => ⟨th, t, G, a, b, d, w, r1, r2, e, q⟩
/-- a call by data -/
def rC (Z : Zn) (op : List D → Option D) : List V → Hp → VK → Prop := fun xs H Q => ∃ (th : Th) (t : th.T) (G : Hp) (ds : List D) (d : D), Wd th t G H ∧ IsDs Z G ds xs ∧ op ds = some d ∧ ∀ v G' H', Step th G H G' H' → Wd th t G' H' → IsD Z G' d v → Q v H'
/-- a one-place operation by data -/
def rU1 (Z : Zn) (op : D → Option D) : V → Hp → VK → Prop := fun x H Q => ∃ (th : Th) (t : th.T) (G : Hp) (a d : D), Wd th t G H ∧ IsD Z G a x ∧ op a = some d ∧ ∀ v G' H', Step th G H G' H' → Wd th t G' H' → IsD Z G' d v → Q v H'
section
variable {th : Th} {Z : Zn} {G H : Hp} {t : th.T} {ds : List D} {xs : List V} {Q : VK} {d : D}
/-- a new tuple, a new list of data -/
theorem put_tup (w : Wd th t G H) (h : IsDs Z G ds xs) (q : ∀ v G' H', Step th G H G' H' → Wd th t G' H' → IsD Z G' (.tup ds) v → Q v H') {p : Addr} (hp : H p = none) : Q (.ref p) (upd H p (.tup xs)) :=
  q _ _ _ (.newD w.sub hp) (w.newD hp) (.tup (SqT.of upd_same) (h.mono (Step.newD (th := th) w.sub hp).sub))
theorem put_lst (w : Wd th t G H) (h : IsDs Z G ds xs) (q : ∀ v G' H', Step th G H G' H' → Wd th t G' H' → IsD Z G' (.lst ds) v → Q v H') {p : Addr} (hp : H p = none) : Q (.ref p) (upd H p (.lst xs)) :=
  q _ _ _ (.newD w.sub hp) (w.newD hp) (.lst upd_same (h.mono (Step.newD (th := th) w.sub hp).sub))
theorem put_same (w : Wd th t G H) {v : V} (h : IsD Z G d v) (q : ∀ v G' H', Step th G H G' H' → Wd th t G' H' → IsD Z G' d v → Q v H') : Q v H := q _ _ _ .refl w h
end
theorem IsDs.nil_of {Z : Zn} {G : Hp} {xs : List V} (h : IsDs Z G [] xs) : xs = [] := by cases h; rfl
theorem IsDs.nil_of' {Z : Zn} {G : Hp} {ds : List D} (h : IsDs Z G ds []) : ds = [] := by cases h; rfl

/-! ### + - * // % ** -/
def addD : D → D → Option D
  | .int i, .int j => some (.int (i + j))
  | .str x, .str y => if x.length + y.length ≤ sizeLine then some (.str (x ++ y)) else none
  | .tup xs, .tup ys => if xs.length + ys.length ≤ sizeLine then some (.tup (xs ++ ys)) else none
  | .lst xs, .lst ys => if xs.length + ys.length ≤ sizeLine then some (.lst (xs ++ ys)) else none
  | _, _ => none
def subD : D → D → Option D
  | .int i, .int j => some (.int (i - j))
  | _, _ => none
def mulD : D → D → Option D
  | .int i, .int j => if i.natAbs.log2 + j.natAbs.log2 < 1000000 then some (.int (i * j)) else none
  | .lst xs, .int k => if -(2 ^ 63) ≤ k ∧ k < 2 ^ 63 ∧ xs.length * k.toNat ≤ sizeLine then some (.lst (List.replicate k.toNat xs).flatten) else none
  | _, _ => none
def fdivD : D → D → Option D
  | .int i, .int j => if 0 < j ∧ j.natAbs.log2 < 9000 then some (.int (i / j)) else none
  | _, _ => none
def modD : D → D → Option D
  | .int i, .int j => if 0 < j then some (.int (i % j)) else none
  | _, _ => none
def powD : D → D → Option D
  | .int i, .int j => if 0 ≤ j ∧ j ≤ 1000000 ∧ i.natAbs < 2 ^ 64 then some (.int (i ^ j.toNat)) else none
  | _, _ => none
section
variable {X : Cx} {Z : Zn}
theorem oadd (hz : Z.K = X.K) : OpR X (binaryOp .Add) (rG Z addD) := by
  intro pins s σ H x y v u Q I rx ry h
  obtain ⟨th, t, G, a, b, d, w, ha, hb, e, q⟩ := h
  unfold addD at e
  split at e
  · cases e; cases ha; cases hb
    exact op_add pins s σ H _ _ v u Q I rx ry ⟨_, _, rfl, rfl, put_same w (.int _) q⟩
  · split at e
    · rename_i c
      cases e; cases ha; cases hb
      exact op_add_str pins s σ H _ _ v u Q I rx ry ⟨_, _, rfl, rfl, c, put_same w (.str _) q⟩
    · cases e
  · split at e
    · rename_i ds es c
      cases e
      cases ha with
      | @tup a xs _ h1 h2 =>
        cases hb with
        | @tup b ys _ h3 h4 =>
          have l1 := h2.length
          have l2 := h4.length
          refine op_catA pins s σ H _ _ v u Q I rx ry ⟨a, b, xs, ys, rfl, rfl, hz ▸ sqT_mono w.sub h1, hz ▸ sqT_mono w.sub h3, by omega, fun e => ?_, fun _ e => ?_, fun _ _ p hp => put_tup w (h2.append h4) q hp⟩
          · subst e
            obtain rfl := h2.nil_of'
            exact put_same w (.tup h3 h4) q
          · subst e
            obtain rfl := h4.nil_of'
            rw [List.append_nil] at q
            exact put_same w (.tup h1 h2) q
    · cases e
  · split at e
    · rename_i ds es c
      cases e
      cases ha with
      | @lst a xs _ h1 h2 =>
        cases hb with
        | @lst b ys _ h3 h4 =>
          have l1 := h2.length
          have l2 := h4.length
          exact op_cat pins s σ H _ _ v u Q I rx ry ⟨a, b, xs, ys, rfl, rfl, w.sub _ _ h1, w.sub _ _ h3, by omega, fun p hp => put_lst w (h2.append h4) q hp⟩
    · cases e
  · cases e
theorem osub : OpR X (binaryOp .Sub) (rG Z subD) := by
  intro pins s σ H x y v u Q I rx ry h
  obtain ⟨th, t, G, a, b, d, w, ha, hb, e, q⟩ := h
  unfold subD at e
  split at e
  · cases e; cases ha; cases hb
    exact op_sub pins s σ H _ _ v u Q I rx ry ⟨_, _, rfl, rfl, put_same w (.int _) q⟩
  · cases e
theorem isDs_rep {Z : Zn} {G : Hp} {ds : List D} {xs : List V} (h : IsDs Z G ds xs) : ∀ n : Nat, IsDs Z G (List.replicate n ds).flatten (List.replicate n xs).flatten
  | 0 => .nil
  | n + 1 => by
    rw [List.replicate_succ, List.replicate_succ, List.flatten_cons, List.flatten_cons]
    exact h.append (isDs_rep h n)
theorem omul : OpR X (binaryOp .Mult) (rG Z mulD) := by
  intro pins s σ H x y v u Q I rx ry h
  obtain ⟨th, t, G, a, b, d, w, ha, hb, e, q⟩ := h
  unfold mulD at e
  split at e
  · split at e
    · rename_i c
      cases e; cases ha; cases hb
      exact op_mulW pins s σ H _ _ v u Q I rx ry ⟨_, _, rfl, rfl, c, put_same w (.int _) q⟩
    · cases e
  · split at e
    · rename_i ds k c
      cases e; cases hb
      cases ha with
      | @lst a xs _ h1 h2 =>
        exact op_rep pins s σ H _ _ v u Q I rx ry ⟨a, k, xs, rfl, rfl, w.sub _ _ h1, c.1, c.2.1, by rw [← h2.length]; exact c.2.2, fun p hp => put_lst w (isDs_rep h2 _) q hp⟩
    · cases e
  · cases e
theorem ofdiv : OpR X (binaryOp .FloorDiv) (rG Z fdivD) := by
  intro pins s σ H x y v u Q I rx ry h
  obtain ⟨th, t, G, a, b, d, w, ha, hb, e, q⟩ := h
  unfold fdivD at e
  split at e
  · split at e
    · rename_i c
      cases e; cases ha; cases hb
      exact op_fdivW pins s σ H _ _ v u Q I rx ry ⟨_, _, rfl, rfl, c, put_same w (.int _) q⟩
    · cases e
  · cases e
theorem omod : OpR X (binaryOp .Mod) (rG Z modD) := by
  intro pins s σ H x y v u Q I rx ry h
  obtain ⟨th, t, G, a, b, d, w, ha, hb, e, q⟩ := h
  unfold modD at e
  split at e
  · split at e
    · rename_i c
      cases e; cases ha; cases hb
      exact op_mod pins s σ H _ _ v u Q I rx ry ⟨_, _, rfl, rfl, c, put_same w (.int _) q⟩
    · cases e
  · cases e
theorem opow : OpR X (binaryOp .Pow) (rG Z powD) := by
  intro pins s σ H x y v u Q I rx ry h
  obtain ⟨th, t, G, a, b, d, w, ha, hb, e, q⟩ := h
  unfold powD at e
  split at e
  · split at e
    · rename_i c
      cases e; cases ha; cases hb
      exact op_pow pins s σ H _ _ v u Q I rx ry ⟨_, _, rfl, rfl, c, put_same w (.int _) q⟩
    · cases e
  · cases e

/-! ### comparisons -/
def ltD : D → D → Option D
  | .int i, .int j => some (.bl (decide (i < j)))
  | _, _ => none
def leD : D → D → Option D
  | .int i, .int j => some (.bl (decide (i ≤ j)))
  | _, _ => none
def gtD : D → D → Option D
  | .int i, .int j => some (.bl (decide (j < i)))
  | _, _ => none
def geD : D → D → Option D
  | .int i, .int j => some (.bl (decide (j ≤ i)))
  | _, _ => none
theorem olt : OpR X (compareOp .Lt) (rG Z ltD) := by
  intro pins s σ H x y v u Q I rx ry h
  obtain ⟨th, t, G, a, b, d, w, ha, hb, e, q⟩ := h
  unfold ltD at e
  split at e
  · cases e; cases ha; cases hb
    exact op_lt pins s σ H _ _ v u Q I rx ry ⟨_, _, rfl, rfl, put_same w (.bl _) q⟩
  · cases e
theorem ole : OpR X (compareOp .LtE) (rG Z leD) := by
  intro pins s σ H x y v u Q I rx ry h
  obtain ⟨th, t, G, a, b, d, w, ha, hb, e, q⟩ := h
  unfold leD at e
  split at e
  · cases e; cases ha; cases hb
    exact op_le pins s σ H _ _ v u Q I rx ry ⟨_, _, rfl, rfl, put_same w (.bl _) q⟩
  · cases e
theorem ogt : OpR X (compareOp .Gt) (rG Z gtD) := by
  intro pins s σ H x y v u Q I rx ry h
  obtain ⟨th, t, G, a, b, d, w, ha, hb, e, q⟩ := h
  unfold gtD at e
  split at e
  · cases e; cases ha; cases hb
    exact op_gt pins s σ H _ _ v u Q I rx ry ⟨_, _, rfl, rfl, put_same w (.bl _) q⟩
  · cases e
theorem oge : OpR X (compareOp .GtE) (rG Z geD) := by
  intro pins s σ H x y v u Q I rx ry h
  obtain ⟨th, t, G, a, b, d, w, ha, hb, e, q⟩ := h
  unfold geD at e
  split at e
  · cases e; cases ha; cases hb
    exact op_ge pins s σ H _ _ v u Q I rx ry ⟨_, _, rfl, rfl, put_same w (.bl _) q⟩
  · cases e
/-- is it among these? -/
def seqD : D → Option (List D)
  | .tup ds => some ds
  | .lst ds => some ds
  | .fls ds => some ds
  | _ => none
def inB (a b : D) : Option Bool := match seqD b with
  | some ds => (match toPy a, toPys ds with
    | some p, some ps => if (p.plain && (PyData.plainAll ps && decide (p.depth ≤ 100))) = true then some (ps.any fun z => PyData.eqv z p) else none
    | _, _ => none)
  | none => none
def inD (a b : D) : Option D := (inB a b).map .bl
def notInD (a b : D) : Option D := (inB a b).map fun c => .bl (!c)
theorem inB_inv {a b : D} {c : Bool} (h : inB a b = some c) : ∃ ds p ps, (b = .tup ds ∨ b = .lst ds ∨ b = .fls ds) ∧ toPy a = some p ∧ toPys ds = some ps ∧ p.plain = true ∧ PyData.plainAll ps = true ∧ p.depth ≤ 100 ∧ c = ps.any fun z => PyData.eqv z p := by
  unfold inB at h
  split at h
  · rename_i ds e
    split at h
    · rename_i p ps e1 e2
      split at h
      · rename_i k
        simp only [Bool.and_eq_true, decide_eq_true_eq] at k
        refine ⟨ds, p, ps, ?_, e1, e2, k.1, k.2.1, k.2.2, (Option.some.inj h).symm⟩
        cases b <;> first | (cases e; exact .inl rfl) | (cases e; exact .inr (.inl rfl)) | (cases e; exact .inr (.inr rfl)) | cases e
      · cases h
    · cases h
  · cases h
theorem oin_core (hz : Z.K = X.K) {pins : List (Addr × Obj)} {s : Shared} {σ : L2.St} {G H : Hp} {a b : D} {x y : V} {v u : Value} {c : Bool} (I : Inv X pins σ H s) (sb : Same G H) (ha : IsD Z G a x) (hb : IsD Z G b y) (rx : RelV x v) (ry : RelV y u) (e : inB a b = some c) :
    ∃ (p : PyData) (ps : List PyData) (as bs : List Addr), Reads s.heap v p as ∧ (Reads s.heap u (.tuple ps) bs ∨ Reads s.heap u (.list ps) bs) ∧ p.plain = true ∧ PyData.plainAll ps = true ∧ p.depth ≤ 100 ∧ c = ps.any fun z => PyData.eqv z p := by
  obtain ⟨ds, p, ps, k, e1, e2, c1, c2, c3, ec⟩ := inB_inv e
  obtain ⟨as, r1⟩ := IsD.reads I hz sb a x v p e1 ha rx
  rcases k with rfl | rfl | rfl
  · obtain ⟨bs, r2⟩ := IsD.reads I hz sb (.tup ds) y u (.tuple ps) (by simp only [toPy, e2]) hb ry
    exact ⟨p, ps, as, bs, r1, .inl r2, c1, c2, c3, ec⟩
  · obtain ⟨bs, r2⟩ := IsD.reads I hz sb (.lst ds) y u (.list ps) (by simp only [toPy, e2]) hb ry
    exact ⟨p, ps, as, bs, r1, .inr r2, c1, c2, c3, ec⟩
  · obtain ⟨bs, r2⟩ := IsD.reads I hz sb (.fls ds) y u (.list ps) (by simp only [toPy, e2]) hb ry
    exact ⟨p, ps, as, bs, r1, .inr r2, c1, c2, c3, ec⟩
theorem oin (hz : Z.K = X.K) (hu : X.A.units + 102 < cLine) : OpR X (compareOp .In) (rG Z inD) := by
  intro pins s σ H x y v u Q I rx ry h
  obtain ⟨th, t, G, a, b, d, w, ha, hb, e, q⟩ := h
  unfold inD at e
  cases ec : inB a b with
  | none => rw [ec] at e; cases e
  | some c =>
    rw [ec] at e; cases e
    obtain ⟨p, ps, as, bs, r1, r2, c1, c2, c3, rfl⟩ := oin_core hz I w.sub ha hb rx ry ec
    rcases r2 with r2 | r2
    · exact SeqAt.in_tuple_data r2 r1 c2 c1 (by omega) ⟨.bl _, H, I, rfl, put_same w (.bl _) q⟩
    · exact SeqAt.in_list_data r2 r1 c2 c1 (by omega) ⟨.bl _, H, I, rfl, put_same w (.bl _) q⟩
theorem onotin (hz : Z.K = X.K) (hu : X.A.units + 102 < cLine) : OpR X (compareOp .NotIn) (rG Z notInD) := by
  intro pins s σ H x y v u Q I rx ry h
  obtain ⟨th, t, G, a, b, d, w, ha, hb, e, q⟩ := h
  unfold notInD at e
  cases ec : inB a b with
  | none => rw [ec] at e; cases e
  | some c =>
    rw [ec] at e; cases e
    obtain ⟨p, ps, as, bs, r1, r2, c1, c2, c3, rfl⟩ := oin_core hz I w.sub ha hb rx ry ec
    rcases r2 with r2 | r2
    · exact SeqAt.notIn_tuple_data r2 r1 c2 c1 (by omega) ⟨.bl _, H, I, rfl, put_same w (.bl _) q⟩
    · exact SeqAt.notIn_list_data r2 r1 c2 c1 (by omega) ⟨.bl _, H, I, rfl, put_same w (.bl _) q⟩
theorem oeq (hz : Z.K = X.K) (hu : X.A.units + 102 < cLine) : OpR X (compareOp .Eq) (rG Z eqD) := by
  intro pins s σ H x y v u Q I rx ry h
  obtain ⟨th, t, G, a, b, d, w, ha, hb, e, q⟩ := h
  exact op_eqDD hz hu pins s σ H x y v u Q I rx ry (op2_eq th a b d x y G H t Q e ha hb w q)
theorem one (hz : Z.K = X.K) (hu : X.A.units + 102 < cLine) : OpR X (compareOp .NotEq) (rG Z neD) := by
  intro pins s σ H x y v u Q I rx ry h
  obtain ⟨th, t, G, a, b, d, w, ha, hb, e, q⟩ := h
  exact op_neDD hz hu pins s σ H x y v u Q I rx ry (op2_ne th a b d x y G H t Q e ha hb w q)
/-- is None -/
def isNon : D → Option Bool
  | .non => some true
  | .ob _ => none
  | _ => some false
theorem isNon_v {Z : Zn} {G : Hp} {d : D} {v : V} {b : Bool} (h : IsD Z G d v) (e : isNon d = some b) : decide (v = .non) = b := by
  cases h <;> cases e <;> rfl
def isD (a b : D) : Option D := match b with
  | .non => (isNon a).map .bl
  | _ => none
def isNotD (a b : D) : Option D := match b with
  | .non => (isNon a).map fun c => .bl (!c)
  | _ => none
theorem ois : OpR X (compareOp .Is) (rG Z isD) := by
  intro pins s σ H x y v u Q I rx ry h
  obtain ⟨th, t, G, a, b, d, w, ha, hb, e, q⟩ := h
  unfold isD at e
  split at e
  · cases ec : isNon a with
    | none => rw [ec] at e; cases e
    | some c =>
      rw [ec] at e; cases e; cases hb
      refine op_isN pins s σ H _ _ v u Q I rx ry ⟨rfl, ?_⟩
      rw [isNon_v ha ec]
      exact put_same w (.bl _) q
  · cases e
theorem oisnot : OpR X (compareOp .IsNot) (rG Z isNotD) := by
  intro pins s σ H x y v u Q I rx ry h
  obtain ⟨th, t, G, a, b, d, w, ha, hb, e, q⟩ := h
  unfold isNotD at e
  split at e
  · cases ec : isNon a with
    | none => rw [ec] at e; cases e
    | some c =>
      rw [ec] at e; cases e; cases hb
      refine op_notN pins s σ H _ _ v u Q I rx ry ⟨rfl, ?_⟩
      rw [isNon_v ha ec]
      exact put_same w (.bl _) q
  · cases e
end
end DW
set_option Elab.async false
set_option linter.all false
set_option maxRecDepth 100000
set_option maxHeartbeats 2000000
/-! DW6: rules of expressions. -/
namespace DW
open PySem PySem.Spec PyProof.Rows L2
section
variable {th : Th} {C : Ct th} {W : WX}
/-- first f, then what hangs on it -/
theorem tG.chain {α α' β β' : Type} {rel1 : Hp → α → β → Prop} {rel : Hp → α' → β' → Prop} {f : M th.T α} {g : Rho → α → th.T → Rs th.T α'} {σ : L2.St} {H : Hp} {Q : β' → Hp → Prop} (h : tG C W rel (fun ρ t => DW.bnd (f ρ t) (g ρ)) σ H Q) :
    tG C W rel1 f σ H fun b H1 => ∃ ρ G1 a t1, Wd th t1 G1 H1 ∧ EnvR C G1 H1 ρ σ ∧ rel1 G1 a b ∧ OutG C W rel σ G1 H1 Q (g ρ a t1) := by
  obtain ⟨ρ, G, t, w, e, o⟩ := h
  have o1 := OutG.bnd (rel := rel1) o
  refine ⟨ρ, G, t, w, e, OutG.imp .refl o1 fun x H1 hx => ?_⟩
  obtain ⟨G1, a, t1, s1, w1, r1, o2⟩ := hx
  exact ⟨ρ, G1, a, t1, w1, e.step s1, r1, o2⟩
/-- .. a second one, what was known of the first kept -/
theorem OutG.chain {α α' β β' : Type} {rel1 : Hp → α → β → Prop} {rel : Hp → α' → β' → Prop} {f : M th.T α} {ρ : Rho} {t : th.T} {G : Hp} {k : α → th.T → Rs th.T α'} {σ : L2.St} {H : Hp} {Q : β' → Hp → Prop} (w : Wd th t G H) (e : EnvR C G H ρ σ)
    (o : OutG C W rel σ G H Q (DW.bnd (f ρ t) k)) : tG C W rel1 f σ H fun b H1 => ∃ G1 a t1, Step th G H G1 H1 ∧ Wd th t1 G1 H1 ∧ rel1 G1 a b ∧ OutG C W rel σ G1 H1 Q (k a t1) :=
  ⟨ρ, G, t, w, e, OutG.bnd (rel := rel1) o⟩
end
section
variable {T : Type}
/-- an operation that may fail -/
def opt (o : Option D) (t : T) : Rs T D := match o with
  | some d => .ok d t
  | none => .bad
def eU (op : D → Option D) (f : M T D) : M T D := fun ρ t => bnd (f ρ t) fun a t => opt (op a) t
def eO (op : D → D → Option D) (f g : M T D) : M T D := fun ρ t => bnd (f ρ t) fun a t => bnd (g ρ t) fun b t => opt (op a b) t
def eB (op : List D → Option D) (f : M T (List D)) : M T D := fun ρ t => bnd (f ρ t) fun ds t => opt (op ds) t
def mkT (ds : List D) : Option D := if ds.length ≤ sizeLine then some (.tup ds) else none
def mkL (ds : List D) : Option D := if ds.length ≤ sizeLine then some (.lst ds) else none
/-- a chain a < b < c of bools' operations -/
def eCh (op op' : D → D → Option D) (f g k : M T D) : M T D := fun ρ t => bnd (f ρ t) fun a t => bnd (g ρ t) fun b t => bnd (opt (op a b) t) fun c t => match c with
  | .bl true => bnd (k ρ t) fun d t => opt (op' b d) t
  | .bl false => .ok (.bl false) t
  | _ => .bad
end
section
variable {th : Th} {X : Cx} {C : Ct th} {W : WX} {pos : Pos}
theorem opt_out {σ : L2.St} {G H : Hp} {Q : VK} {o : Option D} {t : th.T} (h : OutG C W (IsD C.Z) σ G H Q (opt o t)) : ∃ d, o = some d ∧ ∀ v G' H', Step th G H G' H' → Wd th t G' H' → IsD C.Z G' d v → Q v H' := by
  cases o with
  | none => exact h.elim
  | some d => exact ⟨d, rfl, h⟩
theorem runO {op : D → D → Option D} {f g : M th.T D} {σ : L2.St} {H : Hp} {Q : VK} (h : tD C W (eO op f g) σ H Q) : tOp (rG C.Z op) (tD C W f) (tD C W g) σ H Q := by
  obtain ⟨ρ, G, t, w, e, o⟩ := tG.chain (rel1 := IsD C.Z) h
  refine ⟨ρ, G, t, w, e, OutG.imp .refl o fun x H1 hx => ?_⟩
  obtain ⟨ρ1, G1, a, t1, w1, e1, r1, o1⟩ := hx
  have o2 := OutG.chain (rel1 := IsD C.Z) (f := g) w1 e1 o1
  obtain ⟨ρ2, G2, t2, w2, e2, o2⟩ := o2
  refine ⟨ρ2, G2, t2, w2, e2, OutG.imp .refl o2 fun y H2 hy => ?_⟩
  obtain ⟨G3, b, t3, s3, w3, r3, o3⟩ := hy
  obtain ⟨d, ed, q⟩ := opt_out o3
  exact ⟨th, t3, G3, a, b, d, w3, r1.mono s3.sub, r3, ed, q⟩
theorem pd_bin {o : Operator} {op : D → D → Option D} {a b : Expr} {f g : M th.T D} (ho : OpR X (binaryOp o) (rG C.Z op)) (ha : PD X C W a f) (hb : PD X C W b g) : PD X C W (.BinOp a o b pos) (eO op f g) :=
  PE.imp (pe_op ho ha hb) fun _ _ _ h => runO h
theorem pd_cm {o : CmpOp} {op : D → D → Option D} {a b : Expr} {f g : M th.T D} (ho : OpR X (compareOp o) (rG C.Z op)) (ha : PD X C W a f) (hb : PD X C W b g)
    (hm : behindInMarks o b = false := by first | exact nobehind _ (by decide) (by decide) | rfl) : PD X C W (.Compare a [o] [b] pos) (eO op f g) :=
  PE.imp (pe_cmpR ho ha hb hm) fun _ _ _ h => runO h
theorem pb_cm {o : CmpOp} {op : D → D → Option D} {a b : Expr} {f g : M th.T D} (ho : OpR X (compareOp o) (rG C.Z op)) (ha : PD X C W a f) (hb : PD X C W b g)
    (hm : behindInMarks o b = false := by first | exact nobehind _ (by decide) (by decide) | rfl) : PB X C W (.Compare a [o] [b] pos) (bVal (eO op f g)) :=
  PT.imp (pt_cmpR ho ha hb hm) fun _ _ _ h => by
    obtain ⟨ρ, G, t, w, e, o⟩ := runV h
    exact runO ⟨ρ, G, t, w, e, o⟩
/-! ### a one-place operation -/
theorem pd_un {o : UnaryOp} {op : D → Option D} {a : Expr} {f : M th.T D} (ho : UnR X (unaryOp o) (rU1 C.Z op)) (ha : PD X C W a f) : PD X C W (.UnaryOp o a pos) (eU op f) :=
  PE.imp (pe_un ho ha) fun σ H Q h => by
    obtain ⟨ρ, G, t, w, e, o⟩ := tG.chain (rel1 := IsD C.Z) h
    refine ⟨ρ, G, t, w, e, OutG.imp .refl o fun x H1 hx => ?_⟩
    obtain ⟨ρ1, G1, a, t1, w1, e1, r1, o1⟩ := hx
    obtain ⟨d, ed, q⟩ := opt_out o1
    exact ⟨th, t1, G1, a, d, w1, r1, ed, q⟩
def negD : D → Option D
  | .int i => some (.int (-i))
  | _ => none
theorem oneg {Z : Zn} : UnR X (unaryOp .USub) (rU1 Z negD) := by
  intro pins s σ H x v Q I rx h
  obtain ⟨th, t, G, a, d, w, ha, e, q⟩ := h
  unfold negD at e
  split at e
  · cases e; cases ha
    exact un_neg pins s σ H _ v Q I rx ⟨_, rfl, put_same w (.int _) q⟩
  · cases e
/-! ### argument lists, displays -/
theorem pds_nil : PDs X C W [] (aNil : M th.T (List D)) := PA.imp pa_nil fun σ H Q h => by
  obtain ⟨ρ, G, t, w, e, o⟩ := h
  exact o [] G H .refl w .nil
theorem pds_cons {e : Expr} {es : List Expr} {f : M th.T D} {g : M th.T (List D)} (ha : PD X C W e f) (hr : PDs X C W es g) (hs : starEach (e :: es) X.env = (false, eval e X.env) :: starEach es X.env := by rfl) : PDs X C W (e :: es) (aCons f g) :=
  PA.imp (pa_cons ha hr hs) fun σ H Q h => by
    obtain ⟨ρ, G, t, w, e, o⟩ := tG.chain (rel1 := IsD C.Z) h
    refine ⟨ρ, G, t, w, e, OutG.imp .refl o fun x H1 hx => ?_⟩
    obtain ⟨ρ1, G1, a, t1, w1, e1, r1, o1⟩ := hx
    obtain ⟨ρ2, G2, t2, w2, e2, o2⟩ := OutG.chain (rel1 := IsDs C.Z) (f := g) w1 e1 o1
    refine ⟨ρ2, G2, t2, w2, e2, OutG.imp .refl o2 fun y H2 hy => ?_⟩
    obtain ⟨G3, b, t3, s3, w3, r3, o3⟩ := hy
    exact o3 _ G3 H2 .refl w3 (.cons (r1.mono s3.sub) r3)
theorem pd_tup {k : Nat} {es : List Expr} {f : M th.T (List D)} (h : PDs X C W es f) : PD X C W (.Tuple es k pos) (eB mkT f) :=
  PE.imp (pe_tup h) fun σ H Q h => by
    obtain ⟨ρ, G, t, w, e, o⟩ := tG.chain (rel1 := IsDs C.Z) h
    refine ⟨ρ, G, t, w, e, OutG.imp .refl o fun x H1 hx => ?_⟩
    obtain ⟨ρ1, G1, a, t1, w1, e1, r1, o1⟩ := hx
    obtain ⟨d, ed, q⟩ := opt_out o1
    unfold mkT at ed
    split at ed
    · cases ed
      exact ⟨by rw [← r1.length]; assumption, fun p hp => put_tup w1 r1 q hp⟩
    · cases ed
theorem pd_lst {es : List Expr} {f : M th.T (List D)} (h : PDs X C W es f) : PD X C W (.List es pos) (eB mkL f) :=
  PE.imp (pe_lst h) fun σ H Q h => by
    obtain ⟨ρ, G, t, w, e, o⟩ := tG.chain (rel1 := IsDs C.Z) h
    refine ⟨ρ, G, t, w, e, OutG.imp .refl o fun x H1 hx => ?_⟩
    obtain ⟨ρ1, G1, a, t1, w1, e1, r1, o1⟩ := hx
    obtain ⟨d, ed, q⟩ := opt_out o1
    unfold mkL at ed
    split at ed
    · cases ed
      exact ⟨by rw [← r1.length]; assumption, fun p hp => put_lst w1 r1 q hp⟩
    · cases ed
/-! ### calls of what is built in -/
theorem runCB {op : List D → Option D} {f : M th.T (List D)} {σ : L2.St} {H : Hp} {Q : VK} (h : tD C W (eB op f) σ H Q) : tCB (rC C.Z op) (tDs C W f) σ H Q := by
  obtain ⟨ρ, G, t, w, e, o⟩ := tG.chain (rel1 := IsDs C.Z) h
  refine ⟨ρ, G, t, w, e, OutG.imp .refl o fun x H1 hx => ?_⟩
  obtain ⟨ρ1, G1, a, t1, w1, e1, r1, o1⟩ := hx
  obtain ⟨d, ed, q⟩ := opt_out o1
  exact ⟨th, t1, G1, a, d, w1, r1, ed, q⟩
theorem pd_callB {id : String} {x : Str} {p : Pos} {e : Expr} {es : List Expr} {op : List D → Option D} {f : M th.T (List D)} (hc : CallR X (.builtin id) (rC C.Z op)) (hg : Gl X x) (hm : X.mg x = none) (hv : bootBuiltins x = some (.builtin id)) (ha : PDs X C W (e :: es) f)
    (hn : x ≠ "__name__" := by decide) (hdb : (x == ("__debug__" : Str)) = false := by decide)
    (he : starEach (e :: es) X.env = (false, eval e X.env) :: starEach es X.env := by rfl) (hpl : (backTo pos (starEach es X.env)).any (·.1) = false := by rfl) : PD X C W (.Call (.Name x p) (e :: es) [] pos) (eB op f) :=
  PE.imp (pe_callB hc hg hm hv ha hn hdb he hpl) fun _ _ _ h => runCB h
theorem pd_callT {T : String} {x : Str} {p : Pos} {e : Expr} {es : List Expr} {op : List D → Option D} {f : M th.T (List D)} (hc : CallR X (.type T) (rC C.Z op)) (hg : Gl X x) (hm : X.mg x = none) (hv : bootBuiltins x = some (.type T)) (ha : PDs X C W (e :: es) f)
    (hn : x ≠ "__name__" := by decide) (hdb : (x == ("__debug__" : Str)) = false := by decide)
    (he : starEach (e :: es) X.env = (false, eval e X.env) :: starEach es X.env := by rfl) (hpl : (backTo pos (starEach es X.env)).any (·.1) = false := by rfl) : PD X C W (.Call (.Name x p) (e :: es) [] pos) (eB op f) :=
  PE.imp (pe_callTy hc hg hm hv ha hn hdb he hpl) fun _ _ _ h => runCB h
/-! ### subscripts, slices -/
theorem pd_ix {a b : Expr} {op : D → D → Option D} {f g : M th.T D} (hr : IxR X (rG C.Z op)) (ha : PD X C W a f) (hb : PD X C W b g) (hs : PlainIx b) : PD X C W (.Subscript a b pos) (eO op f g) :=
  PE.imp (pe_ix hr ha hb hs) fun _ _ _ h => runO h
/-- a bound of a slice -/
def oNo {T : Type} : M T (Option Int) := fun _ t => .ok none t
def oIn {T : Type} (f : M T D) : M T (Option Int) := fun ρ t => bnd (f ρ t) fun a t => match a with
  | .int i => .ok (some i) t
  | _ => .bad
abbrev PDo (X : Cx) (C : Ct th) (W : WX) (e : Option Expr) (f : M th.T (Option Int)) : Prop := PO X e (tG C W (fun _ (a b : Option Int) => b = a) f)
theorem PO.imp {X : Cx} {e : Option Expr} {t t' : TO} (h : PO X e t) (hi : ∀ σ H Q, t' σ H Q → t σ H Q) : PO X e t' := ⟨fun pins s σ H Q I w => h.run pins s σ H Q I (hi σ H Q w)⟩
theorem pdo_no : PDo X C W none (oNo : M th.T (Option Int)) := PO.imp po_none fun σ H Q h => by
  obtain ⟨ρ, G, t, w, e, o⟩ := h
  exact o none G H .refl w rfl
theorem pdo_in {e : Expr} {f : M th.T D} (h : PD X C W e f) : PDo X C W (some e) (oIn f) := PO.imp (po_some h) fun σ H Q h => by
  obtain ⟨ρ, G, t, w, e, o⟩ := tG.chain (rel1 := IsD C.Z) h
  refine ⟨ρ, G, t, w, e, OutG.imp .refl o fun x H1 hx => ?_⟩
  obtain ⟨ρ1, G1, a, t1, w1, e1, r1, o1⟩ := hx
  cases a with
  | int i => cases r1; exact ⟨i, rfl, o1 _ G1 H1 .refl w1 rfl⟩
  | _ => exact o1.elim
def rSl (Z : Zn) (op : D → Option Int → Option Int → Option D) : V → Option Int → Option Int → Hp → VK → Prop := fun x lo hi H Q => ∃ (th : Th) (t : th.T) (G : Hp) (a d : D), Wd th t G H ∧ IsD Z G a x ∧ op a lo hi = some d ∧ ∀ v G' H', Step th G H G' H' → Wd th t G' H' → IsD Z G' d v → Q v H'
def eSl {T : Type} (op : D → Option Int → Option Int → Option D) (f : M T D) (g k : M T (Option Int)) : M T D := fun ρ t => bnd (f ρ t) fun a t => bnd (g ρ t) fun lo t => bnd (k ρ t) fun hi t => opt (op a lo hi) t
theorem pd_sl {e : Expr} {lo hi : Option Expr} {p2 : Pos} {op : D → Option Int → Option Int → Option D} {f : M th.T D} {g k : M th.T (Option Int)} (hr : L2.SlR X (rSl C.Z op)) (he : PD X C W e f) (hl : PDo X C W lo g) (hu : PDo X C W hi k) :
    PD X C W (.Subscript e (.Slice lo hi none p2) pos) (eSl op f g k) := PE.imp (pe_slice hr he hl hu) fun σ H Q h => by
  obtain ⟨ρ, G, t, w, e, o⟩ := tG.chain (rel1 := IsD C.Z) h
  refine ⟨ρ, G, t, w, e, OutG.imp .refl o fun x H1 hx => ?_⟩
  obtain ⟨ρ1, G1, a, t1, w1, e1, r1, o1⟩ := hx
  obtain ⟨ρ2, G2, t2, w2, e2, o2⟩ := OutG.chain (rel1 := fun _ (a b : Option Int) => b = a) (f := g) w1 e1 o1
  refine ⟨ρ2, G2, t2, w2, e2, OutG.imp .refl o2 fun y H2 hy => ?_⟩
  obtain ⟨G3, b, t3, s3, w3, r3, o3⟩ := hy
  obtain ⟨ρ4, G4, t4, w4, e4, o4⟩ := OutG.chain (rel1 := fun _ (a b : Option Int) => b = a) (f := k) w3 (e1.step s3) o3
  refine ⟨ρ4, G4, t4, w4, e4, OutG.imp .refl o4 fun z H3 hz => ?_⟩
  obtain ⟨G5, c, t5, s5, w5, r5, o5⟩ := hz
  obtain ⟨d, ed, q⟩ := opt_out o5
  subst r3 r5
  exact ⟨th, t5, G5, a, d, w5, (r1.mono s3.sub).mono s5.sub, ed, q⟩
end
end DW
set_option Elab.async false
set_option linter.all false
set_option maxRecDepth 100000
set_option maxHeartbeats 2000000
/-! DW7: tests, calls of mirrored defs, statements. -/
namespace DW
open PySem PySem.Spec PyProof.Rows L2
section
variable {th : Th} {X : Cx} {C : Ct th} {W : WX} {pos : Pos}
/-! ### tests -/
theorem pb_val {e : Expr} {f : M th.T D} (h : PD X C W e f) (he : ∀ whole, isTrue e X.env whole = (do let v ← whole; standAt e.pos; holding [v] (truthy v)) := by intro _; rfl) : PB X C W e (bVal f) :=
  PT.imp (pt_val h he) fun _ _ _ h => runV h
theorem tru_v {K : PySem.W.Frag} (hz : C.Z.K = K) {G H : Hp} (sb : Same G H) {d : D} {v : V} {b : Bool} (h : IsD C.Z G d v) (e : truD d = some b) : TruV K v H b := by
  cases h with
  | non => cases e; exact rfl
  | bl c => cases e; exact rfl
  | int i => cases e; exact rfl
  | str y =>
    have e2 : (if y.length ≤ sizeLine then some ((y.length : Int) != 0) else none) = some b := e
    split at e2
    · rename_i c; cases e2; exact ⟨c, rfl⟩
    · cases e2
  | tup h1 h2 =>
    have l := h2.length
    cases e
    exact .inr (.inl ⟨_, hz ▸ sqT_mono sb h1, by cases h2 <;> rfl⟩)
  | lst h1 h2 =>
    cases e
    exact .inl ⟨_, SqL.of (sb _ _ h1), by cases h2 <;> rfl⟩
  | fls h1 h2 =>
    cases e
    exact .inl ⟨_, hz ▸ sb.seq h1, by cases h2 <;> rfl⟩
  | dct _ _ => cases e
  | exc _ _ _ _ => cases e
  | ob _ => cases e
theorem pb_tru {e : Expr} {f : M th.T D} (hz : C.Z.K = X.K) (h : PD X C W e f) (he : ∀ whole, isTrue e X.env whole = (do let v ← whole; standAt e.pos; holding [v] (truthy v)) := by intro _; rfl) : PB X C W e (bTru f) :=
  PT.imp (pt_truth h he) fun σ H Q h => by
    obtain ⟨ρ, G, t, w, e, o⟩ := tG.chain (rel1 := IsD C.Z) h
    refine ⟨ρ, G, t, w, e, OutG.imp .refl o fun x H1 hx => ?_⟩
    obtain ⟨ρ1, G1, a, t1, w1, e1, r1, o1⟩ := hx
    cases eb : truD a with
    | none => simp only [eb] at o1; exact o1.elim
    | some b =>
      simp only [eb] at o1
      exact ⟨b, tru_v hz w1.sub r1 eb, o1 b G1 H1 .refl w1 rfl⟩
theorem pb_not {e : Expr} {f : M th.T Bool} (h : PB X C W e f) : PB X C W (.UnaryOp .Not e pos) (bNot f) :=
  PT.imp (pt_not h) fun σ H Q h => by
    obtain ⟨ρ, G, t, w, e, o⟩ := tG.chain (rel1 := fun _ (a b : Bool) => b = a) h
    refine ⟨ρ, G, t, w, e, OutG.imp .refl o fun x H1 hx => ?_⟩
    obtain ⟨ρ1, G1, a, t1, w1, e1, rfl, o1⟩ := hx
    exact o1 _ G1 H1 .refl w1 rfl
abbrev PBw (X : Cx) (C : Ct th) (W : WX) (e : Expr) (f : M th.T Bool) : Prop := PW X e (tB C W f)
theorem pb_w {e : Expr} {f : M th.T Bool} (h : PBw X C W e f) : PB X C W e f := h.pt
theorem pw_a1 {a : Expr} {f : M th.T Bool} (h : PB X C W a f) : PBw X C W (.BoolOp .And [a] pos) f := pw_and1 h
theorem pw_o1 {a : Expr} {f : M th.T Bool} (h : PB X C W a f) : PBw X C W (.BoolOp .Or [a] pos) f := pw_or1 h
theorem pw_a {a b : Expr} {r : List Expr} {f g : M th.T Bool} (h : PB X C W a f) (k : PBw X C W (.BoolOp .And (b :: r) pos) g) : PBw X C W (.BoolOp .And (a :: b :: r) pos) (bAnd f g) :=
  PW.imp (pw_and h k) fun σ H Q h => by
    obtain ⟨ρ, G, t, w, e, o⟩ := tG.chain (rel1 := fun _ (a b : Bool) => b = a) h
    refine ⟨ρ, G, t, w, e, OutG.imp .refl o fun x H1 hx => ?_⟩
    obtain ⟨ρ1, G1, a, t1, w1, e1, rfl, o1⟩ := hx
    cases x with
    | true => exact ⟨ρ1, G1, t1, w1, e1, o1⟩
    | false => exact o1 _ G1 H1 .refl w1 rfl
theorem pw_o {a b : Expr} {r : List Expr} {f g : M th.T Bool} (h : PB X C W a f) (k : PBw X C W (.BoolOp .Or (b :: r) pos) g) : PBw X C W (.BoolOp .Or (a :: b :: r) pos) (bOr f g) :=
  PW.imp (pw_or h k) fun σ H Q h => by
    obtain ⟨ρ, G, t, w, e, o⟩ := tG.chain (rel1 := fun _ (a b : Bool) => b = a) h
    refine ⟨ρ, G, t, w, e, OutG.imp .refl o fun x H1 hx => ?_⟩
    obtain ⟨ρ1, G1, a, t1, w1, e1, rfl, o1⟩ := hx
    cases x with
    | true => exact o1 _ G1 H1 .refl w1 rfl
    | false => exact ⟨ρ1, G1, t1, w1, e1, o1⟩
/-! ### and, or, not, if as values -/
theorem pd_one {o : BoolOp} {a : Expr} {f : M th.T D} (h : PD X C W a f) : PD X C W (.BoolOp o [a] pos) f := pe_one h
theorem pd_and {a b : Expr} {r : List Expr} {f g : M th.T D} (h : PD X C W a f) (k : PD X C W (.BoolOp .And (b :: r) pos) g) : PD X C W (.BoolOp .And (a :: b :: r) pos) (eAnd f g) :=
  PE.imp (pe_and h k) fun σ H Q h => by
    obtain ⟨ρ, G, t, w, e, o⟩ := tG.chain (rel1 := IsD C.Z) h
    refine ⟨ρ, G, t, w, e, OutG.imp .refl o fun x H1 hx => ?_⟩
    obtain ⟨ρ1, G1, a, t1, w1, e1, r1, o1⟩ := hx
    cases a with
    | bl c =>
      cases r1
      refine ⟨c, rfl, ?_⟩
      cases c with
      | true => exact ⟨ρ1, G1, t1, w1, e1, o1⟩
      | false => exact o1 _ G1 H1 .refl w1 (.bl false)
    | _ => exact o1.elim
theorem pd_or {a b : Expr} {r : List Expr} {f g : M th.T D} (h : PD X C W a f) (k : PD X C W (.BoolOp .Or (b :: r) pos) g) : PD X C W (.BoolOp .Or (a :: b :: r) pos) (eOr f g) :=
  PE.imp (pe_or h k) fun σ H Q h => by
    obtain ⟨ρ, G, t, w, e, o⟩ := tG.chain (rel1 := IsD C.Z) h
    refine ⟨ρ, G, t, w, e, OutG.imp .refl o fun x H1 hx => ?_⟩
    obtain ⟨ρ1, G1, a, t1, w1, e1, r1, o1⟩ := hx
    cases a with
    | bl c =>
      cases r1
      refine ⟨c, rfl, ?_⟩
      cases c with
      | true => exact o1 _ G1 H1 .refl w1 (.bl true)
      | false => exact ⟨ρ1, G1, t1, w1, e1, o1⟩
    | _ => exact o1.elim
theorem pd_not {a : Expr} {f : M th.T D} (h : PD X C W a f) : PD X C W (.UnaryOp .Not a pos) (eNot f) :=
  PE.imp (pe_not h) fun σ H Q h => by
    obtain ⟨ρ, G, t, w, e, o⟩ := tG.chain (rel1 := IsD C.Z) h
    refine ⟨ρ, G, t, w, e, OutG.imp .refl o fun x H1 hx => ?_⟩
    obtain ⟨ρ1, G1, a, t1, w1, e1, r1, o1⟩ := hx
    cases a with
    | bl c =>
      cases r1
      exact ⟨c, rfl, o1 _ G1 H1 .refl w1 (.bl _)⟩
    | _ => exact o1.elim
theorem pd_if {c a b : Expr} {f : M th.T Bool} {g k : M th.T D} (hc : PB X C W c f) (ha : PD X C W a g) (hb : PD X C W b k) : PD X C W (.IfExp c a b pos) (eIf f g k) :=
  PE.imp (pe_ifExp hc ha hb) fun σ H Q h => by
    obtain ⟨ρ, G, t, w, e, o⟩ := tG.chain (rel1 := fun _ (a b : Bool) => b = a) h
    refine ⟨ρ, G, t, w, e, OutG.imp .refl o fun x H1 hx => ?_⟩
    obtain ⟨ρ1, G1, a, t1, w1, e1, rfl, o1⟩ := hx
    cases x with
    | true => exact ⟨ρ1, G1, t1, w1, e1, o1⟩
    | false => exact ⟨ρ1, G1, t1, w1, e1, o1⟩
end

/-! ### promises -/
def OutD (Z : Zn) {th : Th} (G H : Hp) (Q : VK) (E : XK) : Rs th.T D → Prop
  | .ok d t => ∀ v G' H', Step th G H G' H' → Wd th t G' H' → IsD Z G' d v → Q v H'
  | .er c p t => ∀ G' H' Ca dx, Step th G H G' H' → Wd th t G' H' → Pay Z G' c p Ca dx → E (.ref Ca) (some dx) H'
  | .bad => False
def spD (Z : Zn) (th : Th) (F : List D → th.T → Rs th.T D) : Sp := fun vs H Q E => ∃ G t ds, Wd th t G H ∧ IsDs Z G ds vs ∧ OutD Z G H Q E (F ds t)
/-- of a family of states -/
def spF (Z : Zn) {ι : Type} (TH : ι → Th) (F : ∀ i, List D → (TH i).T → Rs (TH i).T D) : Sp := fun vs H Q E => ∃ i, spD Z (TH i) (F i) vs H Q E
theorem OutD.pure {Z : Zn} {th : Th} {t : th.T} {G H : Hp} {Q : VK} {E : XK} (w : Wd th t G H) {r : Rs Unit D} (h : OutD Z (th := th) G H Q E (unR r t)) : OutD Z (th := .u) G H Q E r := by
  cases r with
  | ok d u => exact fun v G' H' s w' r => h v G' H' s.pure (w.pure s w'.sub) r
  | er c p u => exact fun G' H' Ca dx s w' r => h G' H' Ca dx s.pure (w.pure s w'.sub) r
  | bad => exact h
/-- a def's mirror, by its body's: n parameters, m slots more -/
def endR {T : Type} : Ss T → Rs T D
  | .nx _ t => .ok .non t
  | .rt d t => .ok d t
  | .er c p _ t => .er c p t
  | _ => .bad
def defF {T : Type} (n m : Nat) (body : MS T) (ds : List D) (t : T) : Rs T D := if ds.length = n then endR (body (ds.map .va ++ List.replicate m .un) t) else .bad
section
variable {th : Th} {X : Cx} {C : Ct th} {W : WX} {pos : Pos} {k : Nat} {f : Addr} {fd : FuncData} {ps : List Str} {x : Str} {p : Pos} {e : Expr} {es : List Expr}
theorem outD_of {σ : L2.St} {G H : Hp} {Q : VK} {r : Rs th.T D} (h : OutG C W (IsD C.Z) σ G H Q r) : OutD C.Z G H Q (WE W σ) r := by
  cases r with
  | ok d t => exact h
  | er c p t => exact h
  | bad => exact h
theorem runCall {F : List D → th.T → Rs th.T D} {g : M th.T (List D)} {σ : L2.St} {H : Hp} {Q : VK} (h : tD C W (eCall F g) σ H Q) : tCallG (spD C.Z th F) (WE W) [] (tDs C W g) σ H Q := by
  obtain ⟨ρ, G, t, w, e, o⟩ := tG.chain (rel1 := IsDs C.Z) h
  refine ⟨ρ, G, t, w, e, OutG.imp .refl o fun x H1 hx => ?_⟩
  obtain ⟨ρ1, G1, a, t1, w1, e1, r1, o1⟩ := hx
  exact ⟨G1, t1, a, w1, by rw [List.append_nil]; exact r1, outD_of o1⟩
theorem pd_call {F : List D → th.T → Rs th.T D} {g : M th.T (List D)} (hF : FnG X.prog X.w X.K X.mg X.base k f fd ps (spD C.Z th F)) (hr : RoomG k X.A) (hg : Gl X x) (hm : X.mg x = some (.ref f)) (hk : PySem.W.keepIn X.K (.ref f) = true) (hb : Binds X.K fd ps []) (tk : Takes X W)
    (ha : PDs X C W (e :: es) g) (hdb : (x == ("__debug__" : Str)) = false := by decide) (he : starEach (e :: es) X.env = (false, eval e X.env) :: starEach es X.env := by rfl) (hpl : (backTo pos (starEach es X.env)).any (·.1) = false := by rfl) :
    PD X C W (.Call (.Name x p) (e :: es) [] pos) (eCall F g) :=
  PE.imp (pe_callG hF hr hg hm hk hb .nil (fun σ => passAt tk σ) ha hdb he hpl) fun _ _ _ h => runCall h
/-- of a family -/
theorem pd_callF {ι : Type} {TH : ι → Th} {F : ∀ i, List D → (TH i).T → Rs (TH i).T D} (i : ι) {C : Ct (TH i)} {g : M (TH i).T (List D)} (hF : FnG X.prog X.w X.K X.mg X.base k f fd ps (spF C.Z TH F)) (hr : RoomG k X.A) (hg : Gl X x) (hm : X.mg x = some (.ref f)) (hk : PySem.W.keepIn X.K (.ref f) = true)
    (hb : Binds X.K fd ps []) (tk : Takes X W) (ha : PDs X C W (e :: es) g) (hdb : (x == ("__debug__" : Str)) = false := by decide) (he : starEach (e :: es) X.env = (false, eval e X.env) :: starEach es X.env := by rfl) (hpl : (backTo pos (starEach es X.env)).any (·.1) = false := by rfl) :
    PD X C W (.Call (.Name x p) (e :: es) [] pos) (eCall (F i) g) :=
  pd_call (hF.imp fun vs H Q E h => ⟨i, h⟩) hr hg hm hk hb tk ha hdb he hpl
/-- of the pure theory, under any -/
theorem runCallU {F : List D → Unit → Rs Unit D} {g : M th.T (List D)} {σ : L2.St} {H : Hp} {Q : VK} (h : tD C W (eCallU F g) σ H Q) : tCallG (spD C.Z .u F) (WE W) [] (tDs C W g) σ H Q := by
  obtain ⟨ρ, G, t, w, e, o⟩ := tG.chain (rel1 := IsDs C.Z) h
  refine ⟨ρ, G, t, w, e, OutG.imp .refl o fun x H1 hx => ?_⟩
  obtain ⟨ρ1, G1, a, t1, w1, e1, r1, o1⟩ := hx
  exact ⟨G1, (), a, ⟨w1.sub, trivial⟩, by rw [List.append_nil]; exact r1, OutD.pure w1 (outD_of o1)⟩
theorem pd_callU {F : List D → Unit → Rs Unit D} {g : M th.T (List D)} (hF : FnG X.prog X.w X.K X.mg X.base k f fd ps (spD C.Z .u F)) (hr : RoomG k X.A) (hg : Gl X x) (hm : X.mg x = some (.ref f)) (hk : PySem.W.keepIn X.K (.ref f) = true) (hb : Binds X.K fd ps []) (tk : Takes X W)
    (ha : PDs X C W (e :: es) g) (hdb : (x == ("__debug__" : Str)) = false := by decide) (he : starEach (e :: es) X.env = (false, eval e X.env) :: starEach es X.env := by rfl) (hpl : (backTo pos (starEach es X.env)).any (·.1) = false := by rfl) :
    PD X C W (.Call (.Name x p) (e :: es) [] pos) (eCallU F g) :=
  PE.imp (pe_callG hF hr hg hm hk hb .nil (fun σ => passAt tk σ) ha hdb he hpl) fun _ _ _ h => runCallU h
end

/-! ### statements -/
/-- where a body stands: its entry's world kept -/
structure At {th : Th} (C : Ct th) (G H : Hp) (t : th.T) (G' H' : Hp) : Prop where
  sub : Same G G'
  st : Step th C.G0 C.H0 G' H'
  w : Wd th t G' H'
def OutS {th : Th} (C : Ct th) (W : WX) (D' : Ends) (G H : Hp) : Ss th.T → Prop
  | .nx ρ t => ∀ σ' G' H', At C G H t G' H' → EnvR C G' H' ρ σ' → D'.nx σ' H'
  | .rt d t => ∀ v G' H', At C G H t G' H' → IsD C.Z G' d v → D'.rt v H'
  | .bk ρ t => ∀ σ' G' H', At C G H t G' H' → EnvR C G' H' ρ σ' → D'.bk σ' H'
  | .ct ρ t => ∀ σ' G' H', At C G H t G' H' → EnvR C G' H' ρ σ' → D'.ct σ' H'
  | .er c p ρ t => ∀ σ' G' H' Ca dx, At C G H t G' H' → EnvR C G' H' ρ σ' → Pay C.Z G' c p Ca dx → W (.ref Ca) (some dx) σ' H'
  | .bad => False
def tS {th : Th} (C : Ct th) (W : WX) (f : MS th.T) : TS := fun D' σ H => ∃ ρ G t, At C G H t G H ∧ EnvR C G H ρ σ ∧ OutS C W D' G H (f ρ t)
abbrev PSd {th : Th} (X : Cx) (C : Ct th) (W : WX) (s : Stmt) (f : MS th.T) : Prop := PS X s (tS C W f)
abbrev PSds {th : Th} (X : Cx) (C : Ct th) (W : WX) (s : List Stmt) (f : MS th.T) : Prop := PSs X s (tS C W f)
theorem At.go {th : Th} {C : Ct th} {G H G1 H1 : Hp} {t t1 : th.T} (a : At C G H t G1 H1) {G2 H2 : Hp} (s : Step th G1 H1 G2 H2) (w : Wd th t1 G2 H2) : At C G H t1 G2 H2 := ⟨a.sub.trans s.sub, a.st.trans s, w⟩
theorem At.re {th : Th} {C : Ct th} {G H G1 H1 G2 H2 : Hp} {t t1 : th.T} (a : At C G H t G1 H1) (b : At C G1 H1 t1 G2 H2) : At C G H t1 G2 H2 := ⟨a.sub.trans b.sub, b.st, b.w⟩
theorem At.here {th : Th} {C : Ct th} {G H G1 H1 : Hp} {t : th.T} (a : At C G H t G1 H1) : At C G1 H1 t G1 H1 := ⟨fun _ _ e => e, a.st, a.w⟩
theorem OutS.from {th : Th} {C : Ct th} {W : WX} {D' : Ends} {G H G1 H1 : Hp} {t1 : th.T} (a : At C G H t1 G1 H1) {r : Ss th.T} (h : OutS C W D' G H r) : OutS C W D' G1 H1 r := by
  cases r with
  | nx ρ t => exact fun σ' G' H' b e => h σ' G' H' (a.re b) e
  | rt d t => exact fun v G' H' b e => h v G' H' (a.re b) e
  | bk ρ t => exact fun σ' G' H' b e => h σ' G' H' (a.re b) e
  | ct ρ t => exact fun σ' G' H' b e => h σ' G' H' (a.re b) e
  | er c p ρ t => exact fun σ' G' H' Ca dx b e q => h σ' G' H' Ca dx (a.re b) e q
  | bad => exact h
section
variable {T : Type}
/-- an expression's outcome, then a statement's -/
def sB {α : Type} (r : Rs T α) (ρ : Rho) (g : α → T → Ss T) : Ss T := match r with
  | .ok a t => g a t
  | .er c p t => .er c p ρ t
  | .bad => .bad
def sNil : MS T := fun ρ t => .nx ρ t
def sSeq (f g : MS T) : MS T := fun ρ t => match f ρ t with
  | .nx ρ' t' => g ρ' t'
  | r => r
def sRet (f : M T D) : MS T := fun ρ t => sB (f ρ t) ρ fun d t => .rt d t
def sRetN : MS T := fun _ t => .rt .non t
def sSet (i : Nat) (f : M T D) : MS T := fun ρ t => sB (f ρ t) ρ fun d t => .nx (ρ.set i (.va d)) t
def sIf (c : M T Bool) (f g : MS T) : MS T := fun ρ t => sB (c ρ t) ρ fun b t => if b then f ρ t else g ρ t
def sDrop (f : M T D) : MS T := fun ρ t => sB (f ρ t) ρ fun _ t => .nx ρ t
def sBrk : MS T := fun ρ t => .bk ρ t
def sCnt : MS T := fun ρ t => .ct ρ t
/-- an own list in a slot is data from here on -/
def sFrz (i : Nat) : MS T := fun ρ t => match ρ[i]? with
  | some (.own ds) => .nx (ρ.set i (.va (.lst ds))) t
  | some (.ownK ks) => .nx (ρ.set i (.va (.dct ks))) t
  | some (.va _) => .nx ρ t
  | _ => .bad
end
section
variable {th : Th} {X : Cx} {C : Ct th} {W : WX} {pos : Pos}
theorem runB {α β : Type} {rel : Hp → α → β → Prop} {f : M th.T α} {g : Rho → α → th.T → Ss th.T} {D' : Ends} {σ : L2.St} {H : Hp} (h : tS C W (fun ρ t => sB (f ρ t) ρ (g ρ)) D' σ H) :
    tG C W rel f σ H fun b H1 => ∃ ρ G1 a t1, At C G1 H1 t1 G1 H1 ∧ EnvR C G1 H1 ρ σ ∧ rel G1 a b ∧ OutS C W D' G1 H1 (g ρ a t1) := by
  obtain ⟨ρ, G, t, at_, e, o⟩ := h
  have o : OutS C W D' G H (sB (f ρ t) ρ (g ρ)) := o
  refine ⟨ρ, G, t, at_.w, e, ?_⟩
  cases hf : f ρ t with
  | ok a t1 =>
    rw [hf] at o
    exact fun b G1 H1 s w r => ⟨ρ, G1, a, t1, (at_.go s w).here, e.step s, r, OutS.from (at_.go s w) o⟩
  | er c p t1 =>
    rw [hf] at o
    exact fun G' H' Ca dx s w q => o σ G' H' Ca dx (at_.go s w) (e.step s) q
  | bad => rw [hf] at o; exact o
theorem psd_nil : PSds X C W [] sNil := PSs.imp pss_nil fun D' σ H h => by
  obtain ⟨ρ, G, t, a, e, o⟩ := h
  exact o σ G H a e
theorem runSeq {f g : MS th.T} {D' : Ends} {σ : L2.St} {H : Hp} (h : tS C W (sSeq f g) D' σ H) : tSeq (tS C W f) (tS C W g) D' σ H := by
  obtain ⟨ρ, G, t, a, e, o⟩ := h
  refine ⟨ρ, G, t, a, e, ?_⟩
  unfold sSeq at o
  cases hf : f ρ t with
  | nx ρ1 t1 =>
    rw [hf] at o
    exact fun σ' G' H' b e' => ⟨ρ1, G', t1, b.here, e', OutS.from b o⟩
  | rt d t1 => rw [hf] at o; exact o
  | bk ρ1 t1 => rw [hf] at o; exact o
  | ct ρ1 t1 => rw [hf] at o; exact o
  | er c p ρ1 t1 => rw [hf] at o; exact o
  | bad => rw [hf] at o; exact o
theorem psd_cons {s : Stmt} {r : List Stmt} {f g : MS th.T} (h1 : PSd X C W s f) (h2 : PSds X C W r g) : PSds X C W (s :: r) (sSeq f g) := PSs.imp (pss_cons h1 h2) fun _ _ _ h => runSeq h
theorem psd_one {s : Stmt} {f : MS th.T} (h : PSd X C W s f) : PSds X C W [s] f := pss_one h
theorem psd_ret {e : Expr} {f : M th.T D} (h : PD X C W e f) : PSd X C W (.Return (some e) pos) (sRet f) := PS.imp (ps_ret h) fun D' σ H h => by
  obtain ⟨ρ, G, t, w, e, o⟩ := runB (rel := IsD C.Z) h
  refine ⟨ρ, G, t, w, e, OutG.imp .refl o fun x H1 hx => ?_⟩
  obtain ⟨ρ1, G1, a, t1, a1, e1, r1, o1⟩ := hx
  exact o1 x G1 H1 a1 r1
theorem psd_retN : PSd X C W (.Return none pos) sRetN := PS.imp ps_retN fun D' σ H h => by
  obtain ⟨ρ, G, t, a, e, o⟩ := h
  exact o .non G H a .non
theorem psd_pass : PSd X C W (.Pass pos) sNil := PS.imp ps_pass fun D' σ H h => by
  obtain ⟨ρ, G, t, a, e, o⟩ := h
  exact o σ G H a e
theorem psd_brk : PSd X C W (.Break pos) sBrk := PS.imp ps_break fun D' σ H h => by
  obtain ⟨ρ, G, t, a, e, o⟩ := h
  exact o σ G H a e
theorem psd_cnt : PSd X C W (.Continue pos) sCnt := PS.imp ps_continue fun D' σ H h => by
  obtain ⟨ρ, G, t, a, e, o⟩ := h
  exact o σ G H a e
theorem psd_drop {e : Expr} {f : M th.T D} (h : PD X C W e f) (hs : swapsWith e none pos.line X.env = pure false := by rfl) : PSd X C W (.Expr e pos) (sDrop f) := PS.imp (ps_expr h hs) fun D' σ H h => by
  obtain ⟨ρ, G, t, w, e, o⟩ := runB (rel := IsD C.Z) h
  refine ⟨ρ, G, t, w, e, OutG.imp .refl o fun x H1 hx => ?_⟩
  obtain ⟨ρ1, G1, a, t1, a1, e1, r1, o1⟩ := hx
  exact o1 σ G1 H1 a1 e1
theorem psd_if {c : Expr} {a b : List Stmt} {f : M th.T Bool} {g k : MS th.T} (hc : PB X C W c f) (ha : PSds X C W a g) (hb : PSds X C W b k) : PSd X C W (.If c a b pos) (sIf f g k) := PS.imp (ps_if hc ha hb) fun D' σ H h => by
  obtain ⟨ρ, G, t, w, e, o⟩ := runB (rel := fun _ (a b : Bool) => b = a) h
  refine ⟨ρ, G, t, w, e, OutG.imp .refl o fun x H1 hx => ?_⟩
  obtain ⟨ρ1, G1, a, t1, a1, e1, rfl, o1⟩ := hx
  cases x with
  | true => exact ⟨ρ1, G1, t1, a1, e1, o1⟩
  | false => exact ⟨ρ1, G1, t1, a1, e1, o1⟩
/-- a slot is set to data -/
theorem EnvR.set {G H : Hp} {ρ : Rho} {σ : L2.St} (e : EnvR C G H ρ σ) (i : Nat) {s : Sl} {v : V} (r : SlR C G H s (some v)) (hs : s.isOwn = true → ∀ (j : Nat) (s' : Sl) (a : Addr), j ≠ i → ρ[j]? = some s' → s'.isOwn = true → v = .ref a → σ[j]? ≠ some (some (.ref a))) :
    EnvR C G H (ρ.set i s) (σ.set i (some v)) := by
  refine ⟨by rw [List.length_set, List.length_set]; exact e.len, fun j sl o h1 h2 => ?_, fun j j' sl sl' a h1 h2 k1 k2 h3 h4 => ?_⟩
  · by_cases hj : i = j
    · subst hj
      by_cases hl : i < ρ.length
      · rw [List.getElem?_set_self hl] at h1
        rw [List.getElem?_set_self (by rw [← e.len]; exact hl)] at h2
        cases h1; cases h2
        exact r
      · rw [List.getElem?_eq_none (by rw [List.length_set]; omega)] at h1; cases h1
    · rw [List.getElem?_set_ne hj] at h1 h2
      exact e.at_ j sl o h1 h2
  · have get : ∀ {j : Nat} {sl : Sl}, (ρ.set i s)[j]? = some sl → j ≠ i → ρ[j]? = some sl := fun {j sl} h hj => by rw [List.getElem?_set_ne (Ne.symm hj)] at h; exact h
    have gets : ∀ {j : Nat}, j ≠ i → (σ.set i (some v))[j]? = some (some (.ref a)) → σ[j]? = some (some (.ref a)) := fun {j} hj h => by rw [List.getElem?_set_ne (Ne.symm hj)] at h; exact h
    have own : ∀ {sl : Sl}, (ρ.set i s)[i]? = some sl → (σ.set i (some v))[i]? = some (some (.ref a)) → sl = s ∧ v = .ref a := fun {sl} h k => by
      by_cases hl : i < ρ.length
      · rw [List.getElem?_set_self hl] at h
        rw [List.getElem?_set_self (by rw [← e.len]; exact hl)] at k
        exact ⟨(Option.some.inj h).symm, Option.some.inj (Option.some.inj k)⟩
      · rw [List.getElem?_eq_none (by rw [List.length_set]; omega)] at h; cases h
    by_cases hj : j = i
    · by_cases hj' : j' = i
      · rw [hj, hj']
      · rw [hj] at h1 h3
        obtain ⟨z1, z2⟩ := own h1 h3
        rw [z1] at k1
        exact absurd (gets hj' h4) (hs k1 j' sl' a hj' (get h2 hj') k2 z2)
    · by_cases hj' : j' = i
      · rw [hj'] at h2 h4
        obtain ⟨z1, z2⟩ := own h2 h4
        rw [z1] at k2
        exact absurd (gets hj h3) (hs k2 j sl a hj (get h1 hj) k1 z2)
      · exact e.sep j j' sl sl' a (get h1 hj) (get h2 hj') k1 k2 (gets hj h3) (gets hj' h4)
theorem EnvR.setva {G H : Hp} {ρ : Rho} {σ : L2.St} (e : EnvR C G H ρ σ) (i : Nat) {d : D} {v : V} (r : IsD C.Z G d v) : EnvR C G H (ρ.set i (.va d)) (σ.set i (some v)) :=
  e.set i (s := .va d) ⟨v, rfl, r⟩ fun h => nomatch h
theorem psd_set (i : Nat) {x : Str} {e : Expr} {pos' : Pos} {f : M th.T D} (hN : X.N.Nodup) (h : PD X C W e f) (hi : X.N[i]? = some x := by rfl) (hx : Loc X.env.scope x := by first | exact .inl rfl | exact .inr rfl)
    (hs : swapsWith e (some (.Name x pos')) pos.line X.env = pure false := by rfl) (hf : X.fn x = true ∨ X.env.scope.names.lookup x = some .local := by first | exact .inl rfl | exact .inr rfl | assumption) : PSd X C W (.Assign [.Name x pos'] e pos) (sSet i f) :=
  PS.imp (ps_set hN hi hx h hs hf) fun D' σ H h => by
    obtain ⟨ρ, G, t, w, e, o⟩ := runB (rel := IsD C.Z) h
    refine ⟨ρ, G, t, w, e, OutG.imp .refl o fun x H1 hx => ?_⟩
    obtain ⟨ρ1, G1, a, t1, a1, e1, r1, o1⟩ := hx
    exact o1 _ G1 H1 a1 (e1.setva i r1)
end
end DW
set_option Elab.async false
set_option linter.all false
set_option maxRecDepth 100000
set_option maxHeartbeats 2000000
/-! DW8: a def by its mirror; what is walked; for; comprehensions. -/
namespace DW
open PySem PySem.Spec PyProof.Rows L2
theorem isDs_get? {Z : Zn} {G : Hp} {ds : List D} {vs : List V} (h : IsDs Z G ds vs) (i : Nat) : (ds[i]? = none ∧ vs[i]? = none) ∨ ∃ d v, ds[i]? = some d ∧ vs[i]? = some v ∧ IsD Z G d v := by
  by_cases hi : i < ds.length
  · obtain ⟨v, h1, h2⟩ := h.get (List.getElem?_eq_getElem hi)
    exact .inr ⟨_, v, List.getElem?_eq_getElem hi, h1, h2⟩
  · have l := h.length
    exact .inl ⟨List.getElem?_eq_none (by omega), List.getElem?_eq_none (by omega)⟩
/-- the slots at a def's entry -/
theorem envR_start {th : Th} {C : Ct th} {G H : Hp} {ds : List D} {vs : List V} {N : List Str} {m : Nat} (h : IsDs C.Z G ds vs) (hN : N.length = ds.length + m) : EnvR C G H (ds.map Sl.va ++ List.replicate m .un) (L2.start N vs) := by
  have l := h.length
  have e : N.length - vs.length = m := by omega
  unfold L2.start
  rw [e]
  refine ⟨by simp [l], fun i s o h1 h2 => ?_, fun i j s s' a h1 h2 k1 => ?_⟩
  · by_cases hi : i < ds.length
    · rw [List.getElem?_append_left (by simpa using hi), List.getElem?_map] at h1
      rw [List.getElem?_append_left (by simpa using (l ▸ hi)), List.getElem?_map] at h2
      obtain ⟨v, q1, q2⟩ := h.get (List.getElem?_eq_getElem hi)
      rw [List.getElem?_eq_getElem hi] at h1
      rw [q1] at h2
      cases h1; cases h2
      exact ⟨v, rfl, q2⟩
    · rw [List.getElem?_append_right (by simp; omega), List.getElem?_replicate] at h1
      split at h1
      · cases h1; trivial
      · cases h1
  · have : s.isOwn = false := by
      by_cases hi : i < ds.length
      · rw [List.getElem?_append_left (by simpa using hi), List.getElem?_map, List.getElem?_eq_getElem hi] at h1
        cases h1; rfl
      · rw [List.getElem?_append_right (by simp; omega), List.getElem?_replicate] at h1
        split at h1
        · cases h1; rfl
        · cases h1
    rw [this] at k1; cases k1
section
variable {P : Program} {w : World} {K : PySem.W.Frag} {mg : Str → Option Value} {base : Heap} {k : Nat} {f : Addr} {fd : FuncData} {ps N : List Str}
theorem defF_len {T : Type} {n m : Nat} {b : MS T} {ds : List D} {t : T} {Z : Zn} {th : Th} (h : defF n m b ds t ≠ .bad) : ds.length = n := by
  unfold defF at h
  split at h
  · assumption
  · exact absurd rfl h
theorem outD_ne {Z : Zn} {th : Th} {G H : Hp} {Q : VK} {E : XK} {r : Rs th.T D} (h : OutD Z G H Q E r) : r ≠ .bad := fun e => by rw [e] at h; exact h
/-- a def keeps the promise of its mirror -/
theorem FnG.mir {Z : Zn} {ι : Type} {TH : ι → Th} {B : ∀ i, MS (TH i).T} {n m : Nat} {x qual : Str} {params : Arguments} {blk : List Stmt} {sc : Scope} (F : FunD K x qual params blk sc [] [] f fd) (S : FnScope N ps sc) (hn : ps.length = n) (hN : N.length = n + m)
    (body : ∀ (i : ι) (cdv : Value) (A : Around) (outer : List Env) (s : Shared) (G H : Hp) (E : XK), RoomG k (A.deeper (envOfC qual sc s.heap.objs.size f cdv)) → Takes (cxOf (L2.CX P w) P w K mg base N qual sc f cdv A outer s H E) (fun cls d _ H => E cls d H) →
      PSds (cxOf (L2.CX P w) P w K mg base N qual sc f cdv A outer s H E) (⟨Z, G, H, (0, .none, none)⟩ : Ct (TH i)) (fun cls d _ H => E cls d H) blk (B i)) : FnG P w K mg base (k + 1) f fd ps (spF Z TH fun i => defF n m (B i)) := by
  refine FnG.def_ F S (fun vs H Q E h => ?_) fun cdv A outer s H vs Q E hr told => ?_
  · obtain ⟨i, G, t, ds, w, r, o⟩ := h
    rw [← r.length, defF_len (Z := Z) (th := TH i) (outD_ne o), hn]
  · obtain ⟨i, G, t, ds, wd, r, o⟩ := told
    have hl := defF_len (Z := Z) (th := TH i) (outD_ne o)
    refine ⟨_, body i cdv A outer s G H E hr (takes_of rfl rfl rfl rfl), ?_⟩
    refine ⟨ds.map .va ++ List.replicate m .un, G, t, ⟨fun _ _ e => e, .refl, wd⟩, envR_start r (by rw [hN, hl]), ?_⟩
    have o : OutD Z G H Q E (defF n m (B i) ds t) := o
    unfold defF at o
    rw [if_pos hl] at o
    cases hb : B i (ds.map .va ++ List.replicate m .un) t with
    | nx ρ t1 => rw [hb] at o; exact fun σ' G' H' a e => o .non G' H' a.st a.w .non
    | rt d t1 => rw [hb] at o; exact fun v G' H' a e => o v G' H' a.st a.w e
    | bk ρ t1 => rw [hb] at o; exact o.elim
    | ct ρ t1 => rw [hb] at o; exact o.elim
    | er c p ρ t1 => rw [hb] at o; exact fun σ' G' H' Ca dx a e q => o G' H' Ca dx a.st a.w q
    | bad => rw [hb] at o; exact o.elim
/-- .. of the pure theory -/
theorem FnG.mirU {Z : Zn} {B : MS Unit} {n m : Nat} {x qual : Str} {params : Arguments} {blk : List Stmt} {sc : Scope} (F : FunD K x qual params blk sc [] [] f fd) (S : FnScope N ps sc) (hn : ps.length = n) (hN : N.length = n + m)
    (body : ∀ (cdv : Value) (A : Around) (outer : List Env) (s : Shared) (G H : Hp) (E : XK), RoomG k (A.deeper (envOfC qual sc s.heap.objs.size f cdv)) → Takes (cxOf (L2.CX P w) P w K mg base N qual sc f cdv A outer s H E) (fun cls d _ H => E cls d H) →
      PSds (cxOf (L2.CX P w) P w K mg base N qual sc f cdv A outer s H E) (⟨Z, G, H, (0, .none, none)⟩ : Ct Th.u) (fun cls d _ H => E cls d H) blk B) : FnG P w K mg base (k + 1) f fd ps (spD Z Th.u (defF n m B)) :=
  (FnG.mir (Z := Z) (ι := Unit) (TH := fun _ => Th.u) (B := fun _ => B) F S hn hN fun _ => body).imp fun vs H Q E h => ⟨(), h⟩
end

/-! ### what is walked -/
/-- while data G stands, the walk J gives ds, one by one -/
structure Runs (Z : Zn) (J : It) (ds : List D) (G : Hp) : Prop where
  goes : ∀ i H, i < ds.length → Same G H → J.go i H
  stops : ∀ H, Same G H → J.stop ds.length H
  yields : ∀ i H x H', i < ds.length → Same G H → J.yld i H x H' → ∀ (th : Th) (t : th.T) (G1 : Hp), Same G G1 → Wd th t G1 H → ∃ G2 d, ds[i]? = some d ∧ Step th G1 H G2 H' ∧ Wd th t G2 H' ∧ IsD Z G2 d x
theorem runs_of {Z : Zn} {J : It} {ds : List D} {xs : List V} {G : Hp} {Gd : Hp → Prop} (w : Walk J xs.length Gd (YAt xs)) (h : IsDs Z G ds xs) (hg : ∀ H, Same G H → Gd H) : Runs Z J ds G := by
  have l := h.length
  refine ⟨fun i H hi s => w.goes i H (by omega) (hg H s), fun H s => l ▸ w.stops H (hg H s), fun i H x H' hi s y th t G1 s1 w1 => ?_⟩
  obtain ⟨rfl, e⟩ := w.yields i H x H' (by omega) (hg H s) y
  obtain ⟨v, e1, e2⟩ := h.get (List.getElem?_eq_getElem hi)
  rw [e1] at e
  cases e
  exact ⟨G1, _, List.getElem?_eq_getElem hi, .refl, w1, e2.mono s1⟩
def rngD (lo : Int) (n : Nat) : List D := (List.range n).map fun i => D.int (lo + (i : Nat))
theorem rngD_len {lo : Int} {n : Nat} : (rngD lo n).length = n := by simp [rngD]
theorem runs_rng {Z : Zn} {lo : Int} {n : Nat} {G : Hp} : Runs Z (Itr lo n) (rngD lo n) G := by
  refine ⟨fun i H hi _ => by rw [rngD_len] at hi; exact hi, fun H _ => by rw [rngD_len]; exact Nat.le_refl _, fun i H x H' hi _ y th t G1 s1 w1 => ?_⟩
  rw [rngD_len] at hi
  obtain ⟨rfl, rfl⟩ := y
  exact ⟨G1, .int (lo + (i : Nat)), by simp [rngD, hi], .refl, w1, .int _⟩
def enumD (ds : List D) : List D := ds.zipIdx.map fun p => D.tup [.int (p.2 : Nat), p.1]
theorem enumD_len {ds : List D} : (enumD ds).length = ds.length := by simp [enumD]
theorem enumD_get {ds : List D} {i : Nat} {d : D} (h : ds[i]? = some d) : (enumD ds)[i]? = some (.tup [.int (i : Nat), d]) := by
  simp [enumD, List.getElem?_map, List.getElem?_zipIdx, h]
theorem runs_enum {Z : Zn} {K : PySem.W.Frag} {a : Addr} {ds : List D} {xs : List V} {G : Hp} (h : IsDs Z G ds xs) (hg : ∀ H, Same G H → SqL K H a xs) : Runs Z (Ite K a) (enumD ds) G := by
  have l := h.length
  have w := walk_enum (K := K) (a := a) (xs := xs)
  refine ⟨fun i H hi s => w.goes i H (by rw [enumD_len] at hi; omega) (hg H s), fun H s => by rw [enumD_len, l]; exact w.stops H (hg H s), fun i H x H' hi s y th t G1 s1 w1 => ?_⟩
  rw [enumD_len] at hi
  obtain ⟨T, z, v, rfl, hT, rfl, e1, e2⟩ := w.yields i H x H' (by omega) (hg H s) y
  obtain ⟨u, e3, e4⟩ := h.get (List.getElem?_eq_getElem hi)
  have e1 : some (V.int (i : Nat)) = some z := e1
  have e2 : xs[i]? = some v := e2
  rw [e3] at e2
  cases e1; cases e2
  refine ⟨upd G1 T (.tup [.int (i : Nat), v]), .tup [.int (i : Nat), ds[i]], enumD_get (List.getElem?_eq_getElem hi), .newD w1.sub hT, w1.newD hT, .tup (SqT.of upd_same) (.cons (.int _) (.cons (IsD.mono ?_ e4) .nil))⟩
  exact s1.trans (Step.newD (th := th) w1.sub hT).sub
section
variable {th : Th} {X : Cx} {C : Ct th} {W : WX} {pos : Pos} {tg : Expr}
def OutI (C : Ct th) (W : WX) (σ : L2.St) (G H : Hp) (R : It → Hp → Prop) : Rs th.T (List D) → Prop
  | .ok ds t => ∀ J G' H', Step th G H G' H' → Wd th t G' H' → Runs C.Z J ds G' → R J H'
  | .er c p t => ∀ G' H' Ca dx, Step th G H G' H' → Wd th t G' H' → Pay C.Z G' c p Ca dx → W (.ref Ca) (some dx) σ H'
  | .bad => False
def tI (C : Ct th) (W : WX) (f : M th.T (List D)) : TI := fun σ H R => ∃ ρ G t, Wd th t G H ∧ EnvR C G H ρ σ ∧ OutI C W σ G H R (f ρ t)
abbrev PDi (X : Cx) (C : Ct th) (W : WX) (tg e : Expr) (f : M th.T (List D)) : Prop := PI X tg e (tI C W f)
theorem PI.imp {X : Cx} {tg e : Expr} {t t' : TI} (h : PI X tg e t) (hi : ∀ σ H R, t' σ H R → t σ H R) : PI X tg e t' := ⟨fun pins s σ H R I w => h.run pins s σ H R I (hi σ H R w)⟩
theorem OutI.imp {σ : L2.St} {G H G1 H1 : Hp} {R : It → Hp → Prop} {r : Rs th.T (List D)} (s : Step th G H G1 H1) (h : OutI C W σ G H R r) : OutI C W σ G1 H1 R r := by
  cases r with
  | ok ds t => exact fun J G' H' s' w r => h J G' H' (s.trans s') w r
  | er c p t => exact fun G' H' Ca dx s' w q => h G' H' Ca dx (s.trans s') w q
  | bad => exact h
theorem tI.chain {α β : Type} {rel1 : Hp → α → β → Prop} {f : M th.T α} {g : Rho → α → th.T → Rs th.T (List D)} {σ : L2.St} {H : Hp} {R : It → Hp → Prop} (h : tI C W (fun ρ t => DW.bnd (f ρ t) (g ρ)) σ H R) :
    tG C W rel1 f σ H fun b H1 => ∃ ρ G1 a t1, Wd th t1 G1 H1 ∧ EnvR C G1 H1 ρ σ ∧ rel1 G1 a b ∧ OutI C W σ G1 H1 R (g ρ a t1) := by
  obtain ⟨ρ, G, t, w, e, o⟩ := h
  have o : OutI C W σ G H R (DW.bnd (f ρ t) (g ρ)) := o
  refine ⟨ρ, G, t, w, e, ?_⟩
  cases hf : f ρ t with
  | ok a t1 =>
    rw [hf] at o
    exact fun b G1 H1 s w r => ⟨ρ, G1, a, t1, w, e.step s, r, OutI.imp s o⟩
  | er c p t1 => rw [hf] at o; exact o
  | bad => rw [hf] at o; exact o
def signsD (x : Str) : List D := x.cps.toList.map fun c => D.str ⟨#[c]⟩
/-- the items of a value -/
def itemsD : D → Option (List D)
  | .tup ds => some ds
  | .lst ds => some ds
  | .fls ds => some ds
  | .str x => some (signsD x)
  | _ => none
def optL {T : Type} (o : Option (List D)) (t : T) : Rs T (List D) := match o with
  | some d => .ok d t
  | none => .bad
def iVal {T : Type} (f : M T D) : M T (List D) := fun ρ t => bnd (f ρ t) fun a t => optL (itemsD a) t
def rng1 : List D → Option (List D)
  | [.int j] => if -(2 ^ 62) ≤ j ∧ j < 2 ^ 62 then some (rngD 0 j.toNat) else none
  | _ => none
def rng2 : List D → Option (List D)
  | [.int i, .int j] => if -(2 ^ 62) ≤ i ∧ i < 2 ^ 62 ∧ -(2 ^ 62) ≤ j ∧ j < 2 ^ 62 then some (rngD i (j - i).toNat) else none
  | _ => none
def iOp {T : Type} (op : List D → Option (List D)) (f : M T (List D)) : M T (List D) := fun ρ t => bnd (f ρ t) fun a t => optL (op a) t
def enums : List D → Option (List D)
  | [.lst ds] => some (enumD ds)
  | [.fls ds] => some (enumD ds)
  | _ => none
theorem optL_out {σ : L2.St} {G H : Hp} {R : It → Hp → Prop} {o : Option (List D)} {t : th.T} (h : OutI C W σ G H R (optL o t)) : ∃ ds, o = some ds ∧ ∀ J G' H', Step th G H G' H' → Wd th t G' H' → Runs C.Z J ds G' → R J H' := by
  cases o with
  | none => exact h.elim
  | some d => exact ⟨d, rfl, h⟩
theorem runs_str {Z : Zn} {x : Str} {G : Hp} : Runs Z (Its x) (signsD x) G := by
  have l : (signsD x).length = x.cps.size := by simp [signsD]
  have w := walk_str (z := x)
  refine ⟨fun i H hi _ => w.goes i H (by omega) trivial, fun H _ => l ▸ w.stops H trivial, fun i H v H' hi _ y th t G1 s1 w1 => ?_⟩
  obtain ⟨rfl, c, e, rfl⟩ := w.yields i H v H' (by omega) trivial y
  refine ⟨G1, .str ⟨#[c]⟩, ?_, .refl, w1, .str _⟩
  unfold signsD
  rw [List.getElem?_map, Array.getElem?_toList, e]
  rfl
/-- a tuple, a list, a text of data is walked -/
theorem pdi_val {e : Expr} {f : M th.T D} (hz : C.Z.K = X.K) (he : PD X C W e f) : PDi X C W tg e (iVal f) := by
  refine ⟨fun pins s σ H R I h => thn (he.run pins s σ H _ I (tI.chain (rel1 := IsD C.Z) h)) fun v s1 hv => ?_⟩
  obtain ⟨x, H1, I1, r1, ρ, G1, a, t1, w1, e1, ra, o⟩ := hv
  obtain ⟨ds, ed, q⟩ := optL_out o
  have fp : ∀ {b : Addr}, b ∈ [s1.heap.objs.size] → FpOk X pins H1 b := fun {b} hb => by
    have z : b = s1.heap.objs.size := by simpa using hb
    rw [z]
    exact I1.fpOk (Nat.le_refl _) (I1.hok.fresh (Nat.le_refl _))
  cases ra with
  | @tup a xs es h1 h2 =>
    cases ed; cases r1
    obtain ⟨its, rv, p, _⟩ := I1.tuple (hz ▸ sqT_mono w1.sub h1)
    refine wpAny_pyIter_tuple (show s1.heap.IsTuple a its.toArray from p) ⟨s1.heap.objs.size, [s1.heap.objs.size], _, _, H1, rfl, I1.kept (t' := s1.toks) fun b o e => Heap.get?_push_of_some _ e, turn_tuple a _, ⟨_, Heap.get?_push_size _ rfl, rfl, rfl⟩, fun b hb => fp hb, ?_⟩
    exact q _ G1 H1 .refl w1 (runs_of walk_tup h2 fun H' s' => hz ▸ sqT_mono s' h1)
  | @lst a xs es h1 h2 =>
    cases ed; cases r1
    obtain ⟨its, rv, p, _⟩ := I1.list (SqL.of (w1.sub _ _ h1))
    refine wpAny_pyIter_list p.isList ⟨s1.heap.objs.size, [s1.heap.objs.size], _, _, H1, rfl, I1.kept (t' := s1.toks) fun b o e => Heap.get?_push_of_some _ e, turn_list a _, ⟨_, Heap.get?_push_size _ rfl, rfl, rfl⟩, fun b hb => fp hb, ?_⟩
    exact q _ G1 H1 .refl w1 (runs_of walk_list h2 fun H' s' => SqL.of (s' _ _ h1))
  | @fls a xs es h1 h2 =>
    cases ed; cases r1
    obtain ⟨its, rv, p, _⟩ := I1.list (hz ▸ w1.sub.seq h1)
    refine wpAny_pyIter_list p.isList ⟨s1.heap.objs.size, [s1.heap.objs.size], _, _, H1, rfl, I1.kept (t' := s1.toks) fun b o e => Heap.get?_push_of_some _ e, turn_list a _, ⟨_, Heap.get?_push_size _ rfl, rfl, rfl⟩, fun b hb => fp hb, ?_⟩
    exact q _ G1 H1 .refl w1 (runs_of walk_list h2 fun H' s' => hz ▸ s'.seq h1)
  | str x =>
    cases ed
    obtain ⟨t, rfl⟩ := r1
    have qq := q (Its x) G1 H1 .refl w1 runs_str
    cases ha : x.cps.all (· < 128)
    · exact wpAny_pyIter_wide ha (pi_one (tk := s1.toks) I1 _ (turn_str _ x t "str_iterator" (.inr rfl)) ⟨_, Heap.get?_push_size _ rfl, rfl, rfl⟩ qq)
    · exact wpAny_pyIter_ascii ha (pi_one (tk := s1.toks) I1 _ (turn_str _ x t "str_ascii_iterator" (.inl rfl)) ⟨_, Heap.get?_push_size _ rfl, rfl, rfl⟩ qq)
  | _ => cases ed
theorem runI {op : List D → Option (List D)} {f : M th.T (List D)} {σ : L2.St} {H : Hp} {R : It → Hp → Prop} {q : List V → Hp → Prop} (h : tI C W (iOp op f) σ H R)
    (hq : ∀ (xs : List V) (H1 : Hp) (G1 : Hp) (as ds : List D) (t1 : th.T), Wd th t1 G1 H1 → IsDs C.Z G1 as xs → op as = some ds → (∀ J, Runs C.Z J ds G1 → R J H1) → q xs H1) : tDs C W f σ H q := by
  obtain ⟨ρ, G, t, w, e, o⟩ := tI.chain (rel1 := IsDs C.Z) h
  refine ⟨ρ, G, t, w, e, OutG.imp .refl o fun x H1 hx => ?_⟩
  obtain ⟨ρ1, G1, a, t1, w1, e1, r1, o1⟩ := hx
  obtain ⟨ds, ed, qq⟩ := optL_out o1
  exact hq x H1 G1 a ds t1 w1 r1 ed fun J r => qq J G1 H1 .refl w1 r
theorem pdi_rng1 {a : Expr} {f : M th.T (List D)} {p : Pos} (hg : Gl X "range") (hm : X.mg "range" = none) (ha : PDs X C W [a] f) (hs : starEach [a] X.env = [(false, eval a X.env)] := by rfl) : PDi X C W tg (.Call (.Name "range" p) [a] [] pos) (iOp rng1 f) :=
  PI.imp (pi_range1 hg hm ha hs) fun σ H R h => runI h fun xs H1 G1 as ds t1 w1 r1 ed q => by
    unfold rng1 at ed
    split at ed
    · split at ed
      · rename_i j c
        cases ed
        cases r1 with
        | cons h1 h2 => cases h1; cases h2; exact ⟨j, rfl, c.1, c.2, q _ runs_rng⟩
      · cases ed
    · cases ed
theorem pdi_rng2 {a b : Expr} {f : M th.T (List D)} {p : Pos} (hg : Gl X "range") (hm : X.mg "range" = none) (ha : PDs X C W [a, b] f) (hs : starEach [a, b] X.env = [(false, eval a X.env), (false, eval b X.env)] := by rfl) (hs2 : starEach [b] X.env = [(false, eval b X.env)] := by rfl) :
    PDi X C W tg (.Call (.Name "range" p) [a, b] [] pos) (iOp rng2 f) :=
  PI.imp (pi_range2 hg hm ha hs hs2) fun σ H R h => runI h fun xs H1 G1 as ds t1 w1 r1 ed q => by
    unfold rng2 at ed
    split at ed
    · split at ed
      · rename_i i j c
        cases ed
        cases r1 with
        | cons h1 h2 =>
          cases h2 with
          | cons h2 h3 => cases h1; cases h2; cases h3; exact ⟨i, j, rfl, ⟨c.1, c.2.1, c.2.2.1, c.2.2.2⟩, q _ runs_rng⟩
      · cases ed
    · cases ed
theorem pdi_enu {e : Expr} {f : M th.T (List D)} {p tpos : Pos} {elts : List Expr} {kk : Nat} (hz : C.Z.K = X.K) (hg : Gl X "enumerate") (hm : X.mg "enumerate" = none) (ha : PDs X C W [e] f) (hs : starEach [e] X.env = [(false, eval e X.env)] := by rfl) :
    PDi X C W (.Tuple elts kk tpos) (.Call (.Name "enumerate" p) [e] [] pos) (iOp enums f) :=
  PI.imp (pi_enum hg hm ha hs) fun σ H R h => runI h fun xs H1 G1 as ds t1 w1 r1 ed q => by
    unfold enums at ed
    split at ed
    · cases ed
      cases r1 with
      | cons h1 h2 =>
        cases h2
        cases h1 with
        | @lst a ys _ k1 k2 => exact ⟨a, ys, rfl, SqL.of (w1.sub _ _ k1), q _ (runs_enum k2 fun H' s' => SqL.of (s' _ _ k1))⟩
    · cases ed
      cases r1 with
      | cons h1 h2 =>
        cases h2
        cases h1 with
        | @fls a ys _ k1 k2 => exact ⟨a, ys, rfl, hz ▸ w1.sub.seq k1, q _ (runs_enum k2 fun H' s' => hz ▸ s'.seq k1)⟩
    · cases ed
/-! ### targets -/
/-- the target sets the slots vs as gm says -/
def TgR (C : Ct th) (vs : List Nat) (g : TG) (gm : D → Rho → Option Rho) : Prop := ∀ (d : D) (v : V) (G H : Hp) (ρ ρ' : Rho) (σ : L2.St) (Q : L2.St → Hp → Prop), gm d ρ = some ρ' → Same G H → IsD C.Z G d v → EnvR C G H ρ σ →
  (∀ σ', EnvR C G H ρ' σ' → wipe σ' vs = wipe σ vs → Q σ' H) → g v σ H Q
def TgRs (C : Ct th) (vs : List Nat) (g : TGs) (gm : List D → Rho → Option Rho) : Prop := ∀ (d : List D) (v : List V) (G H : Hp) (ρ ρ' : Rho) (σ : L2.St) (Q : L2.St → Hp → Prop), gm d ρ = some ρ' → Same G H → IsDs C.Z G d v → EnvR C G H ρ σ →
  (∀ σ', EnvR C G H ρ' σ' → wipe σ' vs = wipe σ vs → Q σ' H) → g v σ H Q
def gN (i : Nat) : D → Rho → Option Rho := fun d ρ => some (ρ.set i (.va d))
def gsNil : List D → Rho → Option Rho := fun ds ρ => match ds with
  | [] => some ρ
  | _ => none
def gsCons (g : D → Rho → Option Rho) (k : List D → Rho → Option Rho) : List D → Rho → Option Rho := fun ds ρ => match ds with
  | d :: ds => (match g d ρ with
    | some ρ1 => k ds ρ1
    | none => none)
  | [] => none
def gT (n : Nat) (k : List D → Rho → Option Rho) : D → Rho → Option Rho := fun d ρ => match d with
  | .tup ds => if ds.length = n then k ds ρ else none
  | _ => none
theorem wipe_set {σ : L2.St} {i : Nat} {v : Option V} : ∀ {vs : List Nat}, i ∈ vs → wipe (σ.set i v) vs = wipe σ vs
  | [], h => absurd h List.not_mem_nil
  | j :: vs, h => by
    unfold wipe
    by_cases hm : i ∈ vs
    · rw [wipe_set hm]
    · have e : i = j := (List.mem_cons.mp h).resolve_right hm
      subst e
      have comm : ∀ (vs : List Nat), i ∉ vs → wipe (σ.set i v) vs = (wipe σ vs).set i v := by
        intro vs
        induction vs with
        | nil => intro _; rfl
        | cons j vs ih =>
          intro h
          have h1 : i ≠ j := fun z => h (z ▸ List.mem_cons_self)
          have h2 : i ∉ vs := fun z => h (List.mem_cons_of_mem _ z)
          unfold wipe
          rw [ih h2, List.set_comm _ _ h1]
      rw [comm vs hm, List.set_set]
theorem tg_name {i : Nat} {vs : List Nat} (h : i ∈ vs) : TgR C vs (gName i) (gN i) := fun d v G H ρ ρ' σ Q e _ r en q => by
  cases e
  exact q _ (en.setva i r) (wipe_set h)
theorem tgs_nil {vs : List Nat} : TgRs C vs gNil gsNil := fun d v G H ρ ρ' σ Q e _ r en q => by
  cases r with
  | nil => cases e; exact ⟨rfl, q σ en rfl⟩
  | cons _ _ => cases e
theorem tgs_cons {vs : List Nat} {g : TG} {gs : TGs} {gm : D → Rho → Option Rho} {km : List D → Rho → Option Rho} (h : TgR C vs g gm) (k : TgRs C vs gs km) : TgRs C vs (gCons g gs) (gsCons gm km) := fun d v G H ρ ρ' σ Q e s r en q => by
  cases r with
  | nil => cases e
  | @cons d v ds us r1 r2 =>
    unfold gsCons at e
    simp only at e
    cases h1 : gm d ρ with
    | none => rw [h1] at e; cases e
    | some ρ1 =>
      rw [h1] at e
      exact ⟨v, us, rfl, h d v G H ρ ρ1 σ _ h1 s r1 en fun σ1 en1 w1 => k ds us G H ρ1 ρ' σ1 _ e s r2 en1 fun σ2 en2 w2 => q σ2 en2 (w2.trans w1)⟩
theorem tg_tup {vs : List Nat} {gs : TGs} {km : List D → Rho → Option Rho} {n : Nat} {K : PySem.W.Frag} (hz : C.Z.K = K) (k : TgRs C vs gs km) : TgR C vs (gTup K n gs) (gT n km) := fun d v G H ρ ρ' σ Q e s r en q => by
  unfold gT at e
  split at e
  · split at e
    · rename_i ds c
      cases r with
      | @tup a xs _ h1 h2 => exact ⟨a, xs, rfl, hz ▸ sqT_mono s h1, h2.length ▸ c, k _ xs G H ρ ρ' σ Q e s h2 en q⟩
    · cases e
  · cases e
/-! ### for -/
def loopF {T : Type} (gm : D → Rho → Option Rho) (b : MS T) : List D → MS T
  | [], ρ, t => .nx ρ t
  | d :: ds, ρ, t => match gm d ρ with
    | none => .bad
    | some ρ1 => (match b ρ1 t with
      | .nx ρ2 t2 => loopF gm b ds ρ2 t2
      | .ct ρ2 t2 => loopF gm b ds ρ2 t2
      | .bk ρ2 t2 => .nx ρ2 t2
      | r => r)
def sFor {T : Type} (it : M T (List D)) (gm : D → Rho → Option Rho) (b : MS T) : MS T := fun ρ t => sB (it ρ t) ρ fun ds t => loopF gm b ds ρ t
theorem psd_for {iter : Expr} {body : List Stmt} {it : M th.T (List D)} {g : TG} {gm : D → Rho → Option Rho} {b : MS th.T} {vs : List Nat} (hp : PassesOwn (model X.prog X.w) X.A X.env X.xe) (hc : X.calm = true) (hi : PDi X C W tg iter it) (hg : PG X tg g) (ht : TgR C vs g gm) (hb : PSds X C W body b)
    (hs : ∀ x, foldedSetIterable iter X.env x = pure x := by intro _; rfl) : PSd X C W (.For tg iter body [] pos) (sFor it gm b) := PS.imp (ps_for hp hc hi hg hb hs) fun D' σ H h => by
  obtain ⟨ρ, G, t, at_, e, o⟩ := h
  have o : OutS C W D' G H (sB (it ρ t) ρ fun ds t => loopF gm b ds ρ t) := o
  refine ⟨ρ, G, t, at_.w, e, ?_⟩
  cases hf : it ρ t with
  | er c p t1 =>
    rw [hf] at o
    exact fun G' H' Ca dx s w q => o σ G' H' Ca dx (at_.go s w) (e.step s) q
  | bad => rw [hf] at o; exact o.elim
  | ok ds t1 =>
    rw [hf] at o
    intro J G1 H1 s w r
    have o1 : OutS C W D' G1 H1 (loopF gm b ds ρ t1) := OutS.from (at_.go s w) o
    have wk : Walk J ds.length (fun H2 => Same G1 H2) (fun i H x H' => Same G1 H → ∀ (th : Th) (t : th.T) (G2 : Hp), Same G1 G2 → Wd th t G2 H → ∃ G3 d, ds[i]? = some d ∧ Step th G2 H G3 H' ∧ Wd th t G3 H' ∧ IsD C.Z G3 d x) :=
      ⟨r.goes, r.stops, fun i H x H' hi s y _ => r.yields i H x H' hi s y⟩
    refine for_it wk (fun i σ H => ∃ ρ G2 t2, At C G1 H1 t2 G2 H ∧ EnvR C G2 H ρ σ ∧ OutS C W D' G2 H (loopF gm b (ds.drop i) ρ t2)) ?_ ?_ ?_ ?_
    · exact ⟨ρ, G1, t1, (at_.go s w).here, e.step s, o1⟩
    · rintro i σ H hi ⟨ρ2, G2, t2, a2, _, _⟩
      exact a2.sub.trans a2.w.sub
    · rintro i x σ2 H2 H3 hi ⟨ρ2, G2, t2, a2, e2, o2⟩ y
      obtain ⟨G3, d, ed, s3, w3, r3⟩ := y (a2.sub.trans a2.w.sub) th t2 G2 a2.sub a2.w
      have hd : ds.drop i = d :: ds.drop (i + 1) := by
        rw [List.drop_eq_getElem_cons hi]
        rw [List.getElem?_eq_getElem hi] at ed
        cases ed; rfl
      rw [hd] at o2
      unfold loopF at o2
      cases hg' : gm d ρ2 with
      | none => simp only [hg'] at o2; exact o2.elim
      | some ρ3 =>
        simp only [hg'] at o2
        have a3 := a2.go s3 w3
        refine ht d x G3 H3 ρ2 ρ3 σ2 _ hg' w3.sub r3 (e2.step s3) fun σ4 e4 _ => ⟨ρ3, G3, t2, a3.here, e4, ?_⟩
        have o3 := OutS.from (a2.here.go s3 w3) o2
        cases hb' : b ρ3 t2 with
        | nx ρ5 t5 =>
          simp only [hb'] at o3
          exact fun σ' G' H' a' e' => ⟨ρ5, G', t5, a3.re a', e', OutS.from a' o3⟩
        | ct ρ5 t5 =>
          simp only [hb'] at o3
          exact fun σ' G' H' a' e' => ⟨ρ5, G', t5, a3.re a', e', OutS.from a' o3⟩
        | bk ρ5 t5 => simp only [hb'] at o3; exact o3
        | rt d5 t5 => simp only [hb'] at o3; exact o3
        | er c p ρ5 t5 => simp only [hb'] at o3; exact o3
        | bad => simp only [hb'] at o3; exact o3
    · rintro σ2 H2 ⟨ρ2, G2, t2, a2, e2, o2⟩
      rw [List.drop_length] at o2
      exact o2 σ2 G2 H2 ⟨fun _ _ e => e, a2.st, a2.w⟩ e2
end
end DW
set_option Elab.async false
set_option linter.all false
set_option maxRecDepth 100000
set_option maxHeartbeats 2000000
/-! DW9: comprehensions, dict displays, own lists. -/
namespace DW
open PySem PySem.Spec PyProof.Rows L2
def wipeR (ρ : Rho) : List Nat → Rho
  | [] => ρ
  | v :: vs => (wipeR ρ vs).set v .un
section
variable {T : Type}
def lcF (gm : D → Rho → Option Rho) (c : M T Bool) (f : M T D) (ρ : Rho) : List D → List D → T → Rs T (List D)
  | [], acc, t => .ok acc t
  | d :: ds, acc, t => match gm d ρ with
    | none => .bad
    | some ρ1 => (match c ρ1 t with
      | .ok true t1 => (match f ρ1 t1 with
        | .ok y t2 => if acc.length < sizeLine then lcF gm c f ρ ds (acc ++ [y]) t2 else .bad
        | _ => .bad)
      | .ok false t1 => lcF gm c f ρ ds acc t1
      | _ => .bad)
def okL : Rs T (List D) → Rs T D
  | .ok ys t => .ok (.lst ys) t
  | _ => .bad
def eLc (vs : List Nat) (it : M T (List D)) (gm : D → Rho → Option Rho) (c : M T Bool) (f : M T D) : M T D := fun ρ t => bnd (it ρ t) fun ds t1 => okL (lcF gm c f (wipeR ρ vs) ds [] t1)
def bYes : M T Bool := fun _ t => .ok true t
end
section
variable {th : Th} {X : Cx} {C : Ct th} {W : WX} {pos : Pos} {tg : Expr}
theorem EnvR.unset {G H : Hp} {ρ : Rho} {σ : L2.St} (e : EnvR C G H ρ σ) (i : Nat) : EnvR C G H (ρ.set i .un) (σ.set i none) := by
  refine ⟨by rw [List.length_set, List.length_set]; exact e.len, fun j sl o h1 h2 => ?_, fun j j' sl sl' a h1 h2 k1 k2 h3 h4 => ?_⟩
  · by_cases hj : i = j
    · subst hj
      by_cases hl : i < ρ.length
      · rw [List.getElem?_set_self hl] at h1
        cases h1; trivial
      · rw [List.getElem?_eq_none (by rw [List.length_set]; omega)] at h1; cases h1
    · rw [List.getElem?_set_ne hj] at h1 h2
      exact e.at_ j sl o h1 h2
  · have ne : ∀ {j : Nat} {sl : Sl}, (ρ.set i .un)[j]? = some sl → sl.isOwn = true → i ≠ j := fun {j sl} h k z => by
      subst z
      by_cases hl : i < ρ.length
      · rw [List.getElem?_set_self hl] at h; cases h; cases k
      · rw [List.getElem?_eq_none (by rw [List.length_set]; omega)] at h; cases h
    have n1 := ne h1 k1
    have n2 := ne h2 k2
    rw [List.getElem?_set_ne n1] at h1 h3
    rw [List.getElem?_set_ne n2] at h2 h4
    exact e.sep j j' sl sl' a h1 h2 k1 k2 h3 h4
theorem EnvR.wipe {G H : Hp} {ρ : Rho} {σ : L2.St} (e : EnvR C G H ρ σ) : ∀ vs : List Nat, EnvR C G H (wipeR ρ vs) (L2.wipe σ vs)
  | [] => e
  | v :: vs => (EnvR.wipe e vs).unset v
theorem EnvR.len' {G H : Hp} {ρ : Rho} {σ : L2.St} (e : EnvR C G H ρ σ) : ρ.length = σ.length := e.len
/-- a new list that is being filled is not of the state -/
theorem wipe_sub {σ : L2.St} {vs : List Nat} : ∀ ws : List Nat, (∀ i ∈ ws, i ∈ vs) → L2.wipe (L2.wipe σ ws) vs = L2.wipe σ vs
  | [], _ => rfl
  | w :: ws, h => by
    show L2.wipe ((L2.wipe σ ws).set w none) vs = _
    rw [wipe_set (h w List.mem_cons_self)]
    exact wipe_sub ws fun i m => h i (List.mem_cons_of_mem _ m)
theorem wipe_wipe (σ : L2.St) (vs : List Nat) : L2.wipe (L2.wipe σ vs) vs = L2.wipe σ vs := wipe_sub vs fun _ h => h
theorem Wd.notmu {t : th.T} {G H : Hp} (w : Wd th t G H) {p : Addr} (h : H p = none) : ¬ th.mu p := fun m => (th.mem w.r m).1 h
abbrev W0 : WX := fun _ _ _ _ => False
/-- what stands while a comprehension runs: its list at p holds acc -/
structure Lc (C : Ct th) (p : Addr) (G1 H1 G H : Hp) (t : th.T) (acc : List D) : Prop where
  sub : Same G1 G
  keep : ∀ a o, H1 a = some o → ¬ th.mu a → H a = some o
  dom : ∀ a, H1 a ≠ none → H a ≠ none
  old : ∀ a, H1 a ≠ none → G a = G1 a
  w : Wd th t G H
  gp : G p = none
  at_ : ∃ xs, H p = some (.lst xs) ∧ IsDs C.Z G acc xs
theorem Lc.step {p : Addr} {G1 H1 G H : Hp} {t : th.T} {acc : List D} (l : Lc C p G1 H1 G H t acc) : Step th G1 H1 G H := ⟨l.sub, l.keep, l.dom, l.old⟩
theorem Lc.go {p : Addr} {G1 H1 G H G' H' : Hp} {t t' : th.T} {acc : List D} (l : Lc C p G1 H1 G H t acc) (np : ¬ th.mu p) (s : Step th G H G' H') (w : Wd th t' G' H') : Lc C p G1 H1 G' H' t' acc := by
  obtain ⟨xs, hx, hd⟩ := l.at_
  have st := l.step.trans s
  exact ⟨st.sub, st.keep, st.dom, st.old, w, (s.old p (by rw [hx]; exact fun z => nomatch z)).trans l.gp, xs, s.keep p _ hx np, hd.mono s.sub⟩
theorem Lc.push {p : Addr} {G1 H1 G H : Hp} {t : th.T} {acc : List D} {xs : List V} {d : D} {v : V} (l : Lc C p G1 H1 G H t acc) (h1 : H1 p = none) (np : ¬ th.mu p) (hx : H p = some (.lst xs)) (hd : IsDs C.Z G acc xs) (r : IsD C.Z G d v) :
    Lc C p G1 H1 G (upd H p (.lst (xs ++ [v]))) t (acc ++ [d]) := by
  have ne : ∀ {a : Addr}, H1 a ≠ none → a ≠ p := fun {a} h z => h (z ▸ h1)
  refine ⟨l.sub, fun a o e n => by rw [upd_ne (ne (by rw [e]; exact fun z => nomatch z))]; exact l.keep a o e n, fun a e => by rw [upd_ne (ne e)]; exact l.dom a e, l.old, ⟨fun a o e => ?_, ?_⟩, l.gp, _, upd_same, hd.append (.cons r .nil)⟩
  · have : a ≠ p := fun z => by rw [z, l.gp] at e; cases e
    rw [upd_ne this]; exact l.w.sub a o e
  · exact th.stab l.w.r (fun _ _ e => e) (fun _ _ => rfl) fun a m => upd_ne fun z => np (z ▸ m)
/-- the list done: it is data -/
theorem Lc.done {p : Addr} {G1 H1 G H : Hp} {t : th.T} {acc : List D} (l : Lc C p G1 H1 G H t acc) (h1 : H1 p = none) (np : ¬ th.mu p) : ∃ G', Step th G1 H1 G' H ∧ Wd th t G' H ∧ IsD C.Z G' (.lst acc) (.ref p) := by
  obtain ⟨xs, hx, hd⟩ := l.at_
  have sb : Same G (upd G p (.lst xs)) := fun a o e => by
    rw [upd_ne (fun z => by rw [z, l.gp] at e; cases e)]; exact e
  refine ⟨upd G p (.lst xs), ⟨l.sub.trans sb, l.keep, l.dom, fun a e => ?_⟩, ⟨fun a o e => ?_, ?_⟩, .lst upd_same (hd.mono sb)⟩
  · have : a ≠ p := fun z => e (by rw [z]; exact h1)
    rw [upd_ne this]; exact l.old a e
  · by_cases z : a = p
    · subst z; rw [upd_same] at e; cases e; exact hx
    · rw [upd_ne z] at e; exact l.w.sub a o e
  · exact th.stab l.w.r sb (fun a m => upd_ne fun z => np (z ▸ m)) fun _ _ => rfl
theorem Lc.start {G1 H1 : Hp} {t : th.T} (w : Wd th t G1 H1) {p : Addr} (h : H1 p = none) : Lc C p G1 H1 G1 (upd H1 p (.lst [])) t [] := by
  have s := Step.newO (th := th) (G := G1) (o := .lst []) h
  exact ⟨s.sub, s.keep, s.dom, s.old, w.newO h, w.sub.free h, [], upd_same, .nil⟩
/-- a comprehension's run -/
theorem lc_run {it : M th.T (List D)} {g : TG} {gm : D → Rho → Option Rho} {c : M th.T Bool} {f : M th.T D} {vs : List Nat} {σ : L2.St} {H : Hp} {Q : VK} (htg : TgR C vs g gm) (h : tD C W (eLc vs it gm c f) σ H Q) : tLc (tI C W it) g (tB C W0 c) (tD C W0 f) vs σ H Q := by
  obtain ⟨ρ, G, t, w, e, o⟩ := h
  have o : OutG C W (IsD C.Z) σ G H Q (DW.bnd (it ρ t) fun ds t1 => okL (lcF gm c f (wipeR ρ vs) ds [] t1)) := o
  refine ⟨ρ, G, t, w, e, ?_⟩
  cases hf : it ρ t with
  | er cn p t1 => rw [hf] at o; exact o
  | bad => rw [hf] at o; exact o
  | ok ds t1 =>
    rw [hf] at o
    intro J G1 H1 s w1 r p hp
    have np := w1.notmu hp
    have o1 : OutG C W (IsD C.Z) σ G1 H1 Q (okL (lcF gm c f (wipeR ρ vs) ds [] t1)) := OutG.imp s o fun _ _ z => z
    have ew : EnvR C G1 H1 (wipeR ρ vs) (L2.wipe σ vs) := (e.step s).wipe _
    have wk : Walk J ds.length (fun H2 => Same G1 H2) (fun i H x H' => Same G1 H → ∀ (th : Th) (t : th.T) (G2 : Hp), Same G1 G2 → Wd th t G2 H → ∃ G3 d, ds[i]? = some d ∧ Step th G2 H G3 H' ∧ Wd th t G3 H' ∧ IsD C.Z G3 d x) :=
      ⟨r.goes, r.stops, fun i H x H' hi s y _ => r.yields i H x H' hi s y⟩
    refine lc_it wk (fun i H => ∃ G2 t2 acc, Lc C p G1 H1 G2 H t2 acc ∧ OutG C W (IsD C.Z) σ G1 H1 Q (okL (lcF gm c f (wipeR ρ vs) (ds.drop i) acc t2))) ?_ ?_ ?_ ?_
    · exact ⟨G1, t1, [], .start w1 hp, o1⟩
    · rintro i H hi ⟨G2, t2, acc, l, _⟩
      exact l.sub.trans l.w.sub
    · rintro i x H2 H3 hi ⟨G2, t2, acc, l, o2⟩ y
      obtain ⟨G3, d, ed, s3, w3, r3⟩ := y (l.sub.trans l.w.sub) th t2 G2 l.sub l.w
      have hd : ds.drop i = d :: ds.drop (i + 1) := by
        rw [List.drop_eq_getElem_cons hi]
        rw [List.getElem?_eq_getElem hi] at ed
        cases ed; rfl
      rw [hd] at o2
      unfold lcF at o2
      have l3 := l.go np s3 w3
      cases hg' : gm d (wipeR ρ vs) with
      | none => simp only [hg'] at o2; exact o2.elim
      | some ρ3 =>
        simp only [hg'] at o2
        refine htg d x G3 H3 _ ρ3 _ _ hg' w3.sub r3 (ew.step l3.step) fun σ4 e4 h4 => ⟨h4.trans ?_, ρ3, G3, t2, w3, e4, ?_⟩
        · exact (wipe_wipe σ vs)
        · cases hc' : c ρ3 t2 with
          | er _ _ _ => simp only [hc'] at o2; exact o2.elim
          | bad => simp only [hc'] at o2; exact o2.elim
          | ok b t4 =>
            intro b' G4 H4 s4 w4 eb
            subst eb
            have l4 := l3.go np s4 w4
            cases b' with
            | false =>
              simp only [hc'] at o2
              show (if false = true then _ else _)
              rw [if_neg Bool.false_ne_true]
              exact ⟨G4, t4, acc, l4, o2⟩
            | true =>
              simp only [hc'] at o2
              show (if true = true then _ else _)
              rw [if_pos rfl]
              refine ⟨ρ3, G4, t4, w4, e4.step s4, ?_⟩
              cases hf' : f ρ3 t4 with
              | er _ _ _ => simp only [hf'] at o2; exact o2.elim
              | bad => simp only [hf'] at o2; exact o2.elim
              | ok z t5 =>
                simp only [hf'] at o2
                intro v G5 H5 s5 w5 r5
                have l5 := l4.go np s5 w5
                obtain ⟨xs, hx, hxd⟩ := l5.at_
                split at o2
                · rename_i hlt
                  exact ⟨xs, hx, by rw [← hxd.length]; exact hlt, G5, t5, acc ++ [z], l5.push hp np hx hxd r5, o2⟩
                · exact o2.elim
    · rintro H2 ⟨G2, t2, acc, l, o2⟩
      rw [List.drop_length] at o2
      obtain ⟨G', s', w', r'⟩ := l.done hp np
      exact o2 _ G' H2 s' w' r'
/-- [elt for tg in iter if c] -/
theorem pd_lc {elt iter : Expr} {ifs : List Expr} {scope : Scope} {own : List (Str × Nat)} {it : M th.T (List D)} {g : TG} {gm : D → Rho → Option Rho} {c : M th.T Bool} {f : M th.T D} (hc : X.calm = true) (hN : X.N.Nodup) (hi : PDi X C W tg iter it) (ok : BlkOk X.N X.env.scope scope own)
    (hg : ∀ (s : Shared) (H : Hp) (a : Addr) (cl : List (Str × Addr)) (fp : List Addr), PG (X.blk s H scope (compEnvC scope cl a X.env) fp) tg g) (htg : TgR C (own.map (·.2)) g gm)
    (ht : ∀ (s : Shared) (H : Hp) (a : Addr) (cl : List (Str × Addr)) (fp : List Addr), PTs (X.blk s H scope (compEnvC scope cl a X.env) fp) ifs (tB C W0 c))
    (he : ∀ (s : Shared) (H : Hp) (a : Addr) (cl : List (Str × Addr)) (fp : List Addr), PD (X.blk s H scope (compEnvC scope cl a X.env) fp) C W0 elt f) (hs : ∀ x, foldedSetIterable iter X.env x = pure x := by intro _; rfl) :
    PD X C W (.ListComp elt [⟨tg, iter, ifs, 0⟩] scope pos) (eLc (own.map (·.2)) it gm c f) :=
  PE.imp (pe_lc hc hN hi ok hg ht he hs) fun _ _ _ h => lc_run htg h
end
end DW
set_option Elab.async false
set_option linter.all false
set_option maxRecDepth 100000
set_option maxHeartbeats 2000000
/-! DW10: built-ins by data; subscripts, slices; dict displays; own lists; targets. -/
namespace DW
open PySem PySem.Spec PyProof.Rows L2
/-! ### built-ins -/
def lenD : List D → Option D
  | [.tup ds] => some (.int ds.length)
  | [.lst ds] => some (.int ds.length)
  | [.fls ds] => some (.int ds.length)
  | [.str x] => if x.length ≤ sizeLine then some (.int x.length) else none
  | _ => none
def intD : List D → Option D
  | [.int i] => some (.int i)
  | [.bl b] => some (.int (if b then 1 else 0))
  | _ => none
def absD : List D → Option D
  | [.int i] => some (.int (if i < 0 then -i else i))
  | _ => none
def listD : List D → Option D
  | [.tup ds] => some (.lst ds)
  | [.lst ds] => some (.lst ds)
  | [.fls ds] => some (.lst ds)
  | _ => none
def tupleD : List D → Option D
  | [.tup ds] => some (.tup ds)
  | [.lst ds] => some (.tup ds)
  | [.fls ds] => some (.tup ds)
  | _ => none
def bools : List D → Option (List Bool)
  | [] => some []
  | .bl b :: ds => (match bools ds with
    | some bs => some (b :: bs)
    | none => none)
  | _ :: _ => none
def allD : List D → Option D
  | [.lst ds] => (match bools ds with
    | some bs => some (.bl (bs.all id))
    | none => none)
  | _ => none
def anyD : List D → Option D
  | [.lst ds] => (match bools ds with
    | some bs => some (.bl (bs.any id))
    | none => none)
  | _ => none
theorem bools_v {Z : Zn} {G : Hp} : ∀ {ds : List D} {bs : List Bool} {xs : List V}, bools ds = some bs → IsDs Z G ds xs → xs = bs.map V.bl
  | [], bs, xs, e, h => by cases e; cases h; rfl
  | d :: ds, bs, xs, e, h => by
    cases h with
    | cons h1 h2 =>
      cases d with
      | bl b =>
        unfold bools at e
        split at e
        · rename_i cs e2
          cases e
          cases h1
          rw [bools_v e2 h2]; rfl
        · cases e
      | _ => cases e
section
variable {X : Cx} {Z : Zn}
theorem clen (hz : Z.K = X.K) : CallR X (.builtin "len") (rC Z lenD) := by
  intro pins s σ H xs us Q I r h
  obtain ⟨th, t, G, ds, d, w, hd, e, q⟩ := h
  unfold lenD at e
  split at e
  · cases e
    cases hd with
    | cons h1 h2 =>
      cases h2
      cases h1 with
      | @tup a ys _ k1 k2 =>
        refine call_len_seq pins s σ H _ us Q I r ⟨a, ys, rfl, .inr (hz ▸ sqT_mono w.sub k1), ?_⟩
        rw [← k2.length]; exact put_same w (.int _) q
  · cases e
    cases hd with
    | cons h1 h2 =>
      cases h2
      cases h1 with
      | @lst a ys _ k1 k2 =>
        refine call_len_seq pins s σ H _ us Q I r ⟨a, ys, rfl, .inl (SqL.of (w.sub _ _ k1)), ?_⟩
        rw [← k2.length]; exact put_same w (.int _) q
  · cases e
    cases hd with
    | cons h1 h2 =>
      cases h2
      cases h1 with
      | @fls a ys _ k1 k2 =>
        refine call_len_seq pins s σ H _ us Q I r ⟨a, ys, rfl, .inl (hz ▸ w.sub.seq k1), ?_⟩
        rw [← k2.length]; exact put_same w (.int _) q
  · split at e
    · rename_i c
      cases e
      cases hd with
      | cons h1 h2 =>
        cases h2; cases h1
        exact call_len_str pins s σ H _ us Q I r ⟨_, rfl, c, put_same w (.int _) q⟩
    · cases e
  · cases e
theorem cint : CallR X (.type "int") (rC Z intD) := by
  intro pins s σ H xs us Q I r h
  obtain ⟨th, t, G, ds, d, w, hd, e, q⟩ := h
  unfold intD at e
  split at e
  · cases e
    cases hd with
    | cons h1 h2 => cases h2; cases h1; exact call_int1 pins s σ H _ us Q I r (.inl ⟨_, rfl, put_same w (.int _) q⟩)
  · cases e
    cases hd with
    | cons h1 h2 => cases h2; cases h1; exact call_int1 pins s σ H _ us Q I r (.inr ⟨_, rfl, put_same w (.int _) q⟩)
  · cases e
theorem cabs : CallR X (.builtin "abs") (rC Z absD) := by
  intro pins s σ H xs us Q I r h
  obtain ⟨th, t, G, ds, d, w, hd, e, q⟩ := h
  unfold absD at e
  split at e
  · cases e
    cases hd with
    | cons h1 h2 => cases h2; cases h1; exact call_abs pins s σ H _ us Q I r ⟨_, rfl, put_same w (.int _) q⟩
  · cases e
theorem clist (hz : Z.K = X.K) : CallR X (.type "list") (rC Z listD) := by
  intro pins s σ H xs us Q I r h
  obtain ⟨th, t, G, ds, d, w, hd, e, q⟩ := h
  unfold listD at e
  split at e
  · cases e
    cases hd with
    | cons h1 h2 =>
      cases h2
      cases h1 with
      | @tup a ys _ k1 k2 => exact call_list_of pins s σ H _ us Q I r ⟨a, ys, rfl, .inr (hz ▸ sqT_mono w.sub k1), fun p hp => put_lst w k2 q hp⟩
  · cases e
    cases hd with
    | cons h1 h2 =>
      cases h2
      cases h1 with
      | @lst a ys _ k1 k2 => exact call_list_of pins s σ H _ us Q I r ⟨a, ys, rfl, .inl (SqL.of (w.sub _ _ k1)), fun p hp => put_lst w k2 q hp⟩
  · cases e
    cases hd with
    | cons h1 h2 =>
      cases h2
      cases h1 with
      | @fls a ys _ k1 k2 => exact call_list_of pins s σ H _ us Q I r ⟨a, ys, rfl, .inl (hz ▸ w.sub.seq k1), fun p hp => put_lst w k2 q hp⟩
  · cases e
theorem ctuple (hz : Z.K = X.K) : CallR X (.type "tuple") (rC Z tupleD) := by
  intro pins s σ H xs us Q I r h
  obtain ⟨th, t, G, ds, d, w, hd, e, q⟩ := h
  unfold tupleD at e
  split at e
  · cases e
    cases hd with
    | cons h1 h2 =>
      cases h2
      cases h1 with
      | @tup a ys _ k1 k2 => exact call_tuple_of pins s σ H _ us Q I r ⟨a, ys, rfl, .inr ⟨hz ▸ sqT_mono w.sub k1, put_same w (.tup k1 k2) q⟩⟩
  · cases e
    cases hd with
    | cons h1 h2 =>
      cases h2
      cases h1 with
      | @lst a ys _ k1 k2 => exact call_tuple_of pins s σ H _ us Q I r ⟨a, ys, rfl, .inl ⟨SqL.of (w.sub _ _ k1), fun p hp => put_tup w k2 q hp⟩⟩
  · cases e
    cases hd with
    | cons h1 h2 =>
      cases h2
      cases h1 with
      | @fls a ys _ k1 k2 => exact call_tuple_of pins s σ H _ us Q I r ⟨a, ys, rfl, .inl ⟨hz ▸ w.sub.seq k1, fun p hp => put_tup w k2 q hp⟩⟩
  · cases e
theorem call (hc : X.calm = true) : CallR X (.builtin "all") (rC Z allD) := by
  intro pins s σ H xs us Q I r h
  obtain ⟨th, t, G, ds, d, w, hd, e, q⟩ := h
  unfold allD at e
  split at e
  · split at e
    · rename_i es bs eb
      cases e
      cases hd with
      | cons h1 h2 =>
        cases h2
        cases h1 with
        | @lst a ys _ k1 k2 =>
          obtain rfl := bools_v eb k2
          exact cr_all hc pins s σ H _ us Q I r ⟨a, bs, rfl, SqL.of (w.sub _ _ k1), put_same w (.bl _) q⟩
    · cases e
  · cases e
theorem cany (hc : X.calm = true) : CallR X (.builtin "any") (rC Z anyD) := by
  intro pins s σ H xs us Q I r h
  obtain ⟨th, t, G, ds, d, w, hd, e, q⟩ := h
  unfold anyD at e
  split at e
  · split at e
    · rename_i es bs eb
      cases e
      cases hd with
      | cons h1 h2 =>
        cases h2
        cases h1 with
        | @lst a ys _ k1 k2 =>
          obtain rfl := bools_v eb k2
          exact cr_any hc pins s σ H _ us Q I r ⟨a, bs, rfl, SqL.of (w.sub _ _ k1), put_same w (.bl _) q⟩
    · cases e
  · cases e
theorem crepr (hz : Z.K = X.K) (hg : X.A.guards = some []) (hu : X.A.units + 110 < cLine) : CallR X (.builtin "repr") (rC Z reprD) := by
  intro pins s σ H xs us Q I r h
  obtain ⟨th, t, G, ds, d, w, hd, e, q⟩ := h
  unfold reprD at e
  split at e
  · rename_i d0
    cases er : reprS d0 with
    | none => rw [er] at e; cases e
    | some x =>
      rw [er] at e; cases e
      obtain ⟨v, rfl, hv⟩ := hd.one
      exact call_reprD hz hg hu pins s σ H _ us Q I r ⟨G, d0, x, v, w.sub, rfl, hv, er, fun H' s' => q _ G H' (.same s') (w.same s') (.str x)⟩
  · cases e
/-! ### subscripts -/
def ixD (a b : D) : Option D := match b with
  | .int i => (match a with
    | .tup ds => atI ds i
    | .lst ds => atI ds i
    | .fls ds => atI ds i
    | .str z => if z.length ≤ sizeLine then (match atI z.cps.toList i with
      | some c => some (.str ⟨#[c]⟩)
      | none => none) else none
    | _ => none)
  | _ => none
theorem atI_isD {G : Hp} {ds : List D} {xs : List V} {i : Int} {d : D} (h : IsDs Z G ds xs) (e : atI ds i = some d) : ∃ v, atI xs i = some v ∧ IsD Z G d v := by
  unfold atI at e ⊢
  rw [← h.length]
  cases hi : ixN ds.length i with
  | none => rw [hi] at e; cases e
  | some j =>
    rw [hi] at e
    obtain ⟨v, h1, h2⟩ := h.get (i := j) (d := d) e
    exact ⟨v, h1, h2⟩
theorem oix (hz : Z.K = X.K) : IxR X (rG Z ixD) := by
  intro value slice pins s σ H x y v u Q I rx ry h hs
  obtain ⟨th, t, G, a, b, d, w, ha, hb, e, q⟩ := h
  unfold ixD at e
  split at e
  · rename_i i
    cases hb
    cases ha with
    | @tup p xs ds k1 k2 =>
      obtain ⟨z, h1, h2⟩ := atI_isD k2 e
      exact ix_seq value slice pins s σ H _ _ v u Q I rx ry (.inr (.inl ⟨p, xs, i, z, rfl, rfl, hz ▸ sqT_mono w.sub k1, h1, put_same w h2 q⟩)) hs
    | @lst p xs ds k1 k2 =>
      obtain ⟨z, h1, h2⟩ := atI_isD k2 e
      exact ix_seq value slice pins s σ H _ _ v u Q I rx ry (.inl ⟨p, xs, i, z, rfl, rfl, SqL.of (w.sub _ _ k1), h1, put_same w h2 q⟩) hs
    | @fls p xs ds k1 k2 =>
      obtain ⟨z, h1, h2⟩ := atI_isD k2 e
      exact ix_seq value slice pins s σ H _ _ v u Q I rx ry (.inl ⟨p, xs, i, z, rfl, rfl, hz ▸ w.sub.seq k1, h1, put_same w h2 q⟩) hs
    | str z =>
      have e2 : (if z.length ≤ sizeLine then (match atI z.cps.toList i with
        | some c => some (D.str ⟨#[c]⟩)
        | none => none) else none) = some d := e
      split at e2
      · rename_i c
        split at e2
        · rename_i c2 ec
          cases e2
          exact ix_seq value slice pins s σ H _ _ v u Q I rx ry (.inr (.inr ⟨z, i, c2, rfl, rfl, c, ec, put_same w (.str _) q⟩)) hs
        · cases e2
      · cases e2
    | _ => cases e
  · cases e
/-! ### slices -/
def cutD (ds : List D) (lo hi : Option Int) : List D := (ds.drop (HT.sIx ds.length 0 lo)).take (HT.sIx ds.length ds.length hi - HT.sIx ds.length 0 lo)
def slD (a : D) (lo hi : Option Int) : Option D := match a with
  | .tup ds => some (.tup (cutD ds lo hi))
  | .lst ds => some (.lst (cutD ds lo hi))
  | .fls ds => some (.lst (cutD ds lo hi))
  | .str z => if z.length ≤ sizeLine then some (.str (cutS z lo hi)) else none
  | _ => none
theorem cut_isD {G : Hp} {ds : List D} {xs : List V} {lo hi : Option Int} (h : IsDs Z G ds xs) : IsDs Z G (cutD ds lo hi) (cutV xs lo hi) := by
  unfold cutD cutV
  rw [← h.length]
  exact (h.drop _).take _
theorem osl (hz : Z.K = X.K) : L2.SlR X (rSl Z slD) := by
  intro pins s σ H x v vl vu lo hi sl Q I rx hs pl pu h
  obtain ⟨th, t, G, a, d, w, ha, e, q⟩ := h
  cases ha with
  | @tup p xs ds k1 k2 =>
    cases e
    refine sl_tupA pins s σ H _ v vl vu lo hi sl Q I rx hs pl pu ⟨p, xs, rfl, hz ▸ sqT_mono w.sub k1, fun c => ?_, fun _ p hp => put_tup w (cut_isD k2) q hp⟩
    have e : cutD ds lo hi = ds := by
      unfold cutD
      rw [k2.length, c.1, c.2]
      simp [← k2.length]
    rw [e] at q
    exact put_same w (.tup k1 k2) q
  | @lst p xs ds k1 k2 =>
    cases e
    exact sl_list pins s σ H _ v vl vu lo hi sl Q I rx hs pl pu ⟨p, xs, rfl, SqL.of (w.sub _ _ k1), fun p hp => put_lst w (cut_isD k2) q hp⟩
  | @fls p xs ds k1 k2 =>
    cases e
    exact sl_list pins s σ H _ v vl vu lo hi sl Q I rx hs pl pu ⟨p, xs, rfl, hz ▸ w.sub.seq k1, fun p hp => put_lst w (cut_isD k2) q hp⟩
  | str z =>
    have e2 : (if z.length ≤ sizeLine then some (D.str (cutS z lo hi)) else none) = some d := e
    split at e2
    · rename_i c
      cases e2
      exact sl_str pins s σ H _ v vl vu lo hi sl Q I rx hs pl pu ⟨z, rfl, c, put_same w (.str _) q⟩
    · cases e2
  | _ => cases e
end
end DW
set_option Elab.async false
set_option linter.all false
set_option maxRecDepth 100000
set_option maxHeartbeats 2000000
/-! DW11: own lists, targets, dict displays, the press. -/
namespace DW
open PySem PySem.Spec PyProof.Rows L2
section
variable {T : Type}
/-- x = [..], to be changed in place -/
def sOwn (i : Nat) (f : M T (List D)) : MS T := fun ρ t => sB (f ρ t) ρ fun ds t => if ds.length ≤ sizeLine then .nx (ρ.set i (.own ds)) t else .bad
/-- x[k] of an own list -/
def eOix (i : Nat) (f : M T D) : M T D := fun ρ t => match ρ[i]? with
  | some (.own ds) => bnd (f ρ t) fun k t => (match k with
    | .int j => opt (atI ds j) t
    | _ => .bad)
  | _ => .bad
/-- x[k] = e of an own list -/
def sOset (i : Nat) (k f : M T D) : MS T := fun ρ t => sB (f ρ t) ρ fun d t => match ρ[i]? with
  | some (.own ds) => sB (k ρ t) ρ fun a t => (match a with
    | .int j => (match ixN ds.length j with
      | some n => .nx (ρ.set i (.own (ds.set n d))) t
      | none => .bad)
    | _ => .bad)
  | _ => .bad
/-- target = e -/
def sAsg (f : M T D) (gm : D → Rho → Option Rho) : MS T := fun ρ t => sB (f ρ t) ρ fun d t => match gm d ρ with
  | some ρ1 => .nx ρ1 t
  | none => .bad
/-- a, b = a list -/
def gU (n : Nat) (k : List D → Rho → Option Rho) : D → Rho → Option Rho := fun d ρ => match d with
  | .lst ds => if ds.length = n then k ds ρ else none
  | .fls ds => if ds.length = n then k ds ρ else none
  | _ => none
end
section
variable {th : Th} {X : Cx} {C : Ct th} {W : WX} {pos : Pos} {tg : Expr}
theorem EnvR.own {G H : Hp} {ρ : Rho} {σ : L2.St} (h : EnvR C G H ρ σ) {i : Nat} {ds : List D} (e : ρ[i]? = some (.own ds)) : ∃ a xs, σ[i]? = some (some (.ref a)) ∧ H a = some (.lst xs) ∧ G a = none ∧ ¬ th.mu a ∧ C.H0 a = none ∧ IsDs C.Z G ds xs := by
  have hi : i < σ.length := by rw [← h.len]; exact (List.getElem?_eq_some_iff.mp e).1
  obtain ⟨a, xs, e1, r⟩ := h.at_ i _ _ e (List.getElem?_eq_getElem hi)
  exact ⟨a, xs, by rw [List.getElem?_eq_getElem hi, e1], r⟩
theorem psd_own (i : Nat) {x : Str} {es : List Expr} {pos' p2 : Pos} {f : M th.T (List D)} (hN : X.N.Nodup) (h : PDs X C W es f) (hi : X.N[i]? = some x := by rfl) (hx : Loc X.env.scope x := by first | exact .inl rfl | exact .inr rfl)
    (hs : swapsWith (.List es p2) (some (.Name x pos')) pos.line X.env = pure false := by rfl) (hf : X.fn x = true ∨ X.env.scope.names.lookup x = some .local := by first | exact .inl rfl | exact .inr rfl | assumption) : PSd X C W (.Assign [.Name x pos'] (.List es p2) pos) (sOwn i f) :=
  PS.imp (ps_set hN hi hx (pe_lst h) hs hf) fun D' σ H h => by
    obtain ⟨ρ, G, t, w, e, o⟩ := runB (rel := IsDs C.Z) h
    refine ⟨ρ, G, t, w, e, OutG.imp .refl o fun x H1 hx => ?_⟩
    obtain ⟨ρ1, G1, a, t1, a1, e1, r1, o1⟩ := hx
    split at o1
    · rename_i c
      refine ⟨by rw [← r1.length]; exact c, fun p hp => ?_⟩
      have s := Step.newO (th := th) (G := G1) (o := .lst x) hp
      have w2 := a1.w.newO (o := .lst x) hp
      have hp0 : C.H0 p = none := by
        cases z : C.H0 p with
        | none => rfl
        | some u => exact absurd hp (a1.st.dom p (by rw [z]; exact fun q => nomatch q))
      refine o1 _ G1 _ (a1.go s w2) ((e1.step s).set i (s := .own a) ⟨p, x, rfl, upd_same, a1.w.sub.free hp, a1.w.notmu hp, hp0, r1⟩ fun _ j s' b hj h1 h2 h3 h4 => ?_)
      cases h3
      have hi : j < σ.length := (List.getElem?_eq_some_iff.mp h4).1
      have q := e1.at_ j s' _ h1 (List.getElem?_eq_getElem hi)
      rw [List.getElem?_eq_getElem hi] at h4
      cases s' with
      | own ds' =>
        obtain ⟨b, xs, q1, q2, _⟩ := q
        have h4' : σ[j] = some (V.ref p) := Option.some.inj h4
        rw [h4'] at q1; cases q1
        rw [hp] at q2; cases q2
      | ownK ds' =>
        obtain ⟨b, xs, q1, q2, _⟩ := q
        have h4' : σ[j] = some (V.ref p) := Option.some.inj h4
        rw [h4'] at q1; cases q1
        rw [hp] at q2; cases q2
      | _ => cases h2
    · exact o1.elim
theorem pd_oix (i : Nat) {x : Str} {b : Expr} {px : Pos} {f : M th.T D} (hb : PD X C W b f) (hs : PlainIx b) (hN : X.N[i]? = some x := by rfl) (hv : Vis X.env.scope x := by first | exact Or.inl rfl | exact Or.inr (Or.inl rfl) | exact Or.inr (Or.inr rfl)) (hd : (x == ("__debug__" : Str)) = false := by decide)
    (hcd : (x == ("__classdict__" : Str)) = false := by decide) : PD X C W (.Subscript (.Name x px) b pos) (eOix i f) := PE.imp (pe_ix (ix_list (X := X)) (pv i hN hv hd hcd) hb hs) fun σ H Q h => by
  obtain ⟨ρ, G, t, w, e, o⟩ := h
  unfold eOix at o
  split at o
  · rename_i ds eo
    obtain ⟨p, xs, e1, e2, e3, e4, e5, e6⟩ := e.own eo
    refine ⟨.ref p, e1, ?_⟩
    obtain ⟨ρ2, G2, t2, w2, en2, o2⟩ := OutG.chain (rel1 := IsD C.Z) (f := f) w e o
    refine ⟨ρ2, G2, t2, w2, en2, OutG.imp .refl o2 fun y H1 hy => ?_⟩
    obtain ⟨G3, k, t3, s3, w3, r3, o3⟩ := hy
    cases k with
    | int j =>
      cases r3
      obtain ⟨d, ed, q⟩ := opt_out o3
      obtain ⟨v, h1, h2⟩ := atI_isD (e6.mono s3.sub) ed
      exact ⟨p, xs, j, v, rfl, rfl, SqL.of (s3.keep p _ e2 e4), h1, put_same w3 h2 q⟩
    | _ => exact o3.elim
  · exact o.elim
/-- an own list at p is written -/
theorem EnvR.wr {G H : Hp} {ρ : Rho} {σ : L2.St} (e : EnvR C G H ρ σ) {i : Nat} {ds ds' : List D} {p : Addr} {xs ys : List V} (eo : ρ[i]? = some (.own ds)) (es : σ[i]? = some (some (.ref p))) (hx : H p = some (.lst xs)) (g : G p = none) (m : ¬ th.mu p) (h0 : C.H0 p = none) (r : IsDs C.Z G ds' ys) :
    EnvR C G (upd H p (.lst ys)) (ρ.set i (.own ds')) σ := by
  have hi : i < ρ.length := (List.getElem?_eq_some_iff.mp eo).1
  have keys : ∀ {j : Nat} {sl : Sl}, (ρ.set i (.own ds'))[j]? = some sl → (j = i ∧ sl = .own ds') ∨ (j ≠ i ∧ ρ[j]? = some sl) := fun {j sl} h => by
    by_cases hj : i = j
    · subst hj; rw [List.getElem?_set_self hi] at h; exact .inl ⟨rfl, (Option.some.inj h).symm⟩
    · rw [List.getElem?_set_ne hj] at h; exact .inr ⟨Ne.symm hj, h⟩
  have apart : ∀ {j : Nat} {sl : Sl} {b : Addr}, j ≠ i → ρ[j]? = some sl → sl.isOwn = true → σ[j]? = some (some (.ref b)) → b ≠ p := fun {j sl b} hj h1 h2 h3 z => hj (e.sep j i sl _ p h1 eo h2 rfl (z ▸ h3) es)
  refine ⟨by rw [List.length_set]; exact e.len, fun j sl o h1 h2 => ?_, fun j j' sl sl' a h1 h2 k1 k2 h3 h4 => ?_⟩
  · rcases keys h1 with ⟨rfl, rfl⟩ | ⟨hj, h1⟩
    · rw [es] at h2; cases h2
      exact ⟨p, ys, rfl, upd_same, g, m, h0, r⟩
    · have q := e.at_ j sl o h1 h2
      cases sl with
      | un => trivial
      | va d => exact q
      | exn c d => exact q
      | own es' =>
        obtain ⟨a, zs, q1, q2, q3⟩ := q
        subst q1
        exact ⟨a, zs, rfl, by rw [upd_ne (apart hj h1 rfl h2)]; exact q2, q3⟩
      | ownK es' =>
        obtain ⟨a, zs, q1, q2, q3⟩ := q
        subst q1
        exact ⟨a, zs, rfl, by rw [upd_ne (apart hj h1 rfl h2)]; exact q2, q3⟩
  · rcases keys h1 with ⟨z1, _⟩ | ⟨hj, q1⟩
    · rcases keys h2 with ⟨z2, _⟩ | ⟨hj', q2⟩
      · rw [z1, z2]
      · rw [z1, es] at h3
        cases h3
        exact absurd rfl (apart hj' q2 k2 h4)
    · rcases keys h2 with ⟨z2, _⟩ | ⟨hj', q2⟩
      · rw [z2, es] at h4
        cases h4
        exact absurd rfl (apart hj q1 k1 h3)
      · exact e.sep j j' sl sl' a q1 q2 k1 k2 h3 h4
theorem At.wr {G H G1 H1 : Hp} {t : th.T} (a : At C G H t G1 H1) {p : Addr} {u : HO} (g : G1 p = none) (m : ¬ th.mu p) (h0 : C.H0 p = none) : At C G H t G1 (upd H1 p u) := by
  have ne : ∀ {b : Addr}, C.H0 b ≠ none → b ≠ p := fun {b} h z => h (by rw [z]; exact h0)
  refine ⟨a.sub, ⟨a.st.sub, fun b o e n => by rw [upd_ne (ne (by rw [e]; exact fun z => nomatch z))]; exact a.st.keep b o e n, fun b e => by rw [upd_ne (ne e)]; exact a.st.dom b e, a.st.old⟩, fun b o e => ?_, ?_⟩
  · rw [upd_ne (fun z => by rw [z, g] at e; cases e)]; exact a.w.sub b o e
  · exact th.stab a.w.r (fun _ _ e => e) (fun _ _ => rfl) fun b n => upd_ne fun z => m (z ▸ n)
theorem OutS.sb {α β : Type} {rel : Hp → α → β → Prop} {r : Rs th.T α} {ρ : Rho} {k : α → th.T → Ss th.T} {D' : Ends} {σ : L2.St} {G H : Hp} {t : th.T} (a : At C G H t G H) (e : EnvR C G H ρ σ) (o : OutS C W D' G H (sB r ρ k)) :
    OutG C W rel σ G H (fun b H1 => ∃ G1 z t1, Step th G H G1 H1 ∧ At C G H t1 G1 H1 ∧ rel G1 z b ∧ OutS C W D' G1 H1 (k z t1)) r := by
  cases r with
  | ok z t1 => exact fun b G1 H1 s w q => ⟨G1, z, t1, s, a.go s w, q, OutS.from (a.go s w) o⟩
  | er c p t1 => exact fun G' H' Ca dx s w q => o σ G' H' Ca dx (a.go s w) (e.step s) q
  | bad => exact o
theorem psd_oset (i : Nat) {x : Str} {k e : Expr} {px ps : Pos} {f g : M th.T D} (he : PD X C W e f) (hk : PD X C W k g) (hN : X.N[i]? = some x := by rfl) (hv : Vis X.env.scope x := by first | exact Or.inl rfl | exact Or.inr (Or.inl rfl) | exact Or.inr (Or.inr rfl))
    (hd : (x == ("__debug__" : Str)) = false := by decide) (hcd : (x == ("__classdict__" : Str)) = false := by decide)
    (ha : ∀ v, assign (.Subscript (.Name x px) k ps) X.env v = (do
      let ov ← holding [v] (eval (.Name x px) X.env)
      let iv ← holding [v, ov] (eval k X.env)
      standAt ps
      holding [v, ov, iv] (setItem ov iv v)
      release [v, ov, iv] []) := by intro _; rfl) (hs : swapsWithSole [.Subscript (.Name x px) k ps] e pos.line X.env = pure false := by rfl) (hw : swappedStores [.Subscript (.Name x px) k ps] e X.env = pure none := by rfl)
    (h1 : (assignEach [.Subscript (.Name x px) k ps] X.env).map (·.2) = [assign (.Subscript (.Name x px) k ps) X.env] := by rfl) : PSd X C W (.Assign [.Subscript (.Name x px) k ps] e pos) (sOset i g f) :=
  PS.imp (ps_asg he (pg_sub (pv i hN hv hd hcd) hk set_list ha) hs hw h1) fun D' σ H h => by
    obtain ⟨ρ, G, t, w, e, o⟩ := runB (rel := IsD C.Z) h
    refine ⟨ρ, G, t, w, e, OutG.imp .refl o fun v H1 hx => ?_⟩
    obtain ⟨ρ1, G1, d, t1, a1, e1, r1, o1⟩ := hx
    split at o1
    · rename_i ds eo
      obtain ⟨p, xs, es, hx, g0, m, h0, r⟩ := e1.own eo
      refine ⟨.ref p, es, ρ1, G1, t1, a1.w, e1, OutG.imp .refl (OutS.sb (rel := IsD C.Z) a1 e1 o1) fun y H2 hy => ?_⟩
      obtain ⟨G2, k2, t2, s2, a2, r2, o2⟩ := hy
      have hx2 := s2.keep p _ hx m
      have g2 : G2 p = none := (s2.old p (by rw [hx]; exact fun z => nomatch z)).trans g0
      cases k2 with
      | int j =>
        cases r2
        simp only at o2
        split at o2
        · rename_i n en
          have rr := r.mono s2.sub
          refine ⟨p, xs, j, n, rfl, rfl, hx2, by rw [← r.length]; exact en, ?_⟩
          exact o2 σ G2 _ (a2.here.wr g2 m h0) ((e1.step s2).wr eo es hx2 g2 m h0 (rr.set (r1.mono s2.sub) n))
        · exact o2.elim
      | _ => exact o2.elim
    · exact o1.elim
/-! ### a target's store -/
theorem psd_asg {e tg : Expr} {f : M th.T D} {g : TG} {gm : D → Rho → Option Rho} {vs : List Nat} (he : PD X C W e f) (hg : PG X tg g) (ht : TgR C vs g gm) (hs : swapsWithSole [tg] e pos.line X.env = pure false := by rfl) (hw : swappedStores [tg] e X.env = pure none := by rfl)
    (h1 : (assignEach [tg] X.env).map (·.2) = [assign tg X.env] := by rfl) : PSd X C W (.Assign [tg] e pos) (sAsg f gm) := PS.imp (ps_asg he hg hs hw h1) fun D' σ H h => by
  obtain ⟨ρ, G, t, w, e, o⟩ := runB (rel := IsD C.Z) h
  refine ⟨ρ, G, t, w, e, OutG.imp .refl o fun x H1 hx => ?_⟩
  obtain ⟨ρ1, G1, a, t1, a1, e1, r1, o1⟩ := hx
  split at o1
  · rename_i ρ2 eg
    exact ht a x G1 H1 ρ1 ρ2 σ _ eg a1.w.sub r1 e1 fun σ' e' _ => o1 σ' G1 H1 a1 e'
  · exact o1.elim
theorem tg_unl {vs : List Nat} {gs : TGs} {km : List D → Rho → Option Rho} {n : Nat} {K : PySem.W.Frag} (hz : C.Z.K = K) (k : TgRs C vs gs km) : TgR C vs (gUnl K n gs) (gU n km) := fun d v G H ρ ρ' σ Q e s r en q => by
  unfold gU at e
  split at e
  · split at e
    · rename_i ds c
      cases r with
      | @lst a xs _ h1 h2 => exact ⟨a, xs, rfl, SqL.of (s _ _ h1), h2.length ▸ c, k _ xs G H ρ ρ' σ Q e s h2 en q⟩
    · cases e
  · split at e
    · rename_i ds c
      cases r with
      | @fls a xs _ h1 h2 => exact ⟨a, xs, rfl, hz ▸ s.seq h1, h2.length ▸ c, k _ xs G H ρ ρ' σ Q e s h2 en q⟩
    · cases e
  · cases e
/-! ### an own list becomes data -/
theorem frz_ok {G H : Hp} {t : th.T} {ρ : Rho} {σ : L2.St} (a : At C G H t G H) (e : EnvR C G H ρ σ) {i : Nat} {p : Addr} {s : Sl} {u : HO} {d : D} (eo : ρ[i]? = some s) (ho : s.isOwn = true) (es : σ[i]? = some (some (.ref p))) (hx : H p = some u) (g : G p = none) (m : ¬ th.mu p) (h0 : C.H0 p = none)
    (r : ∀ G', Same G G' → G' p = some u → IsD C.Z G' d (.ref p)) : ∃ G', At C G H t G' H ∧ EnvR C G' H (ρ.set i (.va d)) σ := by
  have sb : Same G (upd G p u) := fun b o q => by
    rw [upd_ne (fun z => by rw [z, g] at q; cases q)]; exact q
  have hi : i < ρ.length := (List.getElem?_eq_some_iff.mp eo).1
  refine ⟨upd G p u, ⟨sb, ⟨a.st.sub.trans sb, a.st.keep, a.st.dom, fun b q => ?_⟩, fun b o q => ?_, ?_⟩, by rw [List.length_set]; exact e.len, fun j sl o h1 h2 => ?_, fun j j' sl sl' b h1 h2 k1 k2 h3 h4 => ?_⟩
  · have : b ≠ p := fun z => q (by rw [z]; exact h0)
    rw [upd_ne this]; exact a.st.old b q
  · by_cases z : b = p
    · subst z; rw [upd_same] at q; cases q; exact hx
    · rw [upd_ne z] at q; exact a.w.sub b o q
  · exact th.stab a.w.r sb (fun b n => upd_ne fun z => m (z ▸ n)) fun _ _ => rfl
  · by_cases hj : i = j
    · subst hj
      rw [List.getElem?_set_self hi] at h1
      rw [es] at h2
      cases h1; cases h2
      exact ⟨.ref p, rfl, r _ sb upd_same⟩
    · rw [List.getElem?_set_ne hj] at h1
      have q := e.at_ j sl o h1 h2
      have apart : ∀ {b : Addr}, sl.isOwn = true → o = some (.ref b) → b ≠ p := fun {b} k1 k2 z => hj (e.sep i j s sl p eo h1 ho k1 es (by rw [h2, k2, z]))
      cases sl with
      | un => trivial
      | va d' => exact let ⟨v, q1, q2⟩ := q; ⟨v, q1, q2.mono sb⟩
      | exn c d' => exact let ⟨q0, Ca, f, dx, pv, q1, q2, q3, q4, q5⟩ := q; ⟨q0, Ca, f, dx, pv, q1, q2, q3, sb _ _ q4, q5.mono sb⟩
      | own es' =>
        obtain ⟨b, zs, q1, q2, q3, q4, q5, q6⟩ := q
        exact ⟨b, zs, q1, q2, by rw [upd_ne (apart rfl q1)]; exact q3, q4, q5, q6.mono sb⟩
      | ownK es' =>
        obtain ⟨b, zs, q1, q2, q3, q4, q5, q6⟩ := q
        exact ⟨b, zs, q1, q2, by rw [upd_ne (apart rfl q1)]; exact q3, q4, q5, q6.mono sb⟩
  · have ne : ∀ {j : Nat} {sl : Sl}, (ρ.set i (.va d))[j]? = some sl → sl.isOwn = true → i ≠ j := fun {j sl} h k z => by
      subst z; rw [List.getElem?_set_self hi] at h; cases h; cases k
    rw [List.getElem?_set_ne (ne h1 k1)] at h1
    rw [List.getElem?_set_ne (ne h2 k2)] at h2
    exact e.sep j j' sl sl' b h1 h2 k1 k2 h3 h4
theorem runFrz {i : Nat} {f : MS th.T} {D' : Ends} {σ : L2.St} {H : Hp} (h : tS C W (sSeq (sFrz i) f) D' σ H) : tS C W f D' σ H := by
  obtain ⟨ρ, G, t, a, e, o⟩ := h
  unfold sSeq at o
  cases hs : ρ[i]? with
  | none => simp only [sFrz, hs] at o; exact o.elim
  | some s =>
    cases s with
    | un => simp only [sFrz, hs] at o; exact o.elim
    | exn c d => simp only [sFrz, hs] at o; exact o.elim
    | va d => simp only [sFrz, hs] at o; exact ⟨ρ, G, t, a, e, o⟩
    | own ds =>
      simp only [sFrz, hs] at o
      obtain ⟨p, xs, es, hx, g, m, h0, r⟩ := e.own hs
      obtain ⟨G', a', e'⟩ := frz_ok (d := .lst ds) a e hs rfl es hx g m h0 fun G' sb q => .lst q (r.mono sb)
      exact ⟨_, G', t, a'.here, e', OutS.from a' o⟩
    | ownK ks =>
      simp only [sFrz, hs] at o
      have hi : i < σ.length := by rw [← e.len]; exact (List.getElem?_eq_some_iff.mp hs).1
      obtain ⟨p, kvs, e1, hx, g, m, h0, r⟩ := e.at_ i _ _ hs (List.getElem?_eq_getElem hi)
      have es : σ[i]? = some (some (.ref p)) := by rw [List.getElem?_eq_getElem hi, e1]
      obtain ⟨G', a', e'⟩ := frz_ok (d := .dct ks) a e hs rfl es hx g m h0 fun G' sb q => .dct q (IsKs.mono sb r)
      exact ⟨_, G', t, a'.here, e', OutS.from a' o⟩
theorem psd_frz (i : Nat) {s : Stmt} {f : MS th.T} (h : PSd X C W s f) : PSd X C W s (sSeq (sFrz i) f) := PS.imp h fun _ _ _ h => runFrz h
end
end DW
set_option Elab.async false
set_option linter.all false
set_option maxRecDepth 100000
set_option maxHeartbeats 2000000
/-! DW12: dict displays, the press (a dict of a number and two wheels, changed in place). -/
namespace DW
open PySem PySem.Spec PyProof.Rows L2
/-! ### dict displays -/
def keyD : D → Option Key
  | .int i => some (.inl i)
  | .str x => some (.inr x)
  | _ => none
theorem keyD_v {Z : Zn} {G : Hp} {d : D} {v : V} {k : Key} (h : IsD Z G d v) (e : keyD d = some k) : v = kV k := by
  cases h <;> cases e <;> rfl
def putD (ks : List (Key × D)) (k : Key) (d : D) : List (Key × D) := if ks.any (fun kv => decide (kv.1 = k)) then ks.map (fun kv => if kv.1 = k then (kv.1, d) else kv) else ks ++ [(k, d)]
def mergeD (ks more : List (Key × D)) : List (Key × D) := more.foldl (fun acc kv => putD acc kv.1 kv.2) ks
theorem isKs_any {Z : Zn} {G : Hp} {k : Key} : ∀ {ks : List (Key × D)} {kvs : List (Key × V)}, IsKs Z G ks kvs → (ks.any fun kv => decide (kv.1 = k)) = kvs.any fun kv => decide (kv.1 = k)
  | _, _, .nil => rfl
  | _, _, .cons _ t => by rw [List.any_cons, List.any_cons, isKs_any t]
theorem isKs_snoc {Z : Zn} {G : Hp} {k : Key} {d : D} {v : V} (r : IsD Z G d v) : ∀ {ks : List (Key × D)} {kvs : List (Key × V)}, IsKs Z G ks kvs → IsKs Z G (ks ++ [(k, d)]) (kvs ++ [(k, v)])
  | _, _, .nil => .cons r .nil
  | _, _, .cons h t => .cons h (isKs_snoc r t)
theorem isKs_map {Z : Zn} {G : Hp} {k : Key} {d : D} {v : V} (r : IsD Z G d v) : ∀ {ks : List (Key × D)} {kvs : List (Key × V)}, IsKs Z G ks kvs → IsKs Z G (ks.map fun kv => if kv.1 = k then (kv.1, d) else kv) (kvs.map fun kv => if kv.1 = k then (kv.1, v) else kv)
  | _, _, .nil => .nil
  | _, _, @IsKs.cons _ _ j d' v' ds vs h t => by
    rw [List.map_cons, List.map_cons]
    by_cases c : j = k
    · simp only [if_pos c]; exact .cons r (isKs_map r t)
    · simp only [if_neg c]; exact .cons h (isKs_map r t)
theorem isKs_put {Z : Zn} {G : Hp} {k : Key} {d : D} {v : V} (r : IsD Z G d v) {ks : List (Key × D)} {kvs : List (Key × V)} (h : IsKs Z G ks kvs) : IsKs Z G (putD ks k d) (putK kvs k v) := by
  unfold putD putK
  rw [isKs_any h]
  split
  · exact isKs_map r h
  · exact isKs_snoc r h
theorem isKs_merge {Z : Zn} {G : Hp} : ∀ {ms : List (Key × D)} {mvs : List (Key × V)} {ks : List (Key × D)} {kvs : List (Key × V)}, IsKs Z G ms mvs → IsKs Z G ks kvs → IsKs Z G (mergeD ks ms) (mergeK kvs mvs)
  | _, _, _, _, .nil, h => h
  | _, _, _, _, .cons r t, h => by
    show IsKs Z G (mergeD (putD _ _ _) _) (mergeK (putK _ _ _) _)
    exact isKs_merge t (isKs_put r h)
theorem IsKs.length {Z : Zn} {G : Hp} : ∀ {ks : List (Key × D)} {kvs : List (Key × V)}, IsKs Z G ks kvs → ks.length = kvs.length
  | _, _, .nil => rfl
  | _, _, .cons _ t => by rw [List.length_cons, List.length_cons, IsKs.length t]
inductive IsPs (Z : Zn) (G : Hp) : List (D × D) → List (V × V) → Prop
  | nil : IsPs Z G [] []
  | cons {a b : D} {x y : V} {r : List (D × D)} {s : List (V × V)} : IsD Z G a x → IsD Z G b y → IsPs Z G r s → IsPs Z G ((a, b) :: r) ((x, y) :: s)
section
variable {T : Type}
def kNil : M T (List (D × D)) := fun _ t => .ok [] t
def kCons (f g : M T D) (r : M T (List (D × D))) : M T (List (D × D)) := fun ρ t => bnd (f ρ t) fun a t => bnd (g ρ t) fun b t => bnd (r ρ t) fun ps t => .ok ((a, b) :: ps) t
def keyAll : List (D × D) → Option (List (Key × D))
  | [] => some []
  | (a, b) :: r => (match keyD a, keyAll r with
    | some k, some ks => some ((k, b) :: ks)
    | _, _ => none)
def eDct (f : M T (List (D × D))) : M T D := fun ρ t => bnd (f ρ t) fun ps t => opt (match keyAll ps with
  | some ks => if ks.length ≤ 15 then some (.dct (mergeD [] ks)) else none
  | none => none) t
end
theorem keyAll_v {Z : Zn} {G : Hp} : ∀ {ps : List (D × D)} {vs : List (V × V)} {ks : List (Key × D)}, IsPs Z G ps vs → keyAll ps = some ks → ∃ kvs : List (Key × V), vs = kvs.map (fun kv => (kV kv.1, kv.2)) ∧ IsKs Z G ks kvs
  | _, _, _, .nil, e => by cases e; exact ⟨[], rfl, .nil⟩
  | _, _, ks, .cons (a := a) (b := b) (r := r) h1 h2 h3, e => by
    unfold keyAll at e
    split at e
    · rename_i k ks' e1 e2
      cases e
      obtain ⟨kvs, rfl, q⟩ := keyAll_v h3 e2
      obtain rfl := keyD_v h1 e1
      exact ⟨(k, _) :: kvs, rfl, .cons h2 q⟩
    · cases e
section
variable {th : Th} {X : Cx} {C : Ct th} {W : WX} {pos : Pos}
structure PDk (X : Cx) (C : Ct th) (W : WX) (pos : Pos) (keys : List (Option Expr)) (values : List Expr) (trs : List (TE × TE)) (f : M th.T (List (D × D))) : Prop where
  pps : PPs X pos keys values trs
  run : ∀ σ H Q, tG C W (IsPs C.Z) f σ H Q → tPairs trs σ H Q
theorem IsPs.mono {Z : Zn} {G G' : Hp} (e : Same G G') : ∀ {ps : List (D × D)} {vs : List (V × V)}, IsPs Z G ps vs → IsPs Z G' ps vs
  | _, _, .nil => .nil
  | _, _, .cons a b c => .cons (a.mono e) (b.mono e) (c.mono e)
theorem pdk_nil : PDk X C W pos [] [] [] kNil := ⟨pps_nil, fun σ H Q h => by
  obtain ⟨ρ, G, t, w, e, o⟩ := h
  exact o [] G H .refl w .nil⟩
theorem pdk_cons {k v : Expr} {ks : List (Option Expr)} {vs : List Expr} {f g : M th.T D} {trs : List (TE × TE)} {r : M th.T (List (D × D))} (hk : PD X C W k f) (hv : PD X C W v g) (hr : PDk X C W pos ks vs trs r) : PDk X C W pos (some k :: ks) (v :: vs) ((tD C W f, tD C W g) :: trs) (kCons f g r) :=
  ⟨pps_cons hk hv hr.pps, fun σ H Q h => by
    obtain ⟨ρ, G, t, w, e, o⟩ := tG.chain (rel1 := IsD C.Z) h
    refine ⟨ρ, G, t, w, e, OutG.imp .refl o fun x H1 hx => ?_⟩
    obtain ⟨ρ1, G1, a, t1, w1, e1, r1, o1⟩ := hx
    obtain ⟨ρ2, G2, t2, w2, e2, o2⟩ := OutG.chain (rel1 := IsD C.Z) (f := g) w1 e1 o1
    refine ⟨ρ2, G2, t2, w2, e2, OutG.imp .refl o2 fun y H2 hy => ?_⟩
    obtain ⟨G3, b, t3, s3, w3, r3, o3⟩ := hy
    refine hr.run σ H2 _ ?_
    obtain ⟨ρ4, G4, t4, w4, e4, o4⟩ := OutG.chain (rel1 := IsPs C.Z) (f := r) w3 (e1.step s3) o3
    refine ⟨ρ4, G4, t4, w4, e4, OutG.imp .refl o4 fun z H3 hz => ?_⟩
    obtain ⟨G5, ps, t5, s5, w5, r5, o5⟩ := hz
    exact o5 _ G5 H3 .refl w5 (.cons ((r1.mono s3.sub).mono s5.sub) (r3.mono s5.sub) r5)⟩
/-- a new object that was written while it was none's: now it is data -/
theorem shut {p : Addr} {u : HO} {G H G2 H2 : Hp} {t2 : th.T} {o : HO} (hp : H p = none) (np : ¬ th.mu p) (s : Step th G (upd H p o) G2 H2) (w : Wd th t2 G2 H2) (g2 : G2 p = none) : Step th G H (upd G2 p u) (upd H2 p u) ∧ Wd th t2 (upd G2 p u) (upd H2 p u) ∧ Same G2 (upd G2 p u) := by
  have ne : ∀ {b : Addr}, H b ≠ none → b ≠ p := fun {b} h z => h (z ▸ hp)
  have sb : Same G2 (upd G2 p u) := fun b o q => by
    rw [upd_ne (fun z => by rw [z, g2] at q; cases q)]; exact q
  refine ⟨⟨s.sub.trans sb, fun b o e n => ?_, fun b e => ?_, fun b e => ?_⟩, ⟨fun b o e => ?_, ?_⟩, sb⟩
  · have hb := ne (b := b) (by rw [e]; exact fun z => nomatch z)
    rw [upd_ne hb]
    exact s.keep b o (by rw [upd_ne hb]; exact e) n
  · rw [upd_ne (ne e)]
    exact s.dom b (by rw [upd_ne (ne e)]; exact e)
  · rw [upd_ne (ne e)]
    exact s.old b (by rw [upd_ne (ne e)]; exact e)
  · by_cases z : b = p
    · subst z; rw [upd_same] at e ⊢; exact e
    · rw [upd_ne z] at e ⊢; exact w.sub b o e
  · exact th.stab w.r sb (fun b n => upd_ne fun z => np (z ▸ n)) fun b n => upd_ne fun z => np (z ▸ n)
theorem pd_dct {keys : List (Option Expr)} {values : List Expr} {trs : List (TE × TE)} {f : M th.T (List (D × D))} (h : PDk X C W pos keys values trs f) (hall : keys.all (·.isSome) = true := by rfl) (hl : keys.length = values.length := by rfl) (h0 : keys ≠ [] := by exact List.cons_ne_nil _ _)
    (h15 : keys.length ≤ 15 := by decide) : PD X C W (.Dict keys values pos) (eDct f) := PE.imp (pe_disp h.pps hall hl h0 h15) fun σ H Q hw => by
  intro p hp
  obtain ⟨ρ, G, t, w, e, o⟩ := hw
  have np := w.notmu hp
  have s0 := Step.newO (th := th) (G := G) (o := .dK []) hp
  refine h.run σ _ _ ⟨ρ, G, t, w.newO hp, e.step s0, ?_⟩
  have o : OutG C W (IsD C.Z) σ G H Q (DW.bnd (f ρ t) _) := o
  cases hf : f ρ t with
  | er c q t1 => rw [hf] at o; exact fun G' H' Ca dx s w' pay => o G' H' Ca dx (s0.trans s) w' pay
  | bad => rw [hf] at o; exact o.elim
  | ok ps t1 =>
    rw [hf] at o
    intro vs G2 H2 s2 w2 r2
    have hx : H2 p = some (.dK []) := s2.keep p _ upd_same np
    have g2 : G2 p = none := (s2.old p (by rw [upd_same]; exact fun z => nomatch z)).trans (w.sub.free hp)
    obtain ⟨d, ed, q⟩ := opt_out o
    split at ed
    · rename_i ks ek
      split at ed
      · rename_i c
        cases ed
        obtain ⟨kvs, rfl, rk⟩ := keyAll_v r2 ek
        refine ⟨hx, kvs, rfl, by rw [← rk.length]; exact c, ?_⟩
        obtain ⟨a1, a2, a3⟩ := shut (u := .dK (mergeK [] kvs)) hp np s2 w2 g2
        exact q _ _ _ a1 a2 (.dct upd_same (IsKs.mono a3 (isKs_merge rk .nil)))
      · cases ed
    · cases ed
/-- {} -/
theorem pd_dct0 : PD X C W (.Dict [] [] pos) (eC (.dct [])) := PE.imp pe_dnewK fun σ H Q h => by
  obtain ⟨ρ, G, t, w, e, o⟩ := h
  exact fun p hp => o _ _ _ (.newD w.sub hp) (w.newD hp) (.dct upd_same .nil)
end
/-! ### the press -/
abbrev PT : Type := Int × Int × Int
def PrOk (t : PT) : Prop := 0 ≤ t.1 ∧ t.1 < 10 ^ 60 ∧ 0 ≤ t.2.1 ∧ t.2.1 < 2 ^ 31 ∧ 0 ≤ t.2.2 ∧ t.2.2 < 2 ^ 31
instance (t : PT) : Decidable (PrOk t) := by unfold PrOk; infer_instance
def prK (t : PT) (w : Addr) : List (Key × V) := [(.inr "own", .int t.1), (.inr "wheels", .ref w)]
abbrev Press (p : Addr) : Th where
  T := PT
  mu := fun a => a = p
  R := fun t G H => PrOk t ∧ G p = none ∧ ∃ w, H p = some (.dK (prK t w)) ∧ G w = some (.lst [.int t.2.1, .int t.2.2])
  stab := fun ⟨h1, h2, w, h3, h4⟩ s g m => ⟨h1, (g p rfl).trans h2, w, (m p rfl).trans h3, s _ _ h4⟩
  mem := fun {t G H a} ⟨_, h2, w, h3, _⟩ (e : a = p) => by
    subst e
    exact ⟨by rw [h3]; exact fun z => (nomatch z), h2⟩
/-- the slot i holds the press -/
def isPr (p : Addr) (i : Nat) (ρ : Rho) : Bool := match ρ[i]? with
  | some (.va (.ob (.ref q))) => decide (q = p)
  | _ => false
def prGet (t : PT) (k : Bool) : D := if k then .int t.1 else .lst [.int t.2.1, .int t.2.2]
def prKey (k : Bool) : Str := if k then "own" else "wheels"
def ePr (p : Addr) (i : Nat) (k : Bool) : M PT D := fun ρ t => if isPr p i ρ then .ok (prGet t k) t else .bad
def prPut (t : PT) (k : Bool) (d : D) : Option PT := match k, d with
  | true, .int v => if PrOk (v, t.2) then some (v, t.2) else none
  | false, .lst [.int a, .int b] => if PrOk (t.1, a, b) then some (t.1, a, b) else none
  | _, _ => none
def sPr (p : Addr) (i : Nat) (k : Bool) (f : M PT D) : MS PT := fun ρ t => sB (f ρ t) ρ fun d t => if isPr p i ρ then (match prPut t k d with
  | some t' => .nx ρ t'
  | none => .bad) else .bad
section
variable {p : Addr} {X : Cx} {C : Ct (Press p)} {W : WX} {pos : Pos}
theorem isPr_v {i : Nat} {ρ : Rho} {σ : L2.St} {G H : Hp} (e : EnvR C G H ρ σ) (h : isPr p i ρ = true) : σ[i]? = some (some (.ref p)) := by
  unfold isPr at h
  split at h
  · rename_i q hq
    obtain rfl := of_decide_eq_true h
    obtain ⟨v, h1, h2⟩ := e.va hq
    cases h2
    exact h1
  · cases h
theorem valV_own {t : PT} {w : Addr} : valV (prK t w) (.inr "own") = some (.int t.1) := by
  unfold valV prK; rfl
theorem valV_whl {t : PT} {w : Addr} : valV (prK t w) (.inr "wheels") = some (.ref w) := by
  unfold valV prK; rfl
theorem dg_own {H : Hp} {t : PT} {w : Addr} (h : H p = some (.dK (prK t w))) : DGet H p (.str (prKey true)) (some (.int t.1)) := by
  have q := DGet.k (k := .inr "own") h
  rw [valV_own] at q
  exact q
theorem dg_whl {H : Hp} {t : PT} {w : Addr} (h : H p = some (.dK (prK t w))) : DGet H p (.str (prKey false)) (some (.ref w)) := by
  have q := DGet.k (k := .inr "wheels") h
  rw [valV_whl] at q
  exact q
theorem pd_pr (i : Nat) (k : Bool) {x : Str} {j : Nat} {px pc : Pos} (hu : X.A.units + 1 < cLine) (hN : X.N[i]? = some x := by rfl) (hv : Vis X.env.scope x := by first | exact Or.inl rfl | exact Or.inr (Or.inl rfl) | exact Or.inr (Or.inr rfl)) (hd : (x == ("__debug__" : Str)) = false := by decide)
    (hcd : (x == ("__classdict__" : Str)) = false := by decide) (hs : NoSl (.Constant (.str (prKey k)) j pc) := by intro _ _; rfl) : PD X C W (.Subscript (.Name x px) (.Constant (.str (prKey k)) j pc) pos) (ePr p i k) :=
  PE.imp (pe_dget hu (pv i hN hv hd hcd) pe_str hs) fun σ H Q h => by
    obtain ⟨ρ, G, t, w, e, o⟩ := h
    unfold ePr at o
    split at o
    · rename_i c
      have es := isPr_v e c
      obtain ⟨ok, g, wl, h1, h2⟩ := w.r
      cases k with
      | true => exact ⟨.ref p, es, p, .int t.1, rfl, dg_own h1, o _ G H .refl w (.int _)⟩
      | false => exact ⟨.ref p, es, p, .ref wl, rfl, dg_whl h1, o _ G H .refl w (.lst h2 (.cons (.int _) (.cons (.int _) .nil)))⟩
    · exact o.elim
theorem psd_pr (i : Nat) (k : Bool) {x : Str} {j : Nat} {px pc ps : Pos} {e : Expr} {f : M PT D} (hu : X.A.units + 1 < cLine) (he : PD X C W e f) (hN : X.N[i]? = some x := by rfl) (hv : Vis X.env.scope x := by first | exact Or.inl rfl | exact Or.inr (Or.inl rfl) | exact Or.inr (Or.inr rfl))
    (hs : swapsWith e (some (.Subscript (.Name x px) (.Constant (.str (prKey k)) j pc) ps)) pos.line X.env = pure false := by rfl) (hd : (x == ("__debug__" : Str)) = false := by decide) (hcd : (x == ("__classdict__" : Str)) = false := by decide) :
    PSd X C W (.Assign [.Subscript (.Name x px) (.Constant (.str (prKey k)) j pc) ps] e pos) (sPr p i k f) :=
  PS.imp (ps_dput hu (pv i hN hv hd hcd) pe_str he hs) fun D' σ H h => by
    obtain ⟨ρ, G, t, w, e, o⟩ := runB (rel := IsD C.Z) h
    refine ⟨ρ, G, t, w, e, OutG.imp .refl o fun x H1 hx => ?_⟩
    obtain ⟨ρ1, G1, a, t1, a1, e1, r1, o1⟩ := hx
    split at o1
    · rename_i c
      have es := isPr_v e1 c
      obtain ⟨ok, g, wl, h1, h2⟩ := a1.w.r
      split at o1
      · rename_i t' et
        have key : ∃ wl', putK (prK t1 wl) (.inr (prKey k)) x = prK t' wl' ∧ PrOk t' ∧ G1 wl' = some (.lst [.int t'.2.1, .int t'.2.2]) := by
          unfold prPut at et
          split at et
          · split at et
            · cases et; cases r1
              exact ⟨wl, rfl, by assumption, h2⟩
            · cases et
          · split at et
            · cases et
              cases r1 with
              | @lst q xs _ k1 k2 =>
                cases k2 with
                | cons m1 m2 =>
                  cases m2 with
                  | cons m2 m3 => cases m1; cases m2; cases m3; exact ⟨q, rfl, by assumption, k1⟩
            · cases et
          · cases et
        obtain ⟨wl', ek, ok', hw'⟩ := key
        have lt : (prK t1 wl).length < sizeLine := by
          show 2 < sizeLine
          rw [sizeLine_eq]; omega
        refine ⟨.ref p, es, p, _, rfl, DPut.k (k := .inr (prKey k)) h1 lt, ?_⟩
        rw [ek]
        have sb : Same G1 (upd H1 p (.dK (prK t' wl'))) := fun b o q => by
          rw [upd_ne (fun z => by rw [z, g] at q; cases q)]; exact a1.w.sub b o q
        have s : Step (Press p) G1 H1 G1 (upd H1 p (.dK (prK t' wl'))) := by
          refine ⟨fun _ _ q => q, fun b o q n => ?_, fun b q => ?_, fun _ _ => rfl⟩
          · rw [upd_ne (fun z => n z)]; exact q
          · by_cases z : b = p
            · rw [z, upd_same]; exact fun z => nomatch z
            · rw [upd_ne z]; exact q
        exact o1 _ G1 _ (a1.go s ⟨sb, ok', g, wl', upd_same, hw'⟩) (e1.step s)
      · exact o1.elim
    · exact o1.elim
end
end DW
set_option Elab.async false
set_option linter.all false
set_option maxRecDepth 100000
set_option maxHeartbeats 4000000
/-! DWX: an own exception class (over ValueError, with its own __init__) called with keywords. -/
namespace DWX
open PySem PySem.W PySem.Calls PyProof.Rows PySem.HandSPX
open Builtin Builtin.ObjectAttr
section
variable {M : Model} {A : Around} {E : Value → Shared → Prop} {h : Heap} {g : Array GenState} {d : Drawn} {t : Nat} {os : OsState}
variable {nm q : Str} {C N : Addr} {bs bm bmB : List Value} {hdct : Bool} {sn : List Str} {sub : List Value} {ab : Bool} {col : Option Bool} {dd : Option Addr} {k0 k1 k2 k3 k5 : Option Value} {B newId initId : String}
theorem look_new (F : ExcBaseFacts B newId initId bmB) (hT : ∀ X : String, bm.contains (.type X) = bmB.contains (.type X)) {rest : List Value} {kw : List (Str × Value)} {Q : Unit → Shared → Prop}
    (hC : h.get? C = some (excClassObj nm q C N bs bm hdct sn sub ab col dd k0 k1 k2 k3 k5 newId)) (hq : Q () ⟨h, g, d, t, os⟩) : wpAny M A (checkBuiltinCall newId ⟨.ref C :: rest, kw⟩) Q E ⟨h, g, d, t, os⟩ := by
  have c1 : (Value.ref C :: bm).contains (.type B) = true := by rw [List.contains_cons, hT, F.hasB, Bool.or_true]
  have c2 := F.noStar
  simp only [checkBuiltinCall, F.newKind, F.newSplit, F.newRow]
  repeat (first | refine wpAny_loadPart_at hC ?_ | (refine wpAny_isSubtype_exc hC ?_; rw [c1]) | refine wpAny_staticBase_exc hC ?_ | refine wpAny_madeBy_exc hC ?_ | simp only [bne_self_eq_false, Bool.false_eq_true, if_false] | wp_step)
  all_goals exact hq
end
section
variable {prog : Program} {w : World} {A : Around} {E : Value → Shared → Prop} {R : Result → Shared → Prop} {h : Heap} {g : Array GenState} {d : Drawn} {t : Nat} {os : OsState}
variable {nm q : Str} {C N : Addr} {bs bm bmB : List Value} {hdct : Bool} {sn : List Str} {sub : List Value} {ab : Bool} {col : Option Bool} {dd : Option Addr} {k0 k1 k2 k3 k5 : Option Value} {B newId initId : String}
theorem made_new (F : ExcBaseFacts B newId initId bmB) (hT : ∀ X : String, bm.contains (.type X) = bmB.contains (.type X)) {rest : List Value} {kw : List (Str × Value)}
    (hC : h.get? C = some (excClassObj nm q C N bs bm hdct sn sub ab col dd k0 k1 k2 k3 k5 newId))
    (hq : R (.ok (.ret (.ref (h.objs.size + 1)))) ⟨(h.push { cls := .type "tuple", data := .seq rest.toArray }).push
      { cls := .ref C, data := .fields #[.ref h.objs.size, .none, .none, .none, .bool false, .none] }, g, d, t, os⟩) (hrest : rest.length ≤ sizeLine) :
    codeAny (model prog w) A (.builtin newId ⟨.ref C :: rest, kw⟩) R ⟨h, g, d, t, os⟩ := by
  have e0 := F.ends
  have c1 : (Value.ref C :: bm).contains (.type B) = true := by rw [List.contains_cons, hT, F.hasB, Bool.or_true]
  have c2 : (Value.ref C :: bm).contains (.type "AttributeError") = false := by rw [List.contains_cons, hT, F.noAttr]; rfl
  have c3 : (Value.ref C :: bm).contains (.type "NameError") = false := by rw [List.contains_cons, hT, F.noName]; rfl
  refine codeAny_builtinAt F.entry ?_
  unfold Builtin.«BaseException.__new__»
  refine PySem.wpAt_bind ?_
  show PySem.wpAt _ _ _ (stack >>= _) _ _ _
  refine PySem.wpAt_bind (PySem.wpAt_stack fun p below => PySem.wpAt_of_wpAny ?_)
  wp_walk
  refine PySem.wpAt_of_wpAny ?_
  rw [F.owner]
  repeat (first | with_reducible refine wpAny_madeHere_exc F.canon hC ?_ | with_reducible refine wpAny_loadPart_at hC ?_ | (with_reducible refine wpAny_isSubtype_exc hC ?_; first | rw [c1] | rw [c2] | rw [c3]) | wp_step)
  show R _ _
  rw [Heap.size_push]
  exact hq
theorem tcall (F : ExcBaseFacts B newId initId bmB) (hT : ∀ X : String, bm.contains (.type X) = bmB.contains (.type X)) {rest : List Value} {kw : List (Str × Value)} {fI : Addr} {Q : Fin → Shared → Prop}
    (hC : h.get? C = some (excClassObj nm q C N bs bm hdct sn sub ab col dd k0 k1 k2 k3 k5 newId))
    (hi : W.Looks (model prog w) h (typeLookup (.ref C) "__init__") (some (.ref fI))) (hb : ∀ self, W.Looks (model prog w) h (bindSpecial (.ref fI) self) (.ref fI, [self])) (hrest : rest.length ≤ sizeLine)
    (hq : codeAny (model prog w) A (.call (.ref fI) ⟨.ref (h.objs.size + 1) :: rest, kw⟩)
      (fun r s' => match r with | .ok (.ret v) => v = .none ∧ Q (.done (.ret (.ref (h.objs.size + 1)))) s' | .ok _ => False | .error e => E e s')
      ⟨(h.push (W.kdv_tup rest)).push (excO C h.objs.size), g, d, t, os⟩) :
    wpAny (model prog w) A (Builtin.«type.__call__» ⟨.ref C :: rest, kw⟩) Q E ⟨h, g, d, t, os⟩ := by
  repeat (first | with_reducible refine wpAny_loadPart_at hC ?_ | with_reducible refine wpAny_madeBy_exc hC ?_ | wp_step)
  refine codeAny_call_builtin_code (Code.quiet_builtin _ F.quiet) (look_new F hT hC ?_)
  refine made_new F hT hC ?_ hrest
  show wpAny _ _ _ _ _ _
  have k : ∀ b o, h.get? b = some o → ((h.push (W.kdv_tup rest)).push (excO C h.objs.size)).get? b = some o := fun b o e => Heap.get?_push_of_some _ (Heap.get?_push_of_some _ e)
  have z1 := k _ _ hC
  have z2 : ((h.push (W.kdv_tup rest)).push (excO C h.objs.size)).get? (h.objs.size + 1) = some (excO C h.objs.size) := by heap_get
  have z3 : (Value.ref C :: bm).contains (.ref C) = true := by simp
  have i1 := hi.keeps k
  have b1 := (hb (.ref (h.objs.size + 1))).keeps k
  unfold isInstance
  repeat (first | with_reducible refine wpAny_loadPart_at z2 ?_ | (with_reducible refine wpAny_isSubtype_exc z1 ?_; rw [z3]) | wp_step)
  show wpAny _ _ (typeLookup (.ref C) _) _ _ _
  refine i1.at ?_
  refine wpAny_holding (wpAny_bind (b1.at ?_))
  refine wpAny_bind (wpAny_call (codeAny_mono hq fun r s' z => ?_))
  rcases r with e | (v | _ | _ | _) <;> first | exact z | exact z.elim | skip
  obtain ⟨rfl, z⟩ := z
  first
    | exact wpAny_pure (wpAny_pure z)
    | (wp_walk; exact z)
theorem call_kw (F : ExcBaseFacts B newId initId bmB) (hT : ∀ X : String, bm.contains (.type X) = bmB.contains (.type X)) {rest : List Value} {kw : List (Str × Value)} {fI : Addr}
    (hC : h.get? C = some (excClassObj nm q C N bs bm hdct sn sub ab col dd k0 k1 k2 k3 k5 newId))
    (hi : W.Looks (model prog w) h (typeLookup (.ref C) "__init__") (some (.ref fI))) (hb : ∀ self, W.Looks (model prog w) h (bindSpecial (.ref fI) self) (.ref fI, [self])) (hrest : rest.length ≤ sizeLine)
    (hq : codeAny (model prog w) (A.under (.builtin "type.__call__" ⟨.ref C :: rest, kw⟩)) (.call (.ref fI) ⟨.ref (h.objs.size + 1) :: rest, kw⟩) (W.InitBack (h.objs.size + 1) R)
      ⟨(h.push (W.kdv_tup rest)).push (excO C h.objs.size), g, d, t, os⟩) :
    codeAny (model prog w) A (.call (.ref C) ⟨rest, kw⟩) R ⟨h, g, d, t, os⟩ := by
  have f1 := tc_lookup
  have f2 := tc_bind (.ref C)
  have ty : (⟨h, g, d, t, os⟩ : Shared).TypeIs (.ref C) "type" := ⟨_, hC, rfl⟩
  refine codeAny_of_tree ?_
  show wpAny _ _ (callAny (.ref C) _) _ _ _
  repeat (any_goals (first | assumption | with_reducible refine wpAny_loadPart_at hC ?_ | wp_step))
  refine ⟨rfl, ?_⟩
  refine codeAny_call_builtin_at (Code.quiet_builtin _ (by decide +kernel)) entry_typeCall (wpAny_check_type_call_sub hC (tcall F hT hC hi hb hrest ?_))
  refine codeAny_mono hq fun r s' z => ?_
  rcases r with e | (v | _ | _ | _) <;> exact z
end
end DWX
set_option Elab.async false
set_option linter.all false
set_option maxRecDepth 100000
set_option maxHeartbeats 2000000
/-! DW13: own exceptions (one attribute, kept by __init__) as values: made, asked, raised. -/
namespace DW
open PySem PySem.Spec PyProof.Rows L2
/-- what the written part says of an own exception class x at C: its __init__ at fI keeps the attribute f -/
structure ClsF (K : PySem.W.Frag) (mg : Str → Option Value) (x : Str) (C fI : Addr) (f : Str) : Prop where
  oex : OexC K C
  ini : PySem.W.findIn K (.ref C) "__init__" = some (some (.ref fI))
  tyI : PySem.W.typeIn K (.ref fI) = some (.type "function")
  no : PySem.W.findIn K (.ref C) f = some none
  g : mg x = some (.ref C)
  xf : XfC K C
  ex : ExcC K C
/-- __init__(self, f): self.f = f -/
def spIni (C : Addr) (f : Str) : Sp := fun vs H Q _ => ∃ a v, vs = [.ref a, v] ∧ H a = some (exo a C none) ∧ ∀ dx, H dx = none → dx ≠ a → Q .non (upd (upd H dx (exd dx [(f, v)])) a (exo a C (some dx)))
/-- how the class is called: by place, by name -/
def argsOf (f : Str) (kw : Bool) (u : Value) : Args := if kw then ⟨[], [(f, u)]⟩ else ⟨[u], []⟩
def selfOf (a : Value) (f : Str) (kw : Bool) (u : Value) : Args := if kw then ⟨[a], [(f, u)]⟩ else ⟨[a, u], []⟩
structure IniF (P : Program) (w : World) (K : PySem.W.Frag) (mg : Str → Option Value) (base : Heap) (C fI : Addr) (f : Str) : Prop where
  fn : ∃ fd, FnOk P w K mg base (L2.CX P w) 1 fI fd ["self", f] (spIni C f) ∧ ∀ (s : Shared) (a u : Value) (kw : Bool), BindsTo s fd (selfOf a f kw u) [("self", a), (f, u)]
theorem upd3 {H : Hp} {a dx : Addr} {o o' e : HO} (h : dx ≠ a) : upd (upd (upd H a o) dx e) a o' = upd (upd H dx e) a o' := by
  funext b
  by_cases h1 : b = a
  · rw [h1, upd_same, upd_same]
  · rw [upd_ne h1, upd_ne h1]
    by_cases h2 : b = dx
    · rw [h2, upd_same, upd_same]
    · rw [upd_ne h2, upd_ne h2, upd_ne h1]
section
variable {X : Cx} {x : Str} {C fI : Addr} {f : Str} {pins : List (Addr × Obj)} {σ : L2.St} {H1 : Hp} {s1 : Shared}
/-- the class is called -/
theorem run_mk (T : ClsF X.K X.mg x C fI f) (F : IniF X.prog X.w X.K X.mg X.base C fI f) (hr : Room 2 X.A) (kw : Bool) (I1 : Inv X pins σ H1 s1) {v : V} {u : Value} (r1 : RelV v u) {R : Value → Shared → Prop}
    (q : ∀ (a dx : Addr) (s2 : Shared), H1 a = none → H1 dx = none → dx ≠ a → Inv X pins σ (upd (upd H1 dx (exd dx [(f, v)])) a (exo a C (some dx))) s2 → R (.ref a) s2) :
    wpAny (model X.prog X.w) X.A (PySem.call (.ref C) (argsOf f kw u).pos (argsOf f kw u).kw) R X.xe s1 := by
  obtain ⟨nm, qn, N, bs, bm, sn, sub, ab, col, dd, k0, k1, k2, k3, k5, hC, hbm⟩ := T.oex.cls
  obtain ⟨fd, Fn, hb⟩ := F.fn
  obtain ⟨hp, g, dr, tk, os⟩ := s1
  have hsz : hp.objs.size ≤ hp.objs.size + 1 := Nat.le_succ _
  have hn : H1 (hp.objs.size + 1) = none := I1.hok.fresh hsz
  have hl : (argsOf f kw u).pos.length ≤ sizeLine := by
    have z : (argsOf f kw u).pos.length ≤ 1 := by cases kw <;> simp [argsOf]
    rw [sizeLine_eq]; omega
  have kk : ∀ b o, hp.get? b = some o → ((hp.push (PySem.W.kdv_tup (argsOf f kw u).pos)).push (PySem.HandSPX.excO C hp.objs.size)).get? b = some o := fun b o e => Heap.get?_push_of_some _ (Heap.get?_push_of_some _ e)
  have hget : ((hp.push (PySem.W.kdv_tup (argsOf f kw u).pos)).push (PySem.HandSPX.excO C hp.objs.size)).get? (hp.objs.size + 1) = some (PySem.HandSPX.excO C hp.objs.size) := by heap_get
  have I2 : Inv X pins σ (upd H1 (hp.objs.size + 1) (exo (hp.objs.size + 1) C none)) ⟨(hp.push (PySem.W.kdv_tup (argsOf f kw u).pos)).push (PySem.HandSPX.excO C hp.objs.size), g, dr, tk, os⟩ :=
    I1.laid (t' := tk) (a := hp.objs.size + 1) (o := exo (hp.objs.size + 1) C none) (h' := (hp.push (PySem.W.kdv_tup (argsOf f kw u).pos)).push (PySem.HandSPX.excO C hp.objs.size)) kk hsz (exo_ok hget)
  have told : spIni C f [.ref (hp.objs.size + 1), v] (upd H1 (hp.objs.size + 1) (exo (hp.objs.size + 1) C none))
      (fun z H2 => z = .non ∧ ∃ dx, H1 dx = none ∧ dx ≠ hp.objs.size + 1 ∧ H2 = upd (upd H1 dx (exd dx [(f, v)])) (hp.objs.size + 1) (exo (hp.objs.size + 1) C (some dx))) fun _ _ _ => False := by
    refine ⟨_, _, rfl, upd_same, fun dx h1 h2 => ⟨rfl, dx, ?_, h2, upd3 h2⟩⟩
    rw [upd_ne h2] at h1
    exact h1
  have bnds := hb ⟨(hp.push (PySem.W.kdv_tup (argsOf f kw u).pos)).push (PySem.HandSPX.excO C hp.objs.size), g, dr, tk, os⟩ (.ref (hp.objs.size + 1)) u kw
  have es : (⟨.ref (hp.objs.size + 1) :: (argsOf f kw u).pos, (argsOf f kw u).kw⟩ : Args) = selfOf (.ref (hp.objs.size + 1)) f kw u := by cases kw <;> rfl
  refine wpAny_call (DWX.call_kw PySem.F.excBase_ValueError (fun Y => PySem.HandSPX.refsVE_contains Y bm hbm) (I1.kIn _ _ hC) (PySem.W.looks_findIn I1.kIn T.ini) (fun self => PySem.W.bind_fn I1.kIn self T.tyI) hl
    (codeAny_mono (Fn.run _ X.stack _ _ ⟨.ref (hp.objs.size + 1) :: (argsOf f kw u).pos, (argsOf f kw u).kw⟩ [.ref (hp.objs.size + 1), u] [.ref (hp.objs.size + 1), v] _ (fun _ _ _ => False) (hr.make C _ _) (I2.env0.make C _ _) (es ▸ bnds) (.cons rfl (.cons r1 .nil)) told) fun r s' hq' => ?_))
  cases r with
  | error er =>
    obtain ⟨_, _, _, _, _, _, _, _, _, _, _, _, z⟩ := hq'
    exact z.elim
  | ok fl =>
    cases fl with
    | ret u2 =>
      obtain ⟨z, H2, I3, rz, ez, dx, h1, h2, rfl⟩ := I2.after hq'
      subst ez
      exact ⟨rz, q _ dx s' hn h1 h2 I3⟩
    | next => exact False.elim hq'
    | brk => exact False.elim hq'
    | cont => exact False.elim hq'
end
/-! ### as data -/
section
variable {th : Th} {X : Cx} {C : Ct th} {W : WX} {pos : Pos}
def mkE (c : Str) : List D → Option D
  | [d] => some (.exc c d)
  | _ => none
theorem put_exc {G H : Hp} {t : th.T} {Z : Zn} {Q : VK} {c f : Str} {Ca a dx : Addr} {d : D} {v : V} (w : Wd th t G H) (hc : Z.cl c = some (Ca, f)) (r : IsD Z G d v) (ha : H a = none) (hd : H dx = none) (ne : dx ≠ a)
    (q : ∀ v G' H', Step th G H G' H' → Wd th t G' H' → IsD Z G' (.exc c d) v → Q v H') : Q (.ref a) (upd (upd H dx (exd dx [(f, v)])) a (exo a Ca (some dx))) := by
  have w1 := w.newD (o := exd dx [(f, v)]) hd
  have s1 := Step.newD (th := th) (o := exd dx [(f, v)]) w.sub hd
  have ha1 : (upd H dx (exd dx [(f, v)])) a = none := by rw [upd_ne (Ne.symm ne)]; exact ha
  have w2 := w1.newD (o := exo a Ca (some dx)) ha1
  have s2 := Step.newD (th := th) (o := exo a Ca (some dx)) w1.sub ha1
  exact q _ _ _ (s1.trans s2) w2 (.exc hc upd_same (by rw [upd_ne ne]; exact upd_same) (r.mono (s1.sub.trans s2.sub)))
theorem pd_mk {c f : Str} {Ca fI : Addr} {p : Pos} {e : Expr} {g : M th.T (List D)} (T : ClsF X.K X.mg c Ca fI f) (F : IniF X.prog X.w X.K X.mg X.base Ca fI f) (hcl : C.Z.cl c = some (Ca, f)) (hr : Room 2 X.A) (hg : Gl X c) (ha : PDs X C W [e] g) (hdb : (c == ("__debug__" : Str)) = false := by decide)
    (he : starEach [e] X.env = (false, eval e X.env) :: starEach [] X.env := by rfl) (hpl : (backTo pos (starEach [] X.env)).any (·.1) = false := by rfl) : PD X C W (.Call (.Name c p) [e] [] pos) (eB (mkE c) g) := by
  refine ⟨fun pins s σ H Q I h => ?_⟩
  refine wpAny_Call_Name_kw (ld_glob I hg T.g ?_ hdb)
  refine PySem.W.callWith_K (h₀ := X.base) I.ok.mod.kin T.oex.kC (thn (ha.run pos pins s σ H _ I (tG.chain (rel1 := IsDs C.Z) h)) fun us s1 hs => ?_) he hpl
  obtain ⟨vs, H1, I1, r1, ρ1, G1, ds, t1, w1, e1, rd, o1⟩ := hs
  refine ⟨I1.kIn, ?_⟩
  obtain ⟨d, ed, q⟩ := opt_out o1
  unfold mkE at ed
  split at ed
  · cases ed
    obtain ⟨v, rfl, hv⟩ := rd.one
    obtain ⟨u, rfl, ru⟩ := vals1 r1
    exact run_mk T F hr false I1 ru fun a dx s2 h1 h2 h3 I2 => ⟨.ref a, _, I2, rfl, put_exc w1 hcl hv h1 h2 h3 q⟩
  · cases ed
theorem pd_mkK {c f : Str} {Ca fI : Addr} {p kp : Pos} {e : Expr} {g : M th.T D} (T : ClsF X.K X.mg c Ca fI f) (F : IniF X.prog X.w X.K X.mg X.base Ca fI f) (hcl : C.Z.cl c = some (Ca, f)) (hr : Room 2 X.A) (hg : Gl X c) (ha : PD X C W e g) (hdb : (c == ("__debug__" : Str)) = false := by decide)
    (hall : (backToKw pos (keywordEach [⟨some f, e, kp⟩] X.env)).all (·.1.isSome) = true := by rfl) (hks : (backToKw pos (keywordEach [⟨some f, e, kp⟩] X.env)).filterMap (·.1) = [f] := by rfl)
    (hpl : ((backTo pos (starEach [] X.env)).any (·.1) || (backToKw pos (keywordEach [⟨some f, e, kp⟩] X.env)).any (·.1.isNone)) = false := by rfl) : PD X C W (.Call (.Name c p) [] [⟨some f, e, kp⟩] pos) (eU (fun d => some (.exc c d)) g) := by
  refine ⟨fun pins s σ H Q I h => ?_⟩
  refine wpAny_Call_Name_kw (ld_glob I hg T.g ?_ hdb)
  have hk : PK X [⟨some f, e, kp⟩] (tCons (tD C W g) tNil) := pk_cons ha pk_nil
  have hh : tCons (tD C W g) tNil σ H fun vs H1 => ∃ v ρ G1 d t1, vs = [v] ∧ Wd th t1 G1 H1 ∧ EnvR C G1 H1 ρ σ ∧ IsD C.Z G1 d v ∧ OutG C W (IsD C.Z) σ G1 H1 Q (opt (some (.exc c d)) t1) := by
    obtain ⟨ρ, G, t, w, e, o⟩ := tG.chain (rel1 := IsD C.Z) h
    refine ⟨ρ, G, t, w, e, OutG.imp .refl o fun x H1 hx => ?_⟩
    obtain ⟨ρ1, G1, a, t1, w1, e1, r1, o1⟩ := hx
    exact ⟨x, ρ1, G1, a, t1, rfl, w1, e1, r1, o1⟩
  refine PySem.W.callWith_KW0 (h₀ := X.base) I.ok.mod.kin T.oex.kC hall (thn (hk.run pos pins s σ H _ I hh) fun us s1 hs => ?_) hpl
  obtain ⟨vs, H1, I1, r1, v, ρ1, G1, d, t1, rfl, w1, e1, hv, o1⟩ := hs
  refine ⟨I1.kIn, ?_⟩
  rw [hks]
  obtain ⟨u, rfl, ru⟩ := vals1 r1
  obtain ⟨d', ed, q⟩ := opt_out o1
  cases ed
  exact run_mk T F hr true I1 ru fun a dx s2 h1 h2 h3 I2 => ⟨.ref a, _, I2, rfl, put_exc w1 hcl hv h1 h2 h3 q⟩
/-! ### asked -/
/-- e.f -/
def atD (ca : Str → Option Str) (n : Str) : D → Option D
  | .exc c d => if ca c = some n then some d else none
  | _ => none
/-- the table of classes: their attributes, and that they are well -/
structure Tab (K : PySem.W.Frag) (Z : Zn) (ca : Str → Option Str) : Prop where
  at_ : ∀ c f, ca c = some f → ∃ C, Z.cl c = some (C, f)
  no : ∀ c C f, Z.cl c = some (C, f) → PySem.W.findIn K (.ref C) f = some none
  xf : ∀ c C f, Z.cl c = some (C, f) → XfC K C
  ex : ∀ c C f, Z.cl c = some (C, f) → ExcC K C
  un : ∀ c c' C C' f f', Z.cl c = some (C, f) → Z.cl c' = some (C', f') → C = C' → c = c'
theorem exc_inst {pins : List (Addr × Obj)} {σ : L2.St} {H : Hp} {s : Shared} (I : Inv X pins σ H s) {a Ca dx : Addr} {f : Str} {pv : V} (h1 : H a = some (exo a Ca (some dx))) (h2 : H dx = some (exd dx [(f, pv)])) :
    ∃ (ox od : Obj) (mA : Str → Option Value), PySem.W.InstAt s.heap a ox Ca (some od) ∧ (∀ n, PySem.W.lookIn n od = some (mA n)) ∧ ∀ n, RelO (List.lookup n [(f, pv)]) (mA n) := by
  obtain ⟨t1, g1⟩ := exo_at I.hok h1
  obtain ⟨mA, ns, rel⟩ := exd_at I.hok h2
  obtain ⟨od, ho, hl⟩ := lookIn_ns ns
  exact ⟨_, od, mA, ⟨g1, rfl, rfl, ho⟩, hl, rel⟩
theorem pd_at {ca : Str → Option Str} {e : Expr} {n : Str} {g : M th.T D} (tb : Tab X.K C.Z ca) (he : PD X C W e g) (hb : attributeBase e n X.env (eval e X.env) = eval e X.env := by rfl) : PD X C W (.Attribute e n pos) (eU (atD ca n) g) := by
  refine ⟨fun pins s σ H Q I h => ?_⟩
  refine attr_of hb (thn (he.run pins s σ H _ I (tG.chain (rel1 := IsD C.Z) h)) fun u s1 hs => ?_)
  obtain ⟨x, H1, I1, rx, ρ1, G1, d, t1, w1, e1, rd, o1⟩ := hs
  obtain ⟨d', ed, q⟩ := opt_out o1
  unfold atD at ed
  split at ed
  · rename_i c d0
    split at ed
    · rename_i hca
      cases ed
      cases rd with
      | @exc a Ca dx f pv _ _ hc k1 k2 k3 =>
        cases rx
        obtain ⟨C2, hc2⟩ := tb.at_ c n hca
        rw [hc] at hc2
        cases hc2
        obtain ⟨ox, od, mA, J, hl, rel⟩ := exc_inst I1 (w1.sub _ _ k1) (w1.sub _ _ k2)
        have el : List.lookup n [(n, pv)] = some pv := by simp [List.lookup]
        obtain ⟨u, hu, ru⟩ := RelO.some_of (v := pv) (o := mA n) (by rw [← el]; exact rel n)
        have T := tb.xf _ _ _ hc
        exact HandSPX.exc_get I1.kIn J T.ga T.gg T.exC (PySem.W.findObj_own T.hdC (tb.no _ _ _ hc) rfl (by rw [hl, hu])) (handed_of ru) ⟨pv, H1, I1.tok _, ru, put_same w1 k3 q⟩
    · cases ed
  · cases ed
/-- isinstance(e, c): by a table of answers -/
def isiE (tbl : Str → Option Bool) : D → Option D
  | .exc c _ => (tbl c).map .bl
  | _ => none
theorem pd_isi {ca : Str → Option Str} {e ce : Expr} {p : Pos} {g : M th.T D} {tbl : Str → Option Bool} {cV : V} {cv : Value} (tb : Tab X.K C.Z ca) (ht : ∀ c C' f b, C.Z.cl c = some (C', f) → tbl c = some b → PySem.W.kitOne X.K (.ref C') cv = some b) (hcv : ClsV cV cv) (hg : Gl X "isinstance") (hm : X.mg "isinstance" = none)
    (he : PD X C W e g) (hc : PE X ce (tC cV)) (hs : starEach [e, ce] X.env = (false, eval e X.env) :: starEach [ce] X.env := by rfl) (hs2 : starEach [ce] X.env = (false, eval ce X.env) :: starEach [] X.env := by rfl) (hpl : (backTo pos (starEach [ce] X.env)).any (·.1) = false := by rfl) :
    PD X C W (.Call (.Name "isinstance" p) [e, ce] [] pos) (eU (isiE tbl) g) := by
  have cr : CallR X (.builtin "isinstance") (fun xs H Q => ∃ x, xs = [x, cV] ∧ ∃ (t : th.T) (G : Hp) (d d' : D), Wd th t G H ∧ IsD C.Z G d x ∧ isiE tbl d = some d' ∧ ∀ v G' H', Step th G H G' H' → Wd th t G' H' → IsD C.Z G' d' v → Q v H') := by
    intro pins s σ H xs us Q I r h
    obtain ⟨x, rfl, t, G, d, d', w, rd, ed, q⟩ := h
    obtain ⟨u1, u2, rfl, r1, r2⟩ := vals2 r
    have e2 := hcv.eq r2
    subst e2
    unfold isiE at ed
    split at ed
    · rename_i c d0
      cases eb : tbl c with
      | none => rw [eb] at ed; cases ed
      | some b =>
        rw [eb] at ed; cases ed
        cases rd with
        | @exc a Ca dx f pv _ _ hc k1 k2 k3 =>
          cases r1
          obtain ⟨ox, od, mA, J, hl, rel⟩ := exc_inst I (w.sub _ _ k1) (w.sub _ _ k2)
          have Z := tb.ex _ _ _ hc
          have isS : (PySem.W.clsIn X.K Ca).isSome = true := by
            have q := Z.hd
            unfold PySem.W.hasDictIn at q
            cases z : PySem.W.clsIn X.K Ca with
            | none => rw [z] at q; cases q
            | some _ => rfl
          exact PySem.W.kia_one (PySem.W.kitx_exc isS Z.hg Z.hk Z.hs Z.ha Z.hn Z.ht Z.hm) I.kIn J (ht _ _ _ _ hc eb) (fun z => nomatch z) fun tk => ⟨.bl b, H, I.tok tk, rfl, put_same w (.bl b) q⟩
    · cases ed
  refine PE.imp (pe_callB cr hg hm boot_isinstance (pa_cons he (pa_cons hc pa_nil hs2) hs) (by decide) (by decide) hs hpl) fun σ H Q h => ?_
  obtain ⟨ρ, G, t, w, e, o⟩ := tG.chain (rel1 := IsD C.Z) h
  refine ⟨ρ, G, t, w, e, OutG.imp .refl o fun x H1 hx => ?_⟩
  obtain ⟨ρ1, G1, a, t1, w1, e1, r1, o1⟩ := hx
  obtain ⟨d', ed, q⟩ := opt_out o1
  exact ⟨x, rfl, t1, G1, a, d', w1, r1, ed, q⟩
end
end DW
set_option Elab.async false
set_option linter.all false
set_option maxRecDepth 100000
set_option maxHeartbeats 2000000
/-! DW14: raise; try with several clauses, with and without a name. -/
namespace DW
open PySem PySem.Spec PyProof.Rows L2
/-- a clause: its class, its name's slot, its suite -/
abbrev Cla : Type := Value × Option Nat × (Addr → Value → Option Addr → TS)
def endsO (o : Option Nat) (D : Ends) : Ends := match o with
  | none => D
  | some i => { nx := fun σ' H' => D.nx (σ'.set i none) H', rt := D.rt, bk := fun σ' H' => D.bk (σ'.set i none) H', ct := fun σ' H' => D.ct (σ'.set i none) H' }
def setO (o : Option Nat) (σ : L2.St) (a : Addr) : L2.St := match o with
  | none => σ
  | some i => σ.set i (some (.ref a))
def wMix (K : PySem.W.Frag) (Wout : WX) (D : Ends) : List Cla → WX
  | [] => Wout
  | (c, o, ts) :: r => fun cls d σ H => ∃ b, PySem.W.exmOne K cls c = some b ∧ (b = true → ∀ a, H a = none → ts a cls d (endsO o D) (setO o σ a) H) ∧ (b = false → wMix K Wout D r cls d σ H)
inductive Mix (X : Cx) : List ExceptHandler → List Cla → Prop
  | nil : Mix X [] []
  | bare {x : Str} {c : Value} {ts : Addr → Value → Option Addr → TS} {b₀ : Stmt} {suite : List Stmt} {np ps : Pos} {hds : List ExceptHandler} {l : List Cla} (hc : Names X x c)
      (hsu : ∀ (a : Addr) (oe : Obj) (cls : Value) (d : Option Addr) (pn : List (Addr × Obj)), Zc cls d oe → (∃ vs, oe.data = .fields vs) → PSs (X.suite a ((a, oe) :: pn)) (b₀ :: suite) (ts a cls d)) (r : Mix X hds l) :
      Mix X (.ExceptHandler (some (.Name x np)) none (b₀ :: suite) ps :: hds) ((c, none, ts) :: l)
  | named {x n : Str} {i : Nat} {c : Value} {ts : Addr → Value → Option Addr → TS} {b₀ : Stmt} {suite : List Stmt} {np ps : Pos} {hds : List ExceptHandler} {l : List Cla} (hc : Names X x c) (hi : X.N[i]? = some n) (hln : X.env.kindOf n = some .local)
      (hsu : ∀ (a : Addr) (oe : Obj) (cls : Value) (d : Option Addr) (pn : List (Addr × Obj)), Zc cls d oe → (∃ vs, oe.data = .fields vs) → PSs (X.suite a ((a, oe) :: pn)) (b₀ :: suite) (ts a cls d)) (r : Mix X hds l) :
      Mix X (.ExceptHandler (some (.Name x np)) (some n) (b₀ :: suite) ps :: hds) ((c, some i, ts) :: l)
section
variable {X : Cx} {body : List Stmt} {h₀ : ExceptHandler} {hds : List ExceptHandler} {l : List Cla} {pos : Pos} {tb : WX → TS} {Wout : WX}
theorem ps_try_mix (hs : X.stack = X.env :: X.outer) (hf : X.env.frame = some X.env.locals) (hN : X.N.Nodup) (tk : Takes X Wout)
    (hb : ∀ (W : WX) (pn : List (Addr × Obj)) (xe : Value → Shared → Prop), Takes (X.tr pn xe) W → PassesOwn (model X.prog X.w) X.A X.env xe → PSs (X.tr pn xe) body (tb W))
    (hh : Mix X (h₀ :: hds) l) : PS X (.Try body (h₀ :: hds) [] [] pos) (fun D σ H => tb (wMix X.K Wout D l) D σ H) := by
  refine ⟨fun pins s σ H D I told => ?_⟩
  have wk := I.ok
  have fra : X.A.frames = some (X.env :: X.outer) := by rw [wk.frames, hs]
  refine wpAny_Try_except ?_
  refine wpAny_mono ((hb (wMix X.K Wout D l) (X.pn ++ pins) (fun e s₁ => wpAny (model X.prog X.w) X.A (noteFrame e X.env) (fun _ s₂ => wpAny (model X.prog X.w) X.A (setFlight e none) (fun _ s₃ => wpAny (model X.prog X.w) X.A (handleBy e X.env (h₀ :: hds)) (SP X pins D) X.xe s₃) X.xe s₂) X.xe s₁)
    (fun u s' z => ?_) PassesOwn.looking).run [] s σ H D (I.toTry _) told) (fun fl s1 good => ?_) (fun e s1 z => z)
  · obtain ⟨a, B, sI, p2, σ1, H1, cls, d, rfl, J0, nb, up, sk, na, os, ag, wish⟩ := z
    have J : Inv X pins σ1 H1 sI := J0.ofTry wk
    have sk1 : Sky B (X.env :: X.outer) a (Zc cls d) X.env.locals s'.heap := by rw [← hs]; exact sk
    show wpAny (model X.prog X.w) X.A (noteFrame (.ref a) X.env) _ _ _
    refine Sky.land Zc.steady fra hf sk1 fun m3 f3 u3 => ?_
    have J3 : Inv X pins σ1 H1 { s' with heap := m3 } := J.landed nb f3.1 (up.trans u3) os ag
    obtain ⟨e3, v3, at3, z3, d3⟩ := f3.there
    have off : ∀ {m : Heap} {o : Obj} {vs : Array Value}, m.FunFrames B (X.env :: X.outer) → m.get? a = some o → o.data = .fields vs → a ∉ frs (X.env :: X.outer) := fun {m o vs} ff q1 q2 hm => by
      obtain ⟨_, o', q3, q4⟩ := ff.mem hm
      rw [q1] at q3
      cases q3
      exact q4 _ q2
    have no := off f3.2.2.1 at3 d3
    have nl : a ≠ X.env.locals := fun q => no (List.mem_filterMap.mpr ⟨X.env, List.mem_cons_self, by rw [hf, q]⟩)
    have nf : a ∉ X.fs := fun hm => by
      obtain ⟨e, q1, q2⟩ := List.mem_filterMap.mp hm
      exact no (List.mem_filterMap.mpr ⟨e, List.mem_cons_of_mem _ q1, q2⟩)
    have S3 := J3.suite at3 d3 na nl nf
    have LT : PySem.W.Looks (model X.prog X.w) m3 (typeOf (.ref a)) cls := fun A Q E s k q => wpAny_typeOf_ref (k _ _ at3) (by rw [z3.1]; exact q)
    have seen : ∀ {x : Str} {c : Value} {np : Pos}, Names X x c → ∀ {Q : Value → Shared → Prop} {E : Value → Shared → Prop}, Q c { s' with heap := m3 } → wpAny (model X.prog X.w) (X.A.mark (some (.ref a))) (eval (.Name x np) X.env) Q E { s' with heap := m3 } := fun {x c np} nm {Q E} q => by
      obtain ⟨q1, q2, q3 | ⟨q3, q4, q5⟩⟩ := nm
      · exact ld_glob (X := X.suite a ((a, e3) :: (X.pn ++ pins))) S3 q1 q3 q q2
      · exact ld_blt (X := X.suite a ((a, e3) :: (X.pn ++ pins))) S3 q1 q3 q4 q q5 q2
    have go : ∀ {hs' : List ExceptHandler} {l' : List Cla}, Mix X hs' l' → wMix X.K Wout D l' cls d σ1 H1 → wpAny (model X.prog X.w) X.A (handleBy (.ref a) X.env hs') (SP X pins D) X.xe { s' with heap := m3 } := by
      intro hs' l' hk
      induction hk with
      | nil =>
        intro w
        refine wpAny_handleBy_nil ?_
        obtain ⟨_, _, _, oe, vs, T, oT, ts', q1, q2, q3, q4, _⟩ := id f3
        unfold PySem.passOn
        refine wpAny_bind (wpAny_field q1 q3 q4 ?_)
        rw [if_neg (show ¬ ((Value.ref T == Value.none) = true) from by simp)]
        have out : wpAny (model X.prog X.w) X.A (setFlight (.ref a) X.env.frame) (fun _ s4 => wpAny (model X.prog X.w) X.A (throw (.ref a) : Sem Flow) (SP X pins D) X.xe s4) X.xe { s' with heap := m3 } := by
          rw [hf]
          refine HandSPX.setFlight_upZ f3 fun m4 f4 u4 => wpAny_throw (tk _ _ ⟨a, B, sI, pins, σ1, H1, cls, d, rfl, J, nb, (up.trans u3).trans u4, .inr (.inr (by rw [hs]; exact f4)), na, os, ag, w⟩)
        first
          | exact wpAny_bind (wpAny_pure (wpAny_bind out))
          | exact wpAny_bind out
      | @bare x c ts b₀ suite np ps hds2 l2 nm hsu r ih =>
        intro w
        obtain ⟨b, w1, wy, wn⟩ := w
        refine wpAny_handleBy_cons (codeAny_handlers_test ?_) (by intro q; cases q)
        refine seen nm ((PySem.W.exm_one (M := model X.prog X.w) J3.kIn LT w1).here ?_)
        cases b with
        | true =>
          refine codeAny_handlers_suite (HandSPX.lands_againZ f3 fun m4 f4 u4 => ?_)
          have J4 : Inv X pins σ1 H1 { s' with heap := m4 } := J.landed nb f4.1 ((up.trans u3).trans u4) os ag
          obtain ⟨e4, v4, at4, z4, d4⟩ := f4.there
          refine wpAny_mono ((hsu a e4 cls d (X.pn ++ pins) z4 ⟨_, d4⟩).run [] _ _ H1 _ (J4.suite at4 d4 na nl nf) (wy rfl a na)) (fun fl s6 good => ?_) (fun _ _ q => False.elim q)
          cases fl with
          | next => exact let ⟨_, _, S6, q6⟩ := good; ⟨_, _, S6.unsuite wk, q6⟩
          | brk => exact let ⟨_, _, S6, q6⟩ := good; ⟨_, _, S6.unsuite wk, q6⟩
          | cont => exact let ⟨_, _, S6, q6⟩ := good; ⟨_, _, S6.unsuite wk, q6⟩
          | ret u => exact let ⟨_, _, _, S6, r6, q6⟩ := good; ⟨_, _, _, S6.unsuite wk, r6, q6⟩
        | false => exact ih (wn rfl)
      | @named x n i c ts b₀ suite np ps hds2 l2 nm hi hln hsu r ih =>
        intro w
        obtain ⟨b, w1, wy, wn⟩ := w
        refine wpAny_handleBy_cons (codeAny_handlers_test ?_) (by intro q; cases q)
        refine seen nm ((PySem.W.exm_one (M := model X.prog X.w) J3.kIn LT w1).here ?_)
        cases b with
        | true =>
          refine codeAny_handlers_suite_as (HandSPX.lands_againZ f3 fun m4 f4 u4 => ?_)
          have J4 : Inv X pins σ1 H1 { s' with heap := m4 } := J.landed nb f4.1 ((up.trans u3).trans u4) os ag
          obtain ⟨e4, v4, at4, z4, d4⟩ := f4.there
          refine store_ok (X := X.suite a ((a, e4) :: (X.pn ++ pins))) (v := .ref a) (J4.suite at4 d4 na nl nf) hN hi (.inl hln) rfl (fun s5 S5 => ?_) (.inr hln)
          refine wpAny_mono ((hsu a e4 cls d (X.pn ++ pins) z4 ⟨_, d4⟩).run [] s5 _ H1 _ S5 (wy rfl a na)) (fun fl s6 good => ?_) (fun _ _ q => False.elim q)
          have leave : ∀ {σ6 : L2.St} {H6 : Hp} {Q : Shared → Prop}, Inv (X.suite a ((a, e4) :: (X.pn ++ pins))) [] σ6 H6 s6 → (∀ s7, Inv X pins (σ6.set i none) H6 s7 → Q s7) → wpAny (model X.prog X.w) X.A (do bindName X.env n .none; unbindBehindTheSuite X.env n ps) (fun _ s7 => Q s7) X.xe s6 :=
            fun {σ6 H6 Q} S6 hq => gone_ok (S6.unsuite wk) hN hi hln hq
          cases fl with
          | next => exact let ⟨_, _, S6, q6⟩ := good; leave S6 fun s7 J7 => ⟨_, _, J7, q6⟩
          | brk => exact let ⟨_, _, S6, q6⟩ := good; leave S6 fun s7 J7 => ⟨_, _, J7, q6⟩
          | cont => exact let ⟨_, _, S6, q6⟩ := good; leave S6 fun s7 J7 => ⟨_, _, J7, q6⟩
          | ret u => exact let ⟨_, _, _, S6, r6, q6⟩ := good; leave S6 fun s7 J7 => ⟨_, _, _, J7, r6, q6⟩
        | false => exact ih (wn rfl)
    exact go hh wish
  · cases fl with
    | next => exact let ⟨_, _, J1, q⟩ := good; wpAny_execs_nil ⟨_, _, J1.ofTry wk, q⟩
    | brk => exact let ⟨_, _, J1, q⟩ := good; ⟨_, _, J1.ofTry wk, q⟩
    | cont => exact let ⟨_, _, J1, q⟩ := good; ⟨_, _, J1.ofTry wk, q⟩
    | ret u => exact let ⟨_, _, _, J1, r, q⟩ := good; ⟨_, _, _, J1.ofTry wk, r, q⟩
end
end DW
set_option Elab.async false
set_option linter.all false
set_option maxRecDepth 100000
set_option maxHeartbeats 2000000
/-! DW15: raise and try by mirrors. -/
namespace DW
open PySem PySem.Spec PyProof.Rows L2
/-- the same entry, another exception around -/
abbrev Ct.wx {th : Th} (C : Ct th) (x : Addr × Value × Option Addr) : Ct th := ⟨C.Z, C.G0, C.H0, x⟩
structure Hd (T : Type) where
  m : Str → Option Bool
  o : Option Nat
  s : MS T
def Sl.isExn : Sl → Bool
  | .exn _ _ => true
  | _ => false
def noExn (ρ : Rho) : Bool := ρ.all fun s => !s.isExn
def backO (o : Option Nat) (ρ : Rho) : Rho := match o with
  | none => ρ
  | some i => ρ.set i .un
def inO (o : Option Nat) (c : Str) (d : D) (ρ : Rho) : Rho := match o with
  | none => ρ
  | some i => ρ.set i (.exn c d)
section
variable {T : Type}
def leaveO (o : Option Nat) (r : Ss T) : Ss T := match r with
  | .nx ρ t => if noExn (backO o ρ) = true then .nx (backO o ρ) t else .bad
  | .rt d t => .rt d t
  | .bk ρ t => if noExn (backO o ρ) = true then .bk (backO o ρ) t else .bad
  | .ct ρ t => if noExn (backO o ρ) = true then .ct (backO o ρ) t else .bad
  | _ => .bad
def hdl : List (Hd T) → Str → D → MS T
  | [], c, d, ρ, t => .er c d ρ t
  | h :: r, c, d, ρ, t => match h.m c with
    | some true => leaveO h.o (h.s (inO h.o c d ρ) t)
    | some false => hdl r c d ρ t
    | none => .bad
def sTry (b : MS T) (hs : List (Hd T)) : MS T := fun ρ t => match b ρ t with
  | .er c d ρ1 t1 => if noExn ρ1 = true then hdl hs c d ρ1 t1 else .bad
  | r => r
def sRaise (c : Str) (f : M T D) : MS T := fun ρ t => sB (f ρ t) ρ fun d t => .er c d ρ t
end
section
variable {th : Th} {X : Cx} {C : Ct th} {W : WX} {pos : Pos}
theorem noExn_at {ρ : Rho} (h : noExn ρ = true) {i : Nat} {s : Sl} (e : ρ[i]? = some s) : s.isExn = false := by
  have q := List.all_eq_true.mp h s (List.mem_of_getElem? e)
  simpa using q
/-- another exception around: nothing of the slots hangs on it -/
theorem EnvR.ex {G H : Hp} {ρ : Rho} {σ : L2.St} {x y : Addr × Value × Option Addr} {C : Ct th} (e : EnvR (C.wx x) G H ρ σ) (h : noExn ρ = true) : EnvR (C.wx y) G H ρ σ :=
  ⟨e.len, fun i s o h1 h2 => by
    have q := e.at_ i s o h1 h2
    have n := noExn_at h h1
    cases s with
    | exn _ _ => cases n
    | un => trivial
    | va d => exact q
    | own d => exact q
    | ownK d => exact q, e.sep⟩
theorem At.ex {G H G1 H1 : Hp} {t : th.T} {x y : Addr × Value × Option Addr} {C : Ct th} (a : At (C.wx x) G H t G1 H1) : At (C.wx y) G H t G1 H1 := ⟨a.sub, a.st, a.w⟩
inductive MixD (X : Cx) (C : Ct th) : List ExceptHandler → List Cla → List (Hd th.T) → Prop
  | nil : MixD X C [] [] []
  | bare {x : Str} {c : Value} {f : MS th.T} {m : Str → Option Bool} {b₀ : Stmt} {suite : List Stmt} {np ps : Pos} {hds : List ExceptHandler} {l : List Cla} {k : List (Hd th.T)} (hc : Names X x c) (hm : ∀ n Ca g b, C.Z.cl n = some (Ca, g) → m n = some b → PySem.W.exmOne X.K (.ref Ca) c = some b)
      (hsu : ∀ (a : Addr) (oe : Obj) (cls : Value) (d : Option Addr) (pn : List (Addr × Obj)), Zc cls d oe → (∃ vs, oe.data = .fields vs) → PSds (X.suite a ((a, oe) :: pn)) (C.wx (a, cls, d)) W0 (b₀ :: suite) f) (r : MixD X C hds l k) :
      MixD X C (.ExceptHandler (some (.Name x np)) none (b₀ :: suite) ps :: hds) ((c, none, fun a cls d => tS (C.wx (a, cls, d)) W0 f) :: l) (⟨m, none, f⟩ :: k)
  | named {x n : Str} {i : Nat} {c : Value} {f : MS th.T} {m : Str → Option Bool} {b₀ : Stmt} {suite : List Stmt} {np ps : Pos} {hds : List ExceptHandler} {l : List Cla} {k : List (Hd th.T)} (hc : Names X x c) (hi : X.N[i]? = some n) (hln : X.env.kindOf n = some .local)
      (hm : ∀ n Ca g b, C.Z.cl n = some (Ca, g) → m n = some b → PySem.W.exmOne X.K (.ref Ca) c = some b)
      (hsu : ∀ (a : Addr) (oe : Obj) (cls : Value) (d : Option Addr) (pn : List (Addr × Obj)), Zc cls d oe → (∃ vs, oe.data = .fields vs) → PSds (X.suite a ((a, oe) :: pn)) (C.wx (a, cls, d)) W0 (b₀ :: suite) f) (r : MixD X C hds l k) :
      MixD X C (.ExceptHandler (some (.Name x np)) (some n) (b₀ :: suite) ps :: hds) ((c, some i, fun a cls d => tS (C.wx (a, cls, d)) W0 f) :: l) (⟨m, some i, f⟩ :: k)
theorem MixD.mix {hds : List ExceptHandler} {l : List Cla} {k : List (Hd th.T)} (h : MixD X C hds l k) : Mix X hds l := by
  induction h with
  | nil => exact .nil
  | bare hc _ hsu _ ih => exact .bare hc hsu ih
  | named hc hi hln _ hsu _ ih => exact .named hc hi hln hsu ih
def backS (o : Option Nat) (σ : L2.St) : L2.St := match o with
  | none => σ
  | some i => σ.set i none
/-- the suite's end is the try's end -/
theorem leave_ok {D' : Ends} {G H : Hp} {o : Option Nat} {r : Ss th.T} {x : Addr × Value × Option Addr} (h : OutS C W D' G H (leaveO o r)) : OutS (C.wx x) W0 (endsO o D') G H r := by
  have go : ∀ {ρ : Rho} {σ' : L2.St} {G' H' : Hp}, noExn (backO o ρ) = true → EnvR (C.wx x) G' H' ρ σ' → EnvR C G' H' (backO o ρ) (backS o σ') := fun {ρ σ' G' H'} hn e => by
    cases o with
    | none => exact EnvR.ex (C := C) (y := C.ex) e hn
    | some i => exact EnvR.ex (C := C) (y := C.ex) (e.unset i) hn
  cases r with
  | nx ρ t =>
    simp only [leaveO] at h
    by_cases hn : noExn (backO o ρ) = true
    · rw [if_pos hn] at h
      intro σ' G' H' a e
      have q := h _ G' H' (At.ex (C := C) (y := C.ex) a) (go hn e)
      cases o <;> exact q
    · rw [if_neg hn] at h; exact h.elim
  | rt d t =>
    simp only [leaveO] at h
    intro v G' H' a e
    have q := h v G' H' (At.ex (C := C) (y := C.ex) a) e
    cases o <;> exact q
  | bk ρ t =>
    simp only [leaveO] at h
    by_cases hn : noExn (backO o ρ) = true
    · rw [if_pos hn] at h
      intro σ' G' H' a e
      have q := h _ G' H' (At.ex (C := C) (y := C.ex) a) (go hn e)
      cases o <;> exact q
    · rw [if_neg hn] at h; exact h.elim
  | ct ρ t =>
    simp only [leaveO] at h
    by_cases hn : noExn (backO o ρ) = true
    · rw [if_pos hn] at h
      intro σ' G' H' a e
      have q := h _ G' H' (At.ex (C := C) (y := C.ex) a) (go hn e)
      cases o <;> exact q
    · rw [if_neg hn] at h; exact h.elim
  | er c p ρ t => exact h.elim
  | bad => exact h.elim
theorem hdl_ok {D' : Ends} {c : Str} {d : D} {ρ1 : Rho} {t1 : th.T} (hn : noExn ρ1 = true) {hds : List ExceptHandler} {l : List Cla} {k : List (Hd th.T)} (h : MixD X C hds l k) : ∀ {G H : Hp}, OutS C W D' G H (hdl k c d ρ1 t1) → ∀ {σ' : L2.St} {G' H' : Hp} {Ca dx : Addr},
    At C G H t1 G' H' → EnvR C G' H' ρ1 σ' → Pay C.Z G' c d Ca dx → wMix X.K W D' l (.ref Ca) (some dx) σ' H' := by
  induction h with
  | nil =>
    intro G H o σ' G' H' Ca dx a e p
    exact o σ' G' H' Ca dx a e p
  | @bare x cv f m b₀ suite np ps hds l k nm hm hsu r ih =>
    intro G H o σ' G' H' Ca dx a e p
    unfold hdl at o
    obtain ⟨g, pv, p1, p2, p3⟩ := id p
    cases em : m c with
    | none => simp only [em] at o; exact o.elim
    | some b =>
      refine ⟨b, hm c Ca g b p1 em, fun eb ea hea => ?_, fun eb => ?_⟩
      · subst eb
        simp only [em] at o
        refine ⟨ρ1, G', t1, At.ex (C := C) (x := C.ex) a.here, EnvR.ex (C := C) (x := C.ex) e hn, ?_⟩
        exact leave_ok (OutS.from a o)
      · subst eb
        simp only [em] at o
        exact ih o a e p
  | @named x n i cv f m b₀ suite np ps hds l k nm hi hln hm hsu r ih =>
    intro G H o σ' G' H' Ca dx a e p
    unfold hdl at o
    obtain ⟨g, pv, p1, p2, p3⟩ := id p
    cases em : m c with
    | none => simp only [em] at o; exact o.elim
    | some b =>
      refine ⟨b, hm c Ca g b p1 em, fun eb ea hea => ?_, fun eb => ?_⟩
      · subst eb
        simp only [em] at o
        have e2 := EnvR.ex (C := C) (x := C.ex) (y := (ea, .ref Ca, some dx)) e hn
        refine ⟨ρ1.set i (.exn c d), G', t1, At.ex (C := C) (x := C.ex) a.here, e2.set i (s := .exn c d) ⟨rfl, Ca, g, dx, pv, p1, rfl, rfl, p2, p3⟩ (fun q => nomatch q), ?_⟩
        exact leave_ok (OutS.from a o)
      · subst eb
        simp only [em] at o
        exact ih o a e p
theorem psd_try {body : List Stmt} {h₀ : ExceptHandler} {hds : List ExceptHandler} {l : List Cla} {k : List (Hd th.T)} {f : MS th.T} (hs : X.stack = X.env :: X.outer) (hf : X.env.frame = some X.env.locals) (hN : X.N.Nodup) (tk : Takes X W)
    (hb : ∀ (W : WX) (pn : List (Addr × Obj)) (xe : Value → Shared → Prop), Takes (X.tr pn xe) W → PassesOwn (model X.prog X.w) X.A X.env xe → PSds (X.tr pn xe) C W body f)
    (hh : MixD X C (h₀ :: hds) l k) : PSd X C W (.Try body (h₀ :: hds) [] [] pos) (sTry f k) := PS.imp (ps_try_mix hs hf hN tk (tb := fun W => tS C W f) hb hh.mix) fun D' σ H h => by
  obtain ⟨ρ, G, t, a, e, o⟩ := h
  refine ⟨ρ, G, t, a, e, ?_⟩
  unfold sTry at o
  cases hb' : f ρ t with
  | er c d ρ1 t1 =>
    simp only [hb'] at o
    split at o
    · rename_i hn
      exact fun σ' G' H' Ca dx a' e' p => hdl_ok hn hh o a' e' p
    · exact o.elim
  | nx ρ1 t1 => simp only [hb'] at o; exact o
  | rt d t1 => simp only [hb'] at o; exact o
  | bk ρ1 t1 => simp only [hb'] at o; exact o
  | ct ρ1 t1 => simp only [hb'] at o; exact o
  | bad => simp only [hb'] at o; exact o.elim
/-! ### raise -/
theorem upd_del {H : Hp} {a dx : Addr} {o e e' : HO} (h : dx ≠ a) (ha : H a = none) : upd (del (upd (upd H dx e) a o) a) dx e' = upd H dx e' := by
  funext b
  by_cases h2 : b = dx
  · rw [h2, upd_same, upd_same]
  · rw [upd_ne h2, upd_ne h2]
    by_cases h1 : b = a
    · rw [h1, del_same, ha]
    · rw [del_ne h1, upd_ne h1, upd_ne h2]
end
section
variable {X : Cx} {x : Str} {C fI : Addr} {f : Str} {pins : List (Addr × Obj)} {σ : L2.St} {H1 : Hp} {s1 : Shared}
/-- the class is called, the exception is to be raised -/
theorem run_rz (T : ClsF X.K X.mg x C fI f) (F : IniF X.prog X.w X.K X.mg X.base C fI f) (hr : Room 2 X.A) (kw : Bool) (I1 : Inv X pins σ H1 s1) {v : V} {u : Value} (r1 : RelV v u) {Q : XK}
    (q : ∀ dx : Addr, H1 dx = none → Q (.ref C) (some dx) (upd H1 dx (.xd [(f, v)]))) :
    wpAny (model X.prog X.w) X.A (PySem.call (.ref C) (argsOf f kw u).pos (argsOf f kw u).kw) (MkP X pins σ Q) X.xe s1 := by
  obtain ⟨nm, qn, N, bs, bm, sn, sub, ab, col, dd, k0, k1, k2, k3, k5, hC, hbm⟩ := T.oex.cls
  obtain ⟨fd, Fn, hb⟩ := F.fn
  obtain ⟨hp, g, dr, tk, os⟩ := s1
  have hsz : hp.objs.size ≤ hp.objs.size + 1 := Nat.le_succ _
  have hn : H1 (hp.objs.size + 1) = none := I1.hok.fresh hsz
  have hl : (argsOf f kw u).pos.length ≤ sizeLine := by
    have z : (argsOf f kw u).pos.length ≤ 1 := by cases kw <;> simp [argsOf]
    rw [sizeLine_eq]; omega
  have kk : ∀ b o, hp.get? b = some o → ((hp.push (PySem.W.kdv_tup (argsOf f kw u).pos)).push (PySem.HandSPX.excO C hp.objs.size)).get? b = some o := fun b o e => Heap.get?_push_of_some _ (Heap.get?_push_of_some _ e)
  have hget : ((hp.push (PySem.W.kdv_tup (argsOf f kw u).pos)).push (PySem.HandSPX.excO C hp.objs.size)).get? (hp.objs.size + 1) = some (PySem.HandSPX.excO C hp.objs.size) := by heap_get
  have I2 : Inv X pins σ (upd H1 (hp.objs.size + 1) (exo (hp.objs.size + 1) C none)) ⟨(hp.push (PySem.W.kdv_tup (argsOf f kw u).pos)).push (PySem.HandSPX.excO C hp.objs.size), g, dr, tk, os⟩ :=
    I1.laid (t' := tk) (a := hp.objs.size + 1) (o := exo (hp.objs.size + 1) C none) (h' := (hp.push (PySem.W.kdv_tup (argsOf f kw u).pos)).push (PySem.HandSPX.excO C hp.objs.size)) kk hsz (exo_ok hget)
  have told : spIni C f [.ref (hp.objs.size + 1), v] (upd H1 (hp.objs.size + 1) (exo (hp.objs.size + 1) C none))
      (fun z H2 => z = .non ∧ ∃ dx, H1 dx = none ∧ dx ≠ hp.objs.size + 1 ∧ H2 = upd (upd H1 dx (exd dx [(f, v)])) (hp.objs.size + 1) (exo (hp.objs.size + 1) C (some dx))) fun _ _ _ => False := by
    refine ⟨_, _, rfl, upd_same, fun dx h1 h2 => ⟨rfl, dx, ?_, h2, upd3 h2⟩⟩
    rw [upd_ne h2] at h1
    exact h1
  have bnds := hb ⟨(hp.push (PySem.W.kdv_tup (argsOf f kw u).pos)).push (PySem.HandSPX.excO C hp.objs.size), g, dr, tk, os⟩ (.ref (hp.objs.size + 1)) u kw
  have es : (⟨.ref (hp.objs.size + 1) :: (argsOf f kw u).pos, (argsOf f kw u).kw⟩ : Args) = selfOf (.ref (hp.objs.size + 1)) f kw u := by cases kw <;> rfl
  refine wpAny_call (DWX.call_kw PySem.F.excBase_ValueError (fun Y => PySem.HandSPX.refsVE_contains Y bm hbm) (I1.kIn _ _ hC) (PySem.W.looks_findIn I1.kIn T.ini) (fun self => PySem.W.bind_fn I1.kIn self T.tyI) hl
    (codeAny_mono (Fn.run _ X.stack _ _ ⟨.ref (hp.objs.size + 1) :: (argsOf f kw u).pos, (argsOf f kw u).kw⟩ [.ref (hp.objs.size + 1), u] [.ref (hp.objs.size + 1), v] _ (fun _ _ _ => False) (hr.make C _ _) (I2.env0.make C _ _) (es ▸ bnds) (.cons rfl (.cons r1 .nil)) told) fun r s' hq' => ?_))
  cases r with
  | error er =>
    obtain ⟨_, _, _, _, _, _, _, _, _, _, _, _, z⟩ := hq'
    exact z.elim
  | ok fl =>
    cases fl with
    | ret u2 =>
      obtain ⟨z, H2, os2, bare2, un2, hok2, rz, ez, dx, h1, h2, rfl⟩ := hq'
      subst ez
      obtain ⟨m2, g2, dr2, tk2, os'⟩ := s'
      have qq := q dx h1
      rw [← upd_del (o := exo (hp.objs.size + 1) C (some dx)) (e := exd dx [(f, v)]) h2 hn] at qq
      exact ⟨rz, mk_end (raises_own T.oex.exC T.oex.tyC) I1 hsz kk un2 hok2 os2 bare2 upd_same (by rw [upd_ne h2]; exact upd_same) h1 qq⟩
    | next => exact False.elim hq'
    | brk => exact False.elim hq'
    | cont => exact False.elim hq'
end
section
variable {th : Th} {X : Cx} {C : Ct th} {W : WX} {pos : Pos}
theorem raise_out {c f : Str} {Ca : Addr} {d : D} {v : V} {D' : Ends} {σ : L2.St} {ρ : Rho} {G H : Hp} {t : th.T} (a : At C G H t G H) (e : EnvR C G H ρ σ) (hc : C.Z.cl c = some (Ca, f)) (r : IsD C.Z G d v) (o : OutS C W D' G H (.er c d ρ t)) {dx : Addr} (h : H dx = none) : W (.ref Ca) (some dx) σ (upd H dx (.xd [(f, v)])) := by
  have s := Step.newD (th := th) (o := .xd [(f, v)]) a.w.sub h
  exact o σ _ _ Ca dx (a.go s (a.w.newD h)) (e.step s) ⟨f, v, hc, upd_same, r.mono s.sub⟩
/-- raise X(e) -/
theorem psd_raise {c f : Str} {Ca fI : Addr} {p p2 : Pos} {e : Expr} {g : M th.T D} (hcalm : X.calm = true) (tk : Takes X W) (T : ClsF X.K X.mg c Ca fI f) (F : IniF X.prog X.w X.K X.mg X.base Ca fI f) (hcl : C.Z.cl c = some (Ca, f)) (hr : Room 2 X.A) (hg : Gl X c) (ha : PD X C W e g)
    (hdb : (c == ("__debug__" : Str)) = false := by decide) (he : starEach [e] X.env = (false, eval e X.env) :: starEach [] X.env := by rfl) (hpl : (backTo p2 (starEach [] X.env)).any (·.1) = false := by rfl) :
    PSd X C W (.Raise (some (.Call (.Name c p) [e] [] p2)) none pos) (sRaise c g) :=
  PS.imp (L2.ps_raise (t := fun σ H Q => tD C W g σ H fun v H1 => ∀ dx, H1 dx = none → Q (.ref Ca) (some dx) (upd H1 dx (.xd [(f, v)]))) hcalm tk fun pins s σ H Q I h => by
    refine wpAny_Call_Name_kw (ld_glob I hg T.g ?_ hdb)
    refine PySem.W.callWith_K (h₀ := X.base) I.ok.mod.kin T.oex.kC (thn ((pa_cons ha pa_nil he).run p2 pins s σ H (fun vs H1 => ∃ v, vs = [v] ∧ ∀ dx, H1 dx = none → Q (.ref Ca) (some dx) (upd H1 dx (.xd [(f, v)]))) I ?_) fun us s1 hs => ?_) he hpl
    · obtain ⟨ρ, G, t, w, e, o⟩ := h
      exact ⟨ρ, G, t, w, e, OutG.imp .refl o fun b H' z => ⟨b, rfl, z⟩⟩
    · obtain ⟨vs, H1, I1, r1, v, rfl, q⟩ := hs
      obtain ⟨u, rfl, ru⟩ := vals1 r1
      exact ⟨I1.kIn, run_rz T F hr false I1 ru q⟩) fun D' σ H h => by
  obtain ⟨ρ, G, t, w, e, o⟩ := runB (rel := IsD C.Z) h
  refine ⟨ρ, G, t, w, e, OutG.imp .refl o fun x H1 hx => ?_⟩
  obtain ⟨ρ1, G1, d, t1, a1, e1, r1, o1⟩ := hx
  exact fun dx h => raise_out a1 e1 hcl r1 o1 h
/-- raise X(f=e) -/
theorem psd_raiseK {c f : Str} {Ca fI : Addr} {p p2 kp : Pos} {e : Expr} {g : M th.T D} (hcalm : X.calm = true) (tk : Takes X W) (T : ClsF X.K X.mg c Ca fI f) (F : IniF X.prog X.w X.K X.mg X.base Ca fI f) (hcl : C.Z.cl c = some (Ca, f)) (hr : Room 2 X.A) (hg : Gl X c) (ha : PD X C W e g)
    (hdb : (c == ("__debug__" : Str)) = false := by decide) (hall : (backToKw p2 (keywordEach [⟨some f, e, kp⟩] X.env)).all (·.1.isSome) = true := by rfl) (hks : (backToKw p2 (keywordEach [⟨some f, e, kp⟩] X.env)).filterMap (·.1) = [f] := by rfl)
    (hpl : ((backTo p2 (starEach [] X.env)).any (·.1) || (backToKw p2 (keywordEach [⟨some f, e, kp⟩] X.env)).any (·.1.isNone)) = false := by rfl) :
    PSd X C W (.Raise (some (.Call (.Name c p) [] [⟨some f, e, kp⟩] p2)) none pos) (sRaise c g) :=
  PS.imp (L2.ps_raise (t := fun σ H Q => tD C W g σ H fun v H1 => ∀ dx, H1 dx = none → Q (.ref Ca) (some dx) (upd H1 dx (.xd [(f, v)]))) hcalm tk fun pins s σ H Q I h => by
    refine wpAny_Call_Name_kw (ld_glob I hg T.g ?_ hdb)
    have hk : PK X [⟨some f, e, kp⟩] (tCons (tD C W g) tNil) := pk_cons ha pk_nil
    refine PySem.W.callWith_KW0 (h₀ := X.base) I.ok.mod.kin T.oex.kC hall (thn (hk.run p2 pins s σ H (fun vs H1 => ∃ v, vs = [v] ∧ ∀ dx, H1 dx = none → Q (.ref Ca) (some dx) (upd H1 dx (.xd [(f, v)]))) I ?_) fun us s1 hs => ?_) hpl
    · obtain ⟨ρ, G, t, w, e, o⟩ := h
      exact ⟨ρ, G, t, w, e, OutG.imp .refl o fun b H' z => ⟨b, rfl, z⟩⟩
    · obtain ⟨vs, H1, I1, r1, v, rfl, q⟩ := hs
      obtain ⟨u, rfl, ru⟩ := vals1 r1
      refine ⟨I1.kIn, ?_⟩
      rw [hks]
      exact run_rz T F hr true I1 ru q) fun D' σ H h => by
  obtain ⟨ρ, G, t, w, e, o⟩ := runB (rel := IsD C.Z) h
  refine ⟨ρ, G, t, w, e, OutG.imp .refl o fun x H1 hx => ?_⟩
  obtain ⟨ρ1, G1, d, t1, a1, e1, r1, o1⟩ := hx
  exact fun dx h => raise_out a1 e1 hcl r1 o1 h
/-! ### the caught one's attribute -/
def eXat (ca : Str → Option Str) (i : Nat) (n : Str) {T : Type} : M T D := fun ρ t => match ρ[i]? with
  | some (.exn c d) => if ca c = some n then .ok d t else .bad
  | _ => .bad
theorem pd_xat {ca : Str → Option Str} {a : Addr} {oe : Obj} {cls : Value} {d : Option Addr} {pn : List (Addr × Obj)} (i : Nat) {x n : Str} {px : Pos} (tb : Tab X.K C.Z ca) (hz : Zc cls d oe) (hf : ∃ vs, oe.data = .fields vs) (hN : X.N[i]? = some x := by rfl)
    (hv : Vis X.env.scope x := by first | exact Or.inl rfl | exact Or.inr (Or.inl rfl) | exact Or.inr (Or.inr rfl)) (hb : attributeBase (.Name x px) n X.env (eval (.Name x px) X.env) = eval (.Name x px) X.env := by rfl) (hd : (x == ("__debug__" : Str)) = false := by decide) (hcd : (x == ("__classdict__" : Str)) = false := by decide) :
    PD (X.suite a ((a, oe) :: pn)) (C.wx (a, cls, d)) W (.Attribute (.Name x px) n pos) (eXat ca i n) := by
  refine ⟨fun pins s σ H Q I h => ?_⟩
  obtain ⟨ρ, G, t, w, e, o⟩ := h
  unfold eXat at o
  split at o
  · rename_i c dd hs
    split at o
    · rename_i hca
      have hi : i < σ.length := by rw [← e.len]; exact (List.getElem?_eq_some_iff.mp hs).1
      obtain ⟨q0, Ca, f, dx, pw, q1, q2, q3, q4, q5⟩ := e.at_ i _ _ hs (List.getElem?_eq_getElem hi)
      obtain ⟨C2, hc2⟩ := tb.at_ c n hca
      have q1' : C.Z.cl c = some (Ca, f) := q1
      rw [q1'] at hc2
      cases hc2
      have T := tb.xf _ _ _ q1'
      have hP : PE (X.suite a ((a, oe) :: pn)) (.Name x px) (tVar i) := pv i hN hv hd hcd
      refine (pe_xf (X := X) (C := Ca) T (tb.no _ _ _ q1') hz hf hP hb).run pins s σ H Q I ⟨.ref a, ?_, rfl, q2, dx, [(n, pw)], pw, q3, w.sub _ _ q4, by simp [List.lookup], out_ok o w q5⟩
      rw [List.getElem?_eq_getElem hi, q0]
    · exact o.elim
  · exact o.elim
end
end DW
set_option Elab.async false
set_option linter.all false
set_option maxRecDepth 100000
set_option maxHeartbeats 2000000
/-! DW16: defs by name; the law's own shape. -/
namespace DW
open PySem PySem.Spec PyProof.Rows L2
/-- the module's def x keeps sp -/
def Has (P : Program) (w : World) (K : PySem.W.Frag) (mg : Str → Option Value) (base : Heap) (x : Str) (f : Addr) (k : Nat) (ps : List Str) (sp : Sp) : Prop :=
  ∃ fd, FnG P w K mg base k f fd ps sp ∧ Binds K fd ps [] ∧ PySem.W.keepIn K (.ref f) = true ∧ mg x = some (.ref f)
theorem RoomG.hu {k : Nat} {A : Around} (r : RoomG k A) : A.units + 110 < cLine := by have := r.room.un; omega
theorem RoomG.hu2 {k : Nat} {A : Around} (r : RoomG k A) : A.units + 102 < cLine := by have := r.room.un; omega
theorem RoomG.hu1 {k : Nat} {A : Around} (r : RoomG k A) : A.units + 1 < cLine := by have := r.room.un; omega
section
variable {th : Th} {X : Cx} {C : Ct th} {W : WX} {pos : Pos} {k : Nat} {f : Addr} {ps : List Str} {x : Str} {p : Pos} {e : Expr} {es : List Expr}
theorem pd_fn {F : List D → th.T → Rs th.T D} {g : M th.T (List D)} (h : Has X.prog X.w X.K X.mg X.base x f k ps (spD C.Z th F)) (hr : RoomG k X.A) (hg : Gl X x) (tk : Takes X W) (ha : PDs X C W (e :: es) g) (hdb : (x == ("__debug__" : Str)) = false := by decide)
    (he : starEach (e :: es) X.env = (false, eval e X.env) :: starEach es X.env := by rfl) (hpl : (backTo pos (starEach es X.env)).any (·.1) = false := by rfl) : PD X C W (.Call (.Name x p) (e :: es) [] pos) (eCall F g) :=
  let ⟨_, hF, hb, hk, hm⟩ := h
  pd_call hF hr hg hm hk hb tk ha hdb he hpl
theorem pd_fnF {ι : Type} {TH : ι → Th} {F : ∀ i, List D → (TH i).T → Rs (TH i).T D} (i : ι) {C : Ct (TH i)} {g : M (TH i).T (List D)} (h : Has X.prog X.w X.K X.mg X.base x f k ps (spF C.Z TH F)) (hr : RoomG k X.A) (hg : Gl X x) (tk : Takes X W) (ha : PDs X C W (e :: es) g)
    (hdb : (x == ("__debug__" : Str)) = false := by decide) (he : starEach (e :: es) X.env = (false, eval e X.env) :: starEach es X.env := by rfl) (hpl : (backTo pos (starEach es X.env)).any (·.1) = false := by rfl) : PD X C W (.Call (.Name x p) (e :: es) [] pos) (eCall (F i) g) :=
  let ⟨_, hF, hb, hk, hm⟩ := h
  pd_callF i hF hr hg hm hk hb tk ha hdb he hpl
theorem pd_fnU {F : List D → Unit → Rs Unit D} {g : M th.T (List D)} (h : Has X.prog X.w X.K X.mg X.base x f k ps (spD C.Z .u F)) (hr : RoomG k X.A) (hg : Gl X x) (tk : Takes X W) (ha : PDs X C W (e :: es) g) (hdb : (x == ("__debug__" : Str)) = false := by decide)
    (he : starEach (e :: es) X.env = (false, eval e X.env) :: starEach es X.env := by rfl) (hpl : (backTo pos (starEach es X.env)).any (·.1) = false := by rfl) : PD X C W (.Call (.Name x p) (e :: es) [] pos) (eCallU F g) :=
  let ⟨_, hF, hb, hk, hm⟩ := h
  pd_callU hF hr hg hm hk hb tk ha hdb he hpl
theorem PTs.imp {X : Cx} {e : List Expr} {t t' : TT} (h : PTs X e t) (hi : ∀ σ H Q, t' σ H Q → t σ H Q) : PTs X e t' := ⟨fun pins s σ H Q I w => h.run pins s σ H Q I (hi σ H Q w)⟩
theorem pts_yes : PTs X [] (tB C W (bYes : M th.T Bool)) := PTs.imp pts_nil fun σ H Q h => by
  obtain ⟨ρ, G, t, w, e, o⟩ := h
  exact o true G H .refl w rfl
/-- y = [..], y a local -/
theorem psd_setlc {elt tg iter : Expr} {ifs : List Expr} {scope : Scope} {own : List (Str × Nat)} {it : M th.T (List D)} {g : TG} {gm : D → Rho → Option Rho} {c : M th.T Bool} {f : M th.T D} {y : Str} {py spos : Pos} (i : Nat) (hc : X.calm = true) (hN : X.N.Nodup) (hi : PDi X C W tg iter it) (ok : BlkOk X.N X.env.scope scope own)
    (hg : ∀ (s : Shared) (H : Hp) (a : Addr) (cl : List (Str × Addr)) (fp : List Addr), PG (X.blk s H scope (compEnvC scope cl a X.env) fp) tg g) (htg : TgR C (own.map (·.2)) g gm)
    (ht : ∀ (s : Shared) (H : Hp) (a : Addr) (cl : List (Str × Addr)) (fp : List Addr), PTs (X.blk s H scope (compEnvC scope cl a X.env) fp) ifs (tB C W0 c))
    (he : ∀ (s : Shared) (H : Hp) (a : Addr) (cl : List (Str × Addr)) (fp : List Addr), PD (X.blk s H scope (compEnvC scope cl a X.env) fp) C W0 elt f) (hs : ∀ x, foldedSetIterable iter X.env x = pure x := by intro _; rfl)
    (hy : X.N[i]? = some y := by rfl) (hyl : X.env.scope.names.lookup y = some .local := by rfl) (hsw : swapsWith (.ListComp elt [⟨tg, iter, ifs, 0⟩] scope pos) (some (.Name y py)) spos.line X.env = pure true := by exact sw_true rfl rfl rfl (by decide +kernel)) :
    PSd X C W (.Assign [.Name y py] (.ListComp elt [⟨tg, iter, ifs, 0⟩] scope pos) spos) (sSet i (eLc (own.map (·.2)) it gm c f)) :=
  PS.imp (ps_setLc hc hN hy hyl hsw hi ok hg ht he hs) fun D' σ H h => by
    obtain ⟨ρ, G, t, w, e, o⟩ := runB (rel := IsD C.Z) h
    refine lc_run htg (Q := fun x H1 => gName i x σ H1 D'.nx) ⟨ρ, G, t, w, e, OutG.imp .refl o fun x H1 hx => ?_⟩
    obtain ⟨ρ1, G1, a, t1, a1, e1, r1, o1⟩ := hx
    exact o1 _ G1 H1 a1 (e1.setva i r1)
end
end DW
set_option Elab.async false
set_option linter.all false
set_option maxRecDepth 100000
set_option maxHeartbeats 2000000
/-! DWH: the head's hook: what the hand layer's hook tells, and one test more. -/
namespace DW
open PySem PySem.Spec PyProof.Rows L2
def obsX (ex : PySem.W.Frag → Bool) (fa : List He.Fa) (fn : List He.DefD) (K : PySem.W.Frag) : He.AlD := ((He.obsD fa fn K).1 && ex K, (He.obsD fa fn K).2)
structure SaysX (ex : PySem.W.Frag → Bool) (fa : List He.Fa) (fn : List He.DefD) (K : PySem.W.Frag) : Prop where
  d : He.SaysD fa fn K
  x : ex K = true
theorem saysX_of {ex : PySem.W.Frag → Bool} {fa : List He.Fa} {fn : List He.DefD} {K : PySem.W.Frag} (h : obsX ex fa fn K = He.valD fn) : SaysX ex fa fn K := by
  have h0 : (((He.obsD fa fn K).1 && ex K, (He.obsD fa fn K).2) : He.AlD) = (true, fn.map He.DefD.val) := h
  obtain ⟨h1, h2⟩ := Prod.mk.inj h0
  obtain ⟨a, b⟩ := Bool.and_eq_true_iff.mp h1
  refine ⟨?_, b⟩
  show He.obsD fa fn K = (true, fn.map He.DefD.val)
  exact Prod.ext a h2
def obsXG (n : Nat) (ex : PySem.W.Frag → Bool) (fa : List He.Fa) (fn : List He.DefD) (g : Addr → Option Obj) : He.AlD := obsX ex fa fn (He.frG g (He.asD g n))
def hookX (n : Nat) (ex : PySem.W.Frag → Bool) (fa : List He.Fa) (fn : List He.DefD) : PySem.W.Hook where
  α := He.AlD
  obs := fun s => obsXG n ex fa fn s.heap.get?
  val := fun _ => He.valD fn
  says := fun _ h => ∃ K : PySem.W.Frag, K.In h ∧ SaysX ex fa fn K
  of := fun _ _ e => ⟨_, He.frG_in, saysX_of e⟩
  keeps := fun _ _ _ ⟨K, hK, c⟩ k => ⟨K, PySem.W.Frag.In.keeps hK k, c⟩
theorem obsXG_eq {n : Nat} {ex : PySem.W.Frag → Bool} {fa : List He.Fa} {fn : List He.DefD} {g : Addr → Option Obj} {s : Shared} (h : ∀ a, g a = s.heap.get? a) : obsXG n ex fa fn g = (hookX n ex fa fn).obs s := by
  have e : g = s.heap.get? := funext h
  rw [e] <;> rfl
end DW
set_option Elab.async false
set_option linter.all false
set_option maxRecDepth 100000
set_option maxHeartbeats 2000000
/-! DW17: a press is made and used; the law's end. -/
namespace DW
open PySem PySem.Spec PyProof.Rows L2
section
variable {th : Th} {X : Cx} {C : Ct th} {W : WX} {pos : Pos}
/-- a prefix by its mirror, then u -/
abbrev PSq (X : Cx) (C : Ct th) (W : WX) (blk : List Stmt) (f : MS th.T) (u : TS) : Prop := PSs X blk (fun D' => tS C W f { D' with nx := u D' })
theorem pq_cons {s : Stmt} {r : List Stmt} {f g : MS th.T} {u : TS} (h1 : PSd X C W s f) (h2 : PSq X C W r g u) : PSq X C W (s :: r) (sSeq f g) u := PSs.imp (pss_cons h1 h2) fun D' σ H h => runSeq h
theorem pq_end {s : Stmt} {u : TS} (h : PS X s u) : PSq X C W [s] (sNil : MS th.T) u := PSs.imp (pss_one h) fun D' σ H h => by
  obtain ⟨ρ, G, t, a, e, o⟩ := h
  exact o σ G H a e
end
/-- which scripts and laps make a press -/
def isInts : List D → Bool
  | [] => true
  | .int _ :: r => isInts r
  | _ :: _ => false
def runOk : List D → Bool
  | [.fls ns, .int lap] => isInts ns && (decide (ns.length ≤ 63) && (decide (lap = 0) || decide (lap = 1)))
  | _ => false
def spNew (Z : Zn) : Sp := fun vs H Q _ => ∃ G ds, Same G H ∧ IsDs Z G ds vs ∧ runOk ds = true ∧ ∀ p t G' H', Step .u G H G' H' → Same G' H' → H p = none → (Press p).R t G' H' → Q (.ref p) H'
/-- the press is returned -/
def uNew (C : Ct Th.u) (W : WX) (fo : M Unit D) (i : Nat) : TS := tRet (tDisp [(tC (.str "own"), tD C W fo), (tC (.str "wheels"), tVar i)])
theorem merge_pr {v w : V} : mergeK [] [((.inr "own" : Key), v), (.inr "wheels", w)] = [(.inr "own", v), (.inr "wheels", w)] := by
  rfl
theorem new_end {C : Ct Th.u} {W : WX} {fo : M Unit D} {i : Nat} {D' : Ends} {σ : L2.St} {G H : Hp} {ρ : Rho} {o x y : Int} (a : At C G H () G H) (e : EnvR C G H ρ σ) (hw : ρ[i]? = some (.own [.int x, .int y])) (ho : fo ρ () = .ok (.int o) ()) (ok : PrOk (o, x, y))
    (q : ∀ p t G' H', Step .u C.G0 C.H0 G' H' → Same G' H' → C.H0 p = none → (Press p).R t G' H' → D'.rt (.ref p) H') : uNew C W fo i D' σ H := by
  obtain ⟨wl, xs, es, hx, gx, mx, h0, r⟩ := e.own hw
  intro p hp
  have np := a.w.notmu hp
  have s0 := Step.newO (th := Th.u) (G := G) (o := .dK []) hp
  refine ⟨ρ, G, (), a.w.newO hp, e.step s0, ?_⟩
  rw [ho]
  intro v G2 H2 s2 w2 r2
  cases r2
  refine ⟨.ref wl, es, ?_⟩
  have pw : p ≠ wl := fun z => by rw [z, hx] at hp; cases hp
  have hp2 : H2 p = some (.dK []) := s2.keep p _ upd_same np
  have gp2 : G2 p = none := (s2.old p (by rw [upd_same]; exact fun z => nomatch z)).trans (a.w.sub.free hp)
  have hw1 : (upd H p (.dK [])) wl = some (.lst xs) := by rw [upd_ne (Ne.symm pw)]; exact hx
  have hw2 : H2 wl = some (.lst xs) := s2.keep wl _ hw1 mx
  have gw2 : G2 wl = none := (s2.old wl (by rw [hw1]; exact fun z => nomatch z)).trans gx
  have c0 : C.H0 p = none := by
    cases z : C.H0 p with
    | none => rfl
    | some u => exact absurd hp (a.st.dom p (by rw [z]; exact fun q => nomatch q))
  refine ⟨hp2, [(.inr "own", .int o), (.inr "wheels", .ref wl)], rfl, (by show 2 ≤ 15; decide), ?_⟩
  rw [merge_pr]
  cases r with
  | cons r1 r2 =>
    cases r2 with
    | cons r2 r3 =>
      cases r1; cases r2; cases r3
      obtain ⟨st, wd, sb⟩ := shut (th := Th.u) (u := .dK (prK (o, x, y) wl)) hp np s2 w2 gp2
      have st0 : Step .u C.G0 C.H0 (upd G2 wl (.lst [.int x, .int y])) (upd H2 p (.dK (prK (o, x, y) wl))) := by
        have st1 := a.st.trans (Step.trans s0 s2)
        have sb2 : Same G2 (upd G2 wl (.lst [.int x, .int y])) := fun b u z => by
          rw [upd_ne (fun k => by rw [k, gw2] at z; cases z)]; exact z
        refine ⟨st1.sub.trans sb2, fun b u z n => ?_, fun b z => ?_, fun b z => ?_⟩
        · have : b ≠ p := fun k => by rw [k, c0] at z; cases z
          rw [upd_ne this]; exact st1.keep b u z n
        · have : b ≠ p := fun k => z (by rw [k]; exact c0)
          rw [upd_ne this]; exact st1.dom b z
        · have : b ≠ wl := fun k => z (by rw [k]; exact h0)
          rw [upd_ne this]; exact st1.old b z
      refine q p (o, x, y) _ _ st0 (fun b u z => ?_) c0 ⟨ok, ?_, wl, upd_same, upd_same⟩
      · by_cases k : b = wl
        · rw [k, upd_same] at z; cases z
          rw [k, upd_ne (Ne.symm pw)]; exact hw2
        · rw [upd_ne k] at z
          have : b ≠ p := fun k2 => by rw [k2, gp2] at z; cases z
          rw [upd_ne this]; exact w2.sub b u z
      · rw [upd_ne pw]; exact gp2
/-- the def that makes a press: its prefix ends in a good state for every good call -/
theorem FnG.new {P : Program} {w : World} {K : PySem.W.Frag} {mg : Str → Option Value} {base : Heap} {k : Nat} {f : Addr} {fd : FuncData} {ps N : List Str} {Z : Zn} {B : MS Unit} {fo : M Unit D} {i m : Nat} {x qual : Str} {params : Arguments} {blk : List Stmt} {sc : Scope}
    (F : FunD K x qual params blk sc [] [] f fd) (S : FnScope N ps sc) (hn : ps.length = 2) (hN : N.length = 2 + m)
    (good : ∀ ds, runOk ds = true → ∃ ρ o a b, B (ds.map .va ++ List.replicate m .un) () = .nx ρ () ∧ ρ[i]? = some (.own [.int a, .int b]) ∧ fo ρ () = .ok (.int o) () ∧ PrOk (o, a, b))
    (body : ∀ (cdv : Value) (A : Around) (outer : List Env) (s : Shared) (G H : Hp) (E : XK), RoomG k (A.deeper (envOfC qual sc s.heap.objs.size f cdv)) → Takes (cxOf (L2.CX P w) P w K mg base N qual sc f cdv A outer s H E) (fun cls d _ H => E cls d H) →
      PSq (cxOf (L2.CX P w) P w K mg base N qual sc f cdv A outer s H E) (⟨Z, G, H, (0, .none, none)⟩ : Ct Th.u) (fun cls d _ H => E cls d H) blk B (uNew (⟨Z, G, H, (0, .none, none)⟩ : Ct Th.u) (fun cls d _ H => E cls d H) fo i)) : FnG P w K mg base (k + 1) f fd ps (spNew Z) := by
  refine FnG.def_ F S (fun vs H Q E h => ?_) fun cdv A outer s H vs Q E hr told => ?_
  · obtain ⟨G, ds, sb, r, ro, _⟩ := h
    rw [← r.length, hn]
    unfold runOk at ro
    split at ro
    · rfl
    · cases ro
  · obtain ⟨G, ds, sb, r, ro, q⟩ := told
    have hl : ds.length = 2 := by
      unfold runOk at ro
      split at ro
      · rfl
      · cases ro
    refine ⟨_, body cdv A outer s G H E hr (takes_of rfl rfl rfl rfl), ?_⟩
    obtain ⟨ρ, o, x, y, e1, e2, e3, e4⟩ := good ds ro
    refine ⟨ds.map .va ++ List.replicate m .un, G, (), ⟨fun _ _ e => e, .refl, sb, trivial⟩, envR_start r (by rw [hN, hl]), ?_⟩
    rw [e1]
    exact fun σ' G' H' a e => new_end a.here e e2 e3 e4 fun p t G2 H2 s2 sb2 h2 R2 => q p t G2 H2 s2 sb2 h2 R2
/-! ### a press is made, and used -/
def eRun {T : Type} (g : M T (List D)) : M T D := fun ρ t => bnd (g ρ t) fun ds t => if runOk ds = true then .ok (.bl true) t else .bad
section
variable {th : Th} {X : Cx} {C : Ct th} {W : WX} {pos : Pos} {k j : Nat} {f f2 : Addr} {ps ps2 : List Str} {x x2 : Str} {p p2 pos2 : Pos} {e : Expr} {es : List Expr}
theorem pd_run {F : ∀ a, List D → PT → Rs PT D} {g : M th.T (List D)} (h : Has X.prog X.w X.K X.mg X.base x f k ps (spF C.Z Press F)) (h2 : Has X.prog X.w X.K X.mg X.base x2 f2 j ps2 (spNew C.Z)) (hF : ∀ a t, PrOk t → ∃ t', F a [.ob (.ref a)] t = .ok (.bl true) t')
    (hr : RoomG k X.A) (hr2 : RoomG j X.A) (hg : Gl X x) (hg2 : Gl X x2) (tk : Takes X W) (ha : PDs X C W (e :: es) g) (hdb : (x == ("__debug__" : Str)) = false := by decide) (hdb2 : (x2 == ("__debug__" : Str)) = false := by decide)
    (he : starEach (e :: es) X.env = (false, eval e X.env) :: starEach es X.env := by rfl) (hpl : (backTo pos2 (starEach es X.env)).any (·.1) = false := by rfl)
    (he2 : starEach [.Call (.Name x2 p2) (e :: es) [] pos2] X.env = (false, eval (.Call (.Name x2 p2) (e :: es) [] pos2) X.env) :: starEach [] X.env := by rfl) (hpl2 : (backTo pos (starEach [] X.env)).any (·.1) = false := by rfl) :
    PD X C W (.Call (.Name x p) [.Call (.Name x2 p2) (e :: es) [] pos2] [] pos) (eRun g) := by
  obtain ⟨_, hF1, hb1, hk1, hm1⟩ := h
  obtain ⟨_, hF2, hb2, hk2, hm2⟩ := h2
  refine PE.imp (pe_callG hF1 hr hg hm1 hk1 hb1 .nil (fun σ => passAt tk σ) (pa_cons (pe_callG hF2 hr2 hg2 hm2 hk2 hb2 .nil (fun σ => passAt tk σ) ha hdb2 he hpl) pa_nil he2) hdb he2 hpl2) fun σ H Q h => ?_
  obtain ⟨ρ, G, t, w, en, o⟩ := tG.chain (rel1 := IsDs C.Z) h
  refine ⟨ρ, G, t, w, en, OutG.imp .refl o fun vs H1 hx => ?_⟩
  obtain ⟨ρ1, G1, ds, t1, w1, e1, r1, o1⟩ := hx
  split at o1
  · rename_i ro
    refine ⟨G1, ds, w1.sub, by rw [List.append_nil]; exact r1, ro, fun a t2 G2 H2 s2 sb2 ha R2 => ?_⟩
    obtain ⟨t3, e3⟩ := hF a t2 R2.1
    refine ⟨a, G2, t2, [.ob (.ref a)], ⟨sb2, R2⟩, .cons (.ob _) .nil, ?_⟩
    rw [e3]
    intro v G3 H3 s3 w3 r3
    have ne : ∀ b, H1 b ≠ none → b ≠ a := fun b z k => z (by rw [k]; exact ha)
    have st : Step th G1 H1 G3 H3 := ⟨s2.sub.trans s3.sub, fun b u z n => s3.keep b u (s2.keep b u z fun k => k) (ne b (by rw [z]; exact fun k => nomatch k)), fun b z => s3.dom b (s2.dom b z), fun b z => (s3.old b (s2.dom b z)).trans (s2.old b z)⟩
    refine o1 v G3 H3 st ⟨w3.sub, th.stab w1.r st.sub (fun b m => st.old b (th.mem w1.r m).1) fun b m => ?_⟩ r3
    have nz := (th.mem w1.r m).1
    cases z : H1 b with
    | none => exact absurd z nz
    | some u => exact s3.keep b u (s2.keep b u z fun k => k) (ne b nz)
  · exact o1.elim
end
/-! ### the law's end -/
theorem told_law {Z : Zn} {F : List D → Unit → Rs Unit D} {ns : List Int} {a : Addr} {H : Hp} (hF : F [.fls (ns.map .int)] () = .ok (.bl true) ()) (h : SqL Z.K H a (ns.map V.int)) : spD Z .u F [.ref a] H (fun v _ => v = .bl true) fun _ _ _ => False := by
  have all : ∀ ns : List Int, IsDs Z H (ns.map .int) (ns.map V.int) := by
    intro ns
    induction ns with
    | nil => exact .nil
    | cons n r ih => exact .cons (.int n) ih
  refine ⟨H, (), [.fls (ns.map .int)], ⟨fun _ _ e => e, trivial⟩, .cons (.fls h (all ns)) .nil, ?_⟩
  rw [hF]
  intro v G' H' _ _ r
  cases r
  rfl
theorem walk_g {l : PySem.W.OpenLaw} {n k : Nat} {q : Program} {loose : List Str} {XP : (Str → Option Value) → Heap → Prop} {YP : World → Heap → Prop} {d : DefRec} {x : Str} (hn : l.most = some n) (hn2 : n ≤ sizeLine) (hdf : d.params.defaults = []) (hr : Room k callerA)
    (F : ∀ (w : World) (mg : Str → Option Value) (fa : Addr) (h : Heap), YP w h → h.Ns mainGlobals mg → mg d.name = some (.ref fa) →
      ∃ (K : PySem.W.Frag) (fd : FuncData) (sp : Sp), K.In h ∧ (∀ (s : Shared) (u : Value), BindsTo s fd ⟨[u], []⟩ [(x, u)]) ∧
        (∀ (H : Hp) (a : Addr) (ns : List Int), ns.length ≤ n → SqL K H a (ns.map V.int) → sp [.ref a] H (fun v _ => v = .bl true) fun _ _ _ => False) ∧ ∀ base : Heap, K.In base → base.Ns mainGlobals mg → FnG l.prog w K mg base k fa fd [x] sp) :
    PySem.W.WalkO q loose XP YP l.row.toRowW d [] (fun f vs => PySem.call f vs) := by
  refine Att.attach_call hn hdf fun w s₀ s₁ mg mb fa o pm cd doc a vs ns G Y ho hd hcd hmg hobj hints hlen hg => ?_
  obtain ⟨K, fd, sp, c1, c2, c3, c4⟩ := F w mg fa _ Y G.T.g hmg
  exact law_g c1 G.T.g G.T.b G.T.builtins G.T.nolimit hg hobj hints (Nat.le_trans hlen hn2) hr c4 c2 fun H z => c3 H a ns hlen z
end DW
set_option Elab.async false
set_option linter.all false
set_option maxRecDepth 100000
set_option maxHeartbeats 2000000
/-! DW18: mirrors evaluated, step by step (equations for simp only). -/
namespace DW
open PySem PySem.Spec PyProof.Rows L2
section
variable {T : Type} {ρ ρ' : Rho} {t t' : T} {a b d : D} {ds : List D} {c : Str} {p : D}
/-! ### expressions -/
def vK (o : Option Sl) (t : T) : Rs T D := match o with
  | some (.va d) => .ok d t
  | _ => .bad
theorem eV_eq (i : Nat) : eV i ρ t = vK ρ[i]? t := rfl
theorem vK_va : vK (some (.va d)) t = .ok d t := rfl
theorem eC_eq : eC d ρ t = (.ok d t : Rs T D) := rfl
theorem opt_s : opt (some d) t = .ok d t := rfl
def oK2 (op : D → D → Option D) (a : D) (r : Rs T D) : Rs T D := match r with
  | .ok b t => opt (op a b) t
  | .er c d t => .er c d t
  | .bad => .bad
def oK (op : D → D → Option D) (r : Rs T D) (g : M T D) (ρ : Rho) : Rs T D := match r with
  | .ok a t => oK2 op a (g ρ t)
  | .er c d t => .er c d t
  | .bad => .bad
theorem eO_eq {op : D → D → Option D} {f g : M T D} : eO op f g ρ t = oK op (f ρ t) g ρ := by
  unfold eO oK
  cases f ρ t with
  | ok a t1 =>
    show bnd (g ρ t1) _ = oK2 op a (g ρ t1)
    unfold oK2
    cases g ρ t1 <;> rfl
  | er _ _ _ => rfl
  | bad => rfl
theorem oK_ok {op : D → D → Option D} {g : M T D} : oK op (.ok a t) g ρ = oK2 op a (g ρ t) := rfl
theorem oK2_ok {op : D → D → Option D} : oK2 op a (.ok b t) = opt (op a b) t := rfl
def uK (op : D → Option D) (r : Rs T D) : Rs T D := match r with
  | .ok a t => opt (op a) t
  | .er c d t => .er c d t
  | .bad => .bad
theorem eU_eq {op : D → Option D} {f : M T D} : eU op f ρ t = uK op (f ρ t) := by
  unfold eU uK bnd
  cases f ρ t <;> rfl
theorem uK_ok {op : D → Option D} : uK op (.ok a t) = opt (op a) t := rfl
def bK (op : List D → Option D) (r : Rs T (List D)) : Rs T D := match r with
  | .ok a t => opt (op a) t
  | .er c d t => .er c d t
  | .bad => .bad
theorem eB_eq {op : List D → Option D} {f : M T (List D)} : eB op f ρ t = bK op (f ρ t) := by
  unfold eB bK bnd
  cases f ρ t <;> rfl
theorem bK_ok {op : List D → Option D} : bK op (.ok ds t) = opt (op ds) t := rfl
theorem aNil_eq : aNil ρ t = (.ok [] t : Rs T (List D)) := rfl
def aK2 (a : D) (r : Rs T (List D)) : Rs T (List D) := match r with
  | .ok ds t => .ok (a :: ds) t
  | .er c d t => .er c d t
  | .bad => .bad
def aK (r : Rs T D) (g : M T (List D)) (ρ : Rho) : Rs T (List D) := match r with
  | .ok a t => aK2 a (g ρ t)
  | .er c d t => .er c d t
  | .bad => .bad
theorem aCons_eq {f : M T D} {g : M T (List D)} : aCons f g ρ t = aK (f ρ t) g ρ := by
  unfold aCons aK
  cases f ρ t with
  | ok a t1 =>
    show bnd (g ρ t1) _ = aK2 a (g ρ t1)
    unfold aK2
    cases g ρ t1 <;> rfl
  | er _ _ _ => rfl
  | bad => rfl
theorem aK_ok {g : M T (List D)} : aK (.ok a t) g ρ = aK2 a (g ρ t) := rfl
theorem aK2_ok : aK2 a (.ok ds t) = .ok (a :: ds) t := rfl
def cK (F : List D → T → Rs T D) (r : Rs T (List D)) : Rs T D := match r with
  | .ok a t => F a t
  | .er c d t => .er c d t
  | .bad => .bad
theorem eCall_eq {F : List D → T → Rs T D} {f : M T (List D)} : eCall F f ρ t = cK F (f ρ t) := by
  unfold eCall cK bnd
  cases f ρ t <;> rfl
theorem cK_ok {F : List D → T → Rs T D} : cK F (.ok ds t) = F ds t := rfl
def cuK (F : List D → Unit → Rs Unit D) (r : Rs T (List D)) : Rs T D := match r with
  | .ok a t => unR (F a ()) t
  | .er c d t => .er c d t
  | .bad => .bad
theorem eCallU_eq {F : List D → Unit → Rs Unit D} {f : M T (List D)} : eCallU F f ρ t = cuK F (f ρ t) := by
  unfold eCallU cuK bnd
  cases f ρ t <;> rfl
theorem cuK_ok {F : List D → Unit → Rs Unit D} : cuK F (.ok ds t) = unR (F ds ()) t := rfl
theorem unR_ok {u : Unit} : unR (.ok d u) t = .ok d t := rfl
/-! ### tests, choices -/
def bvK (r : Rs T D) : Rs T Bool := match r with
  | .ok (.bl b) t => .ok b t
  | .er c d t => .er c d t
  | _ => .bad
theorem bVal_eq {f : M T D} : bVal f ρ t = bvK (f ρ t) := by
  unfold bVal bvK bnd
  cases f ρ t with
  | ok a t => cases a <;> rfl
  | er _ _ _ => rfl
  | bad => rfl
theorem bvK_ok {x : Bool} : bvK (.ok (.bl x) t) = .ok x t := rfl
def btK (r : Rs T D) : Rs T Bool := match r with
  | .ok a t => (match truD a with
    | some b => .ok b t
    | none => .bad)
  | .er c d t => .er c d t
  | .bad => .bad
theorem bTru_eq {f : M T D} : bTru f ρ t = btK (f ρ t) := by
  unfold bTru btK bnd
  cases f ρ t <;> rfl
theorem btK_ok : btK (.ok a t) = (match truD a with | some b => .ok b t | none => .bad) := rfl
def nK (r : Rs T Bool) : Rs T Bool := match r with
  | .ok b t => .ok (!b) t
  | .er c d t => .er c d t
  | .bad => .bad
theorem bNot_eq {f : M T Bool} : bNot f ρ t = nK (f ρ t) := by
  unfold bNot nK bnd
  cases f ρ t <;> rfl
theorem nK_ok {x : Bool} : nK (.ok x t) = .ok (!x) t := rfl
def baK (r : Rs T Bool) (g : M T Bool) (ρ : Rho) : Rs T Bool := match r with
  | .ok true t => g ρ t
  | .ok false t => .ok false t
  | .er c d t => .er c d t
  | .bad => .bad
theorem bAnd_eq {f g : M T Bool} : bAnd f g ρ t = baK (f ρ t) g ρ := by
  unfold bAnd baK bnd
  cases f ρ t with
  | ok a t => cases a <;> rfl
  | er _ _ _ => rfl
  | bad => rfl
theorem baK_t {g : M T Bool} : baK (.ok true t) g ρ = g ρ t := rfl
theorem baK_f {g : M T Bool} : baK (.ok false t) g ρ = .ok false t := rfl
def boK (r : Rs T Bool) (g : M T Bool) (ρ : Rho) : Rs T Bool := match r with
  | .ok true t => .ok true t
  | .ok false t => g ρ t
  | .er c d t => .er c d t
  | .bad => .bad
theorem bOr_eq {f g : M T Bool} : bOr f g ρ t = boK (f ρ t) g ρ := by
  unfold bOr boK bnd
  cases f ρ t with
  | ok a t => cases a <;> rfl
  | er _ _ _ => rfl
  | bad => rfl
theorem boK_t {g : M T Bool} : boK (.ok true t) g ρ = .ok true t := rfl
theorem boK_f {g : M T Bool} : boK (.ok false t) g ρ = g ρ t := rfl
def eaK (r : Rs T D) (g : M T D) (ρ : Rho) : Rs T D := match r with
  | .ok (.bl true) t => g ρ t
  | .ok (.bl false) t => .ok (.bl false) t
  | .er c d t => .er c d t
  | _ => .bad
theorem eAnd_eq {f g : M T D} : eAnd f g ρ t = eaK (f ρ t) g ρ := by
  unfold eAnd eaK bnd
  cases f ρ t with
  | ok a t =>
    cases a with
    | bl x => cases x <;> rfl
    | _ => rfl
  | er _ _ _ => rfl
  | bad => rfl
theorem eaK_t {g : M T D} : eaK (.ok (.bl true) t) g ρ = g ρ t := rfl
theorem eaK_f {g : M T D} : eaK (.ok (.bl false) t) g ρ = .ok (.bl false) t := rfl
def eoK (r : Rs T D) (g : M T D) (ρ : Rho) : Rs T D := match r with
  | .ok (.bl true) t => .ok (.bl true) t
  | .ok (.bl false) t => g ρ t
  | .er c d t => .er c d t
  | _ => .bad
theorem eOr_eq {f g : M T D} : eOr f g ρ t = eoK (f ρ t) g ρ := by
  unfold eOr eoK bnd
  cases f ρ t with
  | ok a t =>
    cases a with
    | bl x => cases x <;> rfl
    | _ => rfl
  | er _ _ _ => rfl
  | bad => rfl
theorem eoK_t {g : M T D} : eoK (.ok (.bl true) t) g ρ = .ok (.bl true) t := rfl
theorem eoK_f {g : M T D} : eoK (.ok (.bl false) t) g ρ = g ρ t := rfl
def enK (r : Rs T D) : Rs T D := match r with
  | .ok (.bl b) t => .ok (.bl (!b)) t
  | .er c d t => .er c d t
  | _ => .bad
theorem eNot_eq {f : M T D} : eNot f ρ t = enK (f ρ t) := by
  unfold eNot enK bnd
  cases f ρ t with
  | ok a t => cases a <;> rfl
  | er _ _ _ => rfl
  | bad => rfl
theorem enK_ok {x : Bool} : enK (.ok (.bl x) t) = .ok (.bl (!x)) t := rfl
def eiK (r : Rs T Bool) (f g : M T D) (ρ : Rho) : Rs T D := match r with
  | .ok true t => f ρ t
  | .ok false t => g ρ t
  | .er c d t => .er c d t
  | .bad => .bad
theorem eIf_eq {c : M T Bool} {f g : M T D} : eIf c f g ρ t = eiK (c ρ t) f g ρ := by
  unfold eIf eiK bnd
  cases c ρ t with
  | ok a t => cases a <;> rfl
  | er _ _ _ => rfl
  | bad => rfl
theorem eiK_t {f g : M T D} : eiK (.ok true t) f g ρ = f ρ t := rfl
theorem eiK_f {f g : M T D} : eiK (.ok false t) f g ρ = g ρ t := rfl
/-! ### displays of dicts, slices, own lists, the press -/
def kK3 (a b : D) (r : Rs T (List (D × D))) : Rs T (List (D × D)) := match r with
  | .ok ps t => .ok ((a, b) :: ps) t
  | .er c d t => .er c d t
  | .bad => .bad
def kK2 (a : D) (r : Rs T D) (k : M T (List (D × D))) (ρ : Rho) : Rs T (List (D × D)) := match r with
  | .ok b t => kK3 a b (k ρ t)
  | .er c d t => .er c d t
  | .bad => .bad
def kK (r : Rs T D) (g : M T D) (k : M T (List (D × D))) (ρ : Rho) : Rs T (List (D × D)) := match r with
  | .ok a t => kK2 a (g ρ t) k ρ
  | .er c d t => .er c d t
  | .bad => .bad
theorem kCons_eq {f g : M T D} {k : M T (List (D × D))} : kCons f g k ρ t = kK (f ρ t) g k ρ := by
  unfold kCons kK
  cases f ρ t with
  | ok a t1 =>
    show bnd (g ρ t1) _ = kK2 a (g ρ t1) k ρ
    unfold kK2
    cases g ρ t1 with
    | ok b t2 =>
      show bnd (k ρ t2) _ = kK3 a b (k ρ t2)
      unfold kK3
      cases k ρ t2 <;> rfl
    | er _ _ _ => rfl
    | bad => rfl
  | er _ _ _ => rfl
  | bad => rfl
theorem kK_ok {g : M T D} {k : M T (List (D × D))} : kK (.ok a t) g k ρ = kK2 a (g ρ t) k ρ := rfl
theorem kK2_ok {k : M T (List (D × D))} : kK2 a (.ok b t) k ρ = kK3 a b (k ρ t) := rfl
theorem kK3_ok {ps : List (D × D)} : kK3 a b (.ok ps t) = .ok ((a, b) :: ps) t := rfl
theorem kNil_eq : kNil ρ t = (.ok [] t : Rs T (List (D × D))) := rfl
def dctOf (ps : List (D × D)) : Option D := match keyAll ps with
  | some ks => if ks.length ≤ 15 then some (.dct (mergeD [] ks)) else none
  | none => none
def dK (r : Rs T (List (D × D))) : Rs T D := match r with
  | .ok ps t => opt (dctOf ps) t
  | .er c d t => .er c d t
  | .bad => .bad
theorem eDct_eq {f : M T (List (D × D))} : eDct f ρ t = dK (f ρ t) := by
  unfold eDct dK bnd
  cases f ρ t <;> rfl
theorem dK_ok {ps : List (D × D)} : dK (.ok ps t) = opt (dctOf ps) t := rfl
theorem dct1 {x : Str} : dctOf [(.str x, d)] = some (.dct [(.inr x, d)]) := rfl
def xK3 (op : D → Option Int → Option Int → Option D) (a : D) (lo : Option Int) (r : Rs T (Option Int)) : Rs T D := match r with
  | .ok hi t => opt (op a lo hi) t
  | .er c d t => .er c d t
  | .bad => .bad
def xK2 (op : D → Option Int → Option Int → Option D) (a : D) (r : Rs T (Option Int)) (k : M T (Option Int)) (ρ : Rho) : Rs T D := match r with
  | .ok lo t => xK3 op a lo (k ρ t)
  | .er c d t => .er c d t
  | .bad => .bad
def xK (op : D → Option Int → Option Int → Option D) (r : Rs T D) (g k : M T (Option Int)) (ρ : Rho) : Rs T D := match r with
  | .ok a t => xK2 op a (g ρ t) k ρ
  | .er c d t => .er c d t
  | .bad => .bad
theorem eSl_eq {op : D → Option Int → Option Int → Option D} {f : M T D} {g k : M T (Option Int)} : eSl op f g k ρ t = xK op (f ρ t) g k ρ := by
  unfold eSl xK
  cases f ρ t with
  | ok a t1 =>
    show bnd (g ρ t1) _ = xK2 op a (g ρ t1) k ρ
    unfold xK2
    cases g ρ t1 with
    | ok lo t2 =>
      show bnd (k ρ t2) _ = xK3 op a lo (k ρ t2)
      unfold xK3
      cases k ρ t2 <;> rfl
    | er _ _ _ => rfl
    | bad => rfl
  | er _ _ _ => rfl
  | bad => rfl
theorem xK_ok {op : D → Option Int → Option Int → Option D} {g k : M T (Option Int)} : xK op (.ok a t) g k ρ = xK2 op a (g ρ t) k ρ := rfl
theorem xK2_ok {op : D → Option Int → Option Int → Option D} {k : M T (Option Int)} {lo : Option Int} : xK2 op a (.ok lo t) k ρ = xK3 op a lo (k ρ t) := rfl
theorem xK3_ok {op : D → Option Int → Option Int → Option D} {lo hi : Option Int} : xK3 op a lo (.ok hi t) = opt (op a lo hi) t := rfl
theorem oNo_eq : oNo ρ t = (.ok none t : Rs T (Option Int)) := rfl
def oiK (r : Rs T D) : Rs T (Option Int) := match r with
  | .ok (.int i) t => .ok (some i) t
  | .er c d t => .er c d t
  | _ => .bad
theorem oIn_eq {f : M T D} : oIn f ρ t = oiK (f ρ t) := by
  unfold oIn oiK bnd
  cases f ρ t with
  | ok a t => cases a <;> rfl
  | er _ _ _ => rfl
  | bad => rfl
theorem oiK_ok {i : Int} : oiK (.ok (.int i) t) = .ok (some i) t := rfl
def oxK2 (ds : List D) (r : Rs T D) : Rs T D := match r with
  | .ok (.int j) t => opt (atI ds j) t
  | .er c d t => .er c d t
  | _ => .bad
def oxK (o : Option Sl) (f : M T D) (ρ : Rho) (t : T) : Rs T D := match o with
  | some (.own ds) => oxK2 ds (f ρ t)
  | _ => .bad
theorem eOix_eq {i : Nat} {f : M T D} : eOix i f ρ t = oxK ρ[i]? f ρ t := by
  unfold eOix oxK
  cases ρ[i]? with
  | none => rfl
  | some s =>
    cases s with
    | own ds =>
      show bnd (f ρ t) _ = oxK2 ds (f ρ t)
      unfold bnd oxK2
      cases f ρ t with
      | ok a t => cases a <;> rfl
      | er _ _ _ => rfl
      | bad => rfl
    | _ => rfl
theorem oxK_own {f : M T D} : oxK (some (.own ds)) f ρ t = oxK2 ds (f ρ t) := rfl
theorem oxK2_ok {j : Int} : oxK2 ds (.ok (.int j) t) = opt (atI ds j) t := rfl
/-! ### statements -/
def qK (r : Ss T) (g : MS T) : Ss T := match r with
  | .nx ρ t => g ρ t
  | r => r
theorem sSeq_eq {f g : MS T} : sSeq f g ρ t = qK (f ρ t) g := by
  unfold sSeq qK
  cases f ρ t <;> rfl
theorem qK_nx {g : MS T} : qK (.nx ρ t) g = g ρ t := rfl
theorem qK_rt {g : MS T} : qK (.rt d t) g = .rt d t := rfl
theorem qK_bk {g : MS T} : qK (.bk ρ t) g = .bk ρ t := rfl
theorem qK_ct {g : MS T} : qK (.ct ρ t) g = .ct ρ t := rfl
theorem qK_er {g : MS T} : qK (.er c d ρ t) g = .er c d ρ t := rfl
def retK (r : Rs T D) (ρ : Rho) : Ss T := match r with
  | .ok d t => .rt d t
  | .er c d t => .er c d ρ t
  | .bad => .bad
theorem sRet_eq {f : M T D} : sRet f ρ t = retK (f ρ t) ρ := by
  unfold sRet retK sB
  cases f ρ t <;> rfl
theorem retK_ok : retK (.ok d t) ρ = .rt d t := rfl
def setK (i : Nat) (r : Rs T D) (ρ : Rho) : Ss T := match r with
  | .ok d t => .nx (ρ.set i (.va d)) t
  | .er c d t => .er c d ρ t
  | .bad => .bad
theorem sSet_eq {i : Nat} {f : M T D} : sSet i f ρ t = setK i (f ρ t) ρ := by
  unfold sSet setK sB
  cases f ρ t <;> rfl
theorem setK_ok {i : Nat} : setK i (.ok d t) ρ = .nx (ρ.set i (.va d)) t := rfl
def siK (r : Rs T Bool) (f g : MS T) (ρ : Rho) : Ss T := match r with
  | .ok true t => f ρ t
  | .ok false t => g ρ t
  | .er c d t => .er c d ρ t
  | .bad => .bad
theorem sIf_eq {c : M T Bool} {f g : MS T} : sIf c f g ρ t = siK (c ρ t) f g ρ := by
  unfold sIf siK sB
  cases c ρ t with
  | ok a t => cases a <;> rfl
  | er _ _ _ => rfl
  | bad => rfl
theorem siK_t {f g : MS T} : siK (.ok true t) f g ρ = f ρ t := rfl
theorem siK_f {f g : MS T} : siK (.ok false t) f g ρ = g ρ t := rfl
theorem sNil_eq : sNil ρ t = (.nx ρ t : Ss T) := rfl
theorem sRetN_eq : sRetN ρ t = (.rt .non t : Ss T) := rfl
theorem sBrk_eq : sBrk ρ t = (.bk ρ t : Ss T) := rfl
theorem sCnt_eq : sCnt ρ t = (.ct ρ t : Ss T) := rfl
def ownK (i : Nat) (r : Rs T (List D)) (ρ : Rho) : Ss T := match r with
  | .ok ds t => if ds.length ≤ sizeLine then .nx (ρ.set i (.own ds)) t else .bad
  | .er c d t => .er c d ρ t
  | .bad => .bad
theorem sOwn_eq {i : Nat} {f : M T (List D)} : sOwn i f ρ t = ownK i (f ρ t) ρ := by
  unfold sOwn ownK sB
  cases f ρ t <;> rfl
theorem ownK_ok {i : Nat} (h : ds.length ≤ sizeLine) : ownK i (.ok ds t) ρ = .nx (ρ.set i (.own ds)) t := if_pos h
def osK3 (i : Nat) (ds : List D) (d : D) (r : Rs T D) (ρ : Rho) : Ss T := match r with
  | .ok (.int j) t => (match ixN ds.length j with
    | some n => .nx (ρ.set i (.own (ds.set n d))) t
    | none => .bad)
  | .er c d t => .er c d ρ t
  | _ => .bad
def osK2 (i : Nat) (o : Option Sl) (k : M T D) (d : D) (ρ : Rho) (t : T) : Ss T := match o with
  | some (.own ds) => osK3 i ds d (k ρ t) ρ
  | _ => .bad
def osK (i : Nat) (r : Rs T D) (k : M T D) (ρ : Rho) : Ss T := match r with
  | .ok d t => osK2 i ρ[i]? k d ρ t
  | .er c d t => .er c d ρ t
  | .bad => .bad
theorem sOset_eq {i : Nat} {k f : M T D} : sOset i k f ρ t = osK i (f ρ t) k ρ := by
  unfold sOset osK
  cases f ρ t with
  | ok d t1 =>
    show (match ρ[i]? with | some (.own ds) => _ | _ => _) = osK2 i ρ[i]? k d ρ t1
    unfold osK2
    cases ρ[i]? with
    | none => rfl
    | some s =>
      cases s with
      | own ds =>
        show sB (k ρ t1) ρ _ = osK3 i ds d (k ρ t1) ρ
        unfold sB osK3
        cases k ρ t1 with
        | ok a t => cases a <;> rfl
        | er _ _ _ => rfl
        | bad => rfl
      | _ => rfl
  | er _ _ _ => rfl
  | bad => rfl
theorem osK_ok {i : Nat} {k : M T D} : osK i (.ok d t) k ρ = osK2 i ρ[i]? k d ρ t := rfl
theorem osK2_own {i : Nat} {k : M T D} : osK2 i (some (.own ds)) k d ρ t = osK3 i ds d (k ρ t) ρ := rfl
theorem osK3_ok {i n : Nat} {j : Int} (h : ixN ds.length j = some n) : osK3 i ds d (.ok (.int j) t) ρ = .nx (ρ.set i (.own (ds.set n d))) t := by
  show (match ixN ds.length j with | some n => _ | none => _) = _
  rw [h]
def gK2 (o : Option Rho) (t : T) : Ss T := match o with
  | some ρ => .nx ρ t
  | none => .bad
def gK (r : Rs T D) (gm : D → Rho → Option Rho) (ρ : Rho) : Ss T := match r with
  | .ok d t => gK2 (gm d ρ) t
  | .er c d t => .er c d ρ t
  | .bad => .bad
theorem sAsg_eq {f : M T D} {gm : D → Rho → Option Rho} : sAsg f gm ρ t = gK (f ρ t) gm ρ := by
  unfold sAsg gK sB gK2
  cases f ρ t <;> rfl
theorem gK_ok {gm : D → Rho → Option Rho} : gK (.ok d t) gm ρ = gK2 (gm d ρ) t := rfl
theorem gK2_s : gK2 (some ρ) t = .nx ρ t := rfl
theorem gN_eq {i : Nat} : gN i d ρ = some (ρ.set i (.va d)) := rfl
theorem gsNil_eq : gsNil [] ρ = some ρ := rfl
def gsK (o : Option Rho) (k : List D → Rho → Option Rho) (ds : List D) : Option Rho := match o with
  | some ρ => k ds ρ
  | none => none
theorem gsCons_eq {g : D → Rho → Option Rho} {k : List D → Rho → Option Rho} : gsCons g k (d :: ds) ρ = gsK (g d ρ) k ds := by
  show (match g d ρ with | some ρ1 => k ds ρ1 | none => none) = _
  unfold gsK
  cases g d ρ <;> rfl
theorem gsK_s {k : List D → Rho → Option Rho} : gsK (some ρ) k ds = k ds ρ := rfl
theorem gT_eq {n : Nat} {k : List D → Rho → Option Rho} (h : ds.length = n) : gT n k (.tup ds) ρ = k ds ρ := if_pos h
theorem gU_eq {n : Nat} {k : List D → Rho → Option Rho} (h : ds.length = n) : gU n k (.lst ds) ρ = k ds ρ := if_pos h
/-! ### defs -/
theorem defF_eq {n m : Nat} {b : MS T} (h : ds.length = n) : defF n m b ds t = endR (b (ds.map .va ++ List.replicate m .un) t) := if_pos h
theorem endR_rt : endR (.rt d t) = .ok d t := rfl
theorem endR_nx : endR (.nx ρ t) = .ok .non t := rfl
/-! ### loops -/
def lK2 (gm : D → Rho → Option Rho) (b : MS T) (ds : List D) (r : Ss T) : Ss T := match r with
  | .nx ρ t => loopF gm b ds ρ t
  | .ct ρ t => loopF gm b ds ρ t
  | .bk ρ t => .nx ρ t
  | r => r
def lK (gm : D → Rho → Option Rho) (b : MS T) (ds : List D) (o : Option Rho) (t : T) : Ss T := match o with
  | some ρ => lK2 gm b ds (b ρ t)
  | none => .bad
theorem loopF_nil {gm : D → Rho → Option Rho} {b : MS T} : loopF gm b [] ρ t = .nx ρ t := rfl
theorem loopF_cons {gm : D → Rho → Option Rho} {b : MS T} : loopF gm b (d :: ds) ρ t = lK gm b ds (gm d ρ) t := by
  show (match gm d ρ with | none => _ | some ρ1 => _) = _
  unfold lK
  cases gm d ρ with
  | none => rfl
  | some ρ1 => show (match b ρ1 t with | .nx ρ2 t2 => _ | .ct ρ2 t2 => _ | .bk ρ2 t2 => _ | r => _) = lK2 gm b ds (b ρ1 t); unfold lK2; cases b ρ1 t <;> rfl
theorem lK_s {gm : D → Rho → Option Rho} {b : MS T} : lK gm b ds (some ρ) t = lK2 gm b ds (b ρ t) := rfl
def fK (r : Rs T (List D)) (gm : D → Rho → Option Rho) (b : MS T) (ρ : Rho) : Ss T := match r with
  | .ok ds t => loopF gm b ds ρ t
  | .er c d t => .er c d ρ t
  | .bad => .bad
theorem sFor_eq {it : M T (List D)} {gm : D → Rho → Option Rho} {b : MS T} : sFor it gm b ρ t = fK (it ρ t) gm b ρ := by
  unfold sFor fK sB
  cases it ρ t <;> rfl
theorem fK_ok {gm : D → Rho → Option Rho} {b : MS T} : fK (.ok ds t) gm b ρ = loopF gm b ds ρ t := rfl
/-- a loop that keeps a word J -/
theorem loop_inv {gm : D → Rho → Option Rho} {b : MS T} (J : Rho → T → Prop) : ∀ (ds : List D) (ρ : Rho) (t : T), J ρ t → (∀ d ∈ ds, ∀ ρ t, J ρ t → ∃ ρ1 ρ2 t2, gm d ρ = some ρ1 ∧ (b ρ1 t = .nx ρ2 t2 ∨ b ρ1 t = .ct ρ2 t2) ∧ J ρ2 t2) → ∃ ρ' t', loopF gm b ds ρ t = .nx ρ' t' ∧ J ρ' t'
  | [], ρ, t, h, _ => ⟨ρ, t, rfl, h⟩
  | d :: ds, ρ, t, h, hs => by
    obtain ⟨ρ1, ρ2, t2, e1, e2, j⟩ := hs d List.mem_cons_self ρ t h
    obtain ⟨ρ', t', e3, j'⟩ := loop_inv J ds ρ2 t2 j fun d m => hs d (List.mem_cons_of_mem _ m)
    refine ⟨ρ', t', ?_, j'⟩
    rw [loopF_cons, e1, lK_s]
    rcases e2 with e2 | e2 <;> rw [e2] <;> exact e3
def iK (r : Rs T D) : Rs T (List D) := match r with
  | .ok a t => optL (itemsD a) t
  | .er c d t => .er c d t
  | .bad => .bad
theorem iVal_eq {f : M T D} : iVal f ρ t = iK (f ρ t) := by
  unfold iVal iK bnd
  cases f ρ t <;> rfl
theorem iK_ok : iK (.ok a t) = optL (itemsD a) t := rfl
theorem optL_s : optL (some ds) t = .ok ds t := rfl
def ioK (op : List D → Option (List D)) (r : Rs T (List D)) : Rs T (List D) := match r with
  | .ok a t => optL (op a) t
  | .er c d t => .er c d t
  | .bad => .bad
theorem iOp_eq {op : List D → Option (List D)} {f : M T (List D)} : iOp op f ρ t = ioK op (f ρ t) := by
  unfold iOp ioK bnd
  cases f ρ t <;> rfl
theorem ioK_ok {op : List D → Option (List D)} : ioK op (.ok ds t) = optL (op ds) t := rfl
/-! ### comprehensions -/
def lcK (vs : List Nat) (r : Rs T (List D)) (gm : D → Rho → Option Rho) (c : M T Bool) (f : M T D) (ρ : Rho) : Rs T D := match r with
  | .ok ds t => okL (lcF gm c f (wipeR ρ vs) ds [] t)
  | .er c d t => .er c d t
  | .bad => .bad
theorem eLc_eq {vs : List Nat} {it : M T (List D)} {gm : D → Rho → Option Rho} {c : M T Bool} {f : M T D} : eLc vs it gm c f ρ t = lcK vs (it ρ t) gm c f ρ := by
  unfold eLc lcK bnd
  cases it ρ t <;> rfl
theorem lcK_ok {vs : List Nat} {gm : D → Rho → Option Rho} {c : M T Bool} {f : M T D} : lcK vs (.ok ds t) gm c f ρ = okL (lcF gm c f (wipeR ρ vs) ds [] t) := rfl
theorem okL_ok : okL (.ok ds t) = .ok (.lst ds) t := rfl
/-- without a test, each item giving one by a function of the item and the state -/
theorem lc_map {gm : D → Rho → Option Rho} {f : M T D} {J : T → Prop} {R : D → D → Prop} : ∀ (ds acc : List D) (t : T), J t → acc.length + ds.length ≤ sizeLine → (∀ d ∈ ds, ∀ t, J t → ∃ ρ1 y t2, gm d ρ = some ρ1 ∧ f ρ1 t = .ok y t2 ∧ R d y ∧ J t2) →
    ∃ ys t', lcF gm bYes f ρ ds acc t = .ok (acc ++ ys) t' ∧ J t' ∧ Paired R ds ys
  | [], acc, t, h, _, _ => ⟨[], t, by rw [List.append_nil]; rfl, h, .nil⟩
  | d :: ds, acc, t, h, hl, hs => by
    rw [List.length_cons] at hl
    obtain ⟨ρ1, y, t2, e1, e2, r, j⟩ := hs d List.mem_cons_self t h
    obtain ⟨ys, t', e3, j', rr⟩ := lc_map ds (acc ++ [y]) t2 j (by rw [List.length_append]; simp; omega) fun d m => hs d (List.mem_cons_of_mem _ m)
    refine ⟨y :: ys, t', ?_, j', .cons r rr⟩
    show (match gm d ρ with | none => _ | some ρ1 => _) = _
    rw [e1]
    show (match f ρ1 t with | .ok y t2 => _ | _ => _) = _
    rw [e2]
    show (if acc.length < sizeLine then _ else _) = _
    rw [if_pos (by omega), e3, List.append_assoc]
    rfl
/-! ### raise, try -/
def zK (c : Str) (r : Rs T D) (ρ : Rho) : Ss T := match r with
  | .ok d t => .er c d ρ t
  | .er c d t => .er c d ρ t
  | .bad => .bad
theorem sRaise_eq {f : M T D} : sRaise c f ρ t = zK c (f ρ t) ρ := by
  unfold sRaise zK sB
  cases f ρ t <;> rfl
theorem zK_ok : zK c (.ok d t) ρ = .er c d ρ t := rfl
def tK (r : Ss T) (hs : List (Hd T)) : Ss T := match r with
  | .er c d ρ1 t1 => if noExn ρ1 = true then hdl hs c d ρ1 t1 else .bad
  | r => r
theorem sTry_eq {b : MS T} {hs : List (Hd T)} : sTry b hs ρ t = tK (b ρ t) hs := by
  unfold sTry tK
  cases b ρ t <;> rfl
theorem tK_er {hs : List (Hd T)} (h : noExn ρ = true) : tK (.er c d ρ t) hs = hdl hs c d ρ t := if_pos h
theorem tK_rt {hs : List (Hd T)} : tK (.rt d t) hs = .rt d t := rfl
theorem hdl_t {h : Hd T} {r : List (Hd T)} (e : h.m c = some true) : hdl (h :: r) c d ρ t = leaveO h.o (h.s (inO h.o c d ρ) t) := by
  show (match h.m c with | some true => _ | some false => _ | none => _) = _
  rw [e]
theorem hdl_f {h : Hd T} {r : List (Hd T)} (e : h.m c = some false) : hdl (h :: r) c d ρ t = hdl r c d ρ t := by
  show (match h.m c with | some true => _ | some false => _ | none => _) = _
  rw [e]
theorem leaveO_rt {o : Option Nat} : leaveO o (.rt d t) = .rt d t := rfl
end
/-! ### the press -/
section
variable {p : Addr} {ρ : Rho} {t : PT} {d : D}
theorem ePr_ok {i : Nat} {k : Bool} (h : isPr p i ρ = true) : ePr p i k ρ t = .ok (prGet t k) t := if_pos h
def sprK (p : Addr) (i : Nat) (k : Bool) (r : Rs PT D) (ρ : Rho) : Ss PT := match r with
  | .ok d t => if isPr p i ρ then (match prPut t k d with
    | some t' => .nx ρ t'
    | none => .bad) else .bad
  | .er c d t => .er c d ρ t
  | .bad => .bad
theorem sPr_eq {i : Nat} {k : Bool} {f : M PT D} : sPr p i k f ρ t = sprK p i k (f ρ t) ρ := by
  unfold sPr sprK sB
  cases f ρ t <;> rfl
theorem sprK_ok {i : Nat} {k : Bool} {t' : PT} (h : isPr p i ρ = true) (e : prPut t k d = some t') : sprK p i k (.ok d t) ρ = .nx ρ t' := by
  show (if isPr p i ρ then _ else _) = _
  rw [if_pos h, e]
theorem isPr_0 {l : Rho} : isPr p 0 (.va (.ob (.ref p)) :: l) = true := by
  show decide (p = p) = true
  exact decide_eq_true rfl
def erK {T : Type} (r : Rs T (List D)) : Rs T D := match r with
  | .ok ds t => if runOk ds = true then .ok (.bl true) t else .bad
  | .er c d t => .er c d t
  | .bad => .bad
theorem eRun_eq {T : Type} {g : M T (List D)} {ρ : Rho} {t : T} : eRun g ρ t = erK (g ρ t) := by
  unfold eRun erK bnd
  cases g ρ t <;> rfl
theorem erK_ok {T : Type} {ds : List D} {t : T} (h : runOk ds = true) : erK (.ok ds t) = .ok (.bl true) t := if_pos h
end
end DW
set_option Elab.async false
set_option linter.all false
set_option maxRecDepth 100000
set_option maxHeartbeats 4000000
namespace K1
open PySem PySem.Spec PyProof.Rows L2 DW
def top (i : Nat) : Stmt := PySem.Challenge.pw_dyewoods_k01_errors_and_what_they_keep.main.body.getD i (.Pass ⟨0, 0, 0, 0⟩)
abbrev s__law_press : Stmt := top 27
abbrev N__law_press : List Str := ["script", "lap", "own", "wheels", "spot", "part", "at"]
theorem sc__law_press : FnScope N__law_press ["script", "lap"] (defScope s__law_press) := ⟨rfl, rfl, rfl, by decide +kernel, rfl, by decide +kernel, by decide +kernel⟩
abbrev s__law_out : Stmt := top 28
abbrev N__law_out : List Str := ["press", "many", "found", "one", "two"]
theorem sc__law_out : FnScope N__law_out ["press", "many"] (defScope s__law_out) := ⟨rfl, rfl, rfl, by decide +kernel, rfl, by decide +kernel, by decide +kernel⟩
abbrev s__law_of : Stmt := top 29
abbrev N__law_of : List Str := ["press", "things"]
theorem sc__law_of : FnScope N__law_of ["press", "things"] (defScope s__law_of) := ⟨rfl, rfl, rfl, by decide +kernel, rfl, by decide +kernel, by decide +kernel⟩
abbrev s__law_even : Stmt := top 30
abbrev N__law_even : List Str := ["told", "due"]
theorem sc__law_even : FnScope N__law_even ["told", "due"] (defScope s__law_even) := ⟨rfl, rfl, rfl, by decide +kernel, rfl, by decide +kernel, by decide +kernel⟩
abbrev s__law_thing : Stmt := top 31
abbrev N__law_thing : List Str := ["press", "deep", "some", "inner", "part"]
theorem sc__law_thing : FnScope N__law_thing ["press", "deep"] (defScope s__law_thing) := ⟨rfl, rfl, rfl, by decide +kernel, rfl, by decide +kernel, by decide +kernel⟩
abbrev s__law_by_place : Stmt := top 32
abbrev N__law_by_place : List Str := ["thing", "each"]
theorem sc__law_by_place : FnScope N__law_by_place ["thing"] (defScope s__law_by_place) := ⟨rfl, rfl, rfl, by decide +kernel, rfl, by decide +kernel, by decide +kernel⟩
abbrev s__law_by_name : Stmt := top 33
abbrev N__law_by_name : List Str := ["thing", "each"]
theorem sc__law_by_name : FnScope N__law_by_name ["thing"] (defScope s__law_by_name) := ⟨rfl, rfl, rfl, by decide +kernel, rfl, by decide +kernel, by decide +kernel⟩
abbrev s__law_classes : Stmt := top 34
abbrev N__law_classes : List Str := ["e", "each"]
theorem sc__law_classes : FnScope N__law_classes ["e"] (defScope s__law_classes) := ⟨rfl, rfl, rfl, by decide +kernel, rfl, by decide +kernel, by decide +kernel⟩
abbrev s__law_raised : Stmt := top 35
abbrev N__law_raised : List Str := ["which", "thing", "e"]
theorem sc__law_raised : FnScope N__law_raised ["which", "thing"] (defScope s__law_raised) := ⟨rfl, rfl, rfl, by decide +kernel, rfl, by decide +kernel, by decide +kernel⟩
abbrev s__law_holds_all : Stmt := top 36
abbrev N__law_holds_all : List Str := ["press", "lap", "thing", "each", "spot", "e", "at", "which"]
theorem sc__law_holds_all : FnScope N__law_holds_all ["press"] (defScope s__law_holds_all) := ⟨rfl, rfl, rfl, by decide +kernel, rfl, by decide +kernel, by decide +kernel⟩
abbrev s_law : Stmt := top 37
abbrev N_law : List Str := ["script", "lap"]
theorem sc_law : FnScope N_law ["script"] (defScope s_law) := ⟨rfl, rfl, rfl, by decide +kernel, rfl, by decide +kernel, by decide +kernel⟩
abbrev t_InvalidForest : Stmt := inClass (top 2) 0
abbrev t_InvalidPlace : Stmt := inClass (top 3) 0
abbrev t_InvalidMark : Stmt := inClass (top 4) 0
abbrev t_InvalidDye : Stmt := inClass (top 5) 0
abbrev t_InvalidDyeing : Stmt := inClass (top 6) 0
abbrev t_InvalidSaying : Stmt := inClass (top 7) 0
abbrev t_InvalidWish : Stmt := inClass (top 8) 0
abbrev t_InvalidPrices : Stmt := inClass (top 9) 0
abbrev t_InvalidKind : Stmt := inClass (top 10) 0
abbrev t_InvalidLot : Stmt := inClass (top 11) 0
abbrev t_InvalidChart : Stmt := inClass (top 12) 0
abbrev t_InvalidNumber : Stmt := inClass (top 13) 0
abbrev t_InvalidPages : Stmt := inClass (top 14) 0
abbrev t_InvalidDeed : Stmt := inClass (top 15) 0
abbrev t_InvalidTree : Stmt := inClass (top 16) 0
abbrev t_InvalidName : Stmt := inClass (top 17) 0
abbrev t_InvalidText : Stmt := inClass (top 18) 0
abbrev t_InvalidLine : Stmt := inClass (top 19) 0
abbrev t_DoesNotFit : Stmt := inClass (top 20) 0
abbrev t_InvalidSayings : Stmt := inClass (top 21) 0
abbrev t_InvalidSoil : Stmt := inClass (top 22) 0
abbrev t_InvalidPins : Stmt := inClass (top 23) 0
abbrev t_InvalidDeeds : Stmt := inClass (top 24) 0
abbrev t_InvalidLines : Stmt := inClass (top 25) 0
/-! ### the classes -/
def clsL_0 : List (Str × Str) := [(("InvalidForest" : Str), ("given" : Str)), (("InvalidPlace" : Str), ("given" : Str)), (("InvalidMark" : Str), ("given" : Str)), (("InvalidDye" : Str), ("given" : Str)), (("InvalidDyeing" : Str), ("given" : Str)), (("InvalidSaying" : Str), ("given" : Str)), (("InvalidWish" : Str), ("given" : Str)), (("InvalidPrices" : Str), ("given" : Str)), (("InvalidKind" : Str), ("given" : Str)), (("InvalidLot" : Str), ("given" : Str)), (("InvalidChart" : Str), ("given" : Str)), (("InvalidNumber" : Str), ("given" : Str)), (("InvalidPages" : Str), ("given" : Str)), (("InvalidDeed" : Str), ("given" : Str)), (("InvalidTree" : Str), ("given" : Str))]
def clsL_1 : List (Str × Str) := [(("InvalidName" : Str), ("given" : Str)), (("InvalidText" : Str), ("given" : Str)), (("InvalidLine" : Str), ("given" : Str)), (("DoesNotFit" : Str), ("given" : Str)), (("InvalidSayings" : Str), ("index" : Str)), (("InvalidSoil" : Str), ("index" : Str)), (("InvalidPins" : Str), ("index" : Str)), (("InvalidDeeds" : Str), ("index" : Str)), (("InvalidLines" : Str), ("index" : Str))]
def clsL : List (Str × Str) := clsL_0 ++ clsL_1
def caF (c : Str) : Option Str := clsL.lookup c
def zn (K : PySem.W.Frag) : Zn := ⟨K, fun c => (caF c).map fun f => (He.ga K c, f)⟩
theorem ca_InvalidForest : caF "InvalidForest" = some "given" := by decide +kernel
theorem ca_InvalidPlace : caF "InvalidPlace" = some "given" := by decide +kernel
theorem ca_InvalidMark : caF "InvalidMark" = some "given" := by decide +kernel
theorem ca_InvalidDye : caF "InvalidDye" = some "given" := by decide +kernel
theorem ca_InvalidDyeing : caF "InvalidDyeing" = some "given" := by decide +kernel
theorem ca_InvalidSaying : caF "InvalidSaying" = some "given" := by decide +kernel
theorem ca_InvalidWish : caF "InvalidWish" = some "given" := by decide +kernel
theorem ca_InvalidPrices : caF "InvalidPrices" = some "given" := by decide +kernel
theorem ca_InvalidKind : caF "InvalidKind" = some "given" := by decide +kernel
theorem ca_InvalidLot : caF "InvalidLot" = some "given" := by decide +kernel
theorem ca_InvalidChart : caF "InvalidChart" = some "given" := by decide +kernel
theorem ca_InvalidNumber : caF "InvalidNumber" = some "given" := by decide +kernel
theorem ca_InvalidPages : caF "InvalidPages" = some "given" := by decide +kernel
theorem ca_InvalidDeed : caF "InvalidDeed" = some "given" := by decide +kernel
theorem ca_InvalidTree : caF "InvalidTree" = some "given" := by decide +kernel
theorem ca_InvalidName : caF "InvalidName" = some "given" := by decide +kernel
theorem ca_InvalidText : caF "InvalidText" = some "given" := by decide +kernel
theorem ca_InvalidLine : caF "InvalidLine" = some "given" := by decide +kernel
theorem ca_DoesNotFit : caF "DoesNotFit" = some "given" := by decide +kernel
theorem ca_InvalidSayings : caF "InvalidSayings" = some "index" := by decide +kernel
theorem ca_InvalidSoil : caF "InvalidSoil" = some "index" := by decide +kernel
theorem ca_InvalidPins : caF "InvalidPins" = some "index" := by decide +kernel
theorem ca_InvalidDeeds : caF "InvalidDeeds" = some "index" := by decide +kernel
theorem ca_InvalidLines : caF "InvalidLines" = some "index" := by decide +kernel
theorem cl_InvalidForest (K : PySem.W.Frag) : (zn K).cl "InvalidForest" = some (He.ga K "InvalidForest", ("given" : Str)) := by
  show (caF "InvalidForest").map _ = _
  rw [ca_InvalidForest]; rfl
theorem cl_InvalidPlace (K : PySem.W.Frag) : (zn K).cl "InvalidPlace" = some (He.ga K "InvalidPlace", ("given" : Str)) := by
  show (caF "InvalidPlace").map _ = _
  rw [ca_InvalidPlace]; rfl
theorem cl_InvalidMark (K : PySem.W.Frag) : (zn K).cl "InvalidMark" = some (He.ga K "InvalidMark", ("given" : Str)) := by
  show (caF "InvalidMark").map _ = _
  rw [ca_InvalidMark]; rfl
theorem cl_InvalidDye (K : PySem.W.Frag) : (zn K).cl "InvalidDye" = some (He.ga K "InvalidDye", ("given" : Str)) := by
  show (caF "InvalidDye").map _ = _
  rw [ca_InvalidDye]; rfl
theorem cl_InvalidDyeing (K : PySem.W.Frag) : (zn K).cl "InvalidDyeing" = some (He.ga K "InvalidDyeing", ("given" : Str)) := by
  show (caF "InvalidDyeing").map _ = _
  rw [ca_InvalidDyeing]; rfl
theorem cl_InvalidSaying (K : PySem.W.Frag) : (zn K).cl "InvalidSaying" = some (He.ga K "InvalidSaying", ("given" : Str)) := by
  show (caF "InvalidSaying").map _ = _
  rw [ca_InvalidSaying]; rfl
theorem cl_InvalidWish (K : PySem.W.Frag) : (zn K).cl "InvalidWish" = some (He.ga K "InvalidWish", ("given" : Str)) := by
  show (caF "InvalidWish").map _ = _
  rw [ca_InvalidWish]; rfl
theorem cl_InvalidPrices (K : PySem.W.Frag) : (zn K).cl "InvalidPrices" = some (He.ga K "InvalidPrices", ("given" : Str)) := by
  show (caF "InvalidPrices").map _ = _
  rw [ca_InvalidPrices]; rfl
theorem cl_InvalidKind (K : PySem.W.Frag) : (zn K).cl "InvalidKind" = some (He.ga K "InvalidKind", ("given" : Str)) := by
  show (caF "InvalidKind").map _ = _
  rw [ca_InvalidKind]; rfl
theorem cl_InvalidLot (K : PySem.W.Frag) : (zn K).cl "InvalidLot" = some (He.ga K "InvalidLot", ("given" : Str)) := by
  show (caF "InvalidLot").map _ = _
  rw [ca_InvalidLot]; rfl
theorem cl_InvalidChart (K : PySem.W.Frag) : (zn K).cl "InvalidChart" = some (He.ga K "InvalidChart", ("given" : Str)) := by
  show (caF "InvalidChart").map _ = _
  rw [ca_InvalidChart]; rfl
theorem cl_InvalidNumber (K : PySem.W.Frag) : (zn K).cl "InvalidNumber" = some (He.ga K "InvalidNumber", ("given" : Str)) := by
  show (caF "InvalidNumber").map _ = _
  rw [ca_InvalidNumber]; rfl
theorem cl_InvalidPages (K : PySem.W.Frag) : (zn K).cl "InvalidPages" = some (He.ga K "InvalidPages", ("given" : Str)) := by
  show (caF "InvalidPages").map _ = _
  rw [ca_InvalidPages]; rfl
theorem cl_InvalidDeed (K : PySem.W.Frag) : (zn K).cl "InvalidDeed" = some (He.ga K "InvalidDeed", ("given" : Str)) := by
  show (caF "InvalidDeed").map _ = _
  rw [ca_InvalidDeed]; rfl
theorem cl_InvalidTree (K : PySem.W.Frag) : (zn K).cl "InvalidTree" = some (He.ga K "InvalidTree", ("given" : Str)) := by
  show (caF "InvalidTree").map _ = _
  rw [ca_InvalidTree]; rfl
theorem cl_InvalidName (K : PySem.W.Frag) : (zn K).cl "InvalidName" = some (He.ga K "InvalidName", ("given" : Str)) := by
  show (caF "InvalidName").map _ = _
  rw [ca_InvalidName]; rfl
theorem cl_InvalidText (K : PySem.W.Frag) : (zn K).cl "InvalidText" = some (He.ga K "InvalidText", ("given" : Str)) := by
  show (caF "InvalidText").map _ = _
  rw [ca_InvalidText]; rfl
theorem cl_InvalidLine (K : PySem.W.Frag) : (zn K).cl "InvalidLine" = some (He.ga K "InvalidLine", ("given" : Str)) := by
  show (caF "InvalidLine").map _ = _
  rw [ca_InvalidLine]; rfl
theorem cl_DoesNotFit (K : PySem.W.Frag) : (zn K).cl "DoesNotFit" = some (He.ga K "DoesNotFit", ("given" : Str)) := by
  show (caF "DoesNotFit").map _ = _
  rw [ca_DoesNotFit]; rfl
theorem cl_InvalidSayings (K : PySem.W.Frag) : (zn K).cl "InvalidSayings" = some (He.ga K "InvalidSayings", ("index" : Str)) := by
  show (caF "InvalidSayings").map _ = _
  rw [ca_InvalidSayings]; rfl
theorem cl_InvalidSoil (K : PySem.W.Frag) : (zn K).cl "InvalidSoil" = some (He.ga K "InvalidSoil", ("index" : Str)) := by
  show (caF "InvalidSoil").map _ = _
  rw [ca_InvalidSoil]; rfl
theorem cl_InvalidPins (K : PySem.W.Frag) : (zn K).cl "InvalidPins" = some (He.ga K "InvalidPins", ("index" : Str)) := by
  show (caF "InvalidPins").map _ = _
  rw [ca_InvalidPins]; rfl
theorem cl_InvalidDeeds (K : PySem.W.Frag) : (zn K).cl "InvalidDeeds" = some (He.ga K "InvalidDeeds", ("index" : Str)) := by
  show (caF "InvalidDeeds").map _ = _
  rw [ca_InvalidDeeds]; rfl
theorem cl_InvalidLines (K : PySem.W.Frag) : (zn K).cl "InvalidLines" = some (He.ga K "InvalidLines", ("index" : Str)) := by
  show (caF "InvalidLines").map _ = _
  rw [ca_InvalidLines]; rfl
/-- is an instance of class c one of x (an own class, a built-in one)? -/
def isT (o : Bool) (x c : Str) : Option Bool := (caF c).map fun _ => if o then (decide (x = c) || decide (x = "DyeError")) else decide (x = "ValueError")
def cvOf (K : PySem.W.Frag) (o : Bool) (x : Str) (n : String) : Value := if o then .ref (He.ga K x) else .type n
/-! ### the mirrors -/
def b__law_press : MS Unit := (sSeq (sSet 2 (eIf (bVal (eO ltD (eV 1) (eB lenD (aCons (eV 0) aNil)))) (eB intD (aCons (eO ixD (eV 0) (eV 1)) aNil)) (eO addD (eC (.int 2352)) (eO mulD (eC (.int 29)) (eV 1)))))
    (sSeq (sOwn 3 (aCons (eO addD (eC (.int 70021)) (eV 1)) (aCons (eO subD (eC (.int 74028)) (eV 1)) aNil)))
    (sSeq (sFor (iOp enums (aCons (eO addD (eB listD (aCons (eSl slD (eV 0) oNo (oIn (eC (.int 8)))) aNil)) (eB mkL (aCons (eV 2) (aCons (eC (.int 7)) aNil)))) aNil)) (gT 2 (gsCons (gN 4) (gsCons (gN 5) gsNil))) (sSeq (sSet 6 (eO modD (eB intD (aCons (eV 4) aNil)) (eC (.int 2))))
    (sOset 3 (eV 6) (eO modD (eB intD (aCons (eO addD (eO addD (eO mulD (eOix 3 (eV 6)) (eC (.int 44021))) (eOix 3 (eO subD (eC (.int 1)) (eV 6)))) (eO modD (eB intD (aCons (eV 5) aNil)) (eC (.int 1000151)))) aNil)) (eC (.int 2147483629))))))
    sNil)))
def fo__law_press : M Unit D := (eIf (bOr (bVal (eO ltD (eV 2) (eC (.int 0)))) (bVal (eO geD (eV 2) (eO powD (eC (.int 10)) (eC (.int 16)))))) (eO modD (eB intD (aCons (eB absD (aCons (eV 2) aNil)) aNil)) (eO powD (eC (.int 10)) (eC (.int 57)))) (eC (.int 0)))
def b__law_out (p : Addr) : MS PT := (sSeq (sIf (bVal (eO gtD (ePr p 0 true) (eC (.int 0)))) (sSeq (sSet 2 (eO modD (eB intD (aCons (ePr p 0 true) aNil)) (eV 1)))
    (sSeq (sPr p 0 true (eO fdivD (ePr p 0 true) (eV 1)))
    (sRet (eV 2)))) sNil)
    (sSeq (sAsg (ePr p 0 false) (gU 2 (gsCons (gN 3) (gsCons (gN 4) gsNil))))
    (sSeq (sSet 3 (eO modD (eB intD (aCons (eO addD (eO mulD (eV 3) (eC (.int 44021))) (eC (.int 91))) aNil)) (eC (.int 2147483629))))
    (sSeq (sSet 4 (eO modD (eB intD (aCons (eO addD (eO addD (eO mulD (eV 4) (eC (.int 37379))) (eO modD (eV 3) (eC (.int 8191)))) (eC (.int 1))) aNil)) (eC (.int 2147483563))))
    (sSeq (sPr p 0 false (eB mkL (aCons (eV 3) (aCons (eV 4) aNil))))
    (sRet (eO modD (eB intD (aCons (eO fdivD (eO addD (eV 3) (eV 4)) (eC (.int 128))) aNil)) (eV 1))))))))
abbrev F__law_out (p : Addr) : List D → PT → Rs PT D := defF 2 3 (b__law_out p)
def b__law_of (p : Addr) : MS PT := (sRet (eO ixD (eV 1) (eCall (F__law_out p) (aCons (eV 0) (aCons (eB lenD (aCons (eV 1) aNil)) aNil)))))
abbrev F__law_of (p : Addr) : List D → PT → Rs PT D := defF 2 0 (b__law_of p)
def b__law_even : MS Unit := (sRet (eAnd (eO eqD (eV 0) (eV 1)) (eO eqD (eB reprD (aCons (eV 0) aNil)) (eB reprD (aCons (eV 1) aNil)))))
abbrev F__law_even : List D → Unit → Rs Unit D := defF 2 0 b__law_even
def b__law_thing (p : Addr) (rec : List D → PT → Rs PT D) : MS PT := (sSeq (sSet 2 (eB mkL (aCons (eC .non) (aCons (eC (.bl true)) (aCons (eC (.bl false)) (aCons (eC (.int 0)) (aCons (eU negD (eC (.int 3))) (aCons (eO powD (eC (.int 10)) (eC (.int 24))) (aCons (eC (.str "")) (aCons (eC (.str "xyz")) (aCons (eB mkT aNil) (aCons (eB mkL aNil) (aCons (eC (.dct [])) (aCons (eB mkT (aCons (eC (.str "xy")) (aCons (eB mkT aNil) (aCons (eB mkT aNil) aNil)))) (aCons (eB mkT (aCons (eB mkT (aCons (eC (.int 0)) (aCons (eC (.str "a")) aNil))) aNil)) (aCons (eB mkT (aCons (eC (.int 0)) (aCons (eC (.int 1)) aNil))) (aCons (eB mkT (aCons (eB mkT (aCons (eC (.str "dye")) (aCons (eC (.str "x")) aNil))) aNil)) aNil)))))))))))))))))
    (sSeq (sIf (bOr (bVal (eO eqD (eV 1) (eC (.int 0)))) (bVal (eO eqD (eCall (F__law_out p) (aCons (eV 0) (aCons (eC (.int 3)) aNil))) (eC (.int 0))))) (sRet (eCall (F__law_of p) (aCons (eV 0) (aCons (eV 2) aNil)))) sNil)
    (sSeq (sSet 3 (eLc [4] (iOp rng1 (aCons (eCall (F__law_out p) (aCons (eV 0) (aCons (eC (.int 4)) aNil))) aNil)) (gN 4) bYes (eCall rec (aCons (eV 0) (aCons (eO subD (eV 1) (eC (.int 1))) aNil)))))
    (sRet (eCall (F__law_of p) (aCons (eV 0) (aCons (eB mkL (aCons (eB tupleD (aCons (eV 3) aNil)) (aCons (eV 3) (aCons (eDct (kCons (eC (.str "wish")) (eV 3) kNil)) aNil)))) aNil)))))))
def Fn__law_thing (p : Addr) : Nat → List D → PT → Rs PT D
  | 0 => fun _ _ => .bad
  | n + 1 => defF 2 3 (b__law_thing p (Fn__law_thing p n))
abbrev F__law_thing (p : Addr) : List D → PT → Rs PT D := Fn__law_thing p 3
def b__law_by_place : MS Unit := (sSeq (sSet 1 (eB mkL aNil))
    (sSeq (sSet 1 (eO addD (eV 1) (eB mkL (aCons (eB (mkE "InvalidForest") (aCons (eV 0) aNil)) (aCons (eB (mkE "InvalidPlace") (aCons (eV 0) aNil)) (aCons (eB (mkE "InvalidMark") (aCons (eV 0) aNil)) (aCons (eB (mkE "InvalidDye") (aCons (eV 0) aNil)) (aCons (eB (mkE "InvalidDyeing") (aCons (eV 0) aNil)) (aCons (eB (mkE "InvalidSaying") (aCons (eV 0) aNil)) aNil)))))))))
    (sSeq (sSet 1 (eO addD (eV 1) (eB mkL (aCons (eB (mkE "InvalidWish") (aCons (eV 0) aNil)) (aCons (eB (mkE "InvalidPrices") (aCons (eV 0) aNil)) (aCons (eB (mkE "InvalidKind") (aCons (eV 0) aNil)) (aCons (eB (mkE "InvalidLot") (aCons (eV 0) aNil)) (aCons (eB (mkE "InvalidChart") (aCons (eV 0) aNil)) (aCons (eB (mkE "InvalidNumber") (aCons (eV 0) aNil)) aNil)))))))))
    (sSeq (sSet 1 (eO addD (eV 1) (eB mkL (aCons (eB (mkE "InvalidPages") (aCons (eV 0) aNil)) (aCons (eB (mkE "InvalidDeed") (aCons (eV 0) aNil)) (aCons (eB (mkE "InvalidTree") (aCons (eV 0) aNil)) (aCons (eB (mkE "InvalidName") (aCons (eV 0) aNil)) (aCons (eB (mkE "InvalidText") (aCons (eV 0) aNil)) (aCons (eB (mkE "InvalidLine") (aCons (eV 0) aNil)) aNil)))))))))
    (sSeq (sSet 1 (eO addD (eV 1) (eB mkL (aCons (eB (mkE "DoesNotFit") (aCons (eV 0) aNil)) (aCons (eB (mkE "InvalidSayings") (aCons (eV 0) aNil)) (aCons (eB (mkE "InvalidSoil") (aCons (eV 0) aNil)) (aCons (eB (mkE "InvalidPins") (aCons (eV 0) aNil)) (aCons (eB (mkE "InvalidDeeds") (aCons (eV 0) aNil)) (aCons (eB (mkE "InvalidLines") (aCons (eV 0) aNil)) aNil)))))))))
    (sRet (eV 1)))))))
abbrev F__law_by_place : List D → Unit → Rs Unit D := defF 1 1 b__law_by_place
def b__law_by_name : MS Unit := (sSeq (sSet 1 (eB mkL aNil))
    (sSeq (sSet 1 (eO addD (eV 1) (eB mkL (aCons (eU (fun d => some (.exc "InvalidForest" d)) (eV 0)) (aCons (eU (fun d => some (.exc "InvalidPlace" d)) (eV 0)) (aCons (eU (fun d => some (.exc "InvalidMark" d)) (eV 0)) (aCons (eU (fun d => some (.exc "InvalidDye" d)) (eV 0)) (aCons (eU (fun d => some (.exc "InvalidDyeing" d)) (eV 0)) (aCons (eU (fun d => some (.exc "InvalidSaying" d)) (eV 0)) aNil)))))))))
    (sSeq (sSet 1 (eO addD (eV 1) (eB mkL (aCons (eU (fun d => some (.exc "InvalidWish" d)) (eV 0)) (aCons (eU (fun d => some (.exc "InvalidPrices" d)) (eV 0)) (aCons (eU (fun d => some (.exc "InvalidKind" d)) (eV 0)) (aCons (eU (fun d => some (.exc "InvalidLot" d)) (eV 0)) (aCons (eU (fun d => some (.exc "InvalidChart" d)) (eV 0)) (aCons (eU (fun d => some (.exc "InvalidNumber" d)) (eV 0)) aNil)))))))))
    (sSeq (sSet 1 (eO addD (eV 1) (eB mkL (aCons (eU (fun d => some (.exc "InvalidPages" d)) (eV 0)) (aCons (eU (fun d => some (.exc "InvalidDeed" d)) (eV 0)) (aCons (eU (fun d => some (.exc "InvalidTree" d)) (eV 0)) (aCons (eU (fun d => some (.exc "InvalidName" d)) (eV 0)) (aCons (eU (fun d => some (.exc "InvalidText" d)) (eV 0)) (aCons (eU (fun d => some (.exc "InvalidLine" d)) (eV 0)) aNil)))))))))
    (sSeq (sSet 1 (eO addD (eV 1) (eB mkL (aCons (eU (fun d => some (.exc "DoesNotFit" d)) (eV 0)) (aCons (eU (fun d => some (.exc "InvalidSayings" d)) (eV 0)) (aCons (eU (fun d => some (.exc "InvalidSoil" d)) (eV 0)) (aCons (eU (fun d => some (.exc "InvalidPins" d)) (eV 0)) (aCons (eU (fun d => some (.exc "InvalidDeeds" d)) (eV 0)) (aCons (eU (fun d => some (.exc "InvalidLines" d)) (eV 0)) aNil)))))))))
    (sRet (eV 1)))))))
abbrev F__law_by_name : List D → Unit → Rs Unit D := defF 1 1 b__law_by_name
def b__law_classes : MS Unit := (sSeq (sSet 1 (eB mkL aNil))
    (sSeq (sSet 1 (eO addD (eV 1) (eB mkL (aCons (eU (isiE (isT true "InvalidForest")) (eV 0)) (aCons (eU (isiE (isT true "InvalidPlace")) (eV 0)) (aCons (eU (isiE (isT true "InvalidMark")) (eV 0)) (aCons (eU (isiE (isT true "InvalidDye")) (eV 0)) (aCons (eU (isiE (isT true "InvalidDyeing")) (eV 0)) (aCons (eU (isiE (isT true "InvalidSaying")) (eV 0)) aNil)))))))))
    (sSeq (sSet 1 (eO addD (eV 1) (eB mkL (aCons (eU (isiE (isT true "InvalidWish")) (eV 0)) (aCons (eU (isiE (isT true "InvalidPrices")) (eV 0)) (aCons (eU (isiE (isT true "InvalidKind")) (eV 0)) (aCons (eU (isiE (isT true "InvalidLot")) (eV 0)) (aCons (eU (isiE (isT true "InvalidChart")) (eV 0)) (aCons (eU (isiE (isT true "InvalidNumber")) (eV 0)) aNil)))))))))
    (sSeq (sSet 1 (eO addD (eV 1) (eB mkL (aCons (eU (isiE (isT true "InvalidPages")) (eV 0)) (aCons (eU (isiE (isT true "InvalidDeed")) (eV 0)) (aCons (eU (isiE (isT true "InvalidTree")) (eV 0)) (aCons (eU (isiE (isT true "InvalidName")) (eV 0)) (aCons (eU (isiE (isT true "InvalidText")) (eV 0)) (aCons (eU (isiE (isT true "InvalidLine")) (eV 0)) aNil)))))))))
    (sSeq (sSet 1 (eO addD (eV 1) (eB mkL (aCons (eU (isiE (isT true "DoesNotFit")) (eV 0)) (aCons (eU (isiE (isT true "InvalidSayings")) (eV 0)) (aCons (eU (isiE (isT true "InvalidSoil")) (eV 0)) (aCons (eU (isiE (isT true "InvalidPins")) (eV 0)) (aCons (eU (isiE (isT true "InvalidDeeds")) (eV 0)) (aCons (eU (isiE (isT true "InvalidLines")) (eV 0)) aNil)))))))))
    (sRet (eV 1)))))))
abbrev F__law_classes : List D → Unit → Rs Unit D := defF 1 1 b__law_classes
def b__law_raised : MS Unit := (sTry (sSeq (sIf (bVal (eO eqD (eV 0) (eC (.int 0)))) (sRaise "InvalidDyeing" (eV 1)) sNil)
    (sSeq (sIf (bVal (eO eqD (eV 0) (eC (.int 1)))) (sRaise "InvalidPins" (eV 1)) sNil)
    (sSeq (sIf (bVal (eO eqD (eV 0) (eC (.int 2)))) (sRaise "InvalidDye" (eV 1)) sNil)
    (sSeq (sIf (bVal (eO eqD (eV 0) (eC (.int 3)))) (sRaise "InvalidSoil" (eV 1)) sNil)
    (sRaise "InvalidLot" (eV 1)))))) (⟨isT true "InvalidSaying", none, (sRet (eB mkL aNil))⟩ :: (⟨isT true "InvalidDyeing", (some 2), (sRet (eIf (bVal (eO eqD (eV 0) (eC (.int 0)))) (eB mkL (aCons (eXat caF 2 "given") aNil)) (eB mkL aNil)))⟩ :: (⟨isT true "InvalidSayings", none, (sRet (eB mkL aNil))⟩ :: (⟨isT true "InvalidDye", (some 2), (sRet (eIf (bVal (eO eqD (eV 0) (eC (.int 2)))) (eB mkL (aCons (eXat caF 2 "given") aNil)) (eB mkL aNil)))⟩ :: (⟨isT true "InvalidLot", (some 2), (sRet (eIf (bVal (eO eqD (eV 0) (eC (.int 4)))) (eB mkL (aCons (eXat caF 2 "given") aNil)) (eB mkL aNil)))⟩ :: (⟨isT true "DyeError", (some 2), (sRet (eIf (bVal (eO inD (eV 0) (eB mkT (aCons (eC (.int 1)) (aCons (eC (.int 3)) aNil))))) (eB mkL (aCons (eXat caF 2 "index") aNil)) (eB mkL aNil)))⟩ :: [])))))))
abbrev F__law_raised : List D → Unit → Rs Unit D := defF 2 1 b__law_raised
def b__law_holds_all (p : Addr) : MS PT := (sSeq (sFor (iOp rng1 (aCons (eC (.int 4)) aNil)) (gN 1) (sSeq (sSet 2 (eCall (F__law_thing p) (aCons (eV 0) (aCons (eC (.int 2)) aNil))))
    (sSeq (sFor (iVal (eB mkT (aCons (eCallU F__law_by_place (aCons (eV 2) aNil)) (aCons (eCallU F__law_by_name (aCons (eV 2) aNil)) aNil)))) (gN 3) (sFor (iOp enums (aCons (eV 3) aNil)) (gT 2 (gsCons (gN 4) (gsCons (gN 5) gsNil))) (sSeq (sIf (bOr (bVal (eO neD (eCallU F__law_classes (aCons (eV 5) aNil)) (eLc [6] (iOp rng1 (aCons (eC (.int 24)) aNil)) (gN 6) bYes (eO eqD (eV 6) (eV 4))))) (bOr (bNot (bVal (eU (isiE (isT true "DyeError")) (eV 5)))) (bNot (bVal (eU (isiE (isT false "ValueError")) (eV 5)))))) (sRet (eC (.bl false))) sNil)
    (sSeq (sIf (bOr (bVal (eU (isiE (isT false "LookupError")) (eV 5))) (bOr (bVal (eU (isiE (isT false "ArithmeticError")) (eV 5))) (bOr (bVal (eU (isiE (isT false "TypeError")) (eV 5))) (bVal (eU (isiE (isT false "RuntimeError")) (eV 5)))))) (sRet (eC (.bl false))) sNil)
    (sIf (bNot (bVal (eCallU F__law_even (aCons (eIf (bVal (eO ltD (eV 4) (eC (.int 19)))) (eU (atD caF "given") (eV 5)) (eU (atD caF "index") (eV 5))) (aCons (eV 2) aNil))))) (sRet (eC (.bl false))) sNil)))))
    (sIf (bNot (bVal (eB allD (aCons (eLc [7] (iOp rng1 (aCons (eC (.int 5)) aNil)) (gN 7) bYes (eCallU F__law_even (aCons (eCallU F__law_raised (aCons (eV 7) (aCons (eV 2) aNil))) (aCons (eB mkL (aCons (eV 2) aNil)) aNil)))) aNil)))) (sRet (eC (.bl false))) sNil))))
    (sRet (eC (.bl true))))
abbrev F__law_holds_all (p : Addr) : List D → PT → Rs PT D := defF 1 7 (b__law_holds_all p)
def b_law : MS Unit := (sRet (eB allD (aCons (eLc [1] (iVal (eB mkT (aCons (eC (.int 0)) (aCons (eC (.int 1)) aNil)))) (gN 1) bYes (eRun (aCons (eV 0) (aCons (eV 1) aNil)))) aNil)))
abbrev F_law : List D → Unit → Rs Unit D := defF 1 1 b_law
end K1
set_option Elab.async false
set_option linter.all false
set_option maxRecDepth 100000
set_option maxHeartbeats 4000000
namespace K1
open PySem PySem.Spec PyProof.Rows L2 DW
def askO_0 : List Str := ["InvalidSaying", "InvalidDyeing", "InvalidDye", "InvalidMark", "InvalidPlace", "InvalidForest", "InvalidNumber", "InvalidChart", "InvalidLot", "InvalidKind", "InvalidPrices", "InvalidWish", "InvalidLine", "InvalidText", "InvalidName"]
def askO_1 : List Str := ["InvalidTree", "InvalidDeed", "InvalidPages", "InvalidLines", "InvalidDeeds", "InvalidPins", "InvalidSoil", "InvalidSayings", "DoesNotFit", "DyeError"]
def askO : List Str := askO_0 ++ askO_1
def askB : List String := ["ValueError", "LookupError", "ArithmeticError", "TypeError", "RuntimeError"]
def hdlL_0 : List Str := ["DyeError", "InvalidLot", "InvalidDye", "InvalidSayings", "InvalidDyeing", "InvalidSaying"]
def hdlL : List Str := hdlL_0
structure Fx (K : PySem.W.Frag) (mg : Str → Option Value) : Prop where
  f_ArithmeticError : mg "ArithmeticError" = none
  f_LookupError : mg "LookupError" = none
  f_RuntimeError : mg "RuntimeError" = none
  f_TypeError : mg "TypeError" = none
  f_ValueError : mg "ValueError" = none
  f_abs : mg "abs" = none
  f_all : mg "all" = none
  f_enumerate : mg "enumerate" = none
  f_int : mg "int" = none
  f_isinstance : mg "isinstance" = none
  f_len : mg "len" = none
  f_list : mg "list" = none
  f_range : mg "range" = none
  f_repr : mg "repr" = none
  f_tuple : mg "tuple" = none
  tab : Tab K (zn K) caF
  isi : ∀ x : Str, x ∈ askO → ∀ c C f b, (zn K).cl c = some (C, f) → isT true x c = some b → PySem.W.kitOne K (.ref C) (.ref (He.ga K x)) = some b
  isb : ∀ n : String, n ∈ askB → ∀ c C f b, (zn K).cl c = some (C, f) → isT false n c = some b → PySem.W.kitOne K (.ref C) (.type n) = some b
  exm : ∀ x : Str, x ∈ hdlL → ∀ c C f b, (zn K).cl c = some (C, f) → isT true x c = some b → PySem.W.exmOne K (.ref C) (.ref (He.ga K x)) = some b
  g_DyeError : mg "DyeError" = some (.ref (He.ga K "DyeError"))
  g_InvalidForest : mg "InvalidForest" = some (.ref (He.ga K "InvalidForest"))
  k_InvalidForest : ClsF K mg "InvalidForest" (He.ga K "InvalidForest") (He.ma K (He.ga K "InvalidForest") "__init__") "given"
  g_InvalidPlace : mg "InvalidPlace" = some (.ref (He.ga K "InvalidPlace"))
  k_InvalidPlace : ClsF K mg "InvalidPlace" (He.ga K "InvalidPlace") (He.ma K (He.ga K "InvalidPlace") "__init__") "given"
  g_InvalidMark : mg "InvalidMark" = some (.ref (He.ga K "InvalidMark"))
  k_InvalidMark : ClsF K mg "InvalidMark" (He.ga K "InvalidMark") (He.ma K (He.ga K "InvalidMark") "__init__") "given"
  g_InvalidDye : mg "InvalidDye" = some (.ref (He.ga K "InvalidDye"))
  k_InvalidDye : ClsF K mg "InvalidDye" (He.ga K "InvalidDye") (He.ma K (He.ga K "InvalidDye") "__init__") "given"
  g_InvalidDyeing : mg "InvalidDyeing" = some (.ref (He.ga K "InvalidDyeing"))
  k_InvalidDyeing : ClsF K mg "InvalidDyeing" (He.ga K "InvalidDyeing") (He.ma K (He.ga K "InvalidDyeing") "__init__") "given"
  g_InvalidSaying : mg "InvalidSaying" = some (.ref (He.ga K "InvalidSaying"))
  k_InvalidSaying : ClsF K mg "InvalidSaying" (He.ga K "InvalidSaying") (He.ma K (He.ga K "InvalidSaying") "__init__") "given"
  g_InvalidWish : mg "InvalidWish" = some (.ref (He.ga K "InvalidWish"))
  k_InvalidWish : ClsF K mg "InvalidWish" (He.ga K "InvalidWish") (He.ma K (He.ga K "InvalidWish") "__init__") "given"
  g_InvalidPrices : mg "InvalidPrices" = some (.ref (He.ga K "InvalidPrices"))
  k_InvalidPrices : ClsF K mg "InvalidPrices" (He.ga K "InvalidPrices") (He.ma K (He.ga K "InvalidPrices") "__init__") "given"
  g_InvalidKind : mg "InvalidKind" = some (.ref (He.ga K "InvalidKind"))
  k_InvalidKind : ClsF K mg "InvalidKind" (He.ga K "InvalidKind") (He.ma K (He.ga K "InvalidKind") "__init__") "given"
  g_InvalidLot : mg "InvalidLot" = some (.ref (He.ga K "InvalidLot"))
  k_InvalidLot : ClsF K mg "InvalidLot" (He.ga K "InvalidLot") (He.ma K (He.ga K "InvalidLot") "__init__") "given"
  g_InvalidChart : mg "InvalidChart" = some (.ref (He.ga K "InvalidChart"))
  k_InvalidChart : ClsF K mg "InvalidChart" (He.ga K "InvalidChart") (He.ma K (He.ga K "InvalidChart") "__init__") "given"
  g_InvalidNumber : mg "InvalidNumber" = some (.ref (He.ga K "InvalidNumber"))
  k_InvalidNumber : ClsF K mg "InvalidNumber" (He.ga K "InvalidNumber") (He.ma K (He.ga K "InvalidNumber") "__init__") "given"
  g_InvalidPages : mg "InvalidPages" = some (.ref (He.ga K "InvalidPages"))
  k_InvalidPages : ClsF K mg "InvalidPages" (He.ga K "InvalidPages") (He.ma K (He.ga K "InvalidPages") "__init__") "given"
  g_InvalidDeed : mg "InvalidDeed" = some (.ref (He.ga K "InvalidDeed"))
  k_InvalidDeed : ClsF K mg "InvalidDeed" (He.ga K "InvalidDeed") (He.ma K (He.ga K "InvalidDeed") "__init__") "given"
  g_InvalidTree : mg "InvalidTree" = some (.ref (He.ga K "InvalidTree"))
  k_InvalidTree : ClsF K mg "InvalidTree" (He.ga K "InvalidTree") (He.ma K (He.ga K "InvalidTree") "__init__") "given"
  g_InvalidName : mg "InvalidName" = some (.ref (He.ga K "InvalidName"))
  k_InvalidName : ClsF K mg "InvalidName" (He.ga K "InvalidName") (He.ma K (He.ga K "InvalidName") "__init__") "given"
  g_InvalidText : mg "InvalidText" = some (.ref (He.ga K "InvalidText"))
  k_InvalidText : ClsF K mg "InvalidText" (He.ga K "InvalidText") (He.ma K (He.ga K "InvalidText") "__init__") "given"
  g_InvalidLine : mg "InvalidLine" = some (.ref (He.ga K "InvalidLine"))
  k_InvalidLine : ClsF K mg "InvalidLine" (He.ga K "InvalidLine") (He.ma K (He.ga K "InvalidLine") "__init__") "given"
  g_DoesNotFit : mg "DoesNotFit" = some (.ref (He.ga K "DoesNotFit"))
  k_DoesNotFit : ClsF K mg "DoesNotFit" (He.ga K "DoesNotFit") (He.ma K (He.ga K "DoesNotFit") "__init__") "given"
  g_InvalidSayings : mg "InvalidSayings" = some (.ref (He.ga K "InvalidSayings"))
  k_InvalidSayings : ClsF K mg "InvalidSayings" (He.ga K "InvalidSayings") (He.ma K (He.ga K "InvalidSayings") "__init__") "index"
  g_InvalidSoil : mg "InvalidSoil" = some (.ref (He.ga K "InvalidSoil"))
  k_InvalidSoil : ClsF K mg "InvalidSoil" (He.ga K "InvalidSoil") (He.ma K (He.ga K "InvalidSoil") "__init__") "index"
  g_InvalidPins : mg "InvalidPins" = some (.ref (He.ga K "InvalidPins"))
  k_InvalidPins : ClsF K mg "InvalidPins" (He.ga K "InvalidPins") (He.ma K (He.ga K "InvalidPins") "__init__") "index"
  g_InvalidDeeds : mg "InvalidDeeds" = some (.ref (He.ga K "InvalidDeeds"))
  k_InvalidDeeds : ClsF K mg "InvalidDeeds" (He.ga K "InvalidDeeds") (He.ma K (He.ga K "InvalidDeeds") "__init__") "index"
  g_InvalidLines : mg "InvalidLines" = some (.ref (He.ga K "InvalidLines"))
  k_InvalidLines : ClsF K mg "InvalidLines" (He.ga K "InvalidLines") (He.ma K (He.ga K "InvalidLines") "__init__") "index"
  g__law_press : mg "_law_press" = some (.ref (He.ga K "_law_press"))
  d__law_press : ∃ fd, FunD K "_law_press" "_law_press" (defArgs s__law_press) (defBody s__law_press) (defScope s__law_press) [] [] (He.ga K "_law_press") fd
  g__law_out : mg "_law_out" = some (.ref (He.ga K "_law_out"))
  d__law_out : ∃ fd, FunD K "_law_out" "_law_out" (defArgs s__law_out) (defBody s__law_out) (defScope s__law_out) [] [] (He.ga K "_law_out") fd
  g__law_of : mg "_law_of" = some (.ref (He.ga K "_law_of"))
  d__law_of : ∃ fd, FunD K "_law_of" "_law_of" (defArgs s__law_of) (defBody s__law_of) (defScope s__law_of) [] [] (He.ga K "_law_of") fd
  g__law_even : mg "_law_even" = some (.ref (He.ga K "_law_even"))
  d__law_even : ∃ fd, FunD K "_law_even" "_law_even" (defArgs s__law_even) (defBody s__law_even) (defScope s__law_even) [] [] (He.ga K "_law_even") fd
  g__law_thing : mg "_law_thing" = some (.ref (He.ga K "_law_thing"))
  d__law_thing : ∃ fd, FunD K "_law_thing" "_law_thing" (defArgs s__law_thing) (defBody s__law_thing) (defScope s__law_thing) [] [] (He.ga K "_law_thing") fd
  g__law_by_place : mg "_law_by_place" = some (.ref (He.ga K "_law_by_place"))
  d__law_by_place : ∃ fd, FunD K "_law_by_place" "_law_by_place" (defArgs s__law_by_place) (defBody s__law_by_place) (defScope s__law_by_place) [] [] (He.ga K "_law_by_place") fd
  g__law_by_name : mg "_law_by_name" = some (.ref (He.ga K "_law_by_name"))
  d__law_by_name : ∃ fd, FunD K "_law_by_name" "_law_by_name" (defArgs s__law_by_name) (defBody s__law_by_name) (defScope s__law_by_name) [] [] (He.ga K "_law_by_name") fd
  g__law_classes : mg "_law_classes" = some (.ref (He.ga K "_law_classes"))
  d__law_classes : ∃ fd, FunD K "_law_classes" "_law_classes" (defArgs s__law_classes) (defBody s__law_classes) (defScope s__law_classes) [] [] (He.ga K "_law_classes") fd
  g__law_raised : mg "_law_raised" = some (.ref (He.ga K "_law_raised"))
  d__law_raised : ∃ fd, FunD K "_law_raised" "_law_raised" (defArgs s__law_raised) (defBody s__law_raised) (defScope s__law_raised) [] [] (He.ga K "_law_raised") fd
  g__law_holds_all : mg "_law_holds_all" = some (.ref (He.ga K "_law_holds_all"))
  d__law_holds_all : ∃ fd, FunD K "_law_holds_all" "_law_holds_all" (defArgs s__law_holds_all) (defBody s__law_holds_all) (defScope s__law_holds_all) [] [] (He.ga K "_law_holds_all") fd
  g_law : mg "law" = some (.ref (He.ga K "law"))
  d_law : ∃ fd, FunD K "law" "law" (defArgs s_law) (defBody s_law) (defScope s_law) [] [] (He.ga K "law") fd
structure Ini (P : Program) (w : World) (K : PySem.W.Frag) (mg : Str → Option Value) (base : Heap) : Prop where
  i_InvalidForest : IniF P w K mg base (He.ga K "InvalidForest") (He.ma K (He.ga K "InvalidForest") "__init__") "given"
  i_InvalidPlace : IniF P w K mg base (He.ga K "InvalidPlace") (He.ma K (He.ga K "InvalidPlace") "__init__") "given"
  i_InvalidMark : IniF P w K mg base (He.ga K "InvalidMark") (He.ma K (He.ga K "InvalidMark") "__init__") "given"
  i_InvalidDye : IniF P w K mg base (He.ga K "InvalidDye") (He.ma K (He.ga K "InvalidDye") "__init__") "given"
  i_InvalidDyeing : IniF P w K mg base (He.ga K "InvalidDyeing") (He.ma K (He.ga K "InvalidDyeing") "__init__") "given"
  i_InvalidSaying : IniF P w K mg base (He.ga K "InvalidSaying") (He.ma K (He.ga K "InvalidSaying") "__init__") "given"
  i_InvalidWish : IniF P w K mg base (He.ga K "InvalidWish") (He.ma K (He.ga K "InvalidWish") "__init__") "given"
  i_InvalidPrices : IniF P w K mg base (He.ga K "InvalidPrices") (He.ma K (He.ga K "InvalidPrices") "__init__") "given"
  i_InvalidKind : IniF P w K mg base (He.ga K "InvalidKind") (He.ma K (He.ga K "InvalidKind") "__init__") "given"
  i_InvalidLot : IniF P w K mg base (He.ga K "InvalidLot") (He.ma K (He.ga K "InvalidLot") "__init__") "given"
  i_InvalidChart : IniF P w K mg base (He.ga K "InvalidChart") (He.ma K (He.ga K "InvalidChart") "__init__") "given"
  i_InvalidNumber : IniF P w K mg base (He.ga K "InvalidNumber") (He.ma K (He.ga K "InvalidNumber") "__init__") "given"
  i_InvalidPages : IniF P w K mg base (He.ga K "InvalidPages") (He.ma K (He.ga K "InvalidPages") "__init__") "given"
  i_InvalidDeed : IniF P w K mg base (He.ga K "InvalidDeed") (He.ma K (He.ga K "InvalidDeed") "__init__") "given"
  i_InvalidTree : IniF P w K mg base (He.ga K "InvalidTree") (He.ma K (He.ga K "InvalidTree") "__init__") "given"
  i_InvalidName : IniF P w K mg base (He.ga K "InvalidName") (He.ma K (He.ga K "InvalidName") "__init__") "given"
  i_InvalidText : IniF P w K mg base (He.ga K "InvalidText") (He.ma K (He.ga K "InvalidText") "__init__") "given"
  i_InvalidLine : IniF P w K mg base (He.ga K "InvalidLine") (He.ma K (He.ga K "InvalidLine") "__init__") "given"
  i_DoesNotFit : IniF P w K mg base (He.ga K "DoesNotFit") (He.ma K (He.ga K "DoesNotFit") "__init__") "given"
  i_InvalidSayings : IniF P w K mg base (He.ga K "InvalidSayings") (He.ma K (He.ga K "InvalidSayings") "__init__") "index"
  i_InvalidSoil : IniF P w K mg base (He.ga K "InvalidSoil") (He.ma K (He.ga K "InvalidSoil") "__init__") "index"
  i_InvalidPins : IniF P w K mg base (He.ga K "InvalidPins") (He.ma K (He.ga K "InvalidPins") "__init__") "index"
  i_InvalidDeeds : IniF P w K mg base (He.ga K "InvalidDeeds") (He.ma K (He.ga K "InvalidDeeds") "__init__") "index"
  i_InvalidLines : IniF P w K mg base (He.ga K "InvalidLines") (He.ma K (He.ga K "InvalidLines") "__init__") "index"
end K1
set_option Elab.async false
set_option linter.all false
set_option maxRecDepth 100000
set_option maxHeartbeats 4000000
namespace K1
open PySem PySem.Spec PyProof.Rows L2 DW
section
variable {P : Program} {w : World} {K : PySem.W.Frag} {mg : Str → Option Value} {base : Heap}
theorem ok__law_press (c : Fx K mg) (hI : Ini P w K mg base) (good : ∀ ds, runOk ds = true → ∃ ρ o a b, b__law_press (ds.map .va ++ List.replicate 5 .un) () = .nx ρ () ∧ ρ[3]? = some (.own [.int a, .int b]) ∧ fo__law_press ρ () = .ok (.int o) () ∧ PrOk (o, a, b)) : Has P w K mg base "_law_press" (He.ga K "_law_press") 1 ["script", "lap"] (spNew (zn K)) := by
  obtain ⟨fd, F⟩ := c.d__law_press
  have S := sc__law_press
  refine ⟨fd, FnG.new (Z := zn K) (k := 0) (m := 5) (B := b__law_press) (fo := fo__law_press) (i := 3) F S rfl rfl good (fun cdv A outer s G H E hr tk => ?_), F.bindsN fun _ _ _ _ _ _ us hl => match us, hl with | [_, _], _ => rfl, F.kp, c.g__law_press⟩
  exact (pq_cons (psd_set 2 S.nd (pd_if (pb_cm (olt) (pd_v 1) (pd_callB (clen rfl) rfl c.f_len (by decide +kernel) (pds_cons (pd_v 0) pds_nil))) (pd_callT (cint) rfl c.f_int (by decide +kernel) (pds_cons (pd_ix (oix rfl) (pd_v 0) (pd_v 1) (fun _ _ => rfl)) pds_nil)) (pd_bin (oadd rfl) pd_int (pd_bin (omul) pd_int (pd_v 1)))))
    (pq_cons (psd_own 3 S.nd (pds_cons (pd_bin (oadd rfl) pd_int (pd_v 1)) (pds_cons (pd_bin (osub) pd_int (pd_v 1)) pds_nil)))
    (pq_cons (psd_for (vs := [4, 5]) (passes_of rfl) rfl (pdi_enu rfl rfl c.f_enumerate (pds_cons (pd_bin (oadd rfl) (pd_callT (clist rfl) rfl c.f_list (by decide +kernel) (pds_cons (pd_sl (osl rfl) (pd_v 0) pdo_no (pdo_in pd_int)) pds_nil)) (pd_lst (pds_cons (pd_v 2) (pds_cons pd_int pds_nil)))) pds_nil)) (pg_tup rfl (pgs_cons (pg_name (i := 4) S.nd rfl (by first | exact Or.inl rfl | exact Or.inr rfl)) (pgs_cons (pg_name (i := 5) S.nd rfl (by first | exact Or.inl rfl | exact Or.inr rfl)) pgs_nil))) (tg_tup rfl (tgs_cons (tg_name (by decide)) (tgs_cons (tg_name (by decide)) tgs_nil))) (psd_cons (psd_set 6 S.nd (pd_bin (omod) (pd_callT (cint) rfl c.f_int (by decide +kernel) (pds_cons (pd_v 4) pds_nil)) pd_int))
    (psd_one (psd_oset 3 (pd_bin (omod) (pd_callT (cint) rfl c.f_int (by decide +kernel) (pds_cons (pd_bin (oadd rfl) (pd_bin (oadd rfl) (pd_bin (omul) (pd_oix 3 (pd_v 6) (fun _ _ => rfl)) pd_int) (pd_oix 3 (pd_bin (osub) pd_int (pd_v 6)) (fun _ _ => rfl))) (pd_bin (omod) (pd_callT (cint) rfl c.f_int (by decide +kernel) (pds_cons (pd_v 5) pds_nil)) pd_int)) pds_nil)) pd_int) (pd_v 6)))))
    (pq_end (ps_ret (pe_disp (pps_cons pe_str (pd_if (pb_w (pw_o (pb_cm (olt) (pd_v 2) pd_int) (pw_o1 (pb_cm (oge) (pd_v 2) (pd_bin (opow) pd_int pd_int))))) (pd_bin (omod) (pd_callT (cint) rfl c.f_int (by decide +kernel) (pds_cons (pd_callB (cabs) rfl c.f_abs (by decide +kernel) (pds_cons (pd_v 2) pds_nil)) pds_nil)) (pd_bin (opow) pd_int pd_int)) pd_int) (pps_cons pe_str (pv 3) pps_nil)) rfl rfl (List.cons_ne_nil _ _) (by decide)))))))
end
section
variable {P : Program} {w : World} {K : PySem.W.Frag} {mg : Str → Option Value} {base : Heap}
theorem ok__law_out (c : Fx K mg) (hI : Ini P w K mg base) : Has P w K mg base "_law_out" (He.ga K "_law_out") 1 ["press", "many"] (spF (zn K) Press F__law_out) := by
  obtain ⟨fd, F⟩ := c.d__law_out
  have S := sc__law_out
  refine ⟨fd, FnG.up (k := 1) (j := 1) (FnG.mir (Z := zn K) (TH := Press) (k := 0) (n := 2) (m := 3) (B := b__law_out) F S rfl rfl (fun p cdv A outer s G H E hr tk => ?_)) (by decide), F.bindsN fun _ _ _ _ _ _ us hl => match us, hl with | [_, _], _ => rfl, F.kp, c.g__law_out⟩
  exact (psd_cons (psd_if (pb_cm (ogt) (pd_pr 0 true (by exact hr.hu1)) pd_int) (psd_cons (psd_set 2 S.nd (pd_bin (omod) (pd_callT (cint) rfl c.f_int (by decide +kernel) (pds_cons (pd_pr 0 true (by exact hr.hu1)) pds_nil)) (pd_v 1)))
    (psd_cons (psd_pr 0 true (by exact hr.hu1) (pd_bin (ofdiv) (pd_pr 0 true (by exact hr.hu1)) (pd_v 1)))
    (psd_one (psd_ret (pd_v 2))))) psd_nil)
    (psd_cons (psd_asg (vs := [3, 4]) (pd_pr 0 false (by exact hr.hu1)) (pg_unl rfl (pgs_cons (pg_name (i := 3) S.nd rfl (by first | exact Or.inl rfl | exact Or.inr rfl)) (pgs_cons (pg_name (i := 4) S.nd rfl (by first | exact Or.inl rfl | exact Or.inr rfl)) pgs_nil))) (tg_unl rfl (tgs_cons (tg_name (by decide)) (tgs_cons (tg_name (by decide)) tgs_nil))))
    (psd_cons (psd_set 3 S.nd (pd_bin (omod) (pd_callT (cint) rfl c.f_int (by decide +kernel) (pds_cons (pd_bin (oadd rfl) (pd_bin (omul) (pd_v 3) pd_int) pd_int) pds_nil)) pd_int))
    (psd_cons (psd_set 4 S.nd (pd_bin (omod) (pd_callT (cint) rfl c.f_int (by decide +kernel) (pds_cons (pd_bin (oadd rfl) (pd_bin (oadd rfl) (pd_bin (omul) (pd_v 4) pd_int) (pd_bin (omod) (pd_v 3) pd_int)) pd_int) pds_nil)) pd_int))
    (psd_cons (psd_pr 0 false (by exact hr.hu1) (pd_lst (pds_cons (pd_v 3) (pds_cons (pd_v 4) pds_nil))))
    (psd_one (psd_ret (pd_bin (omod) (pd_callT (cint) rfl c.f_int (by decide +kernel) (pds_cons (pd_bin (ofdiv) (pd_bin (oadd rfl) (pd_v 3) (pd_v 4)) pd_int) pds_nil)) (pd_v 1)))))))))
end
section
variable {P : Program} {w : World} {K : PySem.W.Frag} {mg : Str → Option Value} {base : Heap}
theorem ok__law_of (c : Fx K mg) (hI : Ini P w K mg base) (h__law_out : Has P w K mg base "_law_out" (He.ga K "_law_out") 1 ["press", "many"] (spF (zn K) Press F__law_out)) : Has P w K mg base "_law_of" (He.ga K "_law_of") 2 ["press", "things"] (spF (zn K) Press F__law_of) := by
  obtain ⟨fd, F⟩ := c.d__law_of
  have S := sc__law_of
  refine ⟨fd, FnG.up (k := 2) (j := 2) (FnG.mir (Z := zn K) (TH := Press) (k := 1) (n := 2) (m := 0) (B := b__law_of) F S rfl rfl (fun p cdv A outer s G H E hr tk => ?_)) (by decide), F.bindsN fun _ _ _ _ _ _ us hl => match us, hl with | [_, _], _ => rfl, F.kp, c.g__law_of⟩
  exact (psd_one (psd_ret (pd_ix (oix rfl) (pd_v 1) (pd_fnF p h__law_out (hr.mono (by decide)) rfl tk (pds_cons (pd_v 0) (pds_cons (pd_callB (clen rfl) rfl c.f_len (by decide +kernel) (pds_cons (pd_v 1) pds_nil)) pds_nil))) (fun _ _ => rfl))))
end
section
variable {P : Program} {w : World} {K : PySem.W.Frag} {mg : Str → Option Value} {base : Heap}
theorem ok__law_even (c : Fx K mg) (hI : Ini P w K mg base) : Has P w K mg base "_law_even" (He.ga K "_law_even") 1 ["told", "due"] (spD (zn K) .u F__law_even) := by
  obtain ⟨fd, F⟩ := c.d__law_even
  have S := sc__law_even
  refine ⟨fd, FnG.mirU (Z := zn K) (k := 0) (n := 2) (m := 0) (B := b__law_even) F S rfl rfl (fun cdv A outer s G H E hr tk => ?_), F.bindsN fun _ _ _ _ _ _ us hl => match us, hl with | [_, _], _ => rfl, F.kp, c.g__law_even⟩
  exact (psd_one (psd_ret (pd_and (pd_cm (oeq rfl (by exact hr.hu2)) (pd_v 0) (pd_v 1)) (pd_one (pd_cm (oeq rfl (by exact hr.hu2)) (pd_callB (crepr rfl (by exact hr.gd) (by exact hr.hu)) rfl c.f_repr (by decide +kernel) (pds_cons (pd_v 0) pds_nil)) (pd_callB (crepr rfl (by exact hr.gd) (by exact hr.hu)) rfl c.f_repr (by decide +kernel) (pds_cons (pd_v 1) pds_nil)))))))
end
section
variable {P : Program} {w : World} {K : PySem.W.Frag} {mg : Str → Option Value} {base : Heap}
theorem ok__law_thing (c : Fx K mg) (hI : Ini P w K mg base) (h__law_out : Has P w K mg base "_law_out" (He.ga K "_law_out") 1 ["press", "many"] (spF (zn K) Press F__law_out)) (h__law_of : Has P w K mg base "_law_of" (He.ga K "_law_of") 2 ["press", "things"] (spF (zn K) Press F__law_of)) : ∀ n : Nat, Has P w K mg base "_law_thing" (He.ga K "_law_thing") (n + 2) ["press", "deep"] (spF (zn K) Press fun p => Fn__law_thing p n)
  | 0 => by
    obtain ⟨fd, F⟩ := c.d__law_thing
    exact ⟨fd, ⟨fun vs H Q E h => (let ⟨_, _, _, _, _, _, o⟩ := h; False.elim o), fun A outer s H args us vs Q E _ _ _ _ h => (let ⟨_, _, _, _, _, _, o⟩ := h; False.elim o)⟩, F.bindsN fun _ _ _ _ _ _ us hl => match us, hl with | [_, _], _ => rfl, F.kp, c.g__law_thing⟩
  | n + 1 => by
    have ih := ok__law_thing c hI h__law_out h__law_of n
    obtain ⟨fd, F⟩ := c.d__law_thing
    have S := sc__law_thing
    refine ⟨fd, FnG.mir (Z := zn K) (TH := Press) (n := 2) (m := 3) (B := fun p => b__law_thing p (Fn__law_thing p n)) F S rfl rfl (fun p cdv A outer s G H E hr tk => ?_), F.bindsN fun _ _ _ _ _ _ us hl => match us, hl with | [_, _], _ => rfl, F.kp, c.g__law_thing⟩
    exact (psd_cons (psd_set 2 S.nd (pd_lst (pds_cons pd_non (pds_cons pd_bl (pds_cons pd_bl (pds_cons pd_int (pds_cons (pd_un oneg pd_int) (pds_cons (pd_bin (opow) pd_int pd_int) (pds_cons pd_str (pds_cons pd_str (pds_cons (pd_tup pds_nil) (pds_cons (pd_lst pds_nil) (pds_cons pd_dct0 (pds_cons (pd_tup (pds_cons pd_str (pds_cons (pd_tup pds_nil) (pds_cons (pd_tup pds_nil) pds_nil)))) (pds_cons (pd_tup (pds_cons (pd_tup (pds_cons pd_int (pds_cons pd_str pds_nil))) pds_nil)) (pds_cons (pd_tup (pds_cons pd_int (pds_cons pd_int pds_nil))) (pds_cons (pd_tup (pds_cons (pd_tup (pds_cons pd_str (pds_cons pd_str pds_nil))) pds_nil)) pds_nil)))))))))))))))))
      (psd_cons (psd_if (pb_w (pw_o (pb_cm (oeq rfl (by exact hr.hu2)) (pd_v 1) pd_int) (pw_o1 (pb_cm (oeq rfl (by exact hr.hu2)) (pd_fnF p h__law_out (hr.mono (by omega)) rfl tk (pds_cons (pd_v 0) (pds_cons pd_int pds_nil))) pd_int)))) (psd_one (psd_ret (pd_fnF p h__law_of (hr.mono (by omega)) rfl tk (pds_cons (pd_v 0) (pds_cons (pd_v 2) pds_nil))))) psd_nil)
      (psd_cons (psd_setlc (own := [("part", 4)]) 3 rfl S.nd (pdi_rng1 rfl c.f_range (pds_cons (pd_fnF p h__law_out (hr.mono (by omega)) rfl tk (pds_cons (pd_v 0) (pds_cons pd_int pds_nil))) pds_nil)) (blkOk_by (own := [("part", 4)]) (N := N__law_thing) (sc := defScope s__law_thing) (by decide +kernel)) (fun _ _ _ _ _ => (pg_name (i := 4) S.nd rfl (by first | exact Or.inl rfl | exact Or.inr rfl))) (tg_name (by decide)) (fun _ _ _ _ _ => pts_yes) (fun _ _ _ _ _ => (pd_fnF (TH := Press) (F := fun p => Fn__law_thing p n) p ih (hr.mono (by omega)) rfl takes0 (pds_cons (pd_v 0) (pds_cons (pd_bin (osub) (pd_v 1) pd_int) pds_nil)))))
      (psd_one (psd_ret (pd_fnF p h__law_of (hr.mono (by omega)) rfl tk (pds_cons (pd_v 0) (pds_cons (pd_lst (pds_cons (pd_callT (ctuple rfl) rfl c.f_tuple (by decide +kernel) (pds_cons (pd_v 3) pds_nil)) (pds_cons (pd_v 3) (pds_cons (pd_dct (pdk_cons pd_str (pd_v 3) pdk_nil)) pds_nil)))) pds_nil))))))))
end
section
variable {P : Program} {w : World} {K : PySem.W.Frag} {mg : Str → Option Value} {base : Heap}
theorem ok__law_by_place (c : Fx K mg) (hI : Ini P w K mg base) : Has P w K mg base "_law_by_place" (He.ga K "_law_by_place") 3 ["thing"] (spD (zn K) .u F__law_by_place) := by
  obtain ⟨fd, F⟩ := c.d__law_by_place
  have S := sc__law_by_place
  refine ⟨fd, FnG.mirU (Z := zn K) (k := 2) (n := 1) (m := 1) (B := b__law_by_place) F S rfl rfl (fun cdv A outer s G H E hr tk => ?_), F.bindsN fun _ _ _ _ _ _ us hl => match us, hl with | [_], _ => rfl, F.kp, c.g__law_by_place⟩
  exact (psd_cons (psd_set 1 S.nd (pd_lst pds_nil))
    (psd_cons (psd_set 1 S.nd (pd_bin (oadd rfl) (pd_v 1) (pd_lst (pds_cons (pd_mk c.k_InvalidForest (hI.i_InvalidForest) (cl_InvalidForest K) (hr.room.mono (by decide)) rfl (pds_cons (pd_v 0) pds_nil)) (pds_cons (pd_mk c.k_InvalidPlace (hI.i_InvalidPlace) (cl_InvalidPlace K) (hr.room.mono (by decide)) rfl (pds_cons (pd_v 0) pds_nil)) (pds_cons (pd_mk c.k_InvalidMark (hI.i_InvalidMark) (cl_InvalidMark K) (hr.room.mono (by decide)) rfl (pds_cons (pd_v 0) pds_nil)) (pds_cons (pd_mk c.k_InvalidDye (hI.i_InvalidDye) (cl_InvalidDye K) (hr.room.mono (by decide)) rfl (pds_cons (pd_v 0) pds_nil)) (pds_cons (pd_mk c.k_InvalidDyeing (hI.i_InvalidDyeing) (cl_InvalidDyeing K) (hr.room.mono (by decide)) rfl (pds_cons (pd_v 0) pds_nil)) (pds_cons (pd_mk c.k_InvalidSaying (hI.i_InvalidSaying) (cl_InvalidSaying K) (hr.room.mono (by decide)) rfl (pds_cons (pd_v 0) pds_nil)) pds_nil)))))))))
    (psd_cons (psd_set 1 S.nd (pd_bin (oadd rfl) (pd_v 1) (pd_lst (pds_cons (pd_mk c.k_InvalidWish (hI.i_InvalidWish) (cl_InvalidWish K) (hr.room.mono (by decide)) rfl (pds_cons (pd_v 0) pds_nil)) (pds_cons (pd_mk c.k_InvalidPrices (hI.i_InvalidPrices) (cl_InvalidPrices K) (hr.room.mono (by decide)) rfl (pds_cons (pd_v 0) pds_nil)) (pds_cons (pd_mk c.k_InvalidKind (hI.i_InvalidKind) (cl_InvalidKind K) (hr.room.mono (by decide)) rfl (pds_cons (pd_v 0) pds_nil)) (pds_cons (pd_mk c.k_InvalidLot (hI.i_InvalidLot) (cl_InvalidLot K) (hr.room.mono (by decide)) rfl (pds_cons (pd_v 0) pds_nil)) (pds_cons (pd_mk c.k_InvalidChart (hI.i_InvalidChart) (cl_InvalidChart K) (hr.room.mono (by decide)) rfl (pds_cons (pd_v 0) pds_nil)) (pds_cons (pd_mk c.k_InvalidNumber (hI.i_InvalidNumber) (cl_InvalidNumber K) (hr.room.mono (by decide)) rfl (pds_cons (pd_v 0) pds_nil)) pds_nil)))))))))
    (psd_cons (psd_set 1 S.nd (pd_bin (oadd rfl) (pd_v 1) (pd_lst (pds_cons (pd_mk c.k_InvalidPages (hI.i_InvalidPages) (cl_InvalidPages K) (hr.room.mono (by decide)) rfl (pds_cons (pd_v 0) pds_nil)) (pds_cons (pd_mk c.k_InvalidDeed (hI.i_InvalidDeed) (cl_InvalidDeed K) (hr.room.mono (by decide)) rfl (pds_cons (pd_v 0) pds_nil)) (pds_cons (pd_mk c.k_InvalidTree (hI.i_InvalidTree) (cl_InvalidTree K) (hr.room.mono (by decide)) rfl (pds_cons (pd_v 0) pds_nil)) (pds_cons (pd_mk c.k_InvalidName (hI.i_InvalidName) (cl_InvalidName K) (hr.room.mono (by decide)) rfl (pds_cons (pd_v 0) pds_nil)) (pds_cons (pd_mk c.k_InvalidText (hI.i_InvalidText) (cl_InvalidText K) (hr.room.mono (by decide)) rfl (pds_cons (pd_v 0) pds_nil)) (pds_cons (pd_mk c.k_InvalidLine (hI.i_InvalidLine) (cl_InvalidLine K) (hr.room.mono (by decide)) rfl (pds_cons (pd_v 0) pds_nil)) pds_nil)))))))))
    (psd_cons (psd_set 1 S.nd (pd_bin (oadd rfl) (pd_v 1) (pd_lst (pds_cons (pd_mk c.k_DoesNotFit (hI.i_DoesNotFit) (cl_DoesNotFit K) (hr.room.mono (by decide)) rfl (pds_cons (pd_v 0) pds_nil)) (pds_cons (pd_mk c.k_InvalidSayings (hI.i_InvalidSayings) (cl_InvalidSayings K) (hr.room.mono (by decide)) rfl (pds_cons (pd_v 0) pds_nil)) (pds_cons (pd_mk c.k_InvalidSoil (hI.i_InvalidSoil) (cl_InvalidSoil K) (hr.room.mono (by decide)) rfl (pds_cons (pd_v 0) pds_nil)) (pds_cons (pd_mk c.k_InvalidPins (hI.i_InvalidPins) (cl_InvalidPins K) (hr.room.mono (by decide)) rfl (pds_cons (pd_v 0) pds_nil)) (pds_cons (pd_mk c.k_InvalidDeeds (hI.i_InvalidDeeds) (cl_InvalidDeeds K) (hr.room.mono (by decide)) rfl (pds_cons (pd_v 0) pds_nil)) (pds_cons (pd_mk c.k_InvalidLines (hI.i_InvalidLines) (cl_InvalidLines K) (hr.room.mono (by decide)) rfl (pds_cons (pd_v 0) pds_nil)) pds_nil)))))))))
    (psd_one (psd_ret (pd_v 1))))))))
end
section
variable {P : Program} {w : World} {K : PySem.W.Frag} {mg : Str → Option Value} {base : Heap}
theorem ok__law_by_name (c : Fx K mg) (hI : Ini P w K mg base) : Has P w K mg base "_law_by_name" (He.ga K "_law_by_name") 3 ["thing"] (spD (zn K) .u F__law_by_name) := by
  obtain ⟨fd, F⟩ := c.d__law_by_name
  have S := sc__law_by_name
  refine ⟨fd, FnG.mirU (Z := zn K) (k := 2) (n := 1) (m := 1) (B := b__law_by_name) F S rfl rfl (fun cdv A outer s G H E hr tk => ?_), F.bindsN fun _ _ _ _ _ _ us hl => match us, hl with | [_], _ => rfl, F.kp, c.g__law_by_name⟩
  exact (psd_cons (psd_set 1 S.nd (pd_lst pds_nil))
    (psd_cons (psd_set 1 S.nd (pd_bin (oadd rfl) (pd_v 1) (pd_lst (pds_cons (pd_mkK c.k_InvalidForest (hI.i_InvalidForest) (cl_InvalidForest K) (hr.room.mono (by decide)) rfl (pd_v 0)) (pds_cons (pd_mkK c.k_InvalidPlace (hI.i_InvalidPlace) (cl_InvalidPlace K) (hr.room.mono (by decide)) rfl (pd_v 0)) (pds_cons (pd_mkK c.k_InvalidMark (hI.i_InvalidMark) (cl_InvalidMark K) (hr.room.mono (by decide)) rfl (pd_v 0)) (pds_cons (pd_mkK c.k_InvalidDye (hI.i_InvalidDye) (cl_InvalidDye K) (hr.room.mono (by decide)) rfl (pd_v 0)) (pds_cons (pd_mkK c.k_InvalidDyeing (hI.i_InvalidDyeing) (cl_InvalidDyeing K) (hr.room.mono (by decide)) rfl (pd_v 0)) (pds_cons (pd_mkK c.k_InvalidSaying (hI.i_InvalidSaying) (cl_InvalidSaying K) (hr.room.mono (by decide)) rfl (pd_v 0)) pds_nil)))))))))
    (psd_cons (psd_set 1 S.nd (pd_bin (oadd rfl) (pd_v 1) (pd_lst (pds_cons (pd_mkK c.k_InvalidWish (hI.i_InvalidWish) (cl_InvalidWish K) (hr.room.mono (by decide)) rfl (pd_v 0)) (pds_cons (pd_mkK c.k_InvalidPrices (hI.i_InvalidPrices) (cl_InvalidPrices K) (hr.room.mono (by decide)) rfl (pd_v 0)) (pds_cons (pd_mkK c.k_InvalidKind (hI.i_InvalidKind) (cl_InvalidKind K) (hr.room.mono (by decide)) rfl (pd_v 0)) (pds_cons (pd_mkK c.k_InvalidLot (hI.i_InvalidLot) (cl_InvalidLot K) (hr.room.mono (by decide)) rfl (pd_v 0)) (pds_cons (pd_mkK c.k_InvalidChart (hI.i_InvalidChart) (cl_InvalidChart K) (hr.room.mono (by decide)) rfl (pd_v 0)) (pds_cons (pd_mkK c.k_InvalidNumber (hI.i_InvalidNumber) (cl_InvalidNumber K) (hr.room.mono (by decide)) rfl (pd_v 0)) pds_nil)))))))))
    (psd_cons (psd_set 1 S.nd (pd_bin (oadd rfl) (pd_v 1) (pd_lst (pds_cons (pd_mkK c.k_InvalidPages (hI.i_InvalidPages) (cl_InvalidPages K) (hr.room.mono (by decide)) rfl (pd_v 0)) (pds_cons (pd_mkK c.k_InvalidDeed (hI.i_InvalidDeed) (cl_InvalidDeed K) (hr.room.mono (by decide)) rfl (pd_v 0)) (pds_cons (pd_mkK c.k_InvalidTree (hI.i_InvalidTree) (cl_InvalidTree K) (hr.room.mono (by decide)) rfl (pd_v 0)) (pds_cons (pd_mkK c.k_InvalidName (hI.i_InvalidName) (cl_InvalidName K) (hr.room.mono (by decide)) rfl (pd_v 0)) (pds_cons (pd_mkK c.k_InvalidText (hI.i_InvalidText) (cl_InvalidText K) (hr.room.mono (by decide)) rfl (pd_v 0)) (pds_cons (pd_mkK c.k_InvalidLine (hI.i_InvalidLine) (cl_InvalidLine K) (hr.room.mono (by decide)) rfl (pd_v 0)) pds_nil)))))))))
    (psd_cons (psd_set 1 S.nd (pd_bin (oadd rfl) (pd_v 1) (pd_lst (pds_cons (pd_mkK c.k_DoesNotFit (hI.i_DoesNotFit) (cl_DoesNotFit K) (hr.room.mono (by decide)) rfl (pd_v 0)) (pds_cons (pd_mkK c.k_InvalidSayings (hI.i_InvalidSayings) (cl_InvalidSayings K) (hr.room.mono (by decide)) rfl (pd_v 0)) (pds_cons (pd_mkK c.k_InvalidSoil (hI.i_InvalidSoil) (cl_InvalidSoil K) (hr.room.mono (by decide)) rfl (pd_v 0)) (pds_cons (pd_mkK c.k_InvalidPins (hI.i_InvalidPins) (cl_InvalidPins K) (hr.room.mono (by decide)) rfl (pd_v 0)) (pds_cons (pd_mkK c.k_InvalidDeeds (hI.i_InvalidDeeds) (cl_InvalidDeeds K) (hr.room.mono (by decide)) rfl (pd_v 0)) (pds_cons (pd_mkK c.k_InvalidLines (hI.i_InvalidLines) (cl_InvalidLines K) (hr.room.mono (by decide)) rfl (pd_v 0)) pds_nil)))))))))
    (psd_one (psd_ret (pd_v 1))))))))
end
section
variable {P : Program} {w : World} {K : PySem.W.Frag} {mg : Str → Option Value} {base : Heap}
theorem ok__law_classes (c : Fx K mg) (hI : Ini P w K mg base) : Has P w K mg base "_law_classes" (He.ga K "_law_classes") 1 ["e"] (spD (zn K) .u F__law_classes) := by
  obtain ⟨fd, F⟩ := c.d__law_classes
  have S := sc__law_classes
  refine ⟨fd, FnG.mirU (Z := zn K) (k := 0) (n := 1) (m := 1) (B := b__law_classes) F S rfl rfl (fun cdv A outer s G H E hr tk => ?_), F.bindsN fun _ _ _ _ _ _ us hl => match us, hl with | [_], _ => rfl, F.kp, c.g__law_classes⟩
  exact (psd_cons (psd_set 1 S.nd (pd_lst pds_nil))
    (psd_cons (psd_set 1 S.nd (pd_bin (oadd rfl) (pd_v 1) (pd_lst (pds_cons (pd_isi c.tab (c.isi "InvalidForest" (by decide +kernel)) (ClsV.own _) rfl c.f_isinstance (pd_v 0) (pe_glob rfl c.g_InvalidForest rfl)) (pds_cons (pd_isi c.tab (c.isi "InvalidPlace" (by decide +kernel)) (ClsV.own _) rfl c.f_isinstance (pd_v 0) (pe_glob rfl c.g_InvalidPlace rfl)) (pds_cons (pd_isi c.tab (c.isi "InvalidMark" (by decide +kernel)) (ClsV.own _) rfl c.f_isinstance (pd_v 0) (pe_glob rfl c.g_InvalidMark rfl)) (pds_cons (pd_isi c.tab (c.isi "InvalidDye" (by decide +kernel)) (ClsV.own _) rfl c.f_isinstance (pd_v 0) (pe_glob rfl c.g_InvalidDye rfl)) (pds_cons (pd_isi c.tab (c.isi "InvalidDyeing" (by decide +kernel)) (ClsV.own _) rfl c.f_isinstance (pd_v 0) (pe_glob rfl c.g_InvalidDyeing rfl)) (pds_cons (pd_isi c.tab (c.isi "InvalidSaying" (by decide +kernel)) (ClsV.own _) rfl c.f_isinstance (pd_v 0) (pe_glob rfl c.g_InvalidSaying rfl)) pds_nil)))))))))
    (psd_cons (psd_set 1 S.nd (pd_bin (oadd rfl) (pd_v 1) (pd_lst (pds_cons (pd_isi c.tab (c.isi "InvalidWish" (by decide +kernel)) (ClsV.own _) rfl c.f_isinstance (pd_v 0) (pe_glob rfl c.g_InvalidWish rfl)) (pds_cons (pd_isi c.tab (c.isi "InvalidPrices" (by decide +kernel)) (ClsV.own _) rfl c.f_isinstance (pd_v 0) (pe_glob rfl c.g_InvalidPrices rfl)) (pds_cons (pd_isi c.tab (c.isi "InvalidKind" (by decide +kernel)) (ClsV.own _) rfl c.f_isinstance (pd_v 0) (pe_glob rfl c.g_InvalidKind rfl)) (pds_cons (pd_isi c.tab (c.isi "InvalidLot" (by decide +kernel)) (ClsV.own _) rfl c.f_isinstance (pd_v 0) (pe_glob rfl c.g_InvalidLot rfl)) (pds_cons (pd_isi c.tab (c.isi "InvalidChart" (by decide +kernel)) (ClsV.own _) rfl c.f_isinstance (pd_v 0) (pe_glob rfl c.g_InvalidChart rfl)) (pds_cons (pd_isi c.tab (c.isi "InvalidNumber" (by decide +kernel)) (ClsV.own _) rfl c.f_isinstance (pd_v 0) (pe_glob rfl c.g_InvalidNumber rfl)) pds_nil)))))))))
    (psd_cons (psd_set 1 S.nd (pd_bin (oadd rfl) (pd_v 1) (pd_lst (pds_cons (pd_isi c.tab (c.isi "InvalidPages" (by decide +kernel)) (ClsV.own _) rfl c.f_isinstance (pd_v 0) (pe_glob rfl c.g_InvalidPages rfl)) (pds_cons (pd_isi c.tab (c.isi "InvalidDeed" (by decide +kernel)) (ClsV.own _) rfl c.f_isinstance (pd_v 0) (pe_glob rfl c.g_InvalidDeed rfl)) (pds_cons (pd_isi c.tab (c.isi "InvalidTree" (by decide +kernel)) (ClsV.own _) rfl c.f_isinstance (pd_v 0) (pe_glob rfl c.g_InvalidTree rfl)) (pds_cons (pd_isi c.tab (c.isi "InvalidName" (by decide +kernel)) (ClsV.own _) rfl c.f_isinstance (pd_v 0) (pe_glob rfl c.g_InvalidName rfl)) (pds_cons (pd_isi c.tab (c.isi "InvalidText" (by decide +kernel)) (ClsV.own _) rfl c.f_isinstance (pd_v 0) (pe_glob rfl c.g_InvalidText rfl)) (pds_cons (pd_isi c.tab (c.isi "InvalidLine" (by decide +kernel)) (ClsV.own _) rfl c.f_isinstance (pd_v 0) (pe_glob rfl c.g_InvalidLine rfl)) pds_nil)))))))))
    (psd_cons (psd_set 1 S.nd (pd_bin (oadd rfl) (pd_v 1) (pd_lst (pds_cons (pd_isi c.tab (c.isi "DoesNotFit" (by decide +kernel)) (ClsV.own _) rfl c.f_isinstance (pd_v 0) (pe_glob rfl c.g_DoesNotFit rfl)) (pds_cons (pd_isi c.tab (c.isi "InvalidSayings" (by decide +kernel)) (ClsV.own _) rfl c.f_isinstance (pd_v 0) (pe_glob rfl c.g_InvalidSayings rfl)) (pds_cons (pd_isi c.tab (c.isi "InvalidSoil" (by decide +kernel)) (ClsV.own _) rfl c.f_isinstance (pd_v 0) (pe_glob rfl c.g_InvalidSoil rfl)) (pds_cons (pd_isi c.tab (c.isi "InvalidPins" (by decide +kernel)) (ClsV.own _) rfl c.f_isinstance (pd_v 0) (pe_glob rfl c.g_InvalidPins rfl)) (pds_cons (pd_isi c.tab (c.isi "InvalidDeeds" (by decide +kernel)) (ClsV.own _) rfl c.f_isinstance (pd_v 0) (pe_glob rfl c.g_InvalidDeeds rfl)) (pds_cons (pd_isi c.tab (c.isi "InvalidLines" (by decide +kernel)) (ClsV.own _) rfl c.f_isinstance (pd_v 0) (pe_glob rfl c.g_InvalidLines rfl)) pds_nil)))))))))
    (psd_one (psd_ret (pd_v 1))))))))
end
section
variable {P : Program} {w : World} {K : PySem.W.Frag} {mg : Str → Option Value} {base : Heap}
theorem ok__law_raised (c : Fx K mg) (hI : Ini P w K mg base) : Has P w K mg base "_law_raised" (He.ga K "_law_raised") 3 ["which", "thing"] (spD (zn K) .u F__law_raised) := by
  obtain ⟨fd, F⟩ := c.d__law_raised
  have S := sc__law_raised
  refine ⟨fd, FnG.mirU (Z := zn K) (k := 2) (n := 2) (m := 1) (B := b__law_raised) F S rfl rfl (fun cdv A outer s G H E hr tk => ?_), F.bindsN fun _ _ _ _ _ _ us hl => match us, hl with | [_, _], _ => rfl, F.kp, c.g__law_raised⟩
  exact (psd_one (psd_try rfl rfl S.nd tk (fun W pn xe tk hp => (psd_cons (psd_if (pb_cm (oeq rfl (by exact hr.hu2)) (pd_v 0) pd_int) (psd_one (psd_raise rfl tk c.k_InvalidDyeing hI.i_InvalidDyeing (cl_InvalidDyeing K) (hr.room.mono (by decide)) rfl (pd_v 1))) psd_nil)
    (psd_cons (psd_if (pb_cm (oeq rfl (by exact hr.hu2)) (pd_v 0) pd_int) (psd_one (psd_raiseK rfl tk c.k_InvalidPins hI.i_InvalidPins (cl_InvalidPins K) (hr.room.mono (by decide)) rfl (pd_v 1))) psd_nil)
    (psd_cons (psd_if (pb_cm (oeq rfl (by exact hr.hu2)) (pd_v 0) pd_int) (psd_one (psd_raiseK rfl tk c.k_InvalidDye hI.i_InvalidDye (cl_InvalidDye K) (hr.room.mono (by decide)) rfl (pd_v 1))) psd_nil)
    (psd_cons (psd_if (pb_cm (oeq rfl (by exact hr.hu2)) (pd_v 0) pd_int) (psd_one (psd_raise rfl tk c.k_InvalidSoil hI.i_InvalidSoil (cl_InvalidSoil K) (hr.room.mono (by decide)) rfl (pd_v 1))) psd_nil)
    (psd_one (psd_raise rfl tk c.k_InvalidLot hI.i_InvalidLot (cl_InvalidLot K) (hr.room.mono (by decide)) rfl (pd_v 1)))))))) (MixD.bare ⟨rfl, by decide, Or.inl c.g_InvalidSaying⟩ (c.exm "InvalidSaying" (by decide +kernel)) (fun a oe cls d pn hz hf => (psd_one (psd_ret (pd_lst pds_nil)))) (MixD.named ⟨rfl, by decide, Or.inl c.g_InvalidDyeing⟩ rfl rfl (c.exm "InvalidDyeing" (by decide +kernel)) (fun a oe cls d pn hz hf => (psd_one (psd_ret (pd_if (pb_cm (oeq rfl (by exact hr.hu2)) (pd_v 0) pd_int) (pd_lst (pds_cons (pd_xat 2 c.tab hz hf) pds_nil)) (pd_lst pds_nil))))) (MixD.bare ⟨rfl, by decide, Or.inl c.g_InvalidSayings⟩ (c.exm "InvalidSayings" (by decide +kernel)) (fun a oe cls d pn hz hf => (psd_one (psd_ret (pd_lst pds_nil)))) (MixD.named ⟨rfl, by decide, Or.inl c.g_InvalidDye⟩ rfl rfl (c.exm "InvalidDye" (by decide +kernel)) (fun a oe cls d pn hz hf => (psd_one (psd_ret (pd_if (pb_cm (oeq rfl (by exact hr.hu2)) (pd_v 0) pd_int) (pd_lst (pds_cons (pd_xat 2 c.tab hz hf) pds_nil)) (pd_lst pds_nil))))) (MixD.named ⟨rfl, by decide, Or.inl c.g_InvalidLot⟩ rfl rfl (c.exm "InvalidLot" (by decide +kernel)) (fun a oe cls d pn hz hf => (psd_one (psd_ret (pd_if (pb_cm (oeq rfl (by exact hr.hu2)) (pd_v 0) pd_int) (pd_lst (pds_cons (pd_xat 2 c.tab hz hf) pds_nil)) (pd_lst pds_nil))))) (MixD.named ⟨rfl, by decide, Or.inl c.g_DyeError⟩ rfl rfl (c.exm "DyeError" (by decide +kernel)) (fun a oe cls d pn hz hf => (psd_one (psd_ret (pd_if (pb_cm (oin rfl (by exact hr.hu2)) (pd_v 0) (pd_tup (pds_cons pd_int (pds_cons pd_int pds_nil)))) (pd_lst (pds_cons (pd_xat 2 c.tab hz hf) pds_nil)) (pd_lst pds_nil))))) MixD.nil))))))))
end
section
variable {P : Program} {w : World} {K : PySem.W.Frag} {mg : Str → Option Value} {base : Heap}
theorem ok__law_holds_all (c : Fx K mg) (hI : Ini P w K mg base) (h__law_thing : Has P w K mg base "_law_thing" (He.ga K "_law_thing") 5 ["press", "deep"] (spF (zn K) Press F__law_thing)) (h__law_by_name : Has P w K mg base "_law_by_name" (He.ga K "_law_by_name") 3 ["thing"] (spD (zn K) .u F__law_by_name)) (h__law_by_place : Has P w K mg base "_law_by_place" (He.ga K "_law_by_place") 3 ["thing"] (spD (zn K) .u F__law_by_place)) (h__law_classes : Has P w K mg base "_law_classes" (He.ga K "_law_classes") 1 ["e"] (spD (zn K) .u F__law_classes)) (h__law_even : Has P w K mg base "_law_even" (He.ga K "_law_even") 1 ["told", "due"] (spD (zn K) .u F__law_even)) (h__law_raised : Has P w K mg base "_law_raised" (He.ga K "_law_raised") 3 ["which", "thing"] (spD (zn K) .u F__law_raised)) : Has P w K mg base "_law_holds_all" (He.ga K "_law_holds_all") 6 ["press"] (spF (zn K) Press F__law_holds_all) := by
  obtain ⟨fd, F⟩ := c.d__law_holds_all
  have S := sc__law_holds_all
  refine ⟨fd, FnG.up (k := 6) (j := 6) (FnG.mir (Z := zn K) (TH := Press) (k := 5) (n := 1) (m := 7) (B := b__law_holds_all) F S rfl rfl (fun p cdv A outer s G H E hr tk => ?_)) (by decide), F.bindsN fun _ _ _ _ _ _ us hl => match us, hl with | [_], _ => rfl, F.kp, c.g__law_holds_all⟩
  exact (psd_cons (psd_for (vs := [1]) (passes_of rfl) rfl (pdi_rng1 rfl c.f_range (pds_cons pd_int pds_nil)) (pg_name (i := 1) S.nd rfl (by first | exact Or.inl rfl | exact Or.inr rfl)) (tg_name (by decide)) (psd_cons (psd_set 2 S.nd (pd_fnF p h__law_thing (hr.mono (by decide)) rfl tk (pds_cons (pd_v 0) (pds_cons pd_int pds_nil))))
    (psd_cons (psd_for (vs := [3]) (passes_of rfl) rfl (pdi_val rfl (pd_tup (pds_cons (pd_fnU h__law_by_place (hr.mono (by decide)) rfl tk (pds_cons (pd_v 2) pds_nil)) (pds_cons (pd_fnU h__law_by_name (hr.mono (by decide)) rfl tk (pds_cons (pd_v 2) pds_nil)) pds_nil)))) (pg_name (i := 3) S.nd rfl (by first | exact Or.inl rfl | exact Or.inr rfl)) (tg_name (by decide)) (psd_one (psd_for (vs := [4, 5]) (passes_of rfl) rfl (pdi_enu rfl rfl c.f_enumerate (pds_cons (pd_v 3) pds_nil)) (pg_tup rfl (pgs_cons (pg_name (i := 4) S.nd rfl (by first | exact Or.inl rfl | exact Or.inr rfl)) (pgs_cons (pg_name (i := 5) S.nd rfl (by first | exact Or.inl rfl | exact Or.inr rfl)) pgs_nil))) (tg_tup rfl (tgs_cons (tg_name (by decide)) (tgs_cons (tg_name (by decide)) tgs_nil))) (psd_cons (psd_if (pb_w (pw_o (pb_cm (one rfl (by exact hr.hu2)) (pd_fnU h__law_classes (hr.mono (by decide)) rfl tk (pds_cons (pd_v 5) pds_nil)) (pd_lc (own := [("at", 6)]) rfl S.nd (pdi_rng1 rfl c.f_range (pds_cons pd_int pds_nil)) (blkOk_by (own := [("at", 6)]) (N := N__law_holds_all) (sc := defScope s__law_holds_all) (by decide +kernel)) (fun _ _ _ _ _ => (pg_name (i := 6) S.nd rfl (by first | exact Or.inl rfl | exact Or.inr rfl))) (tg_name (by decide)) (fun _ _ _ _ _ => pts_yes) (fun _ _ _ _ _ => (pd_cm (oeq rfl (by exact hr.hu2)) (pd_v 6) (pd_v 4))))) (pw_o (pb_not (pb_val (pd_isi c.tab (c.isi "DyeError" (by decide +kernel)) (ClsV.own _) rfl c.f_isinstance (pd_v 5) (pe_glob rfl c.g_DyeError rfl)))) (pw_o1 (pb_not (pb_val (pd_isi c.tab (c.isb "ValueError" (by decide +kernel)) (ClsV.ty _) rfl c.f_isinstance (pd_v 5) (pe_bltn rfl c.f_ValueError (by decide +kernel) rfl)))))))) (psd_one (psd_ret pd_bl)) psd_nil)
    (psd_cons (psd_if (pb_w (pw_o (pb_val (pd_isi c.tab (c.isb "LookupError" (by decide +kernel)) (ClsV.ty _) rfl c.f_isinstance (pd_v 5) (pe_bltn rfl c.f_LookupError (by decide +kernel) rfl))) (pw_o (pb_val (pd_isi c.tab (c.isb "ArithmeticError" (by decide +kernel)) (ClsV.ty _) rfl c.f_isinstance (pd_v 5) (pe_bltn rfl c.f_ArithmeticError (by decide +kernel) rfl))) (pw_o (pb_val (pd_isi c.tab (c.isb "TypeError" (by decide +kernel)) (ClsV.ty _) rfl c.f_isinstance (pd_v 5) (pe_bltn rfl c.f_TypeError (by decide +kernel) rfl))) (pw_o1 (pb_val (pd_isi c.tab (c.isb "RuntimeError" (by decide +kernel)) (ClsV.ty _) rfl c.f_isinstance (pd_v 5) (pe_bltn rfl c.f_RuntimeError (by decide +kernel) rfl)))))))) (psd_one (psd_ret pd_bl)) psd_nil)
    (psd_one (psd_if (pb_not (pb_val (pd_fnU h__law_even (hr.mono (by decide)) rfl tk (pds_cons (pd_if (pb_cm (olt) (pd_v 4) pd_int) (pd_at c.tab (pd_v 5)) (pd_at c.tab (pd_v 5))) (pds_cons (pd_v 2) pds_nil))))) (psd_one (psd_ret pd_bl)) psd_nil)))))))
    (psd_one (psd_if (pb_not (pb_val (pd_callB (DW.call rfl) rfl c.f_all (by decide +kernel) (pds_cons (pd_lc (own := [("which", 7)]) rfl S.nd (pdi_rng1 rfl c.f_range (pds_cons pd_int pds_nil)) (blkOk_by (own := [("which", 7)]) (N := N__law_holds_all) (sc := defScope s__law_holds_all) (by decide +kernel)) (fun _ _ _ _ _ => (pg_name (i := 7) S.nd rfl (by first | exact Or.inl rfl | exact Or.inr rfl))) (tg_name (by decide)) (fun _ _ _ _ _ => pts_yes) (fun _ _ _ _ _ => (pd_fnU h__law_even (hr.mono (by decide)) rfl takes0 (pds_cons (pd_fnU h__law_raised (hr.mono (by decide)) rfl takes0 (pds_cons (pd_v 7) (pds_cons (pd_v 2) pds_nil))) (pds_cons (pd_lst (pds_cons (pd_v 2) pds_nil)) pds_nil))))) pds_nil)))) (psd_one (psd_ret pd_bl)) psd_nil)))))
    (psd_one (psd_ret pd_bl)))
end
section
variable {P : Program} {w : World} {K : PySem.W.Frag} {mg : Str → Option Value} {base : Heap}
theorem okg_law {fd : FuncData} (F : FunD K "law" "law" (defArgs s_law) (defBody s_law) (defScope s_law) [] [] (He.ga K "law") fd) (c : Fx K mg) (hI : Ini P w K mg base) (h__law_holds_all : Has P w K mg base "_law_holds_all" (He.ga K "_law_holds_all") 6 ["press"] (spF (zn K) Press F__law_holds_all)) (h__law_press : Has P w K mg base "_law_press" (He.ga K "_law_press") 1 ["script", "lap"] (spNew (zn K))) (good__law_holds_all : ∀ a t, PrOk t → ∃ t', F__law_holds_all a [.ob (.ref a)] t = .ok (.bl true) t') : FnG P w K mg base 7 (He.ga K "law") fd ["script"] (spD (zn K) .u F_law) := by
  have S := sc_law
  refine FnG.mirU (Z := zn K) (k := 6) (n := 1) (m := 1) (B := b_law) F S rfl rfl (fun cdv A outer s G H E hr tk => ?_)
  exact (psd_one (psd_ret (pd_callB (DW.call rfl) rfl c.f_all (by decide +kernel) (pds_cons (pd_lc (own := [("lap", 1)]) rfl S.nd (pdi_val rfl (pd_tup (pds_cons pd_int (pds_cons pd_int pds_nil)))) (blkOk_by (own := [("lap", 1)]) (N := N_law) (sc := defScope s_law) (by decide +kernel)) (fun _ _ _ _ _ => (pg_name (i := 1) S.nd rfl (by first | exact Or.inl rfl | exact Or.inr rfl))) (tg_name (by decide)) (fun _ _ _ _ _ => pts_yes) (fun _ _ _ _ _ => (pd_run h__law_holds_all h__law_press good__law_holds_all (hr.mono (by decide)) (hr.mono (by decide)) rfl rfl takes0 (pds_cons (pd_v 0) (pds_cons (pd_v 1) pds_nil))))) pds_nil))))
end
end K1
set_option Elab.async false
set_option linter.all false
set_option maxRecDepth 100000
set_option maxHeartbeats 4000000
/-! K1D: plain mathematics over the mirrors: the press. -/
namespace K1
open PySem PySem.Spec PyProof.Rows L2 DW
theorem log2_lt {i : Int} {k : Nat} (h0 : 0 ≤ i) (h : i < 2 ^ k) (hk : 0 < k) : i.natAbs.log2 < k := by
  by_cases z : i.natAbs = 0
  · rw [z]; simpa using hk
  · refine (Nat.log2_lt z).mpr ?_
    have e : ((i.natAbs : Nat) : Int) = i := by omega
    have : ((i.natAbs : Nat) : Int) < ((2 ^ k : Nat) : Int) := by rw [e]; push_cast; exact h
    omega
theorem log2_31 {i : Int} (h0 : 0 ≤ i) (h : i < 2 ^ 31) : i.natAbs.log2 < 31 := log2_lt h0 h (by decide)
theorem mul_ok {i j : Int} (h0 : 0 ≤ i) (h : i < 2 ^ 31) (g0 : 0 ≤ j) (g : j < 2 ^ 31) : mulD (.int i) (.int j) = some (.int (i * j)) := by
  have a := log2_31 h0 h
  have b := log2_31 g0 g
  simp only [mulD]
  rw [if_pos (by omega)]
theorem mod_ok {i j : Int} (h : 0 < j) : modD (.int i) (.int j) = some (.int (i % j)) := by
  simp only [modD]; rw [if_pos h]
theorem fdiv_ok {i j : Int} (h : 0 < j) (g : j < 2 ^ 31) : fdivD (.int i) (.int j) = some (.int (i / j)) := by
  have b := log2_31 (i := j) (by omega) g
  simp only [fdivD]
  rw [if_pos ⟨h, by omega⟩]
theorem add_ok {i j : Int} : addD (.int i) (.int j) = some (.int (i + j)) := rfl
theorem sub_ok {i j : Int} : subD (.int i) (.int j) = some (.int (i - j)) := rfl
theorem gt_ok {i j : Int} : gtD (.int i) (.int j) = some (.bl (decide (j < i))) := rfl
theorem lt_ok {i j : Int} : ltD (.int i) (.int j) = some (.bl (decide (i < j))) := rfl
theorem ge_ok {i j : Int} : geD (.int i) (.int j) = some (.bl (decide (j ≤ i))) := rfl
theorem int_ok {i : Int} : DW.intD [.int i] = some (.int i) := rfl
theorem abs_ok {i : Int} : absD [.int i] = some (.int (if i < 0 then -i else i)) := rfl
theorem szL : (2 : Nat) ≤ sizeLine := by rw [sizeLine_eq]; decide
theorem mkL2 {a b : D} : mkL [a, b] = some (.lst [a, b]) := if_pos szL
/-- one turn of the press -/
def outR : PT → Int → Int × PT
  | (own, a, b), m => if own > 0 then (own % m, (own / m, a, b)) else
    (((a * 44021 + 91) % 2147483629 + (b * 37379 + (a * 44021 + 91) % 2147483629 % 8191 + 1) % 2147483563) / 128 % m, (own, (a * 44021 + 91) % 2147483629, (b * 37379 + (a * 44021 + 91) % 2147483629 % 8191 + 1) % 2147483563))
theorem outR_ok (t : PT) (m : Int) (ht : PrOk t) (h0 : 0 < m) : PrOk (outR t m).2 ∧ 0 ≤ (outR t m).1 ∧ (outR t m).1 < m := by
  obtain ⟨own, a, b⟩ := t
  obtain ⟨p1, p2, p3, p4, p5, p6⟩ := ht
  simp only at p1 p2 p3 p4 p5 p6
  simp only [outR]
  by_cases c : own > 0
  · rw [if_pos c]
    exact ⟨⟨Int.ediv_nonneg p1 (by omega), Int.lt_of_le_of_lt (Int.ediv_le_self _ p1) p2, p3, p4, p5, p6⟩, Int.emod_nonneg _ (by omega), Int.emod_lt_of_pos _ h0⟩
  · rw [if_neg c]
    refine ⟨⟨p1, p2, Int.emod_nonneg _ (by decide), Int.lt_trans (Int.emod_lt_of_pos _ (by decide)) (by decide), Int.emod_nonneg _ (by decide), Int.lt_trans (Int.emod_lt_of_pos _ (by decide)) (by decide)⟩, Int.emod_nonneg _ (by omega), Int.emod_lt_of_pos _ h0⟩
theorem out_ok (p : Addr) (t : PT) (m : Int) (ht : PrOk t) (h0 : 0 < m) (h1 : m < 2 ^ 31) : F__law_out p [.ob (.ref p), .int m] t = .ok (.int (outR t m).1) (outR t m).2 := by
  have q := (outR_ok t m ht h0).1
  obtain ⟨own, a, b⟩ := t
  obtain ⟨p1, p2, p3, p4, p5, p6⟩ := ht
  simp only at p1 p2 p3 p4 p5 p6
  simp only [outR] at q ⊢
  rw [show F__law_out p [.ob (.ref p), .int m] (own, a, b) = _ from defF_eq rfl]
  unfold b__law_out
  by_cases c : own > 0
  · rw [if_pos c] at q ⊢
    have c' : (0 : Int) < own := c
    have e1 : prPut (own, a, b) true (.int (own / m)) = some (own / m, a, b) := if_pos q
    simp only [eV_eq, vK_va, eC_eq, opt_s, eO_eq, oK_ok, oK2_ok, eU_eq, uK_ok, eB_eq, bK_ok, aNil_eq, aCons_eq, aK_ok, aK2_ok, eCall_eq, cK_ok, eCallU_eq, cuK_ok, unR_ok, bVal_eq, bvK_ok, bTru_eq, btK_ok, bNot_eq, nK_ok, bAnd_eq, baK_t, baK_f, bOr_eq, boK_t, boK_f, eAnd_eq, eaK_t, eaK_f, eOr_eq, eoK_t, eoK_f, eNot_eq, enK_ok, eIf_eq, eiK_t, eiK_f, kCons_eq, kK_ok, kK2_ok, kK3_ok, kNil_eq, eDct_eq, dK_ok, dct1, eSl_eq, xK_ok, xK2_ok, xK3_ok, oNo_eq, oIn_eq, oiK_ok, eOix_eq, oxK_own, oxK2_ok, sSeq_eq, qK_nx, qK_rt, qK_bk, qK_ct, qK_er, sRet_eq, retK_ok, sSet_eq, setK_ok, sIf_eq, siK_t, siK_f, sNil_eq, sOset_eq, osK_ok, osK2_own, sOwn_eq, sAsg_eq, gK_ok, gK2_s, gN_eq, gsNil_eq, gsCons_eq, gsK_s, endR_rt, endR_nx, loopF_nil, loopF_cons, lK_s, lK2, sFor_eq, fK_ok, iVal_eq, iK_ok, optL_s, iOp_eq, ioK_ok, eLc_eq, lcK_ok, okL_ok, sRaise_eq, zK_ok, sTry_eq, tK_rt, leaveO_rt, sPr_eq, eRun_eq, List.map_cons, List.map_nil, List.replicate_succ, List.replicate_zero, List.cons_append, List.nil_append, List.getElem?_cons_zero, List.getElem?_cons_succ, List.set_cons_zero, List.set_cons_succ, ePr_ok isPr_0, prGet, if_true, gt_ok, c', decide_true, int_ok, mod_ok h0, fdiv_ok h0 h1, sprK_ok isPr_0 e1]
  · rw [if_neg c] at q ⊢
    have c' : ¬ (0 : Int) < own := c
    have z1 := mul_ok (j := 44021) p3 p4 (by decide) (by decide)
    have z2 := mul_ok (j := 37379) p5 p6 (by decide) (by decide)
    have e1 : prPut (own, a, b) false (.lst [.int ((a * 44021 + 91) % 2147483629), .int ((b * 37379 + (a * 44021 + 91) % 2147483629 % 8191 + 1) % 2147483563)]) = some (own, (a * 44021 + 91) % 2147483629, (b * 37379 + (a * 44021 + 91) % 2147483629 % 8191 + 1) % 2147483563) := if_pos q
    have f1 : ∀ i : Int, modD (.int i) (.int 2147483629) = some (.int (i % 2147483629)) := fun i => mod_ok (by decide)
    have f2 : ∀ i : Int, modD (.int i) (.int 2147483563) = some (.int (i % 2147483563)) := fun i => mod_ok (by decide)
    have f3 : ∀ i : Int, modD (.int i) (.int 8191) = some (.int (i % 8191)) := fun i => mod_ok (by decide)
    have f4 : ∀ i : Int, fdivD (.int i) (.int 128) = some (.int (i / 128)) := fun i => fdiv_ok (by decide) (by decide)
    have f5 : ∀ {k : List D → Rho → Option Rho} {ρ : Rho} {x y : D}, gU 2 k (.lst [x, y]) ρ = k [x, y] ρ := fun {k ρ x y} => gU_eq rfl
    simp only [eV_eq, vK_va, eC_eq, opt_s, eO_eq, oK_ok, oK2_ok, eU_eq, uK_ok, eB_eq, bK_ok, aNil_eq, aCons_eq, aK_ok, aK2_ok, eCall_eq, cK_ok, eCallU_eq, cuK_ok, unR_ok, bVal_eq, bvK_ok, bTru_eq, btK_ok, bNot_eq, nK_ok, bAnd_eq, baK_t, baK_f, bOr_eq, boK_t, boK_f, eAnd_eq, eaK_t, eaK_f, eOr_eq, eoK_t, eoK_f, eNot_eq, enK_ok, eIf_eq, eiK_t, eiK_f, kCons_eq, kK_ok, kK2_ok, kK3_ok, kNil_eq, eDct_eq, dK_ok, dct1, eSl_eq, xK_ok, xK2_ok, xK3_ok, oNo_eq, oIn_eq, oiK_ok, eOix_eq, oxK_own, oxK2_ok, sSeq_eq, qK_nx, qK_rt, qK_bk, qK_ct, qK_er, sRet_eq, retK_ok, sSet_eq, setK_ok, sIf_eq, siK_t, siK_f, sNil_eq, sOset_eq, osK_ok, osK2_own, sOwn_eq, sAsg_eq, gK_ok, gK2_s, gN_eq, gsNil_eq, gsCons_eq, gsK_s, endR_rt, endR_nx, loopF_nil, loopF_cons, lK_s, lK2, sFor_eq, fK_ok, iVal_eq, iK_ok, optL_s, iOp_eq, ioK_ok, eLc_eq, lcK_ok, okL_ok, sRaise_eq, zK_ok, sTry_eq, tK_rt, leaveO_rt, sPr_eq, eRun_eq, List.map_cons, List.map_nil, List.replicate_succ, List.replicate_zero, List.cons_append, List.nil_append, List.getElem?_cons_zero, List.getElem?_cons_succ, List.set_cons_zero, List.set_cons_succ, ePr_ok isPr_0, prGet, Bool.false_eq_true, if_false, if_true, gt_ok, c', decide_false, int_ok, mod_ok h0, f1, f2, f3, f4, f5, z1, z2, add_ok, mkL2, sprK_ok isPr_0 e1]
end K1
set_option Elab.async false
set_option linter.all false
set_option maxRecDepth 100000
set_option maxHeartbeats 4000000
/-! K1E: the press is made. -/
namespace K1
open PySem PySem.Spec PyProof.Rows L2 DW
theorem ints_at : ∀ {ns : List D} {i : Nat} {d : D}, isInts ns = true → ns[i]? = some d → ∃ k, d = .int k
  | [], _, _, _, e => by simp at e
  | .int k :: r, 0, d, _, e => by simp at e; exact ⟨k, e.symm⟩
  | .int _ :: r, i + 1, d, h, e => ints_at (ns := r) (i := i) h (by simpa using e)
  | .non :: _, _, _, h, _ => by simp [isInts] at h
  | .bl _ :: _, _, _, h, _ => by simp [isInts] at h
  | .str _ :: _, _, _, h, _ => by simp [isInts] at h
  | .tup _ :: _, _, _, h, _ => by simp [isInts] at h
  | .lst _ :: _, _, _, h, _ => by simp [isInts] at h
  | .dct _ :: _, _, _, h, _ => by simp [isInts] at h
  | .fls _ :: _, _, _, h, _ => by simp [isInts] at h
  | .exc _ _ :: _, _, _, h, _ => by simp [isInts] at h
  | .ob _ :: _, _, _, h, _ => by simp [isInts] at h
theorem pow16 : powD (.int 10) (.int 16) = some (.int (10 ^ 16)) := rfl
theorem pow57 : powD (.int 10) (.int 57) = some (.int (10 ^ 57)) := rfl
theorem le_i {i j : Int} : leD (.int i) (.int j) = some (.bl (decide (i ≤ j))) := rfl
theorem at_0 {a b : D} : atI [a, b] 0 = some a := rfl
theorem at_1 {a b : D} : atI [a, b] 1 = some b := rfl
def PrJ (ns : List D) (lap o : Int) (ρ : Rho) (_ : Unit) : Prop := ∃ (s4 s5 s6 : Sl) (a b : Int), ρ = [.va (.fls ns), .va (.int lap), .va (.int o), .own [.int a, .int b], s4, s5, s6] ∧ 0 ≤ a ∧ a < 2 ^ 31 ∧ 0 ≤ b ∧ b < 2 ^ 31
theorem good_press : ∀ ds, runOk ds = true → ∃ ρ o a b, b__law_press (ds.map .va ++ List.replicate 5 .un) () = .nx ρ () ∧ ρ[3]? = some (.own [.int a, .int b]) ∧ fo__law_press ρ () = .ok (.int o) () ∧ PrOk (o, a, b) := by
  intro ds h
  unfold runOk at h
  split at h
  · rename_i ns lap
    simp only [Bool.and_eq_true, decide_eq_true_eq, Bool.or_eq_true] at h
    obtain ⟨hi, hl, hlap⟩ := h
    have l0 : 0 ≤ lap := by omega
    have l1 : lap ≤ 1 := by omega
    -- own
    have e1 : ∃ o : Int, (eIf (bVal (eO ltD (eV 1) (eB lenD (aCons (eV 0) aNil)))) (eB DW.intD (aCons (eO ixD (eV 0) (eV 1)) aNil)) (eO addD (eC (.int 2352)) (eO mulD (eC (.int 29)) (eV 1))) : M Unit D) [.va (.fls ns), .va (.int lap), .un, .un, .un, .un, .un] () = .ok (.int o) () := by
      have len : lenD [.fls ns] = some (.int ns.length) := rfl
      by_cases c : lap < (ns.length : Int)
      · have hx : lap.toNat < ns.length := by omega
        obtain ⟨k, ek⟩ := ints_at hi (List.getElem?_eq_getElem hx)
        have ix : ixD (.fls ns) (.int lap) = some (.int k) := by
          show atI ns lap = _
          have e : lap = ((lap.toNat : Nat) : Int) := by omega
          rw [e]
          exact atI_nat (by rw [List.getElem?_eq_getElem hx, ek])
        exact ⟨k, by simp only [eV_eq, vK_va, eC_eq, opt_s, eO_eq, oK_ok, oK2_ok, eU_eq, uK_ok, eB_eq, bK_ok, aNil_eq, aCons_eq, aK_ok, aK2_ok, eCall_eq, cK_ok, eCallU_eq, cuK_ok, unR_ok, bVal_eq, bvK_ok, bTru_eq, btK_ok, bNot_eq, nK_ok, bAnd_eq, baK_t, baK_f, bOr_eq, boK_t, boK_f, eAnd_eq, eaK_t, eaK_f, eOr_eq, eoK_t, eoK_f, eNot_eq, enK_ok, eIf_eq, eiK_t, eiK_f, kCons_eq, kK_ok, kK2_ok, kK3_ok, kNil_eq, eDct_eq, dK_ok, dct1, eSl_eq, xK_ok, xK2_ok, xK3_ok, oNo_eq, oIn_eq, oiK_ok, eOix_eq, oxK_own, oxK2_ok, sSeq_eq, qK_nx, qK_rt, qK_bk, qK_ct, qK_er, sRet_eq, retK_ok, sSet_eq, setK_ok, sIf_eq, siK_t, siK_f, sNil_eq, sOset_eq, osK_ok, osK2_own, sOwn_eq, sAsg_eq, gK_ok, gK2_s, gN_eq, gsNil_eq, gsCons_eq, gsK_s, endR_rt, endR_nx, loopF_nil, loopF_cons, lK_s, lK2, sFor_eq, fK_ok, iVal_eq, iK_ok, optL_s, iOp_eq, ioK_ok, eLc_eq, lcK_ok, okL_ok, sRaise_eq, zK_ok, sTry_eq, tK_rt, leaveO_rt, sPr_eq, eRun_eq, List.map_cons, List.map_nil, List.replicate_succ, List.replicate_zero, List.cons_append, List.nil_append, List.getElem?_cons_zero, List.getElem?_cons_succ, List.set_cons_zero, List.set_cons_succ, lt_ok, len, c, decide_true, ix, int_ok]⟩
      · have m1 : mulD (.int 29) (.int lap) = some (.int (29 * lap)) := mul_ok (by decide) (by decide) l0 (by omega)
        exact ⟨2352 + 29 * lap, by simp only [eV_eq, vK_va, eC_eq, opt_s, eO_eq, oK_ok, oK2_ok, eU_eq, uK_ok, eB_eq, bK_ok, aNil_eq, aCons_eq, aK_ok, aK2_ok, eCall_eq, cK_ok, eCallU_eq, cuK_ok, unR_ok, bVal_eq, bvK_ok, bTru_eq, btK_ok, bNot_eq, nK_ok, bAnd_eq, baK_t, baK_f, bOr_eq, boK_t, boK_f, eAnd_eq, eaK_t, eaK_f, eOr_eq, eoK_t, eoK_f, eNot_eq, enK_ok, eIf_eq, eiK_t, eiK_f, kCons_eq, kK_ok, kK2_ok, kK3_ok, kNil_eq, eDct_eq, dK_ok, dct1, eSl_eq, xK_ok, xK2_ok, xK3_ok, oNo_eq, oIn_eq, oiK_ok, eOix_eq, oxK_own, oxK2_ok, sSeq_eq, qK_nx, qK_rt, qK_bk, qK_ct, qK_er, sRet_eq, retK_ok, sSet_eq, setK_ok, sIf_eq, siK_t, siK_f, sNil_eq, sOset_eq, osK_ok, osK2_own, sOwn_eq, sAsg_eq, gK_ok, gK2_s, gN_eq, gsNil_eq, gsCons_eq, gsK_s, endR_rt, endR_nx, loopF_nil, loopF_cons, lK_s, lK2, sFor_eq, fK_ok, iVal_eq, iK_ok, optL_s, iOp_eq, ioK_ok, eLc_eq, lcK_ok, okL_ok, sRaise_eq, zK_ok, sTry_eq, tK_rt, leaveO_rt, sPr_eq, eRun_eq, List.map_cons, List.map_nil, List.replicate_succ, List.replicate_zero, List.cons_append, List.nil_append, List.getElem?_cons_zero, List.getElem?_cons_succ, List.set_cons_zero, List.set_cons_succ, lt_ok, len, c, decide_false, m1, add_ok]⟩
    obtain ⟨o, e1⟩ := e1
    -- the walked list
    have hcut : (DW.cutD ns none (some 8)).length ≤ 63 := by
      unfold DW.cutD
      rw [List.length_take, List.length_drop]; omega
    have hcutI : ∀ d ∈ DW.cutD ns none (some 8), ∃ k, d = .int k := fun d m => by
      unfold DW.cutD at m
      obtain ⟨i, hi2, e⟩ := List.mem_iff_getElem.mp (List.mem_of_mem_drop (List.mem_of_mem_take m))
      exact ints_at hi (i := i) (by rw [List.getElem?_eq_getElem hi2, e])
    have sl : slD (.fls ns) none (some 8) = some (.lst (DW.cutD ns none (some 8))) := rfl
    have li : listD [.lst (DW.cutD ns none (some 8))] = some (.lst (DW.cutD ns none (some 8))) := rfl
    have ad : addD (.lst (DW.cutD ns none (some 8))) (.lst [.int o, .int 7]) = some (.lst (DW.cutD ns none (some 8) ++ [.int o, .int 7])) := if_pos (by
      have : sizeLine = 16777216 := sizeLine_eq
      show _ + 2 ≤ _
      omega)
    have en : enums [.lst (DW.cutD ns none (some 8) ++ [.int o, .int 7])] = some (enumD (DW.cutD ns none (some 8) ++ [.int o, .int 7])) := rfl
    -- the loop
    have lp := loop_inv (T := Unit) (gm := gT 2 (gsCons (gN 4) (gsCons (gN 5) gsNil))) (b := sSeq (sSet 6 (eO modD (eB DW.intD (aCons (eV 4) aNil)) (eC (.int 2)))) (sOset 3 (eV 6) (eO modD (eB DW.intD (aCons (eO addD (eO addD (eO mulD (eOix 3 (eV 6)) (eC (.int 44021))) (eOix 3 (eO subD (eC (.int 1)) (eV 6)))) (eO modD (eB DW.intD (aCons (eV 5) aNil)) (eC (.int 1000151)))) aNil)) (eC (.int 2147483629)))))
      (PrJ ns lap o) (enumD (DW.cutD ns none (some 8) ++ [.int o, .int 7])) [.va (.fls ns), .va (.int lap), .va (.int o), .own [.int (70021 + lap), .int (74028 - lap)], .un, .un, .un] () ⟨_, _, _, _, _, rfl, by omega, by omega, by omega, by omega⟩ (by
      intro d hd ρ t ⟨s4, s5, s6, a, b, eρ, a0, a1, b0, b1⟩
      subst eρ
      obtain ⟨⟨x, k⟩, hm, rfl⟩ := List.mem_map.mp hd
      have hx := List.mem_zipIdx hm
      have xin : ∃ y, x = .int y := by
        have hx2 : x ∈ DW.cutD ns none (some 8) ++ [.int o, .int 7] := by
          obtain ⟨_, _, e⟩ := hx
          rw [e]; exact List.getElem_mem _
        rcases List.mem_append.mp hx2 with q | q
        · exact hcutI x q
        · simp only [List.mem_cons, List.not_mem_nil, or_false] at q
          rcases q with q | q <;> exact ⟨_, q⟩
      obtain ⟨y, rfl⟩ := xin
      have md : modD (.int (k : Int)) (.int 2) = some (.int ((k : Int) % 2)) := mod_ok (by decide)
      have m2 : modD (.int y) (.int 1000151) = some (.int (y % 1000151)) := mod_ok (by decide)
      have m3 : ∀ i : Int, modD (.int i) (.int 2147483629) = some (.int (i % 2147483629)) := fun i => mod_ok (by decide)
      have ma := mul_ok (j := 44021) a0 a1 (by decide) (by decide)
      have mb := mul_ok (j := 44021) b0 b1 (by decide) (by decide)
      have two : (k : Int) % 2 = 0 ∨ (k : Int) % 2 = 1 := by omega
      rcases two with c | c
      · have v0 : 0 ≤ (a * 44021 + b + y % 1000151) % 2147483629 := Int.emod_nonneg _ (by decide)
        have v1 : (a * 44021 + b + y % 1000151) % 2147483629 < 2 ^ 31 := Int.lt_trans (Int.emod_lt_of_pos _ (by decide)) (by decide)
        have i0 : ixN ([D.int a, D.int b] : List D).length 0 = some 0 := rfl
        refine ⟨_, [.va (.fls ns), .va (.int lap), .va (.int o), .own [.int ((a * 44021 + b + y % 1000151) % 2147483629), .int b], .va (.int (k : Int)), .va (.int y), .va (.int 0)], (), gT_eq rfl, .inl ?_, _, _, _, _, _, rfl, v0, v1, b0, b1⟩
        simp only [eV_eq, vK_va, eC_eq, opt_s, eO_eq, oK_ok, oK2_ok, eU_eq, uK_ok, eB_eq, bK_ok, aNil_eq, aCons_eq, aK_ok, aK2_ok, eCall_eq, cK_ok, eCallU_eq, cuK_ok, unR_ok, bVal_eq, bvK_ok, bTru_eq, btK_ok, bNot_eq, nK_ok, bAnd_eq, baK_t, baK_f, bOr_eq, boK_t, boK_f, eAnd_eq, eaK_t, eaK_f, eOr_eq, eoK_t, eoK_f, eNot_eq, enK_ok, eIf_eq, eiK_t, eiK_f, kCons_eq, kK_ok, kK2_ok, kK3_ok, kNil_eq, eDct_eq, dK_ok, dct1, eSl_eq, xK_ok, xK2_ok, xK3_ok, oNo_eq, oIn_eq, oiK_ok, eOix_eq, oxK_own, oxK2_ok, sSeq_eq, qK_nx, qK_rt, qK_bk, qK_ct, qK_er, sRet_eq, retK_ok, sSet_eq, setK_ok, sIf_eq, siK_t, siK_f, sNil_eq, sOset_eq, osK_ok, osK2_own, sOwn_eq, sAsg_eq, gK_ok, gK2_s, gN_eq, gsNil_eq, gsCons_eq, gsK_s, endR_rt, endR_nx, loopF_nil, loopF_cons, lK_s, lK2, sFor_eq, fK_ok, iVal_eq, iK_ok, optL_s, iOp_eq, ioK_ok, eLc_eq, lcK_ok, okL_ok, sRaise_eq, zK_ok, sTry_eq, tK_rt, leaveO_rt, sPr_eq, eRun_eq, List.map_cons, List.map_nil, List.replicate_succ, List.replicate_zero, List.cons_append, List.nil_append, List.getElem?_cons_zero, List.getElem?_cons_succ, List.set_cons_zero, List.set_cons_succ, int_ok, md, c, sub_ok, Int.sub_zero, at_0, at_1, ma, add_ok, m2, m3, osK3_ok i0]
      · have v0 : 0 ≤ (b * 44021 + a + y % 1000151) % 2147483629 := Int.emod_nonneg _ (by decide)
        have v1 : (b * 44021 + a + y % 1000151) % 2147483629 < 2 ^ 31 := Int.lt_trans (Int.emod_lt_of_pos _ (by decide)) (by decide)
        have i1 : ixN ([D.int a, D.int b] : List D).length 1 = some 1 := rfl
        refine ⟨_, [.va (.fls ns), .va (.int lap), .va (.int o), .own [.int a, .int ((b * 44021 + a + y % 1000151) % 2147483629)], .va (.int (k : Int)), .va (.int y), .va (.int 1)], (), gT_eq rfl, .inl ?_, _, _, _, _, _, rfl, a0, a1, v0, v1⟩
        simp only [eV_eq, vK_va, eC_eq, opt_s, eO_eq, oK_ok, oK2_ok, eU_eq, uK_ok, eB_eq, bK_ok, aNil_eq, aCons_eq, aK_ok, aK2_ok, eCall_eq, cK_ok, eCallU_eq, cuK_ok, unR_ok, bVal_eq, bvK_ok, bTru_eq, btK_ok, bNot_eq, nK_ok, bAnd_eq, baK_t, baK_f, bOr_eq, boK_t, boK_f, eAnd_eq, eaK_t, eaK_f, eOr_eq, eoK_t, eoK_f, eNot_eq, enK_ok, eIf_eq, eiK_t, eiK_f, kCons_eq, kK_ok, kK2_ok, kK3_ok, kNil_eq, eDct_eq, dK_ok, dct1, eSl_eq, xK_ok, xK2_ok, xK3_ok, oNo_eq, oIn_eq, oiK_ok, eOix_eq, oxK_own, oxK2_ok, sSeq_eq, qK_nx, qK_rt, qK_bk, qK_ct, qK_er, sRet_eq, retK_ok, sSet_eq, setK_ok, sIf_eq, siK_t, siK_f, sNil_eq, sOset_eq, osK_ok, osK2_own, sOwn_eq, sAsg_eq, gK_ok, gK2_s, gN_eq, gsNil_eq, gsCons_eq, gsK_s, endR_rt, endR_nx, loopF_nil, loopF_cons, lK_s, lK2, sFor_eq, fK_ok, iVal_eq, iK_ok, optL_s, iOp_eq, ioK_ok, eLc_eq, lcK_ok, okL_ok, sRaise_eq, zK_ok, sTry_eq, tK_rt, leaveO_rt, sPr_eq, eRun_eq, List.map_cons, List.map_nil, List.replicate_succ, List.replicate_zero, List.cons_append, List.nil_append, List.getElem?_cons_zero, List.getElem?_cons_succ, List.set_cons_zero, List.set_cons_succ, int_ok, md, c, sub_ok, Int.sub_self, at_0, at_1, mb, add_ok, m2, m3, osK3_ok i1])
    obtain ⟨ρ', t', e2, s4, s5, s6, a, b, rfl, a0, a1, b0, b1⟩ := lp
    -- the dict's own
    have e3 : ∃ q : Int, fo__law_press [.va (.fls ns), .va (.int lap), .va (.int o), .own [.int a, .int b], s4, s5, s6] () = .ok (.int q) () ∧ 0 ≤ q ∧ q < 10 ^ 60 := by
      have m57 : ∀ i : Int, modD (.int i) (.int (10 ^ 57)) = some (.int (i % 10 ^ 57)) := fun i => mod_ok (by decide)
      have r : ∀ i : Int, 0 ≤ i % 10 ^ 57 ∧ i % 10 ^ 57 < 10 ^ 60 := fun i => ⟨Int.emod_nonneg _ (by decide), Int.lt_trans (Int.emod_lt_of_pos _ (by decide)) (by decide)⟩
      unfold fo__law_press
      by_cases c : o < 0
      · exact ⟨_, by simp only [eV_eq, vK_va, eC_eq, opt_s, eO_eq, oK_ok, oK2_ok, eU_eq, uK_ok, eB_eq, bK_ok, aNil_eq, aCons_eq, aK_ok, aK2_ok, eCall_eq, cK_ok, eCallU_eq, cuK_ok, unR_ok, bVal_eq, bvK_ok, bTru_eq, btK_ok, bNot_eq, nK_ok, bAnd_eq, baK_t, baK_f, bOr_eq, boK_t, boK_f, eAnd_eq, eaK_t, eaK_f, eOr_eq, eoK_t, eoK_f, eNot_eq, enK_ok, eIf_eq, eiK_t, eiK_f, kCons_eq, kK_ok, kK2_ok, kK3_ok, kNil_eq, eDct_eq, dK_ok, dct1, eSl_eq, xK_ok, xK2_ok, xK3_ok, oNo_eq, oIn_eq, oiK_ok, eOix_eq, oxK_own, oxK2_ok, sSeq_eq, qK_nx, qK_rt, qK_bk, qK_ct, qK_er, sRet_eq, retK_ok, sSet_eq, setK_ok, sIf_eq, siK_t, siK_f, sNil_eq, sOset_eq, osK_ok, osK2_own, sOwn_eq, sAsg_eq, gK_ok, gK2_s, gN_eq, gsNil_eq, gsCons_eq, gsK_s, endR_rt, endR_nx, loopF_nil, loopF_cons, lK_s, lK2, sFor_eq, fK_ok, iVal_eq, iK_ok, optL_s, iOp_eq, ioK_ok, eLc_eq, lcK_ok, okL_ok, sRaise_eq, zK_ok, sTry_eq, tK_rt, leaveO_rt, sPr_eq, eRun_eq, List.map_cons, List.map_nil, List.replicate_succ, List.replicate_zero, List.cons_append, List.nil_append, List.getElem?_cons_zero, List.getElem?_cons_succ, List.set_cons_zero, List.set_cons_succ, lt_ok, c, decide_true, pow57, abs_ok, int_ok, m57]; rfl, r _⟩
      · by_cases c2 : (10 : Int) ^ 16 ≤ o
        · exact ⟨_, by simp only [eV_eq, vK_va, eC_eq, opt_s, eO_eq, oK_ok, oK2_ok, eU_eq, uK_ok, eB_eq, bK_ok, aNil_eq, aCons_eq, aK_ok, aK2_ok, eCall_eq, cK_ok, eCallU_eq, cuK_ok, unR_ok, bVal_eq, bvK_ok, bTru_eq, btK_ok, bNot_eq, nK_ok, bAnd_eq, baK_t, baK_f, bOr_eq, boK_t, boK_f, eAnd_eq, eaK_t, eaK_f, eOr_eq, eoK_t, eoK_f, eNot_eq, enK_ok, eIf_eq, eiK_t, eiK_f, kCons_eq, kK_ok, kK2_ok, kK3_ok, kNil_eq, eDct_eq, dK_ok, dct1, eSl_eq, xK_ok, xK2_ok, xK3_ok, oNo_eq, oIn_eq, oiK_ok, eOix_eq, oxK_own, oxK2_ok, sSeq_eq, qK_nx, qK_rt, qK_bk, qK_ct, qK_er, sRet_eq, retK_ok, sSet_eq, setK_ok, sIf_eq, siK_t, siK_f, sNil_eq, sOset_eq, osK_ok, osK2_own, sOwn_eq, sAsg_eq, gK_ok, gK2_s, gN_eq, gsNil_eq, gsCons_eq, gsK_s, endR_rt, endR_nx, loopF_nil, loopF_cons, lK_s, lK2, sFor_eq, fK_ok, iVal_eq, iK_ok, optL_s, iOp_eq, ioK_ok, eLc_eq, lcK_ok, okL_ok, sRaise_eq, zK_ok, sTry_eq, tK_rt, leaveO_rt, sPr_eq, eRun_eq, List.map_cons, List.map_nil, List.replicate_succ, List.replicate_zero, List.cons_append, List.nil_append, List.getElem?_cons_zero, List.getElem?_cons_succ, List.set_cons_zero, List.set_cons_succ, lt_ok, ge_ok, c, c2, decide_true, decide_false, pow16, pow57, abs_ok, int_ok, m57]; rfl, r _⟩
        · exact ⟨0, by simp only [eV_eq, vK_va, eC_eq, opt_s, eO_eq, oK_ok, oK2_ok, eU_eq, uK_ok, eB_eq, bK_ok, aNil_eq, aCons_eq, aK_ok, aK2_ok, eCall_eq, cK_ok, eCallU_eq, cuK_ok, unR_ok, bVal_eq, bvK_ok, bTru_eq, btK_ok, bNot_eq, nK_ok, bAnd_eq, baK_t, baK_f, bOr_eq, boK_t, boK_f, eAnd_eq, eaK_t, eaK_f, eOr_eq, eoK_t, eoK_f, eNot_eq, enK_ok, eIf_eq, eiK_t, eiK_f, kCons_eq, kK_ok, kK2_ok, kK3_ok, kNil_eq, eDct_eq, dK_ok, dct1, eSl_eq, xK_ok, xK2_ok, xK3_ok, oNo_eq, oIn_eq, oiK_ok, eOix_eq, oxK_own, oxK2_ok, sSeq_eq, qK_nx, qK_rt, qK_bk, qK_ct, qK_er, sRet_eq, retK_ok, sSet_eq, setK_ok, sIf_eq, siK_t, siK_f, sNil_eq, sOset_eq, osK_ok, osK2_own, sOwn_eq, sAsg_eq, gK_ok, gK2_s, gN_eq, gsNil_eq, gsCons_eq, gsK_s, endR_rt, endR_nx, loopF_nil, loopF_cons, lK_s, lK2, sFor_eq, fK_ok, iVal_eq, iK_ok, optL_s, iOp_eq, ioK_ok, eLc_eq, lcK_ok, okL_ok, sRaise_eq, zK_ok, sTry_eq, tK_rt, leaveO_rt, sPr_eq, eRun_eq, List.map_cons, List.map_nil, List.replicate_succ, List.replicate_zero, List.cons_append, List.nil_append, List.getElem?_cons_zero, List.getElem?_cons_succ, List.set_cons_zero, List.set_cons_succ, lt_ok, ge_ok, c, c2, decide_false, pow16], by decide, by decide⟩
    obtain ⟨q, e4, q0, q1⟩ := e3
    refine ⟨_, q, a, b, ?_, rfl, e4, q0, q1, a0, a1, b0, b1⟩
    have z2 : ([D.int (70021 + lap), D.int (74028 - lap)] : List D).length ≤ sizeLine := szL
    unfold b__law_press
    simp only [sSeq_eq, sSet_eq, List.map_cons, List.map_nil, List.replicate_succ, List.replicate_zero, List.cons_append, List.nil_append]
    rw [e1]
    simp only [eV_eq, vK_va, eC_eq, opt_s, eO_eq, oK_ok, oK2_ok, eU_eq, uK_ok, eB_eq, bK_ok, aNil_eq, aCons_eq, aK_ok, aK2_ok, eCall_eq, cK_ok, eCallU_eq, cuK_ok, unR_ok, bVal_eq, bvK_ok, bTru_eq, btK_ok, bNot_eq, nK_ok, bAnd_eq, baK_t, baK_f, bOr_eq, boK_t, boK_f, eAnd_eq, eaK_t, eaK_f, eOr_eq, eoK_t, eoK_f, eNot_eq, enK_ok, eIf_eq, eiK_t, eiK_f, kCons_eq, kK_ok, kK2_ok, kK3_ok, kNil_eq, eDct_eq, dK_ok, dct1, eSl_eq, xK_ok, xK2_ok, xK3_ok, oNo_eq, oIn_eq, oiK_ok, eOix_eq, oxK_own, oxK2_ok, sSeq_eq, qK_nx, qK_rt, qK_bk, qK_ct, qK_er, sRet_eq, retK_ok, sSet_eq, setK_ok, sIf_eq, siK_t, siK_f, sNil_eq, sOset_eq, osK_ok, osK2_own, sOwn_eq, sAsg_eq, gK_ok, gK2_s, gN_eq, gsNil_eq, gsCons_eq, gsK_s, endR_rt, endR_nx, sFor_eq, fK_ok, iVal_eq, iK_ok, optL_s, iOp_eq, ioK_ok, eLc_eq, lcK_ok, okL_ok, sRaise_eq, zK_ok, sTry_eq, tK_rt, leaveO_rt, sPr_eq, eRun_eq, List.map_cons, List.map_nil, List.replicate_succ, List.replicate_zero, List.cons_append, List.nil_append, List.getElem?_cons_zero, List.getElem?_cons_succ, List.set_cons_zero, List.set_cons_succ, add_ok, sub_ok, ownK_ok z2, sl, mkL2, li, ad, en]
    rw [e2]
    rfl
  · cases h
end K1
set_option Elab.async false
set_option linter.all false
set_option maxRecDepth 100000
set_option maxHeartbeats 4000000
/-! K1F: drawn things, each of which can be shown and compared. -/
namespace K1
open PySem PySem.Spec PyProof.Rows L2 DW
theorem eq_int {i j : Int} : eqD (.int i) (.int j) = some (.bl (i == j)) := by
  have h : plainPy (.int i) (.int j) = true := by simp [plainPy, PyData.plain, PyData.depth]
  simp only [eqD, eqB, toPy, if_pos h, PyData.eqv, Option.map_some]
structure Nice (B k : Nat) (d : D) : Prop where
  ok : okD d = true
  dp : dpt d ≤ k
  py : ∃ p, toPy d = some p ∧ p.showable = true ∧ p.shown.length ≤ B ∧ p.depth ≤ k
theorem Nice.mono {B k B' k' : Nat} {d : D} (h : Nice B k d) (hb : B ≤ B') (hk : k ≤ k') : Nice B' k' d :=
  ⟨h.ok, Nat.le_trans h.dp hk, let ⟨p, a, b, c, e⟩ := h.py; ⟨p, a, b, Nat.le_trans c hb, Nat.le_trans e hk⟩⟩
def niceB (B k : Nat) (d : D) : Bool := okD d && (decide (dpt d ≤ k) && (match toPy d with
  | some p => p.showable && (decide (p.shown.length ≤ B) && decide (p.depth ≤ k))
  | none => false))
theorem nice_of {B k : Nat} {d : D} (h : niceB B k d = true) : Nice B k d := by
  unfold niceB at h
  simp only [Bool.and_eq_true, decide_eq_true_eq] at h
  obtain ⟨h1, h2, h3⟩ := h
  refine ⟨h1, h2, ?_⟩
  split at h3
  · rename_i p e
    simp only [Bool.and_eq_true, decide_eq_true_eq] at h3
    exact ⟨p, e, h3.1, h3.2.1, h3.2.2⟩
  · cases h3
structure NiceL (B k : Nat) (ds : List D) : Prop where
  ok : okDs ds = true
  dp : dpts ds ≤ k
  py : ∃ ps, toPys ds = some ps ∧ PyData.showableAll ps = true ∧ ((PyData.shownAll ps).map (·.length)).sum ≤ B * ds.length ∧ PyData.depthAll ps ≤ k ∧ (PyData.shownAll ps).length = ds.length
theorem niceL_of {B k : Nat} : ∀ {ds : List D}, (∀ d ∈ ds, Nice B k d) → NiceL B k ds
  | [], _ => ⟨rfl, Nat.zero_le _, [], rfl, rfl, by simp [PyData.shownAll], by simp [PyData.depthAll], by simp [PyData.shownAll]⟩
  | d :: ds, h => by
    obtain ⟨a1, a2, p, a3, a4, a5, a6⟩ := h d List.mem_cons_self
    obtain ⟨b1, b2, ps, b3, b4, b5, b6, b7⟩ := niceL_of fun e m => h e (List.mem_cons_of_mem _ m)
    refine ⟨by simp only [okDs, a1, b1, Bool.and_self], by simp only [dpts]; omega, p :: ps, by simp only [toPys, a3, b3], by simp only [PyData.showableAll, a4, b4, Bool.and_self], ?_, by simp only [PyData.depthAll]; omega, by simp only [PyData.shownAll, List.length_cons, b7]⟩
    simp only [PyData.shownAll, List.map_cons, List.sum_cons, List.length_cons, Nat.mul_add]
    omega
theorem nice_tup {B k : Nat} {ds : List D} (h : NiceL B k ds) (hl : ds.length ≤ 3) : Nice (3 * B + 30) (k + 2) (.tup ds) := by
  obtain ⟨b1, b2, ps, b3, b4, b5, b6, b7⟩ := h
  refine ⟨by simpa only [okD] using b1, by simp only [dpt]; omega, .tuple ps, by simp only [toPy, b3], by simpa only [PyData.showable] using b4, ?_, by simp only [PyData.depth]; omega⟩
  simp only [PyData.shown]
  have q := tupleText_len_le (PyData.shownAll ps)
  have r : B * ds.length ≤ B * 3 := Nat.mul_le_mul_left _ hl
  omega
theorem nice_lst' {B k : Nat} {ds : List D} (h : NiceL B k ds) (hl : ds.length ≤ 3) : Nice (3 * B + 9) (k + 1) (.lst ds) := by
  obtain ⟨b1, b2, ps, b3, b4, b5, b6, b7⟩ := h
  refine ⟨by simpa only [okD] using b1, by simp only [dpt]; omega, .list ps, by simp only [toPy, b3], by simpa only [PyData.showable] using b4, ?_, by simp only [PyData.depth]; omega⟩
  simp only [PyData.shown]
  have q := listText_len_le (PyData.shownAll ps)
  have r : B * ds.length ≤ B * 3 := Nat.mul_le_mul_left _ hl
  omega
theorem nice_wish {B k : Nat} {ds : List D} (h : NiceL B k ds) (hl : ds.length ≤ 3) : Nice (3 * B + 30) (k + 2) (.dct [(.inr "wish", .lst ds)]) := by
  obtain ⟨c1, c2, p, c3, c4, c5, c6⟩ := nice_lst' h hl
  have c0 : okDs ds = true := h.ok
  refine ⟨by simp only [okD, okKs, c0, List.all_nil, Bool.and_self], by simp only [dpt, dptk] at c2 ⊢; omega, .dict [(.str "wish", p)], by simp only [toPy, toPyk] at c3 ⊢; simp only [c3, keyP], by simp only [PyData.showable, PyData.showableKv, c4, Bool.and_self], ?_, by simp only [PyData.depth, PyData.depthKv]; omega⟩
  simp only [PyData.shown, PyData.shownKv]
  have q := dictText_len_le [PyData.shown (.str "wish") ++ ": " ++ p.shown]
  have e : (reprText "wish").length = 6 := by decide +kernel
  have e2 : (": " : Str).length = 2 := by decide +kernel
  simp only [PyData.shown, List.map_cons, List.map_nil, List.sum_cons, List.sum_nil, List.length_cons, List.length_nil, strLen_append, e, e2] at q
  omega
/-! ### one of the things -/
theorem ix_lst {ds : List D} {i : Nat} {d : D} (h : ds[i]? = some d) : ixD (.lst ds) (.int (i : Nat)) = some d := by
  show atI ds (i : Int) = _
  exact atI_nat h
theorem of_ok (p : Addr) (t : PT) (ds : List D) (ht : PrOk t) (h0 : 0 < ds.length) (h1 : (ds.length : Int) < 2 ^ 31) : ∃ d t', F__law_of p [.ob (.ref p), .lst ds] t = .ok d t' ∧ d ∈ ds ∧ PrOk t' := by
  have m0 : (0 : Int) < (ds.length : Int) := by omega
  obtain ⟨q1, q2, q3⟩ := outR_ok t ds.length ht m0
  have hn : (outR t ds.length).1.toNat < ds.length := by omega
  have e : ∀ r : Int, r = ((r.toNat : Nat) : Int) → ∀ h : r.toNat < ds.length, ixD (.lst ds) (.int r) = some ds[r.toNat] := fun r z h => by
    have q := ix_lst (ds := ds) (i := r.toNat) (d := ds[r.toNat]) (List.getElem?_eq_getElem h)
    rw [← z] at q
    exact q
  have e := e (outR t ds.length).1 (by omega) hn
  refine ⟨_, (outR t ds.length).2, ?_, List.getElem_mem hn, q1⟩
  rw [show F__law_of p [.ob (.ref p), .lst ds] t = _ from defF_eq rfl]
  unfold b__law_of
  have len : lenD [.lst ds] = some (.int ds.length) := rfl
  simp only [eV_eq, vK_va, eC_eq, opt_s, eO_eq, oK_ok, oK2_ok, eU_eq, uK_ok, eB_eq, bK_ok, aNil_eq, aCons_eq, aK_ok, aK2_ok, eCall_eq, cK_ok, eCallU_eq, cuK_ok, unR_ok, bVal_eq, bvK_ok, bTru_eq, btK_ok, bNot_eq, nK_ok, bAnd_eq, baK_t, baK_f, bOr_eq, boK_t, boK_f, eAnd_eq, eaK_t, eaK_f, eOr_eq, eoK_t, eoK_f, eNot_eq, enK_ok, eIf_eq, eiK_t, eiK_f, kCons_eq, kK_ok, kK2_ok, kK3_ok, kNil_eq, eDct_eq, dK_ok, dct1, eSl_eq, xK_ok, xK2_ok, xK3_ok, oNo_eq, oIn_eq, oiK_ok, eOix_eq, oxK_own, oxK2_ok, sSeq_eq, qK_nx, qK_rt, qK_bk, qK_ct, qK_er, sRet_eq, retK_ok, sSet_eq, setK_ok, sIf_eq, siK_t, siK_f, sNil_eq, sOset_eq, osK_ok, osK2_own, sOwn_eq, sAsg_eq, gK_ok, gK2_s, gN_eq, gsNil_eq, gsCons_eq, gsK_s, endR_rt, endR_nx, loopF_nil, loopF_cons, lK_s, lK2, sFor_eq, fK_ok, iVal_eq, iK_ok, optL_s, iOp_eq, ioK_ok, eLc_eq, lcK_ok, okL_ok, sRaise_eq, zK_ok, sTry_eq, tK_rt, leaveO_rt, sPr_eq, eRun_eq, List.map_cons, List.map_nil, List.replicate_succ, List.replicate_zero, List.cons_append, List.nil_append, List.getElem?_cons_zero, List.getElem?_cons_succ, List.set_cons_zero, List.set_cons_succ, len, out_ok p t ds.length ht m0 h1, e]
def baseL : List D := [.non, .bl true, .bl false, .int 0, .int (-3), .int (10 ^ 24), .str "", .str "xyz", .tup [], .lst [], .dct [], .tup [.str "xy", .tup [], .tup []], .tup [.tup [.int 0, .str "a"]], .tup [.int 0, .int 1], .tup [.tup [.str "dye", .str "x"]]]
theorem base_nice : ∀ d ∈ baseL, Nice 40 3 d := by
  have h : baseL.all (niceB 40 3) = true := by decide +kernel
  intro d m
  exact nice_of (List.all_eq_true.mp h d m)
def Bd : Nat → Nat
  | 0 => 40
  | n + 1 => 3 * Bd n + 30
def Kd (n : Nat) : Nat := 3 + 2 * n
theorem Bd40 : ∀ n, 40 ≤ Bd n
  | 0 => Nat.le_refl _
  | n + 1 => by have := Bd40 n; simp only [Bd]; omega
theorem mkT0 : mkT [] = some (.tup []) := if_pos (Nat.zero_le _)
theorem mkL0 : mkL [] = some (.lst []) := if_pos (Nat.zero_le _)
theorem mkT1 {a : D} : mkT [a] = some (.tup [a]) := if_pos (by show 1 ≤ _; rw [sizeLine_eq]; decide)
theorem mkT2 {a b : D} : mkT [a, b] = some (.tup [a, b]) := if_pos (by show 2 ≤ _; rw [sizeLine_eq]; decide)
theorem mkT3 {a b c : D} : mkT [a, b, c] = some (.tup [a, b, c]) := if_pos (by show 3 ≤ _; rw [sizeLine_eq]; decide)
theorem mkL3 {a b c : D} : mkL [a, b, c] = some (.lst [a, b, c]) := if_pos (by show 3 ≤ _; rw [sizeLine_eq]; decide)
theorem mkL_of {ds : List D} (h : ds.length ≤ 1000) : mkL ds = some (.lst ds) := if_pos (by rw [sizeLine_eq]; omega)
theorem pow24 : powD (.int 10) (.int 24) = some (.int (10 ^ 24)) := rfl
theorem neg3 : negD (.int 3) = some (.int (-3)) := rfl
theorem mkBase : mkL [.non, .bl true, .bl false, .int 0, .int (-3), .int (10 ^ 24), .str "", .str "xyz", .tup [], .lst [], .dct [], .tup [.str "xy", .tup [], .tup []], .tup [.tup [.int 0, .str "a"]], .tup [.int 0, .int 1], .tup [.tup [.str "dye", .str "x"]]] = some (.lst baseL) := mkL_of (by decide)
theorem paired_mem {R : D → D → Prop} : ∀ {xs ys : List D}, Paired R xs ys → ∀ y ∈ ys, ∃ x ∈ xs, R x y
  | _, _, .nil, y, m => absurd m List.not_mem_nil
  | _, _, .cons (a := a) r t, y, m => by
    rcases List.mem_cons.mp m with e | m
    · exact ⟨a, List.mem_cons_self, e ▸ r⟩
    · obtain ⟨x, h1, h2⟩ := paired_mem t y m
      exact ⟨x, List.mem_cons_of_mem _ h1, h2⟩
theorem thing_ok (p : Addr) : ∀ (n : Nat) (deep : Nat) (t : PT), deep < n → PrOk t → ∃ d t', Fn__law_thing p n [.ob (.ref p), .int (deep : Nat)] t = .ok d t' ∧ Nice (Bd deep) (Kd deep) d ∧ PrOk t'
  | 0, _, _, h, _ => absurd h (Nat.not_lt_zero _)
  | n + 1, deep, t, h, ht => by
    rw [show Fn__law_thing p (n + 1) [.ob (.ref p), .int (deep : Nat)] t = _ from defF_eq rfl]
    unfold b__law_thing
    have bL : 0 < baseL.length := by decide
    have bL2 : (baseL.length : Int) < 2 ^ 31 := by decide
    by_cases c : deep = 0
    · subst c
      obtain ⟨d, t', e, m, o⟩ := of_ok p t baseL ht bL bL2
      have z : ((0 : Nat) : Int) = 0 := rfl
      have z2 : ((0 : Int) == 0) = true := rfl
      refine ⟨d, t', ?_, base_nice d m, o⟩
      simp only [eV_eq, vK_va, eC_eq, opt_s, eO_eq, oK_ok, oK2_ok, eU_eq, uK_ok, eB_eq, bK_ok, aNil_eq, aCons_eq, aK_ok, aK2_ok, eCall_eq, cK_ok, eCallU_eq, cuK_ok, unR_ok, bVal_eq, bvK_ok, bTru_eq, btK_ok, bNot_eq, nK_ok, bAnd_eq, baK_t, baK_f, bOr_eq, boK_t, boK_f, eAnd_eq, eaK_t, eaK_f, eOr_eq, eoK_t, eoK_f, eNot_eq, enK_ok, eIf_eq, eiK_t, eiK_f, kCons_eq, kK_ok, kK2_ok, kK3_ok, kNil_eq, eDct_eq, dK_ok, dct1, eSl_eq, xK_ok, xK2_ok, xK3_ok, oNo_eq, oIn_eq, oiK_ok, eOix_eq, oxK_own, oxK2_ok, sSeq_eq, qK_nx, qK_rt, qK_bk, qK_ct, qK_er, sRet_eq, retK_ok, sSet_eq, setK_ok, sIf_eq, siK_t, siK_f, sNil_eq, sOset_eq, osK_ok, osK2_own, sOwn_eq, sAsg_eq, gK_ok, gK2_s, gN_eq, gsNil_eq, gsCons_eq, gsK_s, endR_rt, endR_nx, loopF_nil, loopF_cons, lK_s, lK2, sFor_eq, fK_ok, iVal_eq, iK_ok, optL_s, iOp_eq, ioK_ok, eLc_eq, lcK_ok, okL_ok, sRaise_eq, zK_ok, sTry_eq, tK_rt, leaveO_rt, sPr_eq, eRun_eq, List.map_cons, List.map_nil, List.replicate_succ, List.replicate_zero, List.cons_append, List.nil_append, List.getElem?_cons_zero, List.getElem?_cons_succ, List.set_cons_zero, List.set_cons_succ, neg3, pow24, mkT0, mkL0, mkT1, mkT2, mkT3, mkBase, eq_int, z, z2, e]
    · have z2 : (((deep : Nat) : Int) == 0) = false := by
        rw [beq_eq_false_iff_ne]; omega
      have o1 := outR_ok t 3 ht (by decide)
      have e1 := out_ok p t 3 ht (by decide) (by decide)
      by_cases c2 : (outR t 3).1 = 0
      · have z3 : ((outR t 3).1 == 0) = true := by rw [c2]; rfl
        obtain ⟨d, t', e, m, o⟩ := of_ok p (outR t 3).2 baseL o1.1 bL bL2
        refine ⟨d, t', ?_, (base_nice d m).mono (Bd40 _) (by unfold Kd; omega), o⟩
        simp only [eV_eq, vK_va, eC_eq, opt_s, eO_eq, oK_ok, oK2_ok, eU_eq, uK_ok, eB_eq, bK_ok, aNil_eq, aCons_eq, aK_ok, aK2_ok, eCall_eq, cK_ok, eCallU_eq, cuK_ok, unR_ok, bVal_eq, bvK_ok, bTru_eq, btK_ok, bNot_eq, nK_ok, bAnd_eq, baK_t, baK_f, bOr_eq, boK_t, boK_f, eAnd_eq, eaK_t, eaK_f, eOr_eq, eoK_t, eoK_f, eNot_eq, enK_ok, eIf_eq, eiK_t, eiK_f, kCons_eq, kK_ok, kK2_ok, kK3_ok, kNil_eq, eDct_eq, dK_ok, dct1, eSl_eq, xK_ok, xK2_ok, xK3_ok, oNo_eq, oIn_eq, oiK_ok, eOix_eq, oxK_own, oxK2_ok, sSeq_eq, qK_nx, qK_rt, qK_bk, qK_ct, qK_er, sRet_eq, retK_ok, sSet_eq, setK_ok, sIf_eq, siK_t, siK_f, sNil_eq, sOset_eq, osK_ok, osK2_own, sOwn_eq, sAsg_eq, gK_ok, gK2_s, gN_eq, gsNil_eq, gsCons_eq, gsK_s, endR_rt, endR_nx, loopF_nil, loopF_cons, lK_s, lK2, sFor_eq, fK_ok, iVal_eq, iK_ok, optL_s, iOp_eq, ioK_ok, eLc_eq, lcK_ok, okL_ok, sRaise_eq, zK_ok, sTry_eq, tK_rt, leaveO_rt, sPr_eq, eRun_eq, List.map_cons, List.map_nil, List.replicate_succ, List.replicate_zero, List.cons_append, List.nil_append, List.getElem?_cons_zero, List.getElem?_cons_succ, List.set_cons_zero, List.set_cons_succ, neg3, pow24, mkT0, mkL0, mkT1, mkT2, mkT3, mkBase, eq_int, z2, e1, z3, e]
      · have z3 : ((outR t 3).1 == 0) = false := by rw [beq_eq_false_iff_ne]; exact c2
        have o2 := outR_ok (outR t 3).2 4 o1.1 (by decide)
        have e2 := out_ok p (outR t 3).2 4 o1.1 (by decide) (by decide)
        have rg : rng1 [.int (outR (outR t 3).2 4).1] = some (rngD 0 (outR (outR t 3).2 4).1.toNat) := if_pos (by omega)
        have dp : ((deep : Nat) : Int) - 1 = ((deep - 1 : Nat) : Int) := by omega
        obtain ⟨ys, t3, e3, o3, pr⟩ := lc_map (T := PT) (gm := gN 4) (f := eCall (Fn__law_thing p n) (aCons (eV 0) (aCons (eO subD (eV 1) (eC (.int 1))) aNil))) (ρ := [.va (.ob (.ref p)), .va (.int (deep : Nat)), .va (.lst baseL), .un, .un]) (J := PrOk) (R := fun _ y => Nice (Bd (deep - 1)) (Kd (deep - 1)) y)
          (rngD 0 (outR (outR t 3).2 4).1.toNat) [] (outR (outR t 3).2 4).2 o2.1 (by rw [rngD_len, sizeLine_eq]; simp only [List.length_nil]; omega) fun d _ t ht => by
            obtain ⟨y, t', ey, ny, oy⟩ := thing_ok p n (deep - 1) t (by omega) ht
            refine ⟨_, y, t', gN_eq, ?_, ny, oy⟩
            simp only [eV_eq, vK_va, eC_eq, opt_s, eO_eq, oK_ok, oK2_ok, eU_eq, uK_ok, eB_eq, bK_ok, aNil_eq, aCons_eq, aK_ok, aK2_ok, eCall_eq, cK_ok, eCallU_eq, cuK_ok, unR_ok, bVal_eq, bvK_ok, bTru_eq, btK_ok, bNot_eq, nK_ok, bAnd_eq, baK_t, baK_f, bOr_eq, boK_t, boK_f, eAnd_eq, eaK_t, eaK_f, eOr_eq, eoK_t, eoK_f, eNot_eq, enK_ok, eIf_eq, eiK_t, eiK_f, kCons_eq, kK_ok, kK2_ok, kK3_ok, kNil_eq, eDct_eq, dK_ok, dct1, eSl_eq, xK_ok, xK2_ok, xK3_ok, oNo_eq, oIn_eq, oiK_ok, eOix_eq, oxK_own, oxK2_ok, sSeq_eq, qK_nx, qK_rt, qK_bk, qK_ct, qK_er, sRet_eq, retK_ok, sSet_eq, setK_ok, sIf_eq, siK_t, siK_f, sNil_eq, sOset_eq, osK_ok, osK2_own, sOwn_eq, sAsg_eq, gK_ok, gK2_s, gN_eq, gsNil_eq, gsCons_eq, gsK_s, endR_rt, endR_nx, loopF_nil, loopF_cons, lK_s, lK2, sFor_eq, fK_ok, iVal_eq, iK_ok, optL_s, iOp_eq, ioK_ok, eLc_eq, lcK_ok, okL_ok, sRaise_eq, zK_ok, sTry_eq, tK_rt, leaveO_rt, sPr_eq, eRun_eq, List.map_cons, List.map_nil, List.replicate_succ, List.replicate_zero, List.cons_append, List.nil_append, List.getElem?_cons_zero, List.getElem?_cons_succ, List.set_cons_zero, List.set_cons_succ, sub_ok, dp, ey]
        rw [List.nil_append] at e3
        have ly : ys.length ≤ 3 := by
          have := Paired.length pr
          rw [rngD_len] at this
          omega
        have nl : NiceL (Bd (deep - 1)) (Kd (deep - 1)) ys := niceL_of fun y m => let ⟨_, _, r⟩ := paired_mem pr y m; r
        have td : tupleD [.lst ys] = some (.tup ys) := rfl
        obtain ⟨d, t', e, m, o⟩ := of_ok p t3 [.tup ys, .lst ys, .dct [(.inr "wish", .lst ys)]] o3 (by show 0 < 3; decide) (by show (3 : Int) < _; decide)
        have bs : Bd deep = 3 * Bd (deep - 1) + 30 := by
          have : deep = (deep - 1) + 1 := by omega
          rw [this]; rfl
        have ks : Kd deep = Kd (deep - 1) + 2 := by unfold Kd; omega
        refine ⟨d, t', ?_, ?_, o⟩
        · simp only [eV_eq, vK_va, eC_eq, opt_s, eO_eq, oK_ok, oK2_ok, eU_eq, uK_ok, eB_eq, bK_ok, aNil_eq, aCons_eq, aK_ok, aK2_ok, eCall_eq, cK_ok, eCallU_eq, cuK_ok, unR_ok, bVal_eq, bvK_ok, bTru_eq, btK_ok, bNot_eq, nK_ok, bAnd_eq, baK_t, baK_f, bOr_eq, boK_t, boK_f, eAnd_eq, eaK_t, eaK_f, eOr_eq, eoK_t, eoK_f, eNot_eq, enK_ok, eIf_eq, eiK_t, eiK_f, kCons_eq, kK_ok, kK2_ok, kK3_ok, kNil_eq, eDct_eq, dK_ok, dct1, eSl_eq, xK_ok, xK2_ok, xK3_ok, oNo_eq, oIn_eq, oiK_ok, eOix_eq, oxK_own, oxK2_ok, sSeq_eq, qK_nx, qK_rt, qK_bk, qK_ct, qK_er, sRet_eq, retK_ok, sSet_eq, setK_ok, sIf_eq, siK_t, siK_f, sNil_eq, sOset_eq, osK_ok, osK2_own, sOwn_eq, sAsg_eq, gK_ok, gK2_s, gN_eq, gsNil_eq, gsCons_eq, gsK_s, endR_rt, endR_nx, sFor_eq, fK_ok, iVal_eq, iK_ok, optL_s, iOp_eq, ioK_ok, eLc_eq, lcK_ok, okL_ok, sRaise_eq, zK_ok, sTry_eq, tK_rt, leaveO_rt, sPr_eq, eRun_eq, List.map_cons, List.map_nil, List.replicate_succ, List.replicate_zero, List.cons_append, List.nil_append, List.getElem?_cons_zero, List.getElem?_cons_succ, List.set_cons_zero, List.set_cons_succ, neg3, pow24, mkT0, mkL0, mkT1, mkT2, mkT3, mkBase, eq_int, z2, e1, z3, e2, rg, wipeR]
          rw [e3]
          simp only [eV_eq, vK_va, eC_eq, opt_s, eO_eq, oK_ok, oK2_ok, eU_eq, uK_ok, eB_eq, bK_ok, aNil_eq, aCons_eq, aK_ok, aK2_ok, eCall_eq, cK_ok, eCallU_eq, cuK_ok, unR_ok, bVal_eq, bvK_ok, bTru_eq, btK_ok, bNot_eq, nK_ok, bAnd_eq, baK_t, baK_f, bOr_eq, boK_t, boK_f, eAnd_eq, eaK_t, eaK_f, eOr_eq, eoK_t, eoK_f, eNot_eq, enK_ok, eIf_eq, eiK_t, eiK_f, kCons_eq, kK_ok, kK2_ok, kK3_ok, kNil_eq, eDct_eq, dK_ok, dct1, eSl_eq, xK_ok, xK2_ok, xK3_ok, oNo_eq, oIn_eq, oiK_ok, eOix_eq, oxK_own, oxK2_ok, sSeq_eq, qK_nx, qK_rt, qK_bk, qK_ct, qK_er, sRet_eq, retK_ok, sSet_eq, setK_ok, sIf_eq, siK_t, siK_f, sNil_eq, sOset_eq, osK_ok, osK2_own, sOwn_eq, sAsg_eq, gK_ok, gK2_s, gN_eq, gsNil_eq, gsCons_eq, gsK_s, endR_rt, endR_nx, loopF_nil, loopF_cons, lK_s, lK2, sFor_eq, fK_ok, iVal_eq, iK_ok, optL_s, iOp_eq, ioK_ok, eLc_eq, lcK_ok, okL_ok, sRaise_eq, zK_ok, sTry_eq, tK_rt, leaveO_rt, sPr_eq, eRun_eq, List.map_cons, List.map_nil, List.replicate_succ, List.replicate_zero, List.cons_append, List.nil_append, List.getElem?_cons_zero, List.getElem?_cons_succ, List.set_cons_zero, List.set_cons_succ, td, mkL3, e]
        · rw [bs, ks]
          simp only [List.mem_cons, List.not_mem_nil, or_false] at m
          rcases m with rfl | rfl | rfl
          · exact nice_tup nl ly
          · exact (nice_lst' nl ly).mono (by omega) (by omega)
          · exact nice_wish nl ly
end K1
set_option Elab.async false
set_option linter.all false
set_option maxRecDepth 100000
set_option maxHeartbeats 4000000
/-! K1G: the law's mathematics. -/
namespace K1
open PySem PySem.Spec PyProof.Rows L2 DW
theorem eq_same {B k : Nat} {d : D} (h : Nice B k d) (hk : k ≤ 100) : eqD d d = some (.bl true) := by
  unfold eqD
  rw [eqB_same h.ok (Nat.le_trans h.dp hk)]
  rfl
theorem eq_str {x : Str} : eqD (.str x) (.str x) = some (.bl true) := by
  unfold eqD
  rw [eqB_same rfl (Nat.zero_le _)]
  rfl
theorem repr_nice {B k : Nat} {d : D} (h : Nice B k d) (hb : B ≤ 100000) (hk : k ≤ 100) : ∃ x, reprD [d] = some (.str x) := by
  obtain ⟨p, e, h1, h2, h3⟩ := h.py
  refine ⟨p.shown, ?_⟩
  have sz : sizeLine = 16777216 := sizeLine_eq
  have c : (p.showable && (decide (p.shown.length ≤ sizeLine) && decide (p.depth ≤ 100))) = true := by
    rw [h1, decide_eq_true (by omega), decide_eq_true (by omega)]; rfl
  simp only [reprD, reprS, e, if_pos c, Option.map_some]
theorem even_ok {B k : Nat} {d : D} (h : Nice B k d) (hb : B ≤ 100000) (hk : k ≤ 100) : F__law_even [d, d] () = .ok (.bl true) () := by
  obtain ⟨x, e⟩ := repr_nice h hb hk
  rw [show F__law_even [d, d] () = _ from defF_eq rfl]
  unfold b__law_even
  simp only [eV_eq, vK_va, eC_eq, opt_s, eO_eq, oK_ok, oK2_ok, eU_eq, uK_ok, eB_eq, bK_ok, aNil_eq, aCons_eq, aK_ok, aK2_ok, eCall_eq, cK_ok, eCallU_eq, cuK_ok, unR_ok, bVal_eq, bvK_ok, bTru_eq, btK_ok, bNot_eq, nK_ok, bAnd_eq, baK_t, baK_f, bOr_eq, boK_t, boK_f, eAnd_eq, eaK_t, eaK_f, eOr_eq, eoK_t, eoK_f, eNot_eq, enK_ok, eIf_eq, eiK_t, eiK_f, kCons_eq, kK_ok, kK2_ok, kK3_ok, kNil_eq, eDct_eq, dK_ok, dct1, eSl_eq, xK_ok, xK2_ok, xK3_ok, oNo_eq, oIn_eq, oiK_ok, eOix_eq, oxK_own, oxK2_ok, sSeq_eq, qK_nx, qK_rt, qK_bk, qK_ct, qK_er, sRet_eq, retK_ok, sSet_eq, setK_ok, sIf_eq, siK_t, siK_f, sNil_eq, sOset_eq, osK_ok, osK2_own, sOwn_eq, sAsg_eq, gK_ok, gK2_s, gN_eq, gsNil_eq, gsCons_eq, gsK_s, endR_rt, endR_nx, loopF_nil, loopF_cons, lK_s, lK2, sFor_eq, fK_ok, iVal_eq, iK_ok, optL_s, iOp_eq, ioK_ok, eLc_eq, lcK_ok, okL_ok, sRaise_eq, zK_ok, sTry_eq, tK_rt, leaveO_rt, sPr_eq, eRun_eq, List.map_cons, List.map_nil, List.replicate_succ, List.replicate_zero, List.cons_append, List.nil_append, List.getElem?_cons_zero, List.getElem?_cons_succ, List.set_cons_zero, List.set_cons_succ, eq_same h hk, e, eq_str]
def exL (d : D) : List D := clsL.map fun p => D.exc p.1 d
def cn (i : Nat) : Str := (clsL.getD i ("", "")).1
theorem place_ok (d : D) : F__law_by_place [d] () = .ok (.lst (exL d)) () := by kernel_rfl
theorem name_ok (d : D) : F__law_by_name [d] () = .ok (.lst (exL d)) () := by kernel_rfl
theorem enum_ex (d : D) : enumD (exL d) = (List.range 24).map fun i => D.tup [.int (i : Nat), .exc (cn i) d] := by kernel_rfl
/-- the three tests of an exception -/
abbrev m1 : MS PT := sIf (bOr (bVal (eO neD (eCallU F__law_classes (aCons (eV 5) aNil)) (eLc [6] (iOp rng1 (aCons (eC (.int 24)) aNil)) (gN 6) bYes (eO eqD (eV 6) (eV 4))))) (bOr (bNot (bVal (eU (isiE (isT true "DyeError")) (eV 5)))) (bNot (bVal (eU (isiE (isT false "ValueError")) (eV 5)))))) (sRet (eC (.bl false))) sNil
abbrev m2 : MS PT := sIf (bOr (bVal (eU (isiE (isT false "LookupError")) (eV 5))) (bOr (bVal (eU (isiE (isT false "ArithmeticError")) (eV 5))) (bOr (bVal (eU (isiE (isT false "TypeError")) (eV 5))) (bVal (eU (isiE (isT false "RuntimeError")) (eV 5)))))) (sRet (eC (.bl false))) sNil
abbrev g3 : M PT D := eIf (bVal (eO ltD (eV 4) (eC (.int 19)))) (eU (atD caF "given") (eV 5)) (eU (atD caF "index") (eV 5))
section
variable {s0 s1 s2 s3 s6 s7 : Sl} {d : D} {t : PT}
theorem m1_0 : m1 [s0, s1, s2, s3, .va (.int (0 : Nat)), .va (.exc (cn 0) d), s6, s7] t = .nx [s0, s1, s2, s3, .va (.int (0 : Nat)), .va (.exc (cn 0) d), s6, s7] t := by kernel_rfl
theorem m2_0 : m2 [s0, s1, s2, s3, .va (.int (0 : Nat)), .va (.exc (cn 0) d), s6, s7] t = .nx [s0, s1, s2, s3, .va (.int (0 : Nat)), .va (.exc (cn 0) d), s6, s7] t := by kernel_rfl
theorem g3_0 : g3 [s0, s1, s2, s3, .va (.int (0 : Nat)), .va (.exc (cn 0) d), s6, s7] t = .ok d t := by kernel_rfl
theorem m1_1 : m1 [s0, s1, s2, s3, .va (.int (1 : Nat)), .va (.exc (cn 1) d), s6, s7] t = .nx [s0, s1, s2, s3, .va (.int (1 : Nat)), .va (.exc (cn 1) d), s6, s7] t := by kernel_rfl
theorem m2_1 : m2 [s0, s1, s2, s3, .va (.int (1 : Nat)), .va (.exc (cn 1) d), s6, s7] t = .nx [s0, s1, s2, s3, .va (.int (1 : Nat)), .va (.exc (cn 1) d), s6, s7] t := by kernel_rfl
theorem g3_1 : g3 [s0, s1, s2, s3, .va (.int (1 : Nat)), .va (.exc (cn 1) d), s6, s7] t = .ok d t := by kernel_rfl
theorem m1_2 : m1 [s0, s1, s2, s3, .va (.int (2 : Nat)), .va (.exc (cn 2) d), s6, s7] t = .nx [s0, s1, s2, s3, .va (.int (2 : Nat)), .va (.exc (cn 2) d), s6, s7] t := by kernel_rfl
theorem m2_2 : m2 [s0, s1, s2, s3, .va (.int (2 : Nat)), .va (.exc (cn 2) d), s6, s7] t = .nx [s0, s1, s2, s3, .va (.int (2 : Nat)), .va (.exc (cn 2) d), s6, s7] t := by kernel_rfl
theorem g3_2 : g3 [s0, s1, s2, s3, .va (.int (2 : Nat)), .va (.exc (cn 2) d), s6, s7] t = .ok d t := by kernel_rfl
theorem m1_3 : m1 [s0, s1, s2, s3, .va (.int (3 : Nat)), .va (.exc (cn 3) d), s6, s7] t = .nx [s0, s1, s2, s3, .va (.int (3 : Nat)), .va (.exc (cn 3) d), s6, s7] t := by kernel_rfl
theorem m2_3 : m2 [s0, s1, s2, s3, .va (.int (3 : Nat)), .va (.exc (cn 3) d), s6, s7] t = .nx [s0, s1, s2, s3, .va (.int (3 : Nat)), .va (.exc (cn 3) d), s6, s7] t := by kernel_rfl
theorem g3_3 : g3 [s0, s1, s2, s3, .va (.int (3 : Nat)), .va (.exc (cn 3) d), s6, s7] t = .ok d t := by kernel_rfl
theorem m1_4 : m1 [s0, s1, s2, s3, .va (.int (4 : Nat)), .va (.exc (cn 4) d), s6, s7] t = .nx [s0, s1, s2, s3, .va (.int (4 : Nat)), .va (.exc (cn 4) d), s6, s7] t := by kernel_rfl
theorem m2_4 : m2 [s0, s1, s2, s3, .va (.int (4 : Nat)), .va (.exc (cn 4) d), s6, s7] t = .nx [s0, s1, s2, s3, .va (.int (4 : Nat)), .va (.exc (cn 4) d), s6, s7] t := by kernel_rfl
theorem g3_4 : g3 [s0, s1, s2, s3, .va (.int (4 : Nat)), .va (.exc (cn 4) d), s6, s7] t = .ok d t := by kernel_rfl
theorem m1_5 : m1 [s0, s1, s2, s3, .va (.int (5 : Nat)), .va (.exc (cn 5) d), s6, s7] t = .nx [s0, s1, s2, s3, .va (.int (5 : Nat)), .va (.exc (cn 5) d), s6, s7] t := by kernel_rfl
theorem m2_5 : m2 [s0, s1, s2, s3, .va (.int (5 : Nat)), .va (.exc (cn 5) d), s6, s7] t = .nx [s0, s1, s2, s3, .va (.int (5 : Nat)), .va (.exc (cn 5) d), s6, s7] t := by kernel_rfl
theorem g3_5 : g3 [s0, s1, s2, s3, .va (.int (5 : Nat)), .va (.exc (cn 5) d), s6, s7] t = .ok d t := by kernel_rfl
theorem m1_6 : m1 [s0, s1, s2, s3, .va (.int (6 : Nat)), .va (.exc (cn 6) d), s6, s7] t = .nx [s0, s1, s2, s3, .va (.int (6 : Nat)), .va (.exc (cn 6) d), s6, s7] t := by kernel_rfl
theorem m2_6 : m2 [s0, s1, s2, s3, .va (.int (6 : Nat)), .va (.exc (cn 6) d), s6, s7] t = .nx [s0, s1, s2, s3, .va (.int (6 : Nat)), .va (.exc (cn 6) d), s6, s7] t := by kernel_rfl
theorem g3_6 : g3 [s0, s1, s2, s3, .va (.int (6 : Nat)), .va (.exc (cn 6) d), s6, s7] t = .ok d t := by kernel_rfl
theorem m1_7 : m1 [s0, s1, s2, s3, .va (.int (7 : Nat)), .va (.exc (cn 7) d), s6, s7] t = .nx [s0, s1, s2, s3, .va (.int (7 : Nat)), .va (.exc (cn 7) d), s6, s7] t := by kernel_rfl
theorem m2_7 : m2 [s0, s1, s2, s3, .va (.int (7 : Nat)), .va (.exc (cn 7) d), s6, s7] t = .nx [s0, s1, s2, s3, .va (.int (7 : Nat)), .va (.exc (cn 7) d), s6, s7] t := by kernel_rfl
theorem g3_7 : g3 [s0, s1, s2, s3, .va (.int (7 : Nat)), .va (.exc (cn 7) d), s6, s7] t = .ok d t := by kernel_rfl
theorem m1_8 : m1 [s0, s1, s2, s3, .va (.int (8 : Nat)), .va (.exc (cn 8) d), s6, s7] t = .nx [s0, s1, s2, s3, .va (.int (8 : Nat)), .va (.exc (cn 8) d), s6, s7] t := by kernel_rfl
theorem m2_8 : m2 [s0, s1, s2, s3, .va (.int (8 : Nat)), .va (.exc (cn 8) d), s6, s7] t = .nx [s0, s1, s2, s3, .va (.int (8 : Nat)), .va (.exc (cn 8) d), s6, s7] t := by kernel_rfl
theorem g3_8 : g3 [s0, s1, s2, s3, .va (.int (8 : Nat)), .va (.exc (cn 8) d), s6, s7] t = .ok d t := by kernel_rfl
theorem m1_9 : m1 [s0, s1, s2, s3, .va (.int (9 : Nat)), .va (.exc (cn 9) d), s6, s7] t = .nx [s0, s1, s2, s3, .va (.int (9 : Nat)), .va (.exc (cn 9) d), s6, s7] t := by kernel_rfl
theorem m2_9 : m2 [s0, s1, s2, s3, .va (.int (9 : Nat)), .va (.exc (cn 9) d), s6, s7] t = .nx [s0, s1, s2, s3, .va (.int (9 : Nat)), .va (.exc (cn 9) d), s6, s7] t := by kernel_rfl
theorem g3_9 : g3 [s0, s1, s2, s3, .va (.int (9 : Nat)), .va (.exc (cn 9) d), s6, s7] t = .ok d t := by kernel_rfl
theorem m1_10 : m1 [s0, s1, s2, s3, .va (.int (10 : Nat)), .va (.exc (cn 10) d), s6, s7] t = .nx [s0, s1, s2, s3, .va (.int (10 : Nat)), .va (.exc (cn 10) d), s6, s7] t := by kernel_rfl
theorem m2_10 : m2 [s0, s1, s2, s3, .va (.int (10 : Nat)), .va (.exc (cn 10) d), s6, s7] t = .nx [s0, s1, s2, s3, .va (.int (10 : Nat)), .va (.exc (cn 10) d), s6, s7] t := by kernel_rfl
theorem g3_10 : g3 [s0, s1, s2, s3, .va (.int (10 : Nat)), .va (.exc (cn 10) d), s6, s7] t = .ok d t := by kernel_rfl
theorem m1_11 : m1 [s0, s1, s2, s3, .va (.int (11 : Nat)), .va (.exc (cn 11) d), s6, s7] t = .nx [s0, s1, s2, s3, .va (.int (11 : Nat)), .va (.exc (cn 11) d), s6, s7] t := by kernel_rfl
theorem m2_11 : m2 [s0, s1, s2, s3, .va (.int (11 : Nat)), .va (.exc (cn 11) d), s6, s7] t = .nx [s0, s1, s2, s3, .va (.int (11 : Nat)), .va (.exc (cn 11) d), s6, s7] t := by kernel_rfl
theorem g3_11 : g3 [s0, s1, s2, s3, .va (.int (11 : Nat)), .va (.exc (cn 11) d), s6, s7] t = .ok d t := by kernel_rfl
theorem m1_12 : m1 [s0, s1, s2, s3, .va (.int (12 : Nat)), .va (.exc (cn 12) d), s6, s7] t = .nx [s0, s1, s2, s3, .va (.int (12 : Nat)), .va (.exc (cn 12) d), s6, s7] t := by kernel_rfl
theorem m2_12 : m2 [s0, s1, s2, s3, .va (.int (12 : Nat)), .va (.exc (cn 12) d), s6, s7] t = .nx [s0, s1, s2, s3, .va (.int (12 : Nat)), .va (.exc (cn 12) d), s6, s7] t := by kernel_rfl
theorem g3_12 : g3 [s0, s1, s2, s3, .va (.int (12 : Nat)), .va (.exc (cn 12) d), s6, s7] t = .ok d t := by kernel_rfl
theorem m1_13 : m1 [s0, s1, s2, s3, .va (.int (13 : Nat)), .va (.exc (cn 13) d), s6, s7] t = .nx [s0, s1, s2, s3, .va (.int (13 : Nat)), .va (.exc (cn 13) d), s6, s7] t := by kernel_rfl
theorem m2_13 : m2 [s0, s1, s2, s3, .va (.int (13 : Nat)), .va (.exc (cn 13) d), s6, s7] t = .nx [s0, s1, s2, s3, .va (.int (13 : Nat)), .va (.exc (cn 13) d), s6, s7] t := by kernel_rfl
theorem g3_13 : g3 [s0, s1, s2, s3, .va (.int (13 : Nat)), .va (.exc (cn 13) d), s6, s7] t = .ok d t := by kernel_rfl
theorem m1_14 : m1 [s0, s1, s2, s3, .va (.int (14 : Nat)), .va (.exc (cn 14) d), s6, s7] t = .nx [s0, s1, s2, s3, .va (.int (14 : Nat)), .va (.exc (cn 14) d), s6, s7] t := by kernel_rfl
theorem m2_14 : m2 [s0, s1, s2, s3, .va (.int (14 : Nat)), .va (.exc (cn 14) d), s6, s7] t = .nx [s0, s1, s2, s3, .va (.int (14 : Nat)), .va (.exc (cn 14) d), s6, s7] t := by kernel_rfl
theorem g3_14 : g3 [s0, s1, s2, s3, .va (.int (14 : Nat)), .va (.exc (cn 14) d), s6, s7] t = .ok d t := by kernel_rfl
theorem m1_15 : m1 [s0, s1, s2, s3, .va (.int (15 : Nat)), .va (.exc (cn 15) d), s6, s7] t = .nx [s0, s1, s2, s3, .va (.int (15 : Nat)), .va (.exc (cn 15) d), s6, s7] t := by kernel_rfl
theorem m2_15 : m2 [s0, s1, s2, s3, .va (.int (15 : Nat)), .va (.exc (cn 15) d), s6, s7] t = .nx [s0, s1, s2, s3, .va (.int (15 : Nat)), .va (.exc (cn 15) d), s6, s7] t := by kernel_rfl
theorem g3_15 : g3 [s0, s1, s2, s3, .va (.int (15 : Nat)), .va (.exc (cn 15) d), s6, s7] t = .ok d t := by kernel_rfl
theorem m1_16 : m1 [s0, s1, s2, s3, .va (.int (16 : Nat)), .va (.exc (cn 16) d), s6, s7] t = .nx [s0, s1, s2, s3, .va (.int (16 : Nat)), .va (.exc (cn 16) d), s6, s7] t := by kernel_rfl
theorem m2_16 : m2 [s0, s1, s2, s3, .va (.int (16 : Nat)), .va (.exc (cn 16) d), s6, s7] t = .nx [s0, s1, s2, s3, .va (.int (16 : Nat)), .va (.exc (cn 16) d), s6, s7] t := by kernel_rfl
theorem g3_16 : g3 [s0, s1, s2, s3, .va (.int (16 : Nat)), .va (.exc (cn 16) d), s6, s7] t = .ok d t := by kernel_rfl
theorem m1_17 : m1 [s0, s1, s2, s3, .va (.int (17 : Nat)), .va (.exc (cn 17) d), s6, s7] t = .nx [s0, s1, s2, s3, .va (.int (17 : Nat)), .va (.exc (cn 17) d), s6, s7] t := by kernel_rfl
theorem m2_17 : m2 [s0, s1, s2, s3, .va (.int (17 : Nat)), .va (.exc (cn 17) d), s6, s7] t = .nx [s0, s1, s2, s3, .va (.int (17 : Nat)), .va (.exc (cn 17) d), s6, s7] t := by kernel_rfl
theorem g3_17 : g3 [s0, s1, s2, s3, .va (.int (17 : Nat)), .va (.exc (cn 17) d), s6, s7] t = .ok d t := by kernel_rfl
theorem m1_18 : m1 [s0, s1, s2, s3, .va (.int (18 : Nat)), .va (.exc (cn 18) d), s6, s7] t = .nx [s0, s1, s2, s3, .va (.int (18 : Nat)), .va (.exc (cn 18) d), s6, s7] t := by kernel_rfl
theorem m2_18 : m2 [s0, s1, s2, s3, .va (.int (18 : Nat)), .va (.exc (cn 18) d), s6, s7] t = .nx [s0, s1, s2, s3, .va (.int (18 : Nat)), .va (.exc (cn 18) d), s6, s7] t := by kernel_rfl
theorem g3_18 : g3 [s0, s1, s2, s3, .va (.int (18 : Nat)), .va (.exc (cn 18) d), s6, s7] t = .ok d t := by kernel_rfl
theorem m1_19 : m1 [s0, s1, s2, s3, .va (.int (19 : Nat)), .va (.exc (cn 19) d), s6, s7] t = .nx [s0, s1, s2, s3, .va (.int (19 : Nat)), .va (.exc (cn 19) d), s6, s7] t := by kernel_rfl
theorem m2_19 : m2 [s0, s1, s2, s3, .va (.int (19 : Nat)), .va (.exc (cn 19) d), s6, s7] t = .nx [s0, s1, s2, s3, .va (.int (19 : Nat)), .va (.exc (cn 19) d), s6, s7] t := by kernel_rfl
theorem g3_19 : g3 [s0, s1, s2, s3, .va (.int (19 : Nat)), .va (.exc (cn 19) d), s6, s7] t = .ok d t := by kernel_rfl
theorem m1_20 : m1 [s0, s1, s2, s3, .va (.int (20 : Nat)), .va (.exc (cn 20) d), s6, s7] t = .nx [s0, s1, s2, s3, .va (.int (20 : Nat)), .va (.exc (cn 20) d), s6, s7] t := by kernel_rfl
theorem m2_20 : m2 [s0, s1, s2, s3, .va (.int (20 : Nat)), .va (.exc (cn 20) d), s6, s7] t = .nx [s0, s1, s2, s3, .va (.int (20 : Nat)), .va (.exc (cn 20) d), s6, s7] t := by kernel_rfl
theorem g3_20 : g3 [s0, s1, s2, s3, .va (.int (20 : Nat)), .va (.exc (cn 20) d), s6, s7] t = .ok d t := by kernel_rfl
theorem m1_21 : m1 [s0, s1, s2, s3, .va (.int (21 : Nat)), .va (.exc (cn 21) d), s6, s7] t = .nx [s0, s1, s2, s3, .va (.int (21 : Nat)), .va (.exc (cn 21) d), s6, s7] t := by kernel_rfl
theorem m2_21 : m2 [s0, s1, s2, s3, .va (.int (21 : Nat)), .va (.exc (cn 21) d), s6, s7] t = .nx [s0, s1, s2, s3, .va (.int (21 : Nat)), .va (.exc (cn 21) d), s6, s7] t := by kernel_rfl
theorem g3_21 : g3 [s0, s1, s2, s3, .va (.int (21 : Nat)), .va (.exc (cn 21) d), s6, s7] t = .ok d t := by kernel_rfl
theorem m1_22 : m1 [s0, s1, s2, s3, .va (.int (22 : Nat)), .va (.exc (cn 22) d), s6, s7] t = .nx [s0, s1, s2, s3, .va (.int (22 : Nat)), .va (.exc (cn 22) d), s6, s7] t := by kernel_rfl
theorem m2_22 : m2 [s0, s1, s2, s3, .va (.int (22 : Nat)), .va (.exc (cn 22) d), s6, s7] t = .nx [s0, s1, s2, s3, .va (.int (22 : Nat)), .va (.exc (cn 22) d), s6, s7] t := by kernel_rfl
theorem g3_22 : g3 [s0, s1, s2, s3, .va (.int (22 : Nat)), .va (.exc (cn 22) d), s6, s7] t = .ok d t := by kernel_rfl
theorem m1_23 : m1 [s0, s1, s2, s3, .va (.int (23 : Nat)), .va (.exc (cn 23) d), s6, s7] t = .nx [s0, s1, s2, s3, .va (.int (23 : Nat)), .va (.exc (cn 23) d), s6, s7] t := by kernel_rfl
theorem m2_23 : m2 [s0, s1, s2, s3, .va (.int (23 : Nat)), .va (.exc (cn 23) d), s6, s7] t = .nx [s0, s1, s2, s3, .va (.int (23 : Nat)), .va (.exc (cn 23) d), s6, s7] t := by kernel_rfl
theorem g3_23 : g3 [s0, s1, s2, s3, .va (.int (23 : Nat)), .va (.exc (cn 23) d), s6, s7] t = .ok d t := by kernel_rfl
theorem m1_all : ∀ i : Nat, i < 24 → m1 [s0, s1, s2, s3, .va (.int (i : Nat)), .va (.exc (cn i) d), s6, s7] t = .nx [s0, s1, s2, s3, .va (.int (i : Nat)), .va (.exc (cn i) d), s6, s7] t
  | 0, _ => m1_0
  | 1, _ => m1_1
  | 2, _ => m1_2
  | 3, _ => m1_3
  | 4, _ => m1_4
  | 5, _ => m1_5
  | 6, _ => m1_6
  | 7, _ => m1_7
  | 8, _ => m1_8
  | 9, _ => m1_9
  | 10, _ => m1_10
  | 11, _ => m1_11
  | 12, _ => m1_12
  | 13, _ => m1_13
  | 14, _ => m1_14
  | 15, _ => m1_15
  | 16, _ => m1_16
  | 17, _ => m1_17
  | 18, _ => m1_18
  | 19, _ => m1_19
  | 20, _ => m1_20
  | 21, _ => m1_21
  | 22, _ => m1_22
  | 23, _ => m1_23
  | n + 24, h => absurd h (by omega)
theorem m2_all : ∀ i : Nat, i < 24 → m2 [s0, s1, s2, s3, .va (.int (i : Nat)), .va (.exc (cn i) d), s6, s7] t = .nx [s0, s1, s2, s3, .va (.int (i : Nat)), .va (.exc (cn i) d), s6, s7] t
  | 0, _ => m2_0
  | 1, _ => m2_1
  | 2, _ => m2_2
  | 3, _ => m2_3
  | 4, _ => m2_4
  | 5, _ => m2_5
  | 6, _ => m2_6
  | 7, _ => m2_7
  | 8, _ => m2_8
  | 9, _ => m2_9
  | 10, _ => m2_10
  | 11, _ => m2_11
  | 12, _ => m2_12
  | 13, _ => m2_13
  | 14, _ => m2_14
  | 15, _ => m2_15
  | 16, _ => m2_16
  | 17, _ => m2_17
  | 18, _ => m2_18
  | 19, _ => m2_19
  | 20, _ => m2_20
  | 21, _ => m2_21
  | 22, _ => m2_22
  | 23, _ => m2_23
  | n + 24, h => absurd h (by omega)
theorem g3_all : ∀ i : Nat, i < 24 → g3 [s0, s1, s2, s3, .va (.int (i : Nat)), .va (.exc (cn i) d), s6, s7] t = .ok d t
  | 0, _ => g3_0
  | 1, _ => g3_1
  | 2, _ => g3_2
  | 3, _ => g3_3
  | 4, _ => g3_4
  | 5, _ => g3_5
  | 6, _ => g3_6
  | 7, _ => g3_7
  | 8, _ => g3_8
  | 9, _ => g3_9
  | 10, _ => g3_10
  | 11, _ => g3_11
  | 12, _ => g3_12
  | 13, _ => g3_13
  | 14, _ => g3_14
  | 15, _ => g3_15
  | 16, _ => g3_16
  | 17, _ => g3_17
  | 18, _ => g3_18
  | 19, _ => g3_19
  | 20, _ => g3_20
  | 21, _ => g3_21
  | 22, _ => g3_22
  | 23, _ => g3_23
  | n + 24, h => absurd h (by omega)
end
theorem rz_0 (d : D) : F__law_raised [.int 0, d] () = .ok (.lst [d]) () := by kernel_rfl
theorem rz_1 (d : D) : F__law_raised [.int 1, d] () = .ok (.lst [d]) () := by kernel_rfl
theorem rz_2 (d : D) : F__law_raised [.int 2, d] () = .ok (.lst [d]) () := by kernel_rfl
theorem rz_3 (d : D) : F__law_raised [.int 3, d] () = .ok (.lst [d]) () := by kernel_rfl
theorem rz_4 (d : D) : F__law_raised [.int 4, d] () = .ok (.lst [d]) () := by kernel_rfl
theorem all_true : ∀ {xs ys : List D}, Paired (fun _ y => y = D.bl true) xs ys → allD [.lst ys] = some (.bl true) := by
  have bs : ∀ {xs ys : List D}, Paired (fun _ y => y = D.bl true) xs ys → ∃ bs, bools ys = some bs ∧ bs.all id = true := by
    intro xs ys h
    induction h with
    | nil => exact ⟨[], rfl, rfl⟩
    | cons r _ ih =>
      obtain ⟨bs, e, a⟩ := ih
      subst r
      refine ⟨true :: bs, ?_, by rw [List.all_cons, a]; rfl⟩
      show (match bools _ with | some bs => some (true :: bs) | none => none) = _
      rw [e]
  intro xs ys h
  obtain ⟨bs', e, a⟩ := bs h
  show (match bools ys with | some bs => some (D.bl (bs.all id)) | none => none) = _
  rw [e, ← a]
/-- what holds of the slots and the press between the turns -/
def J8 (p : Addr) (o : Option D) (ρ : Rho) (t : PT) : Prop := ∃ (s1 s2 s3 s4 s5 s6 s7 : Sl), ρ = [.va (.ob (.ref p)), s1, s2, s3, s4, s5, s6, s7] ∧ (∀ d, o = some d → s2 = .va d) ∧ PrOk t
abbrev inner : MS PT := sFor (iOp enums (aCons (eV 3) aNil)) (gT 2 (gsCons (gN 4) (gsCons (gN 5) gsNil))) (sSeq m1 (sSeq m2 (sIf (bNot (bVal (eCallU F__law_even (aCons g3 (aCons (eV 2) aNil))))) (sRet (eC (.bl false))) sNil)))
theorem inner_ok {p : Addr} {B k : Nat} {d : D} (h : Nice B k d) (hb : B ≤ 100000) (hk : k ≤ 100) {s1 s4 s5 s6 s7 : Sl} {t : PT} (ht : PrOk t) : ∃ ρ t', inner [.va (.ob (.ref p)), s1, .va d, .va (.lst (exL d)), s4, s5, s6, s7] t = .nx ρ t' ∧ J8 p (some d) ρ t' := by
  have en : enums [.lst (exL d)] = some (enumD (exL d)) := rfl
  obtain ⟨ρ', t', e, j⟩ := loop_inv (gm := gT 2 (gsCons (gN 4) (gsCons (gN 5) gsNil))) (b := sSeq m1 (sSeq m2 (sIf (bNot (bVal (eCallU F__law_even (aCons g3 (aCons (eV 2) aNil))))) (sRet (eC (.bl false))) sNil))) (J8 p (some d)) (enumD (exL d)) [.va (.ob (.ref p)), s1, .va d, .va (.lst (exL d)), s4, s5, s6, s7] t
    ⟨_, _, _, _, _, _, _, rfl, fun _ z => by cases z; rfl, ht⟩ (by
    intro x hx ρ t ⟨s1, s2, s3, s4, s5, s6, s7, eρ, e2, ht⟩
    subst eρ
    obtain rfl := e2 d rfl
    rw [enum_ex] at hx
    obtain ⟨i, hi, rfl⟩ := List.mem_map.mp hx
    have hi := List.mem_range.mp hi
    refine ⟨_, [.va (.ob (.ref p)), s1, .va d, s3, .va (.int (i : Nat)), .va (.exc (cn i) d), s6, s7], t, gT_eq rfl, .inl ?_, ⟨_, _, _, _, _, _, _, rfl, fun _ z => by cases z; rfl, ht⟩⟩
    simp only [List.set_cons_succ, List.set_cons_zero, sSeq_eq, m1_all i hi, qK_nx, m2_all i hi, sIf_eq, bNot_eq, bVal_eq, eCallU_eq, aCons_eq, g3_all i hi, aK_ok, eV_eq, List.getElem?_cons_succ, List.getElem?_cons_zero, vK_va, aNil_eq, aK2_ok, cuK_ok, even_ok h hb hk, unR_ok, bvK_ok, nK_ok, Bool.not_true, siK_f, sNil_eq])
  refine ⟨ρ', t', ?_, j⟩
  simp only [inner, sFor_eq, iOp_eq, aCons_eq, eV_eq, List.getElem?_cons_succ, List.getElem?_cons_zero, vK_va, aNil_eq, aK_ok, aK2_ok, ioK_ok, en, optL_s, fK_ok]
  exact e
end K1
set_option Elab.async false
set_option linter.all false
set_option maxRecDepth 100000
set_option maxHeartbeats 4000000
/-! K1I: the law answers true. -/
namespace K1
open PySem PySem.Spec PyProof.Rows L2 DW
abbrev outer : MS PT := sFor (iVal (eB mkT (aCons (eCallU F__law_by_place (aCons (eV 2) aNil)) (aCons (eCallU F__law_by_name (aCons (eV 2) aNil)) aNil)))) (gN 3) inner
theorem outer_ok {p : Addr} {B k : Nat} {d : D} (h : Nice B k d) (hb : B ≤ 100000) (hk : k ≤ 100) {s1 s3 s4 s5 s6 s7 : Sl} {t : PT} (ht : PrOk t) : ∃ ρ t', outer [.va (.ob (.ref p)), s1, .va d, s3, s4, s5, s6, s7] t = .nx ρ t' ∧ J8 p (some d) ρ t' := by
  obtain ⟨ρ', t', e, j⟩ := loop_inv (gm := gN 3) (b := inner) (J8 p (some d)) [.lst (exL d), .lst (exL d)] [.va (.ob (.ref p)), s1, .va d, s3, s4, s5, s6, s7] t
    ⟨_, _, _, _, _, _, _, rfl, fun _ z => by cases z; rfl, ht⟩ (by
    intro x hx ρ t ⟨s1, s2, s3, s4, s5, s6, s7, eρ, e2, ht⟩
    subst eρ
    obtain rfl := e2 d rfl
    have hx : x = .lst (exL d) := by
      rcases List.mem_cons.mp hx with r | r
      · exact r
      · exact List.mem_singleton.mp r
    subst hx
    obtain ⟨ρ2, t2, e3, j⟩ := inner_ok h hb hk (p := p) (s1 := s1) (s4 := s4) (s5 := s5) (s6 := s6) (s7 := s7) ht
    exact ⟨_, ρ2, t2, gN_eq, .inl e3, j⟩)
  refine ⟨ρ', t', ?_, j⟩
  have hm : mkT [.lst (exL d), .lst (exL d)] = some (.tup [.lst (exL d), .lst (exL d)]) := rfl
  have hi : itemsD (.tup [.lst (exL d), .lst (exL d)]) = some [.lst (exL d), .lst (exL d)] := rfl
  simp only [outer, sFor_eq, iVal_eq, eB_eq, eCallU_eq, aCons_eq, eV_eq, List.getElem?_cons_succ, List.getElem?_cons_zero, vK_va, aNil_eq, aK_ok, aK2_ok, cuK_ok, place_ok, name_ok, unR_ok, bK_ok, hm, opt_s, iK_ok, hi, optL_s, fK_ok]
  exact e
abbrev raises : MS PT := sIf (bNot (bVal (eB allD (aCons (eLc [7] (iOp rng1 (aCons (eC (.int 5)) aNil)) (gN 7) bYes (eCallU F__law_even (aCons (eCallU F__law_raised (aCons (eV 7) (aCons (eV 2) aNil))) (aCons (eB mkL (aCons (eV 2) aNil)) aNil)))) aNil)))) (sRet (eC (.bl false))) sNil
theorem rz_all (d : D) : ∀ i ∈ rngD 0 5, ∃ z, i = .int z ∧ F__law_raised [.int z, d] () = .ok (.lst [d]) () := by
  intro i hi
  have : rngD 0 5 = [.int 0, .int 1, .int 2, .int 3, .int 4] := by kernel_rfl
  rw [this] at hi
  simp only [List.mem_cons, List.not_mem_nil, or_false] at hi
  rcases hi with rfl | rfl | rfl | rfl | rfl
  · exact ⟨_, rfl, rz_0 d⟩
  · exact ⟨_, rfl, rz_1 d⟩
  · exact ⟨_, rfl, rz_2 d⟩
  · exact ⟨_, rfl, rz_3 d⟩
  · exact ⟨_, rfl, rz_4 d⟩
theorem raises_ok {p : Addr} {B k : Nat} {d : D} (h : Nice B k d) (hb : B ≤ 10000) (hk : k ≤ 90) {s1 s3 s4 s5 s6 s7 : Sl} {t : PT} (ht : PrOk t) : ∃ ρ t', raises [.va (.ob (.ref p)), s1, .va d, s3, s4, s5, s6, s7] t = .nx ρ t' ∧ J8 p none ρ t' := by
  have nl : Nice (3 * B + 9) (k + 1) (.lst [d]) := nice_lst' (niceL_of fun y m => by rw [List.mem_singleton.mp m]; exact h) (by show 1 ≤ 3; decide)
  have ev := even_ok nl (by omega) (by omega)
  obtain ⟨ys, t', e, ht', pr⟩ := lc_map (T := PT) (gm := gN 7) (f := eCallU F__law_even (aCons (eCallU F__law_raised (aCons (eV 7) (aCons (eV 2) aNil))) (aCons (eB mkL (aCons (eV 2) aNil)) aNil))) (ρ := [.va (.ob (.ref p)), s1, .va d, s3, s4, s5, s6, .un]) (J := PrOk) (R := fun _ y => y = .bl true)
    (rngD 0 5) [] t ht (by rw [rngD_len, sizeLine_eq]; decide) fun i hi t ht => by
      obtain ⟨z, rfl, er⟩ := rz_all d i hi
      have ml : mkL [d] = some (.lst [d]) := rfl
      refine ⟨_, _, t, gN_eq, ?_, rfl, ht⟩
      simp only [eV_eq, List.set_cons_succ, List.set_cons_zero, List.getElem?_cons_succ, List.getElem?_cons_zero, vK_va, aCons_eq, aNil_eq, aK_ok, aK2_ok, eCallU_eq, cuK_ok, er, unR_ok, eB_eq, bK_ok, ml, opt_s, ev]
  have at' := all_true pr
  have rg : rng1 [.int 5] = some (rngD 0 5) := by kernel_rfl
  rw [List.nil_append] at e
  refine ⟨[.va (.ob (.ref p)), s1, .va d, s3, s4, s5, s6, s7], t', ?_, ⟨_, _, _, _, _, _, _, rfl, (fun _ z => nomatch z), ht'⟩⟩
  simp only [raises, sIf_eq, bNot_eq, bVal_eq, eB_eq, aCons_eq, eLc_eq, iOp_eq, eC_eq, aNil_eq, aK_ok, aK2_ok, ioK_ok, rg, optL_s, lcK_ok, wipeR, List.set_cons_succ, List.set_cons_zero]
  rw [e]
  simp only [okL_ok, aNil_eq, aK_ok, aK2_ok, bK_ok, at', opt_s, bvK_ok, nK_ok, Bool.not_true, siK_f, sNil_eq]
theorem holds_ok (p : Addr) (t : PT) (ht : PrOk t) : ∃ t', F__law_holds_all p [.ob (.ref p)] t = .ok (.bl true) t' ∧ PrOk t' := by
  rw [show F__law_holds_all p [.ob (.ref p)] t = _ from defF_eq rfl]
  obtain ⟨ρ', t', e, j⟩ := loop_inv (gm := gN 1) (b := sSeq (sSet 2 (eCall (F__law_thing p) (aCons (eV 0) (aCons (eC (.int 2)) aNil)))) (sSeq outer raises)) (J8 p none) (rngD 0 4) [.va (.ob (.ref p)), .un, .un, .un, .un, .un, .un, .un] t
    ⟨_, _, _, _, _, _, _, rfl, (fun _ z => nomatch z), ht⟩ (by
    intro x hx ρ t ⟨s1, s2, s3, s4, s5, s6, s7, eρ, e2, ht⟩
    subst eρ
    obtain ⟨d, t1, e1, nd, ht1⟩ := thing_ok p 3 2 t (by decide) ht
    have e1 : F__law_thing p [.ob (.ref p), .int 2] t = .ok d t1 := e1
    have hb : Bd 2 ≤ 10000 := by decide
    have hk : Kd 2 ≤ 90 := by decide
    obtain ⟨ρ2, t2, e3, s1', s2', s3', s4', s5', s6', s7', eρ2, ed, ht2⟩ := outer_ok nd (by omega) (by omega) (p := p) (s1 := .va x) (s3 := s3) (s4 := s4) (s5 := s5) (s6 := s6) (s7 := s7) ht1
    subst eρ2
    obtain rfl := ed d rfl
    obtain ⟨ρ3, t3, e4, j⟩ := raises_ok nd hb hk (p := p) (s1 := s1') (s3 := s3') (s4 := s4') (s5 := s5') (s6 := s6') (s7 := s7') ht2
    refine ⟨_, ρ3, t3, gN_eq, .inl ?_, j⟩
    simp only [sSeq_eq, sSet_eq, eCall_eq, aCons_eq, eV_eq, List.set_cons_succ, List.set_cons_zero, List.getElem?_cons_succ, List.getElem?_cons_zero, vK_va, eC_eq, aNil_eq, aK_ok, aK2_ok, cK_ok, e1, setK_ok, qK_nx, e3, e4])
  obtain ⟨s1, s2, s3, s4, s5, s6, s7, eρ, -, ht'⟩ := j
  refine ⟨t', ?_, ht'⟩
  have rg : rng1 [.int 4] = some (rngD 0 4) := by kernel_rfl
  unfold b__law_holds_all
  simp only [sSeq_eq, sFor_eq, iOp_eq, aCons_eq, eC_eq, aNil_eq, aK_ok, aK2_ok, ioK_ok, rg, optL_s, fK_ok, List.map_cons, List.map_nil, List.replicate_succ, List.replicate_zero, List.cons_append, List.nil_append]
  rw [e]
  simp only [qK_nx, sRet_eq, eC_eq, retK_ok, endR_rt]
theorem isInts_map : ∀ ns : List Int, isInts (ns.map .int) = true
  | [] => rfl
  | _ :: t => isInts_map t
theorem law_ok (ns : List Int) (hn : ns.length ≤ 63) : F_law [.fls (ns.map .int)] () = .ok (.bl true) () := by
  have ro : ∀ z : Int, z = 0 ∨ z = 1 → runOk [.fls (ns.map .int), .int z] = true := by
    intro z hz
    show (isInts _ && (decide (_ ≤ 63) && (decide (z = 0) || decide (z = 1)))) = true
    rw [isInts_map, List.length_map, decide_eq_true hn]
    rcases hz with rfl | rfl <;> rfl
  rw [show F_law [.fls (ns.map .int)] () = _ from defF_eq rfl]
  obtain ⟨ys, t', e, -, pr⟩ := lc_map (T := Unit) (gm := gN 1) (f := eRun (aCons (eV 0) (aCons (eV 1) aNil))) (ρ := [.va (.fls (ns.map .int)), .un]) (J := fun _ => True) (R := fun _ y => y = .bl true)
    [.int 0, .int 1] [] () trivial (by rw [sizeLine_eq]; decide) fun i hi t _ => by
      have : ∃ z : Int, i = .int z ∧ (z = 0 ∨ z = 1) := by
        rcases List.mem_cons.mp hi with r | r
        · exact ⟨0, r, .inl rfl⟩
        · exact ⟨1, List.mem_singleton.mp r, .inr rfl⟩
      obtain ⟨z, rfl, hz⟩ := this
      refine ⟨_, _, t, gN_eq, ?_, rfl, trivial⟩
      simp only [eRun_eq, aCons_eq, eV_eq, List.set_cons_succ, List.set_cons_zero, List.getElem?_cons_succ, List.getElem?_cons_zero, vK_va, aNil_eq, aK_ok, aK2_ok, erK_ok (ro z hz)]
  have at' := all_true pr
  have hm : mkT [.int 0, .int 1] = some (.tup [.int 0, .int 1]) := rfl
  have hi : itemsD (.tup [.int 0, .int 1]) = some [.int 0, .int 1] := rfl
  rw [List.nil_append] at e
  unfold b_law
  simp only [sRet_eq, eB_eq, aCons_eq, eLc_eq, iVal_eq, eC_eq, aNil_eq, aK_ok, aK2_ok, bK_ok, hm, opt_s, iK_ok, hi, optL_s, lcK_ok, wipeR, List.map_cons, List.map_nil, List.replicate_succ, List.replicate_zero, List.cons_append, List.nil_append, List.set_cons_succ, List.set_cons_zero]
  rw [e]
  simp only [okL_ok, aNil_eq, aK_ok, aK2_ok, bK_ok, at', opt_s, retK_ok, endR_rt]
end K1
set_option Elab.async false
set_option linter.all false
set_option maxRecDepth 100000
set_option maxHeartbeats 4000000
/-! K1J: what the head must tell, and the structures out of it. -/
namespace K1
open PySem PySem.Spec PyProof.Rows L2 DW
def dfD (x : Str) (i : Nat) : He.DefD := ⟨(x, none), x, x, defArgs (top i), defBody (top i), defScope (top i), [], []⟩
def inD (x : Str) (q : Str) (i : Nat) : He.DefD := ⟨(x, some "__init__"), "__init__", q, defArgs (inClass (top i) 0), defBody (inClass (top i) 0), defScope (inClass (top i) 0), [], []⟩
def fnL_0 : List He.DefD := [dfD "_law_press" 27, dfD "_law_out" 28, dfD "_law_of" 29, dfD "_law_even" 30, dfD "_law_thing" 31, dfD "_law_by_place" 32, dfD "_law_by_name" 33, dfD "_law_classes" 34, dfD "_law_raised" 35, dfD "_law_holds_all" 36, dfD "law" 37, inD "InvalidForest" "InvalidForest.__init__" 2, inD "InvalidPlace" "InvalidPlace.__init__" 3, inD "InvalidMark" "InvalidMark.__init__" 4, inD "InvalidDye" "InvalidDye.__init__" 5, inD "InvalidDyeing" "InvalidDyeing.__init__" 6]
def fnL_1 : List He.DefD := [inD "InvalidSaying" "InvalidSaying.__init__" 7, inD "InvalidWish" "InvalidWish.__init__" 8, inD "InvalidPrices" "InvalidPrices.__init__" 9, inD "InvalidKind" "InvalidKind.__init__" 10, inD "InvalidLot" "InvalidLot.__init__" 11, inD "InvalidChart" "InvalidChart.__init__" 12, inD "InvalidNumber" "InvalidNumber.__init__" 13, inD "InvalidPages" "InvalidPages.__init__" 14, inD "InvalidDeed" "InvalidDeed.__init__" 15, inD "InvalidTree" "InvalidTree.__init__" 16, inD "InvalidName" "InvalidName.__init__" 17, inD "InvalidText" "InvalidText.__init__" 18, inD "InvalidLine" "InvalidLine.__init__" 19, inD "DoesNotFit" "DoesNotFit.__init__" 20, inD "InvalidSayings" "InvalidSayings.__init__" 21, inD "InvalidSoil" "InvalidSoil.__init__" 22]
def fnL_2 : List He.DefD := [inD "InvalidPins" "InvalidPins.__init__" 23, inD "InvalidDeeds" "InvalidDeeds.__init__" 24, inD "InvalidLines" "InvalidLines.__init__" 25]
def fnL : List He.DefD := fnL_0 ++ fnL_1 ++ fnL_2
def faL_0 : List He.Fa := [.glo "DyeError", .glo "InvalidForest", .glo "InvalidPlace", .glo "InvalidMark", .glo "InvalidDye", .glo "InvalidDyeing", .glo "InvalidSaying", .glo "InvalidWish", .glo "InvalidPrices", .glo "InvalidKind", .glo "InvalidLot", .glo "InvalidChart", .glo "InvalidNumber", .glo "InvalidPages", .glo "InvalidDeed", .glo "InvalidTree"]
def faL_1 : List He.Fa := [.glo "InvalidName", .glo "InvalidText", .glo "InvalidLine", .glo "DoesNotFit", .glo "InvalidSayings", .glo "InvalidSoil", .glo "InvalidPins", .glo "InvalidDeeds", .glo "InvalidLines", .glo "_law_press", .glo "_law_out", .glo "_law_of", .glo "_law_even", .glo "_law_thing", .glo "_law_by_place", .glo "_law_by_name"]
def faL_2 : List He.Fa := [.glo "_law_classes", .glo "_law_raised", .glo "_law_holds_all", .glo "law", .free "ArithmeticError", .free "LookupError", .free "RuntimeError", .free "TypeError", .free "ValueError", .free "abs", .free "all", .free "enumerate", .free "int", .free "isinstance", .free "len", .free "list"]
def faL_3 : List He.Fa := [.free "range", .free "repr", .free "tuple"]
def faL : List He.Fa := faL_0 ++ faL_1 ++ faL_2 ++ faL_3
/-! ### the tests of the classes -/
def shapeB (K : PySem.W.Frag) (C : Addr) : Bool := match K.lookup C with
  | some ⟨.type "type", _, .cls cl, slots⟩ => (match cl.mro, slots.toList with
    | .ref D :: up, [_, _, _, _, some (.builtin new), _] => (decide (D = C) && decide (new = "ValueError.__new__")) && ((cl.hasDict && !cl.hasDel) && PySem.HandSPX.refsVE up)
    | _, _ => false)
  | _ => false
theorem shapeB_ok {K : PySem.W.Frag} {C : Addr} (h : shapeB K C = true) : ∃ nm q N bs bm sn sub ab col dd k0 k1 k2 k3 k5, K.lookup C = some (excClassObj nm q C N bs bm true sn sub ab col dd k0 k1 k2 k3 k5 "ValueError.__new__") ∧ PySem.HandSPX.refsVE bm = true := by
  unfold shapeB at h
  split at h
  · rename_i dct cl slots look
    split at h
    · rename_i D up s0 s1 s2 s3 new s5 em es
      obtain ⟨ha, hb⟩ := Bool.and_eq_true_iff.mp h
      obtain ⟨h1, h2⟩ := Bool.and_eq_true_iff.mp ha
      obtain ⟨hc, h5⟩ := Bool.and_eq_true_iff.mp hb
      obtain ⟨h3, h4⟩ := Bool.and_eq_true_iff.mp hc
      have h1 := of_decide_eq_true h1
      have h2 := of_decide_eq_true h2
      subst h1 h2
      rcases cl with ⟨cnm, cbs, cmro, cns, cqn, chd, csn, csub, cab, ccol, cdel⟩
      rcases slots with ⟨ls⟩
      dsimp only at em es h3 h4
      subst em h3 es
      cases cdel with
      | true => cases h4
      | false => exact ⟨cnm, cqn, cns, cbs, up, csn, csub, cab, ccol, dct, s0, s1, s2, s3, s5, look, h5⟩
    · cases h
  · cases h
def oneB (K : PySem.W.Frag) (C I : Addr) (f : Str) : Bool :=
  shapeB K C && (He.eqO (PySem.W.findIn K (.ref C) "__setattr__") (some (some (.builtin "object.__setattr__"))) && (decide (PySem.W.typeIn K (.ref C) = some (.type "type")) && (PySem.W.keepIn K (.ref C) &&
  (He.eqO (PySem.W.findIn K (.ref C) "__init__") (some (some (.ref I))) && (decide (PySem.W.typeIn K (.ref I) = some (.type "function")) && (He.eqO (PySem.W.findIn K (.ref C) f) (some none) && (xfB K C &&
  (He.eqO (PySem.W.findIn K (.ref C) "__class__") (some (some (.builtin "object.__class__"))) && decide (PySem.W.mroIn K C (.type "object") = some true)))))))))
def gsB (K : PySem.W.Frag) : Bool := He.eqO (PySem.W.specialIn K (.builtin "object.__class__") "__get__") (some (some (.builtin "getset_descriptor.__get__"))) && decide (PySem.W.takesIn K (.builtin "object.__class__") = some true)
theorem oneB_ok {K : PySem.W.Frag} {mg : Str → Option Value} {x f : Str} {C I : Addr} (hs : gsB K = true) (hg : mg x = some (.ref C)) (h : oneB K C I f = true) : ClsF K mg x C I f := by
  obtain ⟨g1, g2⟩ := He.ba hs
  obtain ⟨h1, h⟩ := He.ba h
  obtain ⟨h2, h⟩ := He.ba h
  obtain ⟨h3, h⟩ := He.ba h
  obtain ⟨h4, h⟩ := He.ba h
  obtain ⟨h5, h⟩ := He.ba h
  obtain ⟨h6, h⟩ := He.ba h
  obtain ⟨h7, h⟩ := He.ba h
  obtain ⟨h8, h⟩ := He.ba h
  obtain ⟨h9, hA⟩ := He.ba h
  have xf := xfB_ok h8
  exact ⟨⟨shapeB_ok h1, He.eqO_ok h2, xf.exC, of_decide_eq_true h3, h4⟩, He.eqO_ok h5, of_decide_eq_true h6, He.eqO_ok h7, hg, xf, ⟨xf.ga, xf.gg, xf.exC, xf.hdC, He.eqO_ok h9, He.eqO_ok g1, of_decide_eq_true g2, of_decide_eq_true hA⟩⟩
def clsB (K : PySem.W.Frag) : Bool := clsL.all fun p => oneB K (He.ga K p.1) (He.ma K (He.ga K p.1) "__init__") p.2
def isiB (K : PySem.W.Frag) : Bool := askO.all fun x => clsL.all fun p => decide (PySem.W.kitOne K (.ref (He.ga K p.1)) (.ref (He.ga K x)) = some (decide (x = p.1) || decide (x = "DyeError")))
def isbB (K : PySem.W.Frag) : Bool := askB.all fun x => clsL.all fun p => decide (PySem.W.kitOne K (.ref (He.ga K p.1)) (.type x) = some (decide (x = "ValueError")))
def exmB (K : PySem.W.Frag) : Bool := hdlL.all fun x => clsL.all fun p => decide (PySem.W.exmOne K (.ref (He.ga K p.1)) (.ref (He.ga K x)) = some (decide (x = p.1) || decide (x = "DyeError")))
def exT (K : PySem.W.Frag) : Bool := gsB K && (clsB K && (isiB K && (isbB K && exmB K)))
/-! ### out of the tests -/
section
variable {K : PySem.W.Frag}
theorem lookup_mem {c f : Str} : ∀ {l : List (Str × Str)}, l.lookup c = some f → (c, f) ∈ l
  | [], h => by cases h
  | (c', f') :: l, h => by
    by_cases e : c = c'
    · subst e
      rw [List.lookup_cons_self] at h
      cases h
      exact List.mem_cons_self
    · rw [List.lookup_cons, beq_eq_false_iff_ne.mpr e] at h
      exact List.mem_cons_of_mem _ (lookup_mem h)
theorem zn_cl {c f : Str} {C : Addr} (h : (zn K).cl c = some (C, f)) : caF c = some f ∧ C = He.ga K c := by
  have h : (caF c).map (fun f => (He.ga K c, f)) = some (C, f) := h
  cases e : caF c with
  | none => rw [e] at h; cases h
  | some f' => rw [e] at h; cases h; exact ⟨rfl, rfl⟩
theorem zn_mem {c f : Str} {C : Addr} (h : (zn K).cl c = some (C, f)) : (c, f) ∈ clsL := lookup_mem (zn_cl h).1
theorem isi_of (h : isiB K = true) (x : Str) (hx : x ∈ askO) (c : Str) (C : Addr) (f : Str) (b : Bool) (hc : (zn K).cl c = some (C, f)) (hb : isT true x c = some b) : PySem.W.kitOne K (.ref C) (.ref (He.ga K x)) = some b := by
  have z := of_decide_eq_true (List.all_eq_true.mp (List.all_eq_true.mp h x hx) _ (zn_mem hc))
  obtain ⟨e1, rfl⟩ := zn_cl hc
  unfold isT at hb
  rw [e1] at hb
  cases hb
  exact z
theorem isb_of (h : isbB K = true) (x : String) (hx : x ∈ askB) (c : Str) (C : Addr) (f : Str) (b : Bool) (hc : (zn K).cl c = some (C, f)) (hb : isT false x c = some b) (hd : decide ((x : Str) = ("ValueError" : Str)) = decide (x = "ValueError")) : PySem.W.kitOne K (.ref C) (.type x) = some b := by
  have z := of_decide_eq_true (List.all_eq_true.mp (List.all_eq_true.mp h x hx) _ (zn_mem hc))
  obtain ⟨e1, rfl⟩ := zn_cl hc
  unfold isT at hb
  rw [e1] at hb
  cases hb
  exact z.trans (congrArg some hd.symm)
theorem exm_of (h : exmB K = true) (x : Str) (hx : x ∈ hdlL) (c : Str) (C : Addr) (f : Str) (b : Bool) (hc : (zn K).cl c = some (C, f)) (hb : isT true x c = some b) : PySem.W.exmOne K (.ref C) (.ref (He.ga K x)) = some b := by
  have z := of_decide_eq_true (List.all_eq_true.mp (List.all_eq_true.mp h x hx) _ (zn_mem hc))
  obtain ⟨e1, rfl⟩ := zn_cl hc
  unfold isT at hb
  rw [e1] at hb
  cases hb
  exact z
theorem ask_all : (clsL.all fun p => decide (p.1 ∈ askO) && decide (p.1 ≠ "DyeError")) = true := by decide +kernel
theorem askB_all : (askB.all fun x => decide ((x : Str) = ("ValueError" : Str)) == decide (x = "ValueError")) = true := by decide +kernel
theorem cls_of {mg : Str → Option Value} (h : exT K = true) {c f : Str} (m : (c, f) ∈ clsL) (hg : mg c = some (.ref (He.ga K c))) : ClsF K mg c (He.ga K c) (He.ma K (He.ga K c) "__init__") f := by
  obtain ⟨h1, h⟩ := He.ba h
  obtain ⟨h2, h⟩ := He.ba h
  exact oneB_ok h1 hg (List.all_eq_true.mp h2 _ m)
theorem tab_of (h : exT K = true) : Tab K (zn K) caF := by
  have cl : ∀ c C f, (zn K).cl c = some (C, f) → ClsF K (fun _ => some (.ref C)) c C (He.ma K C "__init__") f := fun c C f hc => by
    have m := zn_mem hc
    obtain ⟨e1, rfl⟩ := zn_cl hc
    exact cls_of h m rfl
  refine ⟨fun c f hc => ⟨He.ga K c, ?_⟩, fun c C f hc => (cl c C f hc).no, fun c C f hc => (cl c C f hc).xf, fun c C f hc => (cl c C f hc).ex, fun c c' C C' f f' h1 h2 e => ?_⟩
  · show (caF c).map _ = _
    rw [hc]; rfl
  · obtain ⟨-, h⟩ := He.ba h
    obtain ⟨-, h⟩ := He.ba h
    obtain ⟨hi, -⟩ := He.ba h
    have m := zn_mem h2
    obtain ⟨a1, a2⟩ := He.ba (List.all_eq_true.mp ask_all _ m)
    have z := of_decide_eq_true (List.all_eq_true.mp (List.all_eq_true.mp hi c' (of_decide_eq_true a1)) _ (zn_mem h1))
    obtain ⟨-, rfl⟩ := zn_cl h1
    obtain ⟨-, rfl⟩ := zn_cl h2
    rw [← e] at z
    have s : PySem.W.kitOne K (.ref (He.ga K c)) (.ref (He.ga K c)) = some true := if_pos (beq_self_eq_true _)
    have z : some (decide (c' = c) || decide (c' = "DyeError")) = some true := z.symm.trans s
    rcases Bool.or_eq_true_iff.mp (Option.some.inj z) with q | q
    · exact (of_decide_eq_true q).symm
    · exact absurd (of_decide_eq_true q) (of_decide_eq_true a2)
/-! ### __init__ -/
theorem ini_of {P : Program} {w : World} {mg : Str → Option Value} {base : Heap} {t : Stmt} {qual f : Str} {C fI : Addr} {fd : FuncData} {p1 p2 p3 p4 : Pos} (T : OexC K C) (no : PySem.W.findIn K (.ref C) f = some none) (F : FunD K "__init__" qual (defArgs t) (defBody t) (defScope t) [] [] fI fd)
    (S : FnScope ["self", f] ["self", f] (defScope t)) (hb : defBody t = [.Assign [.Attribute (.Name "self" p1) f p2] (.Name f p3) p4]) (hs : Vis (defScope t) "self") (hf : Vis (defScope t) f) (hd : ((f : Str) == ("__debug__" : Str)) = false) (hd2 : ((f : Str) == ("__classdict__" : Str)) = false)
    (bnd : ∀ (s : Shared) (a u : Value) (kw : Bool), BindsTo s fd (selfOf a f kw u) [("self", a), (f, u)]) : IniF P w K mg base C fI f := by
  refine ⟨fd, ?_, bnd⟩
  refine F.ok S (fun vs H Q E h => ?_) fun cdv A outer s H vs Q E hr h => ⟨tOst K f (tVar 0) (tVar 1), ?_, ?_⟩
  · obtain ⟨a, v, rfl, _⟩ := h
    rfl
  · rw [hb]
    exact pss_one (ps_ost (pv 0 rfl hs) (pv 1 rfl hf hd hd2))
  · obtain ⟨a, v, rfl, ha, q⟩ := h
    exact ⟨_, rfl, _, rfl, a, C, rfl, T, no, .inl ⟨ha, q⟩⟩
end
theorem sci_InvalidForest : FnScope ["self", "given"] ["self", "given"] (defScope t_InvalidForest) := ⟨rfl, rfl, rfl, by decide +kernel, rfl, by decide +kernel, by decide +kernel⟩
theorem sci_InvalidPlace : FnScope ["self", "given"] ["self", "given"] (defScope t_InvalidPlace) := ⟨rfl, rfl, rfl, by decide +kernel, rfl, by decide +kernel, by decide +kernel⟩
theorem sci_InvalidMark : FnScope ["self", "given"] ["self", "given"] (defScope t_InvalidMark) := ⟨rfl, rfl, rfl, by decide +kernel, rfl, by decide +kernel, by decide +kernel⟩
theorem sci_InvalidDye : FnScope ["self", "given"] ["self", "given"] (defScope t_InvalidDye) := ⟨rfl, rfl, rfl, by decide +kernel, rfl, by decide +kernel, by decide +kernel⟩
theorem sci_InvalidDyeing : FnScope ["self", "given"] ["self", "given"] (defScope t_InvalidDyeing) := ⟨rfl, rfl, rfl, by decide +kernel, rfl, by decide +kernel, by decide +kernel⟩
theorem sci_InvalidSaying : FnScope ["self", "given"] ["self", "given"] (defScope t_InvalidSaying) := ⟨rfl, rfl, rfl, by decide +kernel, rfl, by decide +kernel, by decide +kernel⟩
theorem sci_InvalidWish : FnScope ["self", "given"] ["self", "given"] (defScope t_InvalidWish) := ⟨rfl, rfl, rfl, by decide +kernel, rfl, by decide +kernel, by decide +kernel⟩
theorem sci_InvalidPrices : FnScope ["self", "given"] ["self", "given"] (defScope t_InvalidPrices) := ⟨rfl, rfl, rfl, by decide +kernel, rfl, by decide +kernel, by decide +kernel⟩
theorem sci_InvalidKind : FnScope ["self", "given"] ["self", "given"] (defScope t_InvalidKind) := ⟨rfl, rfl, rfl, by decide +kernel, rfl, by decide +kernel, by decide +kernel⟩
theorem sci_InvalidLot : FnScope ["self", "given"] ["self", "given"] (defScope t_InvalidLot) := ⟨rfl, rfl, rfl, by decide +kernel, rfl, by decide +kernel, by decide +kernel⟩
theorem sci_InvalidChart : FnScope ["self", "given"] ["self", "given"] (defScope t_InvalidChart) := ⟨rfl, rfl, rfl, by decide +kernel, rfl, by decide +kernel, by decide +kernel⟩
theorem sci_InvalidNumber : FnScope ["self", "given"] ["self", "given"] (defScope t_InvalidNumber) := ⟨rfl, rfl, rfl, by decide +kernel, rfl, by decide +kernel, by decide +kernel⟩
theorem sci_InvalidPages : FnScope ["self", "given"] ["self", "given"] (defScope t_InvalidPages) := ⟨rfl, rfl, rfl, by decide +kernel, rfl, by decide +kernel, by decide +kernel⟩
theorem sci_InvalidDeed : FnScope ["self", "given"] ["self", "given"] (defScope t_InvalidDeed) := ⟨rfl, rfl, rfl, by decide +kernel, rfl, by decide +kernel, by decide +kernel⟩
theorem sci_InvalidTree : FnScope ["self", "given"] ["self", "given"] (defScope t_InvalidTree) := ⟨rfl, rfl, rfl, by decide +kernel, rfl, by decide +kernel, by decide +kernel⟩
theorem sci_InvalidName : FnScope ["self", "given"] ["self", "given"] (defScope t_InvalidName) := ⟨rfl, rfl, rfl, by decide +kernel, rfl, by decide +kernel, by decide +kernel⟩
theorem sci_InvalidText : FnScope ["self", "given"] ["self", "given"] (defScope t_InvalidText) := ⟨rfl, rfl, rfl, by decide +kernel, rfl, by decide +kernel, by decide +kernel⟩
theorem sci_InvalidLine : FnScope ["self", "given"] ["self", "given"] (defScope t_InvalidLine) := ⟨rfl, rfl, rfl, by decide +kernel, rfl, by decide +kernel, by decide +kernel⟩
theorem sci_DoesNotFit : FnScope ["self", "given"] ["self", "given"] (defScope t_DoesNotFit) := ⟨rfl, rfl, rfl, by decide +kernel, rfl, by decide +kernel, by decide +kernel⟩
theorem sci_InvalidSayings : FnScope ["self", "index"] ["self", "index"] (defScope t_InvalidSayings) := ⟨rfl, rfl, rfl, by decide +kernel, rfl, by decide +kernel, by decide +kernel⟩
theorem sci_InvalidSoil : FnScope ["self", "index"] ["self", "index"] (defScope t_InvalidSoil) := ⟨rfl, rfl, rfl, by decide +kernel, rfl, by decide +kernel, by decide +kernel⟩
theorem sci_InvalidPins : FnScope ["self", "index"] ["self", "index"] (defScope t_InvalidPins) := ⟨rfl, rfl, rfl, by decide +kernel, rfl, by decide +kernel, by decide +kernel⟩
theorem sci_InvalidDeeds : FnScope ["self", "index"] ["self", "index"] (defScope t_InvalidDeeds) := ⟨rfl, rfl, rfl, by decide +kernel, rfl, by decide +kernel, by decide +kernel⟩
theorem sci_InvalidLines : FnScope ["self", "index"] ["self", "index"] (defScope t_InvalidLines) := ⟨rfl, rfl, rfl, by decide +kernel, rfl, by decide +kernel, by decide +kernel⟩
section
variable {P : Program} {w : World} {K : PySem.W.Frag} {h : Heap} {mg : Str → Option Value} {base : Heap}
theorem fx_of (X : K.In h) (G : h.Ns mainGlobals mg) (c : SaysX exT faL fnL K) : Fx K mg := by
  obtain ⟨t1, hh⟩ := He.ba c.x
  obtain ⟨t2, hh⟩ := He.ba hh
  obtain ⟨t3, hh⟩ := He.ba hh
  obtain ⟨t4, t5⟩ := He.ba hh
  exact ⟨(He.free_ok X G (c.d.fact 36 (f := .free "ArithmeticError") rfl)), (He.free_ok X G (c.d.fact 37 (f := .free "LookupError") rfl)), (He.free_ok X G (c.d.fact 38 (f := .free "RuntimeError") rfl)), (He.free_ok X G (c.d.fact 39 (f := .free "TypeError") rfl)), (He.free_ok X G (c.d.fact 40 (f := .free "ValueError") rfl)), (He.free_ok X G (c.d.fact 41 (f := .free "abs") rfl)), (He.free_ok X G (c.d.fact 42 (f := .free "all") rfl)), (He.free_ok X G (c.d.fact 43 (f := .free "enumerate") rfl)), (He.free_ok X G (c.d.fact 44 (f := .free "int") rfl)), (He.free_ok X G (c.d.fact 45 (f := .free "isinstance") rfl)), (He.free_ok X G (c.d.fact 46 (f := .free "len") rfl)), (He.free_ok X G (c.d.fact 47 (f := .free "list") rfl)), (He.free_ok X G (c.d.fact 48 (f := .free "range") rfl)), (He.free_ok X G (c.d.fact 49 (f := .free "repr") rfl)), (He.free_ok X G (c.d.fact 50 (f := .free "tuple") rfl)), (tab_of c.x), (isi_of t3), (fun x hx cc C f b hc hb => isb_of t4 x hx cc C f b hc hb (beq_iff_eq.mp (List.all_eq_true.mp askB_all x hx))), (exm_of t5), (He.glo_ok X G (c.d.fact 0 (f := .glo "DyeError") rfl)), (He.glo_ok X G (c.d.fact 1 (f := .glo "InvalidForest") rfl)), (cls_of c.x (f := "given") (lookup_mem ca_InvalidForest) (He.glo_ok X G (c.d.fact 1 (f := .glo "InvalidForest") rfl))), (He.glo_ok X G (c.d.fact 2 (f := .glo "InvalidPlace") rfl)), (cls_of c.x (f := "given") (lookup_mem ca_InvalidPlace) (He.glo_ok X G (c.d.fact 2 (f := .glo "InvalidPlace") rfl))), (He.glo_ok X G (c.d.fact 3 (f := .glo "InvalidMark") rfl)), (cls_of c.x (f := "given") (lookup_mem ca_InvalidMark) (He.glo_ok X G (c.d.fact 3 (f := .glo "InvalidMark") rfl))), (He.glo_ok X G (c.d.fact 4 (f := .glo "InvalidDye") rfl)), (cls_of c.x (f := "given") (lookup_mem ca_InvalidDye) (He.glo_ok X G (c.d.fact 4 (f := .glo "InvalidDye") rfl))), (He.glo_ok X G (c.d.fact 5 (f := .glo "InvalidDyeing") rfl)), (cls_of c.x (f := "given") (lookup_mem ca_InvalidDyeing) (He.glo_ok X G (c.d.fact 5 (f := .glo "InvalidDyeing") rfl))), (He.glo_ok X G (c.d.fact 6 (f := .glo "InvalidSaying") rfl)), (cls_of c.x (f := "given") (lookup_mem ca_InvalidSaying) (He.glo_ok X G (c.d.fact 6 (f := .glo "InvalidSaying") rfl))), (He.glo_ok X G (c.d.fact 7 (f := .glo "InvalidWish") rfl)), (cls_of c.x (f := "given") (lookup_mem ca_InvalidWish) (He.glo_ok X G (c.d.fact 7 (f := .glo "InvalidWish") rfl))), (He.glo_ok X G (c.d.fact 8 (f := .glo "InvalidPrices") rfl)), (cls_of c.x (f := "given") (lookup_mem ca_InvalidPrices) (He.glo_ok X G (c.d.fact 8 (f := .glo "InvalidPrices") rfl))), (He.glo_ok X G (c.d.fact 9 (f := .glo "InvalidKind") rfl)), (cls_of c.x (f := "given") (lookup_mem ca_InvalidKind) (He.glo_ok X G (c.d.fact 9 (f := .glo "InvalidKind") rfl))), (He.glo_ok X G (c.d.fact 10 (f := .glo "InvalidLot") rfl)), (cls_of c.x (f := "given") (lookup_mem ca_InvalidLot) (He.glo_ok X G (c.d.fact 10 (f := .glo "InvalidLot") rfl))), (He.glo_ok X G (c.d.fact 11 (f := .glo "InvalidChart") rfl)), (cls_of c.x (f := "given") (lookup_mem ca_InvalidChart) (He.glo_ok X G (c.d.fact 11 (f := .glo "InvalidChart") rfl))), (He.glo_ok X G (c.d.fact 12 (f := .glo "InvalidNumber") rfl)), (cls_of c.x (f := "given") (lookup_mem ca_InvalidNumber) (He.glo_ok X G (c.d.fact 12 (f := .glo "InvalidNumber") rfl))), (He.glo_ok X G (c.d.fact 13 (f := .glo "InvalidPages") rfl)), (cls_of c.x (f := "given") (lookup_mem ca_InvalidPages) (He.glo_ok X G (c.d.fact 13 (f := .glo "InvalidPages") rfl))), (He.glo_ok X G (c.d.fact 14 (f := .glo "InvalidDeed") rfl)), (cls_of c.x (f := "given") (lookup_mem ca_InvalidDeed) (He.glo_ok X G (c.d.fact 14 (f := .glo "InvalidDeed") rfl))), (He.glo_ok X G (c.d.fact 15 (f := .glo "InvalidTree") rfl)), (cls_of c.x (f := "given") (lookup_mem ca_InvalidTree) (He.glo_ok X G (c.d.fact 15 (f := .glo "InvalidTree") rfl))), (He.glo_ok X G (c.d.fact 16 (f := .glo "InvalidName") rfl)), (cls_of c.x (f := "given") (lookup_mem ca_InvalidName) (He.glo_ok X G (c.d.fact 16 (f := .glo "InvalidName") rfl))), (He.glo_ok X G (c.d.fact 17 (f := .glo "InvalidText") rfl)), (cls_of c.x (f := "given") (lookup_mem ca_InvalidText) (He.glo_ok X G (c.d.fact 17 (f := .glo "InvalidText") rfl))), (He.glo_ok X G (c.d.fact 18 (f := .glo "InvalidLine") rfl)), (cls_of c.x (f := "given") (lookup_mem ca_InvalidLine) (He.glo_ok X G (c.d.fact 18 (f := .glo "InvalidLine") rfl))), (He.glo_ok X G (c.d.fact 19 (f := .glo "DoesNotFit") rfl)), (cls_of c.x (f := "given") (lookup_mem ca_DoesNotFit) (He.glo_ok X G (c.d.fact 19 (f := .glo "DoesNotFit") rfl))), (He.glo_ok X G (c.d.fact 20 (f := .glo "InvalidSayings") rfl)), (cls_of c.x (f := "index") (lookup_mem ca_InvalidSayings) (He.glo_ok X G (c.d.fact 20 (f := .glo "InvalidSayings") rfl))), (He.glo_ok X G (c.d.fact 21 (f := .glo "InvalidSoil") rfl)), (cls_of c.x (f := "index") (lookup_mem ca_InvalidSoil) (He.glo_ok X G (c.d.fact 21 (f := .glo "InvalidSoil") rfl))), (He.glo_ok X G (c.d.fact 22 (f := .glo "InvalidPins") rfl)), (cls_of c.x (f := "index") (lookup_mem ca_InvalidPins) (He.glo_ok X G (c.d.fact 22 (f := .glo "InvalidPins") rfl))), (He.glo_ok X G (c.d.fact 23 (f := .glo "InvalidDeeds") rfl)), (cls_of c.x (f := "index") (lookup_mem ca_InvalidDeeds) (He.glo_ok X G (c.d.fact 23 (f := .glo "InvalidDeeds") rfl))), (He.glo_ok X G (c.d.fact 24 (f := .glo "InvalidLines") rfl)), (cls_of c.x (f := "index") (lookup_mem ca_InvalidLines) (He.glo_ok X G (c.d.fact 24 (f := .glo "InvalidLines") rfl))), (He.glo_ok X G (c.d.fact 25 (f := .glo "_law_press") rfl)), (c.d.def_ 0 (d := dfD "_law_press" 27) rfl), (He.glo_ok X G (c.d.fact 26 (f := .glo "_law_out") rfl)), (c.d.def_ 1 (d := dfD "_law_out" 28) rfl), (He.glo_ok X G (c.d.fact 27 (f := .glo "_law_of") rfl)), (c.d.def_ 2 (d := dfD "_law_of" 29) rfl), (He.glo_ok X G (c.d.fact 28 (f := .glo "_law_even") rfl)), (c.d.def_ 3 (d := dfD "_law_even" 30) rfl), (He.glo_ok X G (c.d.fact 29 (f := .glo "_law_thing") rfl)), (c.d.def_ 4 (d := dfD "_law_thing" 31) rfl), (He.glo_ok X G (c.d.fact 30 (f := .glo "_law_by_place") rfl)), (c.d.def_ 5 (d := dfD "_law_by_place" 32) rfl), (He.glo_ok X G (c.d.fact 31 (f := .glo "_law_by_name") rfl)), (c.d.def_ 6 (d := dfD "_law_by_name" 33) rfl), (He.glo_ok X G (c.d.fact 32 (f := .glo "_law_classes") rfl)), (c.d.def_ 7 (d := dfD "_law_classes" 34) rfl), (He.glo_ok X G (c.d.fact 33 (f := .glo "_law_raised") rfl)), (c.d.def_ 8 (d := dfD "_law_raised" 35) rfl), (He.glo_ok X G (c.d.fact 34 (f := .glo "_law_holds_all") rfl)), (c.d.def_ 9 (d := dfD "_law_holds_all" 36) rfl), (He.glo_ok X G (c.d.fact 35 (f := .glo "law") rfl)), (c.d.def_ 10 (d := dfD "law" 37) rfl)⟩
theorem ini_all (X : K.In h) (c : SaysX exT faL fnL K) (x : Fx K mg) : Ini P w K mg base := by
  refine ⟨?i_InvalidForest, ?i_InvalidPlace, ?i_InvalidMark, ?i_InvalidDye, ?i_InvalidDyeing, ?i_InvalidSaying, ?i_InvalidWish, ?i_InvalidPrices, ?i_InvalidKind, ?i_InvalidLot, ?i_InvalidChart, ?i_InvalidNumber, ?i_InvalidPages, ?i_InvalidDeed, ?i_InvalidTree, ?i_InvalidName, ?i_InvalidText, ?i_InvalidLine, ?i_DoesNotFit, ?i_InvalidSayings, ?i_InvalidSoil, ?i_InvalidPins, ?i_InvalidDeeds, ?i_InvalidLines⟩
  case i_InvalidForest =>
    obtain ⟨fd, F⟩ := c.d.def_ 11 (d := inD "InvalidForest" "InvalidForest.__init__" 2) rfl
    refine ini_of (t := t_InvalidForest) x.k_InvalidForest.oex x.k_InvalidForest.no F sci_InvalidForest rfl (Or.inl rfl) (Or.inl rfl) (by decide) (by decide) ?_
    obtain ⟨oc, od, dV, kV, doc, pm, an, cdv, ct, osl, rfl, lk, hcd, hD, hK⟩ := F.ex
    rcases hD with ⟨_, rfl⟩ | ⟨e, _⟩
    · intro s a u kw
      cases kw
      · exact .of_eq rfl
      · exact .of_eq rfl
    · exact absurd rfl e
  case i_InvalidPlace =>
    obtain ⟨fd, F⟩ := c.d.def_ 12 (d := inD "InvalidPlace" "InvalidPlace.__init__" 3) rfl
    refine ini_of (t := t_InvalidPlace) x.k_InvalidPlace.oex x.k_InvalidPlace.no F sci_InvalidPlace rfl (Or.inl rfl) (Or.inl rfl) (by decide) (by decide) ?_
    obtain ⟨oc, od, dV, kV, doc, pm, an, cdv, ct, osl, rfl, lk, hcd, hD, hK⟩ := F.ex
    rcases hD with ⟨_, rfl⟩ | ⟨e, _⟩
    · intro s a u kw
      cases kw
      · exact .of_eq rfl
      · exact .of_eq rfl
    · exact absurd rfl e
  case i_InvalidMark =>
    obtain ⟨fd, F⟩ := c.d.def_ 13 (d := inD "InvalidMark" "InvalidMark.__init__" 4) rfl
    refine ini_of (t := t_InvalidMark) x.k_InvalidMark.oex x.k_InvalidMark.no F sci_InvalidMark rfl (Or.inl rfl) (Or.inl rfl) (by decide) (by decide) ?_
    obtain ⟨oc, od, dV, kV, doc, pm, an, cdv, ct, osl, rfl, lk, hcd, hD, hK⟩ := F.ex
    rcases hD with ⟨_, rfl⟩ | ⟨e, _⟩
    · intro s a u kw
      cases kw
      · exact .of_eq rfl
      · exact .of_eq rfl
    · exact absurd rfl e
  case i_InvalidDye =>
    obtain ⟨fd, F⟩ := c.d.def_ 14 (d := inD "InvalidDye" "InvalidDye.__init__" 5) rfl
    refine ini_of (t := t_InvalidDye) x.k_InvalidDye.oex x.k_InvalidDye.no F sci_InvalidDye rfl (Or.inl rfl) (Or.inl rfl) (by decide) (by decide) ?_
    obtain ⟨oc, od, dV, kV, doc, pm, an, cdv, ct, osl, rfl, lk, hcd, hD, hK⟩ := F.ex
    rcases hD with ⟨_, rfl⟩ | ⟨e, _⟩
    · intro s a u kw
      cases kw
      · exact .of_eq rfl
      · exact .of_eq rfl
    · exact absurd rfl e
  case i_InvalidDyeing =>
    obtain ⟨fd, F⟩ := c.d.def_ 15 (d := inD "InvalidDyeing" "InvalidDyeing.__init__" 6) rfl
    refine ini_of (t := t_InvalidDyeing) x.k_InvalidDyeing.oex x.k_InvalidDyeing.no F sci_InvalidDyeing rfl (Or.inl rfl) (Or.inl rfl) (by decide) (by decide) ?_
    obtain ⟨oc, od, dV, kV, doc, pm, an, cdv, ct, osl, rfl, lk, hcd, hD, hK⟩ := F.ex
    rcases hD with ⟨_, rfl⟩ | ⟨e, _⟩
    · intro s a u kw
      cases kw
      · exact .of_eq rfl
      · exact .of_eq rfl
    · exact absurd rfl e
  case i_InvalidSaying =>
    obtain ⟨fd, F⟩ := c.d.def_ 16 (d := inD "InvalidSaying" "InvalidSaying.__init__" 7) rfl
    refine ini_of (t := t_InvalidSaying) x.k_InvalidSaying.oex x.k_InvalidSaying.no F sci_InvalidSaying rfl (Or.inl rfl) (Or.inl rfl) (by decide) (by decide) ?_
    obtain ⟨oc, od, dV, kV, doc, pm, an, cdv, ct, osl, rfl, lk, hcd, hD, hK⟩ := F.ex
    rcases hD with ⟨_, rfl⟩ | ⟨e, _⟩
    · intro s a u kw
      cases kw
      · exact .of_eq rfl
      · exact .of_eq rfl
    · exact absurd rfl e
  case i_InvalidWish =>
    obtain ⟨fd, F⟩ := c.d.def_ 17 (d := inD "InvalidWish" "InvalidWish.__init__" 8) rfl
    refine ini_of (t := t_InvalidWish) x.k_InvalidWish.oex x.k_InvalidWish.no F sci_InvalidWish rfl (Or.inl rfl) (Or.inl rfl) (by decide) (by decide) ?_
    obtain ⟨oc, od, dV, kV, doc, pm, an, cdv, ct, osl, rfl, lk, hcd, hD, hK⟩ := F.ex
    rcases hD with ⟨_, rfl⟩ | ⟨e, _⟩
    · intro s a u kw
      cases kw
      · exact .of_eq rfl
      · exact .of_eq rfl
    · exact absurd rfl e
  case i_InvalidPrices =>
    obtain ⟨fd, F⟩ := c.d.def_ 18 (d := inD "InvalidPrices" "InvalidPrices.__init__" 9) rfl
    refine ini_of (t := t_InvalidPrices) x.k_InvalidPrices.oex x.k_InvalidPrices.no F sci_InvalidPrices rfl (Or.inl rfl) (Or.inl rfl) (by decide) (by decide) ?_
    obtain ⟨oc, od, dV, kV, doc, pm, an, cdv, ct, osl, rfl, lk, hcd, hD, hK⟩ := F.ex
    rcases hD with ⟨_, rfl⟩ | ⟨e, _⟩
    · intro s a u kw
      cases kw
      · exact .of_eq rfl
      · exact .of_eq rfl
    · exact absurd rfl e
  case i_InvalidKind =>
    obtain ⟨fd, F⟩ := c.d.def_ 19 (d := inD "InvalidKind" "InvalidKind.__init__" 10) rfl
    refine ini_of (t := t_InvalidKind) x.k_InvalidKind.oex x.k_InvalidKind.no F sci_InvalidKind rfl (Or.inl rfl) (Or.inl rfl) (by decide) (by decide) ?_
    obtain ⟨oc, od, dV, kV, doc, pm, an, cdv, ct, osl, rfl, lk, hcd, hD, hK⟩ := F.ex
    rcases hD with ⟨_, rfl⟩ | ⟨e, _⟩
    · intro s a u kw
      cases kw
      · exact .of_eq rfl
      · exact .of_eq rfl
    · exact absurd rfl e
  case i_InvalidLot =>
    obtain ⟨fd, F⟩ := c.d.def_ 20 (d := inD "InvalidLot" "InvalidLot.__init__" 11) rfl
    refine ini_of (t := t_InvalidLot) x.k_InvalidLot.oex x.k_InvalidLot.no F sci_InvalidLot rfl (Or.inl rfl) (Or.inl rfl) (by decide) (by decide) ?_
    obtain ⟨oc, od, dV, kV, doc, pm, an, cdv, ct, osl, rfl, lk, hcd, hD, hK⟩ := F.ex
    rcases hD with ⟨_, rfl⟩ | ⟨e, _⟩
    · intro s a u kw
      cases kw
      · exact .of_eq rfl
      · exact .of_eq rfl
    · exact absurd rfl e
  case i_InvalidChart =>
    obtain ⟨fd, F⟩ := c.d.def_ 21 (d := inD "InvalidChart" "InvalidChart.__init__" 12) rfl
    refine ini_of (t := t_InvalidChart) x.k_InvalidChart.oex x.k_InvalidChart.no F sci_InvalidChart rfl (Or.inl rfl) (Or.inl rfl) (by decide) (by decide) ?_
    obtain ⟨oc, od, dV, kV, doc, pm, an, cdv, ct, osl, rfl, lk, hcd, hD, hK⟩ := F.ex
    rcases hD with ⟨_, rfl⟩ | ⟨e, _⟩
    · intro s a u kw
      cases kw
      · exact .of_eq rfl
      · exact .of_eq rfl
    · exact absurd rfl e
  case i_InvalidNumber =>
    obtain ⟨fd, F⟩ := c.d.def_ 22 (d := inD "InvalidNumber" "InvalidNumber.__init__" 13) rfl
    refine ini_of (t := t_InvalidNumber) x.k_InvalidNumber.oex x.k_InvalidNumber.no F sci_InvalidNumber rfl (Or.inl rfl) (Or.inl rfl) (by decide) (by decide) ?_
    obtain ⟨oc, od, dV, kV, doc, pm, an, cdv, ct, osl, rfl, lk, hcd, hD, hK⟩ := F.ex
    rcases hD with ⟨_, rfl⟩ | ⟨e, _⟩
    · intro s a u kw
      cases kw
      · exact .of_eq rfl
      · exact .of_eq rfl
    · exact absurd rfl e
  case i_InvalidPages =>
    obtain ⟨fd, F⟩ := c.d.def_ 23 (d := inD "InvalidPages" "InvalidPages.__init__" 14) rfl
    refine ini_of (t := t_InvalidPages) x.k_InvalidPages.oex x.k_InvalidPages.no F sci_InvalidPages rfl (Or.inl rfl) (Or.inl rfl) (by decide) (by decide) ?_
    obtain ⟨oc, od, dV, kV, doc, pm, an, cdv, ct, osl, rfl, lk, hcd, hD, hK⟩ := F.ex
    rcases hD with ⟨_, rfl⟩ | ⟨e, _⟩
    · intro s a u kw
      cases kw
      · exact .of_eq rfl
      · exact .of_eq rfl
    · exact absurd rfl e
  case i_InvalidDeed =>
    obtain ⟨fd, F⟩ := c.d.def_ 24 (d := inD "InvalidDeed" "InvalidDeed.__init__" 15) rfl
    refine ini_of (t := t_InvalidDeed) x.k_InvalidDeed.oex x.k_InvalidDeed.no F sci_InvalidDeed rfl (Or.inl rfl) (Or.inl rfl) (by decide) (by decide) ?_
    obtain ⟨oc, od, dV, kV, doc, pm, an, cdv, ct, osl, rfl, lk, hcd, hD, hK⟩ := F.ex
    rcases hD with ⟨_, rfl⟩ | ⟨e, _⟩
    · intro s a u kw
      cases kw
      · exact .of_eq rfl
      · exact .of_eq rfl
    · exact absurd rfl e
  case i_InvalidTree =>
    obtain ⟨fd, F⟩ := c.d.def_ 25 (d := inD "InvalidTree" "InvalidTree.__init__" 16) rfl
    refine ini_of (t := t_InvalidTree) x.k_InvalidTree.oex x.k_InvalidTree.no F sci_InvalidTree rfl (Or.inl rfl) (Or.inl rfl) (by decide) (by decide) ?_
    obtain ⟨oc, od, dV, kV, doc, pm, an, cdv, ct, osl, rfl, lk, hcd, hD, hK⟩ := F.ex
    rcases hD with ⟨_, rfl⟩ | ⟨e, _⟩
    · intro s a u kw
      cases kw
      · exact .of_eq rfl
      · exact .of_eq rfl
    · exact absurd rfl e
  case i_InvalidName =>
    obtain ⟨fd, F⟩ := c.d.def_ 26 (d := inD "InvalidName" "InvalidName.__init__" 17) rfl
    refine ini_of (t := t_InvalidName) x.k_InvalidName.oex x.k_InvalidName.no F sci_InvalidName rfl (Or.inl rfl) (Or.inl rfl) (by decide) (by decide) ?_
    obtain ⟨oc, od, dV, kV, doc, pm, an, cdv, ct, osl, rfl, lk, hcd, hD, hK⟩ := F.ex
    rcases hD with ⟨_, rfl⟩ | ⟨e, _⟩
    · intro s a u kw
      cases kw
      · exact .of_eq rfl
      · exact .of_eq rfl
    · exact absurd rfl e
  case i_InvalidText =>
    obtain ⟨fd, F⟩ := c.d.def_ 27 (d := inD "InvalidText" "InvalidText.__init__" 18) rfl
    refine ini_of (t := t_InvalidText) x.k_InvalidText.oex x.k_InvalidText.no F sci_InvalidText rfl (Or.inl rfl) (Or.inl rfl) (by decide) (by decide) ?_
    obtain ⟨oc, od, dV, kV, doc, pm, an, cdv, ct, osl, rfl, lk, hcd, hD, hK⟩ := F.ex
    rcases hD with ⟨_, rfl⟩ | ⟨e, _⟩
    · intro s a u kw
      cases kw
      · exact .of_eq rfl
      · exact .of_eq rfl
    · exact absurd rfl e
  case i_InvalidLine =>
    obtain ⟨fd, F⟩ := c.d.def_ 28 (d := inD "InvalidLine" "InvalidLine.__init__" 19) rfl
    refine ini_of (t := t_InvalidLine) x.k_InvalidLine.oex x.k_InvalidLine.no F sci_InvalidLine rfl (Or.inl rfl) (Or.inl rfl) (by decide) (by decide) ?_
    obtain ⟨oc, od, dV, kV, doc, pm, an, cdv, ct, osl, rfl, lk, hcd, hD, hK⟩ := F.ex
    rcases hD with ⟨_, rfl⟩ | ⟨e, _⟩
    · intro s a u kw
      cases kw
      · exact .of_eq rfl
      · exact .of_eq rfl
    · exact absurd rfl e
  case i_DoesNotFit =>
    obtain ⟨fd, F⟩ := c.d.def_ 29 (d := inD "DoesNotFit" "DoesNotFit.__init__" 20) rfl
    refine ini_of (t := t_DoesNotFit) x.k_DoesNotFit.oex x.k_DoesNotFit.no F sci_DoesNotFit rfl (Or.inl rfl) (Or.inl rfl) (by decide) (by decide) ?_
    obtain ⟨oc, od, dV, kV, doc, pm, an, cdv, ct, osl, rfl, lk, hcd, hD, hK⟩ := F.ex
    rcases hD with ⟨_, rfl⟩ | ⟨e, _⟩
    · intro s a u kw
      cases kw
      · exact .of_eq rfl
      · exact .of_eq rfl
    · exact absurd rfl e
  case i_InvalidSayings =>
    obtain ⟨fd, F⟩ := c.d.def_ 30 (d := inD "InvalidSayings" "InvalidSayings.__init__" 21) rfl
    refine ini_of (t := t_InvalidSayings) x.k_InvalidSayings.oex x.k_InvalidSayings.no F sci_InvalidSayings rfl (Or.inl rfl) (Or.inl rfl) (by decide) (by decide) ?_
    obtain ⟨oc, od, dV, kV, doc, pm, an, cdv, ct, osl, rfl, lk, hcd, hD, hK⟩ := F.ex
    rcases hD with ⟨_, rfl⟩ | ⟨e, _⟩
    · intro s a u kw
      cases kw
      · exact .of_eq rfl
      · exact .of_eq rfl
    · exact absurd rfl e
  case i_InvalidSoil =>
    obtain ⟨fd, F⟩ := c.d.def_ 31 (d := inD "InvalidSoil" "InvalidSoil.__init__" 22) rfl
    refine ini_of (t := t_InvalidSoil) x.k_InvalidSoil.oex x.k_InvalidSoil.no F sci_InvalidSoil rfl (Or.inl rfl) (Or.inl rfl) (by decide) (by decide) ?_
    obtain ⟨oc, od, dV, kV, doc, pm, an, cdv, ct, osl, rfl, lk, hcd, hD, hK⟩ := F.ex
    rcases hD with ⟨_, rfl⟩ | ⟨e, _⟩
    · intro s a u kw
      cases kw
      · exact .of_eq rfl
      · exact .of_eq rfl
    · exact absurd rfl e
  case i_InvalidPins =>
    obtain ⟨fd, F⟩ := c.d.def_ 32 (d := inD "InvalidPins" "InvalidPins.__init__" 23) rfl
    refine ini_of (t := t_InvalidPins) x.k_InvalidPins.oex x.k_InvalidPins.no F sci_InvalidPins rfl (Or.inl rfl) (Or.inl rfl) (by decide) (by decide) ?_
    obtain ⟨oc, od, dV, kV, doc, pm, an, cdv, ct, osl, rfl, lk, hcd, hD, hK⟩ := F.ex
    rcases hD with ⟨_, rfl⟩ | ⟨e, _⟩
    · intro s a u kw
      cases kw
      · exact .of_eq rfl
      · exact .of_eq rfl
    · exact absurd rfl e
  case i_InvalidDeeds =>
    obtain ⟨fd, F⟩ := c.d.def_ 33 (d := inD "InvalidDeeds" "InvalidDeeds.__init__" 24) rfl
    refine ini_of (t := t_InvalidDeeds) x.k_InvalidDeeds.oex x.k_InvalidDeeds.no F sci_InvalidDeeds rfl (Or.inl rfl) (Or.inl rfl) (by decide) (by decide) ?_
    obtain ⟨oc, od, dV, kV, doc, pm, an, cdv, ct, osl, rfl, lk, hcd, hD, hK⟩ := F.ex
    rcases hD with ⟨_, rfl⟩ | ⟨e, _⟩
    · intro s a u kw
      cases kw
      · exact .of_eq rfl
      · exact .of_eq rfl
    · exact absurd rfl e
  case i_InvalidLines =>
    obtain ⟨fd, F⟩ := c.d.def_ 34 (d := inD "InvalidLines" "InvalidLines.__init__" 25) rfl
    refine ini_of (t := t_InvalidLines) x.k_InvalidLines.oex x.k_InvalidLines.no F sci_InvalidLines rfl (Or.inl rfl) (Or.inl rfl) (by decide) (by decide) ?_
    obtain ⟨oc, od, dV, kV, doc, pm, an, cdv, ct, osl, rfl, lk, hcd, hD, hK⟩ := F.ex
    rcases hD with ⟨_, rfl⟩ | ⟨e, _⟩
    · intro s a u kw
      cases kw
      · exact .of_eq rfl
      · exact .of_eq rfl
    · exact absurd rfl e
end
end K1
set_option Elab.async false
set_option linter.all false
set_option maxRecDepth 100000
set_option maxHeartbeats 4000000
/-! K1Q: the law's def keeps its promise. -/
namespace K1
open PySem PySem.Spec PyProof.Rows L2 DW
theorem law_facts {P : Program} {w : World} {K : PySem.W.Frag} {h : Heap} {mg : Str → Option Value} (X : K.In h) (G : h.Ns mainGlobals mg) (c : SaysX exT faL fnL K) :
    mg "law" = some (.ref (He.ga K "law")) ∧ ∃ fd : FuncData, (∀ (s : Shared) (v : Value), BindsTo s fd ⟨[v], []⟩ [("script", v)]) ∧ ∀ base : Heap, FnG P w K mg base 7 (He.ga K "law") fd ["script"] (spD (zn K) .u F_law) := by
  have x := fx_of X G c
  obtain ⟨fd, F⟩ := x.d_law
  have b := FunD.bindsA (ps := ["script"]) F fun _ _ _ _ _ _ us hl => match us, hl with | [_], _ => rfl
  refine ⟨x.g_law, fd, fun s v => b s [v] rfl, fun base => ?_⟩
  have i : Ini P w K mg base := ini_all X c x
  have o1 := ok__law_press x i good_press
  have o2 := ok__law_out x i
  have o3 := ok__law_of x i o2
  have o4 := ok__law_even x i
  have o5 := ok__law_thing x i o2 o3 3
  have o6 := ok__law_by_place x i
  have o7 := ok__law_by_name x i
  have o8 := ok__law_classes x i
  have o9 := ok__law_raised x i
  have o10 := ok__law_holds_all x i o5 o7 o6 o8 o4 o9
  exact okg_law F x i o10 o1 fun a t ht => let ⟨t', e, _⟩ := holds_ok a t ht; ⟨t', e⟩
end K1
set_option Elab.async false
set_option linter.all false
set_option maxRecDepth 100000
set_option maxHeartbeats 0
/-! K1R: the head's run, and the end. -/
namespace K1
open PySem PySem.Spec PyProof.Rows L2
abbrev rowR : PySem.W.OpenRow := PySem.W.OpenLaw.row PySem.Challenge.rw_dyewoods_k01_errors_and_what_they_keep
abbrev hookR : PySem.W.Hook := DW.hookX 5 exT faL fnL
def obR (s : PySem.W.SharedT) : He.AlD := DW.obsXG 5 exT faL fnL (HandSHeadRun.getT s)
theorem obR_eq (s : PySem.W.SharedT) : obR s = hookR.obs s.abs := DW.obsXG_eq (HandSHeadRun.getT_eq s)
def loR_0 : List Str := ["__name__", "DyeError", "InvalidForest", "InvalidPlace", "InvalidMark", "InvalidDye", "InvalidDyeing", "InvalidSaying", "InvalidWish", "InvalidPrices", "InvalidKind", "InvalidLot", "InvalidChart", "InvalidNumber", "InvalidPages", "InvalidDeed"]
def loR_1 : List Str := ["InvalidTree", "InvalidName", "InvalidText", "InvalidLine", "DoesNotFit", "InvalidSayings", "InvalidSoil", "InvalidPins", "InvalidDeeds", "InvalidLines", "_law_press", "_law_out", "_law_of", "_law_even", "_law_thing", "_law_by_place"]
def loR_2 : List Str := ["_law_by_name", "_law_classes", "_law_raised", "_law_holds_all"]
def loR : List Str := loR_0 ++ loR_1 ++ loR_2
theorem runR (w : World) : HandSHeadRun.RunEq rowR (PySem.W.view rowR.prog [37]) hookR obR 15000 loR w := by
  intro os
  kernel_rfl
end K1
open PySem PySem.W PySem.Calls PyProof.Rows
theorem PySem.Challenge.cw_dyewoods_k01_errors_and_what_they_keep_holds : PySem.Challenge.rw_dyewoods_k01_errors_and_what_they_keep.Holds := by
  w_on; o_law
  refine HandSHeadRun.head_any (r := K1.rowR) (q := view K1.rowR.prog [37]) (H := K1.hookR) (ob := K1.obR) (M := 15000) (loose := K1.loR) (d := HandSHeadRun.topDef K1.rowR.prog 37) (kwd := []) K1.obR_eq
    (by kernel_rfl) (fun s => by kernel_rfl) K1.runR (by kernel_rfl) (by kernel_rfl) (by kernel_rfl) (by rfl) (by first | assumption | decide +kernel) (by decide +kernel) ⟨rfl, rfl, rfl, rfl, rfl, by decide +kernel⟩ ?hw ?hc
  case hw => w_witness2
  case hc =>
    refine DW.walk_g (l := PySem.Challenge.rw_dyewoods_k01_errors_and_what_they_keep) (n := 63) (k := 7) (x := "script") rfl (by rw [sizeLine_eq]; decide) (by kernel_rfl) ⟨rfl, by decide, by decide⟩ ?F
    intro w mg fa h Y G hmg0
    obtain ⟨K, KX, c⟩ := Y
    have hmg : mg ("law" : PySem.Str) = some (.ref fa) := by
      have e : (HandSHeadRun.topDef K1.rowR.prog 37).name = ("law" : PySem.Str) := by kernel_rfl
      rw [← e]
      exact hmg0
    obtain ⟨g, fd, hb, hF⟩ := K1.law_facts (P := (PySem.Challenge.rw_dyewoods_k01_errors_and_what_they_keep).prog) (w := w) KX G c
    have e := hmg.symm.trans g
    cases e
    exact ⟨K, fd, DW.spD (K1.zn K) .u K1.F_law, KX, hb, fun H a ns hl hS => DW.told_law (K1.law_ok ns hl) hS, fun base _ _ => hF base⟩
