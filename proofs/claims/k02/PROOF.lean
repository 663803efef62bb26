import PyProof.Rows.All
import Wide.All
import OpenK.AllK
import Wide.FinOn
import HandS.ForMost
import HandS.TupAny
import HandS.Deep
import HandS.IsInst
import HandS.Style
import HandS.Conv
import HandS.Wide
import HandS.Ends
import PyProof.ReprReads
import PyProof.EqLayable
import HandS.Zip
import HandS.SortKw
import KE.GoesZip
import KE.GoesMore
import KE.GoesEnum
import KE.GoesEnumKw
import HandS.TupMul
import PyProof.CallFns
import HandS.Dict
import HandS.More
import HandS.Star
import HandS.SortInts
import KE.KTupSum
import KE.KIndexOf
import HandS.SetFor
import HandS.WordsDict
import HandS.Small
import HandS.OwnEq
import PyProof.NeKinds
import PySem.Challenge.RW_heightnets_k02_whole_heights_or_a_ring
import PyProof.Rows.ReprShort
/-! ## FwG -/
set_option Elab.async false
set_option linter.all false
set_option maxRecDepth 100000
set_option maxHeartbeats 2000000
/-! Promises of defs where nothing that shows a value is under way (repr of lists, tuples needs it). -/
namespace Fw
open PySem PySem.Spec PyProof.Rows L2

structure RoomG (k : Nat) (A : Around) : Prop extends Room k A where
  gd : A.guards = some []
theorem RoomG.mono {j k : Nat} {A : Around} (r : RoomG k A) (h : j ≤ k) : RoomG j A := ⟨r.toRoom.mono h, r.gd⟩
theorem RoomG.deeper {k : Nat} {A : Around} (r : RoomG (k + 1) A) (env : PySem.Env) : RoomG k (A.deeper env) := ⟨r.toRoom.deeper env, r.gd⟩
theorem RoomG.in1 {k : Nat} {A : Around} (r : RoomG (k + 1) A) : RoomG k A.in1 := ⟨r.toRoom.in1, r.gd⟩
structure FnG (P : Program) (w : World) (K : PySem.W.Frag) (mg : Str → Option Value) (base : Heap) (CX : CXT) (k : Nat) (f : Addr) (fd : FuncData) (ps : List Str) (sp : Sp) : Prop where
  len : ∀ vs H Q E, sp vs H Q E → vs.length = ps.length
  run : ∀ (A : Around) (outer : List PySem.Env) (s : Shared) (H : Hp) (args : Args) (us : List Value) (vs : List V) (Q : VK) (E : XK), RoomG k A → Env0 P w K mg base A outer s H → BindsTo s fd args (ps.zip us) → Vals vs us → sp vs H Q E →
    codeAny (model P w) A (.call (.ref f) args) (CR CX outer P w H s Q E) s
section
variable {P : Program} {w : World} {K : PySem.W.Frag} {mg : Str → Option Value} {base : Heap} {CX : CXT} {j k : Nat} {f : Addr} {fd : FuncData} {ps : List Str} {sp sp' : Sp}
theorem FnG.of (F : FnOk P w K mg base CX k f fd ps sp) : FnG P w K mg base CX k f fd ps sp := ⟨F.len, fun A outer s H args us vs Q E hr => F.run A outer s H args us vs Q E hr.toRoom⟩
theorem FnG.mono (F : FnG P w K mg base CX j f fd ps sp) (h : j ≤ k) : FnG P w K mg base CX k f fd ps sp := ⟨F.len, fun A outer s H args us vs Q E hr => F.run A outer s H args us vs Q E (hr.mono h)⟩
theorem FnG.imp (F : FnG P w K mg base CX k f fd ps sp) (h : ∀ vs H Q E, sp' vs H Q E → sp vs H Q E) : FnG P w K mg base CX k f fd ps sp' :=
  ⟨fun vs H Q E q => F.len vs H Q E (h _ _ _ _ q), fun A outer s H args us vs Q E hr he hb hv hs => F.run A outer s H args us vs Q E hr he hb hv (h _ _ _ _ hs)⟩
end
section
variable {X : Cx} {CX : CXT} {k : Nat} {f C : Addr} {fd : FuncData} {ps : List Str} {sp : Sp} {dvs : List V} {ds : List Value} {E : XK} {x m : Str} {p pos apos : Pos} {e o : Expr} {es : List Expr} {ta : TE} {t : TA}
theorem run_fnG {pins : List (Addr × Obj)} {σ : L2.St} {H : Hp} {s : Shared} {Q : VK} {us : List Value} {vs : List V} (F : FnG X.prog X.w X.K X.mg X.base CX k f fd ps sp) (hr : RoomG k X.A) (hb : Binds X.K fd ps ds) (hd : Vals dvs ds) (hx : Passes CX X E)
    (I : Inv X pins σ H s) (r : Vals vs us) (h : sp (vs ++ dvs) H Q E) : wpAny (model X.prog X.w) X.A (call (.ref f) us) (EP X pins σ Q) X.xe s := by
  have r2 : Vals (vs ++ dvs) (us ++ ds) := r.append hd
  have hl : (us ++ ds).length = ps.length := by rw [← r2.length]; exact F.len _ _ _ _ h
  refine wpAny_call (codeAny_mono (F.run X.A X.stack s H ⟨us, []⟩ (us ++ ds) (vs ++ dvs) Q E hr I.env0 (hb s us I.kIn hl) r2 h) fun r s' hq => ?_)
  cases r with
  | error e => exact hx pins σ H s e s' I hq
  | ok fl =>
    cases fl with
    | ret u => exact I.after hq
    | next => exact False.elim hq
    | brk => exact False.elim hq
    | cont => exact False.elim hq
theorem pe_callG (F : FnG X.prog X.w X.K X.mg X.base CX k f fd ps sp) (hr : RoomG k X.A) (hg : Gl X x) (hm : X.mg x = some (.ref f)) (hk : PySem.W.keepIn X.K (.ref f) = true) (hb : Binds X.K fd ps ds) (hd : Vals dvs ds) (hx : Passes CX X E)
    (ha : PA X (e :: es) t) (hdb : (x == ("__debug__" : Str)) = false := by decide) (he : starEach (e :: es) X.env = (false, eval e X.env) :: starEach es X.env := by rfl) (hpl : (backTo pos (starEach es X.env)).any (·.1) = false := by rfl) :
    PE X (.Call (.Name x p) (e :: es) [] pos) (tCall sp dvs E t) := by
  refine ⟨fun pins s σ H Q I h => ?_⟩
  refine wpAny_Call_Name_kw (ld_glob I hg hm ?_ hdb)
  refine PySem.W.callWith_K (h₀ := X.base) I.ok.mod.kin hk (thn (ha.run pos pins s σ H _ I h) fun us s1 ⟨vs, H1, I1, r, q⟩ => ⟨I1.kIn, ?_⟩) he hpl
  exact run_fnG F hr hb hd hx I1 r q
theorem pe_call0G (F : FnG X.prog X.w X.K X.mg X.base CX k f fd ps sp) (hr : RoomG k X.A) (hg : Gl X x) (hm : X.mg x = some (.ref f)) (hk : PySem.W.keepIn X.K (.ref f) = true) (hb : Binds X.K fd ps ds) (hd : Vals dvs ds) (hx : Passes CX X E)
    (hdb : (x == ("__debug__" : Str)) = false := by decide) : PE X (.Call (.Name x p) [] [] pos) (tCall sp dvs E tNil) := by
  refine ⟨fun pins s σ H Q I h => ?_⟩
  refine wpAny_Call_Name_kw (ld_glob I hg hm ?_ hdb)
  exact PySem.W.callWith_K0 I.kIn hk (run_fnG (us := []) F hr hb hd hx I .nil h)
end
theorem fn_ofG {CX : CXT} {P : Program} {w : World} {K : PySem.W.Frag} {mg : Str → Option Value} {base : Heap} {k : Nat} {f : Addr} {name qual : Str} {params : Arguments} {body : List Stmt} {scope : Scope} {dV kV doc pm cdv ct oc : Value} {an od : Option Addr}
    {osl : Array (Option Value)} {N ps : List Str} {sp : Sp} (lk : K.lookup f = some ⟨oc, od, .func (PySem.W.fnOf name qual params body scope dV kV doc pm an cdv ct), osl⟩) (hcd : PySem.W.codeIn K cdv qual = true) (S : FnScope N ps scope)
    (len : ∀ vs H Q E, sp vs H Q E → vs.length = ps.length)
    (hbody : ∀ (A : Around) (outer : List PySem.Env) (s : Shared) (H : Hp) (vs : List V) (Q : VK) (E : XK), RoomG k (A.deeper (envOfC qual scope s.heap.objs.size f cdv)) → sp vs H Q E →
      ∃ t, PSs (cxOf CX P w K mg base N qual scope f cdv A outer s H E) body t ∧ t { nx := fun _ H' => Q .non H', rt := Q } (start N vs) H) :
    FnG P w K mg base CX (k + 1) f (PySem.W.fnOf name qual params body scope dV kV doc pm an cdv ct) ps sp := by
  refine ⟨len, fun A outer s H args us vs Q E hr e0 hb r hsp => ?_⟩
  have hl := len _ _ _ _ hsp
  have KX : K.In s.heap := e0.mod.kin.keeps fun b o e => (e0.bs b o e).1
  have lim : s.heap.NoLimit := e0.mod.nolimit.keeps fun b o e => (e0.bs b o e).1
  have hkind : ∀ y ∈ ps.zip us, scope.names.lookup y.1 = some .local ∨ (scope.names.lookup y.1 = some .cell ∧ ((cellsFrom (s.heap.objs.size + 1) scope.names []).lookup y.1).isSome = true) := fun ⟨n, v⟩ hy => by
    rcases S.par n (List.of_mem_zip hy).1 with q | q
    · exact .inl q
    · exact .inr ⟨q, PySem.W.cellsFrom_some _ _ _ (.inl q)⟩
  refine codeAny_call_function hr.depth (KX _ _ lk) rfl S.co S.gen rfl (PySem.W.codeRec_of KX hcd) (hb _ _ _ _ ?_)
  refine wpAny_newFunctionEnv_cells S.kind hkind fun env he s1 x => ?_
  subst he
  refine ⟨lim.keeps x.toInCall.keep, codeAny_func ?_⟩
  obtain ⟨t, ht, hq⟩ := hbody A outer s H vs Q E (hr.deeper _) hsp
  have I : Inv (cxOf CX P w K mg base N qual scope f cdv A outer s H E) [] (start N vs) H s1 := inv_start S hr.hd e0 hl r x
  refine wpAny_mono (ht.run [] s1 (start N vs) H _ I hq) (fun fl s' hs => ?_) fun e s' hs => hs
  have fin : ∀ {σ' : L2.St} {H' : Hp} {v : V} {u : Value}, Inv (cxOf CX P w K mg base N qual scope f cdv A outer s H E) [] σ' H' s' → RelV v u → Q v H' → CE outer P w H s Q u s' :=
    fun {σ' H' v u} J rv q => ⟨v, H', J.os, J.bare, J.base, J.hok, rv, q⟩
  cases fl with
  | ret u =>
    obtain ⟨v, σ', H', J, rv, q⟩ := hs
    exact fin J rv q
  | next =>
    obtain ⟨σ', H', J, q⟩ := hs
    exact fin (v := V.non) (u := Value.none) J rfl q
  | brk =>
    obtain ⟨_, _, _, q⟩ := hs
    exact False.elim q
  | cont =>
    obtain ⟨_, _, _, q⟩ := hs
    exact False.elim q
theorem fun_okG {P : Program} {w : World} {K : PySem.W.Frag} {mg : Str → Option Value} {base : Heap} {x qual : Str} {st : Stmt} {f : Addr} {fd : FuncData} {N ps : List Str} {k : Nat} {sp : Sp} (F : Fun K x qual st f fd) (S : FnScope N ps (defScope st)) (len : ∀ vs H Q E, sp vs H Q E → vs.length = ps.length)
    (hbody : ∀ (cdv : Value) (A : Around) (outer : List PySem.Env) (s : Shared) (H : Hp) (vs : List V) (Q : VK) (E : XK), RoomG k (A.deeper (envOfC qual (defScope st) s.heap.objs.size f cdv)) → sp vs H Q E →
      ∃ t, PSs (cxOf CX0 P w K mg base N qual (defScope st) f cdv A outer s H E).nox (defBody st) t ∧ t { nx := fun _ H' => Q .non H', rt := Q } (start N vs) H) : FnG P w K mg base CX0 (k + 1) f fd ps sp := by
  obtain ⟨oc, od, kV, doc, pm, an, cdv, ct, osl, rfl, lk, hcd⟩ := F.ex
  refine fn_ofG lk hcd S len fun A outer s H vs Q E hr hsp => ?_
  obtain ⟨t, h, q⟩ := hbody cdv A outer s H vs Q E hr hsp
  exact ⟨t, h.nox, q⟩
theorem law_callG {P : Program} {w : World} {K : PySem.W.Frag} {mg mb : Str → Option Value} {CX : CXT} {k : Nat} {fa a : Addr} {fd : FuncData} {x : Str} {sp : Sp} {s₁ : Shared} {vs : List Value} {ns : List Int}
    (KX : K.In s₁.heap) (hns : s₁.heap.Ns mainGlobals mg) (hb : s₁.heap.Ns builtinsNs mb) (hbb : ∀ x : Str, x ≠ "__name__" → mb x = bootBuiltins x) (hlim : s₁.heap.NoLimit) (hg : s₁.gens = #[])
    (ha : s₁.heap.get? a = some { cls := .type "list", data := .seq vs.toArray }) (hi : IntsAre vs ns) (hl : ns.length ≤ sizeLine) (hr : RoomG k callerA)
    (F : ∀ base : Heap, K.In base → base.Ns mainGlobals mg → FnG P w K mg base CX k fa fd [x] sp) (hbind : ∀ (s : Shared) (u : Value), BindsTo s fd ⟨[u], []⟩ [(x, u)])
    (hsp : ∀ H : Hp, Only H → SqL K H a (ns.map V.int) → sp [.ref a] H (fun v _ => v = .bl true) fun _ _ _ => False)
    (hCX : ∀ H e s', CX [] H s₁ (fun _ _ _ => False) e s' → False) :
    codeAny (model P w) callerA (.call (.ref fa) ⟨[.ref a], []⟩) (fun r s' => r = .ok (.ret (.bool true)) ∧ OldK s₁.heap s'.heap ∧ s'.os = s₁.os ∧ AllBare s'.gens) s₁ := by
  have rv := vals_ints hi
  have lenV := hi.length
  have core : ∀ H : Hp, Only H → SqL K H a (ns.map V.int) → HOk P w H s₁.heap → (∀ b, H b ≠ none → b = a) → (H a ≠ none → K.lookup a = none) →
      codeAny (model P w) callerA (.call (.ref fa) ⟨[.ref a], []⟩) (fun r s' => r = .ok (.ret (.bool true)) ∧ OldK s₁.heap s'.heap ∧ s'.os = s₁.os ∧ AllBare s'.gens) s₁ := by
    intro H hO hS hok hA hK
    have base_of : ∀ {b : Addr} {o : Obj}, s₁.heap.get? b = some o → H b = none → (hidT s₁.heap H).get? b = some o := fun e n => hidT_get e n
    have noA : ∀ {b : Addr} {o : Obj} {es : Array DictEntry} {ep : Nat}, s₁.heap.get? b = some o → o.data = .dict es ep → H b = none := fun {b o es ep} e d => by
      cases q : H b with
      | none => rfl
      | some u =>
        have e' : b = a := hA b (by rw [q]; simp)
        subst e'
        rw [ha] at e; cases e
        have d' : Data.seq vs.toArray _ = Data.dict es ep := d
        cases d'
    have nsK : ∀ {b : Addr} {m : Str → Option Value}, s₁.heap.Ns b m → (hidT s₁.heap H).Ns b m := fun {b m} ⟨o, es, ep, e, d, r⟩ => ⟨o, es, ep, base_of e (noA e d), d, r⟩
    have hKb : K.In (hidT s₁.heap H) := fun b o e => base_of (KX b o e) (by
      cases q : H b with
      | none => rfl
      | some u =>
        have e' : b = a := hA b (by rw [q]; simp)
        subst e'
        rw [hK (by rw [q]; simp)] at e; cases e)
    have hM : Mod K mg (hidT s₁.heap H) := ⟨hKb, nsK hns, ⟨mb, nsK hb, hbb⟩, let ⟨mc, h1, h2⟩ := hlim; ⟨mc, nsK h1, h2⟩⟩
    have e0 : Env0 P w K mg (hidT s₁.heap H) callerA [] s₁ H := ⟨rfl, hM, fun b o e => of_hidT e, Nat.le_of_eq (hidT_size _ _), trivial, fun b hb => absurd (show b ∈ ([] : List Addr) from hb) (by simp), hok, .of_eq hg⟩
    refine codeAny_mono ((F _ hKb (nsK hns)).run callerA [] s₁ H ⟨[.ref a], []⟩ [.ref a] [.ref a] _ _ hr e0 (hbind s₁ (.ref a)) (.cons rfl .nil) (hsp H hO hS)) fun r s' h => ?_
    cases r with
    | error e => exact (hCX H e s' h).elim
    | ok fl =>
      cases fl with
      | next => exact False.elim h
      | brk => exact False.elim h
      | cont => exact False.elim h
      | ret u =>
        obtain ⟨v, H', os, bare, un, hok', r', q⟩ := h
        have q' : v = .bl true := q
        subst q'
        obtain rfl : u = Value.bool true := r'
        refine ⟨rfl, OldK.of_keep fun b o e => ?_, os, bare⟩
        cases q : H b with
        | none => exact un.keep b o e q (by intro z; exact absurd (show b ∈ ([] : List Addr) from z) (by simp)) (by simp)
        | some u =>
          rcases hO b with z | ⟨ob, xs, z⟩
          · rw [q] at z; cases z
          · have z2 := un.frzs b ob _ z
            obtain ⟨e1, _⟩ := hok b _ z
            obtain ⟨e2, _⟩ := hok' b _ z2
            rw [e] at e1; cases e1
            exact e2
  cases hk : K.lookup a with
  | some o =>
    have e := KX a o hk
    rw [ha] at e
    cases e
    refine core (fun _ => none) (fun _ => .inl rfl) (.inr ⟨_, vs.toArray, _, hk, rfl, rfl, rfl, by rw [List.size_toArray, lenV]; exact hl, by simpa using rv⟩) (fun b u z => by have z' : (none : Option HO) = some u := z; cases z') (fun b z => absurd rfl z) fun z => absurd rfl z
  | none =>
    refine core (fun b => if b = a then some (.frz { cls := .type "list", data := .seq vs.toArray } (.lst (ns.map V.int))) else none) (fun b => ?_) (.inl (.inr ⟨{ cls := .type "list", data := .seq vs.toArray }, if_pos rfl⟩)) (fun b u z => ?_) (fun b z => ?_) fun _ => hk
    · by_cases hb : b = a
      · exact .inr ⟨_, _, if_pos hb⟩
      · exact .inl (if_neg hb)
    · by_cases hb : b = a
      · have z' := (if_pos hb).symm.trans z
        cases z'
        subst hb
        exact ⟨ha, by rw [List.length_map]; exact hl, vs, _, rv, ha⟩
      · have z' := (if_neg hb).symm.trans z
        cases z'
    · by_cases hb : b = a
      · exact hb
      · exact absurd (if_neg hb) z
theorem walk_ofG {l : PySem.W.OpenLaw} {n k : Nat} {q : Program} {loose : List Str} {XP : (Str → Option Value) → Heap → Prop} {YP : World → Heap → Prop} {d : DefRec} {CX : CXT} {x : Str}
    (hn : l.most = some n) (hn2 : n ≤ sizeLine) (hdf : d.params.defaults = []) (hr : RoomG k callerA)
    (F : ∀ (w : World) (mg : Str → Option Value) (fa : Addr) (h : Heap), YP w h → h.Ns mainGlobals mg → mg d.name = some (.ref fa) →
      ∃ (K : PySem.W.Frag) (fd : FuncData) (sp : Sp), K.In h ∧ (∀ (s : Shared) (u : Value), BindsTo s fd ⟨[u], []⟩ [(x, u)]) ∧
        (∀ (H : Hp) (a : Addr) (ns : List Int), ns.length ≤ n → Only H → SqL K H a (ns.map V.int) → sp [.ref a] H (fun v _ => v = .bl true) fun _ _ _ => False) ∧
        ∀ base : Heap, K.In base → base.Ns mainGlobals mg → FnG l.prog w K mg base CX k fa fd [x] sp)
    (hCX : ∀ (H : Hp) (s : Shared) (e : Value) (s' : Shared), CX [] H s (fun _ _ _ => False) e s' → False) :
    PySem.W.WalkO q loose XP YP l.row.toRowW d [] (fun f vs => PySem.call f vs) := by
  refine Att.attach_call hn hdf fun w s₀ s₁ mg mb fa o pm cd doc a vs ns G Y ho hd hcd hmg hobj hints hlen hg => ?_
  obtain ⟨K, fd, sp, KX, hb, hsp, hF⟩ := F w mg fa _ Y G.T.g hmg
  exact law_callG KX G.T.g G.T.b G.T.builtins G.T.nolimit hg hobj hints (Nat.le_trans hlen hn2) hr hF hb (fun H hO hS => hsp H a ns hlen hO hS) fun H e s' => hCX H s₁ e s'
end Fw
/-! ## FwD -/
set_option linter.all false
/-! Data and the functional meaning of the constructs: no program in sight. -/
namespace Fw
open PySem

abbrev Key := Sum Int Str
inductive D where
  | non | bl (b : Bool) | int (i : Int) | str (s : Str) | lst (xs : List D) | tup (xs : List D) | dct (kvs : List (Key × D)) | obj (a : Nat)

abbrev LIM : Nat := 16777216

mutual
def D.py : D → PyData
  | .non => .none
  | .bl b => .bool b
  | .int i => .int i
  | .str s => .str s
  | .lst xs => .list (D.pys xs)
  | .tup xs => .tuple (D.pys xs)
  | .dct kvs => .dict (D.pyKv kvs)
  | .obj _ => .none
def D.pys : List D → List PyData
  | [] => []
  | x :: r => D.py x :: D.pys r
def D.pyKv : List (Key × D) → List (PyData × PyData)
  | [] => []
  | (k, v) :: r => ((match k with | .inl i => .int i | .inr x => .str x), D.py v) :: D.pyKv r
end
mutual
/-- no dict, no handle within -/
def D.pure : D → Bool
  | .lst xs => D.pures xs
  | .tup xs => D.pures xs
  | .dct _ => false
  | .obj _ => false
  | _ => true
def D.pures : List D → Bool
  | [] => true
  | x :: r => D.pure x && D.pures r
end
def D.eqOk (d : D) : Bool := d.pure && SeqAt.shaped d.py
def D.eqv (a b : D) : Bool := PyData.eqv a.py b.py

/-! ### operations on data -/
def dAdd : D → D → Option D
  | .int i, .int j => some (.int (i + j))
  | .lst a, .lst b => if a.length + b.length ≤ LIM then some (.lst (a ++ b)) else none
  | .tup a, .tup b => if a.length + b.length ≤ LIM then some (.tup (a ++ b)) else none
  | _, _ => none
def dSub : D → D → Option D
  | .int i, .int j => some (.int (i - j))
  | _, _ => none
def dMul : D → D → Option D
  | .int i, .int j => if (-(2 ^ 64) < i ∧ i < 2 ^ 64) ∨ (-(2 ^ 64) < j ∧ j < 2 ^ 64) then some (.int (i * j)) else none
  | .lst a, .int k => if -1000000 ≤ k ∧ k ≤ 1000000 ∧ a.length * k.toNat ≤ LIM then some (.lst (List.replicate k.toNat a).flatten) else none
  | .tup a, .int k => if -1000 ≤ k ∧ k ≤ 1000 ∧ a.length ≤ 1000 then some (.tup (List.replicate k.toNat a).flatten) else none
  | _, _ => none
def dFdiv : D → D → Option D
  | .int i, .int j => if 0 < j ∧ j < 1073741824 then some (.int (i / j)) else none
  | _, _ => none
def dMod : D → D → Option D
  | .int i, .int j => if 0 < j then some (.int (i % j)) else none
  | _, _ => none
def dPow : D → D → Option D
  | .int i, .int j => if 0 ≤ j ∧ j ≤ 1000000 ∧ i.natAbs < 2 ^ 64 then some (.int (i ^ j.toNat)) else none
  | _, _ => none
def dNeg : D → Option D
  | .int i => some (.int (-i))
  | _ => none
def dLt : D → D → Option D
  | .int i, .int j => some (.bl (decide (i < j)))
  | _, _ => none
def dLe : D → D → Option D
  | .int i, .int j => some (.bl (decide (i ≤ j)))
  | _, _ => none
def dGt : D → D → Option D
  | .int i, .int j => some (.bl (decide (j < i)))
  | _, _ => none
def dGe : D → D → Option D
  | .int i, .int j => some (.bl (decide (j ≤ i)))
  | _, _ => none
def dEq (a b : D) : Option D := if a.eqOk = true ∧ b.eqOk = true then some (.bl (D.eqv a b)) else none
def dNe (a b : D) : Option D := if a.eqOk = true ∧ b.eqOk = true then some (.bl (!D.eqv a b)) else none
def dIn (x : D) : D → Option D
  | .lst ds => if x.eqOk = true ∧ D.eqOk (.lst ds) = true then some (.bl (ds.any fun z => D.eqv z x)) else none
  | .tup ds => if x.eqOk = true ∧ D.eqOk (.tup ds) = true then some (.bl (ds.any fun z => D.eqv z x)) else none
  | _ => none
def dNot : D → Option D
  | .bl b => some (.bl (!b))
  | _ => none
def dNotIn (x y : D) : Option D := (dIn x y).bind dNot
def dIsN : D → Option D
  | .non => some (.bl true)
  | _ => some (.bl false)
def dNotN : D → Option D
  | .non => some (.bl false)
  | _ => some (.bl true)
def dIsB : D → D → Option D
  | .bl a, .bl b => some (.bl (decide (a = b)))
  | _, _ => none
/-- the place an index names -/
def ixD (n : Nat) (i : Int) : Option Nat := if 0 ≤ i then (if i < n then some i.toNat else none) else if -(n : Int) ≤ i then some (i + n).toNat else none
def atD {α : Type} (xs : List α) (i : Int) : Option α := (ixD xs.length i).bind fun j => xs[j]?
def dIx : D → D → Option D
  | .lst ds, .int i => atD ds i
  | .tup ds, .int i => atD ds i
  | _, _ => none
def sIxD (n d : Nat) : Option Int → Nat
  | none => d
  | some i => if 0 ≤ i then min i.toNat n else (i + n).toNat
def cutD {α : Type} (xs : List α) (lo hi : Option Int) : List α := (xs.drop (sIxD xs.length 0 lo)).take (sIxD xs.length xs.length hi - sIxD xs.length 0 lo)
def dCut (lo hi : Option Int) : D → Option D
  | .lst ds => some (.lst (cutD ds lo hi))
  | .tup ds => some (.tup (cutD ds lo hi))
  | _ => none
/-- xs[::-1] -/
def dRev : D → Option D
  | .lst ds => some (.lst ds.reverse)
  | .tup ds => some (.tup ds.reverse)
  | _ => none
def dLen : D → Option D
  | .lst ds => some (.int ds.length)
  | .tup ds => some (.int ds.length)
  | _ => none
def dMax2 : D → D → Option D
  | .int i, .int j => some (.int (if j > i then j else i))
  | _, _ => none
def dMin2 : D → D → Option D
  | .int i, .int j => some (.int (if j < i then j else i))
  | _, _ => none
def dAbs : D → Option D
  | .int i => some (.int (if i < 0 then -i else i))
  | _ => none
def dInt : D → Option D
  | .int i => some (.int i)
  | .bl b => some (.int (if b then 1 else 0))
  | _ => none
def D.int? : D → Option Int
  | .int i => some i
  | _ => none
def D.bool? : D → Option Bool
  | .bl b => some b
  | _ => none
def ints? : List D → Option (List Int)
  | [] => some []
  | x :: r => match x, ints? r with
    | .int i, some is => some (i :: is)
    | _, _ => none
def bools? : List D → Option (List Bool)
  | [] => some []
  | x :: r => match x, bools? r with
    | .bl i, some is => some (i :: is)
    | _, _ => none
def dSum : D → Option D
  | .lst ds => (ints? ds).map fun is => .int is.sum
  | _ => none
def dAll : D → Option D
  | .lst ds => (bools? ds).map fun bs => .bl (bs.all id)
  | _ => none
def dAny : D → Option D
  | .lst ds => (bools? ds).map fun bs => .bl (bs.any id)
  | _ => none
def maxL : List Int → Int
  | [] => 0
  | x :: r => r.foldl max x
def minL : List Int → Int
  | [] => 0
  | x :: r => r.foldl min x
def dMaxL : D → Option D
  | .lst (d :: ds) => (ints? (d :: ds)).map fun is => .int (maxL is)
  | .tup (d :: ds) => (ints? (d :: ds)).map fun is => .int (maxL is)
  | _ => none
def dMinL : D → Option D
  | .lst (d :: ds) => (ints? (d :: ds)).map fun is => .int (minL is)
  | .tup (d :: ds) => (ints? (d :: ds)).map fun is => .int (minL is)
  | _ => none
def dList : D → Option D
  | .lst ds => some (.lst ds)
  | .tup ds => some (.lst ds)
  | _ => none
def dTuple : D → Option D
  | .lst ds => some (.tup ds)
  | .tup ds => some (.tup ds)
  | _ => none
/-- isinstance(x, T), T a built-in class by its name -/
def dIsi (T : String) : D → Option D
  | .non => some (.bl (T == "NoneType"))
  | .bl _ => some (.bl (T == "bool" || T == "int"))
  | .int _ => some (.bl (T == "int"))
  | .str _ => some (.bl (T == "str"))
  | .lst _ => some (.bl (T == "list"))
  | .tup _ => some (.bl (T == "tuple"))
  | .dct _ => some (.bl (T == "dict"))
  | .obj _ => none
mutual
def D.showOk : D → Bool
  | .non | .bl _ | .str _ => true
  | .int i => decide (i.natAbs.log2 < 1920)
  | .lst ds => D.showOks ds
  | .tup ds => D.showOks ds
  | .dct kvs => kvs.isEmpty
  | .obj _ => false
def D.showOks : List D → Bool
  | [] => true
  | d :: r => d.showOk && D.showOks r
end
def D.reprOk (d : D) : Bool := d.showOk && decide (d.py.shown.length ≤ LIM) && decide (d.py.depth ≤ 60)
def dRepr (d : D) : Option D := if d.reprOk = true then some (.str d.py.shown) else none

/-! ### environments -/
/-- a slot: shared (never changed again), owned (a list that this frame alone holds) -/
inductive Sl where
  | sh (d : D) | ow (d : D)
abbrev Env := List (Option Sl)
def Sl.d : Sl → D
  | .sh d => d
  | .ow d => d
section
variable {S : Type}
abbrev E (S : Type) := Env → S → Option (D × Env × S)
abbrev T (S : Type) := Env → S → Option (Bool × Env × S)
abbrev As (S : Type) := Env → S → Option (List D × Env × S)
inductive Ctl where
  | nx | bk | ct | rt (d : D)
abbrev C (S : Type) := Env → S → Option (Ctl × Env × S)
abbrev Tg := D → Env → Option Env

def eC (d : D) : E S := fun ρ s => some (d, ρ, s)
/-- a name; an owned list that is read so is shared from then on -/
def eV (i : Nat) : E S := fun ρ s => match ρ[i]? with
  | some (some (.sh d)) => some (d, ρ, s)
  | some (some (.ow d)) => some (d, ρ.set i (some (.sh d)), s)
  | _ => none
def e1 (op : D → Option D) (a : E S) : E S := fun ρ s => match a ρ s with
  | some (x, ρ, s) => (match op x with | some z => some (z, ρ, s) | none => none)
  | none => none
def e2 (op : D → D → Option D) (a b : E S) : E S := fun ρ s => match a ρ s with
  | some (x, ρ, s) => (match b ρ s with
    | some (y, ρ, s) => (match op x y with | some z => some (z, ρ, s) | none => none)
    | none => none)
  | none => none
/-- an operation whose left (right) side is an owned list, looked at -/
def eB1 (op : D → Option D) (i : Nat) : E S := fun ρ s => match ρ[i]? with
  | some (some x) => (match op x.d with | some z => some (z, ρ, s) | none => none)
  | _ => none
def eBL (op : D → D → Option D) (i : Nat) (b : E S) : E S := fun ρ s => match ρ[i]? with
  | some (some _) => (match b ρ s with
    | some (y, ρ, s) => (match ρ[i]? with
      | some (some x) => (match op x.d y with | some z => some (z, ρ, s) | none => none)
      | _ => none)
    | none => none)
  | _ => none
def eBR (op : D → D → Option D) (a : E S) (i : Nat) : E S := fun ρ s => match a ρ s with
  | some (x, ρ, s) => (match ρ[i]? with
    | some (some y) => (match op x y.d with | some z => some (z, ρ, s) | none => none)
    | _ => none)
  | none => none
def tE (a : E S) : T S := fun ρ s => match a ρ s with
  | some (.bl b, ρ, s) => some (b, ρ, s)
  | _ => none
def tYes : T S := fun ρ s => some (true, ρ, s)
def tAnd (a b : T S) : T S := fun ρ s => match a ρ s with
  | some (true, ρ, s) => b ρ s
  | some (false, ρ, s) => some (false, ρ, s)
  | none => none
def tOr (a b : T S) : T S := fun ρ s => match a ρ s with
  | some (true, ρ, s) => some (true, ρ, s)
  | some (false, ρ, s) => b ρ s
  | none => none
def tNot (a : T S) : T S := fun ρ s => match a ρ s with
  | some (b, ρ, s) => some (!b, ρ, s)
  | none => none
def eAnd (a b : E S) : E S := fun ρ s => match a ρ s with
  | some (.bl true, ρ, s) => b ρ s
  | some (.bl false, ρ, s) => some (.bl false, ρ, s)
  | _ => none
def eOr (a b : E S) : E S := fun ρ s => match a ρ s with
  | some (.bl true, ρ, s) => some (.bl true, ρ, s)
  | some (.bl false, ρ, s) => b ρ s
  | _ => none
def eIf (t : T S) (a b : E S) : E S := fun ρ s => match t ρ s with
  | some (true, ρ, s) => a ρ s
  | some (false, ρ, s) => b ρ s
  | none => none
/-- a < b < c -/
def eChain (f g : D → D → Option D) (a b c : E S) : E S := fun ρ s => match a ρ s with
  | some (x, ρ, s) => (match b ρ s with
    | some (y, ρ, s) => (match f x y with
      | some (.bl true) => (match c ρ s with
        | some (z, ρ, s) => (match g y z with | some w => some (w, ρ, s) | none => none)
        | none => none)
      | some (.bl false) => some (.bl false, ρ, s)
      | _ => none)
    | none => none)
  | none => none
def aNil : As S := fun ρ s => some ([], ρ, s)
def aCons (a : E S) (r : As S) : As S := fun ρ s => match a ρ s with
  | some (x, ρ, s) => (match r ρ s with | some (xs, ρ, s) => some (x :: xs, ρ, s) | none => none)
  | none => none
def eTup (a : As S) : E S := fun ρ s => match a ρ s with
  | some (xs, ρ, s) => if xs.length ≤ LIM then some (.tup xs, ρ, s) else none
  | none => none
def eLst (a : As S) : E S := fun ρ s => match a ρ s with
  | some (xs, ρ, s) => if xs.length ≤ LIM then some (.lst xs, ρ, s) else none
  | none => none
def eCall (f : List D → S → Option (D × S)) (a : As S) : E S := fun ρ s => match a ρ s with
  | some (xs, ρ, s) => (match f xs s with | some (d, s) => some (d, ρ, s) | none => none)
  | none => none
def eCallP (f : List D → Option D) (a : As S) : E S := fun ρ s => match a ρ s with
  | some (xs, ρ, s) => (match f xs with | some d => some (d, ρ, s) | none => none)
  | none => none
/-- a part of a slice -/
def pNone : Env → S → Option (Option Int × Env × S) := fun ρ s => some (none, ρ, s)
def pSome (a : E S) : Env → S → Option (Option Int × Env × S) := fun ρ s => match a ρ s with
  | some (.int i, ρ, s) => some (some i, ρ, s)
  | _ => none
def eCut (a : E S) (lo hi : Env → S → Option (Option Int × Env × S)) : E S := fun ρ s => match a ρ s with
  | some (x, ρ, s) => (match lo ρ s with
    | some (l, ρ, s) => (match hi ρ s with
      | some (h, ρ, s) => (match dCut l h x with | some z => some (z, ρ, s) | none => none)
      | none => none)
    | none => none)
  | none => none

/-! ### what is walked -/
abbrev I (S : Type) := Env → S → Option (List D × Env × S)
def items? : D → Option (List D)
  | .lst ds => some ds
  | .tup ds => some ds
  | _ => none
def iE (a : E S) : I S := fun ρ s => match a ρ s with
  | some (x, ρ, s) => (match items? x with | some ds => some (ds, ρ, s) | none => none)
  | none => none
def rangeL (lo : Int) (n : Nat) : List D := (List.range n).map fun k => .int (lo + (k : Nat))
def iR1 (a : E S) : I S := fun ρ s => match a ρ s with
  | some (.int j, ρ, s) => if -16777216 ≤ j ∧ j ≤ 16777216 then some (rangeL 0 j.toNat, ρ, s) else none
  | _ => none
def iR2 (a b : E S) : I S := fun ρ s => match a ρ s with
  | some (.int i, ρ, s) => (match b ρ s with
    | some (.int j, ρ, s) => if -16777216 ≤ i ∧ i ≤ 16777216 ∧ -16777216 ≤ j ∧ j ≤ 16777216 ∧ j - i ≤ 16777216 then some (rangeL i (j - i).toNat, ρ, s) else none
    | _ => none)
  | _ => none
def enumL : Nat → List D → List D
  | _, [] => []
  | k, d :: r => .tup [.int (k : Nat), d] :: enumL (k + 1) r
def iEnum (a : E S) : I S := fun ρ s => match a ρ s with
  | some (x, ρ, s) => (match items? x with | some ds => some (enumL 0 ds, ρ, s) | none => none)
  | none => none
def zipL : List D → List D → List D
  | a :: r, b :: q => .tup [a, b] :: zipL r q
  | _, _ => []
def iZip (a b : E S) : I S := fun ρ s => match a ρ s with
  | some (x, ρ, s) => (match b ρ s with
    | some (y, ρ, s) => (match items? x, items? y with | some ds, some es => some (zipL ds es, ρ, s) | _, _ => none)
    | none => none)
  | none => none
/-- zip(a, b, strict=True): of one length -/
def iZipS (a b : E S) : I S := fun ρ s => match a ρ s with
  | some (x, ρ, s) => (match b ρ s with
    | some (y, ρ, s) => (match items? x, items? y with | some ds, some es => if ds.length = es.length then some (zipL ds es, ρ, s) else none | _, _ => none)
    | none => none)
  | none => none

/-! ### targets -/
def gN (i : Nat) : Tg := fun d ρ => some (ρ.set i (some (.sh d)))
def gNil : List D → Env → Option Env
  | [], ρ => some ρ
  | _, _ => none
def gCons (t : Tg) (u : List D → Env → Option Env) : List D → Env → Option Env
  | d :: r, ρ => (match t d ρ with | some ρ => u r ρ | none => none)
  | [], _ => none
def gTup (u : List D → Env → Option Env) : Tg
  | .tup ds, ρ => u ds ρ
  | _, _ => none

/-! ### comprehensions -/
def wipeE : List Nat → Env → Env
  | [], ρ => ρ
  | i :: r, ρ => wipeE r (ρ.set i none)
def backE (ρ0 : Env) : List Nat → Env → Env
  | [], ρ => ρ
  | i :: r, ρ => backE ρ0 r (ρ.set i (ρ0.getD i none))
def notOw (ρ : Env) (i : Nat) : Bool := match ρ[i]? with
  | some (some (.ow _)) => false
  | _ => true
def lcLoop (tgt : Tg) (tt : T S) (elt : E S) (own : List Nat) (ρ0 : Env) : List D → List D → Env → S → Option (List D × Env × S)
  | [], acc, ρ, s => some (acc, ρ, s)
  | d :: r, acc, ρ, s => match tgt d (wipeE own ρ) with
    | some ρ1 => (match tt ρ1 s with
      | some (true, ρ2, s2) => (match elt ρ2 s2 with
        | some (y, ρ3, s3) => lcLoop tgt tt elt own ρ0 r (acc ++ [y]) (backE ρ0 own ρ3) s3
        | none => none)
      | some (false, ρ2, s2) => lcLoop tgt tt elt own ρ0 r acc (backE ρ0 own ρ2) s2
      | none => none)
    | none => none
def eLc (it : I S) (tgt : Tg) (tt : T S) (elt : E S) (own : List Nat) : E S := fun ρ s => match it ρ s with
  | some (ds, ρ, s) => if own.all (notOw ρ) = true then (match lcLoop tgt tt elt own ρ ds [] ρ s with
      | some (acc, ρ, s) => some (.lst acc, ρ, s)
      | none => none) else none
  | none => none

/-! ### statements -/
def sNx : C S := fun ρ s => some (.nx, ρ, s)
def sSeq (a b : C S) : C S := fun ρ s => match a ρ s with
  | some (.nx, ρ, s) => b ρ s
  | some (c, ρ, s) => some (c, ρ, s)
  | none => none
def sAsg (a : E S) (g : Tg) : C S := fun ρ s => match a ρ s with
  | some (x, ρ, s) => (match g x ρ with | some ρ => some (.nx, ρ, s) | none => none)
  | none => none
/-- i = a new list, owned -/
def sNew (a : E S) (i : Nat) : C S := fun ρ s => match a ρ s with
  | some (x, ρ, s) => some (.nx, ρ.set i (some (.ow x)), s)
  | none => none
def sDrop (a : E S) : C S := fun ρ s => match a ρ s with
  | some (_, ρ, s) => some (.nx, ρ, s)
  | none => none
def sRet (a : E S) : C S := fun ρ s => match a ρ s with
  | some (x, ρ, s) => some (.rt x, ρ, s)
  | none => none
def sIf (t : T S) (a b : C S) : C S := fun ρ s => match t ρ s with
  | some (true, ρ, s) => a ρ s
  | some (false, ρ, s) => b ρ s
  | none => none
def sBk : C S := fun ρ s => some (.bk, ρ, s)
def sCt : C S := fun ρ s => some (.ct, ρ, s)
/-- x.append(e), x owned -/
def eApp (i : Nat) (a : E S) : E S := fun ρ s => match ρ[i]? with
  | some (some (.ow (.lst _))) => (match a ρ s with
    | some (x, ρ, s) => (match ρ[i]? with
      | some (some (.ow (.lst ds))) => if ds.length < LIM then some (.non, ρ.set i (some (.ow (.lst (ds ++ [x])))), s) else none
      | _ => none)
    | none => none)
  | _ => none
/-- x.pop(e), x owned -/
def ePopAt (i : Nat) (a : E S) : E S := fun ρ s => match ρ[i]? with
  | some (some (.ow (.lst _))) => (match a ρ s with
    | some (.int k, ρ, s) => (match ρ[i]? with
      | some (some (.ow (.lst ds))) => (match ixD ds.length k with
        | some j => (match ds[j]? with
          | some y => some (y, ρ.set i (some (.ow (.lst (ds.eraseIdx j)))), s)
          | none => none)
        | none => none)
      | _ => none)
    | _ => none)
  | _ => none
/-- x.pop() -/
def ePop (i : Nat) : E S := fun ρ s => match ρ[i]? with
  | some (some (.ow (.lst ds))) => (match ds[ds.length - 1]? with
    | some y => some (y, ρ.set i (some (.ow (.lst ds.dropLast))), s)
    | none => none)
  | _ => none
/-- x[k] = e, x owned: e first, then k -/
def sSetIx (a : E S) (i : Nat) (k : E S) : C S := fun ρ s => match a ρ s with
  | some (x, ρ, s) => (match ρ[i]? with
   | some (some (.ow (.lst _))) => (match k ρ s with
    | some (.int k, ρ, s) => (match ρ[i]? with
      | some (some (.ow (.lst ds))) => (match ixD ds.length k with
        | some j => some (.nx, ρ.set i (some (.ow (.lst (ds.set j x)))), s)
        | none => none)
      | _ => none)
    | _ => none)
   | _ => none)
  | none => none
def forL (tgt : Tg) (body : C S) (dead : List Nat) : List D → C S
  | [], ρ, s => some (.nx, ρ, s)
  | d :: r, ρ, s => match tgt d ρ with
    | some ρ => (match body ρ s with
      | some (.nx, ρ, s) => forL tgt body dead r (wipeE dead ρ) s
      | some (.ct, ρ, s) => forL tgt body dead r (wipeE dead ρ) s
      | some (.bk, ρ, s) => some (.nx, ρ, s)
      | some (.rt d, ρ, s) => some (.rt d, ρ, s)
      | none => none)
    | none => none
def sFor (it : I S) (tgt : Tg) (body : C S) (dead : List Nat) : C S := fun ρ s => match it ρ s with
  | some (ds, ρ, s) => forL tgt body dead ds (wipeE dead ρ) s
  | none => none
def whL (t : T S) (body : C S) (dead : List Nat) : Nat → C S
  | 0, _, _ => none
  | n + 1, ρ, s => match t ρ s with
    | some (true, ρ, s) => (match body ρ s with
      | some (.nx, ρ, s) => whL t body dead n (wipeE dead ρ) s
      | some (.ct, ρ, s) => whL t body dead n (wipeE dead ρ) s
      | some (.bk, ρ, s) => some (.nx, ρ, s)
      | some (.rt d, ρ, s) => some (.rt d, ρ, s)
      | none => none)
    | some (false, ρ, s) => some (.nx, ρ, s)
    | none => none
def sWh (fuel : Nat) (t : T S) (body : C S) (dead : List Nat) : C S := fun ρ s => whL t body dead fuel (wipeE dead ρ) s

def sAug (op : D → D → Option D) (i : Nat) (a : E S) : C S := fun ρ s => match ρ[i]? with
  | some (some (.sh x)) => (match a ρ s with
    | some (y, ρ, s) => (match op x y with | some z => some (.nx, ρ.set i (some (.sh z)), s) | none => none)
    | none => none)
  | _ => none
def dAddI : D → D → Option D
  | .int i, .int j => some (.int (i + j))
  | _, _ => none
/-- list(range(n)) -/
def eListR1 (a : E S) : E S := fun ρ s => match a ρ s with
  | some (.int j, ρ, s) => if -16777216 ≤ j ∧ j ≤ 16777216 then some (.lst (rangeL 0 j.toNat), ρ, s) else none
  | _ => none
/-! a, b = x, y: what is new is owned -/
abbrev Qs (S : Type) := Env → S → Option (List Sl × Env × S)
def qNil : Qs S := fun ρ s => some ([], ρ, s)
def qSh (a : E S) (r : Qs S) : Qs S := fun ρ s => match a ρ s with
  | some (x, ρ, s) => (match r ρ s with | some (xs, ρ, s) => some (.sh x :: xs, ρ, s) | none => none)
  | none => none
def qNew (a : E S) (r : Qs S) : Qs S := fun ρ s => match a ρ s with
  | some (x, ρ, s) => (match r ρ s with | some (xs, ρ, s) => some (.ow x :: xs, ρ, s) | none => none)
  | none => none
def setAll : List Nat → List Sl → Env → Env
  | i :: is, x :: xs, ρ => (setAll is xs ρ).set i (some x)
  | _, _, ρ => ρ
def sPar (is : List Nat) (q : Qs S) : C S := fun ρ s => match q ρ s with
  | some (xs, ρ, s) => if xs.length = is.length then some (.nx, setAll is xs ρ, s) else none
  | none => none

/-! ### a def -/
def runC (np n : Nat) (body : C S) : List D → S → Option (D × S) := fun ds s => if ds.length = np then
    (match body (ds.map (fun d => some (Sl.sh d)) ++ List.replicate (n - np) none) s with
      | some (.rt d, _, s) => some (d, s)
      | some (.nx, _, s) => some (.non, s)
      | _ => none) else none
def runP (np n : Nat) (body : C Unit) : List D → Option D := fun ds => (runC np n body ds ()).map (·.1)
end
end Fw
/-! ## FwT -/
set_option Elab.async false
set_option linter.all false
set_option maxRecDepth 100000
/-! From readings of the hand layer to the functional meaning. -/
namespace Fw
open PySem PySem.Spec PyProof.Rows L2

/-! ### heaps, data -/
def Sub (A B : Hp) : Prop := ∀ x o, A x = some o → B x = some o
theorem Sub.refl (A : Hp) : Sub A A := fun _ _ h => h
theorem Sub.trans {A B C : Hp} (a : Sub A B) (b : Sub B C) : Sub A C := fun x o h => b x o (a x o h)
theorem Sub.upd {A : Hp} {p : Addr} {o : HO} (h : A p = none) : Sub A (upd A p o) := fun x u e => by
  rw [upd_ne (ne_of_none e h)]; exact e
theorem Sub.updR {A B : Hp} {p : Addr} {o : HO} (s : Sub A B) (h : A p = none) : Sub A (L2.upd B p o) := fun x u e => by
  rw [upd_ne (ne_of_none e h)]; exact s x u e
theorem Sub.upd2 {A B : Hp} {p : Addr} {o : HO} (s : Sub A B) : Sub (L2.upd A p o) (L2.upd B p o) := fun x u e => by
  by_cases hx : x = p
  · subst hx; rw [upd_same] at e ⊢; exact e
  · rw [upd_ne hx] at e ⊢; exact s x u e
theorem Sub.none {A B : Hp} (s : Sub A B) {x : Addr} (h : B x = none) : A x = none := by
  cases q : A x with
  | none => rfl
  | some o => rw [s x o q] at h; cases h
theorem Sub.seqT {K : PySem.W.Frag} {H H' : Hp} {a : Addr} {xs : List V} (e : Sub H H') (h : SqT K H a xs) : SqT K H' a xs := by
  rcases h with (h | ⟨o, h⟩) | h
  · exact .inl (.inl (e _ _ h))
  · exact .inl (.inr ⟨o, e _ _ h⟩)
  · exact .inr h

def KvR (K : PySem.W.Frag) (R : V → D → Prop) : List (L2.Key × V) → List (Key × D) → Prop
  | [], [] => True
  | (k, v) :: r, (k', d) :: q => k = k' ∧ R v d ∧ KvR K R r q
  | _, _ => False

mutual
/-- v stands for d in the heap F -/
inductive Dv (K : PySem.W.Frag) (F : Hp) : V → D → Prop
  | non : Dv K F .non .non
  | bl (b : Bool) : Dv K F (.bl b) (.bl b)
  | int (i : Int) : Dv K F (.int i) (.int i)
  | str (x : Str) : Dv K F (.str x) (.str x)
  | lst {a : Addr} {xs : List V} {ds : List D} : F a = some (.lst xs) → xs.length ≤ sizeLine → Dvs K F xs ds → Dv K F (.ref a) (.lst ds)
  | tup {a : Addr} {xs : List V} {ds : List D} : SqT K F a xs → xs.length ≤ sizeLine → Dvs K F xs ds → Dv K F (.ref a) (.tup ds)
  | dct {a : Addr} {ks : List L2.Key} {xs : List V} {ds : List D} : F a = some (.dK (ks.zip xs)) → Dvs K F xs ds → ks.length = xs.length → Dv K F (.ref a) (.dct (ks.zip ds))
  | obj (a : Addr) : Dv K F (.ref a) (.obj a)
inductive Dvs (K : PySem.W.Frag) (F : Hp) : List V → List D → Prop
  | nil : Dvs K F [] []
  | cons {v : V} {vs : List V} {d : D} {ds : List D} : Dv K F v d → Dvs K F vs ds → Dvs K F (v :: vs) (d :: ds)
end
mutual
theorem Dv.mono {K : PySem.W.Frag} {F F' : Hp} (e : Sub F F') : ∀ {v : V} {d : D}, Dv K F v d → Dv K F' v d
  | _, _, .non => .non
  | _, _, .bl b => .bl b
  | _, _, .int i => .int i
  | _, _, .str x => .str x
  | _, _, .lst h z r => .lst (e _ _ h) z (Dvs.mono e r)
  | _, _, .tup h z r => .tup (e.seqT h) z (Dvs.mono e r)
  | _, _, .dct h r l => .dct (e _ _ h) (Dvs.mono e r) l
  | _, _, .obj a => .obj a
theorem Dvs.mono {K : PySem.W.Frag} {F F' : Hp} (e : Sub F F') : ∀ {vs : List V} {ds : List D}, Dvs K F vs ds → Dvs K F' vs ds
  | _, _, .nil => .nil
  | _, _, .cons h r => .cons (Dv.mono e h) (Dvs.mono e r)
end
theorem Dvs.length {K : PySem.W.Frag} {F : Hp} : ∀ {vs : List V} {ds : List D}, Dvs K F vs ds → vs.length = ds.length
  | _, _, .nil => rfl
  | _, _, .cons _ r => by rw [List.length_cons, List.length_cons, Dvs.length r]
theorem Dvs.get {K : PySem.W.Frag} {F : Hp} : ∀ {vs : List V} {ds : List D} (i : Nat) {d : D}, Dvs K F vs ds → ds[i]? = some d → ∃ v, vs[i]? = some v ∧ Dv K F v d
  | _, _, i, _, .nil, h => by simp at h
  | _, _, 0, _, .cons h r, e => by
    simp only [List.getElem?_cons_zero, Option.some.injEq] at e
    subst e
    exact ⟨_, rfl, h⟩
  | _, _, i + 1, _, .cons h r, e => by
    simp only [List.getElem?_cons_succ] at e ⊢
    exact Dvs.get i r e
theorem Dvs.append {K : PySem.W.Frag} {F : Hp} : ∀ {vs ws : List V} {ds es : List D}, Dvs K F vs ds → Dvs K F ws es → Dvs K F (vs ++ ws) (ds ++ es)
  | _, _, _, _, .nil, s => s
  | _, _, _, _, .cons h r, s => .cons h (Dvs.append r s)
theorem Dvs.take {K : PySem.W.Frag} {F : Hp} : ∀ {vs : List V} {ds : List D} (n : Nat), Dvs K F vs ds → Dvs K F (vs.take n) (ds.take n)
  | _, _, 0, _ => by simp only [List.take_zero]; exact .nil
  | _, _, n + 1, .nil => .nil
  | _, _, n + 1, .cons h r => by simp only [List.take_succ_cons]; exact .cons h (Dvs.take n r)
theorem Dvs.drop {K : PySem.W.Frag} {F : Hp} : ∀ {vs : List V} {ds : List D} (n : Nat), Dvs K F vs ds → Dvs K F (vs.drop n) (ds.drop n)
  | _, _, 0, r => r
  | _, _, n + 1, .nil => .nil
  | _, _, n + 1, .cons h r => by simp only [List.drop_succ_cons]; exact Dvs.drop n r
theorem Dvs.set {K : PySem.W.Frag} {F : Hp} {v : V} {d : D} (x : Dv K F v d) : ∀ {vs : List V} {ds : List D} (i : Nat), Dvs K F vs ds → Dvs K F (vs.set i v) (ds.set i d)
  | _, _, _, .nil => .nil
  | _, _, 0, .cons _ t => .cons x t
  | _, _, i + 1, .cons q t => .cons q (Dvs.set x i t)
theorem Dvs.eraseIdx {K : PySem.W.Frag} {F : Hp} : ∀ {vs : List V} {ds : List D} (i : Nat), Dvs K F vs ds → Dvs K F (vs.eraseIdx i) (ds.eraseIdx i)
  | _, _, _, .nil => .nil
  | _, _, 0, .cons _ t => t
  | _, _, i + 1, .cons q t => .cons q (Dvs.eraseIdx i t)
theorem Dvs.dropLast {K : PySem.W.Frag} {F : Hp} {vs : List V} {ds : List D} (r : Dvs K F vs ds) : Dvs K F vs.dropLast ds.dropLast := by
  rw [List.dropLast_eq_take, List.dropLast_eq_take, r.length]
  exact r.take _
theorem Dvs.repl {K : PySem.W.Frag} {F : Hp} {vs : List V} {ds : List D} (r : Dvs K F vs ds) : ∀ n : Nat, Dvs K F (List.replicate n vs).flatten (List.replicate n ds).flatten
  | 0 => .nil
  | n + 1 => by
    rw [List.replicate_succ, List.replicate_succ, List.flatten_cons, List.flatten_cons]
    exact r.append (Dvs.repl r n)
theorem Dvs.reverse {K : PySem.W.Frag} {F : Hp} : ∀ {vs : List V} {ds : List D}, Dvs K F vs ds → Dvs K F vs.reverse ds.reverse
  | _, _, .nil => .nil
  | _, _, .cons h r => by
    rw [List.reverse_cons, List.reverse_cons]
    exact (Dvs.reverse r).append (.cons h .nil)
mutual
/-- the kit's own relation, where no dict and no handle is within -/
theorem Dv.dp {K : PySem.W.Frag} {F : Hp} : ∀ (d : D) {v : V}, d.pure = true → Dv K F v d → Dp K F v d.py
  | _, _, _, .non => .non
  | _, _, _, .bl b => .bl b
  | _, _, _, .int i => .int i
  | _, _, _, .str x => .str x
  | .lst ds, _, p, .lst h z r => .lst (.of h) (Dvs.dps ds p r)
  | .tup ds, _, p, .tup h z r => .tup h (Dvs.dps ds p r)
  | .dct _, _, p, _ => by simp [D.pure] at p
  | .obj _, _, p, _ => by simp [D.pure] at p
theorem Dvs.dps {K : PySem.W.Frag} {F : Hp} : ∀ (ds : List D) {vs : List V}, D.pures ds = true → Dvs K F vs ds → DpAll K F vs (D.pys ds)
  | _, _, _, .nil => .nil
  | d :: ds, _, p, .cons h r => by
    have p' : d.pure = true ∧ D.pures ds = true := by
      simpa [D.pures] using p
    exact .cons (Dv.dp d p'.1 h) (Dvs.dps ds p'.2 r)
end
theorem Dvs.ints {K : PySem.W.Frag} {F : Hp} : ∀ (ds : List D) {vs : List V} {is : List Int}, Dvs K F vs ds → ints? ds = some is → vs = is.map V.int
  | _, _, is, .nil, h => by
    simp only [ints?, Option.some.injEq] at h
    subst h; rfl
  | d :: ds, _, is, .cons h r, e => by
    simp only [ints?] at e
    split at e
    · rename_i i js hi
      cases e
      have := Dvs.ints ds r hi
      subst this
      cases h
      rfl
    · cases e
theorem Dvs.bools {K : PySem.W.Frag} {F : Hp} : ∀ (ds : List D) {vs : List V} {is : List Bool}, Dvs K F vs ds → bools? ds = some is → vs = is.map V.bl
  | _, _, is, .nil, h => by
    simp only [bools?, Option.some.injEq] at h
    subst h; rfl
  | d :: ds, _, is, .cons h r, e => by
    simp only [bools?] at e
    split at e
    · rename_i i js hi
      cases e
      have := Dvs.bools ds r hi
      subst this
      cases h
      rfl
    · cases e

/-! ### the outer state -/
structure Wd where
  S : Type
  fp : Addr → Prop
  so : S → Hp → Prop
  alive : ∀ {s H x}, so s H → fp x → H x ≠ none
  stay : ∀ {s : S} {H H' : Hp}, so s H → (∀ x, fp x → H' x = H x) → so s H'
abbrev W0 : Wd where
  S := Unit
  fp := fun _ => False
  so := fun _ _ => True
  alive := fun _ h => h.elim
  stay := fun _ _ => trivial

/-- an owned thing: a list, a dict -/
def OwO (K : PySem.W.Frag) (F : Hp) (o : HO) (d : D) : Prop := (∃ vs ds, d = .lst ds ∧ o = .lst vs ∧ vs.length ≤ sizeLine ∧ Dvs K F vs ds) ∨ ∃ (ks : List L2.Key) (vs : List V) (ds : List D), d = .dct (ks.zip ds) ∧ o = .dK (ks.zip vs) ∧ ks.length = vs.length ∧ Dvs K F vs ds
theorem OwO.mono {K : PySem.W.Frag} {F F' : Hp} {o : HO} {d : D} (h : OwO K F o d) (e : Sub F F') : OwO K F' o d := by
  rcases h with ⟨vs, ds, rfl, rfl, z, r⟩ | ⟨ks, vs, ds, rfl, rfl, z, r⟩
  · exact .inl ⟨vs, ds, rfl, rfl, z, r.mono e⟩
  · exact .inr ⟨ks, vs, ds, rfl, rfl, z, r.mono e⟩
theorem OwO.dv {K : PySem.W.Frag} {F : Hp} {o : HO} {d : D} {a : Addr} (h : OwO K F o d) (h3 : F a = none) : Dv K (upd F a o) (.ref a) d := by
  have sub : Sub F (upd F a o) := Sub.upd h3
  rcases h with ⟨vs, ds, rfl, rfl, z, r⟩ | ⟨ks, vs, ds, rfl, rfl, z, r⟩
  · exact .lst upd_same z (r.mono sub)
  · exact .dct upd_same (r.mono sub) z
def OwR (K : PySem.W.Frag) (F H : Hp) (a : Addr) (d : D) : Prop := ∃ o, H a = some o ∧ OwO K F o d
theorem OwR.mono {K : PySem.W.Frag} {F F' H H' : Hp} {a : Addr} {d : D} (h : OwR K F H a d) (e : Sub F F') (k : H' a = H a) : OwR K F' H' a d := by
  obtain ⟨o, h1, r⟩ := h
  exact ⟨o, by rw [k]; exact h1, r.mono e⟩
theorem OwR.l {K : PySem.W.Frag} {F H : Hp} {a : Addr} {ds : List D} (h : OwR K F H a (.lst ds)) : ∃ vs ds', D.lst ds = .lst ds' ∧ H a = some (.lst vs) ∧ vs.length ≤ sizeLine ∧ Dvs K F vs ds' := by
  obtain ⟨o, h1, ⟨vs, ds', e, rfl, z, r⟩ | ⟨ks, vs, ds', e, _⟩⟩ := h
  · exact ⟨vs, ds', e, h1, z, r⟩
  · cases e
theorem OwR.d {K : PySem.W.Frag} {F H : Hp} {a : Addr} {kvs : List (Key × D)} (h : OwR K F H a (.dct kvs)) : ∃ (ks : List L2.Key) (vs : List V) (ds : List D), kvs = ks.zip ds ∧ H a = some (.dK (ks.zip vs)) ∧ ks.length = vs.length ∧ Dvs K F vs ds := by
  obtain ⟨o, h1, ⟨vs, ds', e, _⟩ | ⟨ks, vs, ds, e, rfl, z, r⟩⟩ := h
  · cases e
  · cases e
    exact ⟨ks, vs, ds, rfl, h1, z, r⟩
structure Slots (K : PySem.W.Frag) (W : Wd) (B F H : Hp) (σ : L2.St) (ρ : Env) : Prop where
  sh : ∀ (i : Nat) (d : D), ρ[i]? = some (some (Sl.sh d)) → ∃ v, σ[i]? = some (some v) ∧ Dv K F v d
  ow : ∀ (i : Nat) (d : D), ρ[i]? = some (some (Sl.ow d)) → ∃ a, σ[i]? = some (some (V.ref a)) ∧ B a = none ∧ F a = none ∧ ¬ W.fp a ∧ OwR K F H a d
  dj : ∀ (i j : Nat) (d e : D) (a : Addr), ρ[i]? = some (some (Sl.ow d)) → ρ[j]? = some (some (Sl.ow e)) → σ[i]? = some (some (V.ref a)) → σ[j]? = some (some (V.ref a)) → i = j
/-- B: what must stand; F0: what was shared at the entry; F: what is shared now -/
structure Rel (K : PySem.W.Frag) (W : Wd) (B F0 : Hp) (σ : L2.St) (H F : Hp) (ρ : Env) (s : W.S) : Prop where
  bh : Sub B H
  fh : Sub F H
  ff : Sub F0 F
  fb : ∀ x, F x ≠ none → F0 x ≠ none ∨ B x = none
  of : ∀ x, W.fp x → F x = none
  ob : ∀ x, W.fp x → B x = none
  st : W.so s H
  len : σ.length = ρ.length
  sl : Slots K W B F H σ ρ

section
variable {K : PySem.W.Frag} {W : Wd} {B F0 H H' F F' : Hp} {σ σ' : L2.St} {ρ ρ' : Env} {s s' : W.S} {p : Addr} {o : HO} {d : D} {v : V} {i : Nat}

/-- slots under a grown heap -/
theorem Slots.grow {B' : Hp} (sl : Slots K W B F H σ ρ) (f : Sub F F') (k : ∀ (i : Nat) (d : D) (a : Addr), ρ[i]? = some (some (Sl.ow d)) → σ[i]? = some (some (V.ref a)) → B a = none → F a = none → H a ≠ none → B' a = none ∧ F' a = none ∧ H' a = H a) : Slots K W B' F' H' σ ρ := by
  refine ⟨fun i d e => ?_, fun i d e => ?_, sl.dj⟩
  · obtain ⟨v, h1, h2⟩ := sl.sh i d e
    exact ⟨v, h1, h2.mono f⟩
  · obtain ⟨a, h1, h2, h3, h4, h5⟩ := sl.ow i d e
    have al : H a ≠ none := by
      obtain ⟨o, q, _⟩ := h5
      rw [q]; exact fun z => nomatch z
    obtain ⟨k1, k2, k3⟩ := k i d a e h1 h2 h3 al
    exact ⟨a, h1, k1, k2, h4, h5.mono f k3⟩
/-- a new shared object -/
theorem Rel.new (R : Rel K W B F0 σ H F ρ s) (hp : H p = none) : Rel K W B F0 σ (upd H p o) (upd F p o) ρ s := by
  have np : ∀ x, W.fp x → x ≠ p := fun x hx e => W.alive R.st hx (e ▸ hp)
  refine ⟨R.bh.updR (R.bh.none hp), R.fh.upd2, R.ff.updR (R.ff.none (R.fh.none hp)), fun x hx => ?_, fun x hx => ?_, R.ob, W.stay R.st fun x hx => upd_ne (np x hx), R.len, ?_⟩
  · by_cases e : x = p
    · subst e; exact .inr (R.bh.none hp)
    · rw [upd_ne e] at hx; exact R.fb x hx
  · rw [upd_ne (np x hx)]; exact R.of x hx
  · refine R.sl.grow (Sub.upd (R.fh.none hp)) fun i d a _ _ hB hF hH => ?_
    have ne : a ≠ p := fun e => hH (e ▸ hp)
    exact ⟨hB, by rw [upd_ne ne]; exact hF, upd_ne ne⟩
/-- a new object that is held by nothing yet: it must stand (it is in B) -/
theorem Rel.keep (R : Rel K W B F0 σ H F ρ s) (hp : H p = none) : Rel K W (upd B p o) F0 σ (upd H p o) F ρ s := by
  have np : ∀ x, W.fp x → x ≠ p := fun x hx e => W.alive R.st hx (e ▸ hp)
  refine ⟨R.bh.upd2, R.fh.updR (R.fh.none hp), R.ff, fun x hx => ?_, R.of, fun x hx => ?_, W.stay R.st fun x hx => upd_ne (np x hx), R.len, ?_⟩
  · by_cases e : x = p
    · subst e; exact absurd (R.fh.none hp) hx
    · rw [upd_ne e]; exact R.fb x hx
  · rw [upd_ne (np x hx)]; exact R.ob x hx
  · refine R.sl.grow (Sub.refl F) fun i d a _ _ hB hF hH => ?_
    have ne : a ≠ p := fun e => hH (e ▸ hp)
    exact ⟨by rw [upd_ne ne]; exact hB, hF, upd_ne ne⟩
/-- it is shared -/
theorem Rel.share (R : Rel K W (upd B p o) F0 σ H F ρ s) (hB : B p = none) : Rel K W B F0 σ H (upd F p o) ρ s := by
  have hH : H p = some o := R.bh p o upd_same
  have np : ∀ x, W.fp x → x ≠ p := fun x hx e => by
    have := R.ob x hx
    rw [e, upd_same] at this; cases this
  refine ⟨fun x u e => R.bh x u ?_, fun x u e => ?_, fun x u e => ?_, fun x hx => ?_, fun x hx => ?_, fun x hx => ?_, R.st, R.len, ?_⟩
  · rw [upd_ne (fun z => by rw [z, hB] at e; cases e)]; exact e
  · by_cases z : x = p
    · subst z; rw [upd_same] at e; cases e; exact hH
    · rw [upd_ne z] at e; exact R.fh x u e
  · have h1 := R.ff x u e
    by_cases z : x = p
    · subst z
      have h2 := R.fh x u h1
      rw [hH] at h2; cases h2
      exact upd_same
    · rw [upd_ne z]; exact h1
  · by_cases z : x = p
    · subst z; exact .inr hB
    · rw [upd_ne z] at hx
      rcases R.fb x hx with q | q
      · exact .inl q
      · rw [upd_ne z] at q; exact .inr q
  · rw [upd_ne (np x hx)]; exact R.of x hx
  · have := R.ob x hx
    rw [upd_ne (np x hx)] at this; exact this
  · refine R.sl.grow (fun x u e => ?_) fun i d a _ _ hBa hF hHa => ?_
    · by_cases z : x = p
      · subst z
        have h2 := R.fh x u e
        rw [hH] at h2; cases h2
        exact upd_same
      · rw [upd_ne z]; exact e
    · have ne : a ≠ p := fun e => by rw [e, upd_same] at hBa; cases hBa
      rw [upd_ne ne] at hBa
      exact ⟨hBa, by rw [upd_ne ne]; exact hF, rfl⟩
theorem Rel.sharesub (R : Rel K W (upd B p o) F0 σ H F ρ s) : Sub F (upd F p o) := fun x u e => by
  by_cases z : x = p
  · subst z
    have h2 := R.fh x u e
    rw [R.bh x o upd_same] at h2; cases h2
    exact upd_same
  · rw [upd_ne z]; exact e
/-- forgetting all slots -/
theorem Rel.nil (R : Rel K W B F0 σ H F ρ s) : Rel K W B F0 [] H F [] s :=
  ⟨R.bh, R.fh, R.ff, R.fb, R.of, R.ob, R.st, rfl, fun i d e => by simp at e, fun i d e => by simp at e, fun i j d e a h => by simp at h⟩
theorem set_get {α : Type} {l : List α} {i j : Nat} {x y : α} (h : (l.set i x)[j]? = some y) : (i = j ∧ y = x ∧ i < l.length) ∨ (i ≠ j ∧ l[j]? = some y) := by
  by_cases e : i = j
  · subst e
    rw [List.getElem?_set_self'] at h
    cases q : l[i]? with
    | none => rw [q] at h; cases h
    | some z =>
      rw [q] at h
      cases h
      exact .inl ⟨rfl, rfl, (List.getElem?_eq_some_iff.mp q).1⟩
  · rw [List.getElem?_set_ne e] at h
    exact .inr ⟨e, h⟩
theorem set_get_ne {α : Type} {l : List α} {i j : Nat} {x : α} (h : i ≠ j) : (l.set i x)[j]? = l[j]? := List.getElem?_set_ne h
theorem set_get_eq {α : Type} {l : List α} {i : Nat} {x : α} (h : i < l.length) : (l.set i x)[i]? = some x := List.getElem?_set_self h
/-- a shared value is stored -/
theorem Rel.setSh (R : Rel K W B F0 σ H F ρ s) (hv : Dv K F v d) : Rel K W B F0 (σ.set i (some v)) H F (ρ.set i (some (Sl.sh d))) s := by
  refine ⟨R.bh, R.fh, R.ff, R.fb, R.of, R.ob, R.st, by rw [List.length_set, List.length_set]; exact R.len, fun j e h => ?_, fun j e h => ?_, fun j k e f a h h' g g' => ?_⟩
  · rcases set_get h with ⟨rfl, q, hl⟩ | ⟨ne, q⟩
    · cases q
      exact ⟨v, set_get_eq (by rw [R.len]; exact hl), hv⟩
    · rw [set_get_ne ne]; exact R.sl.sh j e q
  · rcases set_get h with ⟨rfl, q, _⟩ | ⟨ne, q⟩
    · cases q
    · rw [set_get_ne ne]; exact R.sl.ow j e q
  · rcases set_get h with ⟨rfl, q, _⟩ | ⟨ne, q⟩
    · cases q
    · rcases set_get h' with ⟨rfl, q', _⟩ | ⟨ne', q'⟩
      · cases q'
      · rw [set_get_ne ne] at g
        rw [set_get_ne ne'] at g'
        exact R.sl.dj j k e f a q q' g g'
/-- a new list is stored, owned -/
theorem Rel.setOwO (R : Rel K W (upd B p o) F0 σ H F ρ s) (hB : B p = none) (hF : F p = none) (hv : OwO K F o d) :
    Rel K W B F0 (σ.set i (some (.ref p))) H F (ρ.set i (some (Sl.ow d))) s := by
  have hH : H p = some o := R.bh p _ upd_same
  have np : ∀ x, W.fp x → x ≠ p := fun x hx e => by
    have := R.ob x hx
    rw [e, upd_same] at this; cases this
  have sub : Sub B (upd B p o) := Sub.upd hB
  have nes : ∀ (j : Nat) (e : D) (a : Addr), ρ[j]? = some (some (Sl.ow e)) → σ[j]? = some (some (V.ref a)) → a ≠ p := fun j e a h g z => by
    obtain ⟨a', h1, h2, _⟩ := R.sl.ow j e h
    rw [g] at h1
    cases h1
    rw [z, upd_same] at h2; cases h2
  refine ⟨fun x u e => R.bh x u (sub x u e), R.fh, R.ff, fun x hx => ?_, R.of, fun x hx => ?_, R.st, by rw [List.length_set, List.length_set]; exact R.len, fun j e h => ?_, fun j e h => ?_, fun j k e f a h h' g g' => ?_⟩
  · rcases R.fb x hx with q | q
    · exact .inl q
    · exact .inr (sub.none q)
  · exact sub.none (R.ob x hx)
  · rcases set_get h with ⟨rfl, q, _⟩ | ⟨ne, q⟩
    · cases q
    · rw [set_get_ne ne]; exact R.sl.sh j e q
  · rcases set_get h with ⟨rfl, q, hl⟩ | ⟨ne, q⟩
    · cases q
      exact ⟨p, set_get_eq (by rw [R.len]; exact hl), hB, hF, fun z => np p z rfl, o, hH, hv⟩
    · rw [set_get_ne ne]
      obtain ⟨a, h1, h2, h3⟩ := R.sl.ow j e q
      exact ⟨a, h1, sub.none h2, h3⟩
  · rcases set_get h with ⟨rfl, q, hl⟩ | ⟨ne, q⟩
    · rcases set_get h' with ⟨rfl, q', _⟩ | ⟨ne', q'⟩
      · rfl
      · rw [set_get_eq (by rw [R.len]; exact hl)] at g
        cases g
        rw [set_get_ne ne'] at g'
        exact absurd rfl (nes k f _ q' g')
    · rcases set_get h' with ⟨rfl, q', hl⟩ | ⟨ne', q'⟩
      · rw [set_get_eq (by rw [R.len]; exact hl)] at g'
        cases g'
        rw [set_get_ne ne] at g
        exact absurd rfl (nes j e _ q g)
      · rw [set_get_ne ne] at g
        rw [set_get_ne ne'] at g'
        exact R.sl.dj j k e f a q q' g g'
theorem Rel.setOw {vs : List V} {ds : List D} (R : Rel K W (upd B p (.lst vs)) F0 σ H F ρ s) (hB : B p = none) (hF : F p = none) (hz : vs.length ≤ sizeLine) (hv : Dvs K F vs ds) :
    Rel K W B F0 (σ.set i (some (.ref p))) H F (ρ.set i (some (Sl.ow (.lst ds)))) s := R.setOwO hB hF (.inl ⟨vs, ds, rfl, rfl, hz, hv⟩)
/-- an owned slot is shared from now on -/
theorem Rel.freeze (R : Rel K W B F0 σ H F ρ s) (h : ρ[i]? = some (some (Sl.ow d))) :
    ∃ a o, σ[i]? = some (some (V.ref a)) ∧ Sub F (upd F a o) ∧ Dv K (upd F a o) (.ref a) d ∧ Rel K W B F0 σ H (upd F a o) (ρ.set i (some (Sl.sh d))) s := by
  obtain ⟨a, h1, h2, h3, h4, o, h5, h6⟩ := R.sl.ow i d h
  have sub : Sub F (upd F a o) := Sub.upd h3
  have hd : Dv K (upd F a o) (.ref a) d := h6.dv h3
  refine ⟨a, o, h1, sub, hd, R.bh, fun x u e => ?_, R.ff.trans sub, fun x hx => ?_, fun x hx => ?_, R.ob, R.st, by rw [List.length_set]; exact R.len, fun j e g => ?_, fun j e g => ?_, fun j k e f b g g' => ?_⟩
  · by_cases z : x = a
    · subst z; rw [upd_same] at e; cases e; exact h5
    · rw [upd_ne z] at e; exact R.fh x u e
  · by_cases z : x = a
    · subst z; exact .inr h2
    · rw [upd_ne z] at hx; exact R.fb x hx
  · rw [upd_ne (show x ≠ a from fun z => h4 (by rw [← z]; exact hx))]; exact R.of x hx
  · rcases set_get g with ⟨rfl, q, _⟩ | ⟨ne, q⟩
    · cases q
      exact ⟨_, h1, hd⟩
    · obtain ⟨v, q1, q2⟩ := R.sl.sh j e q
      exact ⟨v, q1, q2.mono sub⟩
  · rcases set_get g with ⟨rfl, q, _⟩ | ⟨ne, q⟩
    · cases q
    · obtain ⟨b, q1, q2, q3, q4, q5⟩ := R.sl.ow j e q
      have nb : b ≠ a := fun z => ne (R.sl.dj _ _ _ _ a h q h1 (z ▸ q1))
      exact ⟨b, q1, q2, by rw [upd_ne nb]; exact q3, q4, q5.mono sub rfl⟩
  · rcases set_get g with ⟨rfl, q, _⟩ | ⟨ne, q⟩
    · cases q
    · rcases set_get g' with ⟨rfl, q', _⟩ | ⟨ne', q'⟩
      · cases q'
      · exact R.sl.dj j k e f b q q'
/-- an owned list is changed -/
theorem Rel.writeO {a : Addr} {d' : D} (R : Rel K W B F0 σ H F ρ s) (h : ρ[i]? = some (some (Sl.ow d))) (hs : σ[i]? = some (some (V.ref a))) (hv : OwO K F o d') :
    Rel K W B F0 σ (upd H a o) F (ρ.set i (some (Sl.ow d'))) s := by
  obtain ⟨a', h1, h2, h3, h4, h5⟩ := R.sl.ow i d h
  rw [hs] at h1; cases h1
  have hl : i < ρ.length := (List.getElem?_eq_some_iff.mp h).1
  refine ⟨R.bh.updR h2, R.fh.updR h3, R.ff, R.fb, R.of, R.ob, W.stay R.st fun x hx => upd_ne (fun z => h4 (z ▸ hx)), by rw [List.length_set]; exact R.len, fun j e g => ?_, fun j e g => ?_, fun j k e f b g g' q1 q2 => ?_⟩
  · rcases set_get g with ⟨rfl, q, _⟩ | ⟨ne, q⟩
    · cases q
    · exact R.sl.sh j e q
  · rcases set_get g with ⟨rfl, q, _⟩ | ⟨ne, q⟩
    · cases q
      exact ⟨a, hs, h2, h3, h4, o, upd_same, hv⟩
    · obtain ⟨b, q1, q2, q3, q4, q5⟩ := R.sl.ow j e q
      have nb : b ≠ a := fun z => ne (R.sl.dj _ _ _ _ a h q hs (z ▸ q1))
      exact ⟨b, q1, q2, q3, q4, q5.mono (Sub.refl F) (upd_ne nb)⟩
  · have o1 : ∃ e', ρ[j]? = some (some (Sl.ow e')) := by
      rcases set_get g with ⟨rfl, _, _⟩ | ⟨_, q⟩
      · exact ⟨_, h⟩
      · exact ⟨_, q⟩
    have o2 : ∃ e', ρ[k]? = some (some (Sl.ow e')) := by
      rcases set_get g' with ⟨rfl, _, _⟩ | ⟨_, q⟩
      · exact ⟨_, h⟩
      · exact ⟨_, q⟩
    obtain ⟨e1, g1⟩ := o1
    obtain ⟨e2, g2⟩ := o2
    exact R.sl.dj j k e1 e2 b g1 g2 q1 q2
theorem Rel.write {a : Addr} {vs : List V} {ds : List D} (R : Rel K W B F0 σ H F ρ s) (h : ρ[i]? = some (some (Sl.ow d))) (hs : σ[i]? = some (some (V.ref a))) (hz : vs.length ≤ sizeLine) (hv : Dvs K F vs ds) :
    Rel K W B F0 σ (upd H a (.lst vs)) F (ρ.set i (some (Sl.ow (.lst ds)))) s := R.writeO h hs (.inl ⟨vs, ds, rfl, rfl, hz, hv⟩)
/-- a slot is forgotten -/
theorem Rel.kill (R : Rel K W B F0 σ H F ρ s) : Rel K W B F0 σ H F (ρ.set i none) s := by
  refine ⟨R.bh, R.fh, R.ff, R.fb, R.of, R.ob, R.st, by rw [List.length_set]; exact R.len, fun j e g => ?_, fun j e g => ?_, fun j k e f b g g' => ?_⟩
  · rcases set_get g with ⟨rfl, q, _⟩ | ⟨ne, q⟩
    · cases q
    · exact R.sl.sh j e q
  · rcases set_get g with ⟨rfl, q, _⟩ | ⟨ne, q⟩
    · cases q
    · exact R.sl.ow j e q
  · rcases set_get g with ⟨rfl, q, _⟩ | ⟨ne, q⟩
    · cases q
    · rcases set_get g' with ⟨rfl, q', _⟩ | ⟨ne', q'⟩
      · cases q'
      · exact R.sl.dj j k e f b q q'
theorem Rel.kills : ∀ (l : List Nat) {ρ : Env}, Rel K W B F0 σ H F ρ s → Rel K W B F0 σ H F (wipeE l ρ) s
  | [], _, R => R
  | i :: l, _, R => Rel.kills l R.kill
end

/-! ### what a reading means -/
section
variable (K : PySem.W.Frag) (W : Wd)
def SemE (t : TE) (f : E W.S) : Prop := ∀ B F0 σ H F ρ s, Rel K W B F0 σ H F ρ s → ∀ d ρ' s', f ρ s = some (d, ρ', s') → ∀ Q : VK,
  (∀ v H' F', Rel K W B F0 σ H' F' ρ' s' → Sub F F' → Dv K F' v d → Q v H') → t σ H Q
/-- a new list (nothing else holds it) -/
def SemN (t : TE) (f : E W.S) : Prop := ∀ B F0 σ H F ρ s, Rel K W B F0 σ H F ρ s → ∀ d ρ' s', f ρ s = some (d, ρ', s') → ∀ Q : VK,
  (∀ p vs ds H' F', d = .lst ds → Rel K W (upd B p (.lst vs)) F0 σ H' F' ρ' s' → B p = none → F' p = none → Sub F F' → vs.length ≤ sizeLine → Dvs K F' vs ds → Q (.ref p) H') → t σ H Q
/-- a new list or dict (nothing else holds it) -/
def SemND (t : TE) (f : E W.S) : Prop := ∀ B F0 σ H F ρ s, Rel K W B F0 σ H F ρ s → ∀ d ρ' s', f ρ s = some (d, ρ', s') → ∀ Q : VK,
  (∀ p o H' F', Rel K W (upd B p o) F0 σ H' F' ρ' s' → B p = none → F' p = none → Sub F F' → OwO K F' o d → Q (.ref p) H') → t σ H Q
def SemT (t : TT) (f : T W.S) : Prop := ∀ B F0 σ H F ρ s, Rel K W B F0 σ H F ρ s → ∀ b ρ' s', f ρ s = some (b, ρ', s') → ∀ Q : Bool → Hp → Prop,
  (∀ H' F', Rel K W B F0 σ H' F' ρ' s' → Sub F F' → Q b H') → t σ H Q
def SemA (t : TA) (f : As W.S) : Prop := ∀ B F0 σ H F ρ s, Rel K W B F0 σ H F ρ s → ∀ ds ρ' s', f ρ s = some (ds, ρ', s') → ∀ Q : List V → Hp → Prop,
  (∀ vs H' F', Rel K W B F0 σ H' F' ρ' s' → Sub F F' → Dvs K F' vs ds → Q vs H') → t σ H Q
/-- a part of a slice -/
def SemO (t : TO) (f : Env → W.S → Option (Option Int × Env × W.S)) : Prop := ∀ B F0 σ H F ρ s, Rel K W B F0 σ H F ρ s → ∀ i ρ' s', f ρ s = some (i, ρ', s') → ∀ Q : Option Int → Hp → Prop,
  (∀ H' F', Rel K W B F0 σ H' F' ρ' s' → Sub F F' → Q i H') → t σ H Q
/-- an operation on values; its outcome is shared, or new -/
def SemR2 (r : R2) (op : D → D → Option D) : Prop := ∀ B F0 σ H F ρ s, Rel K W B F0 σ H F ρ s → ∀ x y dx dy d, Dv K F x dx → Dv K F y dy → op dx dy = some d → ∀ Q : VK,
  (∀ v H' F', Rel K W B F0 σ H' F' ρ s → Sub F F' → Dv K F' v d → Q v H') → r x y H Q
def SemR1 (r : V → Hp → VK → Prop) (op : D → Option D) : Prop := ∀ B F0 σ H F ρ s, Rel K W B F0 σ H F ρ s → ∀ x dx d, Dv K F x dx → op dx = some d → ∀ Q : VK,
  (∀ v H' F', Rel K W B F0 σ H' F' ρ s → Sub F F' → Dv K F' v d → Q v H') → r x H Q
/-- a built-in called on values -/
def SemB (r : List V → Hp → VK → Prop) (op : List D → Option D) : Prop := ∀ B F0 σ H F ρ s, Rel K W B F0 σ H F ρ s → ∀ xs ds d, Dvs K F xs ds → op ds = some d → ∀ Q : VK,
  (∀ v H' F', Rel K W B F0 σ H' F' ρ s → Sub F F' → Dv K F' v d → Q v H') → r xs H Q
def SemBN (r : List V → Hp → VK → Prop) (op : List D → Option D) : Prop := ∀ B F0 σ H F ρ s, Rel K W B F0 σ H F ρ s → ∀ xs ds d, Dvs K F xs ds → op ds = some d → ∀ Q : VK,
  (∀ p vs ds H' F', d = .lst ds → Rel K W (upd B p (.lst vs)) F0 σ H' F' ρ s → B p = none → F' p = none → Sub F F' → vs.length ≤ sizeLine → Dvs K F' vs ds → Q (.ref p) H') → r xs H Q
end
section
variable {K : PySem.W.Frag} {W : Wd} {ta tb tc te : TE} {fa fb fc : E W.S} {t u : TT} {ft fu : T W.S}
theorem SemN.d (h : SemN K W ta fa) : SemND K W ta fa := fun B F0 σ H F ρ s R d ρ' s' e Q q => by
  refine h B F0 σ H F ρ s R d ρ' s' e Q fun p vs ds H' F' hd R' hB hF sub hz hv => ?_
  subst hd
  exact q p _ _ _ R' hB hF sub (.inl ⟨vs, ds, rfl, rfl, hz, hv⟩)
theorem SemND.e (h : SemND K W ta fa) : SemE K W ta fa := fun B F0 σ H F ρ s R d ρ' s' e Q q => by
  refine h B F0 σ H F ρ s R d ρ' s' e Q fun p o H' F' R' hB hF sub hv => ?_
  exact q _ _ _ (R'.share hB) (sub.trans R'.sharesub) (hv.dv hF)
theorem SemN.e (h : SemN K W ta fa) : SemE K W ta fa := fun B F0 σ H F ρ s R d ρ' s' e Q q => by
  refine h B F0 σ H F ρ s R d ρ' s' e Q fun p vs ds H' F' hd R' hB hF sub hz hv => ?_
  subst hd
  exact q _ _ _ (R'.share hB) (sub.trans R'.sharesub) (.lst upd_same hz (hv.mono R'.sharesub))
/-- a new list that a rule lays -/
theorem lay_new {B F0 : Hp} {σ : L2.St} {H F : Hp} {ρ : Env} {s : W.S} {vs : List V} {ds : List D} {Q : VK} (R : Rel K W B F0 σ H F ρ s) (hz : vs.length ≤ sizeLine) (hv : Dvs K F vs ds)
    (q : ∀ p vs' ds' H' F', D.lst ds = D.lst ds' → Rel K W (upd B p (.lst vs')) F0 σ H' F' ρ s → B p = none → F' p = none → Sub F F' → vs'.length ≤ sizeLine → Dvs K F' vs' ds' → Q (.ref p) H') : ∀ p, H p = none → Q (.ref p) (upd H p (.lst vs)) :=
  fun p hp => q p vs ds _ F rfl (R.keep hp) (R.bh.none hp) (R.fh.none hp) (Sub.refl F) hz hv
theorem lay_tup {B F0 : Hp} {σ : L2.St} {H F : Hp} {ρ : Env} {s : W.S} {vs : List V} {ds : List D} {Q : VK} (R : Rel K W B F0 σ H F ρ s) (hz : vs.length ≤ sizeLine) (hv : Dvs K F vs ds)
    (q : ∀ v H' F', Rel K W B F0 σ H' F' ρ s → Sub F F' → Dv K F' v (.tup ds) → Q v H') : ∀ p, H p = none → Q (.ref p) (upd H p (.tup vs)) := fun p hp => by
  have sub : Sub F (upd F p (.tup vs)) := Sub.upd (R.fh.none hp)
  exact q _ _ _ (R.new hp) sub (.tup (.of upd_same) hz (hv.mono sub))
theorem lay_lst {B F0 : Hp} {σ : L2.St} {H F : Hp} {ρ : Env} {s : W.S} {vs : List V} {ds : List D} {Q : VK} (R : Rel K W B F0 σ H F ρ s) (hz : vs.length ≤ sizeLine) (hv : Dvs K F vs ds)
    (q : ∀ v H' F', Rel K W B F0 σ H' F' ρ s → Sub F F' → Dv K F' v (.lst ds) → Q v H') : ∀ p, H p = none → Q (.ref p) (upd H p (.lst vs)) := fun p hp => by
  have sub : Sub F (upd F p (.lst vs)) := Sub.upd (R.fh.none hp)
  exact q _ _ _ (R.new hp) sub (.lst upd_same hz (hv.mono sub))
theorem se_c {v : V} {d : D} (h : ∀ F, Dv K F v d) : SemE K W (tC v) (eC d) := fun B F0 σ H F ρ s R d' ρ' s' e Q q => by
  cases e
  exact q v H F R (Sub.refl F) (h F)
theorem se_int {i : Int} : SemE K W (tC (.int i)) (eC (.int i)) := se_c fun _ => .int i
theorem se_bl {i : Bool} : SemE K W (tC (.bl i)) (eC (.bl i)) := se_c fun _ => .bl i
theorem se_non : SemE K W (tC .non) (eC .non) := se_c fun _ => .non
theorem se_str {i : Str} : SemE K W (tC (.str i)) (eC (.str i)) := se_c fun _ => .str i
theorem se_v {i : Nat} : SemE K W (tVar i) (eV i) := fun B F0 σ H F ρ s R d ρ' s' e Q q => by
  unfold eV at e
  split at e
  · rename_i d' h
    cases e
    obtain ⟨v, h1, h2⟩ := R.sl.sh i _ h
    exact ⟨v, h1, q v H F R (Sub.refl F) h2⟩
  · rename_i d' h
    cases e
    obtain ⟨a, o, h1, sub, hd, R'⟩ := R.freeze h
    exact ⟨_, h1, q _ H _ R' sub hd⟩
  · cases e
theorem se_2 {r : R2} {op : D → D → Option D} (hr : SemR2 K W r op) (ha : SemE K W ta fa) (hb : SemE K W tb fb) : SemE K W (tOp r ta tb) (e2 op fa fb) := fun B F0 σ H F ρ s R d ρ' s' e Q q => by
  unfold e2 at e
  split at e
  · rename_i x ρ1 s1 h1
    split at e
    · rename_i y ρ2 s2 h2
      split at e
      · rename_i z h3
        cases e
        refine ha B F0 σ H F ρ s R x _ _ h1 _ fun v H1 F1 R1 sub1 d1 => ?_
        refine hb B F0 σ H1 F1 _ _ R1 y _ _ h2 _ fun w H2 F2 R2 sub2 d2 => ?_
        exact hr B F0 σ H2 F2 _ _ R2 v w x y d (d1.mono sub2) d2 h3 Q fun v' H' F' R' sub' d' => q v' H' F' R' (sub1.trans (sub2.trans sub')) d'
      · cases e
    · cases e
  · cases e
theorem se_1 {r : V → Hp → VK → Prop} {op : D → Option D} (hr : SemR1 K W r op) (ha : SemE K W ta fa) : SemE K W (tUn r ta) (e1 op fa) := fun B F0 σ H F ρ s R d ρ' s' e Q q => by
  unfold e1 at e
  split at e
  · rename_i x ρ1 s1 h1
    split at e
    · rename_i z h3
      cases e
      refine ha B F0 σ H F ρ s R x _ _ h1 _ fun v H1 F1 R1 sub1 d1 => ?_
      exact hr B F0 σ H1 F1 _ _ R1 v x d d1 h3 Q fun v' H' F' R' sub' d' => q v' H' F' R' (sub1.trans sub') d'
    · cases e
  · cases e
theorem st_e (h : SemE K W ta fa) : SemT K W (tTest ta) (tE fa) := fun B F0 σ H F ρ s R b ρ' s' e Q q => by
  unfold tE at e
  split at e
  · rename_i c ρ1 s1 h1
    cases e
    refine h B F0 σ H F ρ s R _ _ _ h1 _ fun v H1 F1 R1 sub1 d1 => ?_
    cases d1
    exact ⟨b, rfl, q H1 F1 R1 sub1⟩
  · cases e
theorem st_eB (h : SemE K W ta fa) : SemT K W (tB ta) (tE fa) := st_e h
theorem st_yes : SemT K W L2.tYes Fw.tYes := fun B F0 σ H F ρ s R b ρ' s' e Q q => by
  cases e
  exact q H F R (Sub.refl F)
theorem st_and (ha : SemT K W t ft) (hb : SemT K W u fu) : SemT K W (L2.tAnd t u) (Fw.tAnd ft fu) := fun B F0 σ H F ρ s R b ρ' s' e Q q => by
  unfold Fw.tAnd at e
  split at e
  · rename_i ρ1 s1 h1
    refine ha B F0 σ H F ρ s R _ _ _ h1 _ fun H1 F1 R1 sub1 => ?_
    exact hb B F0 σ H1 F1 _ _ R1 _ _ _ e Q fun H2 F2 R2 sub2 => q H2 F2 R2 (sub1.trans sub2)
  · rename_i ρ1 s1 h1
    cases e
    exact ha B F0 σ H F ρ s R _ _ _ h1 _ fun H1 F1 R1 sub1 => q H1 F1 R1 sub1
  · cases e
theorem st_or (ha : SemT K W t ft) (hb : SemT K W u fu) : SemT K W (L2.tOr t u) (Fw.tOr ft fu) := fun B F0 σ H F ρ s R b ρ' s' e Q q => by
  unfold Fw.tOr at e
  split at e
  · rename_i ρ1 s1 h1
    cases e
    exact ha B F0 σ H F ρ s R _ _ _ h1 _ fun H1 F1 R1 sub1 => q H1 F1 R1 sub1
  · rename_i ρ1 s1 h1
    refine ha B F0 σ H F ρ s R _ _ _ h1 _ fun H1 F1 R1 sub1 => ?_
    exact hb B F0 σ H1 F1 _ _ R1 _ _ _ e Q fun H2 F2 R2 sub2 => q H2 F2 R2 (sub1.trans sub2)
  · cases e
theorem st_not (ha : SemT K W t ft) : SemT K W (L2.tNot t) (Fw.tNot ft) := fun B F0 σ H F ρ s R b ρ' s' e Q q => by
  unfold Fw.tNot at e
  split at e
  · rename_i c ρ1 s1 h1
    cases e
    exact ha B F0 σ H F ρ s R _ _ _ h1 _ fun H1 F1 R1 sub1 => q H1 F1 R1 sub1
  · cases e
theorem se_and (ha : SemE K W ta fa) (hb : SemE K W tb fb) : SemE K W (tAndV ta tb) (eAnd fa fb) := fun B F0 σ H F ρ s R d ρ' s' e Q q => by
  unfold eAnd at e
  split at e
  · rename_i ρ1 s1 h1
    refine ha B F0 σ H F ρ s R _ _ _ h1 _ fun v H1 F1 R1 sub1 d1 => ?_
    cases d1
    exact ⟨true, rfl, hb B F0 σ H1 F1 _ _ R1 _ _ _ e Q fun w H2 F2 R2 sub2 => q w H2 F2 R2 (sub1.trans sub2)⟩
  · rename_i ρ1 s1 h1
    cases e
    refine ha B F0 σ H F ρ s R _ _ _ h1 _ fun v H1 F1 R1 sub1 d1 => ?_
    cases d1
    exact ⟨false, rfl, q _ H1 F1 R1 sub1 (.bl false)⟩
  · cases e
theorem se_or (ha : SemE K W ta fa) (hb : SemE K W tb fb) : SemE K W (tOrV ta tb) (eOr fa fb) := fun B F0 σ H F ρ s R d ρ' s' e Q q => by
  unfold eOr at e
  split at e
  · rename_i ρ1 s1 h1
    cases e
    refine ha B F0 σ H F ρ s R _ _ _ h1 _ fun v H1 F1 R1 sub1 d1 => ?_
    cases d1
    exact ⟨true, rfl, q _ H1 F1 R1 sub1 (.bl true)⟩
  · rename_i ρ1 s1 h1
    refine ha B F0 σ H F ρ s R _ _ _ h1 _ fun v H1 F1 R1 sub1 d1 => ?_
    cases d1
    exact ⟨false, rfl, hb B F0 σ H1 F1 _ _ R1 _ _ _ e Q fun w H2 F2 R2 sub2 => q w H2 F2 R2 (sub1.trans sub2)⟩
  · cases e
theorem se_notV (ha : SemE K W ta fa) : SemE K W (tNotV ta) (e1 dNot fa) := fun B F0 σ H F ρ s R d ρ' s' e Q q => by
  unfold e1 at e
  split at e
  · rename_i x ρ1 s1 h1
    split at e
    · rename_i z h3
      cases e
      refine ha B F0 σ H F ρ s R x _ _ h1 _ fun v H1 F1 R1 sub1 d1 => ?_
      cases d1 <;> simp only [dNot, reduceCtorEq] at h3
      rename_i b
      cases h3
      exact ⟨b, rfl, q _ H1 F1 R1 sub1 (.bl _)⟩
    · cases e
  · cases e
theorem se_if (ht : SemT K W t ft) (ha : SemE K W ta fa) (hb : SemE K W tb fb) : SemE K W (tIf t ta tb) (eIf ft fa fb) := fun B F0 σ H F ρ s R d ρ' s' e Q q => by
  unfold eIf at e
  split at e
  · rename_i ρ1 s1 h1
    refine ht B F0 σ H F ρ s R _ _ _ h1 _ fun H1 F1 R1 sub1 => ?_
    exact ha B F0 σ H1 F1 _ _ R1 _ _ _ e Q fun w H2 F2 R2 sub2 => q w H2 F2 R2 (sub1.trans sub2)
  · rename_i ρ1 s1 h1
    refine ht B F0 σ H F ρ s R _ _ _ h1 _ fun H1 F1 R1 sub1 => ?_
    exact hb B F0 σ H1 F1 _ _ R1 _ _ _ e Q fun w H2 F2 R2 sub2 => q w H2 F2 R2 (sub1.trans sub2)
  · cases e
theorem se_chain {r r' : R2} {f g : D → D → Option D} (hr : SemR2 K W r f) (hr' : SemR2 K W r' g) (ha : SemE K W ta fa) (hb : SemE K W tb fb) (hc : SemE K W tc fc) : SemE K W (tChain r r' ta tb tc) (eChain f g fa fb fc) := fun B F0 σ H F ρ s R d ρ' s' e Q q => by
  unfold eChain at e
  split at e
  · rename_i x ρ1 s1 h1
    split at e
    · rename_i y ρ2 s2 h2
      refine ha B F0 σ H F ρ s R x _ _ h1 _ fun v H1 F1 R1 sub1 d1 => ?_
      refine hb B F0 σ H1 F1 _ _ R1 y _ _ h2 _ fun w H2 F2 R2 sub2 d2 => ?_
      split at e
      · rename_i h3
        refine hr B F0 σ H2 F2 _ _ R2 v w x y _ (d1.mono sub2) d2 h3 _ fun v' H' F' R' sub' d' => ?_
        cases d'
        refine ⟨true, rfl, ?_⟩
        rw [if_pos rfl]
        split at e
        · rename_i z ρ3 s3 h4
          split at e
          · rename_i z' h5
            cases e
            refine hc B F0 σ H' F' _ _ R' z _ _ h4 _ fun w' H4 F4 R4 sub4 d4 => ?_
            exact hr' B F0 σ H4 F4 _ _ R4 w w' y z _ (d2.mono (sub'.trans sub4)) d4 h5 Q fun v5 H5 F5 R5 sub5 d5 => q v5 H5 F5 R5 (sub1.trans (sub2.trans (sub'.trans (sub4.trans sub5)))) d5
          · cases e
        · cases e
      · rename_i h3
        cases e
        refine hr B F0 σ H2 F2 _ _ R2 v w x y _ (d1.mono sub2) d2 h3 _ fun v' H' F' R' sub' d' => ?_
        cases d'
        refine ⟨false, rfl, ?_⟩
        rw [if_neg Bool.false_ne_true]
        exact q _ H' F' R' (sub1.trans (sub2.trans sub')) (.bl false)
      · cases e
    · cases e
  · cases e
theorem sa_nil : SemA K W tNil aNil := fun B F0 σ H F ρ s R d ρ' s' e Q q => by
  cases e
  exact q [] H F R (Sub.refl F) .nil
theorem sa_cons {tr : TA} {fr : As W.S} (ha : SemE K W ta fa) (hr : SemA K W tr fr) : SemA K W (tCons ta tr) (aCons fa fr) := fun B F0 σ H F ρ s R d ρ' s' e Q q => by
  unfold aCons at e
  split at e
  · rename_i x ρ1 s1 h1
    split at e
    · rename_i xs ρ2 s2 h2
      cases e
      refine ha B F0 σ H F ρ s R x _ _ h1 _ fun v H1 F1 R1 sub1 d1 => ?_
      refine hr B F0 σ H1 F1 _ _ R1 xs _ _ h2 _ fun vs H2 F2 R2 sub2 d2 => ?_
      exact q _ H2 F2 R2 (sub1.trans sub2) (.cons (d1.mono sub2) d2)
    · cases e
  · cases e
theorem lim_size {n : Nat} (h : n ≤ LIM) : n ≤ sizeLine := by rw [sizeLine_eq]; exact h
theorem se_tup {tr : TA} {fr : As W.S} (hr : SemA K W tr fr) : SemE K W (tTup tr) (eTup fr) := fun B F0 σ H F ρ s R d ρ' s' e Q q => by
  unfold eTup at e
  split at e
  · rename_i xs ρ1 s1 h1
    split at e
    · rename_i hl
      cases e
      refine hr B F0 σ H F ρ s R xs _ _ h1 _ fun vs H1 F1 R1 sub1 d1 => ?_
      have hz : vs.length ≤ sizeLine := lim_size (by rw [d1.length]; exact hl)
      exact ⟨hz, lay_tup R1 hz d1 fun v H' F' R' sub' d' => q v H' F' R' (sub1.trans sub') d'⟩
    · cases e
  · cases e
theorem sn_lst {tr : TA} {fr : As W.S} (hr : SemA K W tr fr) : SemN K W (tLst tr) (eLst fr) := fun B F0 σ H F ρ s R d ρ' s' e Q q => by
  unfold eLst at e
  split at e
  · rename_i xs ρ1 s1 h1
    split at e
    · rename_i hl
      cases e
      refine hr B F0 σ H F ρ s R xs _ _ h1 _ fun vs H1 F1 R1 sub1 d1 => ?_
      have hz : vs.length ≤ sizeLine := lim_size (by rw [d1.length]; exact hl)
      exact ⟨hz, lay_new R1 hz d1 fun p vs' ds' H' F' hd R' hB hF sub' => q p vs' ds' H' F' hd R' hB hF (sub1.trans sub')⟩
    · cases e
  · cases e
theorem se_b {r : List V → Hp → VK → Prop} {op : List D → Option D} {tr : TA} {fr : As W.S} (hb : SemB K W r op) (hr : SemA K W tr fr) : SemE K W (tCB r tr) (eCallP op fr) := fun B F0 σ H F ρ s R d ρ' s' e Q q => by
  unfold eCallP at e
  split at e
  · rename_i xs ρ1 s1 h1
    split at e
    · rename_i z h2
      cases e
      refine hr B F0 σ H F ρ s R xs _ _ h1 _ fun vs H1 F1 R1 sub1 d1 => ?_
      exact hb B F0 σ H1 F1 _ _ R1 vs xs d d1 h2 Q fun v H' F' R' sub' d' => q v H' F' R' (sub1.trans sub') d'
    · cases e
  · cases e
theorem sn_b {r : List V → Hp → VK → Prop} {op : List D → Option D} {tr : TA} {fr : As W.S} (hb : SemBN K W r op) (hr : SemA K W tr fr) : SemN K W (tCB r tr) (eCallP op fr) := fun B F0 σ H F ρ s R d ρ' s' e Q q => by
  unfold eCallP at e
  split at e
  · rename_i xs ρ1 s1 h1
    split at e
    · rename_i z h2
      cases e
      refine hr B F0 σ H F ρ s R xs _ _ h1 _ fun vs H1 F1 R1 sub1 d1 => ?_
      exact hb B F0 σ H1 F1 _ _ R1 vs xs d d1 h2 Q fun p vs' ds' H' F' hd R' hB hF sub' => q p vs' ds' H' F' hd R' hB hF (sub1.trans sub')
    · cases e
  · cases e
/-- a def that reads and returns data -/
def spF (K : PySem.W.Frag) (W : Wd) (f : List D → W.S → Option (D × W.S)) : Sp := fun vs H Q _ => ∃ B F0 F s ds d s', Rel K W B F0 [] H F [] s ∧ Dvs K F vs ds ∧ f ds s = some (d, s') ∧
  ∀ v H' F', Rel K W B F0 [] H' F' [] s' → Sub F F' → Dv K F' v d → Q v H'
def spP (K : PySem.W.Frag) (f : List D → Option D) : Sp := spF K W0 fun ds _ => (f ds).map fun d => (d, ())
/-- the caller's side: all stands but the outer state's own -/
theorem Rel.inside {B F0 : Hp} {σ : L2.St} {H F : Hp} {ρ : Env} {s : W.S} (R : Rel K W B F0 σ H F ρ s) :
    ∃ B1, Rel K W B1 F [] H F [] s ∧ ∀ H' F' s', Rel K W B1 F [] H' F' [] s' → Rel K W B F0 σ H' F' ρ s' := by
  classical
  refine ⟨fun x => if W.fp x then none else H x, ⟨fun x o e => ?_, R.fh, Sub.refl F, fun x hx => .inl hx, R.of, fun x hx => if_pos hx, R.st, rfl, fun i d e => by simp at e, fun i d e => by simp at e, fun i j d e a h => by simp at h⟩, fun H' F' s' R' => ?_⟩
  · split at e
    · cases e
    · exact e
  · have key : ∀ x, ¬ W.fp x → H x ≠ none → H' x = H x := fun x hf hx => by
      cases q : H x with
      | none => exact absurd q hx
      | some o => exact R'.bh x o (by rw [if_neg hf]; exact q)
    have nF : ∀ x, F' x ≠ none → F x = none → ¬ W.fp x → H x = none := fun x h1 h2 hf => by
      rcases R'.fb x h1 with z | z
      · exact absurd h2 z
      · rw [if_neg hf] at z; exact z
    refine ⟨fun x o e => ?_, R'.fh, R.ff.trans R'.ff, fun x hx => ?_, R'.of, R.ob, R'.st, R.len, R.sl.grow R'.ff fun i d a h1 h2 hB hF hH => ?_⟩
    · have hf : ¬ W.fp x := fun z => by rw [R.ob x z] at e; cases e
      have h1 := R.bh x o e
      rw [key x hf (by rw [h1]; exact fun z => nomatch z)]; exact h1
    · by_cases h : F x = none
      · have hf : ¬ W.fp x := fun z => hx (R'.of x z)
        exact .inr (R.bh.none (nF x hx h hf))
      · exact R.fb x h
    · obtain ⟨a', e1, _, _, hf, _⟩ := R.sl.ow i d h1
      rw [h2] at e1; cases e1
      refine ⟨hB, ?_, key a hf hH⟩
      cases q : F' a with
      | none => rfl
      | some o => exact absurd (nF a (by rw [q]; exact fun z => nomatch z) hF hf) hH
theorem se_call {f : List D → W.S → Option (D × W.S)} {X : XK} {tr : TA} {fr : As W.S} (hr : SemA K W tr fr) : SemE K W (tCall (spF K W f) [] X tr) (eCall f fr) := fun B F0 σ H F ρ s R d ρ' s' e Q q => by
  unfold eCall at e
  split at e
  · rename_i xs ρ1 s1 h1
    split at e
    · rename_i z s2 h2
      cases e
      refine hr B F0 σ H F ρ s R xs _ _ h1 _ fun vs H1 F1 R1 sub1 d1 => ?_
      obtain ⟨B1, Ri, back⟩ := R1.inside
      rw [List.append_nil]
      exact ⟨B1, F1, F1, s1, xs, d, s', Ri, d1, h2, fun v H' F' R' sub' d' => q v H' F' (back _ _ _ R') (sub1.trans sub') d'⟩
    · cases e
  · cases e
/-- the same of a def that doesn't know the outer state -/
theorem Rel.inside0 {B F0 : Hp} {σ : L2.St} {H F : Hp} {ρ : Env} {s : W.S} (R : Rel K W B F0 σ H F ρ s) :
    Rel K W0 H F [] H F [] () ∧ ∀ H' F', Rel K W0 H F [] H' F' [] () → Rel K W B F0 σ H' F' ρ s := by
  refine ⟨⟨Sub.refl H, R.fh, Sub.refl F, fun x hx => .inl hx, fun x hx => hx.elim, fun x hx => hx.elim, trivial, rfl, fun i d e => by simp at e, fun i d e => by simp at e, fun i j d e a h => by simp at h⟩, fun H' F' R' => ?_⟩
  have key : ∀ x, H x ≠ none → H' x = H x := fun x hx => by
    cases q : H x with
    | none => exact absurd q hx
    | some o => exact R'.bh x o q
  have nF : ∀ x, F' x ≠ none → F x = none → H x = none := fun x h1 h2 => by
    rcases R'.fb x h1 with z | z
    · exact absurd h2 z
    · exact z
  refine ⟨R.bh.trans R'.bh, R'.fh, R.ff.trans R'.ff, fun x hx => ?_, fun x hx => ?_, R.ob, W.stay R.st fun x hx => key x (W.alive R.st hx), R.len, R.sl.grow R'.ff fun i d a h1 h2 hB hF hH => ⟨hB, ?_, key a hH⟩⟩
  · by_cases h : F x = none
    · exact .inr (R.bh.none (nF x hx h))
    · exact R.fb x h
  · cases q : F' x with
    | none => rfl
    | some o => exact absurd (nF x (by rw [q]; exact fun z => nomatch z) (R.of x hx)) (W.alive R.st hx)
  · cases q : F' a with
    | none => rfl
    | some o => exact absurd (nF a (by rw [q]; exact fun z => nomatch z) hF) hH
theorem se_callP {f : List D → Option D} {X : XK} {tr : TA} {fr : As W.S} (hr : SemA K W tr fr) : SemE K W (tCall (spP K f) [] X tr) (eCallP f fr) := fun B F0 σ H F ρ s R d ρ' s' e Q q => by
  unfold eCallP at e
  split at e
  · rename_i xs ρ1 s1 h1
    split at e
    · rename_i z h2
      cases e
      refine hr B F0 σ H F ρ s R xs _ _ h1 _ fun vs H1 F1 R1 sub1 d1 => ?_
      obtain ⟨Ri, back⟩ := R1.inside0
      rw [List.append_nil]
      exact ⟨H1, F1, F1, (), xs, d, (), Ri, d1, (by show Option.map _ (f xs) = _; rw [h2]; rfl), fun v H' F' R' sub' d' => q v H' F' (back _ _ R') (sub1.trans sub') d'⟩
    · cases e
  · cases e
theorem so_none : SemO K W tNoPart pNone := fun B F0 σ H F ρ s R d ρ' s' e Q q => by
  cases e
  exact q H F R (Sub.refl F)
theorem so_some (ha : SemE K W ta fa) : SemO K W (tPart ta) (pSome fa) := fun B F0 σ H F ρ s R d ρ' s' e Q q => by
  unfold pSome at e
  split at e
  · rename_i i ρ1 s1 h1
    cases e
    refine ha B F0 σ H F ρ s R _ _ _ h1 _ fun v H1 F1 R1 sub1 d1 => ?_
    cases d1
    exact ⟨i, rfl, q H1 F1 R1 sub1⟩
  · cases e
def SemSl (K : PySem.W.Frag) (W : Wd) (r : V → Option Int → Option Int → Hp → VK → Prop) : Prop := ∀ B F0 σ H F ρ (s : W.S), Rel K W B F0 σ H F ρ s → ∀ x dx lo hi d, Dv K F x dx → dCut lo hi dx = some d → ∀ Q : VK,
  (∀ v H' F', Rel K W B F0 σ H' F' ρ s → Sub F F' → Dv K F' v d → Q v H') → r x lo hi H Q
theorem se_cut {r : V → Option Int → Option Int → Hp → VK → Prop} {tl th : TO} {fl fh : Env → W.S → Option (Option Int × Env × W.S)} (hr : SemSl K W r) (ha : SemE K W ta fa) (hl : SemO K W tl fl) (hh : SemO K W th fh) : SemE K W (tSl r ta tl th) (eCut fa fl fh) := fun B F0 σ H F ρ s R d ρ' s' e Q q => by
  unfold eCut at e
  split at e
  · rename_i x ρ1 s1 h1
    split at e
    · rename_i l ρ2 s2 h2
      split at e
      · rename_i h ρ3 s3 h3
        split at e
        · rename_i z h4
          cases e
          refine ha B F0 σ H F ρ s R x _ _ h1 _ fun v H1 F1 R1 sub1 d1 => ?_
          refine hl B F0 σ H1 F1 _ _ R1 l _ _ h2 _ fun H2 F2 R2 sub2 => ?_
          refine hh B F0 σ H2 F2 _ _ R2 h _ _ h3 _ fun H3 F3 R3 sub3 => ?_
          exact hr B F0 σ H3 F3 _ _ R3 v x l h d (d1.mono (sub2.trans sub3)) h4 Q fun v' H' F' R' sub' d' => q v' H' F' R' (sub1.trans (sub2.trans (sub3.trans sub'))) d'
        · cases e
      · cases e
    · cases e
  · cases e
end
end Fw

/-! ### operators -/
namespace Fw
open PySem PySem.Spec PyProof.Rows L2
section
variable {K : PySem.W.Frag} {W : Wd}
/-- a rule that hands back a datum without a place, at the heap as it is -/
def Flat2 (K : PySem.W.Frag) (r : R2) (op : D → D → Option D) : Prop := ∀ F x y dx dy d, Dv K F x dx → Dv K F y dy → op dx dy = some d → ∃ v, (∀ F, Dv K F v d) ∧ ∀ H Q, Sub F H → Q v H → r x y H Q
def Flat1 (K : PySem.W.Frag) (r : List V → Hp → VK → Prop) (op : D → Option D) : Prop := ∀ F x dx d, Dv K F x dx → op dx = some d → ∃ v, (∀ F, Dv K F v d) ∧ ∀ H Q, Sub F H → Q v H → r [x] H Q
theorem r2_flat {r : R2} {op : D → D → Option D} (h : Flat2 K r op) : SemR2 K W r op :=
  fun B F0 σ H F ρ s R x y dx dy d hx hy e Q q => by
    obtain ⟨v, hv, k⟩ := h F x y dx dy d hx hy e
    exact k H Q R.fh (q v H F R (Sub.refl F) (hv F))
theorem f2_sub : Flat2 K (rI0 fun i j => .int (i - j)) dSub := fun F x y dx dy d hx hy e => by
  cases hx <;> cases hy <;> simp only [dSub, Option.some.injEq, reduceCtorEq] at e
  subst e
  exact ⟨_, fun _ => .int _, fun H Q _ q => ⟨_, _, rfl, rfl, q⟩⟩
theorem f2_lt : Flat2 K (rI0 fun i j => .bl (decide (i < j))) dLt := fun F x y dx dy d hx hy e => by
  cases hx <;> cases hy <;> simp only [dLt, Option.some.injEq, reduceCtorEq] at e
  subst e
  exact ⟨_, fun _ => .bl _, fun H Q _ q => ⟨_, _, rfl, rfl, q⟩⟩
theorem f2_le : Flat2 K (rI0 fun i j => .bl (decide (i ≤ j))) dLe := fun F x y dx dy d hx hy e => by
  cases hx <;> cases hy <;> simp only [dLe, Option.some.injEq, reduceCtorEq] at e
  subst e
  exact ⟨_, fun _ => .bl _, fun H Q _ q => ⟨_, _, rfl, rfl, q⟩⟩
theorem f2_gt : Flat2 K (rI0 fun i j => .bl (decide (j < i))) dGt := fun F x y dx dy d hx hy e => by
  cases hx <;> cases hy <;> simp only [dGt, Option.some.injEq, reduceCtorEq] at e
  subst e
  exact ⟨_, fun _ => .bl _, fun H Q _ q => ⟨_, _, rfl, rfl, q⟩⟩
theorem f2_ge : Flat2 K (rI0 fun i j => .bl (decide (j ≤ i))) dGe := fun F x y dx dy d hx hy e => by
  cases hx <;> cases hy <;> simp only [dGe, Option.some.injEq, reduceCtorEq] at e
  subst e
  exact ⟨_, fun _ => .bl _, fun H Q _ q => ⟨_, _, rfl, rfl, q⟩⟩
theorem f2_mod : Flat2 K (rI (fun _ j => 0 < j) fun i j => .int (i % j)) dMod := fun F x y dx dy d hx hy e => by
  cases hx <;> cases hy <;> simp only [dMod, reduceCtorEq] at e
  split at e
  · rename_i h
    cases e
    exact ⟨_, fun _ => .int _, fun H Q _ q => ⟨_, _, rfl, rfl, h, q⟩⟩
  · cases e
theorem f2_fdiv : Flat2 K (rI CDiv fun i j => .int (i / j)) dFdiv := fun F x y dx dy d hx hy e => by
  cases hx <;> cases hy <;> simp only [dFdiv, reduceCtorEq] at e
  split at e
  · rename_i h
    cases e
    exact ⟨_, fun _ => .int _, fun H Q _ q => ⟨_, _, rfl, rfl, h, q⟩⟩
  · cases e
theorem f2_pow : Flat2 K (rI CPow fun i j => .int (i ^ j.toNat)) dPow := fun F x y dx dy d hx hy e => by
  cases hx <;> cases hy <;> simp only [dPow, reduceCtorEq] at e
  split at e
  · rename_i h
    cases e
    exact ⟨_, fun _ => .int _, fun H Q _ q => ⟨_, _, rfl, rfl, h, q⟩⟩
  · cases e
theorem r1_neg : SemR1 K W (rU fun i => .int (-i)) dNeg := fun B F0 σ H F ρ s R x dx d hx e Q q => by
  cases hx <;> simp only [dNeg, Option.some.injEq, reduceCtorEq] at e
  subst e
  exact ⟨_, rfl, q _ H F R (Sub.refl F) (.int _)⟩
/-- + of ints, lists, tuples -/
def rAddA (K : PySem.W.Frag) : R2 := fun x y H Q => (rI0 (fun i j => .int (i + j)) x y H Q ∨ rCatA K x y H Q) ∨ rCat x y H Q
theorem op_addA {X : Cx} : OpR X (binaryOp .Add) (rAddA X.K) := (op_add.or op_catA).or op_cat
theorem r2_add : SemR2 K W (rAddA K) dAdd := fun B F0 σ H F ρ s R x y dx dy d hx hy e Q q => by
  cases hx <;> cases hy <;> simp only [dAdd, Option.some.injEq, reduceCtorEq] at e
  · subst e
    exact .inl (.inl ⟨_, _, rfl, rfl, q _ H F R (Sub.refl F) (.int _)⟩)
  · rename_i h1 z1 r1 _ _ _ h2 z2 r2
    split at e
    · rename_i hl
      cases e
      have hz : _ ≤ sizeLine := lim_size (by rw [← r1.length, ← r2.length] at hl; exact hl)
      refine .inr ⟨_, _, _, _, rfl, rfl, R.fh _ _ h1, R.fh _ _ h2, hz, lay_lst R (by rw [List.length_append]; exact hz) (r1.append r2) q⟩
    · cases e
  · rename_i h1 z1 r1 _ _ _ h2 z2 r2
    split at e
    · rename_i hl
      cases e
      have hz : _ ≤ sizeLine := lim_size (by rw [← r1.length, ← r2.length] at hl; exact hl)
      refine .inl (.inr ⟨_, _, _, _, rfl, rfl, R.fh.seqT h1, R.fh.seqT h2, hz, fun e0 => ?_, fun _ e0 => ?_, fun _ _ => lay_tup R (by rw [List.length_append]; exact hz) (r1.append r2) q⟩)
      · subst e0
        cases r1
        exact q _ H F R (Sub.refl F) (.tup h2 z2 r2)
      · subst e0
        cases r2
        rw [List.append_nil] at *
        exact q _ H F R (Sub.refl F) (.tup h1 z1 r1)
    · cases e
theorem f2_eq : Flat2 K (rEqD K) dEq := fun F x y dx dy d hx hy e => by
  unfold dEq at e
  split at e
  · rename_i h
    cases e
    obtain ⟨h1, h2⟩ := h
    unfold D.eqOk at h1 h2
    rw [Bool.and_eq_true] at h1 h2
    exact ⟨_, fun _ => .bl _, fun H Q sub q => ⟨_, _, Dv.dp _ h1.1 (hx.mono sub), Dv.dp _ h2.1 (hy.mono sub), h1.2, h2.2, q⟩⟩
  · cases e
theorem f2_ne : Flat2 K (rNeD K) dNe := fun F x y dx dy d hx hy e => by
  unfold dNe at e
  split at e
  · rename_i h
    cases e
    obtain ⟨h1, h2⟩ := h
    unfold D.eqOk at h1 h2
    rw [Bool.and_eq_true] at h1 h2
    exact ⟨_, fun _ => .bl _, fun H Q sub q => ⟨_, _, Dv.dp _ h1.1 (hx.mono sub), Dv.dp _ h2.1 (hy.mono sub), h1.2, h2.2, q⟩⟩
  · cases e
/-- in of a list, of a tuple -/
def rInA (K : PySem.W.Frag) : R2 := fun x y H Q => rInD K x y H Q ∨ ∃ d ds, Dp K H x d ∧ Dp K H y (.tuple ds) ∧ SeqAt.shaped d = true ∧ SeqAt.shaped (.tuple ds) = true ∧ Q (.bl (ds.any fun z => PyData.eqv z d)) H
def rNotInA (K : PySem.W.Frag) : R2 := fun x y H Q => rNotInD K x y H Q ∨ ∃ d ds, Dp K H x d ∧ Dp K H y (.tuple ds) ∧ SeqAt.shaped d = true ∧ SeqAt.shaped (.tuple ds) = true ∧ Q (.bl (!ds.any fun z => PyData.eqv z d)) H
theorem room_tup {A : Around} {d : PyData} {ds : List PyData} (sd : SeqAt.shaped d = true) (hu : A.units + 65 < cLine) : A.units + 1 + min (PyData.depthAll ds) d.depth < cLine := by
  have h1 := SeqAt.depth_of_shaped sd
  have h2 : min (PyData.depthAll ds) d.depth ≤ d.depth := Nat.min_le_right _ _
  omega
theorem op_inA {X : Cx} (hu : X.A.units + 65 < cLine) : OpR X (compareOp .In) (rInA X.K) := (op_inD hu).or fun pins s σ H x y v u Q I rx ry h => by
  obtain ⟨d, ds, hd, he, sd, se, q⟩ := h
  obtain ⟨as, r1⟩ := Dp.reads I d x v hd rx
  obtain ⟨bs, r2⟩ := Dp.reads I (.tuple ds) y u he ry
  exact SeqAt.in_tuple_reads r2 r1 (SeqAt.canLay_of_shaped se) (SeqAt.canLay_of_shaped sd) (room_tup sd hu) ⟨.bl _, H, I, rfl, q⟩
theorem op_notInA {X : Cx} (hu : X.A.units + 65 < cLine) : OpR X (compareOp .NotIn) (rNotInA X.K) := (op_notInD hu).or fun pins s σ H x y v u Q I rx ry h => by
  obtain ⟨d, ds, hd, he, sd, se, q⟩ := h
  obtain ⟨as, r1⟩ := Dp.reads I d x v hd rx
  obtain ⟨bs, r2⟩ := Dp.reads I (.tuple ds) y u he ry
  exact SeqAt.notIn_tuple_reads r2 r1 (SeqAt.canLay_of_shaped se) (SeqAt.canLay_of_shaped sd) (room_tup sd hu) ⟨.bl _, H, I, rfl, q⟩
theorem any_pys (x : D) : ∀ ds : List D, (ds.any fun z => D.eqv z x) = ((D.pys ds).any fun z => PyData.eqv z x.py)
  | [] => by simp [D.pys]
  | d :: ds => by
    have := any_pys x ds
    rw [List.any_cons, D.pys, List.any_cons, this]
    rfl
theorem f2_in : Flat2 K (rInA K) dIn := fun F x y dx dy d hx hy e => by
  cases dy <;> simp only [dIn, reduceCtorEq] at e
  all_goals
    split at e
    · rename_i h
      cases e
      obtain ⟨h1, h2⟩ := h
      unfold D.eqOk at h1 h2
      rw [Bool.and_eq_true] at h1 h2
      refine ⟨_, fun _ => .bl _, fun H Q sub q => ?_⟩
      rw [any_pys] at q
      first
        | exact .inl ⟨_, _, Dv.dp _ h1.1 (hx.mono sub), Dv.dp _ h2.1 (hy.mono sub), h1.2, h2.2, q⟩
        | exact .inr ⟨_, _, Dv.dp _ h1.1 (hx.mono sub), Dv.dp _ h2.1 (hy.mono sub), h1.2, h2.2, q⟩
    · cases e
theorem f2_notIn : Flat2 K (rNotInA K) dNotIn := fun F x y dx dy d hx hy e => by
  cases dy <;> simp only [dNotIn, dIn, Option.bind_none, reduceCtorEq] at e
  all_goals
    split at e
    · rename_i h
      simp only [Option.bind_some, dNot, Option.some.injEq] at e
      subst e
      obtain ⟨h1, h2⟩ := h
      unfold D.eqOk at h1 h2
      rw [Bool.and_eq_true] at h1 h2
      refine ⟨_, fun _ => .bl _, fun H Q sub q => ?_⟩
      rw [any_pys] at q
      first
        | exact .inl ⟨_, _, Dv.dp _ h1.1 (hx.mono sub), Dv.dp _ h2.1 (hy.mono sub), h1.2, h2.2, q⟩
        | exact .inr ⟨_, _, Dv.dp _ h1.1 (hx.mono sub), Dv.dp _ h2.1 (hy.mono sub), h1.2, h2.2, q⟩
    · cases e
theorem ixD_eq (n : Nat) (i : Int) : ixN n i = ixD n i := rfl
theorem r2_ix : SemR2 K W (rIx K) dIx := fun B F0 σ H F ρ s R x y dx dy d hx hy e Q q => by
  cases hx <;> cases hy <;> simp only [dIx, reduceCtorEq] at e
  all_goals
    rename_i xs ds h1 z1 r1 i
    unfold atD at e
    rw [← r1.length] at e
    cases hi : ixD xs.length i with
    | none => rw [hi] at e; cases e
    | some j =>
      rw [hi] at e
      obtain ⟨v, hv, hd⟩ := r1.get j (show ds[j]? = some d from e)
      have ha : atI xs i = some v := by
        show (ixN xs.length i).bind _ = _
        rw [ixD_eq, hi]; exact hv
      first
        | exact .inl ⟨_, _, _, _, rfl, rfl, .of (R.fh _ _ h1), ha, q v H F R (Sub.refl F) hd⟩
        | exact .inr (.inl ⟨_, _, _, _, rfl, rfl, R.fh.seqT h1, ha, q v H F R (Sub.refl F) hd⟩)
theorem sIx_eq (n d : Nat) (o : Option Int) : HT.sIx n d o = sIxD n d o := by
  cases o with
  | none => rfl
  | some i =>
    show (if i < 0 then (i + (n : Int)).toNat else min i.toNat n) = (if 0 ≤ i then min i.toNat n else (i + n).toNat)
    by_cases h : i < 0
    · rw [if_pos h, if_neg (by omega)]
    · rw [if_neg h, if_pos (by omega)]
theorem cut_eq (xs : List V) (lo hi : Option Int) : cutV xs lo hi = cutD xs lo hi := by
  unfold cutV cutD
  rw [sIx_eq, sIx_eq]
theorem Dvs.cut {F : Hp} {vs : List V} {ds : List D} (r : Dvs K F vs ds) (lo hi : Option Int) : Dvs K F (cutD vs lo hi) (cutD ds lo hi) := by
  unfold cutD
  rw [r.length]
  exact (r.drop _).take _
theorem cut_len {α : Type} (xs : List α) (lo hi : Option Int) : (cutD xs lo hi).length ≤ xs.length := by
  unfold cutD
  rw [List.length_take, List.length_drop]
  omega
def rSlLT (K : PySem.W.Frag) : V → Option Int → Option Int → Hp → VK → Prop := fun x lo hi H Q => rSlL K x lo hi H Q ∨ rSlA K x lo hi H Q
theorem sl_any {X : Cx} : SlR X (rSlLT X.K) := sl_list.or sl_tupA
theorem rs_cut : SemSl K W (rSlLT K) := fun B F0 σ H F ρ s R x dx lo hi d hx e Q q => by
  cases hx <;> simp only [dCut, Option.some.injEq, reduceCtorEq] at e
  · rename_i h1 z1 r1
    subst e
    refine .inl ⟨_, _, rfl, .of (R.fh _ _ h1), by rw [cut_eq]; exact lay_lst R (Nat.le_trans (cut_len _ lo hi) z1) (r1.cut lo hi) q⟩
  · rename_i h1 z1 r1
    subst e
    refine .inr ⟨_, _, rfl, R.fh.seqT h1, fun e0 => ?_, fun _ => by rw [cut_eq]; exact lay_tup R (Nat.le_trans (cut_len _ lo hi) z1) (r1.cut lo hi) q⟩
    · have e1 : ∀ ds : List D, ds.length = _ → cutD ds lo hi = ds := fun ds hl => by
        obtain ⟨a1, a2⟩ := e0
        rw [sIx_eq] at a1 a2
        unfold cutD
        rw [hl, a1, a2, Nat.sub_zero, List.drop_zero, ← hl, List.take_length]
      rw [e1 _ r1.length.symm] at q
      exact q _ H F R (Sub.refl F) (.tup h1 z1 r1)
/-! is None -/
theorem se_isN {ta : TE} {fa : E W.S} (ha : SemE K W ta fa) : SemE K W (tIsN ta) (e1 dIsN fa) := fun B F0 σ H F ρ s R d ρ' s' e Q q => by
  unfold e1 at e
  split at e
  · rename_i x ρ1 s1 h1
    split at e
    · rename_i z h3
      cases e
      refine ha B F0 σ H F ρ s R x _ _ h1 _ fun v H1 F1 R1 sub1 d1 => ?_
      cases d1 <;> simp only [dIsN, Option.some.injEq] at h3 <;> subst h3 <;> exact q _ H1 F1 R1 sub1 (.bl _)
    · cases e
  · cases e
theorem se_notN {ta : TE} {fa : E W.S} (ha : SemE K W ta fa) : SemE K W (tNotN ta) (e1 dNotN fa) := fun B F0 σ H F ρ s R d ρ' s' e Q q => by
  unfold e1 at e
  split at e
  · rename_i x ρ1 s1 h1
    split at e
    · rename_i z h3
      cases e
      refine ha B F0 σ H F ρ s R x _ _ h1 _ fun v H1 F1 R1 sub1 d1 => ?_
      cases d1 <;> simp only [dNotN, Option.some.injEq] at h3 <;> subst h3 <;> exact q _ H1 F1 R1 sub1 (.bl _)
    · cases e
  · cases e
/-! ### built-ins -/
def on1 (op : D → Option D) : List D → Option D
  | [x] => op x
  | _ => none
def on2 (op : D → D → Option D) : List D → Option D
  | [x, y] => op x y
  | _ => none
theorem b1 {r : List V → Hp → VK → Prop} {op : D → Option D} (h : Flat1 K r op) : SemB K W r (on1 op) :=
  fun B F0 σ H F ρ s R xs ds d hx e Q q => by
    cases hx with
    | nil => cases e
    | cons h1 h2 =>
      cases h2 with
      | nil =>
        obtain ⟨v, hv, k⟩ := h F _ _ d h1 e
        exact k H Q R.fh (q v H F R (Sub.refl F) (hv F))
      | cons _ _ => cases e
theorem b2 {r : List V → Hp → VK → Prop} {op : D → D → Option D} (h : ∀ F x y dx dy d, Dv K F x dx → Dv K F y dy → op dx dy = some d → ∃ v, (∀ F, Dv K F v d) ∧ ∀ H Q, Sub F H → Q v H → r [x, y] H Q) : SemB K W r (on2 op) :=
  fun B F0 σ H F ρ s R xs ds d hx e Q q => by
    cases hx with
    | nil => cases e
    | cons h1 h2 =>
      cases h2 with
      | nil => cases e
      | cons h3 h4 =>
        cases h4 with
        | nil =>
          obtain ⟨v, hv, k⟩ := h F _ _ _ _ d h1 h3 e
          exact k H Q R.fh (q v H F R (Sub.refl F) (hv F))
        | cons _ _ => cases e
theorem f1_len : Flat1 K (fun xs H Q => ∃ p ys, xs = [.ref p] ∧ (SqL K H p ys ∨ SqT K H p ys) ∧ Q (.int ys.length) H) dLen := fun F x dx d hx e => by
  cases hx <;> simp only [dLen, Option.some.injEq, reduceCtorEq] at e
  · rename_i h1 z1 r1
    subst e
    exact ⟨_, fun _ => .int _, fun H Q sub q => ⟨_, _, rfl, .inl (.of (sub _ _ h1)), by rw [r1.length]; exact q⟩⟩
  · rename_i h1 z1 r1
    subst e
    exact ⟨_, fun _ => .int _, fun H Q sub q => ⟨_, _, rfl, .inr (sub.seqT h1), by rw [r1.length]; exact q⟩⟩
theorem f1_sum : Flat1 K (rSum K) dSum := fun F x dx d hx e => by
  cases hx <;> simp only [dSum, Option.map_eq_some_iff, reduceCtorEq] at e
  rename_i h1 z1 r1
  obtain ⟨is, e1, e2⟩ := e
  subst e2
  have := r1.ints _ e1
  subst this
  exact ⟨_, fun _ => .int _, fun H Q sub q => ⟨_, _, rfl, .of (sub _ _ h1), q⟩⟩
theorem f1_all : Flat1 K (rAll K) dAll := fun F x dx d hx e => by
  cases hx <;> simp only [dAll, Option.map_eq_some_iff, reduceCtorEq] at e
  rename_i h1 z1 r1
  obtain ⟨is, e1, e2⟩ := e
  subst e2
  have := r1.bools _ e1
  subst this
  exact ⟨_, fun _ => .bl _, fun H Q sub q => ⟨_, _, rfl, .of (sub _ _ h1), q⟩⟩
theorem f1_any : Flat1 K (rAny K) dAny := fun F x dx d hx e => by
  cases hx <;> simp only [dAny, Option.map_eq_some_iff, reduceCtorEq] at e
  rename_i h1 z1 r1
  obtain ⟨is, e1, e2⟩ := e
  subst e2
  have := r1.bools _ e1
  subst this
  exact ⟨_, fun _ => .bl _, fun H Q sub q => ⟨_, _, rfl, .of (sub _ _ h1), q⟩⟩
theorem b_max2 : SemB K W (fun xs H Q => ∃ i j, xs = [.int i, .int j] ∧ Q (.int (if j > i then j else i)) H) (on2 dMax2) := b2 fun F x y dx dy d hx hy e => by
  cases hx <;> cases hy <;> simp only [dMax2, Option.some.injEq, reduceCtorEq] at e
  subst e
  exact ⟨_, fun _ => .int _, fun H Q sub q => ⟨_, _, rfl, q⟩⟩
theorem b_min2 : SemB K W (fun xs H Q => ∃ i j, xs = [.int i, .int j] ∧ Q (.int (if j < i then j else i)) H) (on2 dMin2) := b2 fun F x y dx dy d hx hy e => by
  cases hx <;> cases hy <;> simp only [dMin2, Option.some.injEq, reduceCtorEq] at e
  subst e
  exact ⟨_, fun _ => .int _, fun H Q sub q => ⟨_, _, rfl, q⟩⟩
theorem f1_abs : Flat1 K (fun xs H Q => ∃ i, xs = [.int i] ∧ Q (.int (if i < 0 then -i else i)) H) dAbs := fun F x dx d hx e => by
  cases hx <;> simp only [dAbs, Option.some.injEq, reduceCtorEq] at e
  subst e
  exact ⟨_, fun _ => .int _, fun H Q sub q => ⟨_, rfl, q⟩⟩
theorem f1_int : Flat1 K (fun xs H Q => (∃ i, xs = [.int i] ∧ Q (.int i) H) ∨ ∃ k, xs = [.bl k] ∧ Q (.int (if k then 1 else 0)) H) dInt := fun F x dx d hx e => by
  cases hx <;> simp only [dInt, Option.some.injEq, reduceCtorEq] at e
  · subst e
    exact ⟨_, fun _ => .int _, fun H Q sub q => .inr ⟨_, rfl, q⟩⟩
  · subst e
    exact ⟨_, fun _ => .int _, fun H Q sub q => .inl ⟨_, rfl, q⟩⟩
theorem bn_list : SemBN K W (fun xs H Q => ∃ p ys, xs = [.ref p] ∧ (SqL K H p ys ∨ SqT K H p ys) ∧ ∀ l, H l = none → Q (.ref l) (upd H l (.lst ys))) (on1 dList) := fun B F0 σ H F ρ s R xs ds d hx e Q q => by
  cases hx with
  | nil => cases e
  | cons h1 h2 =>
    cases h2 with
    | cons _ _ => cases e
    | nil =>
      cases h1 <;> simp only [on1, dList, Option.some.injEq, reduceCtorEq] at e
      · rename_i h1 z1 r1
        subst e
        exact ⟨_, _, rfl, .inl (.of (R.fh _ _ h1)), lay_new R z1 r1 q⟩
      · rename_i h1 z1 r1
        subst e
        exact ⟨_, _, rfl, .inr (R.fh.seqT h1), lay_new R z1 r1 q⟩
theorem b_tuple : SemB K W (fun xs H Q => ∃ p ys, xs = [.ref p] ∧ ((SqL K H p ys ∧ ∀ l, H l = none → Q (.ref l) (upd H l (.tup ys))) ∨ (SqT K H p ys ∧ Q (.ref p) H))) (on1 dTuple) := fun B F0 σ H F ρ s R xs ds d hx e Q q => by
  cases hx with
  | nil => cases e
  | cons h1 h2 =>
    cases h2 with
    | cons _ _ => cases e
    | nil =>
      cases h1 <;> simp only [on1, dTuple, Option.some.injEq, reduceCtorEq] at e
      · rename_i h1 z1 r1
        subst e
        exact ⟨_, _, rfl, .inl ⟨.of (R.fh _ _ h1), lay_tup R z1 r1 q⟩⟩
      · rename_i h1 z1 r1
        subst e
        exact ⟨_, _, rfl, .inr ⟨R.fh.seqT h1, q _ H F R (Sub.refl F) (.tup h1 z1 r1)⟩⟩
end
end Fw

/-! ### owned lists -/
namespace Fw
open PySem PySem.Spec PyProof.Rows L2
section
variable {K : PySem.W.Frag} {W : Wd} {B F0 H H' F F' : Hp} {σ σ' : L2.St} {ρ ρ' : Env} {s s' : W.S} {i : Nat}
theorem Rel.look (R : Rel K W B F0 σ H F ρ s) {x : Sl} (h : ρ[i]? = some (some x)) : ∃ v F', σ[i]? = some (some v) ∧ Sub F F' ∧ Sub F' H ∧ Dv K F' v x.d := by
  cases x with
  | sh d =>
    obtain ⟨v, h1, h2⟩ := R.sl.sh i d h
    exact ⟨v, F, h1, Sub.refl F, R.fh, h2⟩
  | ow d =>
    obtain ⟨a, h1, h2, h3, h4, o, h5, h6⟩ := R.sl.ow i d h
    have sub : Sub F (upd F a o) := Sub.upd h3
    refine ⟨.ref a, upd F a o, h1, sub, fun x u e => ?_, h6.dv h3⟩
    by_cases z : x = a
    · subst z; rw [upd_same] at e; cases e; exact h5
    · rw [upd_ne z] at e; exact R.fh x u e
theorem se_bl1 {r : List V → Hp → VK → Prop} {op : D → Option D} (h : Flat1 K r op) {i : Nat} : SemE K W (tCB r (tCons (tVar i) tNil)) (eB1 op i) := fun B F0 σ H F ρ s R d ρ' s' e Q q => by
  unfold eB1 at e
  split at e
  · rename_i x hx
    split at e
    · rename_i z hz
      cases e
      obtain ⟨v, F', h1, _, h2, h3⟩ := R.look hx
      obtain ⟨w, hw, k⟩ := h F' v _ _ h3 hz
      exact ⟨v, h1, k H Q h2 (q w H F R (Sub.refl F) (hw F))⟩
    · cases e
  · cases e
theorem se_blL {r : R2} {op : D → D → Option D} {tb : TE} {fb : E W.S} (h : Flat2 K r op) (hb : SemE K W tb fb) {i : Nat} : SemE K W (tOp r (tVar i) tb) (eBL op i fb) := fun B F0 σ H F ρ s R d ρ' s' e Q q => by
  unfold eBL at e
  split at e
  · rename_i x0 hx0
    split at e
    · rename_i y ρ1 s1 h1
      split at e
      · rename_i x hx
        split at e
        · rename_i z hz
          cases e
          obtain ⟨v0, _, g0, _⟩ := R.look hx0
          refine ⟨v0, g0, hb B F0 σ H F ρ s R _ _ _ h1 _ fun w H1 F1 R1 sub1 d1 => ?_⟩
          obtain ⟨v, F', h1, sub2, h2, h3⟩ := R1.look hx
          rw [g0] at h1
          cases h1
          obtain ⟨u, hu, k⟩ := h F' v0 w _ _ _ h3 (d1.mono sub2) hz
          exact k H1 Q h2 (q u H1 F1 R1 sub1 (hu F1))
        · cases e
      · cases e
    · cases e
  · cases e
theorem se_blR {r : R2} {op : D → D → Option D} {ta : TE} {fa : E W.S} (h : Flat2 K r op) (ha : SemE K W ta fa) {i : Nat} : SemE K W (tOp r ta (tVar i)) (eBR op fa i) := fun B F0 σ H F ρ s R d ρ' s' e Q q => by
  unfold eBR at e
  split at e
  · rename_i y ρ1 s1 h1
    split at e
    · rename_i x hx
      split at e
      · rename_i z hz
        cases e
        refine ha B F0 σ H F ρ s R _ _ _ h1 _ fun w H1 F1 R1 sub1 d1 => ?_
        obtain ⟨v, F', h1, sub2, h2, h3⟩ := R1.look hx
        obtain ⟨u, hu, k⟩ := h F' w v _ _ _ (d1.mono sub2) h3 hz
        exact ⟨v, h1, k H1 Q h2 (q u H1 F1 R1 sub1 (hu F1))⟩
      · cases e
    · cases e
  · cases e
/-- an item of an owned list -/
theorem se_blIx {tb : TE} {fb : E W.S} (hb : SemE K W tb fb) {i : Nat} : SemE K W (tOp (rIx K) (tVar i) tb) (eBL dIx i fb) := fun B F0 σ H F ρ s R d ρ' s' e Q q => by
  unfold eBL at e
  split at e
  · rename_i x0 hx0
    split at e
    · rename_i y ρ1 s1 h1
      split at e
      · rename_i x hx
        split at e
        · rename_i z hz
          cases e
          obtain ⟨v0, _, g0, _⟩ := R.look hx0
          refine ⟨v0, g0, hb B F0 σ H F ρ s R _ _ _ h1 _ fun w H1 F1 R1 sub1 d1 => ?_⟩
          cases x with
          | sh dx =>
            obtain ⟨v, g1, g2⟩ := R1.sl.sh i dx hx
            rw [g0] at g1
            cases g1
            exact r2_ix B F0 σ H1 F1 _ _ R1 v0 w dx y d g2 d1 hz Q fun v' H' F' R' sub' d' => q v' H' F' R' (sub1.trans sub') d'
          | ow dx =>
            obtain ⟨a, g1, _, _, _, hh⟩ := R1.sl.ow i dx hx
            obtain ⟨ds0, rfl⟩ : ∃ ds0, dx = .lst ds0 := by
              obtain ⟨o, _, ⟨vs, ds, e1, _⟩ | ⟨ks, vs, ds, rfl, _⟩⟩ := hh
              · exact ⟨ds, e1⟩
              · cases hz
            obtain ⟨vs, ds, e1, g5, g6, g7⟩ := hh.l
            cases e1
            rw [g0] at g1
            cases g1
            cases d1 <;> simp only [Sl.d, dIx, reduceCtorEq] at hz
            rename_i k
            unfold atD at hz
            rw [← g7.length] at hz
            cases hi : ixD vs.length k with
            | none => rw [hi] at hz; cases hz
            | some j =>
              rw [hi] at hz
              obtain ⟨v, hv, hd⟩ := g7.get j (show ds0[j]? = some d from hz)
              have ha : atI vs k = some v := by
                show (ixN vs.length k).bind _ = _
                rw [ixD_eq, hi]; exact hv
              exact .inl ⟨_, _, _, _, rfl, rfl, .of g5, ha, q v H1 F1 R1 sub1 hd⟩
        · cases e
      · cases e
    · cases e
  · cases e
theorem lim_lt {n : Nat} (h : n < LIM) : n < sizeLine := by rw [sizeLine_eq]; exact h
theorem se_app {ta : TE} {fa : E W.S} (ha : SemE K W ta fa) {i : Nat} : SemE K W (tBM K "list" rAppend (tVar i) (tCons ta tNil)) (eApp i fa) := fun B F0 σ H F ρ s R d ρ' s' e Q q => by
  unfold eApp at e
  split at e
  · rename_i ds0 hx0
    split at e
    · rename_i y ρ1 s1 h1
      split at e
      · rename_i ds hx
        split at e
        · rename_i hl
          cases e
          obtain ⟨a, g1, _, _, _, hh0⟩ := R.sl.ow i _ hx0
          obtain ⟨vs0, ds0', e0, g5, _⟩ := hh0.l
          refine ⟨_, g1, .inl ⟨rfl, _, SqL.of g5⟩, ha B F0 σ H F ρ s R _ _ _ h1 _ fun w H1 F1 R1 sub1 d1 => ?_⟩
          obtain ⟨a', k1, _, _, _, hh1⟩ := R1.sl.ow i _ hx
          obtain ⟨vs, ds', e1, k5, k6, k7⟩ := hh1.l
          cases e1
          rw [g1] at k1
          cases k1
          have hz : vs.length < sizeLine := lim_lt (by rw [k7.length]; exact hl)
          refine ⟨a, vs, w, rfl, rfl, k5, hz, ?_⟩
          exact q _ _ F1 (R1.write hx g1 (by rw [List.length_append]; exact hz) (k7.append (.cons d1 .nil))) sub1 .non
        · cases e
      · cases e
    · cases e
  · cases e
theorem se_popAt {ta : TE} {fa : E W.S} (ha : SemE K W ta fa) {i : Nat} : SemE K W (tBM K "list" rPopAt (tVar i) (tCons ta tNil)) (ePopAt i fa) := fun B F0 σ H F ρ s R d ρ' s' e Q q => by
  unfold ePopAt at e
  split at e
  · rename_i ds0 hx0
    split at e
    · rename_i k ρ1 s1 h1
      split at e
      · rename_i ds hx
        split at e
        · rename_i j hj
          split at e
          · rename_i y hy
            cases e
            obtain ⟨a, g1, _, _, _, hh0⟩ := R.sl.ow i _ hx0
            obtain ⟨vs0, ds0', e0, g5, _⟩ := hh0.l
            refine ⟨_, g1, .inl ⟨rfl, _, SqL.of g5⟩, ha B F0 σ H F ρ s R _ _ _ h1 _ fun w H1 F1 R1 sub1 d1 => ?_⟩
            obtain ⟨a', k1, _, _, _, hh1⟩ := R1.sl.ow i _ hx
            obtain ⟨vs, ds', e1, k5, k6, k7⟩ := hh1.l
            cases e1
            rw [g1] at k1
            cases k1
            cases d1
            rw [← k7.length] at hj
            obtain ⟨m1, m2, m3, m4⟩ := ixN_seq (show ixN vs.length k = some j from hj)
            obtain ⟨v, hv, hd⟩ := k7.get j hy
            have hs : vs.length ≤ 16777216 := by rw [← sizeLine_eq]; exact k6
            refine ⟨a, vs, k, j, v, rfl, rfl, k5, by omega, by omega, m1, hv, ?_⟩
            exact q _ _ F1 (R1.write hx g1 (Nat.le_trans (List.length_eraseIdx_le ..) k6) (k7.eraseIdx j)) sub1 hd
          · cases e
        · cases e
      · cases e
    · cases e
  · cases e
theorem se_pop {i : Nat} : SemE K W (tBM0 K "list" rPop (tVar i)) (ePop i) := fun B F0 σ H F ρ s R d ρ' s' e Q q => by
  unfold ePop at e
  split at e
  · rename_i ds hx
    split at e
    · rename_i y hy
      cases e
      obtain ⟨a, g1, _, _, _, hh0⟩ := R.sl.ow i _ hx
      obtain ⟨vs, ds', e0, g5, g6, g7⟩ := hh0.l
      cases e0
      obtain ⟨v, hv, hd⟩ := g7.get _ hy
      refine ⟨_, g1, .inl ⟨rfl, _, SqL.of g5⟩, a, vs, v, rfl, rfl, g5, by rw [g7.length]; exact hv, ?_⟩
      exact q _ _ F (R.write hx g1 (by rw [List.length_dropLast]; omega) g7.dropLast) (Sub.refl F) hd
    · cases e
  · cases e

/-! ### targets -/
/-- ws: the slots that may be stored -/
structure GPost (K : PySem.W.Frag) (W : Wd) (B F0 H F : Hp) (σ σ' : L2.St) (ρ' : Env) (s : W.S) (ws : List Nat) : Prop where
  rel : Rel K W B F0 σ' H F ρ' s
  out : ∀ i, i ∉ ws → σ'[i]? = σ[i]?
  len : σ'.length = σ.length
def SemG (K : PySem.W.Frag) (W : Wd) (g : TG) (tgt : Tg) (ws : List Nat) : Prop := ∀ B F0 σ H F ρ (s : W.S), Rel K W B F0 σ H F ρ s → ∀ v d ρ', Dv K F v d → tgt d ρ = some ρ' → ∀ Q, (∀ σ', GPost K W B F0 H F σ σ' ρ' s ws → Q σ' H) → g v σ H Q
def SemGs (K : PySem.W.Frag) (W : Wd) (g : TGs) (tgt : List D → Env → Option Env) (ws : List Nat) : Prop := ∀ B F0 σ H F ρ (s : W.S), Rel K W B F0 σ H F ρ s → ∀ vs ds ρ', Dvs K F vs ds → tgt ds ρ = some ρ' → ∀ Q, (∀ σ', GPost K W B F0 H F σ σ' ρ' s ws → Q σ' H) → g vs σ H Q
theorem sg_n {i : Nat} : SemG K W (gName i) (gN i) [i] := fun B F0 σ H F ρ s R v d ρ' hv e Q q => by
  cases e
  exact q _ ⟨R.setSh hv, fun j hj => set_get_ne (fun z => hj (by rw [z]; exact List.mem_singleton.mpr rfl)), List.length_set⟩
theorem sgs_nil : SemGs K W L2.gNil Fw.gNil [] := fun B F0 σ H F ρ s R vs ds ρ' hv e Q q => by
  cases hv with
  | nil =>
    cases e
    exact ⟨rfl, q σ ⟨R, fun _ _ => rfl, rfl⟩⟩
  | cons _ _ => cases e
theorem sgs_cons {g : TG} {t : Tg} {gs : TGs} {ts : List D → Env → Option Env} {w1 w2 : List Nat} (h : SemG K W g t w1) (hs : SemGs K W gs ts w2) : SemGs K W (L2.gCons g gs) (Fw.gCons t ts) (w1 ++ w2) := fun B F0 σ H F ρ s R vs ds ρ' hv e Q q => by
  cases hv with
  | nil => cases e
  | cons h1 h2 =>
    simp only [Fw.gCons] at e
    split at e
    · rename_i ρ1 e1
      refine ⟨_, _, rfl, h B F0 σ H F ρ s R _ _ _ h1 e1 _ fun σ1 G1 => ?_⟩
      refine hs B F0 σ1 H F _ s G1.rel _ _ _ h2 e Q fun σ2 G2 => q σ2 ⟨G2.rel, fun i hi => ?_, G2.len.trans G1.len⟩
      rw [List.mem_append] at hi
      rw [G2.out i (fun z => hi (.inr z)), G1.out i (fun z => hi (.inl z))]
    · cases e
theorem sg_tup {n : Nat} {gs : TGs} {ts : List D → Env → Option Env} {ws : List Nat} (hs : SemGs K W gs ts ws) (hn : ∀ ds ρ ρ', ts ds ρ = some ρ' → ds.length = n) : SemG K W (L2.gTup K n gs) (Fw.gTup ts) ws := fun B F0 σ H F ρ s R v d ρ' hv e Q q => by
  cases hv <;> simp only [Fw.gTup, reduceCtorEq] at e
  rename_i h1 z1 r1
  exact ⟨_, _, rfl, R.fh.seqT h1, by rw [r1.length]; exact hn _ _ _ e, hs B F0 σ H F ρ s R _ _ _ r1 e Q q⟩
theorem gn_nil : ∀ ds ρ ρ', Fw.gNil ds ρ = some ρ' → ds.length = 0 := fun ds ρ ρ' e => by
  cases ds with
  | nil => rfl
  | cons _ _ => cases e
theorem gn_cons {t : Tg} {ts : List D → Env → Option Env} {n : Nat} (h : ∀ ds ρ ρ', ts ds ρ = some ρ' → ds.length = n) : ∀ ds ρ ρ', Fw.gCons t ts ds ρ = some ρ' → ds.length = n + 1 := fun ds ρ ρ' e => by
  cases ds with
  | nil => cases e
  | cons d r =>
    simp only [Fw.gCons] at e
    split at e
    · rw [List.length_cons, h _ _ _ e]
    · cases e

/-! ### what is walked -/
def IsIt (K : PySem.W.Frag) (F : Hp) (J : It) (ds : List D) : Prop := ∀ i H, Sub F H → (ds.length ≤ i → J.stop i H) ∧ ∀ d, ds[i]? = some d → J.go i H ∧ ∀ x H', J.yld i H x H' →
  (H' = H ∧ Dv K F x d) ∨ ∃ T xs, H T = none ∧ H' = upd H T (.tup xs) ∧ Dv K (upd F T (.tup xs)) x d
def SemI (K : PySem.W.Frag) (W : Wd) (wi : TI) (f : I W.S) : Prop := ∀ B F0 σ H F ρ (s : W.S), Rel K W B F0 σ H F ρ s → ∀ ds ρ' s', f ρ s = some (ds, ρ', s') → ∀ R : It → Hp → Prop,
  (∀ J H' F', Rel K W B F0 σ H' F' ρ' s' → Sub F F' → ds.length ≤ sizeLine → IsIt K F' J ds → R J H') → wi σ H R
theorem IsIt.mono {J : It} {ds : List D} (h : IsIt K F J ds) (e : Sub F F') : IsIt K F' J ds := fun i H sub => by
  obtain ⟨h1, h2⟩ := h i H (e.trans sub)
  refine ⟨h1, fun d hd => ?_⟩
  obtain ⟨g, y⟩ := h2 d hd
  refine ⟨g, fun x H' hy => ?_⟩
  rcases y x H' hy with ⟨e1, e2⟩ | ⟨T, xs, t1, t2, t3⟩
  · exact .inl ⟨e1, e2.mono e⟩
  · exact .inr ⟨T, xs, t1, t2, t3.mono e.upd2⟩
theorem isIt_list {a : Addr} {vs : List V} {ds : List D} (h : F a = some (.lst vs)) (r : Dvs K F vs ds) (hk : ∀ H xs, Sub F H → SqL K H a xs → xs = vs) : IsIt K F (Itl K a) ds := fun i H sub => by
  have hs : SqL K H a vs := .of (sub _ _ h)
  refine ⟨fun hl => ⟨vs, hs, by rw [r.length]; exact hl⟩, fun d hd => ?_⟩
  obtain ⟨v, h1, h2⟩ := r.get i hd
  refine ⟨⟨vs, v, hs, h1⟩, fun x H' hy => ?_⟩
  obtain ⟨e1, e2⟩ := hy
  have := e2 vs hs
  rw [h1] at this
  cases this
  exact .inl ⟨e1, h2⟩
theorem isIt_listA {a : Addr} {vs : List V} {ds : List D} (h : F a = some (.lst vs)) (r : Dvs K F vs ds) : IsIt K F (Itl K a) ds := fun i H sub => by
  have hs : SqL K H a vs := .of (sub _ _ h)
  refine ⟨fun hl => ⟨vs, hs, by rw [r.length]; exact hl⟩, fun d hd => ?_⟩
  obtain ⟨v, h1, h2⟩ := r.get i hd
  refine ⟨⟨vs, v, hs, h1⟩, fun x H' hy => ?_⟩
  obtain ⟨e1, e2⟩ := hy
  have := e2 vs hs
  rw [h1] at this
  cases this
  exact .inl ⟨e1, h2⟩
theorem isIt_tup {a : Addr} {vs : List V} {ds : List D} (h : SqT K F a vs) (r : Dvs K F vs ds) : IsIt K F (Itt K a) ds := fun i H sub => by
  have hs : SqT K H a vs := sub.seqT h
  refine ⟨fun hl => ⟨vs, hs, by rw [r.length]; exact hl⟩, fun d hd => ?_⟩
  obtain ⟨v, h1, h2⟩ := r.get i hd
  refine ⟨⟨vs, v, hs, h1⟩, fun x H' hy => ?_⟩
  obtain ⟨e1, e2⟩ := hy
  have := e2 vs hs
  rw [h1] at this
  cases this
  exact .inl ⟨e1, h2⟩
/-- a list or a tuple -/
def iAny (K : PySem.W.Frag) (tl : TE) : TI := fun σ H R => tl σ H fun x H1 => ∃ a, x = .ref a ∧ (((∃ xs, SqL K H1 a xs) ∧ R (Itl K a) H1) ∨ ((∃ xs, SqT K H1 a xs) ∧ R (Itt K a) H1))
theorem pi_any {X : Cx} {tg l : Expr} {tl : TE} (hl : PE X l tl) : PI X tg l (iAny X.K tl) := by
  refine ⟨fun pins s σ H R I h => ?_⟩
  refine thn (hl.run pins s σ H _ I h) fun v s1 ⟨x, H1, I1, r1, q1⟩ => ?_
  obtain ⟨a, e, q⟩ := q1
  subst e
  cases r1
  rcases q with ⟨⟨xs, hq⟩, q⟩ | ⟨⟨xs, hq⟩, q⟩
  · obtain ⟨its, rv, p, hz⟩ := I1.list hq
    refine wpAny_pyIter_list p.isList ?_
    refine ⟨s1.heap.objs.size, [s1.heap.objs.size], _, _, H1, rfl, I1.kept (t' := s1.toks) fun b o e => Heap.get?_push_of_some _ e, turn_list a _, ⟨_, Heap.get?_push_size _ rfl, rfl, rfl⟩, fun b hb => ?_, q⟩
    have e : b = s1.heap.objs.size := by simpa using hb
    subst e
    exact I1.fpOk (Nat.le_refl _) (I1.hok.fresh (Nat.le_refl _))
  · obtain ⟨its, rv, p, hz⟩ := I1.tuple hq
    refine wpAny_pyIter_tuple (show s1.heap.IsTuple a its.toArray from p) ?_
    refine ⟨s1.heap.objs.size, [s1.heap.objs.size], _, _, H1, rfl, I1.kept (t' := s1.toks) fun b o e => Heap.get?_push_of_some _ e, turn_tuple a _, ⟨_, Heap.get?_push_size _ rfl, rfl, rfl⟩, fun b hb => ?_, q⟩
    have e : b = s1.heap.objs.size := by simpa using hb
    subst e
    exact I1.fpOk (Nat.le_refl _) (I1.hok.fresh (Nat.le_refl _))
theorem si_any {ta : TE} {fa : E W.S} (ha : SemE K W ta fa) : SemI K W (iAny K ta) (iE fa) := fun B F0 σ H F ρ s R ds ρ' s' e Q q => by
  unfold iE at e
  split at e
  · rename_i x ρ1 s1 h1
    split at e
    · rename_i ds1 h2
      cases e
      refine ha B F0 σ H F ρ s R _ _ _ h1 _ fun v H1 F1 R1 sub1 d1 => ?_
      cases d1 <;> simp only [items?, Option.some.injEq, reduceCtorEq] at h2
      · rename_i g1 z1 r1
        subst h2
        exact ⟨_, rfl, .inl ⟨⟨_, .of (R1.fh _ _ g1)⟩, q _ H1 F1 R1 sub1 (by rw [← r1.length]; exact z1) (isIt_listA g1 r1)⟩⟩
      · rename_i g1 z1 r1
        subst h2
        exact ⟨_, rfl, .inr ⟨⟨_, R1.fh.seqT g1⟩, q _ H1 F1 R1 sub1 (by rw [← r1.length]; exact z1) (isIt_tup g1 r1)⟩⟩
    · cases e
  · cases e
theorem rangeL_len (lo : Int) (n : Nat) : (rangeL lo n).length = n := by unfold rangeL; rw [List.length_map, List.length_range]
theorem rangeL_get {lo : Int} {n i : Nat} {d : D} (h : (rangeL lo n)[i]? = some d) : i < n ∧ d = .int (lo + (i : Nat)) := by
  unfold rangeL at h
  rw [List.getElem?_map] at h
  by_cases hi : i < n
  · rw [List.getElem?_range hi] at h
    cases h
    exact ⟨hi, rfl⟩
  · rw [List.getElem?_eq_none (by rw [List.length_range]; omega)] at h
    cases h
theorem isIt_range {lo : Int} {n : Nat} : IsIt K F (Itr lo n) (rangeL lo n) := fun i H sub => by
  refine ⟨fun hl => ?_, fun d hd => ?_⟩
  · rw [rangeL_len] at hl; exact hl
  · obtain ⟨hi, rfl⟩ := rangeL_get hd
    refine ⟨hi, fun x H' hy => ?_⟩
    obtain ⟨e1, e2⟩ := hy
    subst e2
    exact .inl ⟨e1, .int _⟩
theorem si_r1 {ta : TE} {fa : E W.S} (ha : SemE K W ta fa) : SemI K W (iRng1 (tCons ta tNil)) (iR1 fa) := fun B F0 σ H F ρ s R ds ρ' s' e Q q => by
  unfold iR1 at e
  split at e
  · rename_i j ρ1 s1 h1
    split at e
    · rename_i hj
      cases e
      refine ha B F0 σ H F ρ s R _ _ _ h1 _ fun v H1 F1 R1 sub1 d1 => ?_
      cases d1
      exact ⟨j, rfl, by omega, by omega, q _ H1 F1 R1 sub1 (by rw [rangeL_len]; exact lim_size (by show j.toNat ≤ 16777216; omega)) isIt_range⟩
    · cases e
  · cases e
theorem si_r2 {ta tb : TE} {fa fb : E W.S} (ha : SemE K W ta fa) (hb : SemE K W tb fb) : SemI K W (iRng2 (tCons ta (tCons tb tNil))) (iR2 fa fb) := fun B F0 σ H F ρ s R ds ρ' s' e Q q => by
  unfold iR2 at e
  split at e
  · rename_i i ρ1 s1 h1
    split at e
    · rename_i j ρ2 s2 h2
      split at e
      · rename_i hj
        cases e
        refine ha B F0 σ H F ρ s R _ _ _ h1 _ fun v H1 F1 R1 sub1 d1 => ?_
        refine hb B F0 σ H1 F1 _ _ R1 _ _ _ h2 _ fun w H2 F2 R2 sub2 d2 => ?_
        cases d1
        cases d2
        exact ⟨i, j, rfl, ⟨by omega, by omega, by omega, by omega⟩, q _ H2 F2 R2 (sub1.trans sub2) (by rw [rangeL_len]; exact lim_size (by show (j - i).toNat ≤ 16777216; omega)) isIt_range⟩
      · cases e
    · cases e
  · cases e

/-! ### comprehensions -/
theorem wipe_at (σ : L2.St) (l : List Nat) (i : Nat) : (wipe σ l)[i]? = if i ∈ l then (if i < σ.length then some none else none) else σ[i]? := by
  induction l with
  | nil => rfl
  | cons v l ih =>
    unfold wipe
    by_cases e : v = i
    · subst e
      rw [if_pos List.mem_cons_self, List.getElem?_set_self', ih]
      by_cases hl : v < σ.length
      · rw [if_pos hl]
        split
        · rfl
        · rw [List.getElem?_eq_getElem hl]; rfl
      · rw [if_neg hl]
        split
        · rfl
        · rw [List.getElem?_eq_none (by omega)]; rfl
    · rw [List.getElem?_set_ne e, ih]
      by_cases hm : i ∈ l
      · rw [if_pos hm, if_pos (List.mem_cons_of_mem _ hm)]
      · rw [if_neg hm, if_neg (fun z => (List.mem_cons.mp z).elim (fun q => e q.symm) hm)]
theorem wipe_eq {l : List Nat} (hl : σ'.length = σ.length) (h : ∀ i, i ∉ l → σ'[i]? = σ[i]?) : wipe σ' l = wipe σ l := by
  apply List.ext_getElem?
  intro i
  rw [wipe_at, wipe_at, hl]
  by_cases hm : i ∈ l
  · rw [if_pos hm, if_pos hm]
  · rw [if_neg hm, if_neg hm]; exact h i hm
theorem wipeE_at : ∀ (l : List Nat) (ρ : Env) (i : Nat), (wipeE l ρ)[i]? = if i ∈ l then (if i < ρ.length then some none else none) else ρ[i]?
  | [], ρ, i => rfl
  | v :: l, ρ, i => by
    unfold wipeE
    rw [wipeE_at l, List.length_set]
    by_cases hm : i ∈ l
    · rw [if_pos hm, if_pos (List.mem_cons_of_mem _ hm)]
    · rw [if_neg hm]
      by_cases e : v = i
      · subst e
        rw [if_pos List.mem_cons_self]
        by_cases hl : v < ρ.length
        · rw [if_pos hl, List.getElem?_set_self hl]
        · rw [if_neg hl, List.getElem?_eq_none (by rw [List.length_set]; omega)]
      · rw [if_neg (fun z => (List.mem_cons.mp z).elim (fun q => e q.symm) hm), List.getElem?_set_ne e]
theorem wipeE_len : ∀ (l : List Nat) (ρ : Env), (wipeE l ρ).length = ρ.length
  | [], ρ => rfl
  | v :: l, ρ => by unfold wipeE; rw [wipeE_len l, List.length_set]
theorem backE_len (ρ0 : Env) : ∀ (l : List Nat) (ρ : Env), (backE ρ0 l ρ).length = ρ.length
  | [], ρ => rfl
  | v :: l, ρ => by unfold backE; rw [backE_len ρ0 l, List.length_set]
theorem backE_at (ρ0 : Env) : ∀ (l : List Nat) (ρ : Env) (i : Nat), (backE ρ0 l ρ)[i]? = if i ∈ l then (if i < ρ.length then some (ρ0.getD i none) else none) else ρ[i]?
  | [], ρ, i => rfl
  | v :: l, ρ, i => by
    unfold backE
    rw [backE_at ρ0 l, List.length_set]
    by_cases hm : i ∈ l
    · rw [if_pos hm, if_pos (List.mem_cons_of_mem _ hm)]
    · rw [if_neg hm]
      by_cases e : v = i
      · subst e
        rw [if_pos List.mem_cons_self]
        by_cases hl : v < ρ.length
        · rw [if_pos hl, List.getElem?_set_self hl]
        · rw [if_neg hl, List.getElem?_eq_none (by rw [List.length_set]; omega)]
      · rw [if_neg (fun z => (List.mem_cons.mp z).elim (fun q => e q.symm) hm), List.getElem?_set_ne e]
/-- other slots, where what is known stays known -/
theorem Rel.recast (R : Rel K W B F0 σ H F ρ s) (hl : σ'.length = ρ'.length) (h : ∀ (i : Nat) (x : Sl), ρ'[i]? = some (some x) → ρ[i]? = some (some x) ∧ σ'[i]? = σ[i]?) : Rel K W B F0 σ' H F ρ' s :=
  ⟨R.bh, R.fh, R.ff, R.fb, R.of, R.ob, R.st, hl, fun i d e => by
    obtain ⟨h1, h2⟩ := h i _ e
    rw [h2]; exact R.sl.sh i d h1, fun i d e => by
    obtain ⟨h1, h2⟩ := h i _ e
    rw [h2]; exact R.sl.ow i d h1, fun i j d e a h1 h2 g1 g2 => by
    obtain ⟨k1, k2⟩ := h i _ h1
    obtain ⟨k3, k4⟩ := h j _ h2
    rw [k2] at g1
    rw [k4] at g2
    exact R.sl.dj i j d e a k1 k3 g1 g2⟩
/-- ahead of a block: its own names are empty -/
theorem Rel.wiped (R : Rel K W B F0 σ H F ρ s) (l : List Nat) : Rel K W B F0 (wipe σ l) H F (wipeE l ρ) s :=
  R.recast (by rw [wipe_length, wipeE_len]; exact R.len) fun i x e => by
    rw [wipeE_at] at e
    rw [wipe_at]
    by_cases hm : i ∈ l
    · rw [if_pos hm] at e
      split at e <;> cases e
    · rw [if_neg hm] at e
      rw [if_neg hm]
      exact ⟨e, rfl⟩
theorem notOw_sh {x : Sl} (h : notOw ρ i = true) (e : ρ[i]? = some (some x)) : ∃ d, x = Sl.sh d := by
  cases x with
  | sh d => exact ⟨d, rfl⟩
  | ow d =>
    unfold notOw at h
    rw [e] at h
    cases h
/-- behind a block: its own names are again what they were -/
theorem Rel.back {Hi Fi : Hp} {ρ0 : Env} {s0 : W.S} {l : List Nat} (R0 : Rel K W B F0 σ Hi Fi ρ0 s0) (R : Rel K W B F0 σ' H F ρ s) (sub : Sub Fi F) (hl : σ'.length = σ.length) (ho : ∀ i, i ∉ l → σ'[i]? = σ[i]?) (hn : l.all (notOw ρ0) = true) :
    Rel K W B F0 σ H F (backE ρ0 l ρ) s := by
  have get : ∀ (i : Nat) (x : Sl), (backE ρ0 l ρ)[i]? = some (some x) → (i ∈ l ∧ ρ0[i]? = some (some x)) ∨ (i ∉ l ∧ ρ[i]? = some (some x)) := fun i x e => by
    rw [backE_at] at e
    by_cases hm : i ∈ l
    · rw [if_pos hm] at e
      split at e
      · left
        refine ⟨hm, ?_⟩
        rw [List.getD_eq_getElem?_getD] at e
        cases q : ρ0[i]? with
        | none => rw [q] at e; cases e
        | some y => rw [q] at e; simpa using e
      · cases e
    · rw [if_neg hm] at e
      exact .inr ⟨hm, e⟩
  have sh0 : ∀ (i : Nat) (x : Sl), i ∈ l → ρ0[i]? = some (some x) → ∃ d, x = Sl.sh d := fun i x hm e => notOw_sh (List.all_eq_true.mp hn i hm) e
  refine ⟨R.bh, R.fh, R.ff, R.fb, R.of, R.ob, R.st, by rw [backE_len, ← R.len]; exact hl.symm, fun i d e => ?_, fun i d e => ?_, fun i j d f a h1 h2 g1 g2 => ?_⟩
  · rcases get i _ e with ⟨hm, q⟩ | ⟨hm, q⟩
    · obtain ⟨v, h1, h2⟩ := R0.sl.sh i d q
      exact ⟨v, h1, h2.mono sub⟩
    · rw [← ho i hm]; exact R.sl.sh i d q
  · rcases get i _ e with ⟨hm, q⟩ | ⟨hm, q⟩
    · obtain ⟨d', hd⟩ := sh0 i _ hm q
      cases hd
    · rw [← ho i hm]; exact R.sl.ow i d q
  · rcases get i _ h1 with ⟨hm, q⟩ | ⟨hm, q⟩
    · obtain ⟨d', hd⟩ := sh0 i _ hm q
      cases hd
    · rcases get j _ h2 with ⟨hm', q'⟩ | ⟨hm', q'⟩
      · obtain ⟨d', hd⟩ := sh0 j _ hm' q'
        cases hd
      · rw [← ho i hm] at g1
        rw [← ho j hm'] at g2
        exact R.sl.dj i j d f a q q' g1 g2
/-- what is held by nothing is written -/
theorem Rel.writeB {p : Addr} {o o' : HO} (R : Rel K W (upd B p o) F0 σ H F ρ s) (hF : F p = none) : Rel K W (upd B p o') F0 σ (upd H p o') F ρ s := by
  have np : ∀ x, W.fp x → x ≠ p := fun x hx e => by
    have := R.ob x hx
    rw [e, upd_same] at this; cases this
  have bb : ∀ x, x ≠ p → upd B p o' x = upd B p o x := fun x hx => by rw [upd_ne hx, upd_ne hx]
  refine ⟨fun x u e => ?_, R.fh.updR hF, R.ff, fun x hx => ?_, R.of, fun x hx => ?_, W.stay R.st fun x hx => upd_ne (np x hx), R.len, R.sl.grow (Sub.refl F) fun i d a _ _ hB hFa hH => ?_⟩
  · by_cases z : x = p
    · subst z; rw [upd_same] at e ⊢; exact e
    · rw [bb x z] at e; rw [upd_ne z]; exact R.bh x u e
  · by_cases z : x = p
    · subst z; exact absurd hF hx
    · rw [bb x z]; exact R.fb x hx
  · rw [bb x (np x hx)]; exact R.ob x hx
  · have ne : a ≠ p := fun e => by rw [e, upd_same] at hB; cases hB
    exact ⟨by rw [bb a ne]; exact hB, hFa, upd_ne ne⟩
def PtsE (K : PySem.W.Frag) (W : Wd) (tt : TT) (ft : T W.S) : Prop := SemT K W tt ft
theorem sn_lc {wi : TI} {g : TG} {tt : TT} {te : TE} {fi : I W.S} {tgt : Tg} {ft : T W.S} {fe : E W.S} {ws own : List Nat} (hi : SemI K W wi fi) (hg : SemG K W g tgt ws) (ht : SemT K W tt ft) (he : SemE K W te fe) (hw : ∀ i ∈ ws, i ∈ own) :
    SemN K W (tLc wi g tt te own) (eLc fi tgt ft fe own) := fun B F0 σ H F ρ s R d ρ' s' e Q q => by
  unfold eLc at e
  split at e
  · rename_i ds ρ1 s1 h1
    split at e
    · rename_i hn
      split at e
      · rename_i acc ρ2 s2 h2
        cases e
        refine hi B F0 σ H F ρ s R _ _ _ h1 _ fun J H1 F1 R1 sub1 hds hJ => ?_
        intro D hD
        have hBD : B D = none := R1.bh.none hD
        have hFD : F1 D = none := R1.fh.none hD
        have hF0D : F0 D = none := R1.ff.none hFD
        refine ⟨fun i m H2 => ∃ F2 ρa sa accV accD, Rel K W (upd B D (.lst accV)) F0 σ H2 F2 ρa sa ∧ Sub F1 F2 ∧ m = ds.length - i ∧ i ≤ ds.length ∧ accV.length ≤ i ∧ Dvs K F2 accV accD ∧ lcLoop tgt ft fe own ρ1 (ds.drop i) accD ρa sa = some (acc, ρ', s'),
          ⟨ds.length, F1, ρ1, s1, [], [], R1.keep hD, Sub.refl F1, by omega, by omega, by simp, .nil, h2⟩, ?_⟩
        rintro i m H2 ⟨F2, ρa, sa, accV, accD, R2, sub2, rfl, hil, hav, hva, hl⟩
        have hF2D : F2 D = none := by
          cases z : F2 D with
          | none => rfl
          | some o =>
            rcases R2.fb D (by rw [z]; exact fun w => nomatch w) with y | y
            · exact absurd hF0D y
            · rw [upd_same] at y; cases y
        obtain ⟨js, jg⟩ := (hJ.mono sub2) i H2 R2.fh
        by_cases hlt : i < ds.length
        · right
          have hdi : ds[i]? = some ds[i] := List.getElem?_eq_getElem hlt
          obtain ⟨g1, g2⟩ := jg _ hdi
          refine ⟨g1, fun H3 => ∃ F3 ρb sb accV' accD', Rel K W (upd B D (.lst accV')) F0 σ H3 F3 ρb sb ∧ Sub F2 F3 ∧ accV'.length ≤ i + 1 ∧ Dvs K F3 accV' accD' ∧ lcLoop tgt ft fe own ρ1 (ds.drop (i + 1)) accD' ρb sb = some (acc, ρ', s'), ?_, fun x H3 hy => ?_⟩
          · rintro H3 ⟨F3, ρb, sb, accV', accD', R3, sub3, h3, h4, h5⟩
            exact ⟨ds.length - (i + 1), by omega, F3, ρb, sb, accV', accD', R3, sub2.trans sub3, rfl, hlt, h3, h4, h5⟩
          · rw [List.drop_eq_getElem_cons hlt] at hl
            unfold lcLoop at hl
            -- the turn's item
            have : ∃ F3, Rel K W (upd B D (.lst accV)) F0 σ H3 F3 ρa sa ∧ Sub F2 F3 ∧ Dv K F3 x ds[i] := by
              rcases g2 x H3 hy with ⟨rfl, y2⟩ | ⟨T, xs, t1, rfl, t3⟩
              · exact ⟨F2, R2, Sub.refl F2, y2⟩
              · exact ⟨_, R2.new t1, Sub.upd (R2.fh.none t1), t3⟩
            obtain ⟨F3, R3, sub3, hx⟩ := this
            split at hl
            · rename_i ρt hρt
              refine hg _ F0 _ H3 F3 _ sa (R3.wiped own) x _ _ hx hρt _ fun σ2 G => ?_
              have hout : ∀ j, j ∉ own → σ2[j]? = σ[j]? := fun j hj => by
                rw [G.out j (fun z => hj (hw j z)), wipe_at, if_neg hj]
              have hlen : σ2.length = σ.length := by rw [G.len, wipe_length]
              refine ⟨wipe_eq hlen hout, ?_⟩
              split at hl
              · rename_i ρc sc hc
                split at hl
                · rename_i y ρd sd hd
                  refine ht _ F0 σ2 H3 F3 _ _ G.rel _ _ _ hc _ fun H4 F4 R4 sub4 => ?_
                  rw [if_pos rfl]
                  refine he _ F0 σ2 H4 F4 _ _ R4 _ _ _ hd _ fun v H5 F5 R5 sub5 hv => ?_
                  have hz : accV.length < sizeLine := by
                    have := sizeLine_eq
                    omega
                  have hF5D : F5 D = none := by
                    cases z : F5 D with
                    | none => rfl
                    | some o =>
                      rcases R5.fb D (by rw [z]; exact fun w => nomatch w) with y | y
                      · exact absurd hF0D y
                      · rw [upd_same] at y; cases y
                  refine ⟨accV, R5.bh D _ upd_same, hz, F5, backE ρ1 own ρd, sd, accV ++ [v], accD ++ [y], ?_, sub3.trans (sub4.trans sub5), by rw [List.length_append]; simp; omega, (hva.mono (sub3.trans (sub4.trans sub5))).append (.cons hv .nil), hl⟩
                  have Rb : Rel K W (upd B D (.lst accV)) F0 σ H5 F5 (backE ρ1 own ρd) sd := by
                    refine Rel.back (Hi := upd H1 D (.lst accV)) (Fi := F1) (ρ0 := ρ1) (s0 := s1) (R1.keep hD) R5 (sub2.trans (sub3.trans (sub4.trans sub5))) hlen hout hn
                  exact Rb.writeB hF5D
                · cases hl
              · rename_i ρc sc hc
                refine ht _ F0 σ2 H3 F3 _ _ G.rel _ _ _ hc _ fun H4 F4 R4 sub4 => ?_
                rw [if_neg Bool.false_ne_true]
                refine ⟨F4, backE ρ1 own ρc, sc, accV, accD, ?_, sub3.trans sub4, by omega, hva.mono (sub3.trans sub4), hl⟩
                exact Rel.back (Hi := upd H1 D (.lst accV)) (Fi := F1) (ρ0 := ρ1) (s0 := s1) (R1.keep hD) R4 (sub2.trans (sub3.trans sub4)) hlen hout hn
              · cases hl
            · cases hl
        · left
          have hi' : i = ds.length := by omega
          subst hi'
          rw [List.drop_length] at hl
          unfold lcLoop at hl
          cases hl
          refine ⟨js (Nat.le_refl _), ?_⟩
          exact q D accV acc H2 F2 rfl R2 hBD hF2D (sub1.trans sub2) (Nat.le_trans hav (Nat.le_trans hil hds)) hva
      · cases e
    · cases e
  · cases e
end
end Fw

/-! ### statements -/
namespace Fw
open PySem PySem.Spec PyProof.Rows L2
/-- what is wanted behind a statement's outcome -/
def EndsOk (K : PySem.W.Frag) (W : Wd) (B F0 F : Hp) (Dd : Ends) : Ctl × Env × W.S → Prop
  | (.nx, ρ, s) => ∀ σ' H' F', Rel K W B F0 σ' H' F' ρ s → Sub F F' → Dd.nx σ' H'
  | (.bk, ρ, s) => ∀ σ' H' F', Rel K W B F0 σ' H' F' ρ s → Sub F F' → Dd.bk σ' H'
  | (.ct, ρ, s) => ∀ σ' H' F', Rel K W B F0 σ' H' F' ρ s → Sub F F' → Dd.ct σ' H'
  | (.rt d, _, s) => ∀ v H' F', Rel K W B F0 [] H' F' [] s → Sub F F' → Dv K F' v d → Dd.rt v H'
theorem EndsOk.mono {K : PySem.W.Frag} {W : Wd} {B F0 F F' : Hp} {Dd : Ends} {o : Ctl × Env × W.S} (h : EndsOk K W B F0 F Dd o) (e : Sub F F') : EndsOk K W B F0 F' Dd o := by
  obtain ⟨c, ρ, s⟩ := o
  cases c with
  | nx => exact fun σ' H' F2 R sub => h σ' H' F2 R (e.trans sub)
  | bk => exact fun σ' H' F2 R sub => h σ' H' F2 R (e.trans sub)
  | ct => exact fun σ' H' F2 R sub => h σ' H' F2 R (e.trans sub)
  | rt d => exact fun v H' F2 R sub => h v H' F2 R (e.trans sub)
def SemS (K : PySem.W.Frag) (W : Wd) (t : TS) (f : C W.S) : Prop := ∀ B F0 σ H F ρ (s : W.S), Rel K W B F0 σ H F ρ s → ∀ o, f ρ s = some o → ∀ Dd : Ends, EndsOk K W B F0 F Dd o → t Dd σ H
section
variable {K : PySem.W.Frag} {W : Wd} {ta te : TE} {fa : E W.S} {t u : TS} {ft fu : C W.S} {tt : TT} {fc : T W.S} {g : TG} {tgt : Tg} {ws : List Nat}
theorem ss_nx : SemS K W tNext sNx := fun B F0 σ H F ρ s R o e Dd q => by
  cases e
  exact q σ H F R (Sub.refl F)
theorem ss_bk : SemS K W tBreak sBk := fun B F0 σ H F ρ s R o e Dd q => by
  cases e
  exact q σ H F R (Sub.refl F)
theorem ss_ct : SemS K W tCont sCt := fun B F0 σ H F ρ s R o e Dd q => by
  cases e
  exact q σ H F R (Sub.refl F)
theorem ss_seq (h1 : SemS K W t ft) (h2 : SemS K W u fu) : SemS K W (tSeq t u) (sSeq ft fu) := fun B F0 σ H F ρ s R o e Dd q => by
  unfold sSeq at e
  split at e
  · rename_i ρ1 s1 k1
    refine h1 B F0 σ H F ρ s R _ k1 { Dd with nx := u Dd } fun σ' H' F' R' sub => ?_
    exact h2 B F0 σ' H' F' ρ1 s1 R' o e Dd (q.mono sub)
  · rename_i c ρ1 s1 hc k1
    cases e
    refine h1 B F0 σ H F ρ s R _ k1 { Dd with nx := u Dd } ?_
    cases c with
    | nx => exact absurd rfl hc
    | bk => exact q
    | ct => exact q
    | rt d => exact q
  · cases e
theorem ss_asg (ha : SemE K W ta fa) (hg : SemG K W g tgt ws) : SemS K W (tAsg ta g) (sAsg fa tgt) := fun B F0 σ H F ρ s R o e Dd q => by
  unfold sAsg at e
  split at e
  · rename_i x ρ1 s1 k1
    split at e
    · rename_i ρ2 k2
      cases e
      refine ha B F0 σ H F ρ s R _ _ _ k1 _ fun v H1 F1 R1 sub1 d1 => ?_
      exact hg B F0 σ H1 F1 _ _ R1 v x _ d1 k2 _ fun σ' G => q σ' H1 F1 G.rel sub1
    · cases e
  · cases e
theorem ss_newD (ha : SemND K W ta fa) {i : Nat} : SemS K W (tAsg ta (gName i)) (sNew fa i) := fun B F0 σ H F ρ s R o e Dd q => by
  unfold sNew at e
  split at e
  · rename_i x ρ1 s1 k1
    cases e
    exact ha B F0 σ H F ρ s R _ _ _ k1 _ fun p o H1 F1 R1 hB hF sub1 hv => q _ H1 F1 (R1.setOwO hB hF hv) sub1
  · cases e
theorem ss_new (ha : SemN K W ta fa) {i : Nat} : SemS K W (tAsg ta (gName i)) (sNew fa i) := ss_newD ha.d
theorem ss_drop (ha : SemE K W ta fa) : SemS K W (tDrop ta) (sDrop fa) := fun B F0 σ H F ρ s R o e Dd q => by
  unfold sDrop at e
  split at e
  · rename_i x ρ1 s1 k1
    cases e
    exact ha B F0 σ H F ρ s R _ _ _ k1 _ fun v H1 F1 R1 sub1 d1 => q σ H1 F1 R1 sub1
  · cases e
theorem ss_ret (ha : SemE K W ta fa) : SemS K W (tRet ta) (sRet fa) := fun B F0 σ H F ρ s R o e Dd q => by
  unfold sRet at e
  split at e
  · rename_i x ρ1 s1 k1
    cases e
    exact ha B F0 σ H F ρ s R _ _ _ k1 _ fun v H1 F1 R1 sub1 d1 => q v H1 F1 R1.nil sub1 d1
  · cases e
theorem ss_retN : SemS K W tRetN (sRet (eC .non)) := fun B F0 σ H F ρ s R o e Dd q => by
  cases e
  exact q _ H F R.nil (Sub.refl F) .non
theorem ss_if (hc : SemT K W tt fc) (h1 : SemS K W t ft) (h2 : SemS K W u fu) : SemS K W (tIfS tt t u) (sIf fc ft fu) := fun B F0 σ H F ρ s R o e Dd q => by
  unfold sIf at e
  split at e
  · rename_i ρ1 s1 k1
    refine hc B F0 σ H F ρ s R _ _ _ k1 _ fun H1 F1 R1 sub1 => ?_
    rw [if_pos rfl]
    exact h1 B F0 σ H1 F1 _ _ R1 o e Dd (q.mono sub1)
  · rename_i ρ1 s1 k1
    refine hc B F0 σ H F ρ s R _ _ _ k1 _ fun H1 F1 R1 sub1 => ?_
    rw [if_neg Bool.false_ne_true]
    exact h2 B F0 σ H1 F1 _ _ R1 o e Dd (q.mono sub1)
  · cases e
/-- x[k] = e -/
theorem ss_setIx (ha : SemE K W ta fa) {tk : TE} {fk : E W.S} (hk : SemE K W tk fk) {i : Nat} : SemS K W (tAsg ta (gSub (tVar i) tk rSetL)) (sSetIx fa i fk) := fun B F0 σ H F ρ s R o e Dd q => by
  unfold sSetIx at e
  split at e
  · rename_i x ρ1 s1 k1
    split at e
    · rename_i ds0 hx0
      split at e
      · rename_i k ρ2 s2 k2
        split at e
        · rename_i ds hx
          split at e
          · rename_i j hj
            cases e
            refine ha B F0 σ H F ρ s R _ _ _ k1 _ fun v H1 F1 R1 sub1 d1 => ?_
            obtain ⟨a, g1, _⟩ := R1.sl.ow i _ hx0
            refine ⟨_, g1, hk B F0 σ H1 F1 _ _ R1 _ _ _ k2 _ fun w H2 F2 R2 sub2 d2 => ?_⟩
            obtain ⟨a', m1, _, _, _, hh1⟩ := R2.sl.ow i _ hx
            obtain ⟨vs, ds', e1, m5, m6, m7⟩ := hh1.l
            cases e1
            rw [g1] at m1
            cases m1
            cases d2
            rw [← m7.length] at hj
            refine ⟨a, vs, k, j, rfl, rfl, m5, hj, ?_⟩
            exact q _ _ F2 (R2.write hx g1 (by rw [List.length_set]; exact m6) (m7.set (d1.mono sub2) j)) (sub1.trans sub2)
          · cases e
        · cases e
      · cases e
    · cases e
  · cases e
theorem ss_for {wi : TI} {fi : I W.S} {dead : List Nat} (hi : SemI K W wi fi) (hg : SemG K W g tgt ws) (hb : SemS K W t ft) : SemS K W (tFor wi g t) (sFor fi tgt ft dead) := fun B F0 σ H F ρ s R o e Dd q => by
  unfold sFor at e
  split at e
  · rename_i ds ρ1 s1 k1
    refine hi B F0 σ H F ρ s R _ _ _ k1 _ fun J H1 F1 R1 sub1 _ hJ => ?_
    refine ⟨fun i m σ2 H2 => ∃ F2 ρa sa, Rel K W B F0 σ2 H2 F2 ρa sa ∧ Sub F1 F2 ∧ m = ds.length - i ∧ i ≤ ds.length ∧ forL tgt ft dead (ds.drop i) ρa sa = some o,
      ⟨ds.length, F1, _, s1, R1.kills dead, Sub.refl F1, by omega, by omega, e⟩, ?_⟩
    rintro i m σ2 H2 ⟨F2, ρa, sa, R2, sub2, rfl, hil, hl⟩
    obtain ⟨js, jg⟩ := (hJ.mono sub2) i H2 R2.fh
    by_cases hlt : i < ds.length
    · right
      have hdi : ds[i]? = some ds[i] := List.getElem?_eq_getElem hlt
      obtain ⟨g1, g2⟩ := jg _ hdi
      rw [List.drop_eq_getElem_cons hlt] at hl
      unfold forL at hl
      refine ⟨g1, fun σ3 H3 => ∃ F3 ρb sb, Rel K W B F0 σ3 H3 F3 ρb sb ∧ Sub F2 F3 ∧ forL tgt ft dead (ds.drop (i + 1)) ρb sb = some o, ?_, fun x H3 hy => ?_⟩
      · rintro σ3 H3 ⟨F3, ρb, sb, R3, sub3, h3⟩
        exact ⟨ds.length - (i + 1), by omega, F3, ρb, sb, R3, sub2.trans sub3, rfl, hlt, h3⟩
      · have : ∃ F3, Rel K W B F0 σ2 H3 F3 ρa sa ∧ Sub F2 F3 ∧ Dv K F3 x ds[i] := by
          rcases g2 x H3 hy with ⟨rfl, y2⟩ | ⟨T, xs, t1, rfl, t3⟩
          · exact ⟨F2, R2, Sub.refl F2, y2⟩
          · exact ⟨_, R2.new t1, Sub.upd (R2.fh.none t1), t3⟩
        obtain ⟨F3, R3, sub3, hx⟩ := this
        split at hl
        · rename_i ρt hρt
          refine hg B F0 σ2 H3 F3 _ sa R3 x _ _ hx hρt _ fun σ4 G => ?_
          split at hl
          · rename_i ρb sb hb2
            refine hb B F0 σ4 H3 F3 _ _ G.rel _ hb2 _ fun σ5 H5 F5 R5 sub5 => ?_
            exact ⟨F5, _, sb, R5.kills dead, sub3.trans sub5, hl⟩
          · rename_i ρb sb hb2
            refine hb B F0 σ4 H3 F3 _ _ G.rel _ hb2 _ fun σ5 H5 F5 R5 sub5 => ?_
            exact ⟨F5, _, sb, R5.kills dead, sub3.trans sub5, hl⟩
          · rename_i ρb sb hb2
            cases hl
            refine hb B F0 σ4 H3 F3 _ _ G.rel _ hb2 _ fun σ5 H5 F5 R5 sub5 => ?_
            exact q σ5 H5 F5 R5 (sub1.trans (sub2.trans (sub3.trans sub5)))
          · rename_i d ρb sb hb2
            cases hl
            refine hb B F0 σ4 H3 F3 _ _ G.rel _ hb2 _ fun v5 H5 F5 R5 sub5 => ?_
            exact q v5 H5 F5 R5 (sub1.trans (sub2.trans (sub3.trans sub5)))
          · cases hl
        · cases hl
    · left
      have hi' : i = ds.length := by omega
      subst hi'
      rw [List.drop_length] at hl
      unfold forL at hl
      cases hl
      exact ⟨js (Nat.le_refl _), q σ2 H2 F2 R2 (sub1.trans sub2)⟩
  · cases e
theorem ss_wh {fuel : Nat} {dead : List Nat} (hc : SemT K W tt fc) (hb : SemS K W t ft) : SemS K W (tWhile tt t) (sWh fuel fc ft dead) := fun B F0 σ H F ρ s R o e Dd q => by
  unfold sWh at e
  refine ⟨fun m σ2 H2 => ∃ F2 ρa sa, Rel K W B F0 σ2 H2 F2 ρa sa ∧ Sub F F2 ∧ whL fc ft dead m ρa sa = some o, ⟨fuel, F, _, s, R.kills dead, Sub.refl F, e⟩, ?_⟩
  rintro m σ2 H2 ⟨F2, ρa, sa, R2, sub2, hl⟩
  cases m with
  | zero => cases hl
  | succ m =>
    unfold whL at hl
    split at hl
    · rename_i ρ1 s1 k1
      refine hc B F0 σ2 H2 F2 _ _ R2 _ _ _ k1 _ fun H3 F3 R3 sub3 => ?_
      rw [if_pos rfl]
      refine ⟨fun σ4 H4 => ∃ F4 ρb sb, Rel K W B F0 σ4 H4 F4 ρb sb ∧ Sub F3 F4 ∧ whL fc ft dead m ρb sb = some o, ?_, ?_⟩
      · rintro σ4 H4 ⟨F4, ρb, sb, R4, sub4, h4⟩
        exact ⟨m, Nat.lt_succ_self m, F4, ρb, sb, R4, sub2.trans (sub3.trans sub4), h4⟩
      · split at hl
        · rename_i ρb sb hb2
          refine hb B F0 σ2 H3 F3 _ _ R3 _ hb2 _ fun σ5 H5 F5 R5 sub5 => ?_
          exact ⟨F5, _, sb, R5.kills dead, sub5, hl⟩
        · rename_i ρb sb hb2
          refine hb B F0 σ2 H3 F3 _ _ R3 _ hb2 _ fun σ5 H5 F5 R5 sub5 => ?_
          exact ⟨F5, _, sb, R5.kills dead, sub5, hl⟩
        · rename_i ρb sb hb2
          cases hl
          refine hb B F0 σ2 H3 F3 _ _ R3 _ hb2 _ fun σ5 H5 F5 R5 sub5 => ?_
          exact q σ5 H5 F5 R5 (sub2.trans (sub3.trans sub5))
        · rename_i d ρb sb hb2
          cases hl
          refine hb B F0 σ2 H3 F3 _ _ R3 _ hb2 _ fun v5 H5 F5 R5 sub5 => ?_
          exact q v5 H5 F5 R5 (sub2.trans (sub3.trans sub5))
        · cases hl
    · rename_i ρ1 s1 k1
      cases hl
      refine hc B F0 σ2 H2 F2 _ _ R2 _ _ _ k1 _ fun H3 F3 R3 sub3 => ?_
      rw [if_neg Bool.false_ne_true]
      exact q σ2 H3 F3 R3 (sub2.trans sub3)
    · cases hl

/-! ### a def -/
theorem start_slots {N : List Str} {vs : List V} {ds : List D} {H F : Hp} {B : Hp} (r : Dvs K F vs ds) : Slots K W B F H (start N vs) (ds.map (fun d => some (Sl.sh d)) ++ List.replicate (N.length - ds.length) none) := by
  have get : ∀ (i : Nat) (x : Sl), (ds.map (fun d => some (Sl.sh d)) ++ List.replicate (N.length - ds.length) none)[i]? = some (some x) → ∃ d, x = Sl.sh d ∧ ds[i]? = some d := fun i x e => by
    by_cases hi : i < ds.length
    · rw [List.getElem?_append_left (by rw [List.length_map]; exact hi), List.getElem?_map, List.getElem?_eq_getElem hi] at e
      cases e
      exact ⟨_, rfl, List.getElem?_eq_getElem hi⟩
    · rw [List.getElem?_append_right (by rw [List.length_map]; omega), List.getElem?_replicate] at e
      split at e <;> cases e
  refine ⟨fun i d e => ?_, fun i d e => ?_, fun i j d f a e => ?_⟩
  · obtain ⟨d', e1, e2⟩ := get i _ e
    cases e1
    obtain ⟨v, h1, h2⟩ := r.get i e2
    refine ⟨v, ?_, h2⟩
    have hi : i < vs.length := (List.getElem?_eq_some_iff.mp h1).1
    unfold L2.start
    rw [List.getElem?_append_left (by rw [List.length_map]; exact hi), List.getElem?_map, h1]
    rfl
  · obtain ⟨d', e1, _⟩ := get i _ e
    cases e1
  · obtain ⟨d', e1, _⟩ := get i _ e
    cases e1
/-- the def's reading from its body's meaning -/
theorem def_sem {N : List Str} {np : Nat} {t : TS} {fb : C W.S} {vs : List V} {H : Hp} {Q : VK} {X : XK} (hb : SemS K W t fb) (hle : np ≤ N.length) (h : spF K W (runC np N.length fb) vs H Q X) : t { nx := fun _ H' => Q .non H', rt := Q } (start N vs) H := by
  obtain ⟨B, F0, F, s, ds, d, s', R, r, e, q⟩ := h
  unfold runC at e
  split at e
  · rename_i hnp
    have hR : Rel K W B F0 (start N vs) H F (ds.map (fun d => some (Sl.sh d)) ++ List.replicate (N.length - ds.length) none) s :=
      ⟨R.bh, R.fh, R.ff, R.fb, R.of, R.ob, R.st, by unfold L2.start; rw [List.length_append, List.length_append, List.length_map, List.length_map, r.length, List.length_replicate, List.length_replicate], start_slots r⟩
    rw [hnp] at hR
    split at e
    · rename_i d1 ρ1 s1 k
      cases e
      exact hb B F0 _ H F _ _ hR _ k _ fun v H' F' R' sub d' => q v H' F' R' sub d'
    · rename_i ρ1 s1 k
      cases e
      exact hb B F0 _ H F _ _ hR _ k _ fun σ' H' F' R' sub => q .non H' F' R'.nil sub .non
    · cases e
  · cases e
theorem spF_len {np n : Nat} {fb : C W.S} {vs : List V} {H : Hp} {Q : VK} {X : XK} (h : spF K W (runC np n fb) vs H Q X) : vs.length = np := by
  obtain ⟨B, F0, F, s, ds, d, s', R, r, e, q⟩ := h
  unfold runC at e
  split at e
  · rename_i hnp
    rw [r.length]; exact hnp
  · cases e
theorem spP_run {np n : Nat} {fb : C Unit} {vs : List V} {H : Hp} {Q : VK} {X : XK} (h : spP K (runP np n fb) vs H Q X) : spF K W0 (runC np n fb) vs H Q X := by
  obtain ⟨B, F0, F, s, ds, d, s', R, r, e, q⟩ := h
  refine ⟨B, F0, F, s, ds, d, s', R, r, ?_, q⟩
  have e' : ((runC np n fb ds ()).map (·.1)).map (fun d => (d, ())) = some (d, s') := e
  show runC np n fb ds s = some (d, s')
  cases h : runC np n fb ds () with
  | none => rw [h] at e'; cases e'
  | some p => rw [h] at e'; exact e'
end
section
variable {P : Program} {w : World} {K : PySem.W.Frag} {mg : Str → Option Value} {base : Heap}
/-- a def that knows no outer state -/
theorem fn_p {x qual : Str} {st : Stmt} {f : Addr} {fd : FuncData} {N ps : List Str} {k : Nat} {fb : C Unit} (F : Fun K x qual st f fd) (S : FnScope N ps (defScope st)) (hle : ps.length ≤ N.length)
    (hbody : ∀ (cdv : Value) (A : Around) (outer : List PySem.Env) (s : Shared) (H : Hp) (E : XK), RoomG k (A.deeper (envOfC qual (defScope st) s.heap.objs.size f cdv)) →
      ∃ t, PSs (cxOf CX0 P w K mg base N qual (defScope st) f cdv A outer s H E).nox (defBody st) t ∧ SemS K W0 t fb) : FnG P w K mg base CX0 (k + 1) f fd ps (spP K (runP ps.length N.length fb)) :=
  fun_okG F S (fun vs H Q E h => spF_len (spP_run h)) fun cdv A outer s H vs Q E hr h => by
    obtain ⟨t, h1, h2⟩ := hbody cdv A outer s H E hr
    exact ⟨t, h1, def_sem h2 hle (spP_run h)⟩
/-- a def that knows one -/
theorem fn_f (Wf : Addr → Addr → Wd) (fbf : ∀ a c, C (Wf a c).S) {x qual : Str} {st : Stmt} {f : Addr} {fd : FuncData} {N ps : List Str} {k : Nat} (F : Fun K x qual st f fd) (S : FnScope N ps (defScope st)) (hle : ps.length ≤ N.length)
    (hbody : ∀ (cdv : Value) (A : Around) (outer : List PySem.Env) (s : Shared) (H : Hp) (E : XK), RoomG k (A.deeper (envOfC qual (defScope st) s.heap.objs.size f cdv)) →
      ∃ t, PSs (cxOf CX0 P w K mg base N qual (defScope st) f cdv A outer s H E).nox (defBody st) t ∧ ∀ a c, SemS K (Wf a c) t (fbf a c)) :
    FnG P w K mg base CX0 (k + 1) f fd ps (fun vs H Q E => ∃ a c, spF K (Wf a c) (runC ps.length N.length (fbf a c)) vs H Q E) :=
  fun_okG F S (fun vs H Q E ⟨a, c, h⟩ => spF_len h) fun cdv A outer s H vs Q E hr ⟨a, c, h⟩ => by
    obtain ⟨t, h1, h2⟩ := hbody cdv A outer s H E hr
    exact ⟨t, h1, def_sem (h2 a c) hle h⟩
end
end Fw

/-! ### further rules -/
namespace Fw
open PySem PySem.Spec PyProof.Rows L2
theorem room65 {k : Nat} {A : Around} (hr : RoomG k A) : A.units + 65 < cLine := by have := hr.un; omega
section
variable {K : PySem.W.Frag} {W : Wd} {ta tb : TE} {fa fb : E W.S}
theorem se_cb1 {r : List V → Hp → VK → Prop} {op : D → Option D} (h : SemB K W r (on1 op)) (ha : SemE K W ta fa) : SemE K W (tCB r (tCons ta tNil)) (e1 op fa) := fun B F0 σ H F ρ s R d ρ' s' e Q q => by
  unfold e1 at e
  split at e
  · rename_i x ρ1 s1 h1
    split at e
    · rename_i z h3
      cases e
      refine ha B F0 σ H F ρ s R x _ _ h1 _ fun v H1 F1 R1 sub1 d1 => ?_
      exact h B F0 σ H1 F1 _ _ R1 [v] [x] d (.cons d1 .nil) h3 Q fun v' H' F' R' sub' d' => q v' H' F' R' (sub1.trans sub') d'
    · cases e
  · cases e
theorem se_cb2 {r : List V → Hp → VK → Prop} {op : D → D → Option D} (h : SemB K W r (on2 op)) (ha : SemE K W ta fa) (hb : SemE K W tb fb) : SemE K W (tCB r (tCons ta (tCons tb tNil))) (e2 op fa fb) := fun B F0 σ H F ρ s R d ρ' s' e Q q => by
  unfold e2 at e
  split at e
  · rename_i x ρ1 s1 h1
    split at e
    · rename_i y ρ2 s2 h2
      split at e
      · rename_i z h3
        cases e
        refine ha B F0 σ H F ρ s R x _ _ h1 _ fun v H1 F1 R1 sub1 d1 => ?_
        refine hb B F0 σ H1 F1 _ _ R1 y _ _ h2 _ fun w H2 F2 R2 sub2 d2 => ?_
        exact h B F0 σ H2 F2 _ _ R2 [v, w] [x, y] d (.cons (d1.mono sub2) (.cons d2 .nil)) h3 Q fun v' H' F' R' sub' d' => q v' H' F' R' (sub1.trans (sub2.trans sub')) d'
      · cases e
    · cases e
  · cases e
theorem sn_b1 {r : List V → Hp → VK → Prop} {op : D → Option D} (h : SemBN K W r (on1 op)) (ha : SemE K W ta fa) : SemN K W (tCB r (tCons ta tNil)) (e1 op fa) := fun B F0 σ H F ρ s R d ρ' s' e Q q => by
  unfold e1 at e
  split at e
  · rename_i x ρ1 s1 h1
    split at e
    · rename_i z h3
      cases e
      refine ha B F0 σ H F ρ s R x _ _ h1 _ fun v H1 F1 R1 sub1 d1 => ?_
      exact h B F0 σ H1 F1 _ _ R1 [v] [x] d (.cons d1 .nil) h3 Q fun p vs ds H' F' hd R' hB hF sub' => q p vs ds H' F' hd R' hB hF (sub1.trans sub')
    · cases e
  · cases e
/-! isinstance -/
structure IsiOk (T : String) : Prop where
  non : kitB "NoneType" T = some (T == "NoneType")
  bl : kitB "bool" T = some (T == "bool" || T == "int")
  int : kitB "int" T = some (T == "int")
  str : kitB "str" T = some (T == "str")
  lst : kitB "list" T = some (T == "list")
  tup : kitB "tuple" T = some (T == "tuple")
  dct : kitB "dict" T = some (T == "dict")
theorem isi_int : IsiOk "int" := ⟨by decide +kernel, by decide +kernel, by decide +kernel, by decide +kernel, by decide +kernel, by decide +kernel, by decide +kernel⟩
theorem isi_bool : IsiOk "bool" := ⟨by decide +kernel, by decide +kernel, by decide +kernel, by decide +kernel, by decide +kernel, by decide +kernel, by decide +kernel⟩
theorem isi_tuple : IsiOk "tuple" := ⟨by decide +kernel, by decide +kernel, by decide +kernel, by decide +kernel, by decide +kernel, by decide +kernel, by decide +kernel⟩
theorem isi_list : IsiOk "list" := ⟨by decide +kernel, by decide +kernel, by decide +kernel, by decide +kernel, by decide +kernel, by decide +kernel, by decide +kernel⟩
theorem isi_str : IsiOk "str" := ⟨by decide +kernel, by decide +kernel, by decide +kernel, by decide +kernel, by decide +kernel, by decide +kernel, by decide +kernel⟩
theorem isi_dict : IsiOk "dict" := ⟨by decide +kernel, by decide +kernel, by decide +kernel, by decide +kernel, by decide +kernel, by decide +kernel, by decide +kernel⟩
theorem tyx_tup {F H : Hp} {a : Addr} {xs : List V} (h : SqT K F a xs) (sub : Sub F H) : TyX K H (.ref a) (.type "tuple") := by
  rcases h with (h | ⟨o, h⟩) | ⟨o, its, n, hk, hc, _⟩
  · exact .base (.tup (sub _ _ h))
  · exact .fTuple (sub _ _ h)
  · exact .kTuple hk hc
theorem se_isi {T : String} (I : IsiOk T) (ha : SemE K W ta fa) : SemE K W (tCB (rIsi K) (tCons ta (tCons (tC (.ty T)) tNil))) (e1 (dIsi T) fa) := fun B F0 σ H F ρ s R d ρ' s' e Q q => by
  unfold e1 at e
  split at e
  · rename_i x ρ1 s1 h1
    split at e
    · rename_i z h3
      cases e
      refine ha B F0 σ H F ρ s R x _ _ h1 _ fun v H1 F1 R1 sub1 d1 => ?_
      have fin : ∀ b, d = .bl b → Q (.bl b) H1 := fun b hb => by subst hb; exact q _ H1 F1 R1 sub1 (.bl b)
      cases d1 <;> simp only [dIsi, Option.some.injEq, reduceCtorEq] at h3
      · exact ⟨_, _, _, _, _, rfl, .ty T, .base .non, kit_ty I.non, fin _ h3.symm⟩
      · exact ⟨_, _, _, _, _, rfl, .ty T, .base (.bl _), kit_ty I.bl, fin _ h3.symm⟩
      · exact ⟨_, _, _, _, _, rfl, .ty T, .base (.int _), kit_ty I.int, fin _ h3.symm⟩
      · exact ⟨_, _, _, _, _, rfl, .ty T, .base (.str _), kit_ty I.str, fin _ h3.symm⟩
      · rename_i g1 z1 r1
        exact ⟨_, _, _, _, _, rfl, .ty T, .base (.lst (R1.fh _ _ g1)), kit_ty I.lst, fin _ h3.symm⟩
      · rename_i g1 z1 r1
        exact ⟨_, _, _, _, _, rfl, .ty T, tyx_tup g1 R1.fh, kit_ty I.tup, fin _ h3.symm⟩
      · rename_i g1 r1 l1
        exact ⟨_, _, _, _, _, rfl, .ty T, .base (.dK (R1.fh _ _ g1)), kit_ty I.dct, fin _ h3.symm⟩
    · cases e
  · cases e
theorem f2_isB : Flat2 K rIsB dIsB := fun F x y dx dy d hx hy e => by
  cases hx <;> cases hy <;> simp only [dIsB, Option.some.injEq, reduceCtorEq] at e
  subst e
  exact ⟨_, fun _ => .bl _, fun H Q _ q => ⟨_, _, rfl, rfl, q⟩⟩
/-! {} -/
theorem se_dnew : SemE K W tDNewK (eC (.dct [])) := fun B F0 σ H F ρ s R d ρ' s' e Q q => by
  cases e
  intro p hp
  exact q _ _ _ (R.new hp) (Sub.upd (R.fh.none hp)) (Dv.dct (ks := []) (xs := []) (ds := []) upd_same .nil rfl)
/-! list(range(n)) -/
theorem rgV_dv {F : Hp} (n : Nat) : Dvs K F ((List.range n).map fun i : Nat => V.int (0 + (i : Nat))) (rangeL 0 n) := by
  unfold rangeL
  induction (List.range n) with
  | nil => exact .nil
  | cons x r ih => exact .cons (.int _) ih
theorem sn_listR1 (ha : SemE K W ta fa) : SemN K W (tLstRg (tRg1 ta)) (eListR1 fa) := fun B F0 σ H F ρ s R d ρ' s' e Q q => by
  unfold eListR1 at e
  split at e
  · rename_i j ρ1 s1 h1
    split at e
    · rename_i hj
      cases e
      refine ha B F0 σ H F ρ s R _ _ _ h1 _ fun v H1 F1 R1 sub1 d1 => ?_
      cases d1
      refine ⟨j, rfl, ⟨by omega, by omega, by omega, by omega, by omega⟩, ?_⟩
      have e0 : (j - 0).toNat = j.toNat := by omega
      unfold rgV
      rw [e0]
      exact lay_new R1 (by rw [List.length_map, List.length_range]; exact lim_size (by show j.toNat ≤ 16777216; omega)) (rgV_dv j.toNat) fun p vs ds H' F' hd R' hB hF sub' => q p vs ds H' F' hd R' hB hF (sub1.trans sub')
    · cases e
  · cases e
/-! a, b = x, y -/
def Hold (K : PySem.W.Frag) (F : Hp) : Hp → List Sl → List V → Hp → Prop
  | B, [], [], B' => B' = B
  | B, .sh d :: r, v :: vs, B' => Dv K F v d ∧ Hold K F B r vs B'
  | B, .ow d :: r, v :: vs, B' => ∃ p o, v = .ref p ∧ B p = none ∧ F p = none ∧ OwO K F o d ∧ Hold K F (upd B p o) r vs B'
  | _, _, _, _ => False
theorem Hold.mono {F F' : Hp} (e : Sub F F') : ∀ {xs : List Sl} {vs : List V} {B B' : Hp}, (∀ p, B p = none → B' p ≠ none → F' p = none) → Hold K F B xs vs B' → Hold K F' B xs vs B'
  | [], [], _, _, _, h => h
  | .sh d :: r, v :: vs, _, _, k, h => ⟨h.1.mono e, Hold.mono e k h.2⟩
  | .ow d :: r, v :: vs, B, B', k, ⟨p, o, e2, e3, e4, e6, e7⟩ => by
    have sub : ∀ {xs : List Sl} {vs : List V} {B B' : Hp}, Hold K F B xs vs B' → ∀ x o, B x = some o → B' x = some o := by
      intro xs
      induction xs with
      | nil => intro vs B B' h; cases vs with
        | nil => intro x o hx; rw [show B' = B from h]; exact hx
        | cons _ _ => exact h.elim
      | cons y ys ih =>
        intro vs B B' h
        cases vs with
        | nil => cases y <;> exact h.elim
        | cons v vs =>
          cases y with
          | sh d => exact ih h.2
          | ow d =>
            obtain ⟨p, o', _, e3, _, _, e7⟩ := h
            intro x o hx
            exact ih e7 x o (by rw [upd_ne (ne_of_none hx e3)]; exact hx)
    have hp : F' p = none := k p e3 (by rw [sub e7 p _ upd_same]; exact fun z => nomatch z)
    refine ⟨p, o, e2, e3, hp, e6.mono e, Hold.mono e (fun x hx hb => ?_) e7⟩
    have hx' : B x = none := by
      by_cases z : x = p
      · rw [z]; exact e3
      · rw [upd_ne z] at hx; exact hx
    exact k x hx' hb
  | [], _ :: _, _, _, _, h => h.elim
  | .sh _ :: _, [], _, _, _, h => h.elim
  | .ow _ :: _, [], _, _, _, h => h.elim
def SemQ (K : PySem.W.Frag) (W : Wd) (t : TA) (f : Qs W.S) : Prop := ∀ B F0 σ H F ρ (s : W.S), Rel K W B F0 σ H F ρ s → ∀ xs ρ' s', f ρ s = some (xs, ρ', s') → ∀ Q : List V → Hp → Prop,
  (∀ vs H' F' B', Rel K W B' F0 σ H' F' ρ' s' → Sub F F' → Hold K F' B xs vs B' → Q vs H') → t σ H Q
theorem sp_nil : SemQ K W tNil qNil := fun B F0 σ H F ρ s R xs ρ' s' e Q q => by
  cases e
  exact q [] H F B R (Sub.refl F) rfl
theorem hold_none {B F0 : Hp} {σ : L2.St} {H F : Hp} {ρ : Env} {s : W.S} (R : Rel K W B F0 σ H F ρ s) {p : Addr} (h0 : F0 p = none) (hb : B p ≠ none) : F p = none := by
  cases z : F p with
  | none => rfl
  | some o =>
    rcases R.fb p (by rw [z]; exact fun w => nomatch w) with y | y
    · exact absurd h0 y
    · exact absurd y hb
theorem sp_e {tr : TA} {fr : Qs W.S} (ha : SemE K W ta fa) (hr : SemQ K W tr fr) : SemQ K W (tCons ta tr) (qSh fa fr) := fun B F0 σ H F ρ s R xs ρ' s' e Q q => by
  unfold qSh at e
  split at e
  · rename_i x ρ1 s1 h1
    split at e
    · rename_i ys ρ2 s2 h2
      cases e
      refine ha B F0 σ H F ρ s R _ _ _ h1 _ fun v H1 F1 R1 sub1 d1 => ?_
      refine hr B F0 σ H1 F1 _ _ R1 _ _ _ h2 _ fun vs H2 F2 B2 R2 sub2 hh => ?_
      exact q _ H2 F2 B2 R2 (sub1.trans sub2) ⟨d1.mono sub2, hh⟩
    · cases e
  · cases e
theorem sp_nD {tr : TA} {fr : Qs W.S} (ha : SemND K W ta fa) (hr : SemQ K W tr fr) : SemQ K W (tCons ta tr) (qNew fa fr) := fun B F0 σ H F ρ s R xs ρ' s' e Q q => by
  unfold qNew at e
  split at e
  · rename_i x ρ1 s1 h1
    split at e
    · rename_i ys ρ2 s2 h2
      cases e
      refine ha B F0 σ H F ρ s R _ _ _ h1 _ fun p o H1 F1 R1 hB hF sub1 hv => ?_
      have h0 : F0 p = none := R1.ff.none hF
      refine hr (upd B p o) F0 σ H1 F1 _ _ R1 _ _ _ h2 _ fun vs H2 F2 B2 R2 sub2 hh => ?_
      have hsub : Sub (upd B p o) B2 := by
        have : ∀ {xs : List Sl} {vs : List V} {B B' : Hp}, Hold K F2 B xs vs B' → Sub B B' := by
          intro xs
          induction xs with
          | nil => intro vs B B' h; cases vs with
            | nil => intro x o hx; rw [show B' = B from h]; exact hx
            | cons _ _ => exact h.elim
          | cons y ys ih =>
            intro vs B B' h
            cases vs with
            | nil => cases y <;> exact h.elim
            | cons v vs =>
              cases y with
              | sh d => exact ih h.2
              | ow d =>
                obtain ⟨p, o, _, e3, _, _, e7⟩ := h
                exact (Sub.upd e3).trans (ih e7)
        exact this hh
      have hp2 : F2 p = none := hold_none R2 h0 (by rw [hsub p _ upd_same]; exact fun z => nomatch z)
      exact q _ H2 F2 B2 R2 (sub1.trans sub2) ⟨p, o, rfl, hB, hp2, hv.mono sub2, hh⟩
    · cases e
  · cases e
theorem sp_n {tr : TA} {fr : Qs W.S} (ha : SemN K W ta fa) (hr : SemQ K W tr fr) : SemQ K W (tCons ta tr) (qNew fa fr) := sp_nD ha.d hr
/-- the slots are stored, from the last one -/
theorem Rel.setHold : ∀ {is : List Nat} {xs : List Sl} {vs : List V} {B B' F0 : Hp} {σ : L2.St} {H F : Hp} {ρ : Env} {s : W.S}, Rel K W B' F0 σ H F ρ s → Hold K F B xs vs B' → is.Nodup → is.length = xs.length →
    ∃ σ', Rel K W B F0 σ' H F (setAll is xs ρ) s ∧ σ'.length = σ.length ∧ (∀ j, j ∉ is → σ'[j]? = σ[j]?) ∧ ∀ (k : Nat) i v, is[k]? = some i → vs[k]? = some v → i < σ.length → σ'[i]? = some (some v)
  | [], [], [], B, B', F0, σ, H, F, ρ, s, R, h, _, _ => ⟨σ, by rw [← (show B' = B from h)]; exact R, rfl, fun _ _ => rfl, fun k i v e => by simp at e⟩
  | i :: is, .sh d :: xs, v :: vs, B, B', F0, σ, H, F, ρ, s, R, h, nd, hl => by
    obtain ⟨n1, n2⟩ := List.nodup_cons.mp nd
    obtain ⟨σ', R', l1, l2, l3⟩ := Rel.setHold R h.2 n2 (by simpa using hl)
    refine ⟨σ'.set i (some v), R'.setSh h.1, by rw [List.length_set, l1], fun j hj => ?_, fun k i' v' e1 e2 e3 => ?_⟩
    · rw [set_get_ne (fun z => hj (by rw [z]; exact List.mem_cons_self))]
      exact l2 j fun z => hj (List.mem_cons_of_mem _ z)
    · cases k with
      | zero =>
        simp only [List.getElem?_cons_zero, Option.some.injEq] at e1 e2
        subst e1 e2
        exact set_get_eq (by rw [l1]; exact e3)
      | succ k =>
        simp only [List.getElem?_cons_succ] at e1 e2
        have hm : i' ∈ is := List.mem_of_getElem? e1
        rw [set_get_ne (show i ≠ i' from fun z => n1 (by rw [z]; exact hm))]
        exact l3 k i' v' e1 e2 e3
  | i :: is, .ow d :: xs, v :: vs, B, B', F0, σ, H, F, ρ, s, R, ⟨p, o, e2, e3, e4, e6, e7⟩, nd, hl => by
    obtain ⟨n1, n2⟩ := List.nodup_cons.mp nd
    obtain ⟨σ', R', l1, l2, l3⟩ := Rel.setHold R e7 n2 (by simpa using hl)
    subst e2
    refine ⟨σ'.set i (some (.ref p)), R'.setOwO e3 e4 e6, by rw [List.length_set, l1], fun j hj => ?_, fun k i' v' e1 e2 e3 => ?_⟩
    · rw [set_get_ne (fun z => hj (by rw [z]; exact List.mem_cons_self))]
      exact l2 j fun z => hj (List.mem_cons_of_mem _ z)
    · cases k with
      | zero =>
        simp only [List.getElem?_cons_zero, Option.some.injEq] at e1 e2
        subst e1 e2
        exact set_get_eq (by rw [l1]; exact e3)
      | succ k =>
        simp only [List.getElem?_cons_succ] at e1 e2
        have hm : i' ∈ is := List.mem_of_getElem? e1
        rw [set_get_ne (show i ≠ i' from fun z => n1 (by rw [z]; exact hm))]
        exact l3 k i' v' e1 e2 e3
  | [], [], _ :: _, _, _, _, _, _, _, _, _, _, h, _, _ => h.elim
  | [], _ :: _, _, _, _, _, _, _, _, _, _, _, _, _, hl => by simp at hl
  | _ :: _, [], _, _, _, _, _, _, _, _, _, _, _, _, hl => by simp at hl
  | _ :: _, .sh _ :: _, [], _, _, _, _, _, _, _, _, _, h, _, _ => h.elim
  | _ :: _, .ow _ :: _, [], _, _, _, _, _, _, _, _, _, h, _, _ => h.elim
theorem Hold.len {F : Hp} : ∀ {xs : List Sl} {vs : List V} {B B' : Hp}, Hold K F B xs vs B' → vs.length = xs.length
  | [], [], _, _, _ => rfl
  | .sh _ :: _, _ :: _, _, _, h => by rw [List.length_cons, List.length_cons, Hold.len h.2]
  | .ow _ :: _, _ :: _, _, _, ⟨_, _, _, _, _, _, h⟩ => by rw [List.length_cons, List.length_cons, Hold.len h]
  | [], _ :: _, _, _, h => h.elim
  | .sh _ :: _, [], _, _, h => h.elim
  | .ow _ :: _, [], _, _, h => h.elim
theorem ss_par2 {i j : Nat} {t : TA} {f : Qs W.S} (h : SemQ K W t f) (hij : i ≠ j) : SemS K W (tPar i j t) (sPar [i, j] f) := fun B F0 σ H F ρ s R o e Dd q => by
  unfold sPar at e
  split at e
  · rename_i xs ρ1 s1 h1
    split at e
    · rename_i hl
      cases e
      refine h B F0 σ H F ρ s R _ _ _ h1 _ fun vs H1 F1 B1 R1 sub1 hh => ?_
      have hv := hh.len
      rw [hl] at hv
      match vs, hv with
      | [v, w], _ =>
        obtain ⟨σ', R', l1, l2, l3⟩ := R1.setHold (is := [i, j]) hh (by simp [hij]) (by rw [hl])
        refine ⟨v, w, rfl, ?_⟩
        have : (σ.set i (some v)).set j (some w) = σ' := by
          apply List.ext_getElem?
          intro k
          by_cases hk : k < σ.length
          · by_cases e1 : k = j
            · subst e1
              rw [set_get_eq (by rw [List.length_set]; exact hk), l3 1 k w rfl rfl hk]
            · rw [set_get_ne (Ne.symm e1)]
              by_cases e2 : k = i
              · subst e2
                rw [set_get_eq hk, l3 0 k v rfl rfl hk]
              · rw [set_get_ne (Ne.symm e2), l2 k (by simp [e1, e2])]
          · rw [List.getElem?_eq_none (by rw [List.length_set, List.length_set]; omega), List.getElem?_eq_none (by omega)]
        rw [this]
        exact q σ' H1 F1 R' sub1
    · cases e
  · cases e
theorem ss_par3 {i j l : Nat} {t : TA} {f : Qs W.S} (h : SemQ K W t f) (hn : i ≠ j ∧ i ≠ l ∧ j ≠ l) : SemS K W (tPar3 i j l t) (sPar [i, j, l] f) := fun B F0 σ H F ρ s R o e Dd q => by
  obtain ⟨hij, hil, hjl⟩ := hn
  unfold sPar at e
  split at e
  · rename_i xs ρ1 s1 h1
    split at e
    · rename_i hl
      cases e
      refine h B F0 σ H F ρ s R _ _ _ h1 _ fun vs H1 F1 B1 R1 sub1 hh => ?_
      have hv := hh.len
      rw [hl] at hv
      match vs, hv with
      | [v, w, x], _ =>
        obtain ⟨σ', R', l1, l2, l3⟩ := R1.setHold (is := [i, j, l]) hh (by simp [hij, hil, hjl]) (by rw [hl])
        refine ⟨v, w, x, rfl, ?_⟩
        have : ((σ.set i (some v)).set j (some w)).set l (some x) = σ' := by
          apply List.ext_getElem?
          intro k
          by_cases hk : k < σ.length
          · by_cases e0 : k = l
            · subst e0
              rw [set_get_eq (by rw [List.length_set, List.length_set]; exact hk), l3 2 k x rfl rfl hk]
            · rw [set_get_ne (Ne.symm e0)]
              by_cases e1 : k = j
              · subst e1
                rw [set_get_eq (by rw [List.length_set]; exact hk), l3 1 k w rfl rfl hk]
              · rw [set_get_ne (Ne.symm e1)]
                by_cases e2 : k = i
                · subst e2
                  rw [set_get_eq hk, l3 0 k v rfl rfl hk]
                · rw [set_get_ne (Ne.symm e2), l2 k (by simp [e0, e1, e2])]
          · rw [List.getElem?_eq_none (by rw [List.length_set, List.length_set, List.length_set]; omega), List.getElem?_eq_none (by omega)]
        rw [this]
        exact q σ' H1 F1 R' sub1
    · cases e
  · cases e
/-! i += e -/
theorem ss_augA {i : Nat} (ha : SemE K W ta fa) : SemS K W (tAug i ta (ipI fun i j => i + j)) (sAug dAddI i fa) := fun B F0 σ H F ρ s R o e Dd q => by
  unfold sAug at e
  split at e
  · rename_i x hx
    split at e
    · rename_i y ρ1 s1 h1
      split at e
      · rename_i z hz
        cases e
        obtain ⟨v, g1, g2⟩ := R.sl.sh i x hx
        refine ⟨v, g1, ha B F0 σ H F ρ s R _ _ _ h1 _ fun w H1 F1 R1 sub1 d1 => ?_⟩
        cases g2 <;> cases d1 <;> simp only [dAddI, Option.some.injEq, reduceCtorEq] at hz
        subst hz
        exact ⟨_, _, rfl, rfl, q _ H1 F1 (R1.setSh (.int _)) sub1⟩
      · cases e
    · cases e
  · cases e
/-! ### the defs that are called -/
structure Callee (P : Program) (w : World) (K : PySem.W.Frag) (mg : Str → Option Value) (base : Heap) (lev : Nat) (x : Str) (ps : List Str) (sp : Sp) : Prop where
  ex : ∃ f fd, mg x = some (.ref f) ∧ PySem.W.keepIn K (.ref f) = true ∧ Binds K fd ps [] ∧ FnG P w K mg base CX0 lev f fd ps sp
end
end Fw
/-! ## FwZ -/
set_option Elab.async false
set_option linter.all false
set_option maxRecDepth 100000
set_option maxHeartbeats 2000000
/-! zip(a, b, strict=True), and zip, enumerate over lists and tuples in any mix. -/
namespace FwZ
open PySem PySem.Spec PyProof.Rows L2
open Sem (wp)

abbrev IsZipS (h : Heap) (z TI TO : Addr) (f0 : Value) : Prop := h.get? z = some { cls := .type "zip", data := .fields #[f0, .bool false, .bool true, .ref TI, .ref TO] }
section
variable {prog : Program} {w : World} {A : Around} {E : Value → Shared → Prop} {s : Shared} {z TI TO i1 i2 : Addr} {fp1 fp2 : List Addr} {n1 n2 i : Nat} {P1 P2 : Nat → Value → Prop} {St1 St2 : Nat → Heap → Prop} {a1 a2 : Value}

theorem nextOrEnd_item {it : Addr} {fp : List Addr} {n : Nat} {P : Nat → Value → Prop} {St : Nat → Heap → Prop} (D : Draws prog w A it fp n P St) {Q : Option Value → Shared → Prop} (hi : i < n) (st : St i s.heap)
    (hQ : ∀ x h' tk, P i x → St (i + 1) h' → Heap.SameBut it s.heap h' → Q (some x) { s with heap := h', toks := tk }) : wpAny (model prog w) A (Builtin.SmallTypes.nextOrEnd (.ref it)) Q E s := by
  unfold Builtin.SmallTypes.nextOrEnd
  exact wpAny_bind (wpAny_attempt (D.item i s _ _ hi st fun x h' tk p st' hs => wpAny_pure (hQ x h' tk p st' hs)))
theorem nextOrEnd_end {it : Addr} {fp : List Addr} {n : Nat} {P : Nat → Value → Prop} {St : Nat → Heap → Prop} (D : Draws prog w A it fp n P St) {Q : Option Value → Shared → Prop} (st : St n s.heap)
    (hQ : ∀ h', Heap.ExtBut it s.heap h' → Q none { s with heap := h' }) : wpAny (model prog w) A (Builtin.SmallTypes.nextOrEnd (.ref it)) Q E s := by
  unfold Builtin.SmallTypes.nextOrEnd
  refine wpAny_bind (wpAny_attempt (D.done s _ _ st fun h' e hs he => ?_))
  obtain ⟨o, ho, hc⟩ := he
  refine wpAny_bind (wpAny_isInstance (T := "StopIteration") (b := true) ⟨o, ho, hc⟩ isSubtype_stop ?_)
  exact wpAny_pure (hQ h' hs)

theorem zipS_next_item {Q : Value → Shared → Prop} (S : ZipSep2 z TI TO i1 i2 fp1 fp2) (D1 : Draws prog w A i1 fp1 n1 P1 St1) (D2 : Draws prog w A i2 fp2 n2 P2 St2)
    (hz : IsZipS s.heap z TI TO .none) (hTI : IsTupOf2 s.heap TI (.ref i1) (.ref i2)) (hTO : IsTupOf2 s.heap TO a1 a2) (st1 : St1 i s.heap) (st2 : St2 i s.heap) (hlt1 : i < n1) (hlt2 : i < n2)
    (hQ : ∀ x1 x2 h' tk, P1 i x1 → P2 i x2 → IsZipS h' z TI TO (rawInt s.heap.objs.size) → IsTupOf2 h' TO x1 x2 → St1 (i + 1) h' → St2 (i + 1) h' → IsTupOf2 h' s.heap.objs.size x1 x2 → h'.objs.size = s.heap.objs.size + 1 →
      (∀ c o, c ≠ z → c ≠ TO → c ≠ i1 → c ≠ i2 → s.heap.get? c = some o → h'.get? c = some o) → Q (.ref s.heap.objs.size) { s with heap := h', toks := tk }) :
    wpAny (model prog w) A (Builtin.«zip.__next__» ⟨[.ref z], []⟩) (fun fin s' => ∃ v, fin = .done (.ret v) ∧ Q v s') E s := by
  obtain ⟨hp, g, d, tk0, os⟩ := s
  show wpAny _ _ (field (.ref z) 2 >>= _) _ _ _
  refine wpAny_bind (wpAny_field hz rfl (x := .bool true) rfl ?_)
  show wpAny _ _ (field (.ref z) 3 >>= _) _ _ _
  refine wpAny_bind (wpAny_field hz rfl (x := .ref TI) rfl ?_)
  refine wpAny_bind (wpAny_seqItems hTI rfl ?_)
  show wpAny _ _ (Builtin.SmallTypes.ownedTupleIsFree (.ref z) >>= _) _ _ _
  refine wpAny_bind ?_
  unfold Builtin.SmallTypes.ownedTupleIsFree
  refine wpAny_bind (wpAny_field hz rfl (x := .none) rfl (wpAny_pure ?_))
  simp only [if_true]
  refine wpAny_bind (wpAny_rule ?_)
  refine wpAny_bind (wpAny_field hz rfl (x := .ref TO) rfl ?_)
  refine wpAny_bind (wpAny_setField_rec hz (by simp) fun g0 hz0 hs0 => ?_)
  replace hz0 : IsZipS g0 z TI TO .ellipsis := hz0
  replace hs0 : Heap.SameBut z hp g0 := hs0
  refine wpAny_bind ?_
  simp only [List.zipIdx_cons, List.zipIdx_nil, List.forIn_cons, List.forIn_nil]
  refine wpAny_bind (wpAny_bind (wpAny_onRaise ?_))
  show wpAny _ _ (Builtin.SmallTypes.nextOrEnd (.ref i1)) _ _ ⟨g0, g, d, tk0, os⟩
  refine nextOrEnd_item D1 (i := i) hlt1 (D1.over st1 hs0 S.zf1) fun x1 p1 tk1 hx1 sn1 hp1 => ?_
  replace hp1 : Heap.SameBut i1 g0 p1 := hp1
  have hU1 : IsTupOf2 p1 TO a1 a2 := hp1.extBut _ _ S.Ti1 (hs0.extBut _ _ S.TOz hTO)
  refine wpAny_bind (wpAny_seqItems (s := ⟨p1, g, d, tk1, os⟩) hU1 rfl ?_)
  refine wpAny_bind (updateSeq_IsTupOf2 (s := ⟨p1, g, d, tk1, os⟩) hU1 fun g1 hT1 hs1 => ?_)
  replace hT1 : IsTupOf2 g1 TO x1 a2 := hT1
  replace hs1 : Heap.SameBut TO p1 g1 := hs1
  refine wpAny_bind (wpAny_letGo (wpAny_pure ?_))
  refine wpAny_bind (wpAny_bind (wpAny_onRaise ?_))
  show wpAny _ _ (Builtin.SmallTypes.nextOrEnd (.ref i2)) _ _ ⟨g1, g, d, tk1, os⟩
  refine nextOrEnd_item D2 (i := i) hlt2 (D2.over (D2.over (D2.over st2 hs0 S.zf2) hp1 S.sep1_2) hs1 S.Tf2) fun x2 p2 tk2 hx2 sn2 hp2 => ?_
  replace hp2 : Heap.SameBut i2 g1 p2 := hp2
  have hU2 : IsTupOf2 p2 TO x1 a2 := hp2.extBut _ _ S.Ti2 hT1
  refine wpAny_bind (wpAny_seqItems (s := ⟨p2, g, d, tk2, os⟩) hU2 rfl ?_)
  refine wpAny_bind (updateSeq_IsTupOf2 (s := ⟨p2, g, d, tk2, os⟩) hU2 fun g2 hT2 hs2 => ?_)
  replace hT2 : IsTupOf2 g2 TO x1 x2 := hT2
  replace hs2 : Heap.SameBut TO p2 g2 := hs2
  refine wpAny_bind (wpAny_letGo (wpAny_pure (wpAny_pure ?_)))
  refine wpAny_bind (wpAny_seqItems (s := ⟨g2, g, d, tk2, os⟩) hT2 rfl ?_)
  refine wpAny_bind (wpAny_newTuple ?_)
  have hsz : g2.objs.size = hp.objs.size := by rw [hs2.1, hp2.1, hs1.1, hp1.1, hs0.1]
  have hzz : IsZipS g2 z TI TO .ellipsis := (hs2.extBut _ _ S.TOz.symm (hp2.extBut _ _ S.zi2 (hs1.extBut _ _ S.TOz.symm (hp1.extBut _ _ S.zi1 hz0))))
  have hkk : ∀ c o, c ≠ z → c ≠ TO → c ≠ i1 → c ≠ i2 → hp.get? c = some o → g2.get? c = some o := fun c o cz cT c1 c2 e =>
    (hs2.extBut _ _ cT (hp2.extBut _ _ c2 (hs1.extBut _ _ cT (hp1.extBut _ _ c1 (hs0.extBut _ _ cz e)))))
  have hj1 : St1 (i + 1) g2 := (D1.over (D1.over (D1.over sn1 hs1 S.Tf1) hp2 S.sep2_1) hs2 S.Tf1)
  have hj2 : St2 (i + 1) g2 := (D2.over sn2 hs2 S.Tf2)
  have hzlt : z < g2.objs.size := Heap.lt_size hzz
  show wpAny _ _ (Builtin.SmallTypes.ownedTupleHandOut (.ref z) (.ref g2.objs.size) >>= _) _ _ ⟨g2.push { cls := .type "tuple", data := .seq #[x1, x2] }, g, d, tk2, os⟩
  refine wpAny_bind ?_
  unfold Builtin.SmallTypes.ownedTupleHandOut
  have hz₆ : IsZipS (g2.push { cls := .type "tuple", data := .seq #[x1, x2] }) z TI TO .ellipsis := Heap.get?_push_of_some _ hzz
  refine wpAny_bind (wpAny_setField_rec hz₆ (by simp) fun h₇ hz₇ hs₇ => ?_)
  replace hz₇ : IsZipS h₇ z TI TO (rawInt g2.objs.size) := hz₇
  refine wpAny_setField_rec hz₇ (by simp) fun h₈ hz₈ hs₈ => ?_
  replace hz₈ : IsZipS h₈ z TI TO (rawInt g2.objs.size) := hz₈
  replace hs₇ : Heap.SameBut z (g2.push { cls := .type "tuple", data := .seq #[x1, x2] }) h₇ := hs₇
  replace hs₈ : Heap.SameBut z h₇ h₈ := hs₈
  have up : ∀ c o, c ≠ z → g2.get? c = some o → h₈.get? c = some o := fun c o c1 e => hs₈.extBut _ _ c1 (hs₇.extBut _ _ c1 (Heap.get?_push_of_some _ e))
  have hT₈ : IsTupOf2 h₈ g2.objs.size x1 x2 := hs₈.extBut _ _ (Nat.ne_of_gt hzlt) (hs₇.extBut _ _ (Nat.ne_of_gt hzlt) (Heap.get?_push_size _ rfl))
  have hz8 : h₈.objs.size = g2.objs.size + 1 := by rw [hs₈.1, hs₇.1, Heap.size_push]
  rw [hsz] at hz₈ hT₈ hz8
  refine wpAny_pure ⟨_, rfl, ?_⟩
  show Q (.ref g2.objs.size) ⟨h₈, g, d, tk2, os⟩
  rw [hsz]
  exact hQ x1 x2 h₈ tk2 hx1 hx2 hz₈ (up _ _ S.TOz hT2) (D1.frame _ _ _ hj1 fun b hb o e => up b o (fun q => S.zf1 (q ▸ hb)) e) (D2.frame _ _ _ hj2 fun b hb o e => up b o (fun q => S.zf2 (q ▸ hb)) e) hT₈ hz8 fun c o cz cT c1 c2 e => up c o cz (hkk c o cz cT c1 c2 e)

theorem zipS_next_end {Q : Fin → Shared → Prop} (hh : A.handled = none) (S : ZipSep2 z TI TO i1 i2 fp1 fp2) (D1 : Draws prog w A i1 fp1 n1 P1 St1) (D2 : Draws prog w A i2 fp2 n1 P2 St2)
    (hz : IsZipS s.heap z TI TO .none) (hTI : IsTupOf2 s.heap TI (.ref i1) (.ref i2)) (hTO : IsTupOf2 s.heap TO a1 a2) (st1 : St1 n1 s.heap) (st2 : St2 n1 s.heap)
    (hE : ∀ h' tk e, (∀ c o, c ≠ z → c ≠ TO → c ≠ i1 → c ≠ i2 → s.heap.get? c = some o → h'.get? c = some o) → (∃ o, h'.get? e = some o ∧ o.cls = .type "StopIteration") → E (.ref e) { s with heap := h', toks := tk }) :
    wpAny (model prog w) A (Builtin.«zip.__next__» ⟨[.ref z], []⟩) Q E s := by
  obtain ⟨hp, g, d, tk0, os⟩ := s
  show wpAny _ _ (field (.ref z) 2 >>= _) _ _ _
  refine wpAny_bind (wpAny_field hz rfl (x := .bool true) rfl ?_)
  show wpAny _ _ (field (.ref z) 3 >>= _) _ _ _
  refine wpAny_bind (wpAny_field hz rfl (x := .ref TI) rfl ?_)
  refine wpAny_bind (wpAny_seqItems hTI rfl ?_)
  show wpAny _ _ (Builtin.SmallTypes.ownedTupleIsFree (.ref z) >>= _) _ _ _
  refine wpAny_bind ?_
  unfold Builtin.SmallTypes.ownedTupleIsFree
  refine wpAny_bind (wpAny_field hz rfl (x := .none) rfl (wpAny_pure ?_))
  simp only [if_true]
  refine wpAny_bind (wpAny_rule ?_)
  refine wpAny_bind (wpAny_field hz rfl (x := .ref TO) rfl ?_)
  refine wpAny_bind (wpAny_setField_rec hz (by simp) fun g0 hz0 hs0 => ?_)
  replace hz0 : IsZipS g0 z TI TO .ellipsis := hz0
  replace hs0 : Heap.SameBut z hp g0 := hs0
  refine wpAny_bind ?_
  simp only [List.zipIdx_cons, List.zipIdx_nil, List.forIn_cons, List.forIn_nil]
  refine wpAny_bind (wpAny_bind (wpAny_onRaise ?_))
  show wpAny _ _ (Builtin.SmallTypes.nextOrEnd (.ref i1)) _ _ ⟨g0, g, d, tk0, os⟩
  refine nextOrEnd_end D1 (D1.over st1 hs0 S.zf1) fun p1 hp1 => ?_
  replace hp1 : Heap.ExtBut i1 g0 p1 := hp1
  have hz1 : IsZipS p1 z TI TO .ellipsis := hp1 _ _ S.zi1 hz0
  refine wpAny_bind (wpAny_setField_rec (s := ⟨p1, g, d, tk0, os⟩) hz1 (by simp) fun p2 hz2 hp2 => ?_)
  replace hz2 : IsZipS p2 z TI TO .none := hz2
  replace hp2 : Heap.SameBut z p1 p2 := hp2
  have hkk : ∀ c o, c ≠ z → c ≠ TO → c ≠ i1 → c ≠ i2 → hp.get? c = some o → p2.get? c = some o := fun c o cz cT c1 c2 e =>
    hp2.extBut _ _ cz (hp1 _ _ c1 (hs0.extBut _ _ cz e))
  have st2' : St2 n1 p2 := by
    refine D2.frame _ _ _ (D2.over st2 hs0 S.zf2) fun b hb o e => ?_
    exact hp2.extBut _ _ (fun q => S.zf2 (q ▸ hb)) (hp1 _ _ (fun q => S.sep1_2 (q ▸ hb)) e)
  refine wpAny_bind ?_
  refine wpAny_bind ?_
  simp only [List.drop_succ_cons, List.drop_zero, List.zipIdx_cons, List.zipIdx_nil, List.forIn_cons, List.forIn_nil]
  refine wpAny_bind (wpAny_bind (nextOrEnd_end D2 st2' fun h' hs => ?_))
  simp only [Option.isSome_none, Bool.false_eq_true, if_false]
  refine wpAny_pure (wpAny_pure (wpAny_bind (wpAny_rule ?_)))
  show wpAny _ _ (newExc (.type "StopIteration") [] >>= _) _ _ _
  refine wpAny_bind ?_
  simp only [newExc, newTuple]
  refine wpAny_bind (wpAny_newObj_type ?_ (by size_fits))
  refine wpAny_bind (m := firstArgMember _ _) (wpAny_of_eq (a := Value.none) (by first | rfl | (simp only [firstArgMember]; rfl)) ?_)
  refine wpAny_newObj_type ?_ (by size_fits)
  simp only [raiseNew]
  refine wpAny_bind (wpAny_handled ?_)
  first | rw [show A.in1.handled = none from hh] | rw [hh]
  refine wpAny_bind (wpAny_pure (wpAny_throw ?_))
  exact hE _ tk0 _ (fun c o cz cT c1 c2 o' => ((hs.push _).push _) _ _ c2 (hkk c o cz cT c1 c2 o')) ⟨_, Heap.get?_push_size _ rfl, rfl⟩

theorem pyNext_zipS_item {Q : Option Value → Shared → Prop} (S : ZipSep2 z TI TO i1 i2 fp1 fp2) (D1 : Draws prog w A.in1 i1 fp1 n1 P1 St1) (D2 : Draws prog w A.in1 i2 fp2 n2 P2 St2)
    (hz : IsZipS s.heap z TI TO .none) (hTI : IsTupOf2 s.heap TI (.ref i1) (.ref i2)) (hTO : IsTupOf2 s.heap TO a1 a2) (st1 : St1 i s.heap) (st2 : St2 i s.heap) (hlt1 : i < n1) (hlt2 : i < n2)
    (hQ : ∀ x1 x2 h' tk, P1 i x1 → P2 i x2 → IsZipS h' z TI TO (rawInt s.heap.objs.size) → IsTupOf2 h' TO x1 x2 → St1 (i + 1) h' → St2 (i + 1) h' → IsTupOf2 h' s.heap.objs.size x1 x2 → h'.objs.size = s.heap.objs.size + 1 →
      (∀ c o, c ≠ z → c ≠ TO → c ≠ i1 → c ≠ i2 → s.heap.get? c = some o → h'.get? c = some o) → Q (some (.ref s.heap.objs.size)) { s with heap := h', toks := tk }) :
    wpAny (model prog w) A (pyNext (.ref z)) Q E s := by
  have hT : s.TypeIs (.ref z) "zip" := ⟨_, hz, rfl⟩
  unfold pyNext
  exact wpAny_bind (wpAny_attempt (wpAny_callSpecial?_slot (name := Str.ofString "__next__") hT F.slot_zip_next
    (wpAny_call_entry F.slot_zip_next hT F.entry_zip_next
      (zipS_next_item S D1 D2 hz hTI hTO st1 st2 hlt1 hlt2 fun x1 x2 h' tk y1 y2 b1 b2 d1 d2 b5 b6 b7 => wpAny_pure (hQ x1 x2 h' tk y1 y2 b1 b2 d1 d2 b5 b6 b7)) (F.args_zip_next_1 _))))
theorem pyNext_zipS_end {Q : Option Value → Shared → Prop} (hh : A.in1.handled = none) (S : ZipSep2 z TI TO i1 i2 fp1 fp2) (D1 : Draws prog w A.in1 i1 fp1 n1 P1 St1) (D2 : Draws prog w A.in1 i2 fp2 n1 P2 St2)
    (hz : IsZipS s.heap z TI TO .none) (hTI : IsTupOf2 s.heap TI (.ref i1) (.ref i2)) (hTO : IsTupOf2 s.heap TO a1 a2) (st1 : St1 n1 s.heap) (st2 : St2 n1 s.heap)
    (hQ : ∀ h' tk, (∀ c o, c ≠ z → c ≠ TO → c ≠ i1 → c ≠ i2 → s.heap.get? c = some o → h'.get? c = some o) → Q none { s with heap := h', toks := tk }) : wpAny (model prog w) A (pyNext (.ref z)) Q E s := by
  have hT : s.TypeIs (.ref z) "zip" := ⟨_, hz, rfl⟩
  unfold pyNext
  refine wpAny_bind (wpAny_attempt (wpAny_callSpecial?_slot (name := Str.ofString "__next__") hT F.slot_zip_next
    (wpAny_call_entry F.slot_zip_next hT F.entry_zip_next (zipS_next_end hh S D1 D2 hz hTI hTO st1 st2 fun h' tk e hk he => ?_) (F.args_zip_next_1 _))))
  obtain ⟨o, ho, hc⟩ := he
  refine wpAny_bind (wpAny_isInstance (T := "StopIteration") (b := true) ⟨o, ho, hc⟩ isSubtype_stop ?_)
  exact wpAny_pure (hQ _ _ hk)
theorem letGo_zipS {elts : List Expr} {x1} {pos : Pos} {T : Addr} {Q : Unit → Shared → Prop} (hz : IsZipS s.heap z TI TO (rawInt T))
    (hQ : ∀ h', IsZipS h' z TI TO .none → Heap.SameBut z s.heap h' → Q () { s with heap := h' }) :
    wpAny (model prog w) A (letOwnedTupleGo (.Tuple elts x1 pos) (.ref z) (.ref T)) Q E s := by
  unfold letOwnedTupleGo
  refine wpAny_bind (wpAny_load hz ?_)
  show wpAny _ _ (if (["enumerate", "zip", "dict_itemiterator", "dict_reverseitemiterator", "odict_iterator", "itertools.zip_longest", "itertools.pairwise"].contains "zip" &&
      (#[rawInt T, .bool false, .bool true, .ref TI, .ref TO] : Array Value)[0]? == some (rawInt T)) = true then _ else _) Q E s
  rw [if_pos (by simp)]
  refine wpAny_bind (wpAny_rule ?_)
  show wpAny _ _ (setField (.ref z) 0 .none) Q E s
  exact wpAny_setField_rec hz (by simp) fun h' hz' hs' => hQ h' hz' hs'
theorem pyIter_zipS {f0 : Value} {Q : Value → Shared → Prop} (hz : IsZipS s.heap z TI TO f0) (h : Q (.ref z) s) : wpAny (model prog w) A (pyIter (.ref z)) Q E s := by
  have hT : s.TypeIs (.ref z) "zip" := ⟨_, hz, rfl⟩
  refine wpAny_pyIter_slot hT F.slot_zip_iter (wpAny_call_entry F.slot_zip_iter hT F.entry_zip_iter ?_ (F.args_zip_iter_1 _))
  show wpAny _ _ (ret (.ref z)) _ _ s
  exact wpAny_pure ⟨_, rfl, "zip", _, hT, F.slot_zip_next.lookup, h⟩
end

theorem typeCall_zip_strict (a b c : Value) : checkTypeCall "zip" ⟨[a, b], [(Str.ofString "strict", c)]⟩ = pure () := by kernel_rfl
theorem newCall_zip_strict (a b c : Value) : checkBuiltinCall "zip.__new__" ⟨[.type "zip", a, b], [(Str.ofString "strict", c)]⟩ = pure () := by kernel_rfl
theorem args_object_init_strict (obj a b c : Value) : argsOk "object.__init__" ⟨[obj, a, b], [(Str.ofString "strict", c)]⟩ := by unfold argsOk; kernel_rfl
abbrev gsZ2 (h : Heap) (o1 o2 : Obj) : Heap := (gzO2 h o1 o2).push { cls := .type "zip", data := .fields #[.none, .bool false, .bool true, .ref ((h.push o1).push o2).objs.size, .ref (gzT2 h o1 o2).objs.size] }
theorem meets_zip_newS {v1 v2 : Value} {o1 o2 : Obj} {H1 H2 : Heap → Prop} (B1 : Begins v1 o1 H1) (B2 : Begins v2 o2 H2) :
    Meets (Builtin.«zip.__new__» ⟨[.type "zip", v1, v2], [(Str.ofString "strict", .bool true)]⟩) (fun _ R s => (H1 s.heap ∧ H2 s.heap) ∧
      R (.ok (.ret (.ref (gzO2 s.heap o1 o2).objs.size))) { s with heap := gsZ2 s.heap o1 o2 }) :=
  .of_wp fun prog w A R s h => by
    obtain ⟨hp, g, d, tk, os⟩ := s; obtain ⟨⟨h1, h2⟩, h⟩ := h
    have hsub := sub_zip
    have q1 : ∀ {A' : Around} {E : Value → Shared → Prop} {Q : Value → Shared → Prop}, Q (.ref hp.objs.size) ⟨(hp.push o1), g, d, tk, os⟩ → wpAny (model prog w) A' (pyIter v1) Q E ⟨hp, g, d, tk, os⟩ :=
      fun q => B1.iter prog w _ _ ⟨hp, g, d, tk, os⟩ _ (B1.keeps _ _ h1 fun b o' e => e) q
    have q2 : ∀ {A' : Around} {E : Value → Shared → Prop} {Q : Value → Shared → Prop}, Q (.ref (hp.push o1).objs.size) ⟨((hp.push o1).push o2), g, d, tk, os⟩ → wpAny (model prog w) A' (pyIter v2) Q E ⟨(hp.push o1), g, d, tk, os⟩ :=
      fun q => B2.iter prog w _ _ ⟨(hp.push o1), g, d, tk, os⟩ _ (B2.keeps _ _ h2 fun b o' e => (Heap.get?_push_of_some _ e)) q
    have e2 : (Str.ofString "strict" != ("strict" : Str)) = false := by decide +kernel
    wp_walk using q1, q2
    exact ⟨_, rfl, h⟩
section
variable {prog : Program} {w : World} {A : Around} {E : Value → Shared → Prop} {s : Shared}
theorem zipS_begins2 {v1 v2 : Value} {o1 o2 : Obj} {H1 H2 : Heap → Prop} {Q : Value → Shared → Prop} (B1 : Begins v1 o1 H1) (B2 : Begins v2 o2 H2) (h1 : H1 s.heap) (h2 : H2 s.heap)
    (h : ∀ h', IsZipS h' (s.heap.objs.size + 4) (s.heap.objs.size + 2) (s.heap.objs.size + 3) .none → IsTupOf2 h' (s.heap.objs.size + 2) (.ref s.heap.objs.size) (.ref (s.heap.objs.size + 1)) →
      IsTupOf2 h' (s.heap.objs.size + 3) .none .none → h'.get? s.heap.objs.size = some o1 → h'.get? (s.heap.objs.size + 1) = some o2 → h'.objs.size = s.heap.objs.size + 5 →
      (∀ c o, s.heap.get? c = some o → h'.get? c = some o) → Q (.ref (s.heap.objs.size + 4)) { s with heap := h' }) :
    wpAny (model prog w) A (call (.type "zip") [v1, v2] [(Str.ofString "strict", .bool true)]) Q E s := by
  refine callType_newKw F.called_zip (by decide) (typeCall_zip_strict _ _ _) (newCall_zip_strict _ _ _) (fun obj => args_object_init_strict obj _ _ _) F.entry_zip_new
    (meets_zip_newS B1 B2) ⟨⟨h1, h2⟩, ?_⟩
  have z1 : (s.heap.push o1).objs.size = s.heap.objs.size + 1 := by rw [Heap.size_push]
  have z2 : ((s.heap.push o1).push o2).objs.size = s.heap.objs.size + 2 := by rw [Heap.size_push, z1]
  have zT : (gzT2 s.heap o1 o2).objs.size = s.heap.objs.size + 3 := by rw [Heap.size_push, z2]
  have zO : (gzO2 s.heap o1 o2).objs.size = s.heap.objs.size + 4 := by rw [Heap.size_push, zT]
  have zZ : (gsZ2 s.heap o1 o2).objs.size = s.heap.objs.size + 5 := by rw [Heap.size_push, zO]
  have gZ : (gsZ2 s.heap o1 o2).get? (gzO2 s.heap o1 o2).objs.size = some { cls := .type "zip", data := .fields #[.none, .bool false, .bool true, .ref ((s.heap.push o1).push o2).objs.size, .ref (gzT2 s.heap o1 o2).objs.size] } := Heap.get?_push_size _ rfl
  have gO : (gsZ2 s.heap o1 o2).get? (gzT2 s.heap o1 o2).objs.size = some { cls := .type "tuple", data := .seq #[.none, .none] } := Heap.get?_push_of_some _ (Heap.get?_push_size _ rfl)
  have gT : (gsZ2 s.heap o1 o2).get? ((s.heap.push o1).push o2).objs.size = some { cls := .type "tuple", data := .seq #[.ref s.heap.objs.size, .ref (s.heap.push o1).objs.size] } := Heap.get?_push_of_some _ (Heap.get?_push_of_some _ (Heap.get?_push_size _ rfl))
  have g1 : (gsZ2 s.heap o1 o2).get? s.heap.objs.size = some o1 := Heap.get?_push_of_some _ (Heap.get?_push_of_some _ (Heap.get?_push_of_some _ (Heap.get?_push_of_some _ (Heap.get?_push_size _ B1.free))))
  have g2 : (gsZ2 s.heap o1 o2).get? (s.heap.push o1).objs.size = some o2 := Heap.get?_push_of_some _ (Heap.get?_push_of_some _ (Heap.get?_push_of_some _ (Heap.get?_push_size _ B2.free)))
  rw [zO, zT, z2] at gZ
  rw [zT] at gO
  rw [z2, z1] at gT
  rw [z1] at g2
  show _ ∧ _
  rw [zO]
  exact ⟨⟨_, gZ, rfl⟩, h _ gZ gT gO g1 g2 zZ fun c o e => Heap.get?_push_of_some _ (Heap.get?_push_of_some _ (Heap.get?_push_of_some _ (Heap.get?_push_of_some _ (Heap.get?_push_of_some _ e))))⟩
end

/-! ### lists and tuples as one kind of thing -/
inductive IK | l | t
def SqK (K : PySem.W.Frag) (H : Hp) : IK → Addr → List V → Prop
  | .l, a, xs => SqL K H a xs
  | .t, a, xs => SqT K H a xs
def itO : IK → Addr → Obj
  | .l, a => { cls := .type "list_iterator", data := .fields #[.ref a, .int 0 0] }
  | .t, a => { cls := .type "tuple_iterator", data := .fields #[.ref a, .int 0 0] }
def IsK (h : Heap) : IK → Addr → Addr → Nat → Prop
  | .l, it, a, i => h.IsListIter it a i
  | .t, it, a, i => h.IsTupleIter it a i
def HasK (h : Heap) : IK → Addr → List Value → Prop
  | .l, a, its => h.IsList a its.toArray
  | .t, a, its => h.IsTuple a its.toArray
theorem IsK.at {h h' : Heap} {k : IK} {it a : Addr} {i : Nat} (x : IsK h k it a i) (y : ∀ o, h.get? it = some o → h'.get? it = some o) : IsK h' k it a i := by
  cases k
  · exact Heap.IsListIter.at x fun o e => y o e
  · exact Heap.IsTupleIter.at x fun o e => y o e
theorem IsK.obj {h : Heap} {k : IK} {it a : Addr} {i : Nat} (x : IsK h k it a i) : ∃ o, h.get? it = some o ∧ ∀ v, o.data ≠ .cell v := by
  cases k
  · obtain ⟨o, e, c, d⟩ := x
    exact ⟨o, e, fun v z => by rw [d] at z; cases z⟩
  · obtain ⟨o, e, c, d⟩ := x
    exact ⟨o, e, fun v z => by rw [d] at z; cases z⟩
theorem IsK.lt {h : Heap} {k : IK} {it a : Addr} {i : Nat} (x : IsK h k it a i) : it < h.objs.size := by
  obtain ⟨o, e, _⟩ := x.obj
  exact Heap.lt_size e
theorem IsK.new {h : Heap} {k : IK} {it a : Addr} (e : h.get? it = some (itO k a)) : IsK h k it a 0 := by
  cases k
  · exact ⟨_, e, rfl, rfl⟩
  · exact ⟨_, e, rfl, rfl⟩
theorem drawsK {prog : Program} {w : World} {A : Around} (hh : A.handled = none) (k : IK) (it a : Addr) (hne : a ≠ it) (its : List Value) :
    Draws prog w A it [it, a] its.toArray.size (fun i v => its.toArray[i]? = some v) (fun i h => IsK h k it a i ∧ HasK h k a its) := by
  cases k
  · exact Draws.list (prog := prog) (w := w) hh it a hne its.toArray
  · exact Draws.tuple (prog := prog) (w := w) hh it a hne its.toArray
/-- at its end -/
theorem drawsE {prog : Program} {w : World} {A : Around} (hh : A.handled = none) (k : IK) (it a : Addr) (its : List Value) (n : Nat) (hn : its.length ≤ n) :
    Draws prog w A it [it, a] n (fun _ _ => False) (fun i h => i = n ∧ IsK h k it a i ∧ HasK h k a its) where
  live := fun _ _ st => let ⟨o, ho, _⟩ := st.2.1.obj; ⟨o, ho⟩
  frame := fun _ _ _ st hk => ⟨st.1, st.2.1.at fun o e => hk it (by simp) o e, by
    have h2 := st.2.2
    cases k
    · exact h2.at fun o e => hk a (by simp) o e
    · exact h2.at fun o e => hk a (by simp) o e⟩
  item := fun i s Q E hi st hQ => absurd st.1 (Nat.ne_of_lt hi)
  done := fun s Q E st hE => by
    obtain ⟨_, h1, h2⟩ := st
    cases k
    · exact wpAny_nextOf_list_end hh h1 h2 (by simp; exact hn) hE
    · exact wpAny_nextOf_tuple_end hh h1 h2 (by simp; exact hn) hE
theorem beginsK (k : IK) (a : Addr) (its : List Value) : Begins (.ref a) (itO k a) fun h => HasK h k a its := by
  cases k
  · exact begins_list a its.toArray
  · exact begins_tuple a its.toArray
theorem HasK.lt {h : Heap} {k : IK} {a : Addr} {its : List Value} (x : HasK h k a its) : a < h.objs.size := by
  cases k
  · obtain ⟨o, e, _⟩ := x
    exact Heap.lt_size e
  · obtain ⟨o, e, _⟩ := x
    exact Heap.lt_size e
theorem inv_sqK {X : Cx} {pins : List (Addr × Obj)} {σ : L2.St} {H : Hp} {s : Shared} {k : IK} {a : Addr} {xs : List V} (I : Inv X pins σ H s) (h : SqK X.K H k a xs) :
    ∃ its : List Value, Vals xs its ∧ HasK s.heap k a its ∧ xs.length ≤ sizeLine := by
  cases k
  · obtain ⟨its, r, p, z⟩ := I.list h
    exact ⟨its, r, p.isList, z⟩
  · obtain ⟨its, r, p, z⟩ := I.tuple h
    exact ⟨its, r, (show s.heap.IsTuple a its.toArray from p), z⟩
theorem sqK_inj {X : Cx} {pins : List (Addr × Obj)} {σ : L2.St} {H : Hp} {s : Shared} {k : IK} {a : Addr} {xs ys : List V} (I : Inv X pins σ H s) (h : SqK X.K H k a xs) (h' : SqK X.K H k a ys) : xs = ys := by
  cases k
  · exact I.list_inj h h'
  · exact I.tuple_inj h h'
theorem sepK {n a b : Nat} (ha : a < n) (hb : b < n) : ZipSep2 (n + 4) (n + 2) (n + 3) n (n + 1) [n, a] [n + 1, b] := by
  have ne : ∀ x y : Nat, x < y ∨ y < x → (show Addr from x) ≠ y := fun x y h e => by
    have e' : @Eq Nat x y := e
    omega
  have nm : ∀ x y z : Nat, x ≠ y → x ≠ z → (show Addr from x) ∉ [(show Addr from y), z] := fun x y z h1 h2 m => by
    rcases List.mem_cons.mp m with e | m
    · exact h1 e
    · exact h2 (List.mem_singleton.mp m)
  exact ⟨ne _ _ (by omega), ne _ _ (by omega), ne _ _ (by omega), ne _ _ (by omega), List.mem_cons_self .., nm _ _ _ (by omega) (by omega), nm _ _ _ (by omega) (by omega), ne _ _ (by omega), List.mem_cons_self .., nm _ _ _ (by omega) (by omega), nm _ _ _ (by omega) (by omega),
    nm _ _ _ (by omega) (by omega), nm _ _ _ (by omega) (by omega)⟩

/-! ### enumerate -/
def IteK (K : PySem.W.Frag) (k : IK) (a : Addr) : It :=
  ⟨fun i H => ∃ (xs : List V) (x : V), SqK K H k a xs ∧ xs[i]? = some x, fun i H v H' => ∃ T x, v = .ref T ∧ H T = none ∧ H' = upd H T (.tup [.int (i : Nat), x]) ∧ ∀ xs, SqK K H k a xs → xs[i]? = some x, fun i H => ∃ xs : List V, SqK K H k a xs ∧ xs.length ≤ i⟩
theorem turn_enumK {P : Program} {w : World} {K : PySem.W.Frag} {elts : List Expr} {kk : Nat} {tpos : Pos} (k : IK) (a e it : Addr) :
    Turn P w K (.Tuple elts kk tpos) (IteK K k a) [e, it] e (fun i h => (∃ old, IsEnum h e it ((i : Nat) : Int) old) ∧ IsK h k it a i ∧ e ≠ it ∧ a ≠ it ∧ a ≠ e) where
  mem := by simp
  obj := fun i h st b hb => by
    obtain ⟨⟨old, he⟩, hi, _⟩ := st
    have e' : b = e ∨ b = it := by simpa using hb
    rcases e' with z | z
    · rw [z]; exact ⟨_, he, fun v q => nomatch q⟩
    · rw [z]; exact hi.obj
  keep := fun i h h' st k => let ⟨⟨old, he⟩, hi, hne, h2⟩ := st; ⟨⟨old, k e (by simp) _ he⟩, hi.at fun o q => k it (by simp) o q, hne, h2⟩
  item := by
    intro X hP hw hK hc i pins s σ H E I hf st hg
    subst hP hw hK
    obtain ⟨⟨old, he⟩, hit, hne, hai, hae⟩ := st
    obtain ⟨xs, x, hq, hx⟩ := hg
    obtain ⟨its, rv, p, hz⟩ := inv_sqK I hq
    obtain ⟨u, hu, ru⟩ := rv.get hx
    have hel : e < s.heap.objs.size := Heap.lt_size he
    have hil : it < s.heap.objs.size := hit.lt
    have hlt : i < its.toArray.size := by simpa using (List.getElem?_eq_some_iff.mp hu).1
    refine wpAny_pyNext_enum_itemD (drawsK (A := X.A.in1) (show X.A.in1.handled = none from I.ok.hd hc) k it a hai its) he ⟨hit, p⟩ hlt hne (by simp; exact ⟨hne, fun q => hae q.symm⟩) fun u' h' tk hu' ho hst' hT hsz hk => ?_
    have eu : u' = u := by
      have : its[i]? = some u' := by simpa using hu'
      rw [hu] at this
      exact (Option.some.inj this).symm
    subst eu
    have hit' : IsK h' k it a (i + 1) := hst'.1
    refine ⟨_, rfl, wpAny_letOwnedTupleGo_enum (s := { s with heap := h', toks := tk + 1 }) ho fun h'' he' sb => ?_⟩
    have hT2 : h''.get? s.heap.objs.size = some { cls := .type "tuple", data := .seq #[.int i tk, u'] } := (sb.2 _ (Nat.ne_of_gt hel)).trans hT
    have new : ObjOk X.prog X.w (upd H s.heap.objs.size (.tup [.int (i : Nat), x])) h'' s.heap.objs.size (.tup [.int (i : Nat), x]) :=
      ⟨by show 2 ≤ sizeLine; decide, [.int i tk, u'], .cons ⟨_, rfl⟩ (.cons ru .nil), ⟨_, hT2, rfl, _, rfl⟩⟩
    have I1 : Inv X pins σ (upd H s.heap.objs.size (.tup [.int (i : Nat), x])) { s with heap := h'', toks := tk + 1 } :=
      I.turnedNew (ch := [e, it]) (fun b ob hb q => (sb.2 b (fun z => hb (by simp [z]))).trans (hk b ob (fun z => hb (by simp [z])) (fun z => hb (by simp [z])) q)) hf (Nat.le_refl _) new
    refine ⟨.ref s.heap.objs.size, _, I1, rfl, ⟨_, x, rfl, I.hok.fresh (Nat.le_refl _), rfl, fun ys hy => by rw [sqK_inj I hy hq]; exact hx⟩, ⟨⟨u', ?_⟩, hit'.at fun o q => (sb.2 it (Ne.symm hne)).trans q, hne, hai, hae⟩, fun b hb => ?_⟩
    · have e1 : ((i + 1 : Nat) : Int) = (i : Int) + 1 := by omega
      rw [e1]; exact he'
    · have hb' : b < s.heap.objs.size := by
        have e' : b = e ∨ b = it := by simpa using hb
        rcases e' with z | z
        · rw [z]; exact hel
        · rw [z]; exact hil
      rw [upd_ne (Nat.ne_of_lt hb')]
      exact (hf b hb).1
  done := by
    intro X hP hw hK hc i pins s σ H E I hf st hg
    subst hP hw hK
    obtain ⟨⟨old, he⟩, hit, hne, hai, hae⟩ := st
    obtain ⟨xs, hq, hx⟩ := hg
    obtain ⟨its, rv, p, hz⟩ := inv_sqK I hq
    obtain ⟨f0, f1, f2, f3, f4, f5⟩ := hf it (by simp)
    have hl := rv.length
    exact wpAny_pyNext_enum_endD (drawsE (A := X.A.in1) (show X.A.in1.handled = none from I.ok.hd hc) k it a its i (by omega)) he ⟨rfl, hit, p⟩ fun h' eb => ⟨rfl, I.turned (t' := s.toks) (fun b o hb q => eb b o hb q) f0 f1 f3 f4 f5⟩
  self := fun A i s Q E st h => let ⟨⟨_, he⟩, _⟩ := st; wpAny_pyIter_enum he h
end FwZ
/-! ## FwY -/
set_option Elab.async false
set_option linter.all false
set_option maxRecDepth 100000
set_option maxHeartbeats 2000000
namespace Fw
open PySem PySem.Spec PyProof.Rows L2 FwZ

/-! ### zip -/
def IsZipB (st : Bool) (h : Heap) (z TI TO : Addr) (f0 : Value) : Prop := h.get? z = some { cls := .type "zip", data := .fields #[f0, .bool false, .bool st, .ref TI, .ref TO] }
def ItzK (K : PySem.W.Frag) (st : Bool) (k1 k2 : IK) (a b : Addr) : It :=
  ⟨fun i H => ∃ (xs ys : List V) (x y : V), SqK K H k1 a xs ∧ SqK K H k2 b ys ∧ xs[i]? = some x ∧ ys[i]? = some y,
    fun i H v H' => ∃ T x y, v = .ref T ∧ H T = none ∧ H' = upd H T (.tup [x, y]) ∧ (∀ xs, SqK K H k1 a xs → xs[i]? = some x) ∧ ∀ ys, SqK K H k2 b ys → ys[i]? = some y,
    fun i H => ∃ xs ys : List V, SqK K H k1 a xs ∧ SqK K H k2 b ys ∧ (xs.length ≤ i ∨ ys.length ≤ i) ∧ (st = true → xs.length ≤ i ∧ ys.length ≤ i)⟩
theorem turn_zipK {P : Program} {w : World} {K : PySem.W.Frag} {elts : List Expr} {kk : Nat} {tpos : Pos} (st : Bool) (k1 k2 : IK) {a b z TI TO i1 i2 : Addr} (S : ZipSep2 z TI TO i1 i2 [i1, a] [i2, b]) (hai : a ≠ i1) (hbi : b ≠ i2) :
    Turn P w K (.Tuple elts kk tpos) (ItzK K st k1 k2 a b) [z, TI, TO, i1, i2] z (fun i h => IsZipB st h z TI TO .none ∧ IsTupOf2 h TI (.ref i1) (.ref i2) ∧ (∃ x y, IsTupOf2 h TO x y) ∧ IsK h k1 i1 a i ∧ IsK h k2 i2 b i) where
  mem := by simp
  obj := fun i h tn c hc => by
    obtain ⟨hz, hTI, ⟨x, y, hTO⟩, h1, h2⟩ := tn
    have e' : c = z ∨ c = TI ∨ c = TO ∨ c = i1 ∨ c = i2 := by simpa using hc
    rcases e' with q | q | q | q | q
    · rw [q]; exact ⟨_, hz, fun v q => nomatch q⟩
    · rw [q]; exact ⟨_, hTI, fun v q => nomatch q⟩
    · rw [q]; exact ⟨_, hTO, fun v q => nomatch q⟩
    · rw [q]; exact h1.obj
    · rw [q]; exact h2.obj
  keep := fun i h h' tn k => by
    obtain ⟨hz, hTI, ⟨x, y, hTO⟩, h1, h2⟩ := tn
    exact ⟨k z (by simp) _ hz, k TI (by simp) _ hTI, ⟨x, y, k TO (by simp) _ hTO⟩, h1.at fun o q => k i1 (by simp) o q, h2.at fun o q => k i2 (by simp) o q⟩
  item := by
    intro X hP hw hK hc i pins s σ H E I hf tn hg
    subst hP hw hK
    obtain ⟨hz, hTI, ⟨x0, y0, hTO⟩, h1, h2⟩ := tn
    obtain ⟨xs, ys, x, y, hqx, hqy, hx, hy⟩ := hg
    obtain ⟨its, rv, p, _⟩ := inv_sqK I hqx
    obtain ⟨its2, rv2, p2, _⟩ := inv_sqK I hqy
    obtain ⟨u, hu, ru⟩ := rv.get hx
    obtain ⟨u2, hu2, ru2⟩ := rv2.get hy
    have hzl : z < s.heap.objs.size := Heap.lt_size hz
    have hlt : i < its.toArray.size := by simpa using (List.getElem?_eq_some_iff.mp hu).1
    have hlt2 : i < its2.toArray.size := by simpa using (List.getElem?_eq_some_iff.mp hu2).1
    have D1 := drawsK (prog := X.prog) (w := X.w) (A := X.A.in1) (show X.A.in1.handled = none from I.ok.hd hc) k1 i1 a hai its
    have D2 := drawsK (prog := X.prog) (w := X.w) (A := X.A.in1) (show X.A.in1.handled = none from I.ok.hd hc) k2 i2 b hbi its2
    have main : ∀ (h' : Heap) (tk : Nat) (x1 x2 : Value), its.toArray[i]? = some x1 → its2.toArray[i]? = some x2 → IsK h' k1 i1 a (i + 1) → IsK h' k2 i2 b (i + 1) → IsTupOf2 h' TO x1 x2 → IsTupOf2 h' s.heap.objs.size x1 x2 →
        (∀ c o, c ≠ z → c ≠ TO → c ≠ i1 → c ≠ i2 → s.heap.get? c = some o → h'.get? c = some o) → ∀ h'', IsZipB st h'' z TI TO .none → Heap.SameBut z h' h'' →
        ∃ x H', Inv X pins σ H' { s with heap := h'', toks := tk } ∧ RelV x (.ref s.heap.objs.size) ∧ (ItzK X.K st k1 k2 a b).yld i H x H' ∧ (IsZipB st h'' z TI TO .none ∧ IsTupOf2 h'' TI (.ref i1) (.ref i2) ∧ (∃ x y, IsTupOf2 h'' TO x y) ∧ IsK h'' k1 i1 a (i + 1) ∧ IsK h'' k2 i2 b (i + 1)) ∧ ∀ b ∈ [z, TI, TO, i1, i2], H' b = none := by
      intro h' tk x1 x2 hx1 hx2 h1' h2' TO' hT hk h'' z'' sb
      have e1 : x1 = u := by
        have : its[i]? = some x1 := by simpa using hx1
        rw [hu] at this
        exact (Option.some.inj this).symm
      have e2 : x2 = u2 := by
        have : its2[i]? = some x2 := by simpa using hx2
        rw [hu2] at this
        exact (Option.some.inj this).symm
      subst e1 e2
      have hT2 : h''.get? s.heap.objs.size = some { cls := .type "tuple", data := .seq #[x1, x2] } := (sb.2 _ (Nat.ne_of_gt hzl)).trans hT
      have new : ObjOk X.prog X.w (upd H s.heap.objs.size (.tup [x, y])) h'' s.heap.objs.size (.tup [x, y]) :=
        ⟨by show 2 ≤ sizeLine; decide, [x1, x2], .cons ru (.cons ru2 .nil), ⟨_, hT2, rfl, _, rfl⟩⟩
      have I1 : Inv X pins σ (upd H s.heap.objs.size (.tup [x, y])) { s with heap := h'', toks := tk } :=
        I.turnedNew (t' := tk) (ch := [z, TI, TO, i1, i2]) (fun c o hb q => (sb.2 c (fun q' => hb (by simp [q']))).trans (hk c o (fun q' => hb (by simp [q'])) (fun q' => hb (by simp [q'])) (fun q' => hb (by simp [q'])) (fun q' => hb (by simp [q'])) q)) hf (Nat.le_refl _) new
      refine ⟨.ref s.heap.objs.size, _, I1, rfl, ⟨_, x, y, rfl, I.hok.fresh (Nat.le_refl _), rfl, fun l hl => by rw [sqK_inj I hl hqx]; exact hx, fun l hl => by rw [sqK_inj I hl hqy]; exact hy⟩, ⟨z'', ?_, ⟨x1, x2, ?_⟩, ?_, ?_⟩, fun c hcm => ?_⟩
      · exact (sb.2 _ S.TIz).trans (hk _ _ S.TIz S.TITO S.TIi1 S.TIi2 hTI)
      · exact (sb.2 _ S.TOz).trans TO'
      · exact h1'.at fun o q => (sb.2 _ S.zi1.symm).trans q
      · exact h2'.at fun o q => (sb.2 _ S.zi2.symm).trans q
      · have hlt : c < s.heap.objs.size := by
          have e' : c = z ∨ c = TI ∨ c = TO ∨ c = i1 ∨ c = i2 := by simpa using hcm
          rcases e' with q | q | q | q | q
          · rw [q]; exact hzl
          · rw [q]; exact Heap.lt_size hTI
          · rw [q]; exact Heap.lt_size hTO
          · rw [q]; exact h1.lt
          · rw [q]; exact h2.lt
        rw [upd_ne (Nat.ne_of_lt hlt)]
        exact (hf c hcm).1
    cases st with
    | false =>
      refine wpAny_pyNext_zipD2_item S D1 D2 hz hTI hTO ⟨h1, p⟩ ⟨h2, p2⟩ hlt hlt2 fun x1 x2 h' tk hx1 hx2 z' TO' b1 b2 hT hsz hk => ?_
      exact ⟨_, rfl, wpAny_letOwnedTupleGo_zip (s := { s with heap := h', toks := tk }) z' fun h'' z'' sb => main h' tk x1 x2 hx1 hx2 b1.1 b2.1 TO' hT hk h'' z'' sb⟩
    | true =>
      refine pyNext_zipS_item S D1 D2 hz hTI hTO ⟨h1, p⟩ ⟨h2, p2⟩ hlt hlt2 fun x1 x2 h' tk hx1 hx2 z' TO' b1 b2 hT hsz hk => ?_
      exact ⟨_, rfl, letGo_zipS (s := { s with heap := h', toks := tk }) z' fun h'' z'' sb => main h' tk x1 x2 hx1 hx2 b1.1 b2.1 TO' hT hk h'' z'' sb⟩
  done := by
    intro X hP hw hK hc i pins s σ H E I hf tn hg
    subst hP hw hK
    obtain ⟨hz, hTI, ⟨x0, y0, hTO⟩, h1, h2⟩ := tn
    obtain ⟨xs, ys, hqx, hqy, hend, hst⟩ := hg
    obtain ⟨its, rv, p, _⟩ := inv_sqK I hqx
    obtain ⟨its2, rv2, p2, _⟩ := inv_sqK I hqy
    have l1 := rv.length
    have l2 := rv2.length
    have hh : X.A.in1.handled = none := I.ok.hd hc
    have fin : ∀ (h' : Heap) (tk : Nat), (∀ c o, c ≠ z → c ≠ TO → c ≠ i1 → c ≠ i2 → s.heap.get? c = some o → h'.get? c = some o) → (none : Option Value) = none ∧ Inv X pins σ H { s with heap := h', toks := tk } := fun h' tk hk =>
      ⟨rfl, I.turnedL (t' := tk) (ch := [z, TI, TO, i1, i2]) (fun c o hb q => hk c o (fun q' => hb (by simp [q'])) (fun q' => hb (by simp [q'])) (fun q' => hb (by simp [q'])) (fun q' => hb (by simp [q'])) q) hf⟩
    cases st with
    | false =>
      by_cases c1 : its.length ≤ i
      · by_cases c2 : its2.length ≤ i
        · exact wpAny_pyNext_zipD2_end S (drawsE hh k1 i1 a its i c1) (drawsE hh k2 i2 b its2 i c2) hz hTI hTO ⟨rfl, h1, p⟩ ⟨rfl, h2, p2⟩ (Nat.le_refl _) (Nat.le_refl _) (.inl rfl) fin
        · exact wpAny_pyNext_zipD2_end S (drawsE hh k1 i1 a its i c1) (drawsK hh k2 i2 b hbi its2) hz hTI hTO ⟨rfl, h1, p⟩ ⟨h2, p2⟩ (Nat.le_refl _) (by simp; omega) (.inl rfl) fin
      · have c2 : its2.length ≤ i := by omega
        exact wpAny_pyNext_zipD2_end S (drawsK hh k1 i1 a hai its) (drawsE hh k2 i2 b its2 i c2) hz hTI hTO ⟨h1, p⟩ ⟨rfl, h2, p2⟩ (by simp; omega) (Nat.le_refl _) (.inr rfl) fin
    | true =>
      obtain ⟨c1, c2⟩ := hst rfl
      exact pyNext_zipS_end hh S (drawsE hh k1 i1 a its i (by omega)) (drawsE hh k2 i2 b its2 i (by omega)) hz hTI hTO ⟨rfl, h1, p⟩ ⟨rfl, h2, p2⟩ fin
  self := fun A i s Q E tn h => by
    cases st with
    | false => exact wpAny_pyIter_zip tn.1 h
    | true => exact pyIter_zipS tn.1 h

/-! ### their calls -/
set_option maxHeartbeats 1000000 in
theorem meets_enum1 {v : Value} {o : Obj} {H : Heap → Prop} (B : Begins v o H) :
    Meets (Builtin.«enumerate.__new__» ⟨[.type "enumerate", v], []⟩) (fun _ R s => H s.heap ∧
      R (.ok (.ret (.ref (s.heap.push o).objs.size))) { s with heap := (s.heap.push o).push { cls := .type "enumerate", data := .fields #[.none, .bool false, .ref s.heap.objs.size, rawInt 0, .none, .none] } }) :=
  .of_wp fun prog w A R s h => by
    obtain ⟨hp, g, d, tk, os⟩ := s; obtain ⟨h1, h⟩ := h
    have hsub := sub_enumerate
    have q1 : ∀ {A' : Around} {E : Value → Shared → Prop} {Q : Value → Shared → Prop}, Q (.ref hp.objs.size) ⟨hp.push o, g, d, tk, os⟩ → wpAny (model prog w) A' (pyIter v) Q E ⟨hp, g, d, tk, os⟩ :=
      fun q => B.iter prog w _ _ ⟨hp, g, d, tk, os⟩ _ h1 q
    wp_walk using q1
    refine wpAny_stack_any fun st => wpAny_pure ?_
    split
    · rename_i c _ _ _ _ _
      cases (c == Value.type "enumerate")
      · wp_walk using q1
        exact ⟨_, rfl, h⟩
      · wp_walk using q1
        exact ⟨_, rfl, h⟩
    · wp_walk using q1
      exact ⟨_, rfl, h⟩
section
variable {prog : Program} {w : World} {A : Around} {E : Value → Shared → Prop} {s : Shared}
theorem enum_begins1 {v : Value} {o : Obj} {H : Heap → Prop} {Q : Value → Shared → Prop} (B : Begins v o H) (h1 : H s.heap)
    (h : ∀ h', IsEnum h' (s.heap.objs.size + 1) s.heap.objs.size 0 .none → h'.get? s.heap.objs.size = some o → h'.objs.size = s.heap.objs.size + 2 →
      (∀ b o, s.heap.get? b = some o → h'.get? b = some o) → Q (.ref (s.heap.objs.size + 1)) { s with heap := h' }) :
    wpAny (model prog w) A (call (.type "enumerate") [v]) Q E s := by
  refine callType_new F.called_enumerate (by decide) (F.typeCall_enumerate_1 _) (F.newCall_enumerate_1 _) (fun obj => F.args_object_init_2 obj _) F.entry_enumerate_new
    (meets_enum1 B) ⟨h1, ?_⟩
  have hz : (s.heap.push o).objs.size = s.heap.objs.size + 1 := Heap.size_push ..
  show _ ∧ _
  rw [hz]
  have he : IsEnum ((s.heap.push o).push { cls := .type "enumerate", data := .fields #[.none, .bool false, .ref s.heap.objs.size, rawInt 0, .none, .none] }) (s.heap.objs.size + 1) s.heap.objs.size 0 .none := by
    have := Heap.get?_push_size (s.heap.push o) (o := { cls := .type "enumerate", data := .fields #[.none, .bool false, .ref s.heap.objs.size, rawInt 0, .none, .none] }) rfl
    rw [hz] at this; exact this
  exact ⟨⟨_, he, rfl⟩, h _ he (Heap.get?_push_of_some _ (Heap.get?_push_size _ B.free)) (by rw [Heap.size_push, hz]) fun b o y => Heap.get?_push_of_some _ (Heap.get?_push_of_some _ y)⟩
end
def iEnumA (K : PySem.W.Frag) (ta : TA) : TI := fun σ H R => ta σ H fun vs H1 => ∃ k a xs, vs = [.ref a] ∧ SqK K H1 k a xs ∧ R (IteK K k a) H1
theorem pi_enumA {X : Cx} {e : Expr} {ta : TA} {p pos tpos : Pos} {elts : List Expr} {kk : Nat} (hg : Gl X "enumerate") (hm : X.mg "enumerate" = none) (ha : PA X [e] ta) (hs : starEach [e] X.env = [(false, eval e X.env)] := by rfl) :
    PI X (.Tuple elts kk tpos) (.Call (.Name "enumerate" p) [e] [] pos) (iEnumA X.K ta) := by
  refine ⟨fun pins s σ H R I h => ?_⟩
  refine Call_ (ld_blt I hg hm boot_enumerate (PyProof.Rows.callWith_type1 (thn (ha.run pos pins s σ H _ I h) fun us s1 ⟨vs, H1, I1, r1, q1⟩ => ?_) hs rfl))
  obtain ⟨k, a, xs, ex, hq, q⟩ := q1
  subst ex
  cases r1 with
  | cons r rr =>
    cases rr
    cases r
    obtain ⟨its, rv, p', hz⟩ := inv_sqK I1 hq
    refine enum_begins1 (beginsK k a its) p' fun h' he hit hsz hk => wpAny_pyIter_enum he ?_
    have I2 : Inv X pins σ H1 { s1 with heap := h' } := I1.kept (t' := s1.toks) hk
    have hlt : a < s1.heap.objs.size := p'.lt
    refine ⟨s1.heap.objs.size + 1, [s1.heap.objs.size + 1, s1.heap.objs.size], _, _, H1, rfl, I2, turn_enumK k a (s1.heap.objs.size + 1) s1.heap.objs.size, ⟨⟨.none, he⟩, .new hit, Nat.succ_ne_self _, Nat.ne_of_lt hlt, Nat.ne_of_lt (Nat.lt_succ_of_lt hlt)⟩, fun b hb => ?_, q⟩
    have e' : b = s1.heap.objs.size + 1 ∨ b = s1.heap.objs.size := by simpa using hb
    have hle : s1.heap.objs.size ≤ b := by
      rcases e' with z | z
      · rw [z]; exact Nat.le_add_right _ _
      · rw [z]; exact Nat.le_refl _
    exact I1.fpOk hle (I1.hok.fresh hle)
def iZipK (K : PySem.W.Frag) (st : Bool) (ta : TA) : TI := fun σ H R => ta σ H fun vs H1 => ∃ k1 k2 a b xs ys, vs = [.ref a, .ref b] ∧ SqK K H1 k1 a xs ∧ SqK K H1 k2 b ys ∧ R (ItzK K st k1 k2 a b) H1
theorem zip_fresh {X : Cx} {pins : List (Addr × Obj)} {σ : L2.St} {H : Hp} {s : Shared} (I : Inv X pins σ H s) : ∀ c, c ∈ [s.heap.objs.size + 4, s.heap.objs.size + 2, s.heap.objs.size + 3, s.heap.objs.size, s.heap.objs.size + 1] → FpOk X pins H c := fun c hcm => by
  have e' : c = s.heap.objs.size + 4 ∨ c = s.heap.objs.size + 2 ∨ c = s.heap.objs.size + 3 ∨ c = s.heap.objs.size ∨ c = s.heap.objs.size + 1 := by simpa using hcm
  have hle : s.heap.objs.size ≤ c := by
    rcases e' with z | z | z | z | z
    · rw [z]; exact Nat.le_add_right _ _
    · rw [z]; exact Nat.le_add_right _ _
    · rw [z]; exact Nat.le_add_right _ _
    · rw [z]; exact Nat.le_refl _
    · rw [z]; exact Nat.le_add_right _ _
  exact I.fpOk hle (I.hok.fresh hle)
theorem pi_zipA {X : Cx} {e e2 : Expr} {ta : TA} {p pos tpos : Pos} {elts : List Expr} {kk : Nat} (hg : Gl X "zip") (hm : X.mg "zip" = none) (ha : PA X [e, e2] ta)
    (hs : starEach [e, e2] X.env = (false, eval e X.env) :: starEach [e2] X.env := by rfl) (hpl : (backTo pos (starEach [e2] X.env)).any (·.1) = false := by rfl) :
    PI X (.Tuple elts kk tpos) (.Call (.Name "zip" p) [e, e2] [] pos) (iZipK X.K false ta) := by
  refine ⟨fun pins s σ H R I h => ?_⟩
  refine Call_ (ld_blt I hg hm PyProof.Rows.boot_zip (PyProof.Rows.callWith_type1 (thn (ha.run pos pins s σ H _ I h) fun us s1 ⟨vs, H1, I1, r1, q1⟩ => ?_) hs hpl))
  obtain ⟨k1, k2, a, b, xs, ys, ex, hqx, hqy, q⟩ := q1
  subst ex
  cases r1 with
  | cons r rr =>
    cases rr with
    | cons r' rr =>
      cases rr
      cases r
      cases r'
      obtain ⟨its, rv, p1, _⟩ := inv_sqK I1 hqx
      obtain ⟨its2, rv2, p2, _⟩ := inv_sqK I1 hqy
      refine zip_begins2 (beginsK k1 a its) (beginsK k2 b its2) p1 p2 fun h' hz hTI hTO h1 h2 hsz hk => wpAny_pyIter_zip hz ?_
      have I2 : Inv X pins σ H1 { s1 with heap := h' } := I1.kept (t' := s1.toks) hk
      exact ⟨s1.heap.objs.size + 4, [s1.heap.objs.size + 4, s1.heap.objs.size + 2, s1.heap.objs.size + 3, s1.heap.objs.size, s1.heap.objs.size + 1], _, _, H1, rfl, I2, turn_zipK false k1 k2 (sepK p1.lt p2.lt) (Nat.ne_of_lt p1.lt) (Nat.ne_of_lt (Nat.lt_succ_of_lt p2.lt)), ⟨hz, hTI, ⟨_, _, hTO⟩, .new h1, .new h2⟩, zip_fresh I1, q⟩
section
variable {M : Model} {A : Around} {E : Value → Shared → Prop} {s : Shared} {env : PySem.Env}
theorem callWith_typeKw {pos : Pos} {T : String} {e : Expr} {rest : List Expr} {kws : List Keyword} {Q : Value → Shared → Prop}
    (h : wpAny M A (spliced (backTo pos (starEach (e :: rest) env))) (fun vs s₁ => wpAny M A (evalAll ((backToKw pos (keywordEach kws env)).map (·.2)))
      (fun kvs s₂ => wpAny M A (call (.type T) vs (((backToKw pos (keywordEach kws env)).filterMap (·.1)).zip kvs)) Q E s₂) E s₁) E s)
    (he : backTo pos (starEach (e :: rest) env) = (false, eval e env) :: backTo pos (starEach rest env) := by rfl)
    (hplain : (backTo pos (starEach (e :: rest) env)).any (·.1) = false := by rfl)
    (hall : (backToKw pos (keywordEach kws env)).all (·.1.isSome) = true := by rfl)
    (hkw : (backToKw pos (keywordEach kws env)).any (·.1.isNone) = false := by rfl) :
    wpAny M A (callWith pos (.type T) [] (backTo pos (starEach (e :: rest) env)) (backToKw pos (keywordEach kws env))) Q E s := by
  unfold callWith
  rw [he] at h hplain ⊢
  refine wpAny_bind (wpAny_holding (wpAny_mono (evalArgs_kwB (Q := fun a s₁ => wpAny M A (call (.type T) ([] ++ a.pos) a.kw) Q E s₁) hall h) (fun a s₁ h₁ => wpAny_bind (wpAny_standAt ?_)) fun _ _ x => x))
  simp only [hplain, hkw, Bool.or_false]
  refine wpAny_bind (wpAny_pure ?_)
  exact wpAny_bind (wpAny_mono h₁ (fun r s₂ hr => wpAny_bind (wpAny_holding (wpAny_point (wpAny_pure hr)))) fun _ _ x => x)
end
theorem pi_zipS {X : Cx} {e e2 : Expr} {ta : TA} {p pos tpos cpos kp : Pos} {j} {elts : List Expr} {kk : Nat} (hg : Gl X "zip") (hm : X.mg "zip" = none) (ha : PA X [e, e2] ta)
    (he : backTo pos (starEach [e, e2] X.env) = (false, eval e X.env) :: backTo pos (starEach [e2] X.env) := by rfl) (hpl : (backTo pos (starEach [e, e2] X.env)).any (·.1) = false := by rfl) :
    PI X (.Tuple elts kk tpos) (.Call (.Name "zip" p) [e, e2] [⟨some "strict", .Constant (.bool true) j cpos, kp⟩] pos) (iZipK X.K true ta) := by
  refine ⟨fun pins s σ H R I h => ?_⟩
  refine wpAny_Call_Name_kw (ld_blt I hg hm PyProof.Rows.boot_zip ?_)
  refine callWith_typeKw (thn (ha.run pos pins s σ H _ I h) fun us s1 ⟨vs, H1, I1, r1, q1⟩ => kws_cons (Constant_bool (kws_nil ?_))) he hpl
  obtain ⟨k1, k2, a, b, xs, ys, ex, hqx, hqy, q⟩ := q1
  subst ex
  cases r1 with
  | cons r rr =>
    cases rr with
    | cons r' rr =>
      cases rr
      cases r
      cases r'
      obtain ⟨its, rv, p1, _⟩ := inv_sqK I1 hqx
      obtain ⟨its2, rv2, p2, _⟩ := inv_sqK I1 hqy
      refine zipS_begins2 (beginsK k1 a its) (beginsK k2 b its2) p1 p2 fun h' hz hTI hTO h1 h2 hsz hk => pyIter_zipS hz ?_
      have I2 : Inv X pins σ H1 { s1 with heap := h' } := I1.kept (t' := s1.toks) hk
      exact ⟨s1.heap.objs.size + 4, [s1.heap.objs.size + 4, s1.heap.objs.size + 2, s1.heap.objs.size + 3, s1.heap.objs.size, s1.heap.objs.size + 1], _, _, H1, rfl, I2, turn_zipK true k1 k2 (sepK p1.lt p2.lt) (Nat.ne_of_lt p1.lt) (Nat.ne_of_lt (Nat.lt_succ_of_lt p2.lt)), ⟨hz, hTI, ⟨_, _, hTO⟩, .new h1, .new h2⟩, zip_fresh I1, q⟩

/-! ### their meaning -/
theorem Dv.itemsK {F : Hp} {K : PySem.W.Frag} {v : V} {d : D} {ds : List D} (h : Dv K F v d) (e : items? d = some ds) : ∃ k a xs, v = .ref a ∧ SqK K F k a xs ∧ Dvs K F xs ds ∧ xs.length ≤ sizeLine := by
  cases h <;> simp only [items?, Option.some.injEq, reduceCtorEq] at e
  · rename_i a xs ds' g1 z1 r1
    subst e
    exact ⟨.l, a, xs, rfl, .of g1, r1, z1⟩
  · rename_i a xs ds' g1 z1 r1
    subst e
    exact ⟨.t, a, xs, rfl, g1, r1, z1⟩
theorem Sub.sqK {K : PySem.W.Frag} {H H' : Hp} {k : IK} {a : Addr} {xs : List V} (e : Sub H H') (h : SqK K H k a xs) : SqK K H' k a xs := by
  cases k
  · rcases h with (h | ⟨o, h⟩) | h
    · exact .inl (.inl (e _ _ h))
    · exact .inl (.inr ⟨o, e _ _ h⟩)
    · exact .inr h
  · exact e.seqT h
theorem enumL_len : ∀ (ds : List D) (j : Nat), (enumL j ds).length = ds.length
  | [], _ => rfl
  | d :: r, j => by simp only [enumL, List.length_cons, enumL_len r]
theorem enumL_get : ∀ (ds : List D) (j i : Nat) {d : D}, (enumL j ds)[i]? = some d → ∃ d', ds[i]? = some d' ∧ d = .tup [.int ((j + i : Nat) : Int), d']
  | [], j, i, d, h => by simp [enumL] at h
  | e :: r, j, 0, d, h => by
    simp only [enumL, List.getElem?_cons_zero, Option.some.injEq] at h
    exact ⟨e, rfl, h.symm⟩
  | e :: r, j, i + 1, d, h => by
    simp only [enumL, List.getElem?_cons_succ] at h
    obtain ⟨d', h1, h2⟩ := enumL_get r (j + 1) i h
    refine ⟨d', by simpa using h1, ?_⟩
    rw [h2]
    congr 3
    omega
theorem zipL_len : ∀ (ds es : List D), (zipL ds es).length = min ds.length es.length
  | [], es => by simp [zipL]
  | d :: r, [] => by simp [zipL]
  | d :: r, e :: q => by simp only [zipL, List.length_cons, zipL_len r q]; omega
theorem zipL_get : ∀ (ds es : List D) (i : Nat) {d : D}, (zipL ds es)[i]? = some d → ∃ a b, ds[i]? = some a ∧ es[i]? = some b ∧ d = .tup [a, b]
  | [], es, i, d, h => by simp [zipL] at h
  | a :: r, [], i, d, h => by simp [zipL] at h
  | a :: r, b :: q, 0, d, h => by
    simp only [zipL, List.getElem?_cons_zero, Option.some.injEq] at h
    exact ⟨a, b, rfl, rfl, h.symm⟩
  | a :: r, b :: q, i + 1, d, h => by
    simp only [zipL, List.getElem?_cons_succ] at h
    obtain ⟨x, y, h1, h2, h3⟩ := zipL_get r q i h
    exact ⟨x, y, by simpa using h1, by simpa using h2, h3⟩
theorem dv_pair {K : PySem.W.Frag} {F : Hp} {T : Addr} {x y : V} {d e : D} (hT : F T = none) (h1 : Dv K F x d) (h2 : Dv K F y e) : Dv K (upd F T (.tup [x, y])) (.ref T) (.tup [d, e]) :=
  .tup (.inl (.inl upd_same)) (by show 2 ≤ sizeLine; decide) (.cons (h1.mono (.upd hT)) (.cons (h2.mono (.upd hT)) .nil))
section
variable {K : PySem.W.Frag} {W : Wd} {F F' : Hp}
theorem isIt_enum {k : IK} {a : Addr} {vs : List V} {ds : List D} (h : SqK K F k a vs) (r : Dvs K F vs ds) : IsIt K F (IteK K k a) (enumL 0 ds) := fun i H sub => by
  have hs : SqK K H k a vs := sub.sqK h
  refine ⟨fun hl => ⟨vs, hs, by rw [enumL_len] at hl; rw [r.length]; exact hl⟩, fun d hd => ?_⟩
  obtain ⟨d', h1, h2⟩ := enumL_get ds 0 i hd
  obtain ⟨v, h3, h4⟩ := r.get i h1
  refine ⟨⟨vs, v, hs, h3⟩, fun x H' hy => ?_⟩
  obtain ⟨T, y, e1, e2, e3, e4⟩ := hy
  have := e4 vs hs
  rw [h3] at this
  cases this
  subst e1 h2
  refine .inr ⟨T, _, e2, e3, ?_⟩
  have e5 : ((0 + i : Nat) : Int) = ((i : Nat) : Int) := by omega
  rw [e5]
  exact dv_pair (sub.none e2) (.int _) h4
theorem isIt_zip {st : Bool} {k1 k2 : IK} {a b : Addr} {vs ws : List V} {ds es : List D} (h : SqK K F k1 a vs) (r : Dvs K F vs ds) (h' : SqK K F k2 b ws) (r' : Dvs K F ws es) (hst : st = true → ds.length = es.length) :
    IsIt K F (ItzK K st k1 k2 a b) (zipL ds es) := fun i H sub => by
  have hs : SqK K H k1 a vs := sub.sqK h
  have hs' : SqK K H k2 b ws := sub.sqK h'
  refine ⟨fun hl => ⟨vs, ws, hs, hs', ?_, fun q => ?_⟩, fun d hd => ?_⟩
  · rw [zipL_len] at hl; rw [r.length, r'.length]; omega
  · have := hst q
    rw [zipL_len] at hl; rw [r.length, r'.length]; omega
  · obtain ⟨d1, d2, h1, h2, h3⟩ := zipL_get ds es i hd
    obtain ⟨v, v1, v2⟩ := r.get i h1
    obtain ⟨w, w1, w2⟩ := r'.get i h2
    refine ⟨⟨vs, ws, v, w, hs, hs', v1, w1⟩, fun x H' hy => ?_⟩
    obtain ⟨T, x', y', e1, e2, e3, e4, e5⟩ := hy
    have q1 := e4 vs hs
    rw [v1] at q1
    cases q1
    have q2 := e5 ws hs'
    rw [w1] at q2
    cases q2
    subst e1 h3
    exact .inr ⟨T, _, e2, e3, dv_pair (sub.none e2) v2 w2⟩
theorem si_enum {ta : TE} {fa : E W.S} (ha : SemE K W ta fa) : SemI K W (iEnumA K (tCons ta tNil)) (iEnum fa) := fun B F0 σ H F ρ s R ds ρ' s' e Q q => by
  unfold iEnum at e
  split at e
  · rename_i x ρ1 s1 h1
    split at e
    · rename_i ds1 h2
      cases e
      refine ha B F0 σ H F ρ s R _ _ _ h1 _ fun v H1 F1 R1 sub1 d1 => ?_
      obtain ⟨k, a, xs, rfl, g, r, z⟩ := d1.itemsK h2
      exact ⟨k, a, xs, rfl, R1.fh.sqK g, q _ H1 F1 R1 sub1 (by rw [enumL_len, ← r.length]; exact z) (isIt_enum g r)⟩
    · cases e
  · cases e
theorem si_zip {ta tb : TE} {fa fb : E W.S} (ha : SemE K W ta fa) (hb : SemE K W tb fb) : SemI K W (iZipK K false (tCons ta (tCons tb tNil))) (iZip fa fb) := fun B F0 σ H F ρ s R ds ρ' s' e Q q => by
  unfold iZip at e
  split at e
  · rename_i x ρ1 s1 h1
    split at e
    · rename_i y ρ2 s2 h2
      split at e
      · rename_i ds1 es1 g1 g2
        cases e
        refine ha B F0 σ H F ρ s R _ _ _ h1 _ fun v H1 F1 R1 sub1 d1 => ?_
        refine hb B F0 σ H1 F1 _ _ R1 _ _ _ h2 _ fun w H2 F2 R2 sub2 d2 => ?_
        obtain ⟨k, a, xs, rfl, g, r, z⟩ := (d1.mono sub2).itemsK g1
        obtain ⟨k', a', xs', rfl, g', r', z'⟩ := d2.itemsK g2
        exact ⟨k, k', a, a', xs, xs', rfl, R2.fh.sqK g, R2.fh.sqK g', q _ H2 F2 R2 (sub1.trans sub2) (by rw [zipL_len, ← r.length]; omega) (isIt_zip g r g' r' fun h => nomatch h)⟩
      · cases e
    · cases e
  · cases e
theorem si_zipS {ta tb : TE} {fa fb : E W.S} (ha : SemE K W ta fa) (hb : SemE K W tb fb) : SemI K W (iZipK K true (tCons ta (tCons tb tNil))) (iZipS fa fb) := fun B F0 σ H F ρ s R ds ρ' s' e Q q => by
  unfold iZipS at e
  split at e
  · rename_i x ρ1 s1 h1
    split at e
    · rename_i y ρ2 s2 h2
      split at e
      · rename_i ds1 es1 g1 g2
        split at e
        · rename_i hl
          cases e
          refine ha B F0 σ H F ρ s R _ _ _ h1 _ fun v H1 F1 R1 sub1 d1 => ?_
          refine hb B F0 σ H1 F1 _ _ R1 _ _ _ h2 _ fun w H2 F2 R2 sub2 d2 => ?_
          obtain ⟨k, a, xs, rfl, g, r, z⟩ := (d1.mono sub2).itemsK g1
          obtain ⟨k', a', xs', rfl, g', r', z'⟩ := d2.itemsK g2
          exact ⟨k, k', a, a', xs, xs', rfl, R2.fh.sqK g, R2.fh.sqK g', q _ H2 F2 R2 (sub1.trans sub2) (by rw [zipL_len, ← r.length]; omega) (isIt_zip g r g' r' fun _ => hl)⟩
        · cases e
      · cases e
    · cases e
  · cases e
end
end Fw
/-! ## FwX -/
set_option Elab.async false
set_option linter.all false
set_option maxRecDepth 100000
set_option maxHeartbeats 2000000
/-! max, min of a list or a tuple; reversed copies; * . -/
namespace Fw
open PySem PySem.Spec PyProof.Rows L2 FwZ HT

section
variable {prog : Program} {w : World} {A : Around} {E : Value → Shared → Prop} {s : Shared} {l : Addr} {its : List Value} {ns : List Int} {Q : Value → Shared → Prop}
theorem iter_tupV {its : Array Value} (hl : s.heap.IsTuple l its)
    (h : ∀ s₂ : Shared, s₂ = { s with heap := s.heap.push { cls := .type "tuple_iterator", data := .fields #[.ref l, .int 0 0] } } →
      (s₂.heap.IsTupleIter s.heap.objs.size l 0 ∧ s₂.heap.IsTuple l its) → (∀ b ∈ [s.heap.objs.size, l], b < s₂.heap.objs.size) → l ≠ s.heap.objs.size → Q (.ref s.heap.objs.size) s₂) :
    wpAny (model prog w) A (pyIter (.ref l)) Q E s := by
  have hlt : l < s.heap.objs.size := by obtain ⟨_, e, _⟩ := hl; exact Heap.lt_size e
  refine wpAny_pyIter_tuple hl (h _ rfl ⟨⟨_, Heap.get?_push_size _ rfl, rfl, rfl⟩, hl.push _⟩ (fun b hb => ?_) (Nat.ne_of_lt hlt))
  show b < (s.heap.push _).objs.size
  rw [Heap.size_push]
  rcases List.mem_cons.mp hb with rfl | hb
  · exact Nat.lt_succ_self _
  · rcases List.mem_cons.mp hb with rfl | hb
    · exact Nat.lt_succ_of_lt hlt
    · cases hb
theorem kept_one {h' : Heap} {o1 : Obj} (hk : ∀ b o, b ∉ [s.heap.objs.size] → (s.heap.push o1).get? b = some o → h'.get? b = some o) : ∀ b o, s.heap.get? b = some o → h'.get? b = some o := fun b o e =>
  hk b o (fun hm => absurd (List.mem_singleton.mp hm) (Nat.ne_of_lt (Heap.lt_size e))) (Heap.get?_push_of_some _ e)
theorem max_rawT (hh : A.handled = none) (hl : s.heap.IsTuple l its.toArray) (hi : IntsAre its ns) (hne : 0 < ns.length)
    (h : ∀ h' tk M t', (∀ b o, s.heap.get? b = some o → h'.get? b = some o) → M ∈ ns → (∀ a, a ∈ ns → a ≤ M) → Q (.int M t') { s with heap := h', toks := tk }) : wpAny (model prog w) A (call (.builtin "max") [.ref l]) Q E s := by
  obtain ⟨xs, e⟩ := hi.allInts.items
  have hn : numsOf (intItems xs).toList = ns := by rw [← e]; exact hi.numsOf
  rw [nums_intItems] at hn
  subst hn
  rw [e] at hl
  have hsz : 0 < xs.size := by simpa using hne
  refine call_max_walk (iter_tupV hl fun s₂ e2 st hfp hlI => ?_)
  subst e2
  refine ⟨_, _, _, _, _, _, _, rfl, Walks.tuple (A := A.in1) hh _ l hlI (intItems xs), st, hfp, by simpa [intItems] using hsz, CmpOf.ints_gt (numAt xs) (fun _ _ => intItems_at), fun v h' tk hP hk => ?_⟩
  have hv : (intItems xs)[argBest (fun i j => decide (numAt xs i > numAt xs j)) (xs.size - 1)]? = some v := by simpa [intItems] using hP
  obtain ⟨t, rfl⟩ := intItems_at hv
  obtain ⟨h1, h2⟩ := argBest_gt (numAt xs) (xs.size - 1)
  refine h h' tk _ t (kept_one hk) ?_ fun a ha => ?_
  · rw [numAt_eq]; exact PySem.getD_mem (by rw [List.length_map, Array.length_toList]; omega)
  · obtain ⟨j, hj, rfl⟩ := mem_getD ha
    rw [List.length_map, Array.length_toList] at hj
    rw [← numAt_eq]; exact h2 j (by omega)
theorem min_rawT (hh : A.handled = none) (hl : s.heap.IsTuple l its.toArray) (hi : IntsAre its ns) (hne : 0 < ns.length)
    (h : ∀ h' tk M t', (∀ b o, s.heap.get? b = some o → h'.get? b = some o) → M ∈ ns → (∀ a, a ∈ ns → M ≤ a) → Q (.int M t') { s with heap := h', toks := tk }) : wpAny (model prog w) A (call (.builtin "min") [.ref l]) Q E s := by
  obtain ⟨xs, e⟩ := hi.allInts.items
  have hn : numsOf (intItems xs).toList = ns := by rw [← e]; exact hi.numsOf
  rw [nums_intItems] at hn
  subst hn
  rw [e] at hl
  have hsz : 0 < xs.size := by simpa using hne
  refine call_min_walk (iter_tupV hl fun s₂ e2 st hfp hlI => ?_)
  subst e2
  refine ⟨_, _, _, _, _, _, _, rfl, Walks.tuple (A := A.in1) hh _ l hlI (intItems xs), st, hfp, by simpa [intItems] using hsz, CmpOf.ints_lt (numAt xs) (fun _ _ => intItems_at), fun v h' tk hP hk => ?_⟩
  have hv : (intItems xs)[argBest (fun i j => decide (numAt xs i < numAt xs j)) (xs.size - 1)]? = some v := by simpa [intItems] using hP
  obtain ⟨t, rfl⟩ := intItems_at hv
  obtain ⟨h1, h2⟩ := argBest_lt (numAt xs) (xs.size - 1)
  refine h h' tk _ t (kept_one hk) ?_ fun a ha => ?_
  · rw [numAt_eq]; exact PySem.getD_mem (by rw [List.length_map, Array.length_toList]; omega)
  · obtain ⟨j, hj, rfl⟩ := mem_getD ha
    rw [List.length_map, Array.length_toList] at hj
    rw [← numAt_eq]; exact h2 j (by omega)
end
def rMaxA (K : PySem.W.Frag) : List V → Hp → VK → Prop := fun vs H Q => ∃ (k : IK) (a : Addr) (ns : List Int), vs = [V.ref a] ∧ SqK K H k a (ns.map V.int) ∧ 0 < ns.length ∧ ∀ m, m ∈ ns → (∀ y, y ∈ ns → y ≤ m) → Q (.int m) H
def rMinA (K : PySem.W.Frag) : List V → Hp → VK → Prop := fun vs H Q => ∃ (k : IK) (a : Addr) (ns : List Int), vs = [V.ref a] ∧ SqK K H k a (ns.map V.int) ∧ 0 < ns.length ∧ ∀ m, m ∈ ns → (∀ y, y ∈ ns → m ≤ y) → Q (.int m) H
section
variable {X : Cx}
theorem cr_maxA (hc : X.calm = true) : CallR X (.builtin "max") (rMaxA X.K) := by
  intro pins s σ H vs us Q I r h
  obtain ⟨k, a, ns, rfl, hs, hne, q⟩ := h
  obtain ⟨its, rv, hl, _⟩ := inv_sqK I hs
  rw [Vals.ref1 r]
  cases k
  · exact max_raw (I.ok.hd hc) hl rv.ints hne fun h' tk m t' hk h1 h2 => ⟨.int _, H, I.kept hk, ⟨_, rfl⟩, q m h1 h2⟩
  · exact max_rawT (I.ok.hd hc) hl rv.ints hne fun h' tk m t' hk h1 h2 => ⟨.int _, H, I.kept hk, ⟨_, rfl⟩, q m h1 h2⟩
theorem cr_minA (hc : X.calm = true) : CallR X (.builtin "min") (rMinA X.K) := by
  intro pins s σ H vs us Q I r h
  obtain ⟨k, a, ns, rfl, hs, hne, q⟩ := h
  obtain ⟨its, rv, hl, _⟩ := inv_sqK I hs
  rw [Vals.ref1 r]
  cases k
  · exact min_raw (I.ok.hd hc) hl rv.ints hne fun h' tk m t' hk h1 h2 => ⟨.int _, H, I.kept hk, ⟨_, rfl⟩, q m h1 h2⟩
  · exact min_rawT (I.ok.hd hc) hl rv.ints hne fun h' tk m t' hk h1 h2 => ⟨.int _, H, I.kept hk, ⟨_, rfl⟩, q m h1 h2⟩
end
theorem foldl_max_ge : ∀ (r : List Int) (x : Int), x ≤ r.foldl max x ∧ ∀ y ∈ r, y ≤ r.foldl max x
  | [], x => ⟨Int.le_refl _, fun _ h => nomatch h⟩
  | z :: r, x => by
    obtain ⟨h1, h2⟩ := foldl_max_ge r (max x z)
    simp only [List.foldl_cons]
    refine ⟨by omega, fun y hy => ?_⟩
    rcases List.mem_cons.mp hy with e | hy
    · subst e; omega
    · exact h2 y hy
theorem foldl_max_mem : ∀ (r : List Int) (x : Int), r.foldl max x = x ∨ r.foldl max x ∈ r
  | [], x => .inl rfl
  | z :: r, x => by
    simp only [List.foldl_cons]
    rcases foldl_max_mem r (max x z) with h | h
    · rcases Int.le_total x z with q | q
      · right; rw [h, Int.max_eq_right q]; exact List.mem_cons_self ..
      · left; rw [h, Int.max_eq_left q]
    · exact .inr (List.mem_cons_of_mem _ h)
theorem foldl_min_le : ∀ (r : List Int) (x : Int), r.foldl min x ≤ x ∧ ∀ y ∈ r, r.foldl min x ≤ y
  | [], x => ⟨Int.le_refl _, fun _ h => nomatch h⟩
  | z :: r, x => by
    obtain ⟨h1, h2⟩ := foldl_min_le r (min x z)
    simp only [List.foldl_cons]
    refine ⟨by omega, fun y hy => ?_⟩
    rcases List.mem_cons.mp hy with e | hy
    · subst e; omega
    · exact h2 y hy
theorem foldl_min_mem : ∀ (r : List Int) (x : Int), r.foldl min x = x ∨ r.foldl min x ∈ r
  | [], x => .inl rfl
  | z :: r, x => by
    simp only [List.foldl_cons]
    rcases foldl_min_mem r (min x z) with h | h
    · rcases Int.le_total x z with q | q
      · left; rw [h, Int.min_eq_left q]
      · right; rw [h, Int.min_eq_right q]; exact List.mem_cons_self ..
    · exact .inr (List.mem_cons_of_mem _ h)
theorem maxL_ge {is : List Int} {y : Int} (h : y ∈ is) : y ≤ maxL is := by
  cases is with
  | nil => cases h
  | cons x r =>
    obtain ⟨h1, h2⟩ := foldl_max_ge r x
    rcases List.mem_cons.mp h with e | h
    · subst e; exact h1
    · exact h2 y h
theorem minL_le {is : List Int} {y : Int} (h : y ∈ is) : minL is ≤ y := by
  cases is with
  | nil => cases h
  | cons x r =>
    obtain ⟨h1, h2⟩ := foldl_min_le r x
    rcases List.mem_cons.mp h with e | h
    · subst e; exact h1
    · exact h2 y h
theorem maxL_mem {is : List Int} (h : 0 < is.length) : maxL is ∈ is := by
  cases is with
  | nil => cases h
  | cons x r =>
    rcases foldl_max_mem r x with e | e
    · show r.foldl max x ∈ _
      rw [e]; exact List.mem_cons_self ..
    · exact List.mem_cons_of_mem _ e
theorem minL_mem {is : List Int} (h : 0 < is.length) : minL is ∈ is := by
  cases is with
  | nil => cases h
  | cons x r =>
    rcases foldl_min_mem r x with e | e
    · show r.foldl min x ∈ _
      rw [e]; exact List.mem_cons_self ..
    · exact List.mem_cons_of_mem _ e
theorem ints_len : ∀ {ds : List D} {is : List Int}, ints? ds = some is → is.length = ds.length
  | [], _, h => by simp only [ints?, Option.some.injEq] at h; subst h; rfl
  | d :: r, is, h => by
    unfold ints? at h
    split at h
    · rename_i i is' h1 h2
      cases h
      simp only [List.length_cons, ints_len h2]
    · cases h
section
variable {K : PySem.W.Frag} {W : Wd} {ta tb : TE} {fa fb : E W.S}
theorem f1_max : Flat1 K (rMaxA K) dMaxL := fun F x dx d hx e => by
  have key : ∀ ds, items? dx = some ds → ∀ is, 0 < ds.length → ints? ds = some is → d = .int (maxL is) → ∃ v, (∀ F, Dv K F v d) ∧ ∀ H Q, Sub F H → Q v H → rMaxA K [x] H Q := fun ds h1 is h2 h3 h4 => by
    obtain ⟨k, a, xs, rfl, hq, r, z⟩ := hx.itemsK h1
    have hxs := r.ints _ h3
    subst hxs h4
    refine ⟨_, fun _ => .int _, fun H Q sub q => ⟨k, a, is, rfl, sub.sqK hq, by rw [ints_len h3]; exact h2, fun m hm hge => ?_⟩⟩
    have : m = maxL is := Int.le_antisymm (maxL_ge hm) (hge _ (maxL_mem (by rw [ints_len h3]; exact h2)))
    rw [this]; exact q
  unfold dMaxL at e
  split at e
  · rename_i d0 ds
    obtain ⟨is, e1, e2⟩ := Option.map_eq_some_iff.mp e
    exact key (d0 :: ds) rfl is (by simp) e1 e2.symm
  · rename_i d0 ds
    obtain ⟨is, e1, e2⟩ := Option.map_eq_some_iff.mp e
    exact key (d0 :: ds) rfl is (by simp) e1 e2.symm
  · cases e
theorem f1_min : Flat1 K (rMinA K) dMinL := fun F x dx d hx e => by
  have key : ∀ ds, items? dx = some ds → ∀ is, 0 < ds.length → ints? ds = some is → d = .int (minL is) → ∃ v, (∀ F, Dv K F v d) ∧ ∀ H Q, Sub F H → Q v H → rMinA K [x] H Q := fun ds h1 is h2 h3 h4 => by
    obtain ⟨k, a, xs, rfl, hq, r, z⟩ := hx.itemsK h1
    have hxs := r.ints _ h3
    subst hxs h4
    refine ⟨_, fun _ => .int _, fun H Q sub q => ⟨k, a, is, rfl, sub.sqK hq, by rw [ints_len h3]; exact h2, fun m hm hge => ?_⟩⟩
    have : m = minL is := Int.le_antisymm (hge _ (minL_mem (by rw [ints_len h3]; exact h2))) (minL_le hm)
    rw [this]; exact q
  unfold dMinL at e
  split at e
  · rename_i d0 ds
    obtain ⟨is, e1, e2⟩ := Option.map_eq_some_iff.mp e
    exact key (d0 :: ds) rfl is (by simp) e1 e2.symm
  · rename_i d0 ds
    obtain ⟨is, e1, e2⟩ := Option.map_eq_some_iff.mp e
    exact key (d0 :: ds) rfl is (by simp) e1 e2.symm
  · cases e
end

/-! ### xs[::-1] -/
def tRevA (K : PySem.W.Frag) (te : TE) : TE := fun σ H Q => te σ H fun x H1 => ∃ a xs, x = .ref a ∧ ((SqL K H1 a xs ∧ ∀ p, H1 p = none → Q (.ref p) (upd H1 p (.lst xs.reverse))) ∨ (SqT K H1 a xs ∧ ∀ p, H1 p = none → Q (.ref p) (upd H1 p (.tup xs.reverse))))

section
variable {prog : Program} {w : World} {A : Around} {E : Value → Shared → Prop} {s : Shared}
theorem rev_places (n : Nat) : Builtin.Slice.slicePlaces ((n : Int) - 1) (-1) (-1) = n := by
  unfold Builtin.Slice.slicePlaces
  rw [if_neg (by decide)]
  by_cases h : (n : Int) - 1 > -1
  · rw [if_pos h]
    have e : ((n : Int) - 1 - -1 - 1) / (- -1) = (n : Int) - 1 := by
      rw [show (- -1 : Int) = 1 by decide, Int.ediv_one]
      omega
    rw [e]
    omega
  · rw [if_neg h]
    have e : n = 0 := by omega
    subst e
    rfl
theorem rev_pick (xs : Array Value) : ((List.range xs.size).filterMap fun (k : Nat) => xs[((xs.size : Int) - 1 + (k : Int) * (-1)).toNat]?).toArray = xs.toList.reverse.toArray := by
  congr 1
  have h1 := PySem.W.krv_all xs
  have h2 := PySem.W.krv_range xs.size
  rw [← h1, ← List.filterMap_reverse, ← h2, List.filterMap_map]
  have cong : ∀ (l : List Nat), (∀ k ∈ l, k < xs.size) → l.filterMap (fun (k : Nat) => xs[((xs.size : Int) - 1 + (k : Int) * (-1)).toNat]?) = l.filterMap ((fun x => xs[x]?) ∘ fun k => xs.size - 1 - k) := fun l => by
    induction l with
    | nil => exact fun _ => rfl
    | cons k r ih =>
      intro hk
      have h0 := hk k (List.mem_cons_self ..)
      have e : ((xs.size : Int) - 1 + (k : Int) * (-1)).toNat = xs.size - 1 - k := by omega
      rw [List.filterMap_cons, List.filterMap_cons, e, ih fun j hj => hk j (List.mem_cons_of_mem _ hj)]
      rfl
  exact cong _ fun k hk => List.mem_range.mp hk
theorem getItem_tuple_rev {t sl : Addr} {items : Array Value} {vs : Value} {Q : Value → Shared → Prop} (ht : IsTup s.heap t items) (hs : s.heap.IsSliceOf sl .none .none vs) (ps : IsPart vs (some (-1)))
    (h : Q (.ref s.heap.objs.size) { s with heap := s.heap.push { cls := .type "tuple", data := .seq items.toList.reverse.toArray } }) (hsz : items.size ≤ sizeLine) :
    wpAny (model prog w) A (getItem (.ref t) (.ref sl)) Q E s := by
  obtain ⟨os, hos, hcs, hds⟩ := id hs
  have hTs : s.TypeIs (.ref sl) "slice" := ⟨os, hos, hcs⟩
  unfold getItem
  try with_reducible refine wpAny_holding ?_
  first | refine wpAny_bind (wpAny_pure ?_) | skip
  refine wpAny_bind (wpAny_sequenceKey ht.typeIs (by decide) ?_)
  refine wpAny_bind (wpAny_callSpecial?_slot (name := Str.ofString "__getitem__") ht.typeIs PyProof.Rows.slot_tuple_getitem
    (wpAny_call_entry PyProof.Rows.slot_tuple_getitem ht.typeIs entry_tuple_getitem ?_ (args_tuple_getitem _ _)))
  show wpAny _ _ (Builtin.Tuple.tupleItemsOf (.ref t) >>= _) _ _ s
  refine wpAny_bind (tupleItemsOf_ ht ?_)
  refine wpAny_bind (wpAny_typeOf hTs ?_)
  rw [if_pos (by decide)]
  refine wpAny_bind ?_
  unfold Builtin.Slice.sliceApplied Builtin.Slice.sliceFields
  refine wpAny_bind (wpAny_bind (wpAny_field hos hds (x := .none) rfl (wpAny_bind (wpAny_field hos hds (x := .none) rfl (wpAny_bind (wpAny_field hos hds (x := vs) rfl (wpAny_pure ?_)))))))
  refine wpAny_bind (slicePart_ ps ?_)
  show wpAny _ _ (if ((-1 : Int) == 0) = true then _ else _) _ _ s
  rw [if_neg (by decide)]
  refine wpAny_bind (slicePart_none (wpAny_bind (slicePart_none (wpAny_bind (wpAny_pure ?_)))))
  show wpAny _ _ (pure ((items.size : Int) - 1, (-1 : Int), Builtin.Slice.slicePlaces ((items.size : Int) - 1) (-1) (-1))) _ _ s
  rw [rev_places]
  refine wpAny_pure ?_
  have hno : ¬ ((((items.size : Int) - 1) == 0 && (-1 : Int) == 1 && items.size == items.size) = true) := by simp
  show wpAny _ _ (if (((items.size : Int) - 1) == 0 && (-1 : Int) == 1 && items.size == items.size) = true then _ else _) _ _ s
  rw [if_neg hno]
  show wpAny _ _ (Builtin.Tuple.tupleExact ((List.range items.size).filterMap fun (k : Nat) => items[((items.size : Int) - 1 + (k : Int) * (-1)).toNat]?).toArray >>= _) _ _ s
  rw [rev_pick]
  have hz : sizeOk (.seq items.toList.reverse.toArray) := by
    show items.toList.reverse.toArray.size ≤ sizeLine
    rw [List.size_toArray, List.length_reverse, Array.length_toList]
    exact hsz
  refine wpAny_bind (wpAny_newObj_type (wpAny_pure ⟨_, rfl, wpAny_pure h⟩) hz)
end
theorem pe_revA {X : Cx} {e : Expr} {te : TE} {k : Nat} {p1 p2 p3 pos : Pos} (he : PE X e te) : PE X (.Subscript e (.Slice none none (some (.UnaryOp .USub (.Constant (.int 1) k p1) p2)) p3) pos) (tRevA X.K te) := by
  refine ⟨fun pins s σ H Q I h => ?_⟩
  refine Subscript_ (thn (he.run pins s σ H _ I h) fun v s1 ⟨x, H1, I1, r1, q1⟩ => ?_)
  obtain ⟨a, xs, ex, q⟩ := q1
  subst ex
  cases r1
  have hst : PO X (some (.UnaryOp .USub (.Constant (.int 1) k p1) p2)) (tPart (tUn (rU fun i => .int (-i)) (tC (.int 1)))) := po_some (pe_un un_neg pe_int)
  refine wpAny_Slice (thn (po_none.run pins s1 σ H1 (fun o H2 => o = none ∧ H2 = H1) I1 ⟨rfl, rfl⟩) fun vl s2 ⟨l, H2, I2, pl, el, e2⟩ => ?_)
  subst el e2
  refine thn (po_none.run pins s2 σ H2 (fun o H3 => o = none ∧ H3 = H2) I2 ⟨rfl, rfl⟩) fun vu s3 ⟨u, H3, I3, pu, eu, e3⟩ => ?_
  subst eu e3
  refine thn (hst.run pins s3 σ H3 (fun o H4 => o = some (-1) ∧ H4 = H3) I3 ⟨1, rfl, -1, rfl, rfl, rfl⟩) fun vs s4 ⟨o, H4, I4, ps, eo, e4⟩ => ?_
  subst eo e4
  have I5 : Inv X pins σ H4 { s4 with heap := s4.heap.push { cls := .type "slice", data := .fields #[vl, vu, vs] } } := I4.kept (t' := s4.toks) fun b ob q => Heap.get?_push_of_some _ q
  show wpAny (model X.prog X.w) X.A (subscriptTail e (.Slice none none (some (.UnaryOp .USub (.Constant (.int 1) k p1) p2)) p3) (.ref a) (.ref s4.heap.objs.size)) (EP X pins σ Q) X.xe { s4 with heap := s4.heap.push { cls := .type "slice", data := .fields #[vl, vu, vs] } }
  rcases q with ⟨hx, q⟩ | ⟨hx, q⟩
  · obtain ⟨its, r, ht, hz⟩ := I5.list hx
    have hlen := r.length
    refine tail_any (ops := [.ref a, .ref s4.heap.objs.size]) ht.isList.typeIs (PySem.slot_list_getitem.lookup) ?_ (by with_unfolding_all rfl)
    refine wpAny_getItem_list_slice ht.isList (Heap.IsSliceOf.new _ vl vu vs) pl pu ps (by decide) ?_ (by rw [List.size_toArray]; omega)
    rw [PySem.W.krv_pick]
    refine ⟨.ref _, _, I5.laid (t' := s4.toks) (o := .lst xs.reverse) (fun b ob q => Heap.get?_push_of_some _ q) (Nat.le_refl _) ?_, rfl, q _ (I5.hok.fresh (Nat.le_refl _))⟩
    exact ⟨by rw [List.length_reverse]; exact hz, _, 0, r.reverse, Heap.get?_push_size _ rfl⟩
  · obtain ⟨its, r, ht, hz⟩ := I5.tuple hx
    have hlen := r.length
    cases pl
    cases pu
    refine tail_any (ops := [.ref a, .ref s4.heap.objs.size]) ht.typeIs (PyProof.Rows.slot_tuple_getitem.lookup) ?_ (by with_unfolding_all rfl)
    refine getItem_tuple_rev ht (Heap.IsSliceOf.new _ .none .none vs) ps ?_ (by rw [List.size_toArray]; omega)
    refine ⟨.ref _, _, I5.laid (t' := s4.toks) (o := .tup xs.reverse) (fun b ob q => Heap.get?_push_of_some _ q) (Nat.le_refl _) ?_, rfl, q _ (I5.hok.fresh (Nat.le_refl _))⟩
    exact ⟨by rw [List.length_reverse]; exact hz, _, r.reverse, IsTup.new _ _⟩
section
variable {K : PySem.W.Frag} {W : Wd} {ta tb : TE} {fa fb : E W.S}
theorem se_rev (ha : SemE K W ta fa) : SemE K W (tRevA K ta) (e1 dRev fa) := fun B F0 σ H F ρ s R d ρ' s' e Q q => by
  unfold e1 at e
  split at e
  · rename_i x ρ1 s1 h1
    split at e
    · rename_i z h3
      cases e
      refine ha B F0 σ H F ρ s R x _ _ h1 _ fun v H1 F1 R1 sub1 d1 => ?_
      cases d1 <;> simp only [dRev, Option.some.injEq, reduceCtorEq] at h3
      · rename_i g1 z1 r1
        subst h3
        exact ⟨_, _, rfl, .inl ⟨.of (R1.fh _ _ g1), lay_lst R1 (by rw [List.length_reverse]; exact z1) r1.reverse fun v H' F' R' sub' d' => q v H' F' R' (sub1.trans sub') d'⟩⟩
      · rename_i g1 z1 r1
        subst h3
        exact ⟨_, _, rfl, .inr ⟨R1.fh.seqT g1, lay_tup R1 (by rw [List.length_reverse]; exact z1) r1.reverse fun v H' F' R' sub' d' => q v H' F' R' (sub1.trans sub') d'⟩⟩
    · cases e
  · cases e
end

/-! ### * -/
theorem tuple_mulS (l : Addr) (items : Array Value) (n : Nat) (dd : Option Addr) (sl : Array (Option Value)) (x : Int) (u : Tok) (c0 : (decide (x < -(2 ^ 63)) || decide (x ≥ 2 ^ 63)) = false) (c1 : (items.isEmpty || x == 1) = true) :
    Meets (Builtin.«tuple.__mul__» ⟨[.ref l, .int x u], []⟩) (fun _ R s => s.heap.get? l = some { cls := .type "tuple", dict := dd, data := .seq items n, slots := sl } ∧
      R (.ok (.ret (Value.ref l))) s) :=
  .of_wp fun prog w A R s h => by
    obtain ⟨hp, g, d, tk, os⟩ := s
    obtain ⟨hl, h⟩ := h
    have f1 := AutoSeq1.idx_int
    have hT : (⟨hp, g, d, tk, os⟩ : Shared).TypeIs (.ref l) "tuple" := ⟨_, hl, rfl⟩
    wp_walk using AutoSeq1.wpAny_loadPart' hl
    refine wpAny_ite_false (decide_eq_false (by rw [c0]; exact Bool.false_ne_true)) ?_
    wp_walk using AutoSeq1.wpAny_loadPart' hl
    exact ⟨_, rfl, h⟩
theorem tuple_mul0 (l : Addr) (items : Array Value) (n : Nat) (dd : Option Addr) (sl : Array (Option Value)) (x : Int) (u : Tok) (c0 : (decide (x < -(2 ^ 63)) || decide (x ≥ 2 ^ 63)) = false) (c1 : (items.isEmpty || x == 1) = false) (c2 : (decide (x ≤ 0) || items.isEmpty) = true) :
    Meets (Builtin.«tuple.__mul__» ⟨[.ref l, .int x u], []⟩) (fun _ R s => s.heap.get? l = some { cls := .type "tuple", dict := dd, data := .seq items n, slots := sl } ∧
      R (.ok (.ret (Value.ref s.heap.objs.size))) { s with heap := s.heap.push { cls := Value.type "tuple", data := Data.seq #[] }, toks := s.toks }) :=
  .of_wp fun prog w A R s h => by
    obtain ⟨hp, g, d, tk, os⟩ := s
    obtain ⟨hl, h⟩ := h
    have f1 := AutoSeq1.idx_int
    have hT : (⟨hp, g, d, tk, os⟩ : Shared).TypeIs (.ref l) "tuple" := ⟨_, hl, rfl⟩
    wp_walk using AutoSeq1.wpAny_loadPart' hl
    repeat (first
      | (refine wpAny_ite_false (decide_eq_false (by rw [c0]; exact Bool.false_ne_true)) ?_; wp_walk using AutoSeq1.wpAny_loadPart' hl)
      | (refine wpAny_ite_false (decide_eq_false (by rw [c1]; exact Bool.false_ne_true)) ?_; wp_walk using AutoSeq1.wpAny_loadPart' hl)
      | (refine wpAny_ite_true (decide_eq_true c2) ?_; wp_walk using AutoSeq1.wpAny_loadPart' hl))
    exact ⟨_, rfl, h⟩
/-- tuple * int -/
def rRepTA (K : PySem.W.Frag) : R2 := fun x y H Q => ∃ l k xs, x = .ref l ∧ y = .int k ∧ SqT K H l xs ∧ -1000 ≤ k ∧ k ≤ 1000 ∧ xs.length ≤ 1000 ∧
  ((xs = [] ∨ k = 1) → Q (.ref l) H) ∧ (¬ (xs = [] ∨ k = 1) → ∀ p, H p = none → Q (.ref p) (upd H p (.tup (List.replicate k.toNat xs).flatten)))
theorem op_repTA {X : Cx} : OpR X (binaryOp .Mult) (rRepTA X.K) := by
  intro pins s σ H x y v u Q I rx ry h
  obtain ⟨l, k, xs, rfl, rfl, hT, h0, h1, hz, q1, q2⟩ := h
  by_cases h2 : xs ≠ [] ∧ 2 ≤ k
  · exact op_repT pins s σ H _ _ v u Q I rx ry ⟨l, k, xs, rfl, rfl, hT, h2.1, h2.2, h1, hz, q2 (fun z => z.elim h2.1 fun z => by have := h2.2; omega)⟩
  · cases rx
    obtain ⟨t, rfl⟩ := ry
    obtain ⟨its, r, ⟨⟨cls, dd, data, sl⟩, ho, hc, n, hd⟩, hs⟩ := I.tuple hT
    simp only at hc hd
    subst hc hd
    have hle : its.length = xs.length := r.length.symm
    have c0 : (decide (k < -(2 ^ 63)) || decide (k ≥ 2 ^ 63)) = false := by
      rw [decide_eq_false (by omega), decide_eq_false (by omega)] <;> rfl
    by_cases h3 : xs = [] ∨ k = 1
    · have c1 : (its.toArray.isEmpty || k == 1) = true := by
        rcases h3 with z | z
        · have : its = [] := List.eq_nil_of_length_eq_zero (by rw [hle, z]; rfl)
          rw [this]; rfl
        · rw [z]; simp
      refine wpAny_binaryOp_repeat_ref (T := "tuple") (U := "int") (by decide) ⟨_, ho, rfl⟩ (fun s' => typeIs_int s' k t) noFill_tuple_mul F.fills_int_mul F.slot_int_rmul repeat_tuple F.slot_int_index.lookup
        (call_meets F.slot_int_rmul (typeIs_int s k t) F.entry_int_rmul (F.args_int_rmul_2 _ _) (int_rmul_tuple k t l its.toArray n dd sl)
          ⟨ho, rfl, ⟨_, ho, rfl⟩, call_meets F.slot_tuple_mul ⟨_, ho, rfl⟩ F.entry_tuple_mul (F.args_tuple_mul_2 _ _) (tuple_mulS l its.toArray n dd sl k t c0 c1) ⟨ho, ?_⟩⟩)
      exact ⟨.ref l, H, I, rfl, q1 h3⟩
    · have hk : k ≤ 0 := by
        rcases Int.lt_or_le 1 k with z | z
        · exact absurd ⟨fun e => h3 (.inl e), by omega⟩ h2
        · have : k ≠ 1 := fun e => h3 (.inr e)
          omega
      have hi : its.toArray.isEmpty = false := by
        cases its with
        | nil => exact absurd (.inl (List.eq_nil_of_length_eq_zero (by rw [← hle]; rfl))) h3
        | cons a b => rfl
      have c1 : (its.toArray.isEmpty || k == 1) = false := by
        rw [hi, Bool.false_or]
        exact beq_eq_false_iff_ne.mpr (by omega)
      have c2 : (decide (k ≤ 0) || its.toArray.isEmpty) = true := by
        rw [decide_eq_true hk, Bool.true_or]
      refine wpAny_binaryOp_repeat_ref (T := "tuple") (U := "int") (by decide) ⟨_, ho, rfl⟩ (fun s' => typeIs_int s' k t) noFill_tuple_mul F.fills_int_mul F.slot_int_rmul repeat_tuple F.slot_int_index.lookup
        (call_meets F.slot_int_rmul (typeIs_int s k t) F.entry_int_rmul (F.args_int_rmul_2 _ _) (int_rmul_tuple k t l its.toArray n dd sl)
          ⟨ho, rfl, ⟨_, ho, rfl⟩, call_meets F.slot_tuple_mul ⟨_, ho, rfl⟩ F.entry_tuple_mul (F.args_tuple_mul_2 _ _) (tuple_mul0 l its.toArray n dd sl k t c0 c1 c2) ⟨ho, ?_⟩⟩)
      have e0 : (List.replicate k.toNat xs).flatten = [] := by
        have : k.toNat = 0 := by omega
        rw [this]; rfl
      refine ⟨.ref s.heap.objs.size, _, I.laid (t' := s.toks) (o := .tup (List.replicate k.toNat xs).flatten) (fun b ob q => Heap.get?_push_of_some _ q) (Nat.le_refl _) ?_, rfl, q2 h3 _ (I.hok.fresh (Nat.le_refl _))⟩
      rw [e0]
      exact ⟨Nat.zero_le _, [], .nil, IsTup.new _ _⟩
def rMulA (K : PySem.W.Frag) : R2 := fun x y H Q => (rI CMul (fun i j => .int (i * j)) x y H Q ∨ rRepTA K x y H Q) ∨ rRep x y H Q
theorem op_mulA {X : Cx} : OpR X (binaryOp .Mult) (rMulA X.K) := (op_mul.or op_repTA).or op_rep
section
variable {K : PySem.W.Frag} {W : Wd} {ta tb : TE} {fa fb : E W.S}
theorem r2_mul : SemR2 K W (rMulA K) dMul := fun B F0 σ H F ρ s R x y dx dy d hx hy e Q q => by
  cases hx <;> cases hy <;> simp only [dMul, reduceCtorEq] at e
  · rename_i i j
    split at e
    · rename_i hc
      cases e
      refine .inl (.inl ⟨_, _, rfl, rfl, hc, q _ H F R (Sub.refl F) (.int _)⟩)
    · cases e
  · rename_i h1 z1 r1 k
    split at e
    · rename_i hc
      cases e
      obtain ⟨c1, c2, c3⟩ := hc
      have hz : _ ≤ sizeLine := lim_size (by rw [← r1.length] at c3; exact c3)
      refine .inr ⟨_, k, _, rfl, rfl, R.fh _ _ h1, by omega, by omega, hz, lay_lst R (by rw [PyProof.Rows.lm_len_rep_flat, Nat.mul_comm]; exact hz) (r1.repl _) q⟩
    · cases e
  · rename_i h1 z1 r1 k
    split at e
    · rename_i hc
      cases e
      obtain ⟨c1, c2, c3⟩ := hc
      have c4 := c3
      rw [← r1.length] at c4
      refine .inl (.inr ⟨_, k, _, rfl, rfl, R.fh.seqT h1, c1, c2, c4, fun e0 => ?_, fun _ => lay_tup R (by
        rw [PyProof.Rows.lm_len_rep_flat, sizeLine_eq]
        exact Nat.le_trans (Nat.mul_le_mul (show k.toNat ≤ 1000 by omega) c4) (by decide)) (r1.repl _) q⟩)
      rcases e0 with e0 | e0
      · subst e0
        cases r1
        simp at q
        exact q _ H F R (Sub.refl F) (.tup h1 z1 .nil)
      · subst e0
        have e1 : ∀ ds : List D, (List.replicate (1 : Int).toNat ds).flatten = ds := fun ds => by simp
        rw [e1] at q
        exact q _ H F R (Sub.refl F) (.tup h1 z1 r1)
    · cases e
/-- a new list: xs * k -/
def dRep : D → D → Option D
  | .lst a, .int k => dMul (.lst a) (.int k)
  | _, _ => none
theorem sn_rep (ha : SemE K W ta fa) (hb : SemE K W tb fb) : SemN K W (tOp rRep ta tb) (e2 dRep fa fb) := fun B F0 σ H F ρ s R d ρ' s' e Q q => by
  unfold e2 at e
  split at e
  · rename_i x ρ1 s1 h1
    split at e
    · rename_i y ρ2 s2 h2
      split at e
      · rename_i z h3
        cases e
        refine ha B F0 σ H F ρ s R _ _ _ h1 _ fun v H1 F1 R1 sub1 d1 => ?_
        refine hb B F0 σ H1 F1 _ _ R1 _ _ _ h2 _ fun w H2 F2 R2 sub2 d2 => ?_
        have d1' := d1.mono sub2
        cases d1' <;> cases d2 <;> simp only [dRep, dMul, reduceCtorEq] at h3
        rename_i g1 z1 r1 k
        split at h3
        · rename_i hc
          cases h3
          obtain ⟨c1, c2, c3⟩ := hc
          have hz : _ ≤ sizeLine := lim_size (by rw [← r1.length] at c3; exact c3)
          refine ⟨_, k, _, rfl, rfl, R2.fh _ _ g1, by omega, by omega, hz, lay_new R2 (by rw [PyProof.Rows.lm_len_rep_flat, Nat.mul_comm]; exact hz) (r1.repl _) fun p vs ds H' F' hd R' hB hF sub' => q p vs ds H' F' hd R' hB hF ((sub1.trans sub2).trans sub')⟩
        · cases h3
      · cases e
    · cases e
  · cases e
end
end Fw
namespace Fw
open PySem PySem.Spec PyProof.Rows L2 FwZ HT
/-! the same with the written part named (within comprehensions) -/
section
variable {X : Cx} {K : PySem.W.Frag} {o e : Expr} {es : List Expr} {T id : String} {name : Str} {apos cpos : Pos} {to : TE} {t : TA} {r : V → List V → Hp → VK → Prop}
theorem pe_bmK (hK : X.K = K) (pa : PlainAttrs T) (slot : Slot T name id) (hty : typeOf (.builtin id) = pure (.type "method_descriptor")) (hm : MtR X id r) (ho : PE X o to) (ha : PA X (e :: es) t)
    (hbase : attributeBase o name X.env (eval o X.env) = eval o X.env := by rfl)
    (hfew : ((backTo cpos (starEach (e :: es) X.env)).all (fun x => !x.1) && (backToKw cpos (keywordEach [] X.env)).all (fun x => x.1.isSome)
      && decide ((e :: es).length + ([] : List Keyword).length + (if ([] : List Keyword).isEmpty then 0 else 1) < 30)) = true := by rfl)
    (hline : (apos.endLine == cpos.line) = true := by rfl) (hs : starEach (e :: es) X.env = (false, eval e X.env) :: starEach es X.env := by rfl) (hplain : (backTo cpos (starEach es X.env)).any (·.1) = false := by rfl) :
    PE X (.Call (.Attribute o name apos) (e :: es) [] cpos) (tBM K T r to t) := by
  subst hK
  exact pe_bm pa slot hty hm ho ha hbase hfew hline hs hplain
theorem pe_bm0K' (hK : X.K = K) (pa : PlainAttrs T) (slot : Slot T name id) (hty : typeOf (.builtin id) = pure (.type "method_descriptor")) (hm : MtR X id r) (ho : PE X o to)
    (hbase : attributeBase o name X.env (eval o X.env) = eval o X.env := by rfl) (hline : (apos.endLine == cpos.line) = true := by rfl) : PE X (.Call (.Attribute o name apos) [] [] cpos) (tBM0 K T r to) := by
  subst hK
  exact pe_bm0 pa slot hty hm ho hbase hline
theorem pe_revK (hK : X.K = K) {k : Nat} {p1 p2 p3 pos : Pos} {te : TE} (he : PE X e te) : PE X (.Subscript e (.Slice none none (some (.UnaryOp .USub (.Constant (.int 1) k p1) p2)) p3) pos) (tRevA K te) := by
  subst hK
  exact pe_revA he
theorem pi_anyK (hK : X.K = K) {tg l : Expr} {tl : TE} (hl : PE X l tl) : PI X tg l (iAny K tl) := by
  subst hK
  exact pi_any hl
theorem pi_enumK (hK : X.K = K) {ta : TA} {p pos tpos : Pos} {elts : List Expr} {kk : Nat} (hg : Gl X "enumerate") (hm : X.mg "enumerate" = none) (ha : PA X [e] ta) (hs : starEach [e] X.env = [(false, eval e X.env)] := by rfl) :
    PI X (.Tuple elts kk tpos) (.Call (.Name "enumerate" p) [e] [] pos) (iEnumA K ta) := by
  subst hK
  exact pi_enumA hg hm ha hs
theorem pi_zipK {e2 : Expr} (hK : X.K = K) {ta : TA} {p pos tpos : Pos} {elts : List Expr} {kk : Nat} (hg : Gl X "zip") (hm : X.mg "zip" = none) (ha : PA X [e, e2] ta)
    (hs : starEach [e, e2] X.env = (false, eval e X.env) :: starEach [e2] X.env := by rfl) (hpl : (backTo pos (starEach [e2] X.env)).any (·.1) = false := by rfl) :
    PI X (.Tuple elts kk tpos) (.Call (.Name "zip" p) [e, e2] [] pos) (iZipK K false ta) := by
  subst hK
  exact Fw.pi_zipA hg hm ha hs hpl
theorem pi_zipSK {e2 : Expr} (hK : X.K = K) {ta : TA} {p pos tpos kcp kp : Pos} {j} {elts : List Expr} {kk : Nat} (hg : Gl X "zip") (hm : X.mg "zip" = none) (ha : PA X [e, e2] ta)
    (he : backTo pos (starEach [e, e2] X.env) = (false, eval e X.env) :: backTo pos (starEach [e2] X.env) := by rfl) (hpl : (backTo pos (starEach [e, e2] X.env)).any (·.1) = false := by rfl) :
    PI X (.Tuple elts kk tpos) (.Call (.Name "zip" p) [e, e2] [⟨some "strict", .Constant (.bool true) j kcp, kp⟩] pos) (iZipK K true ta) := by
  subst hK
  exact pi_zipS hg hm ha he hpl
end
end Fw
/-! ## FwR -/
set_option Elab.async false
set_option linter.all false
set_option maxRecDepth 100000
set_option maxHeartbeats 2000000
/-! repr of data. -/
namespace Fw
open PySem PySem.Spec PyProof.Rows L2
section
variable {X : Cx} {pins : List (Addr × Obj)} {σ : L2.St} {H : Hp} {s : Shared}
theorem dct_dv {kvs : List (Key × D)} {v : V} {u : Value} (I : Inv X pins σ H s) (h : Dv X.K H v (.dct kvs)) (r : RelV v u) (hs : (D.dct kvs).showOk = true) :
    ∃ as, Reads s.heap u (D.dct kvs).py as ∧ ∃ o es n a, u = .ref a ∧ s.heap.get? a = some o ∧ o.cls = .type "dict" ∧ o.data = .dict es n ∧ (a == sysModules) = false ∧ es.toList = [] ∧ kvs = [] := by
  cases h with
  | dct h1 r1 hl =>
    rename_i a ks xs ds
    cases r
    have e0 : ks.zip ds = [] := by simpa [D.showOk] using hs
    have e1 : ks.zip xs = [] := by
      have hl2 := r1.length
      have := congrArg List.length e0
      rw [List.length_zip] at this
      apply List.eq_nil_of_length_eq_zero
      rw [List.length_zip, hl2]
      simpa using this
    rw [e1] at h1
    obtain ⟨z, hsys, vs, rel, dd⟩ := dk_of I.hok h1
    cases rel
    obtain ⟨o, es, ep, ho, hx, hd, he, hp, hn⟩ := dd
    have hem : es.toList = [] := by
      generalize es.toList = l at hp
      cases hp
      rfl
    rw [e0]
    have hr : Reads s.heap (.ref a) (D.dct []).py (a :: [] ++ []) := Reads.dict (kvs := []) ho hx.1 hd (by rw [hem]; exact .nil) (by rw [hem]; exact .nil)
    exact ⟨_, hr, o, es, ep, a, rfl, ho, hx.1, hd, hsys, hem, rfl⟩
mutual
theorem repr_dv (I : Inv X pins σ H s) : ∀ (d : D) (v : V) (u : Value), Dv X.K H v d → RelV v u → d.showOk = true → d.py.shown.length ≤ sizeLine →
    ∃ as bs, Reads s.heap u d.py as ∧ ReadAtMost s.heap d.py.depth bs ∧ ReprK X.prog X.w bs s.heap d.py.depth u d.py.shown
  | .non, _, _, h, r, _, _ => by
    cases h
    cases r
    exact ⟨_, [], Reads.none, (fun _ h => nomatch h), by simp only [D.py, PyData.shown]; exact .of_is ReprIs.none _ _ _⟩
  | .bl b, _, _, h, r, _, _ => by
    cases h
    cases r
    exact ⟨_, [], Reads.bool b, (fun _ h => nomatch h), by simp only [D.py, PyData.shown]; exact .of_is (ReprIs.bool b) _ _ _⟩
  | .int i, _, _, h, r, hs, _ => by
    cases h
    obtain ⟨t, rfl⟩ := r
    exact ⟨_, [], Reads.int i t, (fun _ h => nomatch h), by simp only [D.py, PyData.shown]; exact .of_is (ReprIs.int t (by simpa [D.showOk] using hs)) _ _ _⟩
  | .str x, _, _, h, r, _, hz => by
    cases h
    obtain ⟨t, rfl⟩ := r
    exact ⟨_, [], Reads.str x t, (fun _ h => nomatch h), by simp only [D.py, PyData.shown]; exact .of_is (ReprIs.str x t (by simpa only [D.py, PyData.shown] using hz)) _ _ _⟩
  | .lst ds, _, _, h, r, hs, hz => by
    cases h with
    | lst h1 z1 r1 =>
      cases r
      obtain ⟨its, rv, ⟨o, n, ho, hc, _, hd⟩, _⟩ := I.list (.of h1)
      simp only [D.py] at hz ⊢
      have hz' : (listText (PyData.shownAll (D.pys ds))).length ≤ sizeLine := by simpa only [PyData.shown] using hz
      obtain ⟨as, bs, hr, hb, hk⟩ := repr_dvs I ds _ its r1 rv (by simpa [D.showOk] using hs) (fun t ht => Nat.le_trans (listText_mem_le ht) hz')
      have rr : Reads s.heap (.ref _) (.list (D.pys ds)) _ := .list ho hc hd (by simpa using hr)
      have hna : _ ∉ bs := not_mem_of_deeper rr (by simp only [PyData.depth]; omega) hb
      refine ⟨_, _ :: bs, rr, ReadAtMost.cons rr (by simp only [PyData.depth]; omega) hb, ?_⟩
      simp only [PyData.depth, PyData.shown]
      cases its with
      | nil =>
        cases rv
        cases r1
        simp only [D.pys, PyData.shownAll, listText_nil]
        exact ReprK.listEmpty ho hc hd
      | cons x l => exact ReprK.list ho hc hd hna (by simpa using hk.length_eq) (fun i y e => hk.item i y (by simpa using e))
  | .tup ds, _, _, h, r, hs, hz => by
    cases h with
    | tup h1 z1 r1 =>
      cases r
      obtain ⟨its, rv, ⟨o, ho, hc, n, hd⟩, _⟩ := I.tuple h1
      simp only [D.py] at hz ⊢
      have hz' : (tupleText (PyData.shownAll (D.pys ds))).length ≤ sizeLine := by simpa only [PyData.shown] using hz
      obtain ⟨as, bs, hr, hb, hk⟩ := repr_dvs I ds _ its r1 rv (by simpa [D.showOk] using hs) (fun t ht => Nat.le_trans (tupleText_mem_le ht) hz')
      have rr : Reads s.heap (.ref _) (.tuple (D.pys ds)) _ := .tuple ho hc hd (by simpa using hr)
      have hna : _ ∉ bs := not_mem_of_deeper rr (by simp only [PyData.depth]; omega) hb
      refine ⟨_, _ :: bs, rr, ReadAtMost.cons rr (by simp only [PyData.depth]; omega) hb, ?_⟩
      simp only [PyData.depth, PyData.shown]
      exact ReprK.tuple ho hc hd hna hk
  | .dct kvs, v, u, h, r, hs, hz => by
    obtain ⟨as, hr, o, es, n, a, e, ho, hc, hd, hsys, hem, e0⟩ := dct_dv I h r hs
    subst e e0
    have hem' : es.toList = [] := by rw [hem]
    have hk : ReprK X.prog X.w [a] s.heap (0 + 1) (.ref a) (dictText []) := ReprK.dict (as := []) (d := 0) ho hc hd hsys (by simp) (by rw [hem']; exact .nil)
    refine ⟨as, [a], hr, ReadAtMost.cons hr (Nat.le_refl _) (fun _ h => nomatch h), ?_⟩
    simp only [D.py, D.pyKv, PyData.depth, PyData.depthKv, PyData.shown, PyData.shownKv]
    exact hk
  | .obj _, _, _, _, _, hs, _ => by simp [D.showOk] at hs
theorem repr_dvs (I : Inv X pins σ H s) : ∀ (ds : List D) (vs : List V) (us : List Value), Dvs X.K H vs ds → Vals vs us → D.showOks ds = true → (∀ t ∈ PyData.shownAll (D.pys ds), t.length ≤ sizeLine) →
    ∃ as bs, ReadsAll s.heap us (D.pys ds) as ∧ ReadAtMost s.heap (PyData.depthAll (D.pys ds)) bs ∧ ReprAllK X.prog X.w bs s.heap (PyData.depthAll (D.pys ds)) us (PyData.shownAll (D.pys ds))
  | [], _, _, h, r, _, _ => by
    cases h
    cases r
    exact ⟨_, [], ReadsAll.nil, (fun _ h => nomatch h), by simp only [D.pys, PyData.shownAll]; exact .nil⟩
  | d :: ds, _, _, h, r, hs, hz => by
    cases h with
    | cons h1 h2 =>
      cases r with
      | cons q1 q2 =>
        have hs' : d.showOk = true ∧ D.showOks ds = true := by simpa [D.showOks] using hs
        simp only [D.pys, PyData.shownAll, PyData.depthAll] at hz ⊢
        obtain ⟨as1, b1, r1, hb1, k1⟩ := repr_dv I d _ _ h1 q1 hs'.1 (hz _ (List.mem_cons_self ..))
        obtain ⟨as2, b2, r2, hb2, k2⟩ := repr_dvs I ds _ _ h2 q2 hs'.2 (fun t ht => hz t (List.mem_cons_of_mem _ ht))
        refine ⟨_, b1 ++ b2, .cons r1 r2, ?_, .cons ((k1.more fun b hb => List.mem_append_left _ hb).level_le (Nat.le_max_left _ _)) (k2.more_le (fun b hb => List.mem_append_right _ hb) (Nat.le_max_right _ _))⟩
        intro b hm
        rcases List.mem_append.mp hm with hm | hm
        · obtain ⟨d', as', r', hd'⟩ := hb1 b hm
          exact ⟨d', as', r', Nat.le_trans hd' (Nat.le_max_left _ _)⟩
        · obtain ⟨d', as', r', hd'⟩ := hb2 b hm
          exact ⟨d', as', r', Nat.le_trans hd' (Nat.le_max_right _ _)⟩
end
/-- repr(x) -/
def rReprA (K : PySem.W.Frag) : List V → Hp → VK → Prop := fun xs H Q => ∃ v d, xs = [v] ∧ Dv K H v d ∧ d.showOk = true ∧ d.py.shown.length ≤ sizeLine ∧ d.py.depth ≤ 60 ∧ Q (.str d.py.shown) H
theorem call_reprA {k : Nat} (hr : RoomG k X.A) : CallR X (.builtin "repr") (rReprA X.K) := by
  intro pins s σ H xs us Q I r h
  obtain ⟨v, d, rfl, dv, hs, hz, hdp, q⟩ := h
  obtain ⟨u, rfl, ru⟩ := vals1 r
  have hu : X.A.units + 64 < cLine := hr.units
  have fin : ∀ (h' : Heap) (t tk : Tok), (∀ b o, s.heap.get? b = some o → h'.get? b = some o) → EP X pins σ Q (.str d.py.shown t) { s with heap := h', toks := tk } := fun h' t tk hk => ⟨.str _, H, I.kept (t' := tk) hk, ⟨_, rfl⟩, q⟩
  have fin0 : ∀ (t tk : Tok), EP X pins σ Q (.str d.py.shown t) { s with toks := tk } := fun t tk => fin s.heap t tk fun _ _ e => e
  cases d with
  | non =>
    cases dv
    cases ru
    exact PySem.P.repr_of_none (fin0 _ _)
  | bl b =>
    cases dv
    cases ru
    exact PySem.P.repr_of_bool (by simpa only [D.py, PyData.shown] using fin0 s.toks (s.toks + 1))
  | int i =>
    cases dv
    obtain ⟨t, rfl⟩ := ru
    exact PySem.P.repr_of_int (by simpa [D.showOk] using hs) (by simpa only [D.py, PyData.shown] using fin0 s.toks (s.toks + 1))
  | str x =>
    cases dv
    obtain ⟨t, rfl⟩ := ru
    exact PySem.P.repr_of_str (by simpa only [D.py, PyData.shown] using fin0 s.toks (s.toks + 1)) (by simpa only [D.py, PyData.shown] using hz)
  | lst ds =>
    cases dv with
    | lst h1 z1 r1 =>
      cases ru
      obtain ⟨its, rv, ⟨o, n, ho, hc, _, hd⟩, _⟩ := I.list (.of h1)
      simp only [D.py] at hz hdp fin
      have hz' : (listText (PyData.shownAll (D.pys ds))).length ≤ sizeLine := by simpa only [PyData.shown] using hz
      obtain ⟨as, bs, hr', hb, hk⟩ := repr_dvs I ds _ its r1 rv (by simpa [D.showOk] using hs) (fun t ht => Nat.le_trans (listText_mem_le ht) hz')
      have rr : Reads s.heap (.ref _) (.list (D.pys ds)) _ := .list ho hc hd (by simpa using hr')
      have hna : _ ∉ bs := not_mem_of_deeper rr (by simp only [PyData.depth]; omega) hb
      simp only [PyData.depth] at hdp
      simp only [PyData.shown] at fin
      refine call_repr_slot (by omega) ⟨o, ho, hc⟩ F.slot_list_repr.toG ?_
      cases its with
      | nil =>
        cases rv
        cases r1
        simp only [D.pys, PyData.shownAll, listText_nil] at fin
        exact call_list_repr_empty ⟨o, ho, hc⟩ ho hd ⟨_, _, rfl, fin s.heap _ _ fun _ _ e => e⟩
      | cons x l =>
        exact call_list_reprK ho hc hd hna (by simpa using hk.length_eq) (fun i y e => hk.item i y (by simpa using e)) (show X.A.in1.guards = some [] from hr.gd) (fun b _ => Clear.nil b) (by show X.A.units + 1 + _ < cLine; omega) (fun _ _ e => e) (fun h' u tk hk => ⟨_, _, rfl, fin h' u tk hk⟩) hz'
  | tup ds =>
    cases dv with
    | tup h1 z1 r1 =>
      cases ru
      obtain ⟨its, rv, ⟨o, ho, hc, n, hd⟩, _⟩ := I.tuple h1
      simp only [D.py] at hz hdp fin
      have hz' : (tupleText (PyData.shownAll (D.pys ds))).length ≤ sizeLine := by simpa only [PyData.shown] using hz
      obtain ⟨as, bs, hr', hb, hk⟩ := repr_dvs I ds _ its r1 rv (by simpa [D.showOk] using hs) (fun t ht => Nat.le_trans (tupleText_mem_le ht) hz')
      have rr : Reads s.heap (.ref _) (.tuple (D.pys ds)) _ := .tuple ho hc hd (by simpa using hr')
      have hna : _ ∉ bs := not_mem_of_deeper rr (by simp only [PyData.depth]; omega) hb
      simp only [PyData.depth] at hdp
      simp only [PyData.shown] at fin
      refine call_repr_slot (by omega) ⟨o, ho, hc⟩ F.slot_tuple_repr ?_
      exact call_tuple_reprK ho hc hd hna hk (show X.A.in1.guards = some [] from hr.gd) (fun b _ => Clear.nil b) (by show X.A.units + 1 + _ < cLine; omega) (fun _ _ e => e) (fun h' u tk hk => ⟨_, _, rfl, fin h' u tk hk⟩) hz'
  | dct kvs =>
    obtain ⟨as, hr', o, es, n, a, e, ho, hc, hd, hsys, hem, e0⟩ := dct_dv I dv ru hs
    subst e e0
    simp only [D.py, D.pyKv, PyData.shown, PyData.shownKv] at fin hz
    refine call_repr_slot (by omega) ⟨o, ho, hc⟩ F.slot_dict_repr ?_
    exact call_dict_reprK (as := []) (d := 0) (ps := []) ho hc hd hsys (by simp) (by rw [hem]; exact .nil) (show X.A.in1.guards = some [] from hr.gd) (fun b _ => Clear.nil b) (by show X.A.units + 1 + _ < cLine; omega) (fun _ _ e => e) (fun h' u tk hk => ⟨_, _, rfl, fin h' u tk hk⟩) hz
  | obj a => simp [D.showOk] at hs
end
theorem f1_repr {K : PySem.W.Frag} : Flat1 K (rReprA K) dRepr := fun F x dx d hx e => by
  unfold dRepr at e
  split at e
  · rename_i h
    cases e
    unfold D.reprOk at h
    simp only [Bool.and_eq_true, decide_eq_true_eq] at h
    exact ⟨_, fun _ => .str _, fun H Q sub q => ⟨_, _, rfl, hx.mono sub, h.1.1, lim_size h.1.2, h.2, q⟩⟩
  · cases e
end Fw
/-! ## FwW -/
set_option Elab.async false
set_option linter.all false
set_option maxRecDepth 100000
set_option maxHeartbeats 2000000
namespace Fw
open PySem PySem.Spec PyProof.Rows L2
section
variable {K : PySem.W.Frag} {W : Wd}
theorem Hold.sub {F : Hp} : ∀ {xs : List Sl} {vs : List V} {B B' : Hp}, Hold K F B xs vs B' → Sub B B'
  | [], [], B, B', h => by
    rw [show B' = B from h]
    exact Sub.refl B
  | .sh d :: xs, v :: vs, B, B', h => Hold.sub h.2
  | .ow d :: xs, v :: vs, B, B', ⟨p, o, e2, e3, e4, e6, e7⟩ => (Sub.upd e3).trans (Hold.sub e7)
  | [], _ :: _, _, _, h => h.elim
  | .sh _ :: _, [], _, _, h => h.elim
  | .ow _ :: _, [], _, _, h => h.elim
theorem Hold.updF {F : Hp} {p : Addr} {o : HO} (hF : F p = none) : ∀ {xs : List Sl} {vs : List V} {B B' : Hp}, B' p = none → Hold K F B xs vs B' → Hold K (upd F p o) B xs vs B'
  | [], [], B, B', _, h => h
  | .sh d :: xs, v :: vs, B, B', hp, h => ⟨h.1.mono (.upd hF), Hold.updF hF hp h.2⟩
  | .ow d :: xs, v :: vs, B, B', hp, ⟨q, o, e2, e3, e4, e6, e7⟩ => by
    have hq : q ≠ p := fun z => by
      have := Hold.sub e7 q _ upd_same
      rw [z, hp] at this
      cases this
    exact ⟨q, o, e2, e3, by rw [upd_ne hq]; exact e4, e6.mono (.upd hF), Hold.updF hF hp e7⟩
  | [], _ :: _, _, _, _, h => h.elim
  | .sh _ :: _, [], _, _, _, h => h.elim
  | .ow _ :: _, [], _, _, _, h => h.elim
/-- names alone -/
def gNames : List Nat → TGs
  | [] => L2.gNil
  | i :: is => L2.gCons (L2.gName i) (gNames is)
def setsV : List Nat → List V → L2.St → L2.St
  | i :: is, v :: vs, σ => setsV is vs (σ.set i (some v))
  | _, _, σ => σ
theorem gNames_run : ∀ {is : List Nat} {vs : List V} {σ : L2.St} {H : Hp} {Q : L2.St → Hp → Prop}, vs.length = is.length → Q (setsV is vs σ) H → gNames is vs σ H Q
  | [], [], _, _, _, _, q => ⟨rfl, q⟩
  | i :: is, v :: vs, _, _, _, hl, q => ⟨v, vs, rfl, gNames_run (by simpa using hl) q⟩
theorem setsV_len : ∀ (is : List Nat) (vs : List V) (σ : L2.St), (setsV is vs σ).length = σ.length
  | i :: is, v :: vs, σ => by simp only [setsV]; rw [setsV_len is vs, List.length_set]
  | [], _, _ => rfl
  | _ :: _, [], _ => rfl
theorem setsV_out : ∀ (is : List Nat) (vs : List V) (σ : L2.St) (j : Nat), j ∉ is → (setsV is vs σ)[j]? = σ[j]?
  | i :: is, v :: vs, σ, j, h => by
    simp only [setsV]
    rw [setsV_out is vs _ j fun z => h (List.mem_cons_of_mem _ z), set_get_ne fun z => h (by rw [z]; exact List.mem_cons_self ..)]
  | [], _, _, _, _ => rfl
  | _ :: _, [], _, _, _ => rfl
theorem setsV_in : ∀ (is : List Nat) (vs : List V) (σ : L2.St) (k i : Nat) (v : V), is.Nodup → is[k]? = some i → vs[k]? = some v → i < σ.length → (setsV is vs σ)[i]? = some (some v)
  | i :: is, v :: vs, σ, 0, i', v', nd, e1, e2, hl => by
    simp only [List.getElem?_cons_zero, Option.some.injEq] at e1 e2
    subst e1 e2
    simp only [setsV]
    rw [setsV_out is vs _ i (List.nodup_cons.mp nd).1, set_get_eq hl]
  | i :: is, v :: vs, σ, k + 1, i', v', nd, e1, e2, hl => by
    simp only [List.getElem?_cons_succ] at e1 e2
    simp only [setsV]
    exact setsV_in is vs _ k i' v' (List.nodup_cons.mp nd).2 e1 e2 (by rw [List.length_set]; exact hl)
  | [], _, _, k, i, v, _, e1, _, _ => by simp at e1
  | _ :: _, [], _, k, i, v, _, _, e2, _ => by simp at e2
/-- a, b = x, y by way of a tuple -/
theorem ss_unp {is : List Nat} {t : TA} {f : Qs W.S} {n : Nat} (h : SemQ K W t f) (hn : n = is.length) (hnd : is.Nodup) (hz : is.length ≤ 100) : SemS K W (tAsg (tTup t) (L2.gTup K n (gNames is))) (sPar is f) := fun B F0 σ H F ρ s R o e Dd q => by
  unfold sPar at e
  split at e
  · rename_i xs ρ1 s1 h1
    split at e
    · rename_i hl
      cases e
      refine h B F0 σ H F ρ s R _ _ _ h1 _ fun vs H1 F1 B1 R1 sub1 hh => ?_
      have hv := hh.len
      rw [hl] at hv
      refine ⟨by rw [hv]; exact Nat.le_trans hz (by decide), fun p hp => ?_⟩
      have hFp : F1 p = none := R1.fh.none hp
      have hBp : B1 p = none := R1.bh.none hp
      have R2 := R1.new (o := .tup vs) hp
      obtain ⟨σ', R', l1, l2, l3⟩ := R2.setHold (is := is) (hh.updF hFp hBp) hnd hl.symm
      refine ⟨p, vs, rfl, .inl (.inl upd_same), by rw [hv, hn], gNames_run hv ?_⟩
      have : setsV is vs σ = σ' := by
        apply List.ext_getElem?
        intro k
        by_cases hk : k < σ.length
        · by_cases e1 : k ∈ is
          · obtain ⟨m, hm⟩ := List.mem_iff_getElem?.mp e1
            have hmv : m < vs.length := by rw [hv]; exact (List.getElem?_eq_some_iff.mp hm).1
            have hw : vs[m]? = some vs[m] := List.getElem?_eq_getElem hmv
            rw [setsV_in is vs σ m k _ hnd hm hw hk, l3 m k _ hm hw hk]
          · rw [setsV_out is vs σ k e1, l2 k e1]
        · rw [List.getElem?_eq_none (by rw [setsV_len]; omega), List.getElem?_eq_none (by omega)]
      rw [this]
      exact q σ' _ _ R' (sub1.trans (.upd hFp))
    · cases e
  · cases e
end
/-! the written part named -/
section
variable {X : Cx} {K : PySem.W.Frag}
theorem opk (r : PySem.W.Frag → R2) {f : Value → Value → Sem Value} (hK : X.K = K) (h : OpR X f (r X.K)) : OpR X f (r K) := hK ▸ h
theorem callk (r : PySem.W.Frag → List V → Hp → VK → Prop) {f : Value} (hK : X.K = K) (h : CallR X f (r X.K)) : CallR X f (r K) := hK ▸ h
theorem ixk (r : PySem.W.Frag → R2) (hK : X.K = K) (h : IxR X (r X.K)) : IxR X (r K) := hK ▸ h
theorem slk (r : PySem.W.Frag → V → Option Int → Option Int → Hp → VK → Prop) (hK : X.K = K) (h : SlR X (r X.K)) : SlR X (r K) := hK ▸ h
end
abbrev rLenA (K : PySem.W.Frag) : List V → Hp → VK → Prop := fun xs H Q => ∃ p ys, xs = [.ref p] ∧ (SqL K H p ys ∨ SqT K H p ys) ∧ Q (.int ys.length) H
abbrev rListA (K : PySem.W.Frag) : List V → Hp → VK → Prop := fun xs H Q => ∃ p ys, xs = [.ref p] ∧ (SqL K H p ys ∨ SqT K H p ys) ∧ ∀ l, H l = none → Q (.ref l) (upd H l (.lst ys))
abbrev rTupleA (K : PySem.W.Frag) : List V → Hp → VK → Prop := fun xs H Q => ∃ p ys, xs = [.ref p] ∧ ((SqL K H p ys ∧ ∀ l, H l = none → Q (.ref l) (upd H l (.tup ys))) ∨ (SqT K H p ys ∧ Q (.ref p) H))
end Fw
/-! ## FwTb -/
set_option Elab.async false
set_option linter.all false
set_option maxRecDepth 100000
set_option maxHeartbeats 2000000
/-! A table: a list of lists of ints, of which the rows are written. -/
namespace Fw
open PySem PySem.Spec PyProof.Rows L2
def RowsD (K : PySem.W.Frag) (F : Hp) : List (List V) → List D → Prop
  | [], [] => True
  | w :: ws, .lst ds :: r => (w.length ≤ sizeLine ∧ Dvs K F w ds) ∧ RowsD K F ws r
  | _, _ => False
theorem RowsD.mono {K : PySem.W.Frag} {F F' : Hp} (e : Sub F F') : ∀ {ws : List (List V)} {r : List D}, RowsD K F ws r → RowsD K F' ws r
  | [], [], _ => trivial
  | w :: ws, .lst ds :: r, h => ⟨⟨h.1.1, h.1.2.mono e⟩, RowsD.mono e h.2⟩
theorem RowsD.snoc {K : PySem.W.Frag} {F : Hp} {w : List V} {ds : List D} (z : w.length ≤ sizeLine) (d : Dvs K F w ds) : ∀ {ws : List (List V)} {r : List D}, RowsD K F ws r → RowsD K F (ws ++ [w]) (r ++ [.lst ds])
  | [], [], _ => ⟨⟨z, d⟩, trivial⟩
  | w' :: ws, .lst ds' :: r, h => ⟨h.1, RowsD.snoc z d h.2⟩
structure RowsIn (B B' : Hp) (rs : List Addr) (ws : List (List V)) : Prop where
  out : ∀ x, x ∉ rs → B' x = B x
  at_ : ∀ (k : Nat) r, rs[k]? = some r → ∃ w, ws[k]? = some w ∧ B' r = some (.lst w)
  nb : ∀ r ∈ rs, B r = none
  nd : rs.Nodup
  len : rs.length = ws.length
theorem RowsIn.nil {B : Hp} : RowsIn B B [] [] := ⟨fun _ _ => rfl, fun _ _ e => by simp at e, (fun _ h => nomatch h), List.nodup_nil, rfl⟩
theorem RowsIn.snoc {B B' : Hp} {rs : List Addr} {ws : List (List V)} {p : Addr} {w : List V} (h : RowsIn B B' rs ws) (hp : B' p = none) (hm : p ∉ rs) : RowsIn B (upd B' p (.lst w)) (rs ++ [p]) (ws ++ [w]) := by
  refine ⟨fun x hx => ?_, fun k r e => ?_, fun r hr => ?_, ?_, by simp [h.len]⟩
  · have h1 : x ∉ rs := fun z => hx (List.mem_append_left _ z)
    have h2 : x ≠ p := fun z => hx (List.mem_append_right _ (by rw [z]; exact List.mem_singleton.mpr rfl))
    rw [upd_ne h2]; exact h.out x h1
  · rw [List.getElem?_append] at e ⊢
    rw [← h.len]
    split at e
    · rename_i hk
      rw [if_pos hk]
      obtain ⟨w', e1, e2⟩ := h.at_ k r e
      have hr : r ≠ p := fun z => hm (z ▸ List.mem_of_getElem? e)
      exact ⟨w', e1, by rw [upd_ne hr]; exact e2⟩
    · rename_i hk
      rw [if_neg hk]
      have hz : k - rs.length = 0 := by
        have := (List.getElem?_eq_some_iff.mp e).1
        simp at this
        omega
      rw [hz] at e ⊢
      simp only [List.getElem?_cons_zero, Option.some.injEq] at e
      subst e
      exact ⟨w, rfl, upd_same⟩
  · rcases List.mem_append.mp hr with z | z
    · exact h.nb r z
    · rw [List.mem_singleton.mp z, ← h.out p hm]; exact hp
  · refine List.nodup_append.mpr ⟨h.nd, by simp, fun a ha b hb => ?_⟩
    rw [List.mem_singleton.mp hb]
    exact fun z => hm (z ▸ ha)
theorem RowsIn.row {B B' : Hp} {rs : List Addr} {ws : List (List V)} (h : RowsIn B B' rs ws) {r : Addr} (m : r ∈ rs) : ∃ w, B' r = some (.lst w) := by
  obtain ⟨k, hk⟩ := List.mem_iff_getElem?.mp m
  obtain ⟨w, _, e⟩ := h.at_ k r hk
  exact ⟨w, e⟩
/-- a new list of new lists -/
def SemTb (K : PySem.W.Frag) (W : Wd) (t : TE) (f : E W.S) : Prop := ∀ B F0 σ H F ρ (s : W.S), Rel K W B F0 σ H F ρ s → ∀ d ρ' s', f ρ s = some (d, ρ', s') → ∀ Q : VK,
  (∀ p rs ws ds B' H' F', d = .lst ds → RowsIn B B' rs ws → p ∉ rs → B p = none → F' p = none → (∀ r ∈ rs, F' r = none) → Rel K W (upd B' p (.lst (rs.map V.ref))) F0 σ H' F' ρ' s' → Sub F F' → rs.length ≤ sizeLine → RowsD K F' ws ds → Q (.ref p) H') → t σ H Q
section
variable {K : PySem.W.Frag} {W : Wd}
theorem Rel.backB {B F0 H F : Hp} {σ σ' : L2.St} {ρ : Env} {s : W.S} {B0 Hi Fi : Hp} {ρ0 : Env} {s0 : W.S} {l : List Nat} (R0 : Rel K W B0 F0 σ Hi Fi ρ0 s0) (R : Rel K W B F0 σ' H F ρ s) (sub : Sub Fi F) (hl : σ'.length = σ.length) (ho : ∀ i, i ∉ l → σ'[i]? = σ[i]?) (hn : l.all (notOw ρ0) = true) :
    Rel K W B F0 σ H F (backE ρ0 l ρ) s := by
  have get : ∀ (i : Nat) (x : Sl), (backE ρ0 l ρ)[i]? = some (some x) → (i ∈ l ∧ ρ0[i]? = some (some x)) ∨ (i ∉ l ∧ ρ[i]? = some (some x)) := fun i x e => by
    rw [backE_at] at e
    by_cases hm : i ∈ l
    · rw [if_pos hm] at e
      split at e
      · left
        refine ⟨hm, ?_⟩
        rw [List.getD_eq_getElem?_getD] at e
        cases q : ρ0[i]? with
        | none => rw [q] at e; cases e
        | some y => rw [q] at e; simpa using e
      · cases e
    · rw [if_neg hm] at e
      exact .inr ⟨hm, e⟩
  have sh0 : ∀ (i : Nat) (x : Sl), i ∈ l → ρ0[i]? = some (some x) → ∃ d, x = Sl.sh d := fun i x hm e => notOw_sh (List.all_eq_true.mp hn i hm) e
  refine ⟨R.bh, R.fh, R.ff, R.fb, R.of, R.ob, R.st, by rw [backE_len, ← R.len]; exact hl.symm, fun i d e => ?_, fun i d e => ?_, fun i j d f a h1 h2 g1 g2 => ?_⟩
  · rcases get i _ e with ⟨hm, q⟩ | ⟨hm, q⟩
    · obtain ⟨v, h1, h2⟩ := R0.sl.sh i d q
      exact ⟨v, h1, h2.mono sub⟩
    · rw [← ho i hm]; exact R.sl.sh i d q
  · rcases get i _ e with ⟨hm, q⟩ | ⟨hm, q⟩
    · obtain ⟨d', hd⟩ := sh0 i _ hm q
      cases hd
    · rw [← ho i hm]; exact R.sl.ow i d q
  · rcases get i _ h1 with ⟨hm, q⟩ | ⟨hm, q⟩
    · obtain ⟨d', hd⟩ := sh0 i _ hm q
      cases hd
    · rcases get j _ h2 with ⟨hm', q'⟩ | ⟨hm', q'⟩
      · obtain ⟨d', hd⟩ := sh0 j _ hm' q'
        cases hd
      · rw [← ho i hm] at g1
        rw [← ho j hm'] at g2
        exact R.sl.dj i j d f a q q' g1 g2
theorem stb_lc {wi : TI} {g : TG} {tt : TT} {te : TE} {fi : I W.S} {tgt : Tg} {ft : T W.S} {fe : E W.S} {ws own : List Nat} (hi : SemI K W wi fi) (hg : SemG K W g tgt ws) (ht : SemT K W tt ft) (he : SemN K W te fe) (hw : ∀ i ∈ ws, i ∈ own) :
    SemTb K W (tLc wi g tt te own) (eLc fi tgt ft fe own) := fun B F0 σ H F ρ s R d ρ' s' e Q q => by
  unfold eLc at e
  split at e
  · rename_i ds ρ1 s1 h1
    split at e
    · rename_i hn
      split at e
      · rename_i acc ρ2 s2 h2
        cases e
        refine hi B F0 σ H F ρ s R _ _ _ h1 _ fun J H1 F1 R1 sub1 hds hJ => ?_
        intro D hD
        have hBD : B D = none := R1.bh.none hD
        have hFD : F1 D = none := R1.fh.none hD
        have hF0D : F0 D = none := R1.ff.none hFD
        refine ⟨fun i m H2 => ∃ F2 ρa sa rs vs accD B2, RowsIn B B2 rs vs ∧ D ∉ rs ∧ (∀ r ∈ rs, F0 r = none) ∧ Rel K W (upd B2 D (.lst (rs.map V.ref))) F0 σ H2 F2 ρa sa ∧ Sub F1 F2 ∧ m = ds.length - i ∧ i ≤ ds.length ∧ rs.length ≤ i ∧ RowsD K F2 vs accD ∧ lcLoop tgt ft fe own ρ1 (ds.drop i) accD ρa sa = some (acc, ρ', s'),
          ⟨ds.length, F1, ρ1, s1, [], [], [], B, .nil, by simp, by simp, R1.keep hD, Sub.refl F1, by omega, by omega, by simp, trivial, h2⟩, ?_⟩
        rintro i m H2 ⟨F2, ρa, sa, rs, vs, accD, B2, hrw, hDr, hF0r, R2, sub2, rfl, hil, hav, hva, hl⟩
        have hB2D : B2 D = none := by rw [hrw.out D hDr]; exact hBD
        have fnone : ∀ {Bx : Hp} {H' F' : Hp} {ρx : Env} {σx : L2.St} {sx : W.S} {x : Addr}, Rel K W Bx F0 σx H' F' ρx sx → F0 x = none → Bx x ≠ none → F' x = none := fun {Bx H' F' ρx σx sx x} Rx h0 hb => by
          cases z : F' x with
          | none => rfl
          | some o =>
            rcases Rx.fb x (by rw [z]; exact fun w => nomatch w) with y | y
            · exact absurd h0 y
            · exact absurd y hb
        have hF2D : F2 D = none := fnone R2 hF0D (by rw [upd_same]; exact fun z => nomatch z)
        obtain ⟨js, jg⟩ := (hJ.mono sub2) i H2 R2.fh
        by_cases hlt : i < ds.length
        · right
          have hdi : ds[i]? = some ds[i] := List.getElem?_eq_getElem hlt
          obtain ⟨g1, g2⟩ := jg _ hdi
          refine ⟨g1, fun H3 => ∃ F3 ρb sb rs' vs' accD' B3, RowsIn B B3 rs' vs' ∧ D ∉ rs' ∧ (∀ r ∈ rs', F0 r = none) ∧ Rel K W (upd B3 D (.lst (rs'.map V.ref))) F0 σ H3 F3 ρb sb ∧ Sub F2 F3 ∧ rs'.length ≤ i + 1 ∧ RowsD K F3 vs' accD' ∧ lcLoop tgt ft fe own ρ1 (ds.drop (i + 1)) accD' ρb sb = some (acc, ρ', s'), ?_, fun x H3 hy => ?_⟩
          · rintro H3 ⟨F3, ρb, sb, rs', vs', accD', B3, h1', h2', h0', R3, sub3, h3, h4, h5⟩
            exact ⟨ds.length - (i + 1), by omega, F3, ρb, sb, rs', vs', accD', B3, h1', h2', h0', R3, sub2.trans sub3, rfl, hlt, h3, h4, h5⟩
          · rw [List.drop_eq_getElem_cons hlt] at hl
            unfold lcLoop at hl
            have : ∃ F3, Rel K W (upd B2 D (.lst (rs.map V.ref))) F0 σ H3 F3 ρa sa ∧ Sub F2 F3 ∧ Dv K F3 x ds[i] := by
              rcases g2 x H3 hy with ⟨rfl, y2⟩ | ⟨T, xs, t1, rfl, t3⟩
              · exact ⟨F2, R2, Sub.refl F2, y2⟩
              · exact ⟨_, R2.new t1, Sub.upd (R2.fh.none t1), t3⟩
            obtain ⟨F3, R3, sub3, hx⟩ := this
            -- back at the comprehension's own frame
            have back : ∀ {Bx : Hp} {H' F' : Hp} {ρx : Env} {σx : L2.St} {sx : W.S}, Rel K W Bx F0 σx H' F' ρx sx → Sub F1 F' → σx.length = σ.length → (∀ j, j ∉ own → σx[j]? = σ[j]?) → Rel K W Bx F0 σ H' F' (backE ρ1 own ρx) sx := fun {Bx H' F' ρx σx sx} Rx sb hlen hout =>
              Rel.backB R1 Rx sb hlen hout hn
            split at hl
            · rename_i ρt hρt
              refine hg _ F0 _ H3 F3 _ sa (R3.wiped own) x _ _ hx hρt _ fun σ2 G => ?_
              have hout : ∀ j, j ∉ own → σ2[j]? = σ[j]? := fun j hj => by
                rw [G.out j (fun z => hj (hw j z)), wipe_at, if_neg hj]
              have hlen : σ2.length = σ.length := by rw [G.len, wipe_length]
              refine ⟨wipe_eq hlen hout, ?_⟩
              split at hl
              · rename_i ρc sc hc
                split at hl
                · rename_i y ρd sd hd
                  refine ht _ F0 σ2 H3 F3 _ _ G.rel _ _ _ hc _ fun H4 F4 R4 sub4 => ?_
                  rw [if_pos rfl]
                  refine he _ F0 σ2 H4 F4 _ _ R4 _ _ _ hd _ fun p us es H5 F5 hes R5 hBp hF5p sub5 hz5 hv => ?_
                  have hz : rs.length < sizeLine := by
                    have := sizeLine_eq
                    omega
                  have hpD : p ≠ D := fun z => by rw [z, upd_same] at hBp; cases hBp
                  have hB2p : B2 p = none := by rw [upd_ne hpD] at hBp; exact hBp
                  have hpr : p ∉ rs := fun z => by
                    obtain ⟨w, hw'⟩ := hrw.row z
                    rw [hB2p] at hw'
                    cases hw'
                  have hF0p : F0 p = none := R5.ff.none hF5p
                  have swap : upd (upd B2 D (.lst (rs.map V.ref))) p (.lst us) = upd (upd B2 p (.lst us)) D (.lst (rs.map V.ref)) := by
                    funext x
                    by_cases h1 : x = p
                    · subst h1; rw [upd_same, upd_ne hpD, upd_same]
                    · rw [upd_ne h1]
                      by_cases h2 : x = D
                      · subst h2; rw [upd_same, upd_same]
                      · rw [upd_ne h2, upd_ne h2, upd_ne h1]
                  rw [swap] at R5
                  have hF5D : F5 D = none := fnone R5 hF0D (by rw [upd_same]; exact fun z => nomatch z)
                  have hcell : H5 D = some (.lst (rs.map V.ref)) := R5.bh D _ upd_same
                  subst hes
                  refine ⟨rs.map V.ref, hcell, by rw [List.length_map]; exact hz, F5, backE ρ1 own ρd, sd, rs ++ [p], vs ++ [us], accD ++ [.lst es], upd B2 p (.lst us), hrw.snoc hB2p hpr, ?_, ?_, ?_, sub3.trans (sub4.trans sub5), by simp; omega, (hva.mono (sub3.trans (sub4.trans sub5))).snoc hz5 hv, hl⟩
                  · intro z
                    rcases List.mem_append.mp z with z | z
                    · exact hDr z
                    · exact hpD (List.mem_singleton.mp z).symm
                  · intro r hr
                    rcases List.mem_append.mp hr with z | z
                    · exact hF0r r z
                    · rw [List.mem_singleton.mp z]; exact hF0p
                  · have Rb := back R5 (sub2.trans (sub3.trans (sub4.trans sub5))) hlen hout
                    have := Rb.writeB (o' := .lst (rs.map V.ref ++ [V.ref p])) hF5D
                    rw [List.map_append]
                    exact this
                · cases hl
              · rename_i ρc sc hc
                refine ht _ F0 σ2 H3 F3 _ _ G.rel _ _ _ hc _ fun H4 F4 R4 sub4 => ?_
                rw [if_neg Bool.false_ne_true]
                refine ⟨F4, backE ρ1 own ρc, sc, rs, vs, accD, B2, hrw, hDr, hF0r, ?_, sub3.trans sub4, by omega, hva.mono (sub3.trans sub4), hl⟩
                exact back R4 (sub2.trans (sub3.trans sub4)) hlen hout
              · cases hl
            · cases hl
        · left
          have hi' : i = ds.length := by omega
          subst hi'
          rw [List.drop_length] at hl
          unfold lcLoop at hl
          cases hl
          refine ⟨js (Nat.le_refl _), ?_⟩
          exact q D rs vs acc B2 H2 F2 rfl hrw hDr hBD hF2D (fun r hr => fnone R2 (hF0r r hr) (by
            have hrD : r ≠ D := fun z => hDr (z ▸ hr)
            rw [upd_ne hrD]
            obtain ⟨w, hw'⟩ := hrw.row hr
            rw [hw']
            exact fun z => nomatch z)) R2 (sub1.trans sub2) (Nat.le_trans hav (Nat.le_trans hil hds)) hva
      · cases e
    · cases e
  · cases e
end
abbrev Tb := List (List Int)
def tbRows (T : Tb) : List D := T.map fun r => .lst (r.map .int)
/-- a world with a table -/
abbrev TabW (W : Wd) (a : Addr) (rs : List Addr) : Wd where
  S := W.S × Tb
  fp := fun x => W.fp x ∨ x = a ∨ x ∈ rs
  so := fun s H => W.so s.1 H ∧ (∀ x, W.fp x → x ≠ a ∧ x ∉ rs) ∧ rs.Nodup ∧ a ∉ rs ∧ rs.length = s.2.length ∧ rs.length ≤ sizeLine ∧ H a = some (.lst (rs.map V.ref)) ∧
    ∀ (k : Nat) r, rs[k]? = some r → ∃ row, s.2[k]? = some row ∧ row.length ≤ sizeLine ∧ H r = some (.lst (row.map V.int))
  alive := fun {s H x} h hx => by
    obtain ⟨h1, _, _, _, _, _, h2, h3⟩ := h
    rcases hx with e | e | e
    · exact W.alive h1 e
    · rw [e, h2]; exact fun z => nomatch z
    · obtain ⟨k, hk⟩ := List.mem_iff_getElem?.mp e
      obtain ⟨row, _, _, h4⟩ := h3 k x hk
      rw [h4]; exact fun z => nomatch z
  stay := fun {s H H'} h k => by
    obtain ⟨h1, h2, h3, h4, h5, h6, h7, h8⟩ := h
    refine ⟨W.stay h1 fun x hx => k x (.inl hx), h2, h3, h4, h5, h6, (k a (.inr (.inl rfl))).trans h7, fun n r hr => ?_⟩
    obtain ⟨row, e1, e2, e3⟩ := h8 n r hr
    exact ⟨row, e1, e2, (k r (.inr (.inr (List.mem_of_getElem? hr)))).trans e3⟩
section
variable {K : PySem.W.Frag} {W : Wd} {B F0 H H' F F' : Hp} {σ σ' : L2.St} {ρ ρ' : Env} {s s' : W.S}
/-- the world alone has moved -/
theorem Rel.fpUpd (R : Rel K W B F0 σ H F ρ s) (h : ∀ x, ¬ W.fp x → H' x = H x) (st : W.so s' H') : Rel K W B F0 σ H' F ρ s' := by
  have nb : ∀ x o, B x = some o → ¬ W.fp x := fun x o e z => by rw [R.ob x z] at e; cases e
  have nf : ∀ x o, F x = some o → ¬ W.fp x := fun x o e z => by rw [R.of x z] at e; cases e
  refine ⟨fun x o e => (h x (nb x o e)).trans (R.bh x o e), fun x o e => (h x (nf x o e)).trans (R.fh x o e), R.ff, R.fb, R.of, R.ob, st, R.len, R.sl.sh, fun i d e => ?_, R.sl.dj⟩
  obtain ⟨a, h1, h2, h3, h4, h5⟩ := R.sl.ow i d e
  exact ⟨a, h1, h2, h3, h4, h5.mono (Sub.refl F) (h a h4)⟩
theorem RowsD.ints : ∀ {ws : List (List V)} {T : Tb}, RowsD K F ws (tbRows T) → ws.length = T.length ∧ ∀ (k : Nat) w, ws[k]? = some w → ∃ row, T[k]? = some row ∧ row.length ≤ sizeLine ∧ w = row.map V.int
  | [], [], _ => ⟨rfl, fun k w e => by simp at e⟩
  | w :: ws, row :: T, h => by
    obtain ⟨h1, h2⟩ := RowsD.ints (ws := ws) (T := T) h.2
    have hi : w = row.map V.int := h.1.2.ints _ (by
      have : ∀ l : List Int, ints? (l.map D.int) = some l := fun l => by
        induction l with
        | nil => rfl
        | cons x r ih =>
          show (match D.int x, ints? (r.map D.int) with
            | .int i, some is => some (i :: is)
            | _, _ => none) = _
          rw [ih]
      exact this row)
    refine ⟨by simp [h1], fun k w' e => ?_⟩
    cases k with
    | zero =>
      simp only [List.getElem?_cons_zero, Option.some.injEq] at e
      subst e
      exact ⟨row, rfl, by have := h.1.1; rw [hi, List.length_map] at this; exact this, hi⟩
    | succ k => exact h2 k w' (by simpa using e)
/-- a table has come -/
theorem Rel.tab {B' : Hp} {p : Addr} {rs : List Addr} {ws : List (List V)} {T : Tb} {i : Nat} (hr : RowsIn B B' rs ws) (hp : p ∉ rs) (hB : B p = none) (hF : F p = none) (hFr : ∀ r ∈ rs, F r = none) (R : Rel K W (upd B' p (.lst (rs.map V.ref))) F0 σ H F ρ s)
    (hz : rs.length ≤ sizeLine) (hd : RowsD K F ws (tbRows T)) : Rel K (TabW W p rs) B F0 (σ.set i (some (.ref p))) H F (ρ.set i (some (Sl.sh (.obj p)))) (s, T) := by
  obtain ⟨hl, hw⟩ := hd.ints
  have bp : upd B' p (.lst (rs.map V.ref)) p ≠ none := by rw [upd_same]; exact fun z => nomatch z
  have br : ∀ r ∈ rs, upd B' p (.lst (rs.map V.ref)) r ≠ none := fun r m => by
    have : r ≠ p := fun z => hp (z ▸ m)
    rw [upd_ne this]
    obtain ⟨w, e⟩ := hr.row m
    rw [e]; exact fun z => nomatch z
  have dis : ∀ x, W.fp x → x ≠ p ∧ x ∉ rs := fun x hx => ⟨fun z => bp (z ▸ R.ob x hx), fun z => br x z (R.ob x hx)⟩
  have R1 : Rel K (TabW W p rs) B F0 σ H F ρ (s, T) := by
    refine ⟨fun x o e => R.bh x o ?_, R.fh, R.ff, fun x hx => ?_, fun x hx => ?_, fun x hx => ?_, ⟨R.st, dis, hr.nd, hp, by rw [hr.len, hl], hz, R.bh p _ upd_same, fun k r e => ?_⟩, R.len, R.sl.sh, fun j d e => ?_, R.sl.dj⟩
    · have h1 : x ≠ p := fun z => by rw [z, hB] at e; cases e
      have h2 : x ∉ rs := fun z => by rw [hr.nb x z] at e; cases e
      rw [upd_ne h1, hr.out x h2]; exact e
    · rcases R.fb x hx with z | z
      · exact .inl z
      · by_cases h1 : x = p
        · exact absurd z (h1 ▸ bp)
        · by_cases h2 : x ∈ rs
          · exact absurd z (br x h2)
          · rw [upd_ne h1, hr.out x h2] at z; exact .inr z
    · rcases hx with z | z | z
      · exact R.of x z
      · rw [z]; exact hF
      · exact hFr x z
    · rcases hx with z | z | z
      · obtain ⟨h1, h2⟩ := dis x z
        have := R.ob x z
        rw [upd_ne h1, hr.out x h2] at this
        exact this
      · rw [z]; exact hB
      · exact hr.nb x z
    · obtain ⟨w, e1, e2⟩ := hr.at_ k r e
      obtain ⟨row, f1, f2, f3⟩ := hw k w e1
      have : r ≠ p := fun z => hp (z ▸ List.mem_of_getElem? e)
      refine ⟨row, f1, f2, ?_⟩
      rw [← f3]
      exact R.bh r _ (by rw [upd_ne this]; exact e2)
    · obtain ⟨a, h1, h2, h3, h4, h5⟩ := R.sl.ow j d e
      have n1 : a ≠ p := fun z => bp (z ▸ h2)
      have n2 : a ∉ rs := fun z => br a z h2
      rw [upd_ne n1, hr.out a n2] at h2
      exact ⟨a, h1, h2, h3, fun z => z.elim h4 fun z => z.elim n1 n2, h5⟩
  exact R1.setSh (.obj p)
/-- the table is given away -/
theorem Rel.untab {a : Addr} {rs : List Addr} {T : Tb} (R : Rel K (TabW W a rs) B F0 [] H F [] (s, T)) :
    ∃ F', Sub F F' ∧ Rel K W B F0 [] H F' [] s ∧ Dv K F' (.ref a) (.lst (tbRows T)) := by
  obtain ⟨h1, h2, h3, h4, h5, h6, h7, h8⟩ := R.st
  classical
  let F' : Hp := fun x => if x = a ∨ x ∈ rs then H x else F x
  have in' : ∀ x, (x = a ∨ x ∈ rs) → F' x = H x := fun x hx => if_pos hx
  have out' : ∀ x, ¬ (x = a ∨ x ∈ rs) → F' x = F x := fun x hx => if_neg hx
  have sub : Sub F F' := fun x o e => by
    by_cases hx : x = a ∨ x ∈ rs
    · have := R.of x (.inr hx)
      rw [this] at e; cases e
    · rw [out' x hx]; exact e
  refine ⟨F', sub, ⟨R.bh, fun x o e => ?_, R.ff.trans sub, fun x hx => ?_, fun x hx => ?_, fun x hx => R.ob x (.inl hx), h1, rfl, fun i d e => by simp at e, fun i d e => by simp at e, fun i j d e a h => by simp at h⟩, ?_⟩
  · by_cases hx : x = a ∨ x ∈ rs
    · rw [in' x hx] at e; exact e
    · rw [out' x hx] at e; exact R.fh x o e
  · by_cases hm : x = a ∨ x ∈ rs
    · exact .inr (R.ob x (.inr hm))
    · rw [out' x hm] at hx; exact R.fb x hx
  · have hm : ¬ (x = a ∨ x ∈ rs) := fun z => by
      obtain ⟨n1, n2⟩ := h2 x hx
      exact z.elim n1 n2
    rw [out' x hm]; exact R.of x (.inl hx)
  · refine .lst (by rw [in' a (.inl rfl)]; exact h7) (by rw [List.length_map]; exact h6) ?_
    have key : ∀ (l : List Addr) (T' : Tb), (∀ r ∈ l, r ∈ rs) → l.length = T'.length → (∀ (k : Nat) r, l[k]? = some r → ∃ row, T'[k]? = some row ∧ row.length ≤ sizeLine ∧ H r = some (.lst (row.map V.int))) → Dvs K F' (l.map V.ref) (tbRows T') := fun l => by
      induction l with
      | nil =>
        intro T' _ hl _
        cases T' with
        | nil => exact .nil
        | cons _ _ => simp at hl
      | cons r l ih =>
        intro T' hm hl hk
        cases T' with
        | nil => simp at hl
        | cons row T' =>
          obtain ⟨row', e1, e2, e3⟩ := hk 0 r rfl
          simp only [List.getElem?_cons_zero, Option.some.injEq] at e1
          subst e1
          refine .cons (.lst (by rw [in' r (.inr (hm r (List.mem_cons_self ..)))]; exact e3) (by rw [List.length_map]; exact e2) ?_) (ih T' (fun r' h' => hm r' (List.mem_cons_of_mem _ h')) (by simpa using hl) fun k r' h' => hk (k + 1) r' (by simpa using h'))
          have : ∀ l : List Int, Dvs K F' (l.map V.int) (l.map D.int) := fun l => by
            induction l with
            | nil => exact .nil
            | cons x r ih => exact .cons (.int x) ih
          exact this row
    exact key rs T (fun _ h => h) h5 h8
theorem Rel.noTab {a : Addr} {rs : List Addr} {T : Tb} (R : Rel K (TabW W a rs) B F0 [] H F [] (s, T)) : Rel K W B F0 [] H F [] s :=
  ⟨R.bh, R.fh, R.ff, R.fb, fun x hx => R.of x (.inl hx), fun x hx => R.ob x (.inl hx), R.st.1, rfl, fun i d e => by simp at e, fun i d e => by simp at e, fun i j d e a h => by simp at h⟩

/-- table[x][y] -/
def eTabIx {S : Type} (a : Addr) (t : Nat) (fx fy : E (S × Tb)) : E (S × Tb) := fun ρ s => match ρ[t]? with
  | some (some (.sh (.obj b))) => if b = a then (match fx ρ s with
    | some (.int i, ρ1, s1) => if (atD s1.2 i).isSome = true then (match fy ρ1 s1 with
      | some (.int j, ρ2, s2) => (match (atD s2.2 i).bind fun row => atD row j with | some z => some (.int z, ρ2, s2) | none => none)
      | _ => none) else none
    | _ => none) else none
  | _ => none
theorem atD_row {α β : Type} {xs : List α} {ys : List β} {i : Int} {y : β} (hl : xs.length = ys.length) (h : atD ys i = some y) : ∃ k x, ixN xs.length i = some k ∧ xs[k]? = some x ∧ ys[k]? = some y := by
  unfold atD at h
  rw [← hl, ← ixD_eq] at h
  obtain ⟨k, h1, h2⟩ := Option.bind_eq_some_iff.mp h
  have hk : k < xs.length := by rw [hl]; exact (List.getElem?_eq_some_iff.mp h2).1
  exact ⟨k, xs[k], h1, List.getElem?_eq_getElem hk, h2⟩
theorem se_tabIx {a : Addr} {rs : List Addr} {t : Nat} {tx ty : TE} {fx fy : E (W.S × Tb)} (hx : SemE K (TabW W a rs) tx fx) (hy : SemE K (TabW W a rs) ty fy) : SemE K (TabW W a rs) (tOp (rIx K) (tOp (rIx K) (tVar t) tx) ty) (eTabIx a t fx fy) := fun B F0 σ H F ρ s R d ρ' s' e Q q => by
  unfold eTabIx at e
  split at e
  · rename_i b hb
    split at e
    · rename_i hba
      subst hba
      split at e
      · rename_i i ρ1 s1 h1
        split at e
        case isFalse => cases e
        rename_i hsome
        split at e
        · rename_i j ρ2 s2 h2
          split at e
          · rename_i z h3
            cases e
            obtain ⟨v, g1, g2⟩ := R.sl.sh t _ hb
            cases g2
            refine ⟨_, g1, hx B F0 σ H F ρ s R _ _ _ h1 _ fun v1 H1 F1 R1 sub1 d1 => ?_⟩
            cases d1
            obtain ⟨row, r1, r2⟩ := Option.bind_eq_some_iff.mp h3
            obtain ⟨_, _, _, _, l1, _, m1, n1⟩ := R1.st
            have hlen : (rs.map V.ref).length = rs.length := List.length_map ..
            -- the row's place
            have : ∃ k r, ixN (rs.map V.ref).length i = some k ∧ rs[k]? = some r := by
              obtain ⟨y, hy'⟩ := Option.isSome_iff_exists.mp hsome
              obtain ⟨k, x, f1, f2, _⟩ := atD_row l1 hy'
              exact ⟨k, x, by rw [hlen]; exact f1, f2⟩
            obtain ⟨k, r, hk1, hk2⟩ := this
            refine .inl ⟨b, _, i, .ref r, rfl, rfl, .of m1, by show (ixN _ i).bind _ = _; rw [hk1]; simp [hk2], hy B F0 σ H1 F1 _ _ R1 _ _ _ h2 _ fun v2 H2 F2 R2 sub2 d2 => ?_⟩
            cases d2
            obtain ⟨_, _, _, _, l2, _, m2, n2⟩ := R2.st
            obtain ⟨k', r', f1, f2, f3⟩ := atD_row l2 r1
            have : k' = k := by
              rw [hlen] at hk1
              rw [hk1] at f1
              exact (Option.some.inj f1).symm
            subst this
            obtain ⟨row', e1, e2, e3⟩ := n2 k' r hk2
            rw [f3] at e1
            cases e1
            obtain ⟨k3, w3, t1, t2, t3⟩ := atD_row (xs := row.map V.int) (by simp) r2
            refine .inl ⟨r, _, j, .int z, rfl, rfl, .of e3, ?_, q _ H2 F2 R2 (sub1.trans sub2) (.int z)⟩
            show (ixN _ j).bind _ = _
            rw [t1]
            simp [t3]
          · cases e
        · cases e
      · cases e
    · cases e
  · cases e
/-- table[x][y] = e -/
def sTabSet {S : Type} (a : Addr) (t : Nat) (fe fx fy : E (S × Tb)) : C (S × Tb) := fun ρ s => match fe ρ s with
  | some (.int z, ρ0, s0) => (match ρ0[t]? with
    | some (some (.sh (.obj b))) => if b = a then (match fx ρ0 s0 with
      | some (.int i, ρ1, s1) => if (atD s1.2 i).isSome = true then (match fy ρ1 s1 with
        | some (.int j, ρ2, s2) => (match ixD s2.2.length i with
          | some k => (match s2.2[k]? with
            | some row => (match ixD row.length j with | some l => some (.nx, ρ2, (s2.1, s2.2.set k (row.set l z))) | none => none)
            | none => none)
          | none => none)
        | _ => none) else none
      | _ => none) else none
    | _ => none)
  | _ => none
theorem ss_tabSet {a : Addr} {rs : List Addr} {t : Nat} {te tx ty : TE} {fe fx fy : E (W.S × Tb)} (he : SemE K (TabW W a rs) te fe) (hx : SemE K (TabW W a rs) tx fx) (hy : SemE K (TabW W a rs) ty fy) :
    SemS K (TabW W a rs) (tAsg te (gSub (tOp (rIx K) (tVar t) tx) ty rSetL)) (sTabSet a t fe fx fy) := fun B F0 σ H F ρ s R o e Dd q => by
  unfold sTabSet at e
  split at e
  case h_2 => cases e
  rename_i z ρ0 s0 h0
  split at e
  case h_2 => cases e
  rename_i b hb
  split at e
  case isFalse => cases e
  rename_i hba
  subst hba
  split at e
  case h_2 => cases e
  rename_i i ρ1 s1 h1
  split at e
  case isFalse => cases e
  rename_i hsome
  split at e
  case h_2 => cases e
  rename_i j ρ2 s2 h2
  split at e
  case h_2 => cases e
  rename_i k hk
  split at e
  case h_2 => cases e
  rename_i row hrow
  split at e
  case h_2 => cases e
  rename_i l hl
  cases e
  refine he B F0 σ H F ρ s R _ _ _ h0 _ fun v0 H0 F1 R0 sub0 d0 => ?_
  cases d0
  obtain ⟨v, g1, g2⟩ := R0.sl.sh t _ hb
  cases g2
  refine ⟨_, g1, hx B F0 σ H0 F1 ρ0 s0 R0 _ _ _ h1 _ fun v1 H1 F2 R1 sub1 d1 => ?_⟩
  cases d1
  obtain ⟨_, _, _, _, l1, _, m1, n1⟩ := R1.st
  have hlen : (rs.map V.ref).length = rs.length := List.length_map ..
  have : ∃ k r, ixN (rs.map V.ref).length i = some k ∧ rs[k]? = some r := by
    obtain ⟨y, hy'⟩ := Option.isSome_iff_exists.mp hsome
    obtain ⟨k, x, f1, f2, _⟩ := atD_row l1 hy'
    exact ⟨k, x, by rw [hlen]; exact f1, f2⟩
  obtain ⟨k', r, hk1, hk2⟩ := this
  refine .inl ⟨b, _, i, .ref r, rfl, rfl, .of m1, by show (ixN _ i).bind _ = _; rw [hk1]; simp [hk2], hy B F0 σ H1 F2 _ _ R1 _ _ _ h2 _ fun v2 H2 F3 R2 sub2 d2 => ?_⟩
  cases d2
  obtain ⟨p1, p2, p3, p4, l2, p6, m2, n2⟩ := R2.st
  have ek : k' = k := by
    rw [hlen, l2] at hk1
    rw [← ixD_eq, hk1] at hk
    exact Option.some.inj hk
  subst ek
  obtain ⟨row', e1, e2, e3⟩ := n2 k' r hk2
  rw [hrow] at e1
  cases e1
  refine ⟨r, _, j, l, rfl, rfl, e3, by rw [List.length_map]; exact hl, ?_⟩
  have hra : r ≠ b := fun x => p4 (x ▸ List.mem_of_getElem? hk2)
  have hrf : (TabW W b rs).fp r := .inr (.inr (List.mem_of_getElem? hk2))
  refine q _ _ F3 (R2.fpUpd (s' := (s2.1, s2.2.set k' (row.set l z))) (fun x hx => upd_ne fun y => hx (y ▸ hrf)) ⟨W.stay p1 fun x hx => upd_ne fun y => (p2 x hx).2 (y ▸ List.mem_of_getElem? hk2), p2, p3, p4, by rw [List.length_set]; exact l2, p6, (upd_ne (Ne.symm hra)).trans m2, fun n r' hr' => ?_⟩) ((sub0.trans sub1).trans sub2)
  by_cases hn : n = k'
  · subst hn
    rw [hk2] at hr'
    cases hr'
    refine ⟨row.set l z, ?_, by rw [List.length_set]; exact e2, ?_⟩
    · have : n < s2.2.length := (List.getElem?_eq_some_iff.mp hrow).1
      simp [List.getElem?_set, this]
    · exact (upd_same).trans (by rw [List.map_set])
  · have hne : r' ≠ r := fun y => by
      subst y
      obtain ⟨u1, u2⟩ := List.getElem?_eq_some_iff.mp hr'
      obtain ⟨u3, u4⟩ := List.getElem?_eq_some_iff.mp hk2
      rcases Nat.lt_or_gt_of_ne hn with y | y
      · exact List.pairwise_iff_getElem.mp p3 n k' u1 u3 y (u2.trans u4.symm)
      · exact List.pairwise_iff_getElem.mp p3 k' n u3 u1 y (u4.trans u2.symm)
    obtain ⟨w, w1, w2, w3⟩ := n2 n r' hr'
    exact ⟨w, by rw [List.getElem?_set_ne (Ne.symm hn)]; exact w1, w2, (upd_ne hne).trans w3⟩
/-- what a table becomes when it is given back -/
def detab (a : Addr) (T : Tb) : D → D
  | .obj b => if b = a then .lst (tbRows T) else .obj b
  | d => d
/-- a table is made, then it alone is worked at, to the def's end -/
theorem ss_tab {i : Nat} {te : TE} {t2 : TS} {fe : E W.S} {f2 : Addr → C (W.S × Tb)} {f : C W.S} (he : SemTb K W te fe) (h2 : ∀ a rs, SemS K (TabW W a rs) t2 (f2 a))
    (hf : ∀ ρ s o, f ρ s = some o → ∃ ρ' s' T, fe ρ s = some (.lst (tbRows T), ρ', s') ∧ ∀ a, ∃ d ρ2 s2 T2, f2 a (ρ'.set i (some (Sl.sh (.obj a)))) (s', T) = some (.rt d, ρ2, (s2, T2)) ∧ ∃ ρ3, o = (.rt (detab a T2 d), ρ3, s2)) :
    SemS K W (tSeq (tAsg te (gName i)) t2) f := fun B F0 σ H F ρ s R o e Dd q => by
  obtain ⟨ρ', s', T, h1, h3⟩ := hf ρ s o e
  refine he B F0 σ H F ρ s R _ _ _ h1 _ fun p rs ws ds B' H' F' hd hrw hp hB hF hFr R1 sub hz hD => ?_
  cases hd
  obtain ⟨d, ρ2, s2, T2, h4, ρ3, ho⟩ := h3 p
  subst ho
  refine h2 p rs B F0 _ H' F' _ _ (Rel.tab hrw hp hB hF hFr R1 hz hD) _ h4 _ ?_
  intro v H2 F2 R2 sub2 dv
  have other : detab p T2 d = d → Dd.rt v H2 := fun hd => by
    rw [hd] at q
    exact q v H2 F2 R2.noTab (sub.trans sub2) dv
  cases d with
  | obj b =>
    by_cases hb : b = p
    · subst hb
      cases dv
      obtain ⟨F3, sub3, R3, d3⟩ := R2.untab
      have hd : detab b T2 (.obj b) = .lst (tbRows T2) := if_pos rfl
      rw [hd] at q
      exact q _ H2 F3 R3 (sub.trans (sub2.trans sub3)) d3
    · exact other (if_neg hb)
  | _ => exact other rfl
end
end Fw
/-! ## FwDk -/
set_option Elab.async false
set_option linter.all false
/-! Dicts whose keys are ints or texts; plain. -/
namespace Fw
open PySem PySem.Spec
variable {S : Type}
def key? : D → Option Key
  | .int i => some (.inl i)
  | .str x => some (.inr x)
  | _ => none
def dval (kvs : List (Key × D)) (k : Key) : Option D := (kvs.find? fun kv => decide (kv.1 = k)).map (·.2)
def dput (kvs : List (Key × D)) (k : Key) (d : D) : List (Key × D) :=
  if (kvs.any fun kv => decide (kv.1 = k)) = true then kvs.map (fun kv => if kv.1 = k then (kv.1, d) else kv) else kvs ++ [(k, d)]
/-- x in y, y a dict -/
def dKIn (x y : D) : Option D := match y with
  | .dct kvs => (key? x).map fun k => .bl (dval kvs k).isSome
  | _ => none
def dKNotIn (x y : D) : Option D := match y with
  | .dct kvs => (key? x).map fun k => .bl (!(dval kvs k).isSome)
  | _ => none
/-- y[x], y a dict -/
def dKGet (y x : D) : Option D := match y with
  | .dct kvs => (key? x).bind (dval kvs)
  | _ => none
/-- y[k] = a -/
def sPutK (a : E S) (i : Nat) (k : E S) : C S := fun ρ s => match a ρ s with
  | some (x, ρ1, s1) => (match ρ1[i]? with
    | some (some (.ow (.dct _))) => (match k ρ1 s1 with
      | some (y, ρ2, s2) => (match ρ2[i]?, key? y with
        | some (some (.ow (.dct kvs))), some k => if kvs.length < LIM then some (.nx, ρ2.set i (some (.ow (.dct (dput kvs k x)))), s2) else none
        | _, _ => none)
      | none => none)
    | _ => none)
  | none => none
/-- {k: v} -/
def eD1 (k v : E S) : E S := fun ρ s => match k ρ s with
  | some (x, ρ, s) => (match v ρ s with
    | some (y, ρ, s) => (match key? x with
      | some k => some (.dct [(k, y)], ρ, s)
      | none => none)
    | none => none)
  | none => none
def keysI? : List (Key × D) → Option (List Int)
  | [] => some []
  | (.inl i, _) :: r => (keysI? r).map (i :: ·)
  | (.inr _, _) :: _ => none
def leI (a b : Int) : Bool := decide (a ≤ b)
/-- sorted(d), sorted(ints), fewer than 64 -/
def dSortK : D → Option D
  | .dct kvs => (keysI? kvs).bind fun ks => if ks.length < 64 then some (.lst ((ks.mergeSort leI).map .int)) else none
  | _ => none
def dSortI : D → Option D
  | .lst ds => (ints? ds).bind fun ks => some (.lst ((ks.mergeSort leI).map .int))
  | _ => none
/-- *x in a display -/
def aStar (a : E S) (r : As S) : As S := fun ρ s => match a ρ s with
  | some (x, ρ, s) => (match items? x with
    | some xs => (match r ρ s with
      | some (ys, ρ, s) => some (xs ++ ys, ρ, s)
      | none => none)
    | none => none)
  | none => none
/-- y[k] op= a, y an owned list: the item is taken ahead -/
def sAugIx (op : D → D → Option D) (i : Nat) (k a : E S) : C S := fun ρ s => match ρ[i]? with
  | some (some (.ow (.lst _))) => (match k ρ s with
    | some (.int y, ρ1, s1) => (match ρ1[i]? with
      | some (some (.ow (.lst ds))) => (match (ixD ds.length y).bind fun j => ds[j]? with
        | some x => (match a ρ1 s1 with
          | some (z, ρ2, s2) => (match ρ2[i]?, op x z with
            | some (some (.ow (.lst es))), some w => (match ixD es.length y with
              | some j => some (.nx, ρ2.set i (some (.ow (.lst (es.set j w)))), s2)
              | none => none)
            | _, _ => none)
          | none => none)
        | none => none)
      | _ => none)
    | _ => none)
  | _ => none
/-- sum of a list, of a tuple -/
def dSumA (x : D) : Option D := (items? x).bind fun ds => (ints? ds).map fun is => .int is.sum
/-- pairs of a key and a value -/
def pairs? : List D → Option (List (Key × D))
  | [] => some []
  | .tup [k, v] :: r => (key? k).bind fun k => (pairs? r).map ((k, v) :: ·)
  | _ :: _ => none
/-- dict(xs) of a list of pairs -/
def dDictP : D → Option D
  | .lst ds => (pairs? ds).map fun kvs => .dct (kvs.foldl (fun acc kv => dput acc kv.1 kv.2) [])
  | _ => none
def dLenK : D → Option D
  | .dct kvs => some (.int kvs.length)
  | _ => none
/-- xs.count(k), ints -/
def dCount : D → D → Option D
  | .lst ds, .int k => (ints? ds).map fun is => .int (is.count k : Nat)
  | _, _ => none
/-- xs.index(k), ints, k there -/
def dIndex : D → D → Option D
  | .lst ds, .int k => (ints? ds).bind fun is => if k ∈ is then some (.int (is.idxOf k : Nat)) else none
  | _, _ => none
/-- tuple(range(n)) -/
def eTupR1 (a : E S) : E S := fun ρ s => match a ρ s with
  | some (.int j, ρ, s) => if -16777216 ≤ j ∧ j ≤ 16777216 then some (.tup (rangeL 0 j.toNat), ρ, s) else none
  | _ => none
/-- never reached -/
def sNever : C S := fun _ _ => none
/-- the same as eBL, the slot a list to begin with -/
def eBLM (op : D → D → Option D) (i : Nat) (b : E S) : E S := fun ρ s => match ρ[i]? with
  | some (some (.ow (.lst _))) => eBL op i b ρ s
  | _ => none
end Fw
/-! ## FwK -/
set_option Elab.async false
set_option linter.all false
set_option maxRecDepth 100000
set_option maxHeartbeats 1000000
/-! Dicts whose keys are ints or texts; sorted; a star in a display; x[k] += e. -/
namespace Fw
open PySem PySem.Spec PyProof.Rows L2 FwZ
section
variable {K : PySem.W.Frag} {W : Wd} {B F0 H H' F F' : Hp} {σ σ' : L2.St} {ρ ρ' : Env} {s s' : W.S} {i : Nat} {ta tb te : TE} {fa fb fe : E W.S}
theorem key_dv {F : Hp} {v : V} {d : D} {k : Key} (h : Dv K F v d) (e : key? d = some k) : v = kV k := by
  cases h <;> simp only [key?, reduceCtorEq, Option.some.injEq] at e <;> subst e <;> rfl
theorem val_zip {F : Hp} {k : L2.Key} : ∀ {ks : List L2.Key} {vs : List V} {ds : List D}, Dvs K F vs ds → ks.length = vs.length →
    (∀ d, dval (ks.zip ds) k = some d → ∃ v, valV (ks.zip vs) k = some v ∧ Dv K F v d) ∧ (valV (ks.zip vs) k).isSome = (dval (ks.zip ds) k).isSome
  | [], [], [], _, _ => ⟨fun d h => (by cases h), rfl⟩
  | k' :: ks, v :: vs, d :: ds, .cons h r, hl => by
    obtain ⟨a, b⟩ := val_zip (k := k) r (by simpa using hl)
    by_cases e : k' = k
    · have e1 : valV ((k' :: ks).zip (v :: vs)) k = some v := valV_pos (p := (k', v)) e
      have e2 : dval ((k' :: ks).zip (d :: ds)) k = some d := by unfold dval; simp [List.find?_cons, e]
      rw [e1, e2]
      exact ⟨fun d' h' => by cases h'; exact ⟨v, rfl, h⟩, rfl⟩
    · have e1 : valV ((k' :: ks).zip (v :: vs)) k = valV (ks.zip vs) k := valV_neg (p := (k', v)) e
      have e2 : dval ((k' :: ks).zip (d :: ds)) k = dval (ks.zip ds) k := by unfold dval; simp [List.find?_cons, e]
      rw [e1, e2]
      exact ⟨a, b⟩
  | [], _ :: _, _, _, hl => by simp at hl
  | _ :: _, [], _, _, hl => by simp at hl
theorem any_zip {k : L2.Key} {α : Type} : ∀ {ks : List L2.Key} {vs : List α}, ks.length = vs.length → ((ks.zip vs).any fun kv => decide (kv.1 = k)) = ks.any fun j => decide (j = k)
  | [], [], _ => rfl
  | _ :: ks, _ :: vs, hl => by
    rw [List.zip_cons_cons, List.any_cons, List.any_cons, any_zip (by simpa using hl)]
  | [], _ :: _, hl => by simp at hl
  | _ :: _, [], hl => by simp at hl
theorem map_zip {F : Hp} {k : L2.Key} {v : V} {d : D} (hv : Dv K F v d) : ∀ {ks : List L2.Key} {vs : List V} {ds : List D}, Dvs K F vs ds → ks.length = vs.length →
    ∃ vs' ds', (ks.zip vs).map (fun kv => if kv.1 = k then (kv.1, v) else kv) = ks.zip vs' ∧ (ks.zip ds).map (fun kv => if kv.1 = k then (kv.1, d) else kv) = ks.zip ds' ∧ ks.length = vs'.length ∧ Dvs K F vs' ds'
  | [], [], [], _, _ => ⟨[], [], rfl, rfl, rfl, .nil⟩
  | k' :: ks, w :: vs, e :: ds, .cons h r, hl => by
    obtain ⟨vs', ds', a, b, c, q⟩ := map_zip hv r (ks := ks) (by simpa using hl)
    by_cases z : k' = k
    · refine ⟨v :: vs', d :: ds', ?_, ?_, by simp [c], .cons hv q⟩
      · rw [List.zip_cons_cons, List.map_cons, a, if_pos z, List.zip_cons_cons]
      · rw [List.zip_cons_cons, List.map_cons, b, if_pos z, List.zip_cons_cons]
    · refine ⟨w :: vs', e :: ds', ?_, ?_, by simp [c], .cons h q⟩
      · rw [List.zip_cons_cons, List.map_cons, a, if_neg z, List.zip_cons_cons]
      · rw [List.zip_cons_cons, List.map_cons, b, if_neg z, List.zip_cons_cons]
  | [], _ :: _, _, _, hl => by simp at hl
  | _ :: _, [], _, _, hl => by simp at hl
theorem snoc_zip {α : Type} {x : α} {k : L2.Key} : ∀ {ks : List L2.Key} {vs : List α}, ks.length = vs.length → ks.zip vs ++ [(k, x)] = (ks ++ [k]).zip (vs ++ [x])
  | [], [], _ => rfl
  | _ :: ks, _ :: vs, hl => by
    rw [List.zip_cons_cons, List.cons_append, snoc_zip (by simpa using hl)]
    rfl
  | [], _ :: _, hl => by simp at hl
  | _ :: _, [], hl => by simp at hl
theorem put_zip {F : Hp} {k : L2.Key} {v : V} {d : D} (hv : Dv K F v d) {ks : List L2.Key} {vs : List V} {ds : List D} (r : Dvs K F vs ds) (hl : ks.length = vs.length) :
    ∃ (ks' : List L2.Key) (vs' : List V) (ds' : List D), putK (ks.zip vs) k v = ks'.zip vs' ∧ dput (ks.zip ds) k d = ks'.zip ds' ∧ ks'.length = vs'.length ∧ Dvs K F vs' ds' := by
  have hl2 : ks.length = ds.length := by rw [hl, r.length]
  unfold putK dput
  rw [any_zip hl, any_zip hl2]
  split
  · obtain ⟨vs', ds', a, b, c, q⟩ := map_zip hv r hl
    exact ⟨ks, vs', ds', a, b, c, q⟩
  · exact ⟨ks ++ [k], vs ++ [v], ds ++ [d], snoc_zip hl, snoc_zip hl2, by simp [hl], r.append (.cons hv .nil)⟩
theorem dct_inv {F : Hp} {v : V} {kvs : List (Key × D)} (h : Dv K F v (.dct kvs)) : ∃ (a : Addr) (ks : List L2.Key) (vs : List V) (ds : List D), v = .ref a ∧ kvs = ks.zip ds ∧ F a = some (.dK (ks.zip vs)) ∧ ks.length = vs.length ∧ Dvs K F vs ds := by
  generalize e : D.dct kvs = d at h
  cases h with
  | dct h1 r l => cases e; exact ⟨_, _, _, _, rfl, rfl, h1, l, r⟩
  | _ => cases e
/-! ### in, item, store -/
def rKIn : R2 := fun y x H Q => ∃ a o, x = .ref a ∧ DGet H a y o ∧ Q (.bl o.isSome) H
def rKNotIn : R2 := fun y x H Q => ∃ a o, x = .ref a ∧ DGet H a y o ∧ Q (.bl (!o.isSome)) H
def rKGet : R2 := fun x y H Q => ∃ a v, x = .ref a ∧ DGet H a y (some v) ∧ Q v H
theorem f2_kin : Flat2 K rKIn dKIn := fun F x y dx dy d hx hy e => by
  cases dy with
  | dct kvs =>
    obtain ⟨a, ks, vs, ds, rfl, rfl, h1, hl, r⟩ := dct_inv hy
    simp only [dKIn, Option.map_eq_some_iff] at e
    obtain ⟨k, hk, rfl⟩ := e
    have ex := key_dv hx hk
    refine ⟨_, fun F => .bl _, fun H Q sub q => ?_⟩
    refine ⟨a, valV (ks.zip vs) k, rfl, ?_, ?_⟩
    · rw [ex]; exact DGet.k (sub _ _ h1)
    · rw [(val_zip (k := k) r hl).2]; exact q
  | _ => cases e
theorem f2_knin : Flat2 K rKNotIn dKNotIn := fun F x y dx dy d hx hy e => by
  cases dy with
  | dct kvs =>
    obtain ⟨a, ks, vs, ds, rfl, rfl, h1, hl, r⟩ := dct_inv hy
    simp only [dKNotIn, Option.map_eq_some_iff] at e
    obtain ⟨k, hk, rfl⟩ := e
    have ex := key_dv hx hk
    refine ⟨_, fun F => .bl _, fun H Q sub q => ?_⟩
    refine ⟨a, valV (ks.zip vs) k, rfl, ?_, ?_⟩
    · rw [ex]; exact DGet.k (sub _ _ h1)
    · rw [(val_zip (k := k) r hl).2]; exact q
  | _ => cases e
theorem r2_kget : SemR2 K W rKGet dKGet := fun B F0 σ H F ρ s R x y dx dy d hx hy e Q q => by
  cases dx with
  | dct kvs =>
    obtain ⟨a, ks, vs, ds, rfl, rfl, h1, hl, r⟩ := dct_inv hx
    simp only [dKGet, Option.bind_eq_some_iff] at e
    obtain ⟨k, hk, hd⟩ := e
    have ex := key_dv hy hk
    obtain ⟨v, hv, dv⟩ := (val_zip (k := k) r hl).1 d hd
    refine ⟨a, v, rfl, ?_, q v H F R (Sub.refl F) dv⟩
    rw [ex, ← hv]
    exact DGet.k (R.fh _ _ h1)
  | _ => cases e
/-- an item of an owned dict -/
theorem se_blGet {tb : TE} {fb : E W.S} (hb : SemE K W tb fb) {i : Nat} : SemE K W (tDGet (tVar i) tb) (eBL dKGet i fb) := fun B F0 σ H F ρ s R d ρ' s' e Q q => by
  unfold eBL at e
  split at e
  · rename_i x0 hx0
    split at e
    · rename_i y ρ1 s1 h1
      split at e
      · rename_i x hx
        split at e
        · rename_i z hz
          cases e
          obtain ⟨v0, _, g0, _⟩ := R.look hx0
          refine ⟨v0, g0, hb B F0 σ H F ρ s R _ _ _ h1 _ fun w H1 F1 R1 sub1 d1 => ?_⟩
          cases x with
          | sh dx =>
            obtain ⟨v, g1, g2⟩ := R1.sl.sh i dx hx
            rw [g0] at g1
            cases g1
            exact r2_kget B F0 σ H1 F1 _ _ R1 v0 w dx y d g2 d1 hz Q fun v' H' F' R' sub' d' => q v' H' F' R' (sub1.trans sub') d'
          | ow dx =>
            obtain ⟨a, g1, _, _, _, hh⟩ := R1.sl.ow i dx hx
            rw [g0] at g1
            cases g1
            cases dx with
            | dct kvs =>
              obtain ⟨ks, vs, ds, rfl, g5, hl, r⟩ := hh.d
              simp only [Sl.d, dKGet, Option.bind_eq_some_iff] at hz
              obtain ⟨k, hk, hd⟩ := hz
              have ex := key_dv d1 hk
              obtain ⟨v, hv, dv⟩ := (val_zip (k := k) r hl).1 d hd
              refine ⟨a, v, rfl, ?_, q v H1 F1 R1 sub1 dv⟩
              rw [ex, ← hv]
              exact DGet.k g5
            | _ => cases hz
        · cases e
      · cases e
    · cases e
  · cases e
theorem ss_putK (ha : SemE K W ta fa) {tk : TE} {fk : E W.S} (hk : SemE K W tk fk) {i : Nat} : SemS K W (sDPut (tVar i) tk ta) (sPutK fa i fk) := fun B F0 σ H F ρ s R o e Dd q => by
  unfold sPutK at e
  split at e
  · rename_i x ρ1 s1 k1
    split at e
    · rename_i ds0 hx0
      split at e
      · rename_i y ρ2 s2 k2
        split at e
        · rename_i kvs k hx hk'
          split at e
          · rename_i hlt
            cases e
            refine ha B F0 σ H F ρ s R _ _ _ k1 _ fun v H1 F1 R1 sub1 d1 => ?_
            obtain ⟨a, g1, _⟩ := R1.sl.ow i _ hx0
            refine ⟨_, g1, hk B F0 σ H1 F1 _ _ R1 _ _ _ k2 _ fun w H2 F2 R2 sub2 d2 => ?_⟩
            obtain ⟨a', m1, _, _, _, hh⟩ := R2.sl.ow i _ hx
            rw [g1] at m1
            cases m1
            obtain ⟨ks, vs, ds, rfl, m5, hl, r⟩ := hh.d
            have ex := key_dv d2 hk'
            obtain ⟨ks', vs', ds', p1, p2, p3, p4⟩ := put_zip (k := k) (d1.mono sub2) r hl
            have hz : (ks.zip vs).length < sizeLine := by
              have e1 : (ks.zip vs).length = (ks.zip ds).length := by rw [List.length_zip, List.length_zip, r.length]
              rw [e1]
              exact lim_lt hlt
            refine ⟨a, _, rfl, by rw [ex]; exact DPut.k m5 hz, ?_⟩
            rw [p1]
            rw [p2] at q
            exact q _ _ F2 (R2.writeO hx g1 (.inr ⟨ks', vs', ds', rfl, rfl, p3, p4⟩)) (sub1.trans sub2)
          · cases e
        · cases e
      · cases e
    · cases e
  · cases e
/-! ### new dicts -/
theorem snd_dnew : SemND K W tDNewK (eC (.dct [])) := fun B F0 σ H F ρ s R d ρ' s' e Q q => by
  cases e
  intro p hp
  exact q p _ _ F (R.keep hp) (R.bh.none hp) (R.fh.none hp) (Sub.refl F) (.inr ⟨[], [], [], rfl, rfl, rfl, .nil⟩)
theorem Rel.rekeep {p : Addr} {o o' : HO} (R : Rel K W (upd B p o) F0 σ H F ρ s) (hB : B p = none) (hF : F p = none) : Rel K W (upd B p o') F0 σ (upd H p o') F ρ s := by
  have np : ∀ x, W.fp x → x ≠ p := fun x hx e => by
    have := R.ob x hx
    rw [e, upd_same] at this; cases this
  refine ⟨fun x u e => ?_, R.fh.updR hF, R.ff, fun x hx => ?_, R.of, fun x hx => ?_, W.stay R.st fun x hx => upd_ne (np x hx), R.len, ?_⟩
  · by_cases z : x = p
    · subst z; rw [upd_same] at e ⊢; exact e
    · rw [upd_ne z] at e ⊢
      exact R.bh x u (by rw [upd_ne z]; exact e)
  · by_cases z : x = p
    · subst z; exact absurd hF hx
    · rcases R.fb x hx with y | y
      · exact .inl y
      · rw [upd_ne z] at y ⊢; exact .inr y
  · have := R.ob x hx
    rw [upd_ne (np x hx)] at this ⊢
    exact this
  · refine R.sl.grow (Sub.refl F) fun i d a _ _ hBa hFa hH => ?_
    have ne : a ≠ p := fun e => by rw [e, upd_same] at hBa; cases hBa
    rw [upd_ne ne] at hBa
    exact ⟨by rw [upd_ne ne]; exact hBa, hFa, upd_ne ne⟩
theorem snd_d1 {tk tv : TE} {fk fv : E W.S} (hk : SemE K W tk fk) (hv : SemE K W tv fv) : SemND K W (tDisp [(tk, tv)]) (eD1 fk fv) := fun B F0 σ H F ρ s R d ρ' s' e Q q => by
  unfold eD1 at e
  split at e
  · rename_i x ρ1 s1 k1
    split at e
    · rename_i y ρ2 s2 k2
      split at e
      · rename_i k hk'
        cases e
        intro p hp
        have hB := R.bh.none hp
        have h0 : F0 p = none := R.ff.none (R.fh.none hp)
        refine hk (upd B p (.dK [])) F0 σ _ F ρ s (R.keep hp) _ _ _ k1 _ fun v H1 F1 R1 sub1 d1 => ?_
        refine hv (upd B p (.dK [])) F0 σ _ F1 _ _ R1 _ _ _ k2 _ fun w H2 F2 R2 sub2 d2 => ?_
        have hF2 : F2 p = none := hold_none R2 h0 (by rw [upd_same]; exact fun z => nomatch z)
        have ex := key_dv d1 hk'
        refine ⟨R2.bh _ _ upd_same, [(k, w)], by rw [ex]; rfl, by simp, ?_⟩
        exact q p _ _ F2 (R2.rekeep hB hF2) hB hF2 (sub1.trans sub2) (.inr ⟨[k], [w], [y], rfl, rfl, rfl, .cons d2 .nil⟩)
      · cases e
    · cases e
  · cases e
/-! ### sorted -/
theorem leI_tr : ∀ a b c : Int, leI a b = true → leI b c = true → leI a c = true := fun a b c h1 h2 => by
  unfold leI at *
  simp only [decide_eq_true_eq] at *
  omega
theorem leI_tot : ∀ a b : Int, (leI a b || leI b a) = true := fun a b => by
  unfold leI
  simp only [Bool.or_eq_true, decide_eq_true_eq]
  omega
theorem sorted_eq {ys ks : List Int} (hp : ys.Perm ks) (hs : ys.Pairwise (· ≤ ·)) : ys = ks.mergeSort leI := by
  have p2 : ys.Perm (ks.mergeSort leI) := hp.trans (List.mergeSort_perm ks leI).symm
  have s2 : (ks.mergeSort leI).Pairwise (· ≤ ·) := (List.pairwise_mergeSort leI_tr leI_tot ks).imp fun h => of_decide_eq_true h
  exact List.Perm.eq_of_pairwise (fun a b _ _ h1 h2 => Int.le_antisymm h1 h2) hs s2 p2
theorem keys_zip : ∀ {ks : List L2.Key} {ds : List D} {is : List Int}, ks.length = ds.length → keysI? (ks.zip ds) = some is → ks = is.map Sum.inl
  | [], [], is, _, h => by cases h; rfl
  | .inl i :: ks, d :: ds, is, hl, h => by
    simp only [List.zip_cons_cons, keysI?, Option.map_eq_some_iff] at h
    obtain ⟨js, h1, rfl⟩ := h
    rw [keys_zip (by simpa using hl) h1]
    rfl
  | .inr _ :: ks, d :: ds, is, hl, h => by cases h
  | [], _ :: _, _, hl, _ => by simp at hl
  | _ :: _, [], _, hl, _ => by simp at hl
theorem dvs_ints {F : Hp} : ∀ l : List Int, Dvs K F (l.map V.int) (l.map D.int)
  | [] => .nil
  | i :: r => .cons (.int i) (dvs_ints r)
def rSortK : List V → Hp → VK → Prop := fun xs H Q => ∃ (a : Addr) (kvs : List (Key × V)) (ks : List Int), xs = [.ref a] ∧ Rd H a (.dK kvs) ∧ kvs.map (·.1) = ks.map Sum.inl ∧ ks.length < 64 ∧
    ∀ (ys : List Int) (p : Addr), ys.Perm ks → ys.Pairwise (· ≤ ·) → H p = none → Q (.ref p) (upd H p (.lst (ys.map V.int)))
theorem bn_sortK : SemBN K W rSortK (on1 dSortK) := fun B F0 σ H F ρ s R xs ds d hx e Q q => by
  cases hx with
  | nil => cases e
  | cons h r =>
    cases r with
    | cons h2 r2 => cases e
    | nil =>
      rename_i v dx
      cases dx with
      | dct kvs =>
        obtain ⟨a, ks, vs, ds, rfl, rfl, h1, hl, r⟩ := dct_inv h
        simp only [on1, dSortK, Option.bind_eq_some_iff] at e
        obtain ⟨is, hi, e⟩ := e
        split at e
        · rename_i h64
          cases e
          have hl2 : ks.length = ds.length := by rw [hl, r.length]
          have hks := keys_zip hl2 hi
          refine ⟨a, ks.zip vs, is, rfl, .inl (R.fh _ _ h1), ?_, h64, fun ys p hp hs hn => ?_⟩
          · rw [List.map_fst_zip (by omega)]; exact hks
          · rw [sorted_eq hp hs]
            have hz : ((is.mergeSort leI).map V.int).length ≤ sizeLine := by
              rw [List.length_map, List.length_mergeSort]
              exact lim_size (by show _ ≤ 16777216; omega)
            exact lay_new R hz (dvs_ints _) q p hn
        · cases e
      | _ => cases e
theorem bn_sortI : SemBN K W (rSortedI K) (on1 dSortI) := fun B F0 σ H F ρ s R xs ds d hx e Q q => by
  cases hx with
  | nil => cases e
  | cons h r =>
    cases r with
    | cons h2 r2 => cases e
    | nil =>
      rename_i v dx
      cases dx with
      | lst es =>
        simp only [on1, dSortI, Option.bind_eq_some_iff, Option.some.injEq] at e
        obtain ⟨is, hi, rfl⟩ := e
        cases h with
        | lst h1 hz r =>
          have := r.ints _ hi
          subst this
          refine ⟨_, is, rfl, .inl (.inl (R.fh _ _ h1)), fun ys p hp hs hn => ?_⟩
          rw [sorted_eq hp hs]
          refine lay_new R ?_ (dvs_ints _) q p hn
          rw [List.length_map, List.length_mergeSort]
          simpa using hz
      | _ => cases e
/-! ### a star -/
theorem sa_star {t : TA} {r : As W.S} (ha : SemE K W ta fa) (hr : SemA K W t r) : SemA K W (StX.tStar K ta t) (aStar fa r) := fun B F0 σ H F ρ s R ds ρ' s' e Q q => by
  unfold aStar at e
  split at e
  · rename_i x ρ1 s1 k1
    split at e
    · rename_i xs hxs
      split at e
      · rename_i ys ρ2 s2 k2
        cases e
        refine ha B F0 σ H F ρ s R _ _ _ k1 _ fun v H1 F1 R1 sub1 d1 => ?_
        have key : ∃ p vs, v = V.ref p ∧ (SqT K H1 p vs ∨ SqL K H1 p vs) ∧ Dvs K F1 vs xs := by
          cases d1 with
          | tup h1 hz r => simp only [items?, Option.some.injEq] at hxs; subst hxs; exact ⟨_, _, rfl, .inl (R1.fh.seqT h1), r⟩
          | lst h1 hz r => simp only [items?, Option.some.injEq] at hxs; subst hxs; exact ⟨_, _, rfl, .inr (.inl (.inl (R1.fh _ _ h1))), r⟩
          | _ => cases hxs
        obtain ⟨p, vs, rfl, hq, r⟩ := key
        refine ⟨p, vs, rfl, hq, hr B F0 σ H1 F1 _ _ R1 _ _ _ k2 _ fun ws H2 F2 R2 sub2 d2 => ?_⟩
        exact q _ H2 F2 R2 (sub1.trans sub2) ((r.mono sub2).append d2)
      · cases e
    · cases e
  · cases e
/-! ### x[k] += e -/
def rGetL : V → V → Hp → VK → Prop := fun x y H Q => ∃ p xs i v, x = .ref p ∧ y = .int i ∧ H p = some (.lst xs) ∧ atI xs i = some v ∧ Q v H
theorem get_list {X : Cx} : PGet X rGetL := fun pins s σ H o i ov iv Q I ro ri h => by
  obtain ⟨p, xs, i, z, rfl, rfl, hq, he, q⟩ := h
  cases ro
  obtain ⟨t, rfl⟩ := ri
  obtain ⟨its, r, pl, hz⟩ := I.list (.inl (.inl hq) : SqL X.K H p xs)
  obtain ⟨j, h1, h2, h3, h4, h5⟩ := atI_get he
  obtain ⟨w, ew, rw'⟩ := r.get h2
  have hl := r.length
  have hn := line63
  have fin : EP X pins σ Q w s := ⟨z, H, I, rw', q⟩
  by_cases h0 : 0 ≤ i
  · have hj : i.toNat = j := by
      rw [seqIndex_of h0 h5] at h1
      exact Option.some.inj h1
    exact PySem.wpAny_getItem_list pl.isList h0 (by omega) (by rw [hj]; simpa using ew) fin
  · have hj : (i + (its.toArray.size : Int)).toNat = j := by
      rw [seqIndex_neg (by omega) h4] at h1
      rw [List.size_toArray, ← hl]
      exact Option.some.inj h1
    exact PySem.wpAny_getItem_list_neg pl.isList (by omega) (by rw [List.size_toArray] <;> omega) (by omega) (by rw [hj]; simpa using ew) fin
theorem ss_augIx {tk : TE} {fk : E W.S} (hk : SemE K W tk fk) (ha : SemE K W ta fa) {i : Nat} : SemS K W (tAugS (tVar i) tk ta rGetL (ipI fun i j => i + j) rSetL) (sAugIx dAddI i fk fa) := fun B F0 σ H F ρ s R o e Dd q => by
  unfold sAugIx at e
  split at e
  · rename_i ds00 hx00
    split at e
    · rename_i y ρ1 s1 k1
      split at e
      · rename_i ds hx
        split at e
        · rename_i x hxi
          split at e
          · rename_i z ρ2 s2 k2
            split at e
            · rename_i es w hx2 hw
              split at e
              · rename_i j hj
                cases e
                obtain ⟨a, g0, _, _, _, hh0⟩ := R.sl.ow i _ hx00
                refine ⟨_, g0, hk B F0 σ H F ρ s R _ _ _ k1 _ fun v1 H1 F1 R1 sub1 d1 => ?_⟩
                cases d1
                obtain ⟨a', g1, _, _, _, hh1⟩ := R1.sl.ow i _ hx
                rw [g0] at g1
                cases g1
                obtain ⟨vs, ds', e1, g5, g6, g7⟩ := hh1.l
                cases e1
                rw [← g7.length] at hxi
                cases hjj : ixD vs.length y with
                | none => rw [hjj] at hxi; cases hxi
                | some jj =>
                  rw [hjj] at hxi
                  obtain ⟨u, hu, hd⟩ := g7.get jj (show ds[jj]? = some x from hxi)
                  have hat : atI vs y = some u := by
                    show (ixN vs.length y).bind _ = _
                    rw [ixD_eq, hjj]; exact hu
                  refine ⟨a, vs, y, u, rfl, rfl, g5, hat, ha B F0 σ H1 F1 _ _ R1 _ _ _ k2 _ fun v2 H2 F2 R2 sub2 d2 => ?_⟩
                  cases hd <;> simp only [dAddI, reduceCtorEq] at hw
                  cases d2 <;> simp only [reduceCtorEq, Option.some.injEq] at hw
                  subst hw
                  obtain ⟨a', m1, _, _, _, hh2⟩ := R2.sl.ow i _ hx2
                  rw [g0] at m1
                  cases m1
                  obtain ⟨us, es', e2, m5, m6, m7⟩ := hh2.l
                  cases e2
                  rw [← m7.length] at hj
                  refine ⟨_, _, rfl, rfl, a, us, y, j, rfl, rfl, m5, hj, ?_⟩
                  exact q _ _ F2 (R2.write hx2 g0 (by rw [List.length_set]; exact m6) (m7.set (.int _) j)) (sub1.trans sub2)
              · cases e
            · cases e
          · cases e
        · cases e
      · cases e
    · cases e
  · cases e
end
/-! ### sum of a tuple -/
section
variable {P : Program} {w : World} {A : Around} {E : Value → Shared → Prop} {s : Shared}
theorem sum_rawT {t : Addr} {its : List Value} {ns : List Int} {Q : Value → Shared → Prop} (hh : A.handled = none) (hl : s.heap.IsTuple t its.toArray) (hi : IntsAre its ns)
    (h : ∀ h' tk t', (∀ b o, s.heap.get? b = some o → h'.get? b = some o) → Q (.int ns.sum t') { s with heap := h', toks := tk }) : wpAny (model P w) A (call (.builtin "sum") [.ref t]) Q E s := by
  obtain ⟨xs, e⟩ := hi.allInts.items
  have hn : numsOf (intItems xs).toList = ns := by rw [← e]; exact hi.numsOf
  rw [nums_intItems] at hn
  rw [e] at hl
  refine PySem.W.ktm_sumG hh hl fun h' tk t' hk => ?_
  have := h h' tk t' hk
  rw [preSum_eq, List.take_of_length_le (by simp), hn]; exact this
end
def rSumA (K : PySem.W.Frag) : List V → Hp → VK → Prop := fun vs H Q => ∃ (k : IK) (a : Addr) (ns : List Int), vs = [V.ref a] ∧ SqK K H k a (ns.map V.int) ∧ Q (.int ns.sum) H
theorem cr_sumA {X : Cx} (hc : X.calm = true) : CallR X (.builtin "sum") (rSumA X.K) := by
  intro pins s σ H vs us Q I r h
  obtain ⟨k, a, ns, rfl, hs, q⟩ := h
  obtain ⟨its, rv, hl, _⟩ := inv_sqK I hs
  rw [Vals.ref1 r]
  cases k
  · exact sum_raw (I.ok.hd hc) hl rv.ints fun h' tk t' hk => ⟨.int _, H, I.kept hk, ⟨_, rfl⟩, q⟩
  · exact sum_rawT (I.ok.hd hc) hl rv.ints fun h' tk t' hk => ⟨.int _, H, I.kept hk, ⟨_, rfl⟩, q⟩
theorem f1_sumA {K : PySem.W.Frag} : Flat1 K (rSumA K) dSumA := fun F x dx d hx e => by
  simp only [dSumA, Option.bind_eq_some_iff, Option.map_eq_some_iff] at e
  obtain ⟨ds, h1, is, h2, rfl⟩ := e
  obtain ⟨k, a, xs, rfl, hq, r, z⟩ := hx.itemsK h1
  have hxs := r.ints _ h2
  subst hxs
  exact ⟨_, fun _ => .int _, fun H Q sub q => ⟨k, a, is, rfl, sub.sqK hq, q⟩⟩
end Fw
/-! ## FwK2 -/
set_option Elab.async false
set_option linter.all false
set_option maxRecDepth 100000
set_option maxHeartbeats 1000000
/-! dict(pairs), len of a dict, count and index of lists, tuple(range(n)); own tuples that are known to be bare. -/
namespace Fw
open PySem PySem.Spec PyProof.Rows L2 FwZ
section
variable {K : PySem.W.Frag} {W : Wd} {B F0 H H' F F' : Hp} {σ σ' : L2.St} {ρ ρ' : Env} {s s' : W.S} {i : Nat} {ta tb te : TE} {fa fb fe : E W.S}
def SemBND (K : PySem.W.Frag) (W : Wd) (r : List V → Hp → VK → Prop) (op : List D → Option D) : Prop := ∀ B F0 σ H F ρ (s : W.S), Rel K W B F0 σ H F ρ s → ∀ xs ds d, Dvs K F xs ds → op ds = some d → ∀ Q : VK,
  (∀ p o H' F', Rel K W (upd B p o) F0 σ H' F' ρ s → B p = none → F' p = none → Sub F F' → OwO K F' o d → Q (.ref p) H') → r xs H Q
theorem snd_b1 {r : List V → Hp → VK → Prop} {op : D → Option D} (h : SemBND K W r (on1 op)) (ha : SemE K W ta fa) : SemND K W (tCB r (tCons ta tNil)) (e1 op fa) := fun B F0 σ H F ρ s R d ρ' s' e Q q => by
  unfold e1 at e
  split at e
  · rename_i x ρ1 s1 h1
    split at e
    · rename_i z hz
      cases e
      refine ha B F0 σ H F ρ s R _ _ _ h1 _ fun v H1 F1 R1 sub1 d1 => ?_
      exact h B F0 σ H1 F1 _ _ R1 [v] [x] _ (.cons d1 .nil) hz Q fun p o H' F' R' hB hF sub' ho => q p o H' F' R' hB hF (sub1.trans sub') ho
    · cases e
  · cases e
theorem pairs_dv {F : Hp} : ∀ {ds : List D} {vs : List V} {kvs : List (Key × D)}, Dvs K F vs ds → pairs? ds = some kvs →
    ∃ (ps : List Addr) (ks : List L2.Key) (ws : List V) (es : List D), vs = ps.map V.ref ∧ kvs = ks.zip es ∧ ks.length = ws.length ∧ Dvs K F ws es ∧ Paired (fun p (kv : L2.Key × V) => SqT K F p [kV kv.1, kv.2]) ps (ks.zip ws)
  | [], [], kvs, _, h => by
    cases h
    exact ⟨[], [], [], [], rfl, rfl, rfl, .nil, .nil⟩
  | d :: ds, v :: vs, kvs, .cons hd hr, h => by
    match d, hd, h with
    | .tup [k, e], hd, h =>
      simp only [pairs?, Option.bind_eq_some_iff, Option.map_eq_some_iff] at h
      obtain ⟨kk, hk, more, hm, rfl⟩ := h
      obtain ⟨ps, ks, ws, es, rfl, rfl, h3, h4, h5⟩ := pairs_dv hr hm
      generalize et : D.tup [k, e] = dt at hd
      cases hd with
      | tup h1 hz r =>
        cases et
        cases r with
        | cons r1 r2 =>
          cases r2 with
          | cons r3 r4 =>
            cases r4
            rename_i a u w
            have eu := key_dv r1 hk
            subst eu
            exact ⟨a :: ps, kk :: ks, w :: ws, e :: es, rfl, rfl, by simp [h3], .cons r3 h4, .cons h1 h5⟩
      | _ => cases et
  | [], _ :: _, _, h, _ => by cases h
  | _ :: _, [], _, h, _ => by cases h
theorem merge_zip {F : Hp} : ∀ {ks : List L2.Key} {ws : List V} {es : List D} {as : List L2.Key} {xs : List V} {ds : List D}, Dvs K F ws es → ks.length = ws.length → Dvs K F xs ds → as.length = xs.length →
    ∃ (as' : List L2.Key) (xs' : List V) (ds' : List D), mergeK (as.zip xs) (ks.zip ws) = as'.zip xs' ∧ (ks.zip es).foldl (fun acc kv => dput acc kv.1 kv.2) (as.zip ds) = as'.zip ds' ∧ as'.length = xs'.length ∧ Dvs K F xs' ds'
  | [], [], [], as, xs, ds, _, _, hx, hl => ⟨as, xs, ds, rfl, rfl, hl, hx⟩
  | k :: ks, w :: ws, e :: es, as, xs, ds, .cons h r, hkl, hx, hl => by
    obtain ⟨as1, xs1, ds1, p1, p2, p3, p4⟩ := put_zip (k := k) h hx hl
    obtain ⟨as2, xs2, ds2, q1, q2, q3, q4⟩ := merge_zip (ks := ks) r (by simpa using hkl) p4 p3
    refine ⟨as2, xs2, ds2, ?_, ?_, q3, q4⟩
    · show mergeK (putK (as.zip xs) k w) (ks.zip ws) = _
      rw [p1]; exact q1
    · show (ks.zip es).foldl (fun acc kv => dput acc kv.1 kv.2) (dput (as.zip ds) k e) = _
      rw [p2]; exact q2
  | [], _ :: _, _, _, _, _, _, h, _, _ => by simp at h
  | _ :: _, [], _, _, _, _, _, h, _, _ => by simp at h
def rDictP (K : PySem.W.Frag) : List V → Hp → VK → Prop := fun xs H Q => ∃ (a : Addr) (ps : List Addr) (kvs : List (Key × V)), xs = [.ref a] ∧ SqL K H a (ps.map V.ref) ∧ Paired (fun p kv => SqT K H p [kV kv.1, kv.2]) ps kvs ∧
    ∀ p, H p = none → Q (.ref p) (upd H p (.dK (mergeK [] kvs)))
theorem paired_mono {α β : Type} {R R' : α → β → Prop} (h : ∀ a b, R a b → R' a b) : ∀ {xs : List α} {ys : List β}, Paired R xs ys → Paired R' xs ys
  | _, _, .nil => .nil
  | _, _, .cons a r => .cons (h _ _ a) (paired_mono h r)
theorem bnd_dictP : SemBND K W (rDictP K) (on1 dDictP) := fun B F0 σ H F ρ s R xs ds d hx e Q q => by
  cases hx with
  | nil => cases e
  | cons h r =>
    cases r with
    | cons h2 r2 => cases e
    | nil =>
      rename_i v dx
      cases dx with
      | lst es =>
        simp only [on1, dDictP, Option.map_eq_some_iff] at e
        obtain ⟨kvs, hk, rfl⟩ := e
        cases h with
        | lst h1 hz r =>
          obtain ⟨ps, ks, ws, us, rfl, rfl, h3, h4, h5⟩ := pairs_dv r hk
          obtain ⟨as', xs', ds', q1, q2, q3, q4⟩ := merge_zip (as := []) (xs := []) (ds := []) h4 h3 .nil rfl
          refine ⟨_, ps, ks.zip ws, rfl, .inl (.inl (R.fh _ _ h1)), paired_mono (fun p kv hh => R.fh.seqT hh) h5, fun p hp => ?_⟩
          rw [show mergeK [] (ks.zip ws) = as'.zip xs' from q1]
          refine q p _ _ F (R.keep hp) (R.bh.none hp) (R.fh.none hp) (Sub.refl F) (.inr ⟨as', xs', ds', ?_, rfl, q3, q4⟩)
          exact congrArg D.dct q2
      | _ => cases e
def rLenD : List V → Hp → VK → Prop := fun xs H Q => ∃ a kvs, xs = [V.ref a] ∧ H a = some (.dK kvs) ∧ Q (.int kvs.length) H
theorem f1_lenK : Flat1 K rLenD dLenK := fun F x dx d hx e => by
  cases dx with
  | dct kvs =>
    obtain ⟨a, ks, vs, ds, rfl, rfl, h1, hl, r⟩ := dct_inv hx
    cases e
    refine ⟨_, fun _ => .int _, fun H Q sub q => ⟨a, _, rfl, sub _ _ h1, ?_⟩⟩
    have : (ks.zip vs).length = (ks.zip ds).length := by rw [List.length_zip, List.length_zip, r.length]
    rw [this]; exact q
  | _ => cases e
/-! ### methods of shared lists -/
/-- a method of a list, of flat outcome -/
structure FlatM (K : PySem.W.Frag) (r : V → List V → Hp → VK → Prop) (op : D → D → Option D) : Prop where
  lst : ∀ dx dy d, op dx dy = some d → ∃ es, dx = .lst es
  run : ∀ F x y dx dy d, Dv K F x dx → Dv K F y dy → op dx dy = some d → ∃ v, (∀ F, Dv K F v d) ∧ ∀ H Q, Sub F H → Q v H → r x [y] H Q
theorem se_bm {r : V → List V → Hp → VK → Prop} {op : D → D → Option D} (h : FlatM K r op) (ha : SemE K W ta fa) (hb : SemE K W tb fb) : SemE K W (tBM K "list" r ta (tCons tb tNil)) (e2 op fa fb) := fun B F0 σ H F ρ s R d ρ' s' e Q q => by
  unfold e2 at e
  split at e
  · rename_i x ρ1 s1 h1
    split at e
    · rename_i y ρ2 s2 h2
      split at e
      · rename_i z hz
        cases e
        obtain ⟨es, rfl⟩ := h.lst _ _ _ hz
        refine ha B F0 σ H F ρ s R _ _ _ h1 _ fun v H1 F1 R1 sub1 d1 => ?_
        have d1' := d1
        cases d1' with
        | lst g1 g2 g3 =>
          refine ⟨.inl ⟨rfl, _, .inl (.inl (R1.fh _ _ g1))⟩, hb B F0 σ H1 F1 _ _ R1 _ _ _ h2 _ fun w H2 F2 R2 sub2 d2 => ?_⟩
          obtain ⟨u, hu, k⟩ := h.run F2 _ w _ _ _ (d1.mono sub2) d2 hz
          exact k H2 Q R2.fh (q u H2 F2 R2 (sub1.trans sub2) (hu F2))
      · cases e
    · cases e
  · cases e
/-- the same, the list owned -/
theorem se_blm {r : V → List V → Hp → VK → Prop} {op : D → D → Option D} (h : FlatM K r op) (hb : SemE K W tb fb) {i : Nat} : SemE K W (tBM K "list" r (tVar i) (tCons tb tNil)) (eBLM op i fb) := fun B F0 σ H F ρ s R d ρ' s' e Q q => by
  unfold eBLM at e
  split at e
  · rename_i ds00 hx00
    unfold eBL at e
    split at e
    · rename_i x0 hx0
      split at e
      · rename_i y ρ1 s1 h1
        split at e
        · rename_i x hx
          split at e
          · rename_i z hz
            cases e
            obtain ⟨a, g0, _, _, _, hh⟩ := R.sl.ow i _ hx00
            obtain ⟨vs, ds', e1, g5, _⟩ := hh.l
            refine ⟨_, g0, .inl ⟨rfl, _, SqL.of g5⟩, hb B F0 σ H F ρ s R _ _ _ h1 _ fun w H1 F1 R1 sub1 d1 => ?_⟩
            obtain ⟨v, F', h1, sub2, h2, h3⟩ := R1.look hx
            rw [g0] at h1
            cases h1
            obtain ⟨u, hu, k⟩ := h.run F' _ w _ _ _ h3 (d1.mono sub2) hz
            exact k H1 Q h2 (q u H1 F1 R1 sub1 (hu F1))
          · cases e
        · cases e
      · cases e
    · cases e
  · cases e
theorem fm_count : FlatM K (rCntI K) dCount where
  lst := fun dx dy d e => by
    cases dx <;> simp only [dCount, reduceCtorEq] at e
    exact ⟨_, rfl⟩
  run := fun F x y dx dy d hx hy e => by
    cases dx <;> cases dy <;> simp only [dCount, reduceCtorEq, Option.map_eq_some_iff] at e
    obtain ⟨is, hi, rfl⟩ := e
    cases hx with
    | lst h1 hz r =>
      cases hy
      have := r.ints _ hi
      subst this
      exact ⟨_, fun _ => .int _, fun H Q sub q => ⟨_, is, _, rfl, rfl, .inl (.inl (sub _ _ h1)), q⟩⟩
def rIdxI (K : PySem.W.Frag) : V → List V → Hp → VK → Prop := fun x xs H Q => ∃ (p : Addr) (ns : List Int) (k : Int), x = .ref p ∧ xs = [.int k] ∧ SqL K H p (ns.map V.int) ∧ k ∈ ns ∧ Q (.int (ns.idxOf k : Nat)) H
theorem mt_lindex {X : Cx} : MtR X "list.index" (rIdxI X.K) := by
  intro pins s σ H x xs v us Q I rx rxs h
  obtain ⟨p, ns, k, rfl, rfl, hs, hk, q⟩ := h
  cases rx
  obtain ⟨u, rfl, ru⟩ := rxs.one
  obtain ⟨t, rfl⟩ := ru
  obtain ⟨its, rv, hl, hz⟩ := I.list hs
  rw [List.length_map] at hz
  exact PySem.SeqAt.list_index_ints hl.isList rv.ints hz hk ⟨.int _, H, I.tok _, ⟨_, rfl⟩, q⟩
theorem fm_index : FlatM K (rIdxI K) dIndex where
  lst := fun dx dy d e => by
    cases dx <;> simp only [dIndex, reduceCtorEq] at e
    exact ⟨_, rfl⟩
  run := fun F x y dx dy d hx hy e => by
    cases dx <;> cases dy <;> simp only [dIndex, reduceCtorEq, Option.bind_eq_some_iff] at e
    obtain ⟨is, hi, e⟩ := e
    split at e
    · rename_i hk
      cases e
      cases hx with
      | lst h1 hz r =>
        cases hy
        have := r.ints _ hi
        subst this
        exact ⟨_, fun _ => .int _, fun H Q sub q => ⟨_, is, _, rfl, rfl, .inl (.inl (sub _ _ h1)), hk, q⟩⟩
    · cases e
/-! ### tuple(range(n)) -/
theorem se_tupR1 (ha : SemE K W ta fa) : SemE K W (tTupRg (tRg1 ta)) (eTupR1 fa) := fun B F0 σ H F ρ s R d ρ' s' e Q q => by
  unfold eTupR1 at e
  split at e
  · rename_i j ρ1 s1 h1
    split at e
    · rename_i hj
      cases e
      refine ha B F0 σ H F ρ s R _ _ _ h1 _ fun v H1 F1 R1 sub1 d1 => ?_
      cases d1
      refine ⟨j, rfl, ⟨by omega, by omega, by omega, by omega, by omega⟩, ?_⟩
      have e0 : (j - 0).toNat = j.toNat := by omega
      unfold rgV
      rw [e0]
      exact lay_tup R1 (by rw [List.length_map, List.length_range]; exact lim_size (by show j.toNat ≤ 16777216; omega)) (rgV_dv j.toNat) fun v H' F' R' sub' d' => q v H' F' R' (sub1.trans sub') d'
    · cases e
  · cases e
/-! ### what is never reached -/
theorem ps_never {X : Cx} {st : Stmt} : PS X st (fun _ _ _ => False) := ⟨fun _ _ _ _ _ _ h => h.elim⟩
theorem ss_never : SemS K W (fun _ _ _ => False) sNever := fun B F0 σ H F ρ s R o e Dd q => by cases e
end
/-! ### tuples that are bare -/
section
variable {X : Cx} {es : List Expr} {o e : Expr} {to : TE} {t : TA} {name : Str} {apos cpos pos : Pos} {T id : String} {r : V → List V → Hp → VK → Prop}
/-- an own tuple's object, without a dict of its own -/
def Bare (H : Hp) (p : Addr) (xs : List V) : Prop := ∃ ob : Obj, H p = some (.frz ob (.tup xs)) ∧ ob.cls = .type "tuple" ∧ ob.dict = none
def tTupZ (t : TA) : TE := fun σ H Q => t σ H fun xs H1 => xs.length ≤ sizeLine ∧ ∀ p (ob : Obj), ob.cls = .type "tuple" → ob.dict = none → H1 p = none → Q (.ref p) (upd H1 p (.frz ob (.tup xs)))
theorem pe_tupZ {x1} (h : PA X es t) : PE X (.Tuple es x1 pos) (tTupZ t) := by
  refine ⟨fun pins s σ H Q I hq => ?_⟩
  refine wpAny_Tuple_spliced (thn (h.run pos pins s σ H _ I hq) fun us s1 ⟨xs, H1, I1, r, z, q⟩ => ⟨by rw [← r.length]; exact z, ?_⟩)
  have hf : H1 s1.heap.objs.size = none := I1.hok.fresh (Nat.le_refl _)
  refine ⟨.ref s1.heap.objs.size, upd H1 s1.heap.objs.size (.frz { cls := .type "tuple", data := .seq us.toArray } (.tup xs)), I1.laid (t' := s1.toks) (fun b u e => Heap.get?_push_of_some _ e) (Nat.le_refl _) ?_, rfl, q _ _ rfl rfl hf⟩
  exact ⟨Heap.get?_push_size _ rfl, z, us, r, ⟨_, Heap.get?_push_size _ rfl, rfl, _, rfl⟩⟩
/-- a method of a bare tuple -/
def tBMZ (r : V → List V → Hp → VK → Prop) (to : TE) (t : TA) : TE := fun σ H Q => to σ H fun x H1 => (∃ p xs, x = .ref p ∧ Bare H1 p xs) ∧ t σ H1 fun xs H2 => r x xs H2 Q
theorem pe_bmZ (pa : PlainAttrs "tuple") (slot : Slot "tuple" name id) (hty : typeOf (.builtin id) = pure (.type "method_descriptor")) (hm : MtR X id r) (ho : PE X o to) (ha : PA X (e :: es) t)
    (hbase : attributeBase o name X.env (eval o X.env) = eval o X.env := by rfl)
    (hfew : ((backTo cpos (starEach (e :: es) X.env)).all (fun x => !x.1) && (backToKw cpos (keywordEach [] X.env)).all (fun x => x.1.isSome)
      && decide ((e :: es).length + ([] : List Keyword).length + (if ([] : List Keyword).isEmpty then 0 else 1) < 30)) = true := by rfl)
    (hline : (apos.endLine == cpos.line) = true := by rfl) (hs : starEach (e :: es) X.env = (false, eval e X.env) :: starEach es X.env := by rfl) (hplain : (backTo cpos (starEach es X.env)).any (·.1) = false := by rfl) :
    PE X (.Call (.Attribute o name apos) (e :: es) [] cpos) (tBMZ r to t) := by
  refine ⟨fun pins s σ H Q I h => ?_⟩
  refine wpAny_Call_method_late hbase hfew hline rfl (thn (ho.run pins s σ H _ I h) fun v s1 ⟨x, H1, I1, r1, ty, q1⟩ => ?_)
  obtain ⟨p, xs, rfl, ob, hb, hc, hd⟩ := ty
  cases r1
  obtain ⟨g1, _⟩ := I1.hok p _ hb
  refine ⟨"tuple", id, pa, slot, hty, ⟨ob, g1, hc⟩, fun a e => by cases e; exact ⟨ob, g1, hd⟩, ?_⟩
  have hA := ha.run cpos pins s1 σ H1 _ I1 q1
  rw [hs] at hA ⊢
  refine Calls.callWith_builtin (by show (false || (backTo cpos (starEach es X.env)).any (·.1)) = false; rw [hplain] <;> rfl) (Calls.evalArgs_plain ?_)
  exact thn hA fun us s2 ⟨vs, H2, I2, r2, q2⟩ => hm pins s2 σ H2 (V.ref p) vs (Value.ref p) us Q I2 (show L2.RelV (V.ref p) (Value.ref p) from rfl) r2 q2
def rTIdx (K : PySem.W.Frag) : V → List V → Hp → VK → Prop := fun x xs H Q => ∃ (p : Addr) (ns : List Int) (k : Int), x = .ref p ∧ xs = [.int k] ∧ SqT K H p (ns.map V.int) ∧ k ∈ ns ∧ Q (.int (ns.idxOf k : Nat)) H
theorem mt_tindex : MtR X "tuple.index" (rTIdx X.K) := by
  intro pins s σ H x xs v us Q I rx rxs h
  obtain ⟨p, ns, k, rfl, rfl, hs, hk, q⟩ := h
  cases rx
  obtain ⟨u, rfl, ru⟩ := rxs.one
  obtain ⟨t, rfl⟩ := ru
  obtain ⟨its, rv, hl, hz⟩ := I.tuple hs
  exact PySem.SeqAt.tuple_index_ints hl rv.ints hk ⟨.int _, H, I.tok _, ⟨_, rfl⟩, q⟩
end
/-- a method's rule, the written part named -/
theorem mtk {X : Cx} {K : PySem.W.Frag} {id : String} (r : PySem.W.Frag → V → List V → Hp → VK → Prop) (hK : X.K = K) (h : MtR X id (r X.K)) : MtR X id (r K) := by
  subst hK
  exact h
end Fw
/-! ## FwK3 -/
set_option Elab.async false
set_option linter.all false
set_option maxRecDepth 100000
set_option maxHeartbeats 2000000
/-! dict(d): a copy. -/
namespace Fw
open PySem PySem.Spec PyProof.Rows L2
section
variable {K : PySem.W.Frag} {W : Wd}
def dDictC : D → Option D
  | .dct kvs => some (.dct kvs)
  | _ => none
def rDictC (K : PySem.W.Frag) : List V → Hp → VK → Prop := fun xs H Q => ∃ (a : Addr) (kvs : List (L2.Key × V)), xs = [.ref a] ∧ Rd H a (.dK kvs) ∧ ∀ p, H p = none → Q (.ref p) (upd H p (.dK kvs))
theorem bnd_dictC : SemBND K W (rDictC K) (on1 dDictC) := fun B F0 σ H F ρ s R xs ds d hx e Q q => by
  cases hx with
  | nil => cases e
  | cons h r =>
    cases r with
    | cons h2 r2 => cases e
    | nil =>
      rename_i v dx
      cases dx with
      | dct es =>
        cases e
        obtain ⟨a, ks, vs, ds', rfl, rfl, h1, hl, r⟩ := dct_inv h
        refine ⟨a, ks.zip vs, rfl, .inl (R.fh _ _ h1), fun p hp => ?_⟩
        exact q p _ _ F (R.keep hp) (R.bh.none hp) (R.fh.none hp) (Sub.refl F) (.inr ⟨ks, vs, ds', rfl, rfl, hl, r⟩)
      | _ => cases e
/-! a[k], b[l], c = x, y, z -/
abbrev Mt (S : Type) := D → Env → S → Option (Env × S)
variable {S : Type}
def mN (i : Nat) : Mt S := fun d ρ s => some (ρ.set i (some (.sh d)), s)
def mK (i : Nat) (k : E S) : Mt S := fun d ρ s => match ρ[i]? with
  | some (some (.ow (.dct _))) => (match k ρ s with
    | some (y, ρ2, s2) => (match ρ2[i]?, key? y with
      | some (some (.ow (.dct kvs))), some k => if kvs.length < LIM then some (ρ2.set i (some (.ow (.dct (dput kvs k d)))), s2) else none
      | _, _ => none)
    | none => none)
  | _ => none
def mNil : List D → Env → S → Option (Env × S)
  | [], ρ, s => some (ρ, s)
  | _, _, _ => none
def mCons (t : Mt S) (r : List D → Env → S → Option (Env × S)) : List D → Env → S → Option (Env × S)
  | d :: ds, ρ, s => (match t d ρ s with
    | some (ρ, s) => r ds ρ s
    | none => none)
  | [], _, _ => none
def mTup (n : Nat) (r : List D → Env → S → Option (Env × S)) : Mt S := fun d ρ s => match d with
  | .tup ds => if ds.length = n then r ds ρ s else none
  | _ => none
def sMAsg (a : E S) (t : Mt S) : C S := fun ρ s => match a ρ s with
  | some (d, ρ, s) => (match t d ρ s with
    | some (ρ, s) => some (.nx, ρ, s)
    | none => none)
  | none => none
def SemM (K : PySem.W.Frag) (W : Wd) (g : TG) (t : Mt W.S) : Prop := ∀ B F0 σ H F ρ (s : W.S), Rel K W B F0 σ H F ρ s → ∀ v d ρ' s', Dv K F v d → t d ρ s = some (ρ', s') → ∀ Q, (∀ σ' H' F', Rel K W B F0 σ' H' F' ρ' s' → Sub F F' → Q σ' H') → g v σ H Q
def SemMs (K : PySem.W.Frag) (W : Wd) (g : TGs) (t : List D → Env → W.S → Option (Env × W.S)) : Prop := ∀ B F0 σ H F ρ (s : W.S), Rel K W B F0 σ H F ρ s → ∀ vs ds ρ' s', Dvs K F vs ds → t ds ρ s = some (ρ', s') → ∀ Q, (∀ σ' H' F', Rel K W B F0 σ' H' F' ρ' s' → Sub F F' → Q σ' H') → g vs σ H Q
theorem sm_n {i : Nat} : SemM K W (L2.gName i) (mN i) := fun B F0 σ H F ρ s R v d ρ' s' hv e Q q => by
  cases e
  exact q _ _ _ (R.setSh hv) (Sub.refl F)
theorem sm_k {i : Nat} {tk : TE} {fk : E W.S} (hk : SemE K W tk fk) : SemM K W (gSub (tVar i) tk rSetD) (mK i fk) := fun B F0 σ H F ρ s R v d ρ' s' d1 e Q q => by
  unfold mK at e
  split at e
  · rename_i ds0 hx0
    split at e
    · rename_i y ρ2 s2 k2
      split at e
      · rename_i kvs k hx hk'
        split at e
        · rename_i hlt
          cases e
          obtain ⟨a, g1, _⟩ := R.sl.ow i _ hx0
          refine ⟨_, g1, hk B F0 σ H F _ _ R _ _ _ k2 _ fun w H2 F2 R2 sub2 d2 => ?_⟩
          obtain ⟨a', m1, _, _, _, hh⟩ := R2.sl.ow i _ hx
          rw [g1] at m1
          cases m1
          obtain ⟨ks, vs, ds, rfl, m5, hl, r⟩ := hh.d
          have ex := key_dv d2 hk'
          obtain ⟨ks', vs', ds', p1, p2, p3, p4⟩ := put_zip (k := k) (d1.mono sub2) r hl
          have hz : (ks.zip vs).length < sizeLine := by
            have e1 : (ks.zip vs).length = (ks.zip ds).length := by rw [List.length_zip, List.length_zip, r.length]
            rw [e1]
            exact lim_lt hlt
          refine ⟨a, _, rfl, by rw [ex]; exact DPut.k m5 hz, ?_⟩
          rw [p1]
          rw [p2] at q
          exact q _ _ F2 (R2.writeO hx g1 (.inr ⟨ks', vs', ds', rfl, rfl, p3, p4⟩)) sub2
        · cases e
      · cases e
    · cases e
  · cases e
theorem sms_nil : SemMs K W L2.gNil mNil := fun B F0 σ H F ρ s R vs ds ρ' s' hv e Q q => by
  cases hv with
  | nil =>
    cases e
    exact ⟨rfl, q σ H F R (Sub.refl F)⟩
  | cons _ _ => cases e
theorem sms_cons {g : TG} {t : Mt W.S} {gs : TGs} {ts : List D → Env → W.S → Option (Env × W.S)} (h : SemM K W g t) (hs : SemMs K W gs ts) : SemMs K W (L2.gCons g gs) (mCons t ts) := fun B F0 σ H F ρ s R vs ds ρ' s' hv e Q q => by
  cases hv with
  | nil => cases e
  | cons h1 h2 =>
    simp only [mCons] at e
    split at e
    · rename_i ρ1 s1 e1
      refine ⟨_, _, rfl, h B F0 σ H F ρ s R _ _ _ _ h1 e1 _ fun σ1 H1 F1 R1 sub1 => ?_⟩
      exact hs B F0 σ1 H1 F1 _ s1 R1 _ _ _ _ (h2.mono sub1) e Q fun σ2 H2 F2 R2 sub2 => q σ2 H2 F2 R2 (sub1.trans sub2)
    · cases e
theorem sm_tup {n : Nat} {gs : TGs} {ts : List D → Env → W.S → Option (Env × W.S)} (hs : SemMs K W gs ts) : SemM K W (L2.gTup K n gs) (mTup n ts) := fun B F0 σ H F ρ s R v d ρ' s' hv e Q q => by
  cases hv <;> simp only [mTup, reduceCtorEq] at e
  rename_i h1 z1 r1
  split at e
  · rename_i hn
    exact ⟨_, _, rfl, R.fh.seqT h1, by rw [r1.length]; exact hn, hs B F0 σ H F ρ s R _ _ _ _ r1 e Q q⟩
  · cases e
theorem ss_masg {ta : TE} {fa : E W.S} {g : TG} {t : Mt W.S} (ha : SemE K W ta fa) (hg : SemM K W g t) : SemS K W (tAsg ta g) (sMAsg fa t) := fun B F0 σ H F ρ s R o e Dd q => by
  unfold sMAsg at e
  split at e
  · rename_i d ρ1 s1 h1
    split at e
    · rename_i ρ2 s2 h2
      cases e
      refine ha B F0 σ H F ρ s R _ _ _ h1 _ fun v H1 F1 R1 sub1 d1 => ?_
      exact hg B F0 σ H1 F1 _ _ R1 _ _ _ _ d1 h2 _ fun σ2 H2 F2 R2 sub2 => q σ2 H2 F2 R2 (sub1.trans sub2)
    · cases e
  · cases e
end
/-! what they mean -/
section
variable {S : Type} {ρ : Env} {s : S}
def wM (x : Option (Env × S)) (Q : Env → S → Prop) : Prop := match x with
  | some (ρ, s) => Q ρ s
  | none => False
end
end Fw
/-! ## FwK4 -/
set_option Elab.async false
set_option linter.all false
set_option maxRecDepth 100000
set_option maxHeartbeats 2000000
/-! x == (), x != (), whatever x holds. -/
namespace L2
open PySem PySem.Spec PyProof.Rows PySem.SeqAt
section
variable {prog : Program} {w : World} {A : Around} {E : Value → Shared → Prop} {s : Shared}
theorem rc_tup0 {l b : Addr} {items : Array Value} {Q : Value → Shared → Prop} (hu : A.units < cLine) (hl : s.heap.IsTuple l items) (hb : s.heap.IsTuple b #[])
    (h : Q (.bool (items.size == 0)) s) : wpAny (model prog w) A (richCompare .Eq (.ref l) (.ref b)) Q E s := by
  obtain ⟨⟨cls, dd, data, sl⟩, ho, hc, n, hd⟩ := id hl
  obtain ⟨⟨cls2, dd2, data2, sl2⟩, ho2, hc2, n2, hd2⟩ := id hb
  simp only at hc hd hc2 hd2
  subst hc hd hc2 hd2
  refine wpAny_richCompare_same_room (op := .Eq) ⟨_, ho, rfl⟩ ⟨_, ho2, rfl⟩ F.slot_tuple_eq (call_meets F.slot_tuple_eq ⟨_, ho, rfl⟩ F.entry_tuple_eq (F.args_tuple_eq_2 _ _)
    (tuple_eqAt l b items #[] n n2 dd dd2 sl sl2 (fun _ => true)) ⟨ho, ho2, fun j h1 h2 => absurd h2 (Nat.not_lt_zero _), ?_⟩) hu
  have e : (((List.range (min items.size (#[] : Array Value).size)).all fun _ => true) && items.size == (#[] : Array Value).size) = (items.size == 0) := by simp
  rw [e]
  exact ⟨(fun x => nomatch x), h⟩
theorem rcn_tup0 {l b : Addr} {items : Array Value} {Q : Value → Shared → Prop} (hu : A.units < cLine) (hl : s.heap.IsTuple l items) (hb : s.heap.IsTuple b #[])
    (h : Q (.bool (!(items.size == 0))) s) : wpAny (model prog w) A (richCompare .NotEq (.ref l) (.ref b)) Q E s := by
  obtain ⟨⟨cls, dd, data, sl⟩, ho, hc, n, hd⟩ := id hl
  obtain ⟨⟨cls2, dd2, data2, sl2⟩, ho2, hc2, n2, hd2⟩ := id hb
  simp only at hc hd hc2 hd2
  subst hc hd hc2 hd2
  refine wpAny_richCompare_same_room (op := .NotEq) ⟨_, ho, rfl⟩ ⟨_, ho2, rfl⟩ F.slot_tuple_ne (call_meets F.slot_tuple_ne ⟨_, ho, rfl⟩ F.entry_tuple_ne (F.args_tuple_ne_2 _ _)
    (tuple_neAt l b items #[] n n2 dd dd2 sl sl2 (fun _ => true)) ⟨ho, ho2, fun j h1 h2 => absurd h2 (Nat.not_lt_zero _), ?_⟩) hu
  have e : (!(((List.range (min items.size (#[] : Array Value).size)).all fun _ => true) && items.size == (#[] : Array Value).size)) = !(items.size == 0) := by simp
  rw [e]
  exact ⟨(fun x => nomatch x), h⟩
end
section
variable {X : Cx}
def rEq0 (K : PySem.W.Frag) : R2 := fun x y H Q => (∃ a b xs, x = .ref a ∧ y = .ref b ∧ SqT K H a xs ∧ SqT K H b [] ∧ Q (.bl (xs.length == 0)) H) ∨ rEqD K x y H Q
def rNe0 (K : PySem.W.Frag) : R2 := fun x y H Q => (∃ a b xs, x = .ref a ∧ y = .ref b ∧ SqT K H a xs ∧ SqT K H b [] ∧ Q (.bl !(xs.length == 0)) H) ∨ rNeD K x y H Q
theorem op_eq0 (hu : X.A.units + 64 < cLine) : OpR X (compareOp .Eq) (rEq0 X.K) := by
  intro pins s σ H x y v u Q I rx ry h
  rcases h with ⟨a, b, xs, rfl, rfl, ha, hb, q⟩ | h
  · cases rx
    cases ry
    obtain ⟨its, r, e, z⟩ := I.tuple ha
    obtain ⟨its2, r2, e2, z2⟩ := I.tuple hb
    have h2 : its2 = [] := by
      have := r2.length
      cases its2 with
      | nil => rfl
      | cons _ _ => simp at this
    subst h2
    show wpAny (model X.prog X.w) X.A (richCompare .Eq (.ref a) (.ref b)) (EP X pins σ Q) X.xe s
    refine rc_tup0 (by omega) e e2 ⟨.bl _, H, I, rfl, ?_⟩
    rw [List.size_toArray, ← r.length]
    exact q
  · exact op_eqD hu pins s σ H x y v u Q I rx ry h
theorem op_ne0 (hu : X.A.units + 64 < cLine) : OpR X (compareOp .NotEq) (rNe0 X.K) := by
  intro pins s σ H x y v u Q I rx ry h
  rcases h with ⟨a, b, xs, rfl, rfl, ha, hb, q⟩ | h
  · cases rx
    cases ry
    obtain ⟨its, r, e, z⟩ := I.tuple ha
    obtain ⟨its2, r2, e2, z2⟩ := I.tuple hb
    have h2 : its2 = [] := by
      have := r2.length
      cases its2 with
      | nil => rfl
      | cons _ _ => simp at this
    subst h2
    show wpAny (model X.prog X.w) X.A (richCompare .NotEq (.ref a) (.ref b)) (EP X pins σ Q) X.xe s
    refine rcn_tup0 (by omega) e e2 ⟨.bl _, H, I, rfl, ?_⟩
    rw [List.size_toArray, ← r.length]
    exact q
  · exact op_neD hu pins s σ H x y v u Q I rx ry h
end
end L2
namespace Fw
open PySem PySem.Spec PyProof.Rows L2
section
variable {K : PySem.W.Frag}
def dEq0 : D → D → Option D
  | .tup xs, .tup [] => some (.bl (xs.length == 0))
  | x, y => dEq x y
def dNe0 : D → D → Option D
  | .tup xs, .tup [] => some (.bl !(xs.length == 0))
  | x, y => dNe x y
theorem f2_eq0 : Flat2 K (rEq0 K) dEq0 := fun F x y dx dy d hx hy e => by
  have old : dEq dx dy = some d → ∃ v, (∀ F, Dv K F v d) ∧ ∀ H Q, Sub F H → Q v H → rEq0 K x y H Q := fun e => by
    obtain ⟨v, h1, h2⟩ := f2_eq F x y dx dy d hx hy e
    exact ⟨v, h1, fun H Q sub q => .inr (h2 H Q sub q)⟩
  unfold dEq0 at e
  split at e
  · rename_i ds
    cases e
    cases hx with
    | tup h1 z1 r1 =>
      cases hy with
      | tup h2 z2 r2 =>
        cases r2
        refine ⟨_, fun _ => .bl _, fun H Q sub q => .inl ⟨_, _, _, rfl, rfl, sub.seqT h1, sub.seqT h2, ?_⟩⟩
        rw [r1.length]
        exact q
  · exact old e
theorem f2_ne0 : Flat2 K (rNe0 K) dNe0 := fun F x y dx dy d hx hy e => by
  have old : dNe dx dy = some d → ∃ v, (∀ F, Dv K F v d) ∧ ∀ H Q, Sub F H → Q v H → rNe0 K x y H Q := fun e => by
    obtain ⟨v, h1, h2⟩ := f2_ne F x y dx dy d hx hy e
    exact ⟨v, h1, fun H Q sub q => .inr (h2 H Q sub q)⟩
  unfold dNe0 at e
  split at e
  · rename_i ds
    cases e
    cases hx with
    | tup h1 z1 r1 =>
      cases hy with
      | tup h2 z2 r2 =>
        cases r2
        refine ⟨_, fun _ => .bl _, fun H Q sub q => .inl ⟨_, _, _, rfl, rfl, sub.seqT h1, sub.seqT h2, ?_⟩⟩
        rw [r1.length]
        exact q
  · exact old e
end
end Fw
/-! ## Src -/
set_option Elab.async false
set_option linter.all false
set_option maxRecDepth 100000
set_option maxHeartbeats 4000000
namespace Fw
open PySem PySem.Spec PyProof.Rows L2
/-! ### the law's own source of numbers -/
structure Src where
  addr : Addr
  cells : List Int
  left : Int
  mixed : Int
  turn : Int
def srcO (c : Addr) (s : Src) : HO := .dK [(.inr "cells", .ref c), (.inr "left", .int s.left), (.inr "mixed", .int s.mixed), (.inr "turn", .int s.turn)]
abbrev srcW (a c : Addr) : Wd where
  S := Src
  fp := fun x => x = a ∨ x = c
  so := fun s H => a ≠ c ∧ s.addr = a ∧ s.cells.length ≤ 1000 ∧ (0 ≤ s.mixed ∧ s.mixed < 2147483648) ∧ H a = some (srcO c s) ∧ H c = some (.lst (s.cells.map V.int))
  alive := fun {s H x} h hx => by
    obtain ⟨_, _, _, _, h1, h2⟩ := h
    rcases hx with e | e
    · rw [e, h1]; exact fun z => nomatch z
    · rw [e, h2]; exact fun z => nomatch z
  stay := fun {s H H'} h k => by
    obtain ⟨h0, h1, h2, h3, h4, h5⟩ := h
    exact ⟨h0, h1, h2, h3, (k a (.inl rfl)).trans h4, (k c (.inr rfl)).trans h5⟩
/-- more cells are taken while what is left is below 2 -/
def refill : List Int → Int → List Int × Int
  | [], l => ([], l)
  | x :: r, l => if l < 2 then refill r x else (x :: r, l)
/-- a number drawn -/
def Src.fill (s : Src) : Src := { s with cells := (refill s.cells.reverse s.left).1.reverse, left := (refill s.cells.reverse s.left).2 }
def Src.mix1 (s : Src) : Int := (s.mixed + (s.turn + 1) * 104729) % 998244353
def Src.mix2 (s : Src) : Int := (s.mix1 * s.mix1 + (s.turn + 1) * 17) % 2147483647
def Src.pre (s : Src) (m : Int) : Src := if 1 < m then s.fill else s
def Src.draw0 (s : Src) (m : Int) : Int × Src :=
  if m < 2 ∨ 1 < s.left then (s.left % max 1 m, { s with left := s.left / max 1 m })
  else (s.mix2 / 16 % m, { s with turn := s.turn + 1, mixed := s.mix2 })
def Src.draw (s : Src) (m : Int) : Int × Src := (s.pre m).draw0 m
theorem Src.draw_lt (s : Src) (m : Int) : 0 ≤ (s.draw m).1 ∧ (s.draw m).1 < max 1 m := by
  unfold Src.draw Src.draw0
  split
  · exact ⟨Int.emod_nonneg _ (by omega), Int.emod_lt_of_pos _ (by omega)⟩
  · rename_i h
    have h2 : 2 ≤ m := by omega
    have := Int.emod_lt_of_pos ((s.pre m).mix2 / 16) (show 0 < m by omega)
    exact ⟨Int.emod_nonneg _ (by omega), by show _ % m < _; omega⟩
def dPick : List D → Src → Option (D × Src)
  | [.obj a, .int m], s => if a = s.addr ∧ m.natAbs < 2 ^ 62 then some (.int (s.draw m).1, (s.draw m).2) else none
  | _, _ => none
theorem dPick_some {ds : List D} {s s' : Src} {d : D} (e : dPick ds s = some (d, s')) : ∃ m, ds = [.obj s.addr, .int m] ∧ m.natAbs < 2 ^ 62 ∧ d = .int (s.draw m).1 ∧ s' = (s.draw m).2 := by
  unfold dPick at e
  split at e
  · split at e
    · rename_i h
      obtain ⟨h1, h2⟩ := h
      cases e
      exact ⟨_, by rw [h1], h2, rfl, rfl⟩
    · cases e
  · cases e
theorem Rel.srcUpd {K : PySem.W.Frag} {a c : Addr} {B F0 H H' F : Hp} {s s' : Src} (R : Rel K (srcW a c) B F0 [] H F [] s) (h : ∀ x, x ≠ a → x ≠ c → H' x = H x) (st : (srcW a c).so s' H') : Rel K (srcW a c) B F0 [] H' F [] s' := by
  have nf : ∀ x o, B x = some o → x ≠ a ∧ x ≠ c := fun x o e => by
    refine ⟨fun z => ?_, fun z => ?_⟩
    · have := R.ob x (.inl z); rw [this] at e; cases e
    · have := R.ob x (.inr z); rw [this] at e; cases e
  have ng : ∀ x o, F x = some o → x ≠ a ∧ x ≠ c := fun x o e => by
    refine ⟨fun z => ?_, fun z => ?_⟩
    · have := R.of x (.inl z); rw [this] at e; cases e
    · have := R.of x (.inr z); rw [this] at e; cases e
  exact ⟨fun x o e => by rw [h x (nf x o e).1 (nf x o e).2]; exact R.bh x o e, fun x o e => by rw [h x (ng x o e).1 (ng x o e).2]; exact R.fh x o e, R.ff, R.fb, R.of, R.ob, st, rfl,
    fun i d e => by simp at e, fun i d e => by simp at e, fun i j d e a h => by simp at h⟩
theorem refill_stop {l : List Int} {x : Int} (h : 2 ≤ x ∨ l = []) : refill l x = (l, x) := by
  cases l with
  | nil => rfl
  | cons y r =>
    rcases h with h | h
    · unfold refill; rw [if_neg (by omega)]
    · cases h
theorem refill_go {l : List Int} {x y : Int} (h : x < 2) : refill (y :: l) x = refill l y := by
  show (if x < 2 then refill l y else (y :: l, x)) = _
  rw [if_pos h]
theorem Src.pre_go {s : Src} {cs : List Int} {l y m : Int} (h : l < 2) : ({ s with cells := cs ++ [y], left := l } : Src).pre m = ({ s with cells := cs, left := y } : Src).pre m ∨ ¬ 1 < m := by
  by_cases hm : 1 < m
  · left
    unfold Src.pre Src.fill
    rw [if_pos hm, if_pos hm]
    simp only [List.reverse_append, List.reverse_cons, List.reverse_nil, List.nil_append, List.singleton_append]
    rw [refill_go h]
  · exact .inr hm
theorem Src.pre_stop {s : Src} {m : Int} (h : ¬ 1 < m ∨ 2 ≤ s.left ∨ s.cells = []) : s.pre m = s := by
  unfold Src.pre Src.fill
  by_cases hm : 1 < m
  · rw [if_pos hm]
    rw [refill_stop (by rcases h with h | h | h; exact absurd hm h; exact .inl h; exact .inr (by rw [h]; rfl))]
    simp
  · rw [if_neg hm]
theorem max_if (m : Int) : (if m > 1 then m else 1) = max 1 m := by
  split <;> omega
theorem refill_len : ∀ (l : List Int) (x : Int), (refill l x).1.length ≤ l.length
  | [], _ => Nat.le_refl _
  | y :: r, x => by
    unfold refill
    split
    · exact Nat.le_trans (refill_len r y) (Nat.le_succ _)
    · exact Nat.le_refl _
/-! the dict's pairs -/
section
variable {c : Addr} {s : Src} {x : Int}
abbrev srcL (c : Addr) (l m t : Int) : List (L2.Key × V) := [(.inr "cells", .ref c), (.inr "left", .int l), (.inr "mixed", .int m), (.inr "turn", .int t)]
theorem gCells {l m t : Int} : valV (srcL c l m t) (.inr "cells" : L2.Key) = some (.ref c) := rfl
theorem gLeft {l m t : Int} : valV (srcL c l m t) (.inr "left" : L2.Key) = some (.int l) := rfl
theorem gMixed {l m t : Int} : valV (srcL c l m t) (.inr "mixed" : L2.Key) = some (.int m) := rfl
theorem gTurn {l m t : Int} : valV (srcL c l m t) (.inr "turn" : L2.Key) = some (.int t) := rfl
theorem pLeft {l m t : Int} : putK (srcL c l m t) (.inr "left" : L2.Key) (.int x) = srcL c x m t := rfl
theorem pMixed {l m t : Int} : putK (srcL c l m t) (.inr "mixed" : L2.Key) (.int x) = srcL c l x t := rfl
theorem pTurn {l m t : Int} : putK (srcL c l m t) (.inr "turn" : L2.Key) (.int x) = srcL c l m x := rfl
theorem mSrc {l m t : Int} : mergeK [] (srcL c l m t) = srcL c l m t := rfl
end
end Fw
/-! ## Pick2 -/
set_option Elab.async false
set_option linter.all false
set_option maxRecDepth 100000
set_option maxHeartbeats 4000000
namespace Fw
open PySem PySem.Spec PyProof.Rows L2
def topS (i : Nat) : Stmt := PySem.Challenge.pw_heightnets_k02_whole_heights_or_a_ring.main.body.getD i (.Pass ⟨0, 0, 0, 0⟩)
abbrev sSource : Stmt := topS 26
abbrev sPick : Stmt := topS 27
theorem sc_source : FnScope ["script", "mixed", "cell"] ["script"] (defScope sSource) := ⟨rfl, rfl, rfl, by decide +kernel, rfl, by decide +kernel, by decide +kernel⟩
theorem sc_pick : FnScope ["source", "many", "left", "mixed"] ["source", "many"] (defScope sPick) := ⟨rfl, rfl, rfl, by decide +kernel, rfl, by decide +kernel, by decide +kernel⟩
section
variable {P : Program} {w : World} {K : PySem.W.Frag} {mg : Str → Option Value} {base : Heap}
/-! ### _law_pick -/
def spPick (K : PySem.W.Frag) : Sp := fun vs H Q E => ∃ a c, spF K (srcW a c) dPick vs H Q E
theorem ifb {c : Bool} {A B : Prop} (h1 : c = true → A) (h2 : c = false → B) : if c = true then A else B := by
  cases c
  · rw [if_neg Bool.false_ne_true]; exact h2 rfl
  · rw [if_pos rfl]; exact h1 rfl
theorem ok_pick {f : Addr} {fd : FuncData} (F : Fun K "_law_pick" "_law_pick" sPick f fd) (mlen : mg "len" = none) (mmax : mg "max" = none) (mint : mg "int" = none) : FnOk P w K mg base CX0 1 f fd ["source", "many"] (spPick K) := by
  refine F.ok sc_pick (fun vs H Q E h => ?_) (fun cdv A outer s H vs Q E hr h => ?_)
  · obtain ⟨a, c, B, F0, F, s, ds, d, s', R, r, e, q⟩ := h
    rw [r.length]
    obtain ⟨m, rfl, _⟩ := dPick_some e
    rfl
  · obtain ⟨a, c, B, F0, F, s, ds, d, s', R, r, e, q⟩ := h
    have hu := hu_of hr
    obtain ⟨m, rfl, hm, rfl, rfl⟩ := dPick_some e
    cases r with
    | cons r1 r2 =>
    cases r2 with
    | cons r3 r4 =>
    cases r4
    cases r1
    cases r3
    obtain ⟨hac, hadr, hcl, hmx, hA, hC⟩ := R.st
    rw [← hadr] at hA hac
    refine ⟨_, pss_cons (ps_while PassesOwn.never (PW.pt (pw_and (pt_cmpR op_gt (pv 1) pe_int (nomark _)) (pw_and (pt_cmpR op_lt (pe_dget hu (pv 0) pe_str (fun _ _ => rfl)) pe_int (nomark _))
        (pw_and1 (pt_cmpR op_gt (pe_callB call_len_seq (by rfl) mlen PySem.boot_len (pa_cons (pe_dget hu (pv 0) pe_str (fun _ _ => rfl)) pa_nil)) pe_int (nomark _))))))
        (pss_one (ps_dput hu (pv 0) pe_str (pe_bm0 PySem.F.plainAttrs_list PySem.F.slot_list_pop PySem.F.type_list_pop mt_pop (pe_dget hu (pv 0) pe_str (fun _ _ => rfl))) rfl)))
      (pss_cons (ps_set (i := 2) sc_pick.nd rfl (Or.inl rfl) (pe_dget hu (pv 0) pe_str (fun _ _ => rfl)))
      (pss_cons (ps_if (PW.pt (pw_or (pt_cmpR op_lt (pv 1) pe_int (nomark _)) (pw_or1 (pt_cmpR op_gt (pv 2) pe_int (nomark _)))))
          (pss_cons (ps_dput hu (pv 0) pe_str (pe_op op_fdivW (pv 2) (pe_callB (call_max2 rfl) (by rfl) mmax (by decide +kernel) (pa_cons pe_int (pa_cons (pv 1) pa_nil)))) rfl)
          (pss_one (ps_ret (pe_op op_mod (pe_callTy call_int1 (by rfl) mint (by decide +kernel) (pa_cons (pv 2) pa_nil)) (pe_callB (call_max2 rfl) (by rfl) mmax (by decide +kernel) (pa_cons pe_int (pa_cons (pv 1) pa_nil)))))))
          pss_nil)
      (pss_cons (ps_dput hu (pv 0) pe_str (pe_op op_add (pe_dget hu (pv 0) pe_str (fun _ _ => rfl)) pe_int) rfl)
      (pss_cons (ps_set (i := 3) sc_pick.nd rfl (Or.inl rfl) (pe_op op_mod (pe_callTy call_int1 (by rfl) mint (by decide +kernel) (pa_cons (pe_op op_add (pe_dget hu (pv 0) pe_str (fun _ _ => rfl)) (pe_op op_mul (pe_dget hu (pv 0) pe_str (fun _ _ => rfl)) pe_int)) pa_nil)) pe_int))
      (pss_cons (ps_set (i := 3) sc_pick.nd rfl (Or.inl rfl) (pe_op op_mod (pe_callTy call_int1 (by rfl) mint (by decide +kernel) (pa_cons (pe_op op_add (pe_op op_mul (pv 3) (pv 3)) (pe_op op_mul (pe_dget hu (pv 0) pe_str (fun _ _ => rfl)) pe_int)) pa_nil)) pe_int))
      (pss_cons (ps_dput hu (pv 0) pe_str (pv 3) rfl)
      (pss_one (ps_ret (pe_op op_mod (pe_callTy call_int1 (by rfl) mint (by decide +kernel) (pa_cons (pe_op op_fdiv (pv 3) pe_int) pa_nil)) (pv 1)))))))))), ?_⟩
    -- while
    refine ⟨fun n σ H1 => ∃ cs l y3 y4, σ = [some (.ref s.addr), some (.int m), y3, y4] ∧ n = cs.length ∧ cs.length ≤ 1000 ∧ H1 s.addr = some (.dK (srcL c l s.mixed s.turn)) ∧ H1 c = some (.lst (cs.map V.int)) ∧ (∀ x, x ≠ s.addr → x ≠ c → H1 x = H x) ∧
      s.pre m = ({ s with cells := cs, left := l } : Src).pre m, ⟨_, s.cells, s.left, none, none, rfl, rfl, hcl, hA, hC, fun _ _ _ => rfl, rfl⟩, ?_⟩
    rintro n σ H1 ⟨cs, l, y3, y4, rfl, rfl, hcs, h1, h2, h3, h4⟩
    have get : ∀ (k : L2.Key) (v : V), valV (srcL c l s.mixed s.turn) k = some v → DGet H1 s.addr (kV k) (some v) := fun k v e => e ▸ DGet.k (k := k) h1
    have fin : (¬ 1 < m ∨ 2 ≤ l ∨ cs = []) → s.pre m = ({ s with cells := cs, left := l } : Src) := fun z => h4.trans (Src.pre_stop z)
    -- many > 1
    refine ⟨_, rfl, _, _, rfl, rfl, _, rfl, ?_⟩
    refine ifb (fun c1 => ?_) (fun c1 => ?_)
    · -- source['left'] < 2
      refine ⟨_, rfl, s.addr, _, rfl, get (.inr "left") _ gLeft, _, _, rfl, rfl, _, rfl, ?_⟩
      refine ifb (fun c2 => ?_) (fun c2 => ?_)
      · -- len(source['cells']) > 0
        refine ⟨_, rfl, s.addr, _, rfl, get (.inr "cells") _ gCells, c, _, rfl, .inl (.of h2), _, _, rfl, rfl, _, rfl, ?_⟩
        refine ifb (fun c3 => ?_) (fun c3 => ?_)
        · have hne : cs ≠ [] := fun z => by
            subst z
            exact absurd c3 (by decide)
          obtain ⟨ini, y, rfl⟩ : ∃ ini y, cs = ini ++ [y] := ⟨cs.dropLast, cs.getLast hne, (List.dropLast_concat_getLast hne).symm⟩
          refine ⟨fun σ' H' => σ' = [some (.ref s.addr), some (.int m), y3, y4] ∧ H' s.addr = some (.dK (srcL c y s.mixed s.turn)) ∧ H' c = some (.lst (ini.map V.int)) ∧ (∀ x, x ≠ s.addr → x ≠ c → H' x = H x), fun σ' H' hN => ?_, ?_⟩
          · obtain ⟨e1, e2, e3, e4⟩ := hN
            refine ⟨ini.length, by rw [List.length_append]; simp, ini, y, y3, y4, e1, rfl, by rw [List.length_append] at hcs; omega, e2, e3, e4, ?_⟩
            have c2' : l < 2 := of_decide_eq_true c2
            have c1' : 1 < m := of_decide_eq_true c1
            rcases Src.pre_go (s := s) (cs := ini) (l := l) (y := y) (m := m) c2' with z | z
            · exact h4.trans z
            · exact absurd c1' z
          · refine ⟨_, rfl, s.addr, _, rfl, get (.inr "cells") _ gCells, .inl ⟨rfl, _, .of h2⟩, c, _, V.int y, rfl, rfl, h2, by simp, ?_⟩
            have hA' : (upd H1 c (.lst ((ini ++ [y]).map V.int).dropLast)) s.addr = some (.dK (srcL c l s.mixed s.turn)) := by rw [upd_ne hac]; exact h1
            refine ⟨_, rfl, s.addr, _, rfl, DPut.k (k := .inr "left") hA' (by show 4 < sizeLine; decide), rfl, ?_, ?_, fun x x1 x2 => ?_⟩
            · rw [upd_same, pLeft]
            · rw [upd_ne (Ne.symm hac), upd_same, List.map_append, List.map_singleton, List.dropLast_concat]
            · rw [upd_ne x1, upd_ne x2]; exact h3 x x1 x2
        · have hs := fin (.inr (.inr (by cases cs with | nil => rfl | cons x r => exact absurd c3 (by simp))))
          refine ⟨_, rfl, s.addr, _, rfl, get (.inr "left") _ gLeft, ?_⟩
          refine ⟨_, rfl, _, _, rfl, rfl, _, rfl, ifb (fun d1 => ?_) (fun d1 => ⟨_, rfl, _, _, rfl, rfl, _, rfl, ifb (fun d2 => ?_) (fun d2 => ?_)⟩)⟩
          · have hb : m < 2 ∨ 1 < l := .inl (of_decide_eq_true d1)
            refine ⟨_, rfl, _, rfl, 1, m, rfl, _, _, rfl, rfl, ?_, _, rfl, s.addr, _, rfl, DPut.k (k := .inr "left") h1 (by show 4 < sizeLine; decide), ?_⟩
            · rw [max_if]; exact wide_div (b := 63) (by omega) (by omega) (by decide) (by decide)
            · refine ⟨_, rfl, .inl ⟨_, rfl, _, rfl, 1, m, rfl, _, _, rfl, rfl, by rw [max_if]; omega, ?_⟩⟩
              rw [max_if]
              have e : s.draw m = (l % max 1 m, { s with cells := cs, left := l / max 1 m }) := by
                unfold Src.draw Src.draw0
                rw [hs, if_pos hb]
              rw [e] at q
              refine q _ _ F (R.srcUpd (fun x x1 x2 => ?_) ⟨by rw [← hadr]; exact hac, hadr, hcs, hmx, ?_, ?_⟩) (Sub.refl F) (.int _)
              · rw [upd_ne (by rw [hadr]; exact x1)]; exact h3 x (by rw [hadr]; exact x1) x2
              · rw [← hadr]; exact upd_same
              · rw [upd_ne (Ne.symm hac)]; exact h2
          · have hb : m < 2 ∨ 1 < l := .inr (of_decide_eq_true d2)
            refine ⟨_, rfl, _, rfl, 1, m, rfl, _, _, rfl, rfl, ?_, _, rfl, s.addr, _, rfl, DPut.k (k := .inr "left") h1 (by show 4 < sizeLine; decide), ?_⟩
            · rw [max_if]; exact wide_div (b := 63) (by omega) (by omega) (by decide) (by decide)
            · refine ⟨_, rfl, .inl ⟨_, rfl, _, rfl, 1, m, rfl, _, _, rfl, rfl, by rw [max_if]; omega, ?_⟩⟩
              rw [max_if]
              have e : s.draw m = (l % max 1 m, { s with cells := cs, left := l / max 1 m }) := by
                unfold Src.draw Src.draw0
                rw [hs, if_pos hb]
              rw [e] at q
              refine q _ _ F (R.srcUpd (fun x x1 x2 => ?_) ⟨by rw [← hadr]; exact hac, hadr, hcs, hmx, ?_, ?_⟩) (Sub.refl F) (.int _)
              · rw [upd_ne (by rw [hadr]; exact x1)]; exact h3 x (by rw [hadr]; exact x1) x2
              · rw [← hadr]; exact upd_same
              · rw [upd_ne (Ne.symm hac)]; exact h2
          · have hb : ¬ (m < 2 ∨ 1 < l) := fun z => z.elim (of_decide_eq_false d1) (of_decide_eq_false d2)
            refine ⟨_, rfl, s.addr, _, rfl, get (.inr "turn") _ gTurn, _, _, rfl, rfl, _, rfl, s.addr, _, rfl, DPut.k (k := .inr "turn") h1 (by show 4 < sizeLine; decide), ?_⟩
            generalize hH2 : upd H1 s.addr (.dK (putK (srcL c l s.mixed s.turn) (.inr "turn") (.int (s.turn + 1)))) = H2
            have h5 : H2 s.addr = some (.dK (srcL c l s.mixed (s.turn + 1))) := by rw [← hH2]; exact upd_same
            have get2 : ∀ (k : L2.Key) (v : V), valV (srcL c l s.mixed (s.turn + 1)) k = some v → DGet H2 s.addr (kV k) (some v) := fun k v e => e ▸ DGet.k (k := k) h5
            refine ⟨_, rfl, s.addr, _, rfl, get2 (.inr "mixed") _ gMixed, _, rfl, s.addr, _, rfl, get2 (.inr "turn") _ gTurn, _, _, rfl, rfl, .inr ⟨by decide, by decide⟩, _, _, rfl, rfl, .inl ⟨_, rfl, _, _, rfl, rfl, (by show (0 : Int) < _; decide), ?_⟩⟩
            have r1 : 0 ≤ (s.mixed + (s.turn + 1) * 104729) % 998244353 := Int.emod_nonneg _ (by decide)
            have r2 : (s.mixed + (s.turn + 1) * 104729) % 998244353 < 998244353 := Int.emod_lt_of_pos _ (by decide)
            refine ⟨_, rfl, _, rfl, _, _, rfl, rfl, .inl ⟨by omega, by omega⟩, _, rfl, s.addr, _, rfl, get2 (.inr "turn") _ gTurn, _, _, rfl, rfl, .inr ⟨by decide, by decide⟩, _, _, rfl, rfl, .inl ⟨_, rfl, _, _, rfl, rfl, (by show (0 : Int) < _; decide), ?_⟩⟩
            refine ⟨_, rfl, _, rfl, s.addr, _, rfl, DPut.k (k := .inr "mixed") h5 (by show 4 < sizeLine; decide), ?_⟩
            refine ⟨_, rfl, _, _, rfl, rfl, ⟨by decide, by decide⟩, .inl ⟨_, rfl, _, rfl, _, _, rfl, rfl, by omega, ?_⟩⟩
            have e : s.draw m = (({ s with cells := cs, left := l } : Src).mix2 / 16 % m, { s with cells := cs, left := l, turn := s.turn + 1, mixed := ({ s with cells := cs, left := l } : Src).mix2 }) := by
              unfold Src.draw Src.draw0
              rw [hs, if_neg hb]
            rw [e] at q
            refine q _ _ F (R.srcUpd (fun x x1 x2 => ?_) ⟨by rw [← hadr]; exact hac, hadr, hcs, ⟨Int.emod_nonneg _ (by decide), Int.lt_trans (Int.emod_lt_of_pos _ (by decide)) (by decide)⟩, ?_, ?_⟩) (Sub.refl F) (.int _)
            · rw [upd_ne (by rw [hadr]; exact x1), ← hH2, upd_ne (by rw [hadr]; exact x1)]; exact h3 x (by rw [hadr]; exact x1) x2
            · rw [← hadr]; exact upd_same
            · rw [upd_ne (Ne.symm hac), ← hH2, upd_ne (Ne.symm hac)]; exact h2
      · have hs := fin (.inr (.inl (by have := of_decide_eq_false c2; omega)))
        refine ⟨_, rfl, s.addr, _, rfl, get (.inr "left") _ gLeft, ?_⟩
        refine ⟨_, rfl, _, _, rfl, rfl, _, rfl, ifb (fun d1 => ?_) (fun d1 => ⟨_, rfl, _, _, rfl, rfl, _, rfl, ifb (fun d2 => ?_) (fun d2 => ?_)⟩)⟩
        · have hb : m < 2 ∨ 1 < l := .inl (of_decide_eq_true d1)
          refine ⟨_, rfl, _, rfl, 1, m, rfl, _, _, rfl, rfl, ?_, _, rfl, s.addr, _, rfl, DPut.k (k := .inr "left") h1 (by show 4 < sizeLine; decide), ?_⟩
          · rw [max_if]; exact wide_div (b := 63) (by omega) (by omega) (by decide) (by decide)
          · refine ⟨_, rfl, .inl ⟨_, rfl, _, rfl, 1, m, rfl, _, _, rfl, rfl, by rw [max_if]; omega, ?_⟩⟩
            rw [max_if]
            have e : s.draw m = (l % max 1 m, { s with cells := cs, left := l / max 1 m }) := by
              unfold Src.draw Src.draw0
              rw [hs, if_pos hb]
            rw [e] at q
            refine q _ _ F (R.srcUpd (fun x x1 x2 => ?_) ⟨by rw [← hadr]; exact hac, hadr, hcs, hmx, ?_, ?_⟩) (Sub.refl F) (.int _)
            · rw [upd_ne (by rw [hadr]; exact x1)]; exact h3 x (by rw [hadr]; exact x1) x2
            · rw [← hadr]; exact upd_same
            · rw [upd_ne (Ne.symm hac)]; exact h2
        · have hb : m < 2 ∨ 1 < l := .inr (of_decide_eq_true d2)
          refine ⟨_, rfl, _, rfl, 1, m, rfl, _, _, rfl, rfl, ?_, _, rfl, s.addr, _, rfl, DPut.k (k := .inr "left") h1 (by show 4 < sizeLine; decide), ?_⟩
          · rw [max_if]; exact wide_div (b := 63) (by omega) (by omega) (by decide) (by decide)
          · refine ⟨_, rfl, .inl ⟨_, rfl, _, rfl, 1, m, rfl, _, _, rfl, rfl, by rw [max_if]; omega, ?_⟩⟩
            rw [max_if]
            have e : s.draw m = (l % max 1 m, { s with cells := cs, left := l / max 1 m }) := by
              unfold Src.draw Src.draw0
              rw [hs, if_pos hb]
            rw [e] at q
            refine q _ _ F (R.srcUpd (fun x x1 x2 => ?_) ⟨by rw [← hadr]; exact hac, hadr, hcs, hmx, ?_, ?_⟩) (Sub.refl F) (.int _)
            · rw [upd_ne (by rw [hadr]; exact x1)]; exact h3 x (by rw [hadr]; exact x1) x2
            · rw [← hadr]; exact upd_same
            · rw [upd_ne (Ne.symm hac)]; exact h2
        · have hb : ¬ (m < 2 ∨ 1 < l) := fun z => z.elim (of_decide_eq_false d1) (of_decide_eq_false d2)
          refine ⟨_, rfl, s.addr, _, rfl, get (.inr "turn") _ gTurn, _, _, rfl, rfl, _, rfl, s.addr, _, rfl, DPut.k (k := .inr "turn") h1 (by show 4 < sizeLine; decide), ?_⟩
          generalize hH2 : upd H1 s.addr (.dK (putK (srcL c l s.mixed s.turn) (.inr "turn") (.int (s.turn + 1)))) = H2
          have h5 : H2 s.addr = some (.dK (srcL c l s.mixed (s.turn + 1))) := by rw [← hH2]; exact upd_same
          have get2 : ∀ (k : L2.Key) (v : V), valV (srcL c l s.mixed (s.turn + 1)) k = some v → DGet H2 s.addr (kV k) (some v) := fun k v e => e ▸ DGet.k (k := k) h5
          refine ⟨_, rfl, s.addr, _, rfl, get2 (.inr "mixed") _ gMixed, _, rfl, s.addr, _, rfl, get2 (.inr "turn") _ gTurn, _, _, rfl, rfl, .inr ⟨by decide, by decide⟩, _, _, rfl, rfl, .inl ⟨_, rfl, _, _, rfl, rfl, (by show (0 : Int) < _; decide), ?_⟩⟩
          have r1 : 0 ≤ (s.mixed + (s.turn + 1) * 104729) % 998244353 := Int.emod_nonneg _ (by decide)
          have r2 : (s.mixed + (s.turn + 1) * 104729) % 998244353 < 998244353 := Int.emod_lt_of_pos _ (by decide)
          refine ⟨_, rfl, _, rfl, _, _, rfl, rfl, .inl ⟨by omega, by omega⟩, _, rfl, s.addr, _, rfl, get2 (.inr "turn") _ gTurn, _, _, rfl, rfl, .inr ⟨by decide, by decide⟩, _, _, rfl, rfl, .inl ⟨_, rfl, _, _, rfl, rfl, (by show (0 : Int) < _; decide), ?_⟩⟩
          refine ⟨_, rfl, _, rfl, s.addr, _, rfl, DPut.k (k := .inr "mixed") h5 (by show 4 < sizeLine; decide), ?_⟩
          refine ⟨_, rfl, _, _, rfl, rfl, ⟨by decide, by decide⟩, .inl ⟨_, rfl, _, rfl, _, _, rfl, rfl, by omega, ?_⟩⟩
          have e : s.draw m = (({ s with cells := cs, left := l } : Src).mix2 / 16 % m, { s with cells := cs, left := l, turn := s.turn + 1, mixed := ({ s with cells := cs, left := l } : Src).mix2 }) := by
            unfold Src.draw Src.draw0
            rw [hs, if_neg hb]
          rw [e] at q
          refine q _ _ F (R.srcUpd (fun x x1 x2 => ?_) ⟨by rw [← hadr]; exact hac, hadr, hcs, ⟨Int.emod_nonneg _ (by decide), Int.lt_trans (Int.emod_lt_of_pos _ (by decide)) (by decide)⟩, ?_, ?_⟩) (Sub.refl F) (.int _)
          · rw [upd_ne (by rw [hadr]; exact x1), ← hH2, upd_ne (by rw [hadr]; exact x1)]; exact h3 x (by rw [hadr]; exact x1) x2
          · rw [← hadr]; exact upd_same
          · rw [upd_ne (Ne.symm hac), ← hH2, upd_ne (Ne.symm hac)]; exact h2
    · have hs := fin (.inl (of_decide_eq_false c1))
      refine ⟨_, rfl, s.addr, _, rfl, get (.inr "left") _ gLeft, ?_⟩
      refine ⟨_, rfl, _, _, rfl, rfl, _, rfl, ifb (fun d1 => ?_) (fun d1 => ⟨_, rfl, _, _, rfl, rfl, _, rfl, ifb (fun d2 => ?_) (fun d2 => ?_)⟩)⟩
      · have hb : m < 2 ∨ 1 < l := .inl (of_decide_eq_true d1)
        refine ⟨_, rfl, _, rfl, 1, m, rfl, _, _, rfl, rfl, ?_, _, rfl, s.addr, _, rfl, DPut.k (k := .inr "left") h1 (by show 4 < sizeLine; decide), ?_⟩
        · rw [max_if]; exact wide_div (b := 63) (by omega) (by omega) (by decide) (by decide)
        · refine ⟨_, rfl, .inl ⟨_, rfl, _, rfl, 1, m, rfl, _, _, rfl, rfl, by rw [max_if]; omega, ?_⟩⟩
          rw [max_if]
          have e : s.draw m = (l % max 1 m, { s with cells := cs, left := l / max 1 m }) := by
            unfold Src.draw Src.draw0
            rw [hs, if_pos hb]
          rw [e] at q
          refine q _ _ F (R.srcUpd (fun x x1 x2 => ?_) ⟨by rw [← hadr]; exact hac, hadr, hcs, hmx, ?_, ?_⟩) (Sub.refl F) (.int _)
          · rw [upd_ne (by rw [hadr]; exact x1)]; exact h3 x (by rw [hadr]; exact x1) x2
          · rw [← hadr]; exact upd_same
          · rw [upd_ne (Ne.symm hac)]; exact h2
      · have hb : m < 2 ∨ 1 < l := .inr (of_decide_eq_true d2)
        refine ⟨_, rfl, _, rfl, 1, m, rfl, _, _, rfl, rfl, ?_, _, rfl, s.addr, _, rfl, DPut.k (k := .inr "left") h1 (by show 4 < sizeLine; decide), ?_⟩
        · rw [max_if]; exact wide_div (b := 63) (by omega) (by omega) (by decide) (by decide)
        · refine ⟨_, rfl, .inl ⟨_, rfl, _, rfl, 1, m, rfl, _, _, rfl, rfl, by rw [max_if]; omega, ?_⟩⟩
          rw [max_if]
          have e : s.draw m = (l % max 1 m, { s with cells := cs, left := l / max 1 m }) := by
            unfold Src.draw Src.draw0
            rw [hs, if_pos hb]
          rw [e] at q
          refine q _ _ F (R.srcUpd (fun x x1 x2 => ?_) ⟨by rw [← hadr]; exact hac, hadr, hcs, hmx, ?_, ?_⟩) (Sub.refl F) (.int _)
          · rw [upd_ne (by rw [hadr]; exact x1)]; exact h3 x (by rw [hadr]; exact x1) x2
          · rw [← hadr]; exact upd_same
          · rw [upd_ne (Ne.symm hac)]; exact h2
      · have hb : ¬ (m < 2 ∨ 1 < l) := fun z => z.elim (of_decide_eq_false d1) (of_decide_eq_false d2)
        refine ⟨_, rfl, s.addr, _, rfl, get (.inr "turn") _ gTurn, _, _, rfl, rfl, _, rfl, s.addr, _, rfl, DPut.k (k := .inr "turn") h1 (by show 4 < sizeLine; decide), ?_⟩
        generalize hH2 : upd H1 s.addr (.dK (putK (srcL c l s.mixed s.turn) (.inr "turn") (.int (s.turn + 1)))) = H2
        have h5 : H2 s.addr = some (.dK (srcL c l s.mixed (s.turn + 1))) := by rw [← hH2]; exact upd_same
        have get2 : ∀ (k : L2.Key) (v : V), valV (srcL c l s.mixed (s.turn + 1)) k = some v → DGet H2 s.addr (kV k) (some v) := fun k v e => e ▸ DGet.k (k := k) h5
        refine ⟨_, rfl, s.addr, _, rfl, get2 (.inr "mixed") _ gMixed, _, rfl, s.addr, _, rfl, get2 (.inr "turn") _ gTurn, _, _, rfl, rfl, .inr ⟨by decide, by decide⟩, _, _, rfl, rfl, .inl ⟨_, rfl, _, _, rfl, rfl, (by show (0 : Int) < _; decide), ?_⟩⟩
        have r1 : 0 ≤ (s.mixed + (s.turn + 1) * 104729) % 998244353 := Int.emod_nonneg _ (by decide)
        have r2 : (s.mixed + (s.turn + 1) * 104729) % 998244353 < 998244353 := Int.emod_lt_of_pos _ (by decide)
        refine ⟨_, rfl, _, rfl, _, _, rfl, rfl, .inl ⟨by omega, by omega⟩, _, rfl, s.addr, _, rfl, get2 (.inr "turn") _ gTurn, _, _, rfl, rfl, .inr ⟨by decide, by decide⟩, _, _, rfl, rfl, .inl ⟨_, rfl, _, _, rfl, rfl, (by show (0 : Int) < _; decide), ?_⟩⟩
        refine ⟨_, rfl, _, rfl, s.addr, _, rfl, DPut.k (k := .inr "mixed") h5 (by show 4 < sizeLine; decide), ?_⟩
        refine ⟨_, rfl, _, _, rfl, rfl, ⟨by decide, by decide⟩, .inl ⟨_, rfl, _, rfl, _, _, rfl, rfl, by omega, ?_⟩⟩
        have e : s.draw m = (({ s with cells := cs, left := l } : Src).mix2 / 16 % m, { s with cells := cs, left := l, turn := s.turn + 1, mixed := ({ s with cells := cs, left := l } : Src).mix2 }) := by
          unfold Src.draw Src.draw0
          rw [hs, if_neg hb]
        rw [e] at q
        refine q _ _ F (R.srcUpd (fun x x1 x2 => ?_) ⟨by rw [← hadr]; exact hac, hadr, hcs, ⟨Int.emod_nonneg _ (by decide), Int.lt_trans (Int.emod_lt_of_pos _ (by decide)) (by decide)⟩, ?_, ?_⟩) (Sub.refl F) (.int _)
        · rw [upd_ne (by rw [hadr]; exact x1), ← hH2, upd_ne (by rw [hadr]; exact x1)]; exact h3 x (by rw [hadr]; exact x1) x2
        · rw [← hadr]; exact upd_same
        · rw [upd_ne (Ne.symm hac), ← hH2, upd_ne (Ne.symm hac)]; exact h2
end
end Fw
/-! ## Source -/
set_option Elab.async false
set_option linter.all false
set_option maxRecDepth 100000
set_option maxHeartbeats 4000000
namespace Fw
open PySem PySem.Spec PyProof.Rows L2
section
variable {P : Program} {w : World} {K : PySem.W.Frag} {mg : Str → Option Value} {base : Heap}
/-! ### _law_source -/
def mixes (l : List Int) : Int := l.foldl (fun m x => (m * 69069 + x * 31 + 5) % 2147483629) 11
def absI (i : Int) : Int := if i < 0 then -i else i
def src0 (a : Addr) (l : List Int) : Src := { addr := a, cells := (l.map absI).reverse, left := 1, mixed := mixes l, turn := 0 }
def spSource (K : PySem.W.Frag) : Sp := fun vs H Q _ => ∃ (a : Addr) (ns : List Int), vs = [.ref a] ∧ SqL K H a (ns.map V.int) ∧ ns.length ≤ 63 ∧
  ∀ H' p c, Same H H' → H p = none → H c = none → p ≠ c → H' p = some (srcO c (src0 p ns)) → H' c = some (.lst ((src0 p ns).cells.map V.int)) → Q (.ref p) H'
theorem mixes_range : ∀ l : List Int, 0 ≤ mixes l ∧ mixes l < 2147483648 := fun l => by
  unfold mixes
  have : ∀ (l : List Int) (m : Int), 0 ≤ m ∧ m < 2147483648 → 0 ≤ l.foldl (fun m x => (m * 69069 + x * 31 + 5) % 2147483629) m ∧ l.foldl (fun m x => (m * 69069 + x * 31 + 5) % 2147483629) m < 2147483648 := by
    intro l
    induction l with
    | nil => intro m h; exact h
    | cons x r ih =>
      intro m h
      refine ih _ ⟨Int.emod_nonneg _ (by decide), ?_⟩
      exact Int.lt_trans (Int.emod_lt_of_pos (m * 69069 + x * 31 + 5) (show (0 : Int) < 2147483629 by decide)) (by decide)
  exact this l 11 (by decide)
theorem ok_source {f : Addr} {fd : FuncData} (F : Fun K "_law_source" "_law_source" sSource f fd) (mabs : mg "abs" = none) (mint : mg "int" = none) : FnOk P w K mg base CX0 1 f fd ["script"] (spSource K) := by
  refine F.ok sc_source (fun vs H Q E h => ?_) (fun cdv A outer s H vs Q E hr h => ?_)
  · obtain ⟨a, ns, rfl, _⟩ := h
    rfl
  · obtain ⟨a, ns, rfl, hS, hlen, k⟩ := h
    refine ⟨_, pss_cons (ps_set (i := 1) sc_source.nd rfl (Or.inl rfl) pe_int)
      (pss_cons (ps_for PassesOwn.never rfl (pi_list (pv 0)) (pg_name (i := 2) sc_source.nd rfl (Or.inl rfl))
        (pss_one (ps_set (i := 1) sc_source.nd rfl (Or.inl rfl) (pe_op op_mod (pe_callTy call_int1 (by rfl) mint (by decide +kernel) (pa_cons (pe_op op_add (pe_op op_add (pe_op op_mul (pv 1) pe_int) (pe_op op_mul (pv 2) pe_int)) pe_int) pa_nil)) pe_int))))
      (pss_one (ps_ret (pe_disp (pps_cons pe_str (pe_revL (pe_lc (own := [("cell", 2)]) (g := gName 2) (tt := L2.tYes) rfl sc_source.nd (pi_list (pv 0)) (blkOk_by (N := ["script", "mixed", "cell"]) (sc := defScope sSource) (by decide +kernel)) (fun _ _ _ _ _ => pg_name (i := 2) sc_source.nd rfl (Or.inl rfl)) (fun _ _ _ _ _ => pts_nil)
          (fun _ _ _ _ _ => pe_callB call_abs (by rfl) mabs (by decide +kernel) (pa_cons (pv 2) pa_nil))))
        (pps_cons pe_str pe_int (pps_cons pe_str (pv 1) (pps_cons pe_str pe_int pps_nil)))) (by rfl) (by rfl) (fun z => by cases z) (by decide))))), ?_⟩
    refine ⟨_, rfl, a, rfl, ⟨_, hS⟩, for_list (K := K) (a := a) (xs := ns.map V.int) (fun i σ H' => H' = H ∧ ∃ v, σ = [some (.ref a), some (.int (mixes (ns.take i))), v]) ⟨rfl, none, rfl⟩ (fun i σ H' _ ⟨e, _⟩ => e ▸ hS) ?_ ?_⟩
    · rintro i y σ H' hi ⟨rfl, v, rfl⟩
      obtain ⟨u, hu, rfl⟩ : ∃ u, ns[i]? = some u ∧ y = V.int u := by
        rw [List.getElem?_map] at hi
        cases e : ns[i]? with
        | none => rw [e] at hi; cases hi
        | some u => rw [e] at hi; exact ⟨u, rfl, (Option.some.inj hi).symm⟩
      refine ⟨_, rfl, _, _, rfl, rfl, .inr ⟨by decide, by decide⟩, _, rfl, _, _, rfl, rfl, .inr ⟨by decide, by decide⟩, _, _, rfl, rfl, _, _, rfl, rfl, .inl ⟨_, rfl, _, _, rfl, rfl, (by show (0 : Int) < _; decide), ?_⟩⟩
      refine ⟨rfl, some (.int u), ?_⟩
      have : mixes (ns.take (i + 1)) = (mixes (ns.take i) * 69069 + u * 31 + 5) % 2147483629 := by
        unfold mixes
        rw [List.take_add_one, hu, List.foldl_append]
        rfl
      rw [this]
      rfl
    · rintro σ H' ⟨rfl, v, rfl⟩
      rw [List.length_map, List.take_length]
      intro p hp
      -- the comprehension
      have hS1 : SqL K (upd H' p (.dK [])) a (ns.map V.int) := (Same.seq (fun b o e => by rw [upd_ne (ne_of_none e hp)]; exact e) hS)
      refine ⟨_, rfl, a, rfl, ⟨_, hS1⟩, fun D hD => ?_⟩
      have pD : p ≠ D := fun e => by rw [← e, upd_same] at hD; cases hD
      have hD0 : H' D = none := by rw [upd_ne pD.symm] at hD; exact hD
      refine lc_list (K := K) (a := a) (xs := ns.map V.int) (fun i H2 => H2 = upd (upd H' p (.dK [])) D (.lst ((ns.take i).map fun x => V.int (absI x)))) rfl (fun i H2 _ e => e ▸ (Same.seq (fun b o e => by rw [upd_ne (ne_of_none e hD)]; exact e) hS1)) ?_ ?_
      · rintro i y H2 hi rfl
        obtain ⟨u, hu, rfl⟩ : ∃ u, ns[i]? = some u ∧ y = V.int u := by
          rw [List.getElem?_map] at hi
          cases e : ns[i]? with
          | none => rw [e] at hi; cases hi
          | some u => rw [e] at hi; exact ⟨u, rfl, (Option.some.inj hi).symm⟩
        refine ⟨rfl, ?_⟩
        unfold L2.tYes
        dsimp only
        rw [if_pos rfl]
        refine ⟨_, rfl, _, rfl, _, upd_same, ?_, ?_⟩
        · rw [List.length_map, List.length_take]
          have := sizeLine_eq
          omega
        · rw [upd_upd, List.take_add_one, hu]
          show upd _ _ _ = upd _ _ (.lst (((ns.take i) ++ [u]).map fun x => V.int (absI x)))
          rw [List.map_append]
          rfl
      · rintro H2 rfl
        rw [List.length_map, List.take_length]
        -- [::-1]
        refine ⟨D, _, rfl, .of upd_same, fun c hc => ?_⟩
        have cD : c ≠ D := fun e => by rw [e, upd_same] at hc; cases hc
        rw [upd_ne cD] at hc
        have cp : c ≠ p := fun e => by rw [e, upd_same] at hc; cases hc
        rw [upd_ne cp] at hc
        refine ⟨_, rfl, ?_⟩
        refine ⟨by rw [upd_ne cp.symm, upd_ne pD, upd_same], srcL c 1 (mixes ns) 0, rfl, (by show 4 ≤ 15; decide), ?_⟩
        refine k _ p c (fun b o e => ?_) hp hc cp.symm ?_ ?_
        · rw [upd_ne (ne_of_none e hp), upd_ne (ne_of_none e hc), upd_ne (ne_of_none e hD0), upd_ne (ne_of_none e hp)]; exact e
        · rw [upd_same, mSrc]; rfl
        · rw [upd_ne cp, upd_same]
          show _ = some (HO.lst ((ns.map absI).reverse.map V.int))
          rw [List.map_reverse, List.map_map]
          rfl
end
end Fw
/-! ## Calls -/
set_option Elab.async false
set_option linter.all false
set_option maxRecDepth 100000
set_option maxHeartbeats 4000000
namespace Fw
open PySem PySem.Spec PyProof.Rows L2
/-- the promise of a def that knows the source -/
abbrev spS (K : PySem.W.Frag) (m : List D → Src → Option (D × Src)) : Sp := fun vs H Q E => ∃ a c, spF K (srcW a c) m vs H Q E
theorem se_callS {K : PySem.W.Frag} {a c : Addr} {f : List D → Src → Option (D × Src)} {X : XK} {tr : TA} {fr : As Src} (hr : SemA K (srcW a c) tr fr) : SemE K (srcW a c) (tCall (spS K f) [] X tr) (eCall f fr) := fun B F0 σ H F ρ s R d ρ' s' e Q q => by
  unfold eCall at e
  split at e
  · rename_i xs ρ1 s1 h1
    split at e
    · rename_i z s2 h2
      cases e
      refine hr B F0 σ H F ρ s R xs _ _ h1 _ fun vs H1 F1 R1 sub1 d1 => ?_
      obtain ⟨B1, Ri, back⟩ := R1.inside
      rw [List.append_nil]
      exact ⟨a, c, B1, F1, F1, s1, xs, d, s', Ri, d1, h2, fun v H' F' R' sub' d' => q v H' F' (back _ _ _ R') (sub1.trans sub') d'⟩
    · cases e
  · cases e
end Fw
namespace Fw
open PySem PySem.Spec PyProof.Rows L2
theorem spS_none {K : PySem.W.Frag} {vs : List V} {H : Hp} {Q : VK} {E : XK} (h : spS K (fun _ _ => none) vs H Q E) : False := by
  obtain ⟨a, c, B, F0, F, s, ds, d, s', R, r, e, q⟩ := h
  cases e
end Fw
/-! ## FWm -/
/-! Least costs, going over more and more crossings: the triangle law. -/
set_option linter.all false
namespace Fw
abbrev Tbl := List (List Int)
def gt (T : Tbl) (x y : Nat) : Int := (T.getD x []).getD y 0
def st (T : Tbl) (x y : Nat) (v : Int) : Tbl := T.set x ((T.getD x []).set y v)
def tbS (z x : Nat) (T : Tbl) (y : Nat) : Tbl := st T x y (min (gt T x y) (gt T x z + gt T z y))
def tbX (n z : Nat) (T : Tbl) (x : Nat) : Tbl := (List.range n).foldl (tbS z x) T
def tbZ (n : Nat) (T : Tbl) (z : Nat) : Tbl := (List.range n).foldl (tbX n z) T
def Shp (n : Nat) (T : Tbl) : Prop := T.length = n ∧ ∀ r ∈ T, r.length = n
theorem Shp.row {n : Nat} {T : Tbl} (h : Shp n T) {x : Nat} (hx : x < n) : (T.getD x []).length = n := by
  have hl : x < T.length := by rw [h.1]; exact hx
  rw [List.getD_eq_getElem?_getD, List.getElem?_eq_getElem hl]
  exact h.2 _ (List.getElem_mem hl)
theorem Shp.st {n : Nat} {T : Tbl} (h : Shp n T) {x y : Nat} {v : Int} (hx : x < n) : Shp n (st T x y v) := by
  unfold Fw.st
  refine ⟨by rw [List.length_set]; exact h.1, fun r hr => ?_⟩
  rcases List.mem_or_eq_of_mem_set hr with hr | hr
  · exact h.2 r hr
  · rw [hr, List.length_set]; exact h.row hx
theorem gt_st {n : Nat} {T : Tbl} (h : Shp n T) {x y a b : Nat} {v : Int} (hx : x < n) (hy : y < n) : gt (st T x y v) a b = if a = x ∧ b = y then v else gt T a b := by
  have hl : x < T.length := by rw [h.1]; exact hx
  have hr := h.row hx
  unfold gt st
  by_cases ha : a = x
  · subst ha
    have e1 : (T.set a ((T.getD a []).set y v)).getD a [] = (T.getD a []).set y v := by
      rw [List.getD_eq_getElem?_getD, List.getElem?_set_self hl]
      rfl
    rw [e1]
    by_cases hb : b = y
    · subst hb
      rw [if_pos ⟨rfl, rfl⟩, List.getD_eq_getElem?_getD, List.getElem?_set_self (by rw [hr]; exact hy)]
      rfl
    · rw [if_neg (fun z => hb z.2), List.getD_eq_getElem?_getD, List.getElem?_set_ne (Ne.symm hb), ← List.getD_eq_getElem?_getD]
  · have e1 : (T.set x ((T.getD x []).set y v)).getD a [] = T.getD a [] := by
      rw [List.getD_eq_getElem?_getD, List.getElem?_set_ne (Ne.symm ha), ← List.getD_eq_getElem?_getD]
    rw [e1, if_neg (fun z => ha z.1)]
theorem foldl_range {α : Type} (f : α → Nat → α) (a : α) (n : Nat) : (List.range (n + 1)).foldl f a = f ((List.range n).foldl f a) n := by
  rw [List.range_succ, List.foldl_append]; rfl
/-- a row's lap -/
theorem tbX_k {n z x : Nat} {T : Tbl} (h : Shp n T) (hz : z < n) (hx : x < n) (h0 : 0 ≤ gt T z z) : ∀ k, k ≤ n → Shp n ((List.range k).foldl (tbS z x) T) ∧
    ∀ a b, a < n → b < n → gt ((List.range k).foldl (tbS z x) T) a b = if a = x ∧ b < k then min (gt T a b) (gt T a z + gt T z b) else gt T a b
  | 0, _ => ⟨h, fun a b _ _ => by rw [if_neg (fun q => Nat.not_lt_zero _ q.2)]; rfl⟩
  | k + 1, hk => by
    obtain ⟨h1, h2⟩ := tbX_k h hz hx h0 k (by omega)
    rw [foldl_range]
    generalize (List.range k).foldl (tbS z x) T = U at h1 h2 ⊢
    unfold tbS
    refine ⟨h1.st hx, fun a b ha hb => ?_⟩
    have hkn : k < n := by omega
    have u1 : gt U x k = gt T x k := by rw [h2 x k hx hkn, if_neg (fun q => Nat.lt_irrefl _ q.2)]
    have u2 : gt U z k = gt T z k := by rw [h2 z k hz hkn, if_neg (fun q => Nat.lt_irrefl _ q.2)]
    rw [gt_st h1 hx hkn, u1, u2, h2 x z hx hz, h2 a b ha hb]
    have e1 : (if x = x ∧ z < k then min (gt T x z) (gt T x z + gt T z z) else gt T x z) = gt T x z := by
      split <;> omega
    rw [e1]
    by_cases hax : a = x
    · subst hax
      by_cases hbk : b = k
      · subst hbk
        rw [if_pos ⟨rfl, rfl⟩, if_pos ⟨rfl, by omega⟩]
      · rw [if_neg (fun q => hbk q.2)]
        by_cases hlt : b < k
        · rw [if_pos ⟨rfl, hlt⟩, if_pos ⟨rfl, by omega⟩]
        · rw [if_neg (fun q => hlt q.2), if_neg (fun q => by have := q.2; omega)]
    · rw [if_neg (fun q => hax q.1), if_neg (fun q => hax q.1), if_neg (fun q => hax q.1)]
theorem tbZ_k {n z : Nat} {T : Tbl} (h : Shp n T) (hz : z < n) (h0 : 0 ≤ gt T z z) : ∀ k, k ≤ n → Shp n ((List.range k).foldl (tbX n z) T) ∧
    ∀ a b, a < n → b < n → gt ((List.range k).foldl (tbX n z) T) a b = if a < k then min (gt T a b) (gt T a z + gt T z b) else gt T a b
  | 0, _ => ⟨h, fun a b _ _ => by rw [if_neg (Nat.not_lt_zero _)]; rfl⟩
  | k + 1, hk => by
    obtain ⟨h1, h2⟩ := tbZ_k h hz h0 k (by omega)
    rw [foldl_range]
    generalize (List.range k).foldl (tbX n z) T = U at h1 h2 ⊢
    have hkn : k < n := by omega
    have hzz : gt U z z = gt T z z := by
      rw [h2 z z hz hz]; split <;> omega
    obtain ⟨h3, h4⟩ := tbX_k h1 hz hkn (by rw [hzz]; exact h0) n (Nat.le_refl n)
    unfold tbX
    refine ⟨h3, fun a b ha hb => ?_⟩
    rw [h4 a b ha hb, h2 a b ha hb, h2 a z ha hz, h2 z b hz hb]
    have e1 : (if z < k then min (gt T z b) (gt T z z + gt T z b) else gt T z b) = gt T z b := by split <;> omega
    rw [e1]
    by_cases hak : a = k
    · subst hak
      rw [if_pos ⟨rfl, hb⟩, if_neg (Nat.lt_irrefl _), if_neg (Nat.lt_irrefl _), if_pos (by omega)]
    · rw [if_neg (fun q => hak q.1)]
      by_cases hlt : a < k
      · rw [if_pos hlt, if_pos (by omega)]
      · rw [if_neg hlt, if_neg (by omega)]
theorem tbZ_eq {n z : Nat} {T : Tbl} (h : Shp n T) (hz : z < n) (h0 : 0 ≤ gt T z z) : Shp n (tbZ n T z) ∧ ∀ a b, a < n → b < n → gt (tbZ n T z) a b = min (gt T a b) (gt T a z + gt T z b) := by
  obtain ⟨h1, h2⟩ := tbZ_k h hz h0 n (Nat.le_refl n)
  exact ⟨h1, fun a b ha hb => by
    have := h2 a b ha hb
    rw [if_pos ha] at this
    exact this⟩
/-! nothing grows -/
theorem tbS_le {n z x y : Nat} {T : Tbl} (h : Shp n T) (hx : x < n) (hy : y < n) : Shp n (tbS z x T y) ∧ ∀ a b, a < n → b < n → gt (tbS z x T y) a b ≤ gt T a b := by
  unfold tbS
  refine ⟨h.st hx, fun a b _ _ => ?_⟩
  rw [gt_st h hx hy]
  split
  · rename_i e
    rw [e.1, e.2]; omega
  · omega
theorem fold_le {n : Nat} (f : Tbl → Nat → Tbl) (hf : ∀ T y, Shp n T → y < n → Shp n (f T y) ∧ ∀ a b, a < n → b < n → gt (f T y) a b ≤ gt T a b) : ∀ k, k ≤ n → ∀ T, Shp n T → Shp n ((List.range k).foldl f T) ∧ ∀ a b, a < n → b < n → gt ((List.range k).foldl f T) a b ≤ gt T a b
  | 0, _, T, h => ⟨h, fun a b _ _ => Int.le_refl _⟩
  | k + 1, hk, T, h => by
    obtain ⟨h1, h2⟩ := fold_le f hf k (by omega) T h
    rw [foldl_range]
    obtain ⟨h3, h4⟩ := hf _ k h1 (by omega)
    exact ⟨h3, fun a b ha hb => Int.le_trans (h4 a b ha hb) (h2 a b ha hb)⟩
theorem tbX_le {n z x : Nat} {T : Tbl} (h : Shp n T) (hx : x < n) : Shp n (tbX n z T x) ∧ ∀ a b, a < n → b < n → gt (tbX n z T x) a b ≤ gt T a b :=
  fold_le (tbS z x) (fun T y h hy => tbS_le h hx hy) n (Nat.le_refl n) T h
theorem tbZ_le {n z : Nat} {T : Tbl} (h : Shp n T) : Shp n (tbZ n T z) ∧ ∀ a b, a < n → b < n → gt (tbZ n T z) a b ≤ gt T a b :=
  fold_le (tbX n z) (fun T y h hy => tbX_le h hy) n (Nat.le_refl n) T h
theorem fw_le {n : Nat} {T : Tbl} (h : Shp n T) (k : Nat) (hk : k ≤ n) : Shp n ((List.range k).foldl (tbZ n) T) ∧ ∀ a b, a < n → b < n → gt ((List.range k).foldl (tbZ n) T) a b ≤ gt T a b :=
  fold_le (tbZ n) (fun T y h hy => tbZ_le h) k hk T h
/-- going over the first k crossings -/
theorem fw_tri {n : Nat} {T : Tbl} (h : Shp n T) (hd : ∀ x, x < n → 0 ≤ gt ((List.range n).foldl (tbZ n) T) x x) : ∀ k, k ≤ n →
    ∀ z, z < k → ∀ x y, x < n → y < n → gt ((List.range k).foldl (tbZ n) T) x y ≤ gt ((List.range k).foldl (tbZ n) T) x z + gt ((List.range k).foldl (tbZ n) T) z y
  | 0, _, z, hz, _, _, _, _ => absurd hz (Nat.not_lt_zero _)
  | k + 1, hk, z, hz, x, y, hx, hy => by
    have hkn : k < n := by omega
    obtain ⟨h1, _⟩ := fw_le h k (by omega)
    have ih := fw_tri h hd k (by omega)
    -- the diagonal is not below 0 ahead of this lap
    have mono : ∀ (m : Nat) (U : Tbl), Shp n U → ∀ (l : List Nat), (∀ i ∈ l, i < n) → ∀ a b, a < n → b < n → gt (l.foldl (tbZ n) U) a b ≤ gt U a b := fun _ U hU l => by
      induction l generalizing U with
      | nil => exact fun _ a b _ _ => Int.le_refl _
      | cons i l ihl =>
        intro hl a b ha hb
        simp only [List.foldl_cons]
        obtain ⟨q1, q2⟩ := tbZ_le (n := n) (z := i) hU
        exact Int.le_trans (ihl _ q1 (fun j hj => hl j (List.mem_cons_of_mem _ hj)) a b ha hb) (q2 a b ha hb)
    have split : (List.range n).foldl (tbZ n) T = (((List.range n).drop k).foldl (tbZ n) ((List.range k).foldl (tbZ n) T)) := by
      have e : List.range n = (List.range n).take k ++ (List.range n).drop k := (List.take_append_drop k _).symm
      have e2 : (List.range n).take k = List.range k := by rw [List.take_range, Nat.min_eq_left (by omega)]
      rw [← List.foldl_append, ← e2, ← e]
    have h0 : 0 ≤ gt ((List.range k).foldl (tbZ n) T) k k := by
      have := mono 0 _ h1 ((List.range n).drop k) (fun i hi => List.mem_range.mp (List.mem_of_mem_drop hi)) k k hkn hkn
      rw [← split] at this
      have := hd k hkn
      omega
    obtain ⟨h2, h3⟩ := tbZ_eq h1 hkn h0
    rw [foldl_range]
    generalize (List.range k).foldl (tbZ n) T = U at *
    have hzn : z < n := by omega
    rw [h3 x y hx hy, h3 x z hx hzn, h3 z y hzn hy]
    by_cases e : z = k
    · subst e
      omega
    · have hzk : z < k := by omega
      have t1 := ih z hzk x y hx hy
      have t2 := ih z hzk k y hkn hy
      have t3 := ih z hzk x k hx hkn
      have t4 := ih z hzk k k hkn hkn
      omega
end Fw
/-! ## K1a -/
set_option Elab.async false
set_option linter.all false
/-! Frames, their least costs: plain. -/
namespace Fw
structure Fr where
  n : Nat
  roads : List (Nat × Nat)
  low : List Int
  high : List Int
def dRoad (p : Nat × Nat) : D := .tup [.int p.1, .int p.2]
def Fr.d (G : Fr) : D := .tup [.int G.n, .tup (G.roads.map dRoad), .tup (G.low.map .int), .tup (G.high.map .int)]
structure Fr.Ok (G : Fr) : Prop where
  n1 : 1 ≤ G.n
  n2 : G.n ≤ 20
  m : G.roads.length ≤ 32
  rd : ∀ p ∈ G.roads, p.1 < G.n ∧ p.2 < G.n
  ll : G.low.length = G.roads.length
  hl : G.high.length = G.roads.length
  lb : ∀ x ∈ G.low, -1000000 ≤ x ∧ x ≤ 1000000
  hb : ∀ x ∈ G.high, -1000000 ≤ x ∧ x ≤ 1000000
theorem map_inj {α β : Type} {f : α → β} (hf : ∀ a b, f a = f b → a = b) : ∀ {l l' : List α}, l.map f = l'.map f → l = l'
  | [], [], _ => rfl
  | [], _ :: _, h => by simp at h
  | _ :: _, [], h => by simp at h
  | a :: l, b :: l', h => by
    simp only [List.map_cons, List.cons.injEq] at h
    rw [hf _ _ h.1, map_inj hf h.2]
theorem Fr.d_inj {G G' : Fr} (h : G.d = G'.d) : G = G' := by
  obtain ⟨n, r, l, u⟩ := G
  obtain ⟨n', r', l', u'⟩ := G'
  unfold Fr.d at h
  simp only [D.tup.injEq, List.cons.injEq, D.int.injEq, and_true, Int.natCast_inj] at h
  obtain ⟨h1, h2, h3, h4⟩ := h
  have e2 := map_inj (f := dRoad) (fun a b e => by
    unfold dRoad at e
    simp only [D.tup.injEq, List.cons.injEq, D.int.injEq, and_true, Int.natCast_inj] at e
    exact Prod.ext e.1 e.2) h2
  have e3 := map_inj (f := D.int) (fun a b e => by cases e; rfl) h3
  have e4 := map_inj (f := D.int) (fun a b e => by cases e; rfl) h4
  subst h1 e2 e3 e4
  rfl
/-! ### ends -/
def Fr.fr (G : Fr) (e : Nat) : Nat := if e % 2 = 0 then (G.roads.getD (e / 2) (0, 0)).1 else (G.roads.getD (e / 2) (0, 0)).2
def Fr.to (G : Fr) (e : Nat) : Nat := if e % 2 = 0 then (G.roads.getD (e / 2) (0, 0)).2 else (G.roads.getD (e / 2) (0, 0)).1
def Fr.cost (G : Fr) (e : Nat) : Int := if e % 2 = 0 then G.high.getD (e / 2) 0 else - G.low.getD (e / 2) 0
/-! ### tables -/
def far : Int := 1000000000
def tb0 (n : Nat) : Tb := (List.range n).map fun x => (List.range n).map fun y => if x = y then 0 else far
def tbE (G : Fr) (T : Tb) (e : Nat) : Tb := st T (G.fr e) (G.to e) (min (gt T (G.fr e) (G.to e)) (G.cost e))
def tb1 (G : Fr) : Tb := (List.range (2 * G.roads.length)).foldl (tbE G) (tb0 G.n)
def fwT (G : Fr) : Tb := (List.range G.n).foldl (tbZ G.n) (tb1 G)
def fwOk (G : Fr) : Bool := (List.range G.n).all fun x => decide (0 ≤ gt (fwT G) x x)
def fwD (G : Fr) : D := if fwOk G = true then .lst (tbRows (fwT G)) else .non
open Classical in
noncomputable def m_law_costs : List D → Option D := fun ds => if h : ∃ G : Fr, G.Ok ∧ ds = [G.d] then some (fwD (choose h)) else none
theorem m_law_costs_some {ds : List D} {d : D} (h : m_law_costs ds = some d) : ∃ G : Fr, G.Ok ∧ ds = [G.d] ∧ d = fwD G := by
  unfold m_law_costs at h
  split at h
  · rename_i h1
    cases h
    exact ⟨_, (Classical.choose_spec h1).1, (Classical.choose_spec h1).2, rfl⟩
  · cases h
theorem m_law_costs_of {G : Fr} (h : G.Ok) : m_law_costs [G.d] = some (fwD G) := by
  have h1 : ∃ G' : Fr, G'.Ok ∧ [G.d] = [G'.d] := ⟨G, h, rfl⟩
  unfold m_law_costs
  rw [dif_pos h1]
  have h2 : G.d = (Classical.choose h1).d := (List.cons.inj (Classical.choose_spec h1).2).1
  have h3 := Fr.d_inj h2
  exact congrArg (fun x => some (fwD x)) h3.symm
end Fw
/-! ## Mir -/
set_option Elab.async false
set_option linter.all false
set_option maxRecDepth 100000
set_option maxHeartbeats 4000000
namespace Fw
open PySem PySem.Spec PyProof.Rows L2
noncomputable section
def m_is_wholeB : C Unit := (sRet (eAnd (e1 (dIsi "int") (eV 0)) (e1 dNot (e1 (dIsi "bool") (eV 0)))))
def m_is_whole : List D → Option D := runP 1 1 m_is_wholeB

def m_are_wholesB : C Unit := (sRet (eAnd (e1 (dIsi "tuple") (eV 0)) (eAnd (e2 dEq (e1 dLen (eV 0)) (eV 1)) (e1 dAll (eLc (iE (eV 0)) (gN 2) Fw.tYes (eCallP m_is_whole (aCons (eV 2) aNil)) [2])))))
def m_are_wholes : List D → Option D := runP 2 3 m_are_wholesB

def m_end_fromB : C Unit := (sRet (e2 dIx (e2 dIx (e2 dIx (eV 0) (eC (.int 1))) (e2 dFdiv (eV 1) (eC (.int 2)))) (e2 dMod (eV 1) (eC (.int 2)))))
def m_end_from : List D → Option D := runP 2 2 m_end_fromB

def m_end_toB : C Unit := (sRet (e2 dIx (e2 dIx (e2 dIx (eV 0) (eC (.int 1))) (e2 dFdiv (eV 1) (eC (.int 2)))) (e2 dSub (eC (.int 1)) (e2 dMod (eV 1) (eC (.int 2))))))
def m_end_to : List D → Option D := runP 2 2 m_end_toB

def m_cost_of_endB : C Unit := (sRet (eIf (tE (e2 dEq (e2 dMod (eV 1) (eC (.int 2))) (eC (.int 0)))) (e2 dIx (e2 dIx (eV 0) (eC (.int 3))) (e2 dFdiv (eV 1) (eC (.int 2)))) (e1 dNeg (e2 dIx (e2 dIx (eV 0) (eC (.int 2))) (e2 dFdiv (eV 1) (eC (.int 2)))))))
def m_cost_of_end : List D → Option D := runP 2 2 m_cost_of_endB

def m_all_endsB : C Unit := (sRet (eListR1 (e2 dMul (eC (.int 2)) (e1 dLen (e2 dIx (eV 0) (eC (.int 1)))))))
def m_all_ends : List D → Option D := runP 1 1 m_all_endsB

def m_way_costB : C Unit := (sRet (e1 dSum (eLc (iE (eV 1)) (gN 2) Fw.tYes (eCallP m_cost_of_end (aCons (eV 0) (aCons (eV 2) aNil))) [2])))
def m_way_cost : List D → Option D := runP 2 3 m_way_costB

def m_way_breakB : C Unit := (sSeq (sFor (iEnum (eV 2)) (gTup (gCons (gN 3) (gCons (gN 4) gNil)))
    (sSeq (sIf (tE (e2 dNe (eCallP m_end_from (aCons (eV 0) (aCons (eV 4) aNil))) (eV 1)))
    (sRet (eV 3))
    sNx)
    (sAsg (eCallP m_end_to (aCons (eV 0) (aCons (eV 4) aNil))) (gN 1))) [2, 3, 4])
    (sRet (eC .non)))
def m_way_break : List D → Option D := runP 3 5 m_way_breakB

def m_way_endB : C Unit := (sRet (eIf (tE (e2 dGt (e1 dLen (eV 2)) (eC (.int 0)))) (eCallP m_end_to (aCons (eV 0) (aCons (e2 dIx (eV 2) (e1 dNeg (eC (.int 1)))) aNil))) (eV 1)))
def m_way_end : List D → Option D := runP 3 3 m_way_endB

def m_broken_roadB : C Unit := (sSeq (sFor (iEnum (e2 dIx (eV 0) (eC (.int 1)))) (gTup (gCons (gN 2) (gCons (gTup (gCons (gN 3) (gCons (gN 4) gNil))) gNil)))
    (sIf (Fw.tNot (tE (eChain dLe dLe (e2 dIx (e2 dIx (eV 0) (eC (.int 2))) (eV 2)) (e2 dSub (e2 dIx (eV 1) (eV 4)) (e2 dIx (eV 1) (eV 3))) (e2 dIx (e2 dIx (eV 0) (eC (.int 3))) (eV 2)))))
    (sRet (eV 2))
    sNx) [2, 3, 4])
    (sRet (eC .non)))
def m_broken_road : List D → Option D := runP 2 5 m_broken_roadB

def m_loweredB : C Unit := (sSeq (sPar [1, 2, 3] (qNew (e1 dDictC (eV 1)) (qNew (eC (.dct [])) (qSh (eC .non) qNil))))
    (sSeq (sFor (iR1 (e2 dAdd (e2 dIx (eV 0) (eC (.int 0))) (eC (.int 1)))) (gN 4)
    (sSeq (sAsg (eC .non) (gN 3))
    (sSeq (sFor (iE (eCallP m_all_ends (aCons (eV 0) aNil))) (gN 5)
    (sSeq (sPar [6, 7] (qSh (eCallP m_end_from (aCons (eV 0) (aCons (eV 5) aNil))) (qSh (eCallP m_end_to (aCons (eV 0) (aCons (eV 5) aNil))) qNil)))
    (sIf (Fw.tAnd (tE (eBR dKIn (eV 6) 1)) (Fw.tOr (tE (eBR dKNotIn (eV 7) 1)) (tE (e2 dLt (e2 dAdd (eBL dKGet 1 (eV 6)) (eCallP m_cost_of_end (aCons (eV 0) (aCons (eV 5) aNil)))) (eBL dKGet 1 (eV 7))))))
    (sMAsg (eTup (aCons (e2 dAdd (eBL dKGet 1 (eV 6)) (eCallP m_cost_of_end (aCons (eV 0) (aCons (eV 5) aNil)))) (aCons (eV 5) (aCons (eV 7) aNil)))) (mTup 3 (mCons (mK 1 (eV 7)) (mCons (mK 2 (eV 7)) (mCons (mN 3) mNil)))))
    sNx)) [4, 5, 6, 7])
    (sIf (tE (e1 dIsN (eV 3)))
    sBk
    sNx))) [4, 5, 6, 7])
    (sRet (eTup (aCons (eV 1) (aCons (eV 2) (aCons (eV 3) aNil)))))))
def m_lowered : List D → Option D := runP 2 8 m_loweredB

def m_tight_ringB : C Unit := (sSeq (sAsg (eCallP m_lowered (aCons (eV 0) (aCons (e1 dDictP (eLc (iR1 (e2 dIx (eV 0) (eC (.int 0)))) (gN 6) Fw.tYes (eTup (aCons (eV 6) (aCons (eC (.int 0)) aNil))) [6])) aNil))) (gTup (gCons (gN 1) (gCons (gN 2) (gCons (gN 3) gNil)))))
    (sSeq (sIf (tE (e1 dIsN (eV 3)))
    (sRet (eC .non))
    sNx)
    (sSeq (sNew (eLst aNil) 4)
    (sSeq (sWh 1000 (tE (eBR dNotIn (eV 3) 4))
    (sSeq (sDrop (eApp 4 (eV 3)))
    (sAsg (eCallP m_end_from (aCons (eV 0) (aCons (e2 dKGet (eV 2) (eV 3)) aNil))) (gN 3))) [1, 5])
    (sSeq (sAsg (eCut (eV 4) (pSome (e2 dIndex (eV 4) (eV 3))) pNone) (gN 5))
    (sRet (eTup (aCons (eV 3) (aCons (e1 dTuple (eLc (iE (e1 dRev (eV 5))) (gN 6) Fw.tYes (e2 dKGet (eV 2) (eV 6)) [6])) aNil)))))))))
def m_tight_ring : List D → Option D := runP 1 7 m_tight_ringB

def m_need_heightsB : C Unit := (sIf (tE (e1 dNotN (eCallP m_tight_ring (aCons (eV 0) aNil))))
    sNever
    sNx)
def m_need_heights : List D → Option D := runP 1 1 m_need_heightsB

def m_costs_fromB : C Unit := (sSeq (sDrop (eCallP m_need_heights (aCons (eV 0) aNil)))
    (sSeq (sAsg (e2 dIx (eCallP m_lowered (aCons (eV 0) (aCons (eD1 (eV 1) (eC (.int 0))) aNil))) (eC (.int 0))) (gN 2))
    (sRet (eLc (iR1 (e2 dIx (eV 0) (eC (.int 0)))) (gN 3) Fw.tYes (e2 dKGet (eV 2) (eV 3)) [3]))))
def m_costs_from : List D → Option D := runP 2 4 m_costs_fromB

def m_greatest_boundedB : C Unit := (sRet (e1 dTuple (eCallP m_costs_from (aCons (eV 0) (aCons (eC (.int 0)) aNil)))))
def m_greatest_bounded : List D → Option D := runP 1 1 m_greatest_boundedB

def m_height_paperB : C Unit := (sSeq (sAsg (eCallP m_tight_ring (aCons (eV 0) aNil)) (gN 1))
    (sRet (eIf (tE (e1 dNotN (eV 1))) (eTup (aCons (eC (.str "ring")) (aStar (eV 1) aNil))) (eTup (aCons (eC (.str "heights")) (aCons (eCallP m_greatest_bounded (aCons (eV 0) aNil)) aNil))))))
def m_height_paper : List D → Option D := runP 1 2 m_height_paperB

def m_are_endsB : C Unit := (sRet (eAnd (e1 (dIsi "tuple") (eV 1)) (e1 dAll (eLc (iE (eV 1)) (gN 2) Fw.tYes (eAnd (eCallP m_is_whole (aCons (eV 2) aNil)) (e2 dIn (eV 2) (eCallP m_all_ends (aCons (eV 0) aNil)))) [2]))))
def m_are_ends : List D → Option D := runP 2 3 m_are_endsB

def m_heights_faultB : C Unit := (sSeq (sIf (tE (e2 dNe (e2 dIx (eV 1) (eC (.int 0))) (eC (.int 0))))
    (sRet (eTup (aCons (eC (.str "base")) aNil)))
    sNx)
    (sSeq (sAsg (eCallP m_broken_road (aCons (eV 0) (aCons (eV 1) aNil))) (gN 2))
    (sRet (eIf (tE (e1 dNotN (eV 2))) (eTup (aCons (eC (.str "road")) (aCons (eV 2) aNil))) (eC .non)))))
def m_heights_fault : List D → Option D := runP 2 3 m_heights_faultB

def m_ring_faultB : C Unit := (sSeq (sAsg (eCallP m_way_break (aCons (eV 0) (aCons (eV 1) (aCons (eV 2) aNil)))) (gN 3))
    (sSeq (sIf (tE (e1 dNotN (eV 3)))
    (sRet (eTup (aCons (eC (.str "way")) (aCons (eV 3) aNil))))
    sNx)
    (sRet (eIf (tE (e2 dNe (eCallP m_way_end (aCons (eV 0) (aCons (eV 1) (aCons (eV 2) aNil)))) (eV 1))) (eTup (aCons (eC (.str "back")) (aCons (eCallP m_way_end (aCons (eV 0) (aCons (eV 1) (aCons (eV 2) aNil)))) aNil))) (eC .non)))))
def m_ring_fault : List D → Option D := runP 3 4 m_ring_faultB

def m_judge_height_paperB : C Unit := (sSeq (sIf (Fw.tOr (Fw.tNot (tE (e1 (dIsi "tuple") (eV 1)))) (Fw.tOr (tE (e2 dEq0 (eV 1) (eTup aNil))) (Fw.tNot (tE (e1 (dIsi "str") (e2 dIx (eV 1) (eC (.int 0))))))))
    (sRet (eTup (aCons (eC (.str "form")) aNil)))
    sNx)
    (sSeq (sIf (Fw.tAnd (tE (e2 dEq (e2 dIx (eV 1) (eC (.int 0))) (eC (.str "heights")))) (Fw.tAnd (tE (e2 dEq (e1 dLen (eV 1)) (eC (.int 2)))) (tE (eCallP m_are_wholes (aCons (e2 dIx (eV 1) (eC (.int 1))) (aCons (e2 dIx (eV 0) (eC (.int 0))) aNil))))))
    (sRet (eCallP m_heights_fault (aCons (eV 0) (aCons (e2 dIx (eV 1) (eC (.int 1))) aNil))))
    sNx)
    (sSeq (sIf (Fw.tOr (tE (e2 dNe (e2 dIx (eV 1) (eC (.int 0))) (eC (.str "ring")))) (Fw.tOr (tE (e2 dNe (e1 dLen (eV 1)) (eC (.int 3)))) (Fw.tOr (Fw.tNot (tE (eCallP m_is_whole (aCons (e2 dIx (eV 1) (eC (.int 1))) aNil)))) (Fw.tNot (tE (eChain dLe dLt (eC (.int 0)) (e2 dIx (eV 1) (eC (.int 1))) (e2 dIx (eV 0) (eC (.int 0)))))))))
    (sRet (eTup (aCons (eC (.str "form")) aNil)))
    sNx)
    (sSeq (sIf (Fw.tOr (Fw.tNot (tE (eCallP m_are_ends (aCons (eV 0) (aCons (e2 dIx (eV 1) (eC (.int 2))) aNil))))) (tE (e2 dEq0 (e2 dIx (eV 1) (eC (.int 2))) (eTup aNil))))
    (sRet (eTup (aCons (eC (.str "form")) aNil)))
    sNx)
    (sSeq (sAsg (eCallP m_ring_fault (aCons (eV 0) (aCons (e2 dIx (eV 1) (eC (.int 1))) (aCons (e2 dIx (eV 1) (eC (.int 2))) aNil)))) (gN 2))
    (sSeq (sIf (tE (e1 dNotN (eV 2)))
    (sRet (eV 2))
    sNx)
    (sSeq (sAsg (eCallP m_way_cost (aCons (eV 0) (aCons (e2 dIx (eV 1) (eC (.int 2))) aNil))) (gN 3))
    (sRet (eIf (tE (e2 dGe (eV 3) (eC (.int 0)))) (eTup (aCons (eC (.str "cost")) (aCons (eV 3) aNil))) (eC .non))))))))))
def m_judge_height_paper : List D → Option D := runP 2 4 m_judge_height_paperB

def m_law_ofB : C Src := (sRet (e2 dIx (eV 1) (eCall dPick (aCons (eV 0) (aCons (e1 dLen (eV 1)) aNil)))))
def m_law_of : List D → Src → Option (D × Src) := runC 2 2 m_law_ofB

def m_law_mixedB : C Src := (sSeq (sNew (e1 dList (eV 1)) 2)
    (sRet (eLc (iR1 (eB1 dLen 2)) (gN 3) Fw.tYes (ePopAt 2 (eCall dPick (aCons (eV 0) (aCons (eB1 dLen 2) aNil)))) [3])))
def m_law_mixed : List D → Src → Option (D × Src) := runC 2 4 m_law_mixedB

def m_law_numberB : C Unit := (sRet (eAnd (e1 (dIsi "int") (eV 0)) (e1 dNot (e1 (dIsi "bool") (eV 0)))))
def m_law_number : List D → Option D := runP 1 1 m_law_numberB

def m_law_frameB : C Src := (sSeq (sPar [3, 4] (qSh (e2 dAdd (eC (.int 1)) (eCall dPick (aCons (eV 0) (aCons (eV 1) aNil)))) (qSh (eCall dPick (aCons (eV 0) (aCons (eC (.int 6)) aNil))) qNil)))
    (sSeq (sPar [5, 6] (qSh (eCall m_law_mixed (aCons (eV 0) (aCons (eListR1 (eV 3)) aNil))) (qNew (eLst aNil) qNil)))
    (sSeq (sFor (iR2 (eC (.int 1)) (eV 3)) (gN 7)
    (sDrop (eApp 6 (eTup (aCons (e2 dIx (eV 5) (eCall dPick (aCons (eV 0) (aCons (eV 7) aNil)))) (aCons (e2 dIx (eV 5) (eV 7)) aNil))))) [1, 7, 8, 9, 10, 11, 12, 13, 14, 15, 17])
    (sSeq (sFor (iR1 (eCall dPick (aCons (eV 0) (aCons (eIf (tE (e2 dLt (eV 3) (eC (.int 5)))) (e2 dSub (eC (.int 15)) (eV 3)) (eC (.int 7))) aNil)))) (gN 8)
    (sDrop (eApp 6 (eTup (aCons (eCall dPick (aCons (eV 0) (aCons (eV 3) aNil))) (aCons (eCall dPick (aCons (eV 0) (aCons (eV 3) aNil))) aNil))))) [1, 5, 7, 8, 9, 10, 11, 12, 13, 14, 15, 17])
    (sSeq (sNew (eLc (iE (eCall m_law_mixed (aCons (eV 0) (aCons (eV 6) aNil)))) (gN 16) Fw.tYes (eIf (tE (e2 dEq (eCall dPick (aCons (eV 0) (aCons (eC (.int 2)) aNil))) (eC (.int 0)))) (e1 dRev (eV 16)) (eV 16)) [16]) 6)
    (sSeq (sPar [9, 10, 11] (qSh (eLc (iR1 (eV 3)) (gN 17) Fw.tYes (e2 dSub (eCall dPick (aCons (eV 0) (aCons (e2 dAdd (e2 dMul (eC (.int 2)) (eV 2)) (eC (.int 1))) aNil))) (eV 2)) [17]) (qNew (eLst aNil) (qNew (eLst aNil) qNil))))
    (sSeq (sFor (iE (eV 6)) (gTup (gCons (gN 12) (gCons (gN 13) gNil)))
    (sSeq (sAsg (e2 dSub (e2 dSub (e2 dIx (eV 9) (eV 13)) (e2 dIx (eV 9) (eV 12))) (eCall m_law_of (aCons (eV 0) (aCons (eLst (aCons (eC (.int 0)) (aCons (eC (.int 0)) (aCons (eC (.int 1)) (aCons (eC (.int 2)) (aCons (eCall dPick (aCons (eV 0) (aCons (e2 dAdd (eV 2) (eC (.int 1))) aNil))) aNil)))))) aNil)))) (gN 14))
    (sSeq (sAsg (e2 dAdd (e2 dSub (e2 dIx (eV 9) (eV 13)) (e2 dIx (eV 9) (eV 12))) (eCall m_law_of (aCons (eV 0) (aCons (eLst (aCons (eC (.int 0)) (aCons (eC (.int 0)) (aCons (eC (.int 1)) (aCons (eC (.int 2)) (aCons (eCall dPick (aCons (eV 0) (aCons (e2 dAdd (eV 2) (eC (.int 1))) aNil))) aNil)))))) aNil)))) (gN 15))
    (sSeq (sIf (tE (e2 dEq (eV 4) (eC (.int 0))))
    (sSeq (sAsg (e2 dSub (eCall dPick (aCons (eV 0) (aCons (e2 dAdd (e2 dMul (eC (.int 2)) (eV 2)) (eC (.int 1))) aNil))) (eV 2)) (gN 14))
    (sAsg (e2 dAdd (eV 14) (eCall dPick (aCons (eV 0) (aCons (e2 dAdd (eV 2) (eC (.int 1))) aNil)))) (gN 15)))
    sNx)
    (sSeq (sDrop (eApp 10 (eV 14)))
    (sDrop (eApp 11 (eV 15))))))) [1, 5, 7, 8, 12, 13, 14, 15, 16, 17])
    (sRet (eTup (aCons (eV 3) (aCons (e1 dTuple (eV 6)) (aCons (e1 dTuple (eV 10)) (aCons (e1 dTuple (eV 11)) aNil)))))))))))))
def m_law_frame : List D → Src → Option (D × Src) := runC 3 18 m_law_frameB

def m_law_end_fromB : C Unit := (sRet (e2 dIx (e2 dIx (e2 dIx (eV 0) (eC (.int 1))) (e2 dFdiv (eV 1) (eC (.int 2)))) (e2 dMod (e1 dInt (eV 1)) (eC (.int 2)))))
def m_law_end_from : List D → Option D := runP 2 2 m_law_end_fromB

def m_law_end_toB : C Unit := (sRet (e2 dIx (e2 dIx (e2 dIx (eV 0) (eC (.int 1))) (e2 dFdiv (eV 1) (eC (.int 2)))) (e2 dSub (eC (.int 1)) (e2 dMod (e1 dInt (eV 1)) (eC (.int 2))))))
def m_law_end_to : List D → Option D := runP 2 2 m_law_end_toB

def m_law_costB : C Unit := (sRet (eIf (tE (e2 dEq (e2 dMod (e1 dInt (eV 1)) (eC (.int 2))) (eC (.int 0)))) (e2 dIx (e2 dIx (eV 0) (eC (.int 3))) (e2 dFdiv (eV 1) (eC (.int 2)))) (e2 dSub (eC (.int 0)) (e2 dIx (e2 dIx (eV 0) (eC (.int 2))) (e2 dFdiv (eV 1) (eC (.int 2)))))))
def m_law_cost : List D → Option D := runP 2 2 m_law_costB

def m_law_way_costB : C Unit := (sRet (e1 dSum (eLc (iE (eV 1)) (gN 2) Fw.tYes (eCallP m_law_cost (aCons (eV 0) (aCons (eV 2) aNil))) [2])))
def m_law_way_cost : List D → Option D := runP 2 3 m_law_way_costB

def m_law_costsN : E Unit := (eLc (iR1 (eV 1)) (gN 8) Fw.tYes (eLc (iR1 (eV 1)) (gN 9) Fw.tYes (eIf (tE (e2 dEq (eV 8) (eV 9))) (eC (.int 0)) (eV 2)) [9]) [8])
def m_law_costsT (tA : Addr) : C (Unit × Tb) := (sSeq (sFor (iR1 (e2 dMul (eC (.int 2)) (e1 dLen (e2 dIx (eV 0) (eC (.int 1)))))) (gN 4)
    (sSeq (sPar [5, 6] (qSh (eCallP m_law_end_from (aCons (eV 0) (aCons (eV 4) aNil))) (qSh (eCallP m_law_end_to (aCons (eV 0) (aCons (eV 4) aNil))) qNil)))
    (sTabSet tA 3 (e2 dMin2 (eTabIx tA 3 (eV 5) (eV 6)) (eCallP m_law_cost (aCons (eV 0) (aCons (eV 4) aNil)))) (eV 5) (eV 6))) [2, 4, 5, 6, 7, 9])
    (sSeq (sFor (iR1 (eV 1)) (gN 7)
    (sFor (iR1 (eV 1)) (gN 8)
    (sFor (iR1 (eV 1)) (gN 9)
    (sTabSet tA 3 (e2 dMin2 (eTabIx tA 3 (eV 8) (eV 9)) (e2 dAdd (eTabIx tA 3 (eV 8) (eV 7)) (eTabIx tA 3 (eV 7) (eV 9)))) (eV 8) (eV 9)) [0, 2, 4, 5, 6, 9]) [0, 2, 4, 5, 6, 9]) [0, 2, 4, 5, 6, 7, 9])
    (sRet (eIf (tE (e2 dEq (eLc (iR1 (eV 1)) (gN 8) (tE (e2 dLt (eTabIx tA 3 (eV 8) (eV 8)) (eC (.int 0)))) (eV 8) [8]) (eLst aNil))) (eV 3) (eC .non)))))
def m_law_costsB (fF : C Unit) : C Unit := (sSeq (sPar [1, 2] (qSh (e2 dIx (eV 0) (eC (.int 0))) (qSh (e2 dPow (eC (.int 10)) (eC (.int 9))) qNil)))
    fF)

def m_law_are_wholesB : C Unit := (sRet (eAnd (e1 (dIsi "tuple") (eV 0)) (eAnd (e2 dEq (e1 dLen (eV 0)) (eV 1)) (e2 dEq (eLc (iE (eV 0)) (gN 2) (Fw.tNot (tE (eCallP m_law_number (aCons (eV 2) aNil)))) (eC (.int 1)) [2]) (eLst aNil)))))
def m_law_are_wholes : List D → Option D := runP 2 3 m_law_are_wholesB

def m_law_brokenB : C Unit := (sSeq (sFor (iEnum (e2 dIx (eV 0) (eC (.int 1)))) (gTup (gCons (gN 2) (gCons (gTup (gCons (gN 3) (gCons (gN 4) gNil))) gNil)))
    (sIf (Fw.tNot (tE (eChain dLe dLe (e2 dIx (e2 dIx (eV 0) (eC (.int 2))) (eV 2)) (e2 dSub (e2 dIx (eV 1) (eV 4)) (e2 dIx (eV 1) (eV 3))) (e2 dIx (e2 dIx (eV 0) (eC (.int 3))) (eV 2)))))
    (sRet (eV 2))
    sNx) [2, 3, 4])
    (sRet (eC .non)))
def m_law_broken : List D → Option D := runP 2 5 m_law_brokenB

def m_law_way_faultB : C Unit := (sSeq (sAsg (eV 1) (gN 3))
    (sSeq (sFor (iEnum (eV 2)) (gTup (gCons (gN 4) (gCons (gN 5) gNil)))
    (sSeq (sIf (tE (e2 dNe (eCallP m_law_end_from (aCons (eV 0) (aCons (eV 5) aNil))) (eV 3)))
    (sRet (eTup (aCons (eC (.str "way")) (aCons (eV 4) aNil))))
    sNx)
    (sAsg (eCallP m_law_end_to (aCons (eV 0) (aCons (eV 5) aNil))) (gN 3))) [2, 4, 5])
    (sRet (eIf (tE (e2 dNe (eV 3) (eV 1))) (eTup (aCons (eC (.str "back")) (aCons (eV 3) aNil))) (eC .non)))))
def m_law_way_fault : List D → Option D := runP 3 6 m_law_way_faultB

def m_law_heights_faultB : C Unit := (sSeq (sIf (tE (e2 dNe (e2 dIx (eV 1) (eC (.int 0))) (eC (.int 0))))
    (sRet (eTup (aCons (eC (.str "base")) aNil)))
    sNx)
    (sRet (eIf (tE (e1 dNotN (eCallP m_law_broken (aCons (eV 0) (aCons (eV 1) aNil))))) (eTup (aCons (eC (.str "road")) (aCons (eCallP m_law_broken (aCons (eV 0) (aCons (eV 1) aNil))) aNil))) (eC .non))))
def m_law_heights_fault : List D → Option D := runP 2 2 m_law_heights_faultB

def m_law_are_endsB : C Unit := (sRet (eAnd (e1 (dIsi "tuple") (eV 1)) (e2 dEq (eLc (iE (eV 1)) (gN 2) (Fw.tOr (Fw.tNot (tE (eCallP m_law_number (aCons (eV 2) aNil)))) (Fw.tNot (tE (eChain dLe dLt (eC (.int 0)) (eV 2) (e2 dMul (eC (.int 2)) (e1 dLen (e2 dIx (eV 0) (eC (.int 1))))))))) (eC (.int 1)) [2]) (eLst aNil))))
def m_law_are_ends : List D → Option D := runP 2 3 m_law_are_endsB

def m_law_paper_faultB : C Unit := (sSeq (sIf (Fw.tOr (Fw.tNot (tE (e1 (dIsi "tuple") (eV 1)))) (Fw.tOr (tE (e2 dEq0 (eV 1) (eTup aNil))) (Fw.tNot (tE (e1 (dIsi "str") (e2 dIx (eV 1) (eC (.int 0))))))))
    (sRet (eTup (aCons (eC (.str "form")) aNil)))
    sNx)
    (sSeq (sIf (Fw.tAnd (tE (e2 dEq (e2 dIx (eV 1) (eC (.int 0))) (eC (.str "heights")))) (Fw.tAnd (tE (e2 dEq (e1 dLen (eV 1)) (eC (.int 2)))) (tE (eCallP m_law_are_wholes (aCons (e2 dIx (eV 1) (eC (.int 1))) (aCons (e2 dIx (eV 0) (eC (.int 0))) aNil))))))
    (sRet (eCallP m_law_heights_fault (aCons (eV 0) (aCons (e2 dIx (eV 1) (eC (.int 1))) aNil))))
    sNx)
    (sSeq (sIf (Fw.tOr (tE (e2 dNe (e2 dIx (eV 1) (eC (.int 0))) (eC (.str "ring")))) (Fw.tOr (tE (e2 dNe (e1 dLen (eV 1)) (eC (.int 3)))) (Fw.tOr (Fw.tNot (tE (eCallP m_law_number (aCons (e2 dIx (eV 1) (eC (.int 1))) aNil)))) (Fw.tNot (tE (eChain dLe dLt (eC (.int 0)) (e2 dIx (eV 1) (eC (.int 1))) (e2 dIx (eV 0) (eC (.int 0)))))))))
    (sRet (eTup (aCons (eC (.str "form")) aNil)))
    sNx)
    (sSeq (sIf (Fw.tOr (Fw.tNot (tE (eCallP m_law_are_ends (aCons (eV 0) (aCons (e2 dIx (eV 1) (eC (.int 2))) aNil))))) (tE (e2 dEq0 (e2 dIx (eV 1) (eC (.int 2))) (eTup aNil))))
    (sRet (eTup (aCons (eC (.str "form")) aNil)))
    sNx)
    (sSeq (sAsg (eCallP m_law_way_fault (aCons (eV 0) (aCons (e2 dIx (eV 1) (eC (.int 1))) (aCons (e2 dIx (eV 1) (eC (.int 2))) aNil)))) (gN 2))
    (sSeq (sIf (tE (e1 dNotN (eV 2)))
    (sRet (eV 2))
    sNx)
    (sRet (eIf (tE (e2 dGe (eCallP m_law_way_cost (aCons (eV 0) (aCons (e2 dIx (eV 1) (eC (.int 2))) aNil))) (eC (.int 0)))) (eTup (aCons (eC (.str "cost")) (aCons (eCallP m_law_way_cost (aCons (eV 0) (aCons (e2 dIx (eV 1) (eC (.int 2))) aNil))) aNil))) (eC .non)))))))))
def m_law_paper_fault : List D → Option D := runP 2 3 m_law_paper_faultB

def m_law_walkB : C Src := (sSeq (sPar [4, 5] (qNew (eLst aNil) (qSh (eV 2) qNil)))
    (sSeq (sFor (iR1 (eCall dPick (aCons (eV 0) (aCons (e2 dAdd (eV 3) (eC (.int 1))) aNil)))) (gN 6)
    (sSeq (sAsg (eLc (iR1 (e2 dMul (eC (.int 2)) (e1 dLen (e2 dIx (eV 1) (eC (.int 1)))))) (gN 8) (tE (e2 dEq (eCallP m_law_end_from (aCons (eV 1) (aCons (eV 8) aNil))) (eV 5))) (eV 8) [8]) (gN 7))
    (sIf (tE (e2 dNe (eV 7) (eLst aNil)))
    (sSeq (sDrop (eApp 4 (eCall m_law_of (aCons (eV 0) (aCons (eV 7) aNil)))))
    (sAsg (eCallP m_law_end_to (aCons (eV 1) (aCons (eBL dIx 4 (e1 dNeg (eC (.int 1)))) aNil))) (gN 5)))
    sNx)) [2, 3, 6, 7])
    (sRet (e1 dTuple (eV 4)))))
def m_law_walk : List D → Src → Option (D × Src) := runC 4 9 m_law_walkB

def m_law_bentB (rec : List D → Src → Option (D × Src)) : C Src := (sSeq (sAsg (eLst (aCons (eC .non) (aCons (eC (.int 0)) (aCons (eC (.int 1)) (aCons (eC (.int 2)) (aCons (eC (.bl true)) (aCons (e1 dNeg (eC (.int 1))) (aCons (eC (.str "a")) (aCons (eC (.str "heights")) (aCons (eC (.str "ring")) (aCons (eC (.str "tied")) (aCons (eC (.str "loose")) (aCons (eTup aNil) (aCons (eTup (aCons (eC (.int 0)) aNil)) (aCons (eTup (aCons (eC (.int 0)) (aCons (eC (.int 0)) aNil))) (aCons (eLst aNil) (aCons (eC (.dct [])) (aCons (e2 dPow (eC (.int 10)) (eC (.int 6))) aNil)))))))))))))))))) (gN 2))
    (sSeq (sIf (Fw.tOr (Fw.tNot (tE (e1 (dIsi "tuple") (eV 1)))) (Fw.tOr (tE (e2 dEq0 (eV 1) (eTup aNil))) (tE (e2 dEq (eCall dPick (aCons (eV 0) (aCons (eC (.int 5)) aNil))) (eC (.int 0))))))
    (sSeq (sAsg (eLst (aCons (eCall m_law_of (aCons (eV 0) (aCons (eV 2) aNil))) aNil)) (gN 3))
    (sSeq (sIf (tE (e1 (dIsi "tuple") (eV 1)))
    (sAsg (e2 dAdd (eV 3) (eLst (aCons (eCut (eV 1) (pSome (eC (.int 1))) pNone) (aCons (eCut (eV 1) pNone (pSome (e1 dNeg (eC (.int 1))))) (aCons (e2 dAdd (eV 1) (eCut (eV 1) pNone (pSome (eC (.int 1))))) (aCons (e1 dList (eV 1)) (aCons (e1 dRev (eV 1)) (aCons (e2 dAdd (eV 1) (eTup (aCons (eC (.int 0)) aNil))) aNil)))))))) (gN 3))
    sNx)
    (sRet (eCall m_law_of (aCons (eV 0) (aCons (eV 3) aNil))))))
    sNx)
    (sSeq (sPar [4, 5] (qSh (eCall dPick (aCons (eV 0) (aCons (e1 dLen (eV 1)) aNil))) (qSh (eCall dPick (aCons (eV 0) (aCons (eC (.int 6)) aNil))) qNil)))
    (sSeq (sIf (Fw.tAnd (tE (e2 dLt (eV 5) (eC (.int 3)))) (tE (eCallP m_law_number (aCons (e2 dIx (eV 1) (eV 4)) aNil))))
    (sRet (e2 dAdd (e2 dAdd (eCut (eV 1) pNone (pSome (eV 4))) (eTup (aCons (eCall m_law_of (aCons (eV 0) (aCons (eLst (aCons (e2 dSub (eC (.int 0)) (e2 dIx (eV 1) (eV 4))) (aCons (e2 dAdd (e2 dIx (eV 1) (eV 4)) (eC (.int 1))) (aCons (e2 dSub (e2 dIx (eV 1) (eV 4)) (eC (.int 1))) (aCons (e2 dAdd (e2 dIx (eV 1) (eV 4)) (eC (.int 2))) aNil))))) aNil))) aNil))) (eCut (eV 1) (pSome (e2 dAdd (eV 4) (eC (.int 1)))) pNone)))
    sNx)
    (sSeq (sIf (tE (e2 dEq (eV 5) (eC (.int 3))))
    (sRet (e2 dAdd (eCut (eV 1) pNone (pSome (eV 4))) (eCut (eV 1) (pSome (e2 dAdd (eV 4) (eC (.int 1)))) pNone)))
    sNx)
    (sRet (e2 dAdd (e2 dAdd (eCut (eV 1) pNone (pSome (eV 4))) (eTup (aCons (eCall rec (aCons (eV 0) (aCons (e2 dIx (eV 1) (eV 4)) aNil))) aNil))) (eCut (eV 1) (pSome (e2 dAdd (eV 4) (eC (.int 1)))) pNone))))))))
def m_law_bent : Nat → List D → Src → Option (D × Src)
  | 0 => fun _ _ => none
  | k + 1 => runC 2 6 (m_law_bentB (m_law_bent k))

def m_lawB : C Src := (sSeq (sFor (iR1 (eC (.int 5))) (gN 2)
    (sSeq (sAsg (eCall m_law_frame (aCons (eV 1) (aCons (e2 dIx (eLst (aCons (eC (.int 2)) (aCons (eC (.int 4)) (aCons (eC (.int 6)) (aCons (eC (.int 8)) (aCons (eC (.int 8)) aNil)))))) (eV 2)) (aCons (eCall m_law_of (aCons (eV 1) (aCons (eLst (aCons (eC (.int 2)) (aCons (eC (.int 4)) (aCons (eC (.int 300)) aNil)))) aNil))) aNil)))) (gN 3))
    (sSeq (sAsg (eTup (aCons (e2 dIx (eV 3) (eC (.int 0))) (aCons (e1 dRepr (eV 3)) (aCons (eCallP m_law_costs (aCons (eV 3) aNil)) (aCons (eCallP m_height_paper (aCons (eV 3) aNil)) aNil))))) (gTup (gCons (gN 4) (gCons (gN 5) (gCons (gN 6) (gCons (gN 7) gNil))))))
    (sSeq (sIf (Fw.tOr (tE (e2 dNe (e2 dIx (eV 7) (eC (.int 0))) (eIf (tE (e1 dIsN (eV 6))) (eC (.str "ring")) (eC (.str "heights"))))) (tE (e1 dNotN (eCallP m_law_paper_fault (aCons (eV 3) (aCons (eV 7) aNil))))))
    (sRet (eC (.bl false)))
    sNx)
    (sSeq (sIf (Fw.tOr (Fw.tAnd (tE (e1 dNotN (eV 6))) (tE (e2 dNe (e1 dRepr (eV 7)) (e1 dRepr (eTup (aCons (eC (.str "heights")) (aCons (e1 dTuple (e2 dIx (eV 6) (eC (.int 0)))) aNil))))))) (tE (e2 dNe (e1 dRepr (eCallP m_height_paper (aCons (eV 3) aNil))) (e1 dRepr (eV 7)))))
    (sRet (eC (.bl false)))
    sNx)
    (sSeq (sAsg (eCall dPick (aCons (eV 1) (aCons (eV 4) aNil))) (gN 8))
    (sSeq (sAsg (eCall m_law_walk (aCons (eV 1) (aCons (eV 3) (aCons (eV 8) (aCons (eC (.int 7)) aNil))))) (gN 9))
    (sSeq (sAsg (e2 dAdd (eV 9) (e1 dTuple (eLc (iE (e1 dRev (eV 9))) (gN 16) Fw.tYes (e2 dSub (e2 dAdd (eV 16) (eC (.int 1))) (e2 dMul (eC (.int 2)) (e2 dMod (e1 dInt (eV 16)) (eC (.int 2))))) [16]))) (gN 10))
    (sSeq (sAsg (eLst (aCons (eV 7) (aCons (eTup (aCons (eC (.str "ring")) (aCons (eV 8) (aCons (eV 9) aNil)))) (aCons (eTup (aCons (eC (.str "ring")) (aCons (eV 8) (aCons (eV 10) aNil)))) (aCons (eTup (aCons (eC (.str "heights")) (aCons (e2 dMul (eTup (aCons (eC (.int 0)) aNil)) (eV 4)) aNil))) (aCons (eTup (aCons (eC (.str "heights")) (aCons (e1 dTuple (eLc (iR1 (eV 4)) (gN 17) Fw.tYes (e2 dSub (eCall dPick (aCons (eV 1) (aCons (eC (.int 5)) aNil))) (eC (.int 2))) [17])) aNil))) aNil)))))) (gN 11))
    (sSeq (sAsg (e2 dAdd (e2 dAdd (eV 11) (eLc (iR1 (eC (.int 6))) (gN 18) Fw.tYes (eCall (m_law_bent 12) (aCons (eV 1) (aCons (eV 7) aNil))) [18])) (eLc (iR1 (eC (.int 6))) (gN 18) Fw.tYes (eCall (m_law_bent 12) (aCons (eV 1) (aCons (eCall m_law_of (aCons (eV 1) (aCons (eV 11) aNil))) aNil))) [18])) (gN 12))
    (sSeq (sFor (iE (e2 dAdd (eV 12) (eLst (aCons (eTup (aCons (eC (.str "ring")) (aCons (eV 4) (aCons (eV 9) aNil)))) (aCons (eTup (aCons (eC (.str "ring")) (aCons (eV 8) (aCons (eTup aNil) aNil)))) (aCons (eTup (aCons (eC (.str "heights")) aNil)) (aCons (eC .non) (aCons (eTup aNil) (aCons (e1 dList (eV 7)) (aCons (e2 dIx (eV 7) (eC (.int 0))) (aCons (eTup (aCons (eC (.str "ring")) (aCons (eC (.bl true)) (aCons (eV 9) aNil)))) aNil))))))))))) (gN 13)
    (sSeq (sPar [14, 15] (qSh (e1 dRepr (eV 13)) (qSh (eCallP m_law_paper_fault (aCons (eV 3) (aCons (eV 13) aNil))) qNil)))
    (sSeq (sIf (Fw.tOr (tE (e2 dNe (e1 dRepr (eCallP m_judge_height_paper (aCons (eV 3) (aCons (eV 13) aNil)))) (e1 dRepr (eV 15)))) (tE (e2 dNe (e1 dRepr (eV 13)) (eV 14))))
    (sRet (eC (.bl false)))
    sNx)
    (sIf (Fw.tAnd (tE (e1 dIsN (eV 15))) (tE (e2 dNe (e2 dIx (eV 13) (eC (.int 0))) (e2 dIx (eV 7) (eC (.int 0))))))
    (sRet (eC (.bl false)))
    sNx))) [0, 2, 4, 6, 8, 9, 10, 11, 12, 13, 14, 15, 17, 18])
    (sIf (tE (e2 dNe (e1 dRepr (eV 3)) (eV 5)))
    (sRet (eC (.bl false)))
    sNx))))))))))) [0, 2, 3, 4, 5, 6, 7, 8, 9, 10, 11, 12, 13, 14, 15, 17, 18])
    (sSeq (sAsg (eTup (aCons (eC (.int 3)) (aCons (eTup (aCons (eTup (aCons (eC (.int 0)) (aCons (eC (.int 1)) aNil))) (aCons (eTup (aCons (eC (.int 1)) (aCons (eC (.int 2)) aNil))) (aCons (eTup (aCons (eC (.int 0)) (aCons (eC (.int 2)) aNil))) aNil)))) (aCons (eTup (aCons (eC (.int 0)) (aCons (eC (.int 0)) (aCons (eC (.int 5)) aNil)))) (aCons (eTup (aCons (eC (.int 2)) (aCons (eC (.int 2)) (aCons (eC (.int 5)) aNil)))) aNil))))) (gN 3))
    (sRet (e2 dEq (eLst (aCons (e2 dIx (eCallP m_height_paper (aCons (eV 3) aNil)) (eC (.int 0))) (aCons (eCallP m_judge_height_paper (aCons (eV 3) (aCons (eTup (aCons (eC (.str "ring")) (aCons (eC (.int 0)) (aCons (eTup (aCons (eC (.int 0)) (aCons (eC (.int 2)) (aCons (eC (.int 5)) aNil)))) aNil)))) aNil))) aNil))) (eLst (aCons (eC (.str "ring")) (aCons (eC .non) aNil)))))))
end
end Fw
/-! ## Ev -/
set_option Elab.async false
set_option linter.all false
/-! What a mirror comes to, by what is wanted behind it. -/
namespace Fw
section
variable {S : Type} {ρ : Env} {s : S}
def wE (f : E S) (ρ : Env) (s : S) (Q : D → Env → S → Prop) : Prop := match f ρ s with
  | some (d, ρ, s) => Q d ρ s
  | none => False
def wT (f : T S) (ρ : Env) (s : S) (Q : Bool → Env → S → Prop) : Prop := match f ρ s with
  | some (d, ρ, s) => Q d ρ s
  | none => False
def wA (f : As S) (ρ : Env) (s : S) (Q : List D → Env → S → Prop) : Prop := match f ρ s with
  | some (d, ρ, s) => Q d ρ s
  | none => False
def wI (f : I S) (ρ : Env) (s : S) (Q : List D → Env → S → Prop) : Prop := match f ρ s with
  | some (d, ρ, s) => Q d ρ s
  | none => False
def wO (f : Env → S → Option (Option Int × Env × S)) (ρ : Env) (s : S) (Q : Option Int → Env → S → Prop) : Prop := match f ρ s with
  | some (d, ρ, s) => Q d ρ s
  | none => False
def wQ (f : Qs S) (ρ : Env) (s : S) (Q : List Sl → Env → S → Prop) : Prop := match f ρ s with
  | some (d, ρ, s) => Q d ρ s
  | none => False
def wS (f : C S) (ρ : Env) (s : S) (Q : Ctl → Env → S → Prop) : Prop := match f ρ s with
  | some (d, ρ, s) => Q d ρ s
  | none => False
/-- an operation's outcome -/
def wD {α : Type} (o : Option α) (Q : α → Prop) : Prop := match o with
  | some d => Q d
  | none => False
theorem wD_some {α : Type} {a : α} {Q : α → Prop} : wD (some a) Q = Q a := rfl
theorem wD_of {α : Type} {o : Option α} {a : α} {Q : α → Prop} (h : o = some a) (q : Q a) : wD o Q := by rw [h]; exact q
theorem wE_mono {f : E S} {Q Q' : D → Env → S → Prop} (h : wE f ρ s Q) (k : ∀ d ρ s, Q d ρ s → Q' d ρ s) : wE f ρ s Q' := by
  unfold wE at *
  cases e : f ρ s with
  | none => rw [e] at h; exact h
  | some t => rw [e] at h; exact k _ _ _ h
theorem wS_mono {f : C S} {Q Q' : Ctl → Env → S → Prop} (h : wS f ρ s Q) (k : ∀ d ρ s, Q d ρ s → Q' d ρ s) : wS f ρ s Q' := by
  unfold wS at *
  cases e : f ρ s with
  | none => rw [e] at h; exact h
  | some t => rw [e] at h; exact k _ _ _ h
theorem w_eC {d : D} {Q : D → Env → S → Prop} : wE (eC d) ρ s Q = Q d ρ s := rfl
theorem w_eV {i : Nat} {d : D} {Q : D → Env → S → Prop} (h : ρ[i]? = some (some (.sh d))) : wE (eV i) ρ s Q = Q d ρ s := by
  unfold wE eV; rw [h]
theorem w_eVo {i : Nat} {d : D} {Q : D → Env → S → Prop} (h : ρ[i]? = some (some (.ow d))) : wE (eV i) ρ s Q = Q d (ρ.set i (some (.sh d))) s := by
  unfold wE eV; rw [h]
theorem w_e1 {op : D → Option D} {a : E S} {Q : D → Env → S → Prop} : wE (e1 op a) ρ s Q = wE a ρ s fun x ρ s => wD (op x) fun z => Q z ρ s := by
  unfold wE e1
  cases a ρ s with
  | none => rfl
  | some t =>
    obtain ⟨x, ρ1, s1⟩ := t
    dsimp only
    cases op x <;> rfl
theorem w_e2 {op : D → D → Option D} {a b : E S} {Q : D → Env → S → Prop} : wE (e2 op a b) ρ s Q = wE a ρ s fun x ρ s => wE b ρ s fun y ρ s => wD (op x y) fun z => Q z ρ s := by
  unfold wE e2
  cases a ρ s with
  | none => rfl
  | some t =>
    obtain ⟨x, ρ1, s1⟩ := t
    dsimp only
    cases b ρ1 s1 with
    | none => rfl
    | some u =>
      obtain ⟨y, ρ2, s2⟩ := u
      dsimp only
      cases op x y <;> rfl
theorem w_eB1 {op : D → Option D} {i : Nat} {x : Sl} {Q : D → Env → S → Prop} (h : ρ[i]? = some (some x)) : wE (eB1 op i) ρ s Q = wD (op x.d) fun z => Q z ρ s := by
  unfold wE eB1
  rw [h]
  dsimp only
  cases op x.d <;> rfl
theorem w_eBL {op : D → D → Option D} {i : Nat} {b : E S} {x : Sl} {Q : D → Env → S → Prop} (h : ρ[i]? = some (some x)) : wE (eBL op i b) ρ s Q = wE b ρ s fun y ρ s => wD (match ρ[i]? with | some (some x) => op x.d y | _ => none) fun z => Q z ρ s := by
  unfold wE eBL
  rw [h]
  dsimp only
  cases b ρ s with
  | none => rfl
  | some t =>
    obtain ⟨y, ρ1, s1⟩ := t
    dsimp only
    cases ρ1[i]? with
    | none => rfl
    | some o =>
      cases o with
      | none => rfl
      | some x => dsimp only; cases op x.d y <;> rfl
theorem w_eBR {op : D → D → Option D} {i : Nat} {a : E S} {Q : D → Env → S → Prop} : wE (eBR op a i) ρ s Q = wE a ρ s fun x ρ s => wD (match ρ[i]? with | some (some y) => op x y.d | _ => none) fun z => Q z ρ s := by
  unfold wE eBR
  cases a ρ s with
  | none => rfl
  | some t =>
    obtain ⟨y, ρ1, s1⟩ := t
    dsimp only
    cases ρ1[i]? with
    | none => rfl
    | some o =>
      cases o with
      | none => rfl
      | some x => dsimp only; cases op y x.d <;> rfl
def isB (d : D) (Q : Bool → Prop) : Prop := match d with
  | .bl b => Q b
  | _ => False
theorem isB_bl {b : Bool} {Q : Bool → Prop} : isB (.bl b) Q = Q b := rfl
theorem w_tE {a : E S} {Q : Bool → Env → S → Prop} : wT (tE a) ρ s Q = wE a ρ s fun x ρ s => isB x fun b => Q b ρ s := by
  unfold wT wE tE
  cases a ρ s with
  | none => rfl
  | some t =>
    obtain ⟨d, ρ1, s1⟩ := t
    cases d <;> rfl
theorem w_tYes {Q : Bool → Env → S → Prop} : wT tYes ρ s Q = Q true ρ s := rfl
theorem w_tAnd {a b : T S} {Q : Bool → Env → S → Prop} : wT (tAnd a b) ρ s Q = wT a ρ s fun x ρ s => if x = true then wT b ρ s Q else Q false ρ s := by
  unfold wT tAnd
  cases a ρ s with
  | none => rfl
  | some t =>
    obtain ⟨d, ρ1, s1⟩ := t
    cases d <;> simp
theorem w_tOr {a b : T S} {Q : Bool → Env → S → Prop} : wT (tOr a b) ρ s Q = wT a ρ s fun x ρ s => if x = true then Q true ρ s else wT b ρ s Q := by
  unfold wT tOr
  cases a ρ s with
  | none => rfl
  | some t =>
    obtain ⟨d, ρ1, s1⟩ := t
    cases d <;> simp
theorem w_tNot {a : T S} {Q : Bool → Env → S → Prop} : wT (tNot a) ρ s Q = wT a ρ s fun x ρ s => Q (!x) ρ s := by
  unfold wT tNot
  cases a ρ s <;> rfl
theorem w_eAnd {a b : E S} {Q : D → Env → S → Prop} : wE (eAnd a b) ρ s Q = wE a ρ s fun x ρ s => isB x fun c => if c = true then wE b ρ s Q else Q (.bl false) ρ s := by
  unfold wE eAnd
  cases a ρ s with
  | none => rfl
  | some t =>
    obtain ⟨d, ρ1, s1⟩ := t
    cases d with
    | bl c => cases c <;> simp [isB]
    | _ => rfl
theorem w_eOr {a b : E S} {Q : D → Env → S → Prop} : wE (eOr a b) ρ s Q = wE a ρ s fun x ρ s => isB x fun c => if c = true then Q (.bl true) ρ s else wE b ρ s Q := by
  unfold wE eOr
  cases a ρ s with
  | none => rfl
  | some t =>
    obtain ⟨d, ρ1, s1⟩ := t
    cases d with
    | bl c => cases c <;> simp [isB]
    | _ => rfl
theorem w_eIf {t : T S} {a b : E S} {Q : D → Env → S → Prop} : wE (eIf t a b) ρ s Q = wT t ρ s fun c ρ s => if c = true then wE a ρ s Q else wE b ρ s Q := by
  unfold wE wT eIf
  cases t ρ s with
  | none => rfl
  | some u =>
    obtain ⟨d, ρ1, s1⟩ := u
    cases d <;> simp
theorem w_eChain {f g : D → D → Option D} {a b c : E S} {Q : D → Env → S → Prop} : wE (eChain f g a b c) ρ s Q = wE a ρ s fun x ρ s => wE b ρ s fun y ρ s => wD (f x y) fun u => isB u fun k => if k = true then wE c ρ s (fun z ρ s => wD (g y z) fun w => Q w ρ s) else Q (.bl false) ρ s := by
  unfold wE eChain
  cases a ρ s with
  | none => rfl
  | some t =>
    obtain ⟨x, ρ1, s1⟩ := t
    dsimp only
    cases b ρ1 s1 with
    | none => rfl
    | some u =>
      obtain ⟨y, ρ2, s2⟩ := u
      dsimp only
      cases f x y with
      | none => rfl
      | some k =>
        cases k with
        | bl k =>
          cases k with
          | false => simp [wD, isB]
          | true =>
            simp only [wD, isB, if_true]
            cases c ρ2 s2 with
            | none => rfl
            | some w =>
              obtain ⟨z, ρ3, s3⟩ := w
              dsimp only
              cases g y z <;> rfl
        | _ => rfl
theorem w_aNil {Q : List D → Env → S → Prop} : wA aNil ρ s Q = Q [] ρ s := rfl
theorem w_aCons {a : E S} {r : As S} {Q : List D → Env → S → Prop} : wA (aCons a r) ρ s Q = wE a ρ s fun x ρ s => wA r ρ s fun xs ρ s => Q (x :: xs) ρ s := by
  unfold wA wE aCons
  cases a ρ s with
  | none => rfl
  | some t =>
    obtain ⟨x, ρ1, s1⟩ := t
    dsimp only
    cases r ρ1 s1 <;> rfl
theorem w_eTup {r : As S} {Q : D → Env → S → Prop} : wE (eTup r) ρ s Q = wA r ρ s fun xs ρ s => wD (if xs.length ≤ LIM then some xs else none) fun xs => Q (.tup xs) ρ s := by
  unfold wE wA eTup
  cases r ρ s with
  | none => rfl
  | some t =>
    obtain ⟨x, ρ1, s1⟩ := t
    dsimp only
    by_cases hc : x.length ≤ LIM
    · rw [if_pos hc, if_pos hc]; rfl
    · rw [if_neg hc, if_neg hc]; rfl

theorem w_eLst {r : As S} {Q : D → Env → S → Prop} : wE (eLst r) ρ s Q = wA r ρ s fun xs ρ s => wD (if xs.length ≤ LIM then some xs else none) fun xs => Q (.lst xs) ρ s := by
  unfold wE wA eLst
  cases r ρ s with
  | none => rfl
  | some t =>
    obtain ⟨x, ρ1, s1⟩ := t
    dsimp only
    by_cases hc : x.length ≤ LIM
    · rw [if_pos hc, if_pos hc]; rfl
    · rw [if_neg hc, if_neg hc]; rfl
theorem w_eCall {f : List D → S → Option (D × S)} {a : As S} {Q : D → Env → S → Prop} : wE (eCall f a) ρ s Q = wA a ρ s fun xs ρ s => wD (f xs s) fun p => Q p.1 ρ p.2 := by
  unfold wE wA eCall
  cases a ρ s with
  | none => rfl
  | some t =>
    obtain ⟨x, ρ1, s1⟩ := t
    dsimp only
    cases f x s1 <;> rfl
theorem w_eCallP {f : List D → Option D} {a : As S} {Q : D → Env → S → Prop} : wE (eCallP f a) ρ s Q = wA a ρ s fun xs ρ s => wD (f xs) fun d => Q d ρ s := by
  unfold wE wA eCallP
  cases a ρ s with
  | none => rfl
  | some t =>
    obtain ⟨x, ρ1, s1⟩ := t
    dsimp only
    cases f x <;> rfl
theorem w_pNone {Q : Option Int → Env → S → Prop} : wO pNone ρ s Q = Q none ρ s := rfl
def isI (d : D) (Q : Int → Prop) : Prop := match d with
  | .int b => Q b
  | _ => False
theorem isI_int {b : Int} {Q : Int → Prop} : isI (.int b) Q = Q b := rfl
theorem w_pSome {a : E S} {Q : Option Int → Env → S → Prop} : wO (pSome a) ρ s Q = wE a ρ s fun x ρ s => isI x fun i => Q (some i) ρ s := by
  unfold wO wE pSome
  cases a ρ s with
  | none => rfl
  | some t =>
    obtain ⟨x, ρ1, s1⟩ := t
    cases x <;> rfl
theorem w_eCut {a : E S} {lo hi : Env → S → Option (Option Int × Env × S)} {Q : D → Env → S → Prop} : wE (eCut a lo hi) ρ s Q = wE a ρ s fun x ρ s => wO lo ρ s fun l ρ s => wO hi ρ s fun h ρ s => wD (dCut l h x) fun z => Q z ρ s := by
  unfold wE wO eCut
  cases a ρ s with
  | none => rfl
  | some t =>
    obtain ⟨x, ρ1, s1⟩ := t
    dsimp only
    cases lo ρ1 s1 with
    | none => rfl
    | some u =>
      obtain ⟨l, ρ2, s2⟩ := u
      dsimp only
      cases hi ρ2 s2 with
      | none => rfl
      | some v =>
        obtain ⟨h, ρ3, s3⟩ := v
        dsimp only
        cases dCut l h x <;> rfl
theorem w_iE {a : E S} {Q : List D → Env → S → Prop} : wI (iE a) ρ s Q = wE a ρ s fun x ρ s => wD (items? x) fun ds => Q ds ρ s := by
  unfold wI wE iE
  cases a ρ s with
  | none => rfl
  | some t =>
    obtain ⟨x, ρ1, s1⟩ := t
    dsimp only
    cases items? x <;> rfl
theorem w_iR1 {a : E S} {Q : List D → Env → S → Prop} : wI (iR1 a) ρ s Q = wE a ρ s fun x ρ s => isI x fun j => wD (if -16777216 ≤ j ∧ j ≤ 16777216 then some (rangeL 0 j.toNat) else none) fun ds => Q ds ρ s := by
  unfold wI wE iR1
  cases a ρ s with
  | none => rfl
  | some t =>
    obtain ⟨x, ρ1, s1⟩ := t
    cases x with
    | int j =>
      simp only [isI]
      by_cases hc : -16777216 ≤ j ∧ j ≤ 16777216
      · rw [if_pos hc, if_pos hc]; rfl
      · rw [if_neg hc, if_neg hc]; rfl
    | _ => rfl
theorem w_iR2 {a b : E S} {Q : List D → Env → S → Prop} : wI (iR2 a b) ρ s Q = wE a ρ s fun x ρ s => isI x fun i => wE b ρ s fun y ρ s => isI y fun j => wD (if -16777216 ≤ i ∧ i ≤ 16777216 ∧ -16777216 ≤ j ∧ j ≤ 16777216 ∧ j - i ≤ 16777216 then some (rangeL i (j - i).toNat) else none) fun ds => Q ds ρ s := by
  unfold wI wE iR2
  cases a ρ s with
  | none => rfl
  | some t =>
    obtain ⟨x, ρ1, s1⟩ := t
    cases x with
    | int i =>
      simp only [isI]
      cases b ρ1 s1 with
      | none => rfl
      | some u =>
        obtain ⟨y, ρ2, s2⟩ := u
        cases y with
        | int j =>
          dsimp only
          by_cases hc : -16777216 ≤ i ∧ i ≤ 16777216 ∧ -16777216 ≤ j ∧ j ≤ 16777216 ∧ j - i ≤ 16777216
          · rw [if_pos hc, if_pos hc]; rfl
          · rw [if_neg hc, if_neg hc]; rfl
        | _ => rfl
    | _ => rfl
theorem w_iEnum {a : E S} {Q : List D → Env → S → Prop} : wI (iEnum a) ρ s Q = wE a ρ s fun x ρ s => wD (items? x) fun ds => Q (enumL 0 ds) ρ s := by
  unfold wI wE iEnum
  cases a ρ s with
  | none => rfl
  | some t =>
    obtain ⟨x, ρ1, s1⟩ := t
    dsimp only
    cases items? x <;> rfl
theorem w_iZipS {a b : E S} {Q : List D → Env → S → Prop} : wI (iZipS a b) ρ s Q = wE a ρ s fun x ρ s => wE b ρ s fun y ρ s => wD (items? x) fun ds => wD (items? y) fun es => wD (if ds.length = es.length then some (zipL ds es) else none) fun z => Q z ρ s := by
  unfold wI wE iZipS
  cases a ρ s with
  | none => rfl
  | some t =>
    obtain ⟨x, ρ1, s1⟩ := t
    dsimp only
    cases b ρ1 s1 with
    | none => rfl
    | some u =>
      obtain ⟨y, ρ2, s2⟩ := u
      dsimp only
      cases items? x with
      | none => rfl
      | some ds =>
        cases items? y with
        | none => rfl
        | some es =>
          simp only [wD]
          by_cases hc : ds.length = es.length
          · rw [if_pos hc, if_pos hc]
          · rw [if_neg hc, if_neg hc]
/-! ### comprehensions -/
/-- each item gives an entry (or none), whatever has come; the state may move, what stands of it (I) -/
theorem w_lc {it : I S} {tgt : Tg} {tt : T S} {elt : E S} {own : List Nat} {Q : D → Env → S → Prop} {I : S → Prop} {P : List D → List D → Prop}
    (h : wI it ρ s fun ds ρ1 s1 => ρ1 = ρ ∧ I s1 ∧ own.all (notOw ρ) = true ∧ P [] [] ∧
      (∀ (pre : List D) (d : D) (post : List D) (acc : List D) (s : S), ds = pre ++ d :: post → P pre acc → I s → ∃ ρt, tgt d (wipeE own ρ) = some ρt ∧
        wT tt ρt s fun b ρ2 s2 => if b = true then wE elt ρ2 s2 (fun y ρ3 s3 => P (pre ++ [d]) (acc ++ [y]) ∧ I s3 ∧ backE ρ own ρ3 = ρ) else P (pre ++ [d]) acc ∧ I s2 ∧ backE ρ own ρ2 = ρ) ∧
      ∀ acc s', P ds acc → I s' → Q (.lst acc) ρ s') : wE (eLc it tgt tt elt own) ρ s Q := by
  unfold wI at h
  unfold wE eLc
  cases e : it ρ s with
  | none => rw [e] at h; exact h.elim
  | some t =>
    obtain ⟨ds, ρ1, s1⟩ := t
    rw [e] at h
    obtain ⟨rfl, hI, hown, hP, hstep, hfin⟩ := h
    dsimp only
    rw [if_pos hown]
    have key : ∀ (post pre acc : List D) (s : S), ds = pre ++ post → P pre acc → I s → ∃ acc' s', lcLoop tgt tt elt own ρ1 post acc ρ1 s = some (acc', ρ1, s') ∧ P ds acc' ∧ I s' := fun post => by
      induction post with
      | nil =>
        intro pre acc s hd hp hi
        rw [List.append_nil] at hd
        subst hd
        exact ⟨acc, s, rfl, hp, hi⟩
      | cons d post ih =>
        intro pre acc s hd hp hi
        obtain ⟨ρt, e1, h1⟩ := hstep pre d post acc s hd hp hi
        have hd' : ds = (pre ++ [d]) ++ post := by rw [hd, List.append_assoc]; rfl
        unfold lcLoop
        rw [e1]
        dsimp only
        unfold wT at h1
        cases e2 : tt ρt s with
        | none => rw [e2] at h1; exact h1.elim
        | some t =>
          obtain ⟨b, ρ2, s2⟩ := t
          rw [e2] at h1
          cases b with
          | true =>
            simp only [if_true] at h1
            unfold wE at h1
            cases e3 : elt ρ2 s2 with
            | none => rw [e3] at h1; exact h1.elim
            | some t =>
              obtain ⟨y, ρ3, s3⟩ := t
              rw [e3] at h1
              obtain ⟨p1, i1, b1⟩ := h1
              obtain ⟨acc', s', q1, q2, q3⟩ := ih (pre ++ [d]) (acc ++ [y]) s3 hd' p1 i1
              refine ⟨acc', s', ?_, q2, q3⟩
              simp only [e3]
              rw [b1]
              exact q1
          | false =>
            simp only [Bool.false_eq_true, if_false] at h1
            obtain ⟨p1, i1, b1⟩ := h1
            obtain ⟨acc', s', q1, q2, q3⟩ := ih (pre ++ [d]) acc s2 hd' p1 i1
            refine ⟨acc', s', ?_, q2, q3⟩
            simp only
            rw [b1]
            exact q1
    obtain ⟨acc', s', q1, q2, q3⟩ := key ds [] [] s1 rfl hP hI
    rw [q1]
    exact hfin acc' s' q2 q3
/-! ### statements -/
theorem w_sNx {Q : Ctl → Env → S → Prop} : wS sNx ρ s Q = Q .nx ρ s := rfl
theorem w_sRet {a : E S} {Q : Ctl → Env → S → Prop} : wS (sRet a) ρ s Q = wE a ρ s fun x ρ s => Q (.rt x) ρ s := by
  unfold wS wE sRet
  cases a ρ s <;> rfl
theorem w_sSeq {a b : C S} {Q : Ctl → Env → S → Prop} : wS (sSeq a b) ρ s Q = wS a ρ s fun c ρ s => match c with | .nx => wS b ρ s Q | c => Q c ρ s := by
  unfold wS sSeq
  cases a ρ s with
  | none => rfl
  | some t =>
    obtain ⟨c, ρ1, s1⟩ := t
    cases c <;> rfl
theorem w_sAsg {a : E S} {g : Tg} {Q : Ctl → Env → S → Prop} : wS (sAsg a g) ρ s Q = wE a ρ s fun x ρ s => wD (g x ρ) fun ρ => Q .nx ρ s := by
  unfold wS wE sAsg
  cases a ρ s with
  | none => rfl
  | some t =>
    obtain ⟨c, ρ1, s1⟩ := t
    dsimp only
    cases g c ρ1 <;> rfl
theorem w_sNew {a : E S} {i : Nat} {Q : Ctl → Env → S → Prop} : wS (sNew a i) ρ s Q = wE a ρ s fun x ρ s => Q .nx (ρ.set i (some (.ow x))) s := by
  unfold wS wE sNew
  cases a ρ s <;> rfl
theorem w_sDrop {a : E S} {Q : Ctl → Env → S → Prop} : wS (sDrop a) ρ s Q = wE a ρ s fun _ ρ s => Q .nx ρ s := by
  unfold wS wE sDrop
  cases a ρ s <;> rfl
theorem w_sIf {t : T S} {a b : C S} {Q : Ctl → Env → S → Prop} : wS (sIf t a b) ρ s Q = wT t ρ s fun c ρ s => if c = true then wS a ρ s Q else wS b ρ s Q := by
  unfold wS wT sIf
  cases t ρ s with
  | none => rfl
  | some u =>
    obtain ⟨d, ρ1, s1⟩ := u
    cases d <;> simp
theorem w_qNil {Q : List Sl → Env → S → Prop} : wQ qNil ρ s Q = Q [] ρ s := rfl
theorem w_qSh {a : E S} {r : Qs S} {Q : List Sl → Env → S → Prop} : wQ (qSh a r) ρ s Q = wE a ρ s fun x ρ s => wQ r ρ s fun xs ρ s => Q (.sh x :: xs) ρ s := by
  unfold wQ wE qSh
  cases a ρ s with
  | none => rfl
  | some t =>
    obtain ⟨x, ρ1, s1⟩ := t
    dsimp only
    cases r ρ1 s1 <;> rfl
theorem w_qNew {a : E S} {r : Qs S} {Q : List Sl → Env → S → Prop} : wQ (qNew a r) ρ s Q = wE a ρ s fun x ρ s => wQ r ρ s fun xs ρ s => Q (.ow x :: xs) ρ s := by
  unfold wQ wE qNew
  cases a ρ s with
  | none => rfl
  | some t =>
    obtain ⟨x, ρ1, s1⟩ := t
    dsimp only
    cases r ρ1 s1 <;> rfl
theorem w_sPar {is : List Nat} {q : Qs S} {Q : Ctl → Env → S → Prop} : wS (sPar is q) ρ s Q = wQ q ρ s fun xs ρ s => wD (if xs.length = is.length then some xs else none) fun xs => Q .nx (setAll is xs ρ) s := by
  unfold wS wQ sPar
  cases q ρ s with
  | none => rfl
  | some t =>
    obtain ⟨x, ρ1, s1⟩ := t
    dsimp only
    by_cases hc : x.length = is.length
    · rw [if_pos hc, if_pos hc]; rfl
    · rw [if_neg hc, if_neg hc]; rfl
/-- a loop: J k: what stands of the frame's slots and of the state ahead of turn k -/
theorem w_sFor {it : I S} {tgt : Tg} {body : C S} {dead : List Nat} {Q : Ctl → Env → S → Prop}
    (h : wI it ρ s fun ds ρ1 s1 => ∃ J : Nat → Env → S → Prop, J 0 (wipeE dead ρ1) s1 ∧
      (∀ (k : Nat) (d : D) ρ s, ds[k]? = some d → J k ρ s → ∃ ρt, tgt d ρ = some ρt ∧ wS body ρt s fun c ρ s => match c with
        | .nx => J (k + 1) (wipeE dead ρ) s | .ct => J (k + 1) (wipeE dead ρ) s | .bk => Q .nx ρ s | .rt d => Q (.rt d) ρ s) ∧
      ∀ ρ s, J ds.length ρ s → Q .nx ρ s) : wS (sFor it tgt body dead) ρ s Q := by
  unfold wI at h
  unfold wS sFor
  cases e : it ρ s with
  | none => rw [e] at h; exact h.elim
  | some t =>
    obtain ⟨ds, ρ1, s1⟩ := t
    rw [e] at h
    obtain ⟨J, h0, hs, hf⟩ := h
    dsimp only
    have key : ∀ (post : List D) (k : Nat) ρ s, ds.drop k = post → k ≤ ds.length → J k ρ s → (match forL tgt body dead post ρ s with
        | some (c, ρ, s) => Q c ρ s
        | none => False) := fun post => by
      induction post with
      | nil =>
        intro k ρ s hd hk hj
        have : k = ds.length := by
          have := congrArg List.length hd
          simp at this
          omega
        subst this
        exact hf ρ s hj
      | cons d post ih =>
        intro k ρ s hd hk hj
        have hdk : ds[k]? = some d := by
          have := congrArg (fun l => l[0]?) hd
          simpa using this
        have hd2 : ds.drop (k + 1) = post := by
          have := congrArg List.tail hd
          simpa [List.tail_drop] using this
        have hk2 : k + 1 ≤ ds.length := (List.getElem?_eq_some_iff.mp hdk).1
        obtain ⟨ρt, e1, h1⟩ := hs k d ρ s hdk hj
        unfold forL
        rw [e1]
        dsimp only
        unfold wS at h1
        cases e2 : body ρt s with
        | none => rw [e2] at h1; exact h1.elim
        | some t =>
          obtain ⟨c, ρ2, s2⟩ := t
          rw [e2] at h1
          cases c with
          | nx => exact ih (k + 1) _ _ hd2 hk2 h1
          | ct => exact ih (k + 1) _ _ hd2 hk2 h1
          | bk => exact h1
          | rt d => exact h1
    exact key ds 0 _ _ (by simp) (Nat.zero_le _) h0
theorem run_C {np n : Nat} {body : C S} {ds : List D} {Q : D → S → Prop} (hl : ds.length = np)
    (h : wS body (ds.map (fun d => some (Sl.sh d)) ++ List.replicate (n - np) none) s fun c _ s => match c with | .rt d => Q d s | .nx => Q .non s | _ => False) : wD (runC np n body ds s) fun p => Q p.1 p.2 := by
  unfold runC
  rw [if_pos hl]
  unfold wS at h
  cases e : body (ds.map (fun d => some (Sl.sh d)) ++ List.replicate (n - np) none) s with
  | none => rw [e] at h; exact h.elim
  | some t =>
    obtain ⟨c, ρ2, s2⟩ := t
    rw [e] at h
    cases c <;> first | exact h | exact h.elim
theorem run_P {np n : Nat} {body : C Unit} {ds : List D} {Q : D → Prop} (hl : ds.length = np)
    (h : wS body (ds.map (fun d => some (Sl.sh d)) ++ List.replicate (n - np) none) () fun c _ _ => match c with | .rt d => Q d | .nx => Q .non | _ => False) : wD (runP np n body ds) Q := by
  have := run_C (s := ()) (Q := fun d _ => Q d) hl h
  unfold runP
  cases e : runC np n body ds () with
  | none => rw [e] at this; exact this.elim
  | some t => rw [e] at this; exact this

def slotE (o : Option (Option Sl)) (Q R : D → Prop) : Prop := match o with
  | some (some (.sh d)) => Q d
  | some (some (.ow d)) => R d
  | _ => False
theorem slotE_sh {d : D} {Q R : D → Prop} : slotE (some (some (.sh d))) Q R = Q d := rfl
theorem slotE_ow {d : D} {Q R : D → Prop} : slotE (some (some (.ow d))) Q R = R d := rfl
def slotX (o : Option (Option Sl)) (Q : D → Prop) : Prop := match o with
  | some (some x) => Q x.d
  | _ => False
theorem slotX_sh {d : D} {Q : D → Prop} : slotX (some (some (.sh d))) Q = Q d := rfl
theorem slotX_ow {d : D} {Q : D → Prop} : slotX (some (some (.ow d))) Q = Q d := rfl
theorem v_eV {i : Nat} {Q : D → Env → S → Prop} : wE (eV i) ρ s Q = slotE ρ[i]? (fun d => Q d ρ s) fun d => Q d (ρ.set i (some (.sh d))) s := by
  unfold wE eV slotE
  cases ρ[i]? with
  | none => rfl
  | some o =>
    cases o with
    | none => rfl
    | some x => cases x <;> rfl
theorem v_eB1 {op : D → Option D} {i : Nat} {Q : D → Env → S → Prop} : wE (eB1 op i) ρ s Q = slotX ρ[i]? fun x => wD (op x) fun z => Q z ρ s := by
  unfold wE eB1 slotX
  cases ρ[i]? with
  | none => rfl
  | some o =>
    cases o with
    | none => rfl
    | some x => dsimp only; cases op x.d <;> rfl
theorem v_eBL {op : D → D → Option D} {i : Nat} {b : E S} {Q : D → Env → S → Prop} : wE (eBL op i b) ρ s Q = slotX ρ[i]? fun _ => wE b ρ s fun y ρ s => slotX ρ[i]? fun x => wD (op x y) fun z => Q z ρ s := by
  unfold wE eBL slotX
  cases ρ[i]? with
  | none => rfl
  | some o =>
    cases o with
    | none => rfl
    | some x =>
      dsimp only
      cases b ρ s with
      | none => rfl
      | some t =>
        obtain ⟨y, ρ1, s1⟩ := t
        dsimp only
        cases ρ1[i]? with
        | none => rfl
        | some o =>
          cases o with
          | none => rfl
          | some x => dsimp only; cases op x.d y <;> rfl
theorem v_eBR {op : D → D → Option D} {i : Nat} {a : E S} {Q : D → Env → S → Prop} : wE (eBR op a i) ρ s Q = wE a ρ s fun x ρ s => slotX ρ[i]? fun y => wD (op x y) fun z => Q z ρ s := by
  unfold wE eBR slotX
  cases a ρ s with
  | none => rfl
  | some t =>
    obtain ⟨y, ρ1, s1⟩ := t
    dsimp only
    cases ρ1[i]? with
    | none => rfl
    | some o =>
      cases o with
      | none => rfl
      | some x => dsimp only; cases op y x.d <;> rfl
theorem wD_eq {α : Type} {o : Option α} {a : α} (h : wD o fun x => x = a) : o = some a := by
  cases o with
  | none => exact h.elim
  | some x => exact congrArg some h
theorem wD_ex {α : Type} {o : Option α} {Q : α → Prop} (h : wD o Q) : ∃ a, o = some a ∧ Q a := by
  cases o with
  | none => exact h.elim
  | some x => exact ⟨x, rfl, h⟩

def ownL (o : Option (Option Sl)) (Q : List D → Prop) : Prop := match o with
  | some (some (.ow (.lst ds))) => Q ds
  | _ => False
theorem ownL_ow {ds : List D} {Q : List D → Prop} : ownL (some (some (.ow (.lst ds)))) Q = Q ds := rfl
theorem v_eApp {i : Nat} {a : E S} {Q : D → Env → S → Prop} : wE (eApp i a) ρ s Q = ownL ρ[i]? fun _ => wE a ρ s fun x ρ s => ownL ρ[i]? fun ds => ds.length < LIM ∧ Q .non (ρ.set i (some (.ow (.lst (ds ++ [x]))))) s := by
  have bad : ∀ {o : Option (Option Sl)}, (∀ ds, o ≠ some (some (.ow (.lst ds)))) → ∀ Q, ownL o Q = False := fun {o} h Q => by
    unfold ownL
    split
    · rename_i ds
      exact absurd rfl (h ds)
    · rfl
  unfold wE eApp
  split
  · rename_i d ρ1 s1 e
    split at e
    · rename_i ds0 h0
      rw [h0, ownL_ow]
      split at e
      · rename_i x ρ2 s2 h1
        try rw [h1]
        try dsimp only
        split at e
        · rename_i ds h2
          rw [h2, ownL_ow]
          split at e
          · rename_i hl
            cases e
            exact propext ⟨fun q => ⟨hl, q⟩, fun q => q.2⟩
          · cases e
        · cases e
      · cases e
    · cases e
  · rename_i e
    symm
    refine propext ⟨fun q => ?_, fun q => q.elim⟩
    split at e
    · rename_i ds0 h0
      rw [h0, ownL_ow] at q
      split at e
      · rename_i x ρ2 s2 h1
        try rw [h1] at q
        try dsimp only at q
        split at e
        · rename_i ds h2
          rw [h2, ownL_ow] at q
          rw [if_pos q.1] at e
          cases e
        · rename_i h2
          rw [bad h2] at q
          exact q
      · rename_i h1
        try rw [h1] at q
        exact q
    · rename_i h0
      rw [bad h0] at q
      exact q
theorem w_eListR1 {a : E S} {Q : D → Env → S → Prop} : wE (eListR1 a) ρ s Q = wE a ρ s fun x ρ s => isI x fun j => wD (if -16777216 ≤ j ∧ j ≤ 16777216 then some (rangeL 0 j.toNat) else none) fun ds => Q (.lst ds) ρ s := by
  unfold wE eListR1
  cases a ρ s with
  | none => rfl
  | some t =>
    obtain ⟨x, ρ1, s1⟩ := t
    cases x with
    | int j =>
      simp only [isI]
      by_cases hc : -16777216 ≤ j ∧ j ≤ 16777216
      · rw [if_pos hc, if_pos hc]; rfl
      · rw [if_neg hc, if_neg hc]; rfl
    | _ => rfl
theorem w_sAug {op : D → D → Option D} {i : Nat} {a : E S} {Q : Ctl → Env → S → Prop} {x : D} (h : ρ[i]? = some (some (.sh x))) : wS (sAug op i a) ρ s Q = wE a ρ s fun y ρ s => wD (op x y) fun z => Q .nx (ρ.set i (some (.sh z))) s := by
  unfold wS wE sAug
  rw [h]
  dsimp only
  cases a ρ s with
  | none => rfl
  | some t =>
    obtain ⟨y, ρ1, s1⟩ := t
    dsimp only
    cases op x y <;> rfl

/-- one statement, then the rest: R stands between -/
theorem w_seq {a b : C S} {Q : Ctl → Env → S → Prop} (R : Env → S → Prop) (h1 : ∀ Q' : Ctl → Env → S → Prop, (∀ ρ s, R ρ s → Q' .nx ρ s) → (∀ d ρ s, Q (.rt d) ρ s → Q' (.rt d) ρ s) → (∀ ρ s, Q .bk ρ s → Q' .bk ρ s) → (∀ ρ s, Q .ct ρ s → Q' .ct ρ s) → wS a ρ s Q')
    (h2 : ∀ ρ s, R ρ s → wS b ρ s Q) : wS (sSeq a b) ρ s Q := by
  rw [w_sSeq]
  exact h1 _ (fun ρ s h => h2 ρ s h) (fun d ρ s h => h) (fun ρ s h => h) (fun ρ s h => h)
/-- a test, by what it comes to -/
theorem w_if {t : T S} {a b : C S} {Q : Ctl → Env → S → Prop} (P : Bool → Env → S → Prop) (h1 : ∀ Q' : Bool → Env → S → Prop, (∀ c ρ s, P c ρ s → Q' c ρ s) → wT t ρ s Q') (h2 : ∀ ρ s, P true ρ s → wS a ρ s Q) (h3 : ∀ ρ s, P false ρ s → wS b ρ s Q) : wS (sIf t a b) ρ s Q := by
  rw [w_sIf]
  refine h1 _ fun c ρ s h => ?_
  cases c with
  | true => exact h2 ρ s h
  | false => exact h3 ρ s h
/-- an expression, by what it comes to -/
theorem w_E {f : E S} {Q : D → Env → S → Prop} (P : D → Env → S → Prop) (h1 : wE f ρ s P) (h2 : ∀ d ρ s, P d ρ s → Q d ρ s) : wE f ρ s Q := wE_mono h1 h2

/-- a comprehension that may move the frame's slots -/
theorem w_lcJ {it : I S} {tgt : Tg} {tt : T S} {elt : E S} {own : List Nat} {Q : D → Env → S → Prop} {P : List D → List D → Env → S → Prop}
    (h : wI it ρ s fun ds ρ1 s1 => own.all (notOw ρ1) = true ∧ P [] [] ρ1 s1 ∧
      (∀ (pre : List D) (d : D) (post : List D) (acc : List D) (ρ : Env) (s : S), ds = pre ++ d :: post → P pre acc ρ s → ∃ ρt, tgt d (wipeE own ρ) = some ρt ∧
        wT tt ρt s fun b ρ2 s2 => if b = true then wE elt ρ2 s2 (fun y ρ3 s3 => P (pre ++ [d]) (acc ++ [y]) (backE ρ1 own ρ3) s3) else P (pre ++ [d]) acc (backE ρ1 own ρ2) s2) ∧
      ∀ acc ρ s, P ds acc ρ s → Q (.lst acc) ρ s) : wE (eLc it tgt tt elt own) ρ s Q := by
  unfold wI at h
  unfold wE eLc
  cases e : it ρ s with
  | none => rw [e] at h; exact h.elim
  | some t =>
    obtain ⟨ds, ρ1, s1⟩ := t
    rw [e] at h
    obtain ⟨hown, hP, hstep, hfin⟩ := h
    dsimp only
    rw [if_pos hown]
    have key : ∀ (post pre acc : List D) (ρ : Env) (s : S), ds = pre ++ post → P pre acc ρ s → ∃ acc' ρ' s', lcLoop tgt tt elt own ρ1 post acc ρ s = some (acc', ρ', s') ∧ P ds acc' ρ' s' := fun post => by
      induction post with
      | nil =>
        intro pre acc ρ s hd hp
        rw [List.append_nil] at hd
        subst hd
        exact ⟨acc, ρ, s, rfl, hp⟩
      | cons d post ih =>
        intro pre acc ρ s hd hp
        obtain ⟨ρt, e1, h1⟩ := hstep pre d post acc ρ s hd hp
        have hd' : ds = (pre ++ [d]) ++ post := by rw [hd, List.append_assoc]; rfl
        unfold lcLoop
        rw [e1]
        dsimp only
        unfold wT at h1
        cases e2 : tt ρt s with
        | none => rw [e2] at h1; exact h1.elim
        | some t =>
          obtain ⟨b, ρ2, s2⟩ := t
          rw [e2] at h1
          cases b with
          | true =>
            simp only [if_true] at h1
            unfold wE at h1
            cases e3 : elt ρ2 s2 with
            | none => rw [e3] at h1; exact h1.elim
            | some t =>
              obtain ⟨y, ρ3, s3⟩ := t
              rw [e3] at h1
              obtain ⟨acc', ρ', s', q1, q2⟩ := ih (pre ++ [d]) (acc ++ [y]) _ s3 hd' h1
              refine ⟨acc', ρ', s', ?_, q2⟩
              simp only [e3]
              exact q1
          | false =>
            simp only [Bool.false_eq_true, if_false] at h1
            obtain ⟨acc', ρ', s', q1, q2⟩ := ih (pre ++ [d]) acc _ s2 hd' h1
            exact ⟨acc', ρ', s', q1, q2⟩
    obtain ⟨acc', ρ', s', q1, q2⟩ := key ds [] [] ρ1 s1 rfl hP
    rw [q1]
    exact hfin acc' ρ' s' q2
theorem w_popAt {i : Nat} {a : E S} {ds : List D} {Q : D → Env → S → Prop} (h : ρ[i]? = some (some (.ow (.lst ds))))
    (ha : wE a ρ s fun x ρ' s' => ρ' = ρ ∧ ∃ k j y, x = .int k ∧ ixD ds.length k = some j ∧ ds[j]? = some y ∧ Q y (ρ.set i (some (.ow (.lst (ds.eraseIdx j))))) s') : wE (ePopAt i a) ρ s Q := by
  unfold wE at ha
  cases e : a ρ s with
  | none => rw [e] at ha; exact ha.elim
  | some t =>
    obtain ⟨x, ρ', s'⟩ := t
    rw [e] at ha
    obtain ⟨rfl, k, j, y, rfl, h1, h2, hq⟩ := ha
    unfold wE ePopAt
    rw [h]
    simp only [e, h, h1, h2]
    exact hq
end
end Fw
/-! ## Conn -/
/-! Two ways to see whether crossings hang together; least costs, going over more and more crossings. -/
namespace Fw
abbrev Rds := List (Nat × Nat)
def metStep (met : List Nat) (p : Nat × Nat) : List Nat := if decide (p.1 ∈ met) != decide (p.2 ∈ met) then met ++ [if p.1 ∈ met then p.2 else p.1] else met
def metLap (R : Rds) (met : List Nat) : List Nat := R.foldl metStep met
def metN (R : Rds) : Nat → List Nat
  | 0 => [0]
  | k + 1 => metLap R (metN R k)
def mrg (h : List Nat) (p : Nat × Nat) : List Nat := h.map fun x => if x = max (h.getD p.1 0) (h.getD p.2 0) then min (h.getD p.1 0) (h.getD p.2 0) else x
def heads (n : Nat) (R : Rds) : List Nat := R.foldl mrg (List.range n)
inductive Conn (R : Rds) : Nat → Nat → Prop
  | refl (x) : Conn R x x
  | fwd {x a b} : Conn R x a → (a, b) ∈ R → Conn R x b
  | bwd {x a b} : Conn R x b → (a, b) ∈ R → Conn R x a
theorem Conn.trans {R : Rds} {x y z : Nat} (h : Conn R x y) (k : Conn R y z) : Conn R x z := by
  induction k with
  | refl => exact h
  | fwd _ m ih => exact .fwd ih m
  | bwd _ m ih => exact .bwd ih m
theorem Conn.symm {R : Rds} {x y : Nat} (h : Conn R x y) : Conn R y x := by
  induction h with
  | refl => exact .refl _
  | fwd _ m ih => exact Conn.trans (.bwd (.refl _) m) ih
  | bwd _ m ih => exact Conn.trans (.fwd (.refl _) m) ih
theorem Conn.mono {R R' : Rds} (h : ∀ p ∈ R, p ∈ R') {x y : Nat} (k : Conn R x y) : Conn R' x y := by
  induction k with
  | refl => exact .refl _
  | fwd _ m ih => exact .fwd ih (h _ m)
  | bwd _ m ih => exact .bwd ih (h _ m)
theorem Conn.eq {R : Rds} {g : Nat → Nat} (h : ∀ p ∈ R, g p.1 = g p.2) {x y : Nat} (k : Conn R x y) : g x = g y := by
  induction k with
  | refl => rfl
  | fwd _ m ih => exact ih.trans (h _ m)
  | bwd _ m ih => exact ih.trans (h _ m).symm
theorem getD_map0 {h : List Nat} {f : Nat → Nat} {x : Nat} (hx : x < h.length) : (h.map f).getD x 0 = f (h.getD x 0) := by
  simp [List.getD_eq_getElem?_getD, hx]
structure HInv (n : Nat) (R : Rds) (h : List Nat) : Prop where
  len : h.length = n
  le : ∀ x, x < n → h.getD x 0 ≤ x
  ed : ∀ p ∈ R, h.getD p.1 0 = h.getD p.2 0
  cn : ∀ x y, x < n → y < n → h.getD x 0 = h.getD y 0 → Conn R x y
theorem HInv.zero (n : Nat) : HInv n [] (List.range n) := by
  have g : ∀ x, x < n → (List.range n).getD x 0 = x := fun x hx => by simp [List.getD_eq_getElem?_getD, hx]
  refine ⟨List.length_range, fun x hx => Nat.le_of_eq (g x hx), fun p hp => (by simp at hp), fun x y hx hy e => ?_⟩
  rw [g x hx, g y hy] at e
  rw [e]
  exact .refl _
theorem HInv.step {n : Nat} {R : Rds} {h : List Nat} {p : Nat × Nat} (I : HInv n R h) (ha : p.1 < n) (hb : p.2 < n) (hR : ∀ q ∈ R, q.1 < n ∧ q.2 < n) : HInv n (R ++ [p]) (mrg h p) := by
  have g : ∀ x, x < n → (mrg h p).getD x 0 = if h.getD x 0 = max (h.getD p.1 0) (h.getD p.2 0) then min (h.getD p.1 0) (h.getD p.2 0) else h.getD x 0 := fun x hx => by
    unfold mrg
    rw [getD_map0 (by rw [I.len]; exact hx)]
  have sub : ∀ {x y}, Conn R x y → Conn (R ++ [p]) x y := fun k => k.mono fun q hq => List.mem_append_left _ hq
  have pe : Conn (R ++ [p]) p.1 p.2 := .fwd (.refl _) (List.mem_append_right _ (by simp))
  refine ⟨by unfold mrg; rw [List.length_map]; exact I.len, fun x hx => ?_, fun q hq => ?_, fun x y hx hy e => ?_⟩
  · rw [g x hx]
    have := I.le x hx
    split <;> omega
  · rcases List.mem_append.mp hq with hq | hq
    · rw [g _ (hR q hq).1, g _ (hR q hq).2, I.ed q hq]
    · rw [List.mem_singleton.mp hq, g _ ha, g _ hb]
      generalize h.getD p.1 0 = a
      generalize h.getD p.2 0 = b
      split <;> split <;> omega
  · rw [g x hx, g y hy] at e
    have cx : ∀ z w, z < n → w < n → h.getD z 0 = h.getD w 0 → Conn (R ++ [p]) z w := fun z w hz hw e => sub (I.cn z w hz hw e)
    have lem : ∀ z w, z < n → w < n → (h.getD z 0 = h.getD p.1 0 ∨ h.getD z 0 = h.getD p.2 0) → (h.getD w 0 = h.getD p.1 0 ∨ h.getD w 0 = h.getD p.2 0) → Conn (R ++ [p]) z w := by
      intro z w hz hw h1 h2
      have k1 : Conn (R ++ [p]) z p.1 := by
        rcases h1 with h1 | h1
        · exact cx z _ hz ha h1
        · exact (cx z _ hz hb h1).trans pe.symm
      have k2 : Conn (R ++ [p]) w p.1 := by
        rcases h2 with h2 | h2
        · exact cx w _ hw ha h2
        · exact (cx w _ hw hb h2).trans pe.symm
      exact k1.trans k2.symm
    by_cases e1 : h.getD x 0 = max (h.getD p.1 0) (h.getD p.2 0)
    · by_cases e2 : h.getD y 0 = max (h.getD p.1 0) (h.getD p.2 0)
      · exact cx x y hx hy (e1.trans e2.symm)
      · rw [if_pos e1, if_neg e2] at e
        exact lem x y hx hy (by omega) (by omega)
    · by_cases e2 : h.getD y 0 = max (h.getD p.1 0) (h.getD p.2 0)
      · rw [if_neg e1, if_pos e2] at e
        exact lem x y hx hy (by omega) (by omega)
      · rw [if_neg e1, if_neg e2] at e
        exact cx x y hx hy e
theorem heads_inv {n : Nat} : ∀ (R S : Rds) (h : List Nat), HInv n S h → (∀ q ∈ S, q.1 < n ∧ q.2 < n) → (∀ q ∈ R, q.1 < n ∧ q.2 < n) → HInv n (S ++ R) (R.foldl mrg h)
  | [], S, h, I, _, _ => by rw [List.append_nil]; exact I
  | p :: R, S, h, I, hS, hR => by
    have hp := hR p (List.mem_cons_self ..)
    have := heads_inv R (S ++ [p]) (mrg h p) (I.step hp.1 hp.2 hS) (fun q hq => by
      rcases List.mem_append.mp hq with hq | hq
      · exact hS q hq
      · rw [List.mem_singleton.mp hq]; exact hp) fun q hq => hR q (List.mem_cons_of_mem _ hq)
    rw [List.append_assoc] at this
    exact this
theorem heads_zero {n : Nat} {R : Rds} (hn : 1 ≤ n) (hR : ∀ q ∈ R, q.1 < n ∧ q.2 < n) : (∀ x ∈ heads n R, x = 0) ↔ ∀ x, x < n → Conn R 0 x := by
  have I : HInv n R (heads n R) := heads_inv R [] _ (.zero n) (fun q hq => (by simp at hq)) hR
  have h0 : (heads n R).getD 0 0 = 0 := Nat.le_zero.mp (I.le 0 (by omega))
  have mem : ∀ x, x < n → (heads n R).getD x 0 ∈ heads n R := fun x hx => by
    have hl : x < (heads n R).length := by rw [I.len]; exact hx
    rw [List.getD_eq_getElem?_getD, List.getElem?_eq_getElem hl]
    exact List.getElem_mem hl
  constructor
  · intro h x hx
    exact I.cn 0 x (by omega) hx (by rw [h0, h _ (mem x hx)])
  · intro h x hx
    obtain ⟨i, hi, rfl⟩ := List.mem_iff_getElem.mp hx
    have hi' : i < n := by rw [← I.len]; exact hi
    have := (h i hi').eq (g := fun z => (heads n R).getD z 0) I.ed
    simp only [h0] at this
    rw [List.getD_eq_getElem?_getD, List.getElem?_eq_getElem hi] at this
    exact this.symm
/-! ### met -/
theorem nodup_lt : ∀ (n : Nat) (l : List Nat), l.Nodup → (∀ x ∈ l, x < n) → l.length ≤ n ∧ (l.length = n → ∀ x, x < n → x ∈ l)
  | 0, l, _, h => by
    cases l with
    | nil => exact ⟨Nat.le_refl _, fun _ x hx => absurd hx (Nat.not_lt_zero _)⟩
    | cons a l => exact absurd (h a (List.mem_cons_self ..)) (Nat.not_lt_zero _)
  | n + 1, l, nd, h => by
    have nd' := nd.erase n
    have h' : ∀ x ∈ l.erase n, x < n := fun x hx => by
      have := (nd.mem_erase_iff).mp hx
      have := h x this.2
      omega
    obtain ⟨h1, h2⟩ := nodup_lt n (l.erase n) nd' h'
    by_cases hm : n ∈ l
    · have hl := List.length_erase_of_mem hm
      have hp : 0 < l.length := List.length_pos_of_mem hm
      refine ⟨by omega, fun e x hx => ?_⟩
      by_cases hxn : x = n
      · rw [hxn]; exact hm
      · exact List.mem_of_mem_erase (h2 (by omega) x (by omega))
    · have hl := List.erase_of_not_mem hm
      rw [hl] at h1
      exact ⟨by omega, fun e => by omega⟩
structure MInv (n : Nat) (R : Rds) (m : List Nat) : Prop where
  z : 0 ∈ m
  nd : m.Nodup
  cn : ∀ x ∈ m, x < n ∧ Conn R 0 x
theorem MInv.step {n : Nat} {R : Rds} {m : List Nat} {p : Nat × Nat} (I : MInv n R m) (hp : p ∈ R) (h1 : p.1 < n) (h2 : p.2 < n) : MInv n R (metStep m p) := by
  unfold metStep
  split
  · rename_i h
    by_cases ha : p.1 ∈ m
    · have hb : p.2 ∉ m := fun hb => by simp [ha, hb] at h
      rw [if_pos ha]
      refine ⟨List.mem_append_left _ I.z, List.nodup_append.mpr ⟨I.nd, by simp, fun a h a' h' => ?_⟩, fun x hx => ?_⟩
      · rw [List.mem_singleton.mp h']; exact fun e => hb (e ▸ h)
      · rcases List.mem_append.mp hx with hx | hx
        · exact I.cn x hx
        · rw [List.mem_singleton.mp hx]; exact ⟨h2, .fwd (I.cn _ ha).2 hp⟩
    · have hb : p.2 ∈ m := Classical.byContradiction fun hb => by simp [ha, hb] at h
      rw [if_neg ha]
      refine ⟨List.mem_append_left _ I.z, List.nodup_append.mpr ⟨I.nd, by simp, fun a h a' h' => ?_⟩, fun x hx => ?_⟩
      · rw [List.mem_singleton.mp h']; exact fun e => ha (e ▸ h)
      · rcases List.mem_append.mp hx with hx | hx
        · exact I.cn x hx
        · rw [List.mem_singleton.mp hx]; exact ⟨h1, .bwd (I.cn _ hb).2 hp⟩
  · exact I
theorem MInv.lap {n : Nat} {R : Rds} : ∀ (S : Rds) (m : List Nat), (∀ p ∈ S, p ∈ R ∧ p.1 < n ∧ p.2 < n) → MInv n R m → MInv n R (S.foldl metStep m)
  | [], m, _, I => I
  | p :: S, m, h, I => MInv.lap S _ (fun q hq => h q (List.mem_cons_of_mem _ hq)) (let ⟨a, b, c⟩ := h p (List.mem_cons_self ..); I.step a b c)
theorem metStep_len (m : List Nat) (p : Nat × Nat) : m.length ≤ (metStep m p).length ∧ ((metStep m p).length = m.length → metStep m p = m ∧ (p.1 ∈ m ↔ p.2 ∈ m)) := by
  unfold metStep
  split
  · rw [List.length_append]
    exact ⟨by simp, fun h => by simp at h⟩
  · rename_i h
    refine ⟨Nat.le_refl _, fun _ => ⟨rfl, ?_⟩⟩
    by_cases ha : p.1 ∈ m <;> by_cases hb : p.2 ∈ m <;> simp [ha, hb] at h ⊢
theorem lap_len : ∀ (S : Rds) (m : List Nat), m.length ≤ (S.foldl metStep m).length ∧ ((S.foldl metStep m).length = m.length → S.foldl metStep m = m ∧ ∀ p ∈ S, (p.1 ∈ m ↔ p.2 ∈ m))
  | [], m => ⟨Nat.le_refl _, fun _ => ⟨rfl, fun p hp => (by simp at hp)⟩⟩
  | p :: S, m => by
    obtain ⟨h1, h2⟩ := metStep_len m p
    obtain ⟨h3, h4⟩ := lap_len S (metStep m p)
    simp only [List.foldl_cons]
    refine ⟨Nat.le_trans h1 h3, fun h => ?_⟩
    obtain ⟨e1, e2⟩ := h2 (by omega)
    rw [e1] at h3 h4 h ⊢
    obtain ⟨e3, e4⟩ := h4 h
    refine ⟨e3, fun q hq => ?_⟩
    rcases List.mem_cons.mp hq with e | hq
    · rw [e]; exact e2
    · exact e4 q hq
theorem closed_all {R : Rds} {m : List Nat} (z : 0 ∈ m) (h : ∀ p ∈ R, (p.1 ∈ m ↔ p.2 ∈ m)) {x : Nat} (k : Conn R 0 x) : x ∈ m := by
  induction k with
  | refl => exact z
  | fwd _ hm ih => exact (h _ hm).mp ih
  | bwd _ hm ih => exact (h _ hm).mpr ih
theorem metN_inv {n : Nat} {R : Rds} (hn : 1 ≤ n) (hR : ∀ q ∈ R, q.1 < n ∧ q.2 < n) : ∀ k, MInv n R (metN R k)
  | 0 => ⟨by simp [metN], by simp [metN], fun x hx => by
    simp [metN] at hx
    subst hx
    exact ⟨by omega, .refl _⟩⟩
  | k + 1 => MInv.lap R _ (fun p hp => ⟨hp, hR p hp⟩) (metN_inv hn hR k)
theorem metN_grow (R : Rds) : ∀ k, (∀ p ∈ R, (p.1 ∈ metN R k ↔ p.2 ∈ metN R k)) ∨ k + 1 ≤ (metN R k).length
  | 0 => .inr (by simp [metN])
  | k + 1 => by
    obtain ⟨h1, h2⟩ := lap_len R (metN R k)
    show (∀ p ∈ R, (p.1 ∈ metLap R (metN R k) ↔ p.2 ∈ metLap R (metN R k))) ∨ k + 1 + 1 ≤ (metLap R (metN R k)).length
    unfold metLap
    by_cases e : (R.foldl metStep (metN R k)).length = (metN R k).length
    · obtain ⟨e1, e2⟩ := h2 e
      rw [e1]
      exact .inl e2
    · rcases metN_grow R k with h | h
      · have : R.foldl metStep (metN R k) = metN R k := by
          have : ∀ (S : Rds), (∀ p ∈ S, (p.1 ∈ metN R k ↔ p.2 ∈ metN R k)) → S.foldl metStep (metN R k) = metN R k := fun S => by
            induction S with
            | nil => exact fun _ => rfl
            | cons p S ih =>
              intro hS
              have hp := hS p (List.mem_cons_self ..)
              have : metStep (metN R k) p = metN R k := by
                unfold metStep
                rw [if_neg]
                by_cases ha : p.1 ∈ metN R k
                · simp [ha, hp.mp ha]
                · have hb : p.2 ∉ metN R k := fun hb => ha (hp.mpr hb)
                  simp [ha, hb]
              simp only [List.foldl_cons, this]
              exact ih fun q hq => hS q (List.mem_cons_of_mem _ hq)
          exact this R h
        rw [this] at e
        exact absurd rfl e
      · right
        omega
theorem hang_iff {n : Nat} {R : Rds} (hn : 1 ≤ n) (hR : ∀ q ∈ R, q.1 < n ∧ q.2 < n) : (metN R n).length = n ↔ ∀ x, x < n → Conn R 0 x := by
  have I := metN_inv hn hR n
  obtain ⟨h1, h2⟩ := nodup_lt n _ I.nd fun x hx => (I.cn x hx).1
  constructor
  · intro e x hx
    exact (I.cn x (h2 e x hx)).2
  · intro h
    have cl : ∀ p ∈ R, (p.1 ∈ metN R n ↔ p.2 ∈ metN R n) := by
      rcases metN_grow R n with g | g
      · exact g
      · omega
    have all : ∀ x, x < n → x ∈ metN R n := fun x hx => closed_all I.z cl (h x hx)
    have : ∀ (k : Nat) (l : List Nat), l.Nodup → (∀ x, x < k → x ∈ l) → k ≤ l.length := fun k => by
      induction k with
      | zero => exact fun _ _ _ => Nat.zero_le _
      | succ k ih =>
        intro l nd hl
        have hk := hl k (Nat.lt_succ_self k)
        have := ih (l.erase k) (nd.erase k) fun x hx => (nd.mem_erase_iff).mpr ⟨by omega, hl x (by omega)⟩
        rw [List.length_erase_of_mem hk] at this
        have hp : 0 < l.length := List.length_pos_of_mem hk
        omega
    have := this n _ I.nd all
    omega
theorem hang_heads {n : Nat} {R : Rds} (hn : 1 ≤ n) (hR : ∀ q ∈ R, q.1 < n ∧ q.2 < n) : (metN R n).length = n ↔ ∀ x ∈ heads n R, x = 0 := (hang_iff hn hR).trans (heads_zero hn hR).symm
end Fw
/-! ## K1b -/
set_option linter.all false
set_option maxRecDepth 100000
set_option maxHeartbeats 1000000
/-! What the defs of the program and of the law come to. -/
namespace Fw
open PySem
/-! ### operations -/
theorem o_eqI (i j : Int) : dEq (.int i) (.int j) = some (.bl (decide (i = j))) := by
  have : D.eqv (.int i) (.int j) = decide (i = j) := by
    show (i == j) = _
    exact Bool.eq_iff_iff.mpr (by simp)
  unfold dEq
  rw [if_pos ⟨rfl, rfl⟩, this]
theorem o_neI (i j : Int) : dNe (.int i) (.int j) = some (.bl (!decide (i = j))) := by
  have : D.eqv (.int i) (.int j) = decide (i = j) := by
    show (i == j) = _
    exact Bool.eq_iff_iff.mpr (by simp)
  unfold dNe
  rw [if_pos ⟨rfl, rfl⟩, this]
theorem o_ixT (ds : List D) (k : Nat) : dIx (.tup ds) (.int (k : Int)) = ds[k]? := by
  show (ixD ds.length (k : Int)).bind (fun j => ds[j]?) = _
  unfold ixD
  rw [if_pos (by omega)]
  by_cases h : (k : Int) < ds.length
  · rw [if_pos h]; simp
  · rw [if_neg h]; simp; omega
theorem o_ixL (ds : List D) (k : Nat) : dIx (.lst ds) (.int (k : Int)) = ds[k]? := o_ixT ds k
theorem o_ix0 (ds : List D) : dIx (.tup ds) (.int 0) = ds[0]? := o_ixT ds 0
theorem o_ix1 (ds : List D) : dIx (.tup ds) (.int 1) = ds[1]? := o_ixT ds 1
theorem o_ix2 (ds : List D) : dIx (.tup ds) (.int 2) = ds[2]? := o_ixT ds 2
theorem o_ix3 (ds : List D) : dIx (.tup ds) (.int 3) = ds[3]? := o_ixT ds 3
theorem o_fdiv2 (e : Nat) : dFdiv (.int (e : Int)) (.int 2) = some (.int ((e / 2 : Nat) : Int)) := by
  show (if (0 : Int) < 2 ∧ (2 : Int) < 1073741824 then some (D.int ((e : Int) / 2)) else none) = _
  rw [if_pos (by decide)]
  rfl
theorem o_mod2 (e : Nat) : dMod (.int (e : Int)) (.int 2) = some (.int ((e % 2 : Nat) : Int)) := by
  show (if (0 : Int) < 2 then some (D.int ((e : Int) % 2)) else none) = _
  rw [if_pos (by decide)]
  rfl
theorem pures_map (f : Int → D) (hf : ∀ i, (f i).pure = true) (l : List Int) : D.pures (l.map f) = true := by
  induction l with
  | nil => rfl
  | cons x r ih => simp [D.pures, hf, ih]
theorem eqOk_ints (l : List Int) : D.eqOk (.lst (l.map .int)) = true := by
  have h1 : D.pure (.lst (l.map D.int)) = true := pures_map D.int (fun _ => rfl) l
  have h2 : ∀ l : List Int, PyData.canLayAll0 (D.pys (l.map D.int)) = true ∧ PyData.depthAll (D.pys (l.map D.int)) = 0 := fun l => by
    induction l with
    | nil => exact ⟨rfl, rfl⟩
    | cons x r ih => simp [D.pys, D.py, PyData.canLayAll0, PyData.canLay0, PyData.depthAll, PyData.depth, ih]
  unfold D.eqOk SeqAt.shaped
  rw [h1]
  simp only [D.py, PyData.canLay0, PyData.depth, (h2 l).1, (h2 l).2]
  rfl
theorem o_eqNil {ds : List D} (h : D.eqOk (.lst ds) = true) : dEq (.lst ds) (.lst []) = some (.bl ds.isEmpty) := by
  unfold dEq
  rw [if_pos ⟨h, rfl⟩]
  cases ds <;> rfl
theorem o_neNil {ds : List D} (h : D.eqOk (.lst ds) = true) : dNe (.lst ds) (.lst []) = some (.bl !ds.isEmpty) := by
  unfold dNe
  rw [if_pos ⟨h, rfl⟩]
  cases ds <;> rfl
/-! ### data without outer objects -/
mutual
def nob : D → Bool
  | .lst ds => nobs ds
  | .tup ds => nobs ds
  | .obj _ => false
  | .dct kvs => kvs.isEmpty
  | _ => true
def nobs : List D → Bool
  | [] => true
  | d :: r => nob d && nobs r
end
theorem nobs_mem : ∀ {ds : List D}, nobs ds = true → ∀ d ∈ ds, nob d = true
  | [], _, d, hd => by simp at hd
  | x :: r, h, d, hd => by
    simp only [nobs, Bool.and_eq_true] at h
    rcases List.mem_cons.mp hd with e | hd
    · rw [e]; exact h.1
    · exact nobs_mem h.2 d hd
def isN : D → Bool
  | .int _ => true
  | _ => false
theorem ev_is_whole {d : D} (h : nob d = true) : m_is_whole [d] = some (.bl (isN d)) := by
  refine wD_eq (run_P rfl ?_)
  unfold m_is_wholeB
  simp only [w_sRet, w_eAnd, w_e1, v_eV, List.map, List.cons_append, List.nil_append, List.getElem?_cons_zero, slotE_sh]
  cases d <;> simp [nob] at h <;> simp [dIsi, wD, isB, isN, dNot]
theorem ev_law_number {d : D} (h : nob d = true) : m_law_number [d] = some (.bl (isN d)) := by
  refine wD_eq (run_P rfl ?_)
  unfold m_law_numberB
  simp only [w_sRet, w_eAnd, w_e1, v_eV, List.map, List.cons_append, List.nil_append, List.getElem?_cons_zero, slotE_sh]
  cases d <;> simp [nob] at h <;> simp [dIsi, wD, isB, isN, dNot]
/-- a tuple of so many integers -/
def wholes (d : D) (k : Nat) : Bool := match d with
  | .tup ds => decide (ds.length = k) && ds.all isN
  | _ => false
theorem bools_map (l : List Bool) : bools? (l.map D.bl) = some l := by
  induction l with
  | nil => rfl
  | cons x r ih =>
    show (match D.bl x, bools? (r.map D.bl) with
      | .bl i, some is => some (i :: is)
      | _, _ => none) = _
    rw [ih]
theorem o_allB (l : List Bool) : dAll (.lst (l.map D.bl)) = some (.bl (l.all id)) := by
  show (bools? (l.map D.bl)).map _ = _
  rw [bools_map]
  rfl
theorem notOw_nil {n : Nat} {ds : List D} {own : List Nat} : own.all (notOw (ds.map (fun d => some (Sl.sh d)) ++ List.replicate n none)) = true := by
  rw [List.all_eq_true]
  intro i _
  unfold notOw
  split
  · rename_i x e
    exfalso
    rw [List.getElem?_append] at e
    split at e
    · simp at e
    · simp [List.getElem?_replicate] at e
  · rfl
theorem ev_are_wholes {d : D} {k : Nat} (h : nob d = true) : m_are_wholes [d, .int k] = some (.bl (wholes d k)) := by
  refine wD_eq (run_P rfl ?_)
  unfold m_are_wholesB
  simp only [w_sRet, w_eAnd, w_e1, w_e2, v_eV, List.map, List.cons_append, List.nil_append, List.getElem?_cons_zero, List.getElem?_cons_succ, slotE_sh]
  cases d with
  | tup ds =>
    simp only [dIsi, wD, isB, dLen, o_eqI]
    by_cases hk : ds.length = k
    · simp [hk]
      refine w_lc (I := fun _ => True) (P := fun pre acc => acc = (pre.map isN).map D.bl) ?_
      simp only [w_iE, v_eV, List.getElem?_cons_zero, slotE_sh, items?, wD]
      refine ⟨by trivial, trivial, rfl, rfl, fun pre d post acc s e hp _ => ⟨_, rfl, ?_⟩, fun acc s' hp _ => ?_⟩
      · have hd : nob d = true := nobs_mem (by simpa [nob] using h) d (by rw [e]; simp)
        simp [wipeE, w_tYes, w_eCallP, w_aCons, w_aNil, v_eV, slotE_sh, ev_is_whole hd, wD, backE, hp]
      · rw [hp, o_allB]
        simp [wD, wholes, hk, List.all_map, Function.comp_def]
    · have : ¬ ((ds.length : Int) = (k : Int)) := by omega
      simp [this, wholes, hk]
  | obj a => simp [nob] at h
  | _ => simp [dIsi, wD, isB, wholes]
theorem ev_law_are_wholes {d : D} {k : Nat} (h : nob d = true) : m_law_are_wholes [d, .int k] = some (.bl (wholes d k)) := by
  refine wD_eq (run_P rfl ?_)
  unfold m_law_are_wholesB
  simp only [w_sRet, w_eAnd, w_e1, w_e2, v_eV, List.map, List.cons_append, List.nil_append, List.getElem?_cons_zero, List.getElem?_cons_succ, slotE_sh]
  cases d with
  | tup ds =>
    simp only [dIsi, wD, isB, dLen, o_eqI]
    by_cases hk : ds.length = k
    · simp [hk]
      refine w_lc (I := fun _ => True) (P := fun pre acc => acc = ((pre.filter fun d => !isN d).map fun _ => (1 : Int)).map D.int) ?_
      simp only [w_iE, v_eV, List.getElem?_cons_zero, slotE_sh, items?, wD]
      refine ⟨by trivial, trivial, rfl, rfl, fun pre d post acc s e hp _ => ⟨_, rfl, ?_⟩, fun acc s' hp _ => ?_⟩
      · have hd : nob d = true := nobs_mem (by simpa [nob] using h) d (by rw [e]; simp)
        cases hn : isN d <;> simp [wipeE, w_tNot, w_tE, w_eCallP, w_aCons, w_aNil, v_eV, slotE_sh, ev_law_number hd, wD, isB, backE, hp, hn, w_eC]
      · rw [w_eLst, w_aNil]
        simp only [List.length_nil, Nat.zero_le, if_true, wD]
        rw [hp, o_eqNil (eqOk_ints _)]
        simp only [wD, wholes, hk, decide_true, Bool.true_and, D.bl.injEq]
        clear h hk hp
        induction ds with
        | nil => rfl
        | cons x r ih =>
          cases hx : isN x
          · simp [hx]
          · simpa [hx] using ih
    · have : ¬ ((ds.length : Int) = (k : Int)) := by omega
      simp [this, wholes, hk]
  | obj a => simp [nob] at h
  | _ => simp [dIsi, wD, isB, wholes]
end Fw
/-! ## K1c -/
set_option linter.all false
set_option maxRecDepth 100000
set_option maxHeartbeats 1000000
namespace Fw
open PySem
theorem wholes_tup {d : D} {k : Nat} (h : wholes d k = true) : ∃ l : List Int, d = .tup (l.map .int) ∧ l.length = k := by
  cases d with
  | tup ds =>
    simp only [wholes, Bool.and_eq_true, decide_eq_true_eq] at h
    obtain ⟨h1, h2⟩ := h
    have : ∀ ds : List D, ds.all isN = true → ∃ l : List Int, ds = l.map .int := fun ds => by
      induction ds with
      | nil => exact fun _ => ⟨[], rfl⟩
      | cons x r ih =>
        intro h
        simp only [List.all_cons, Bool.and_eq_true] at h
        obtain ⟨l, hl⟩ := ih h.2
        cases x with
        | int i => exact ⟨i :: l, by rw [hl]; rfl⟩
        | _ => simp [isN] at h
    obtain ⟨l, hl⟩ := this ds h2
    exact ⟨l, by rw [hl], by rw [← h1, hl, List.length_map]⟩
  | _ => simp [wholes] at h
theorem wholes_of (l : List Int) {k : Nat} (h : l.length = k) : wholes (.tup (l.map .int)) k = true := by
  simp [wholes, h, List.all_map, Function.comp_def, isN]
def isRoad (n : Int) (d : D) : Bool := match d with
  | .tup [.int a, .int b] => decide ((0 ≤ a ∧ a < n) ∧ 0 ≤ b ∧ b < n)
  | _ => false
/-! ### hanging together -/
abbrev nats (l : List Nat) : List D := l.map fun (x : Nat) => D.int (x : Int)
theorem eqOk_nats (l : List Nat) : D.eqOk (.lst (nats l)) = true := by
  have := eqOk_ints (l.map fun (x : Nat) => (x : Int))
  rw [List.map_map] at this
  exact this
theorem o_inN (a : Nat) (l : List Nat) : dIn (.int a) (.lst (nats l)) = some (.bl (decide (a ∈ l))) := by
  show (if (D.int (a : Int)).eqOk = true ∧ D.eqOk (.lst (nats l)) = true then some (D.bl ((nats l).any fun z => D.eqv z (.int (a : Int)))) else none) = _
  rw [if_pos ⟨rfl, eqOk_nats l⟩]
  congr 2
  rw [List.any_map]
  refine Bool.eq_iff_iff.mpr ?_
  simp only [List.any_eq_true, decide_eq_true_eq, Function.comp]
  constructor
  · rintro ⟨x, hx, e⟩
    have : ((x : Int) == (a : Int)) = true := e
    have h2 : (x : Int) = (a : Int) := by simpa using this
    have h3 : x = a := by omega
    rw [← h3]; exact hx
  · intro h
    exact ⟨a, h, by show ((a : Int) == (a : Int)) = true; simp⟩
theorem o_neB (a b : Bool) : dNe (.bl a) (.bl b) = some (.bl (a != b)) := by
  cases a <;> cases b <;> rfl
theorem metN_len {n : Nat} {R : Rds} (hn : 1 ≤ n) (hR : ∀ q ∈ R, q.1 < n ∧ q.2 < n) (S : Rds) (hS : ∀ p ∈ S, p ∈ R) (k : Nat) : (S.foldl metStep (metN R k)).length ≤ n := by
  have I := metN_inv hn hR k
  have I2 := MInv.lap (n := n) (R := R) S _ (fun p hp => ⟨hS p hp, hR p (hS p hp)⟩) I
  exact (nodup_lt n _ I2.nd fun x hx => (I2.cn x hx).1).1
/-! ### what is a bounded frame -/
def leB (l h : List Int) : Bool := (l.zip h).all fun p => decide (p.1 ≤ p.2)
structure Fr.Sh (G : Fr) : Prop where
  n1 : 1 ≤ G.n
  n2 : G.n ≤ 20
  m : G.roads.length ≤ 32
  rd : ∀ p ∈ G.roads, p.1 < G.n ∧ p.2 < G.n
  ll : G.low.length = G.roads.length
  hl : G.high.length = G.roads.length
def isFr (d : D) : Prop := ∃ G : Fr, G.Sh ∧ d = G.d ∧ leB G.low G.high = true ∧ ∀ x, x < G.n → Conn G.roads 0 x
theorem roads_of {n : Nat} : ∀ {rs : List D}, (rs.all (isRoad n) = true) → ∃ R : Rds, rs = R.map dRoad ∧ ∀ p ∈ R, p.1 < n ∧ p.2 < n
  | [], _ => ⟨[], rfl, fun p hp => by simp at hp⟩
  | d :: rs, h => by
    simp only [List.all_cons, Bool.and_eq_true] at h
    obtain ⟨R, hR, hp⟩ := roads_of h.2
    have h1 := h.1
    unfold isRoad at h1
    split at h1
    · rename_i a b
      simp only [decide_eq_true_eq] at h1
      refine ⟨(a.toNat, b.toNat) :: R, ?_, fun p hp' => ?_⟩
      · rw [hR]
        simp only [List.map_cons, dRoad, List.cons.injEq, D.tup.injEq, D.int.injEq, and_true]
        omega
      · rcases List.mem_cons.mp hp' with e | e
        · rw [e]; dsimp only; omega
        · exact hp p e
    · cases h1
theorem roads_all {n : Nat} {R : Rds} (h : ∀ p ∈ R, p.1 < n ∧ p.2 < n) : (R.map dRoad).all (isRoad n) = true := by
  rw [List.all_map, List.all_eq_true]
  intro p hp
  have := h p hp
  simp only [Function.comp, dRoad, isRoad, decide_eq_true_eq]
  omega
theorem nob4 {x r lo hi : D} (h : nob (.tup [x, r, lo, hi]) = true) : nob x = true ∧ nob r = true ∧ nob lo = true ∧ nob hi = true := by
  simp only [nob, nobs, Bool.and_true, Bool.and_eq_true] at h
  exact ⟨h.1, h.2.1, h.2.2.1, h.2.2.2⟩
theorem zip_le : ∀ (l h : List Int), (zipL (l.map D.int) (h.map D.int)) = (l.zip h).map fun p => .tup [.int p.1, .int p.2]
  | [], h => by cases h <;> rfl
  | a :: l, [] => rfl
  | a :: l, b :: h => by simp only [List.map_cons, zipL, List.zip_cons_cons, zip_le l h]
end Fw
/-! ## K1d -/
set_option linter.all false
set_option maxRecDepth 100000
set_option maxHeartbeats 1000000
namespace Fw
open PySem
def inr (n : Int) (d : D) : Bool := match d with
  | .int i => decide (0 ≤ i ∧ i < n)
  | _ => false
theorem isRoad_inr (n : Int) (ds : List D) : isRoad n (.tup ds) = (decide (ds.length = 2) && ds.all (inr n)) := by
  match ds with
  | [] => rfl
  | [x] => simp [isRoad]
  | [x, y] =>
    cases x <;> cases y <;> simp [isRoad, inr]
  | x :: y :: z :: r => simp [isRoad]
theorem rangeL_nats (m : Nat) : rangeL 0 m = nats (List.range m) := by
  unfold rangeL nats
  refine List.map_congr_left fun k _ => ?_
  congr 1
  omega
theorem o_ixN (h : List Nat) {a : Nat} (ha : a < h.length) : dIx (.lst (nats h)) (.int a) = some (.int (h.getD a 0 : Nat)) := by
  rw [o_ixL, List.getElem?_map, List.getElem?_eq_getElem ha, List.getD_eq_getElem?_getD, List.getElem?_eq_getElem ha]
  rfl
theorem o_ixI (l : List Int) {a : Nat} (ha : a < l.length) : dIx (.tup (l.map D.int)) (.int a) = some (.int (l.getD a 0)) := by
  rw [o_ixT, List.getElem?_map, List.getElem?_eq_getElem ha, List.getD_eq_getElem?_getD, List.getElem?_eq_getElem ha]
  rfl
theorem o_min2 (a b : Nat) : dMin2 (.int (a : Int)) (.int (b : Int)) = some (.int ((min a b : Nat) : Int)) := by
  show some (D.int (if (b : Int) < (a : Int) then (b : Int) else a)) = _
  congr 2
  split <;> omega
theorem o_max2 (a b : Nat) : dMax2 (.int (a : Int)) (.int (b : Int)) = some (.int ((max a b : Nat) : Int)) := by
  show some (D.int (if (b : Int) > (a : Int) then (b : Int) else a)) = _
  congr 2
  split <;> omega
theorem ints_nats (l : List Nat) : ints? (nats l) = some (l.map fun (x : Nat) => (x : Int)) := by
  induction l with
  | nil => rfl
  | cons x r ih =>
    show (match D.int (x : Int), ints? (nats r) with
      | .int i, some is => some (i :: is)
      | _, _ => none) = _
    rw [ih]
    rfl
theorem o_maxN {l : List Nat} (h : 0 < l.length) : ∃ m : Nat, dMaxL (.lst (nats l)) = some (.int m) ∧ (m = 0 ↔ ∀ x ∈ l, x = 0) := by
  cases l with
  | nil => cases h
  | cons a r =>
    have e : dMaxL (.lst (nats (a :: r))) = some (.int (maxL ((a :: r).map fun (x : Nat) => (x : Int)))) := by
      show (ints? (nats (a :: r))).map _ = _
      rw [ints_nats]
      rfl
    have hm := maxL_mem (is := (a :: r).map fun (x : Nat) => (x : Int)) (by simp)
    obtain ⟨m, hmr, hme⟩ := List.mem_map.mp hm
    refine ⟨m, by rw [e, hme], ?_⟩
    constructor
    · intro h0 x hx
      have := maxL_ge (is := (a :: r).map fun (x : Nat) => (x : Int)) (List.mem_map_of_mem (f := fun (x : Nat) => (x : Int)) hx)
      rw [← hme] at this
      omega
    · intro hall
      exact hall m hmr
theorem map_nats_inj {l l' : List Nat} (h : nats l = nats l') : l = l' := map_inj (f := fun (x : Nat) => D.int (x : Int)) (fun a b e => by
  simp only [D.int.injEq] at e
  omega) h
theorem le_iff {l u : List Int} (h : l.length = u.length) : leB l u = true ↔ ((List.range l.length).filter fun k => decide (u.getD k 0 < l.getD k 0)) = [] := by
  unfold leB
  rw [List.filter_eq_nil_iff, List.all_eq_true]
  constructor
  · intro hh k hk
    have hk' := List.mem_range.mp hk
    have hu : k < u.length := by omega
    have := hh (l[k], u[k]) (by
      rw [List.mem_iff_getElem]
      exact ⟨k, by rw [List.length_zip]; omega, by simp⟩)
    simp only [decide_eq_true_eq] at this ⊢
    rw [List.getD_eq_getElem?_getD, List.getD_eq_getElem?_getD, List.getElem?_eq_getElem hk', List.getElem?_eq_getElem hu]
    simpa using this
  · intro hh p hp
    obtain ⟨k, hk, rfl⟩ := List.mem_iff_getElem.mp hp
    rw [List.length_zip] at hk
    have hk' : k < l.length := by omega
    have hu : k < u.length := by omega
    have := hh k (List.mem_range.mpr hk')
    rw [List.getD_eq_getElem?_getD, List.getD_eq_getElem?_getD, List.getElem?_eq_getElem hk', List.getElem?_eq_getElem hu] at this
    simpa using this
theorem heads_len (n : Nat) (R : Rds) : (R.foldl mrg (List.range n)).length = n := by
  have : ∀ (R : Rds) (h : List Nat), (R.foldl mrg h).length = h.length := fun R => by
    induction R with
    | nil => exact fun _ => rfl
    | cons p R ih => intro h; simp only [List.foldl_cons, ih, mrg, List.length_map]
  rw [this, List.length_range]
abbrev fEnv (d n : Option Sl) (r lo hi h : Option Sl) : Env := [d, n, r, lo, hi, none, h, none, none, none, none, none, none, none]
end Fw
/-! ## K1e -/
set_option linter.all false
set_option maxRecDepth 100000
set_option maxHeartbeats 1000000
namespace Fw
open PySem
theorem half_lt {e m : Nat} (h : e < 2 * m) : e / 2 < m := by omega
theorem par_01 (e : Nat) : e % 2 = 0 ∨ e % 2 = 1 := by omega
theorem castI {a b : Nat} : ((a : Int) = (b : Int)) = (a = b) := propext (by omega)
theorem ev_cost_of_end {G : Fr} (hG : G.Sh) {e : Nat} (he : e < 2 * G.roads.length) : m_cost_of_end [G.d, .int e] = some (.int (G.cost e)) := by
  refine wD_eq (run_P rfl ?_)
  unfold m_cost_of_endB Fr.d Fr.cost
  have h1 := half_lt he
  have e3 : dIx (.tup (G.high.map D.int)) (.int ((e / 2 : Nat) : Int)) = some (.int (G.high.getD (e / 2) 0)) := o_ixI _ (by rw [hG.hl]; exact h1)
  have e4 : dIx (.tup (G.low.map D.int)) (.int ((e / 2 : Nat) : Int)) = some (.int (G.low.getD (e / 2) 0)) := o_ixI _ (by rw [hG.ll]; exact h1)
  simp only [w_sRet, w_eIf, w_tE, w_e2, w_e1, w_eC, v_eV, List.map, List.cons_append, List.nil_append, List.getElem?_cons_zero, List.getElem?_cons_succ, slotE_sh, o_mod2, wD_some, o_eqI, isB_bl, o_ix3, o_ix2, o_fdiv2]
  have e3' : dIx (.tup (List.map D.int G.high)) (.int ((e / 2 : Nat) : Int)) = _ := e3
  rcases par_01 e with h | h
  · simp only [h, show decide (((0 : Nat) : Int) = 0) = true from rfl, if_true]
    rw [e3]
    rfl
  · simp only [h, show decide (((1 : Nat) : Int) = 0) = false from rfl, Bool.false_eq_true, if_false]
    rw [e4]
    rfl
theorem ev_law_cost {G : Fr} (hG : G.Sh) {e : Nat} (he : e < 2 * G.roads.length) : m_law_cost [G.d, .int e] = some (.int (G.cost e)) := by
  refine wD_eq (run_P rfl ?_)
  unfold m_law_costB Fr.d Fr.cost
  have h1 := half_lt he
  have e3 : dIx (.tup (G.high.map D.int)) (.int ((e / 2 : Nat) : Int)) = some (.int (G.high.getD (e / 2) 0)) := o_ixI _ (by rw [hG.hl]; exact h1)
  have e4 : dIx (.tup (G.low.map D.int)) (.int ((e / 2 : Nat) : Int)) = some (.int (G.low.getD (e / 2) 0)) := o_ixI _ (by rw [hG.ll]; exact h1)
  simp only [w_sRet, w_eIf, w_tE, w_e2, w_e1, w_eC, v_eV, List.map, List.cons_append, List.nil_append, List.getElem?_cons_zero, List.getElem?_cons_succ, slotE_sh, dInt, o_mod2, wD_some, o_eqI, isB_bl, o_ix3, o_ix2, o_fdiv2]
  rcases par_01 e with h | h
  · simp only [h, show decide (((0 : Nat) : Int) = 0) = true from rfl, if_true]
    rw [e3]
    rfl
  · simp only [h, show decide (((1 : Nat) : Int) = 0) = false from rfl, Bool.false_eq_true, if_false]
    rw [e4]
    simp only [wD_some, dSub]
    show D.int (0 - _) = D.int _
    congr 1
    simp
theorem o_road {G : Fr} {k : Nat} (hk : k < G.roads.length) : dIx (.tup (G.roads.map dRoad)) (.int (k : Int)) = some (dRoad (G.roads.getD k (0, 0))) := by
  rw [o_ixT, List.getElem?_map, List.getElem?_eq_getElem hk, List.getD_eq_getElem?_getD, List.getElem?_eq_getElem hk]
  rfl
theorem ev_law_end_from {G : Fr} {e : Nat} (he : e < 2 * G.roads.length) : m_law_end_from [G.d, .int e] = some (.int (G.fr e)) := by
  refine wD_eq (run_P rfl ?_)
  unfold m_law_end_fromB Fr.d Fr.fr
  have h1 := o_road (half_lt he)
  simp only [w_sRet, w_e2, w_e1, w_eC, v_eV, List.map, List.cons_append, List.nil_append, List.getElem?_cons_zero, List.getElem?_cons_succ, slotE_sh, dInt, o_mod2, wD_some, o_ix1, o_fdiv2]
  rw [h1]
  simp only [wD_some]
  generalize G.roads.getD (e / 2) (0, 0) = p
  rcases par_01 e with h | h
  · simp only [h]
    rfl
  · simp only [h]
    rfl
theorem ev_law_end_to {G : Fr} {e : Nat} (he : e < 2 * G.roads.length) : m_law_end_to [G.d, .int e] = some (.int (G.to e)) := by
  refine wD_eq (run_P rfl ?_)
  unfold m_law_end_toB Fr.d Fr.to
  have h1 := o_road (half_lt he)
  simp only [w_sRet, w_e2, w_e1, w_eC, v_eV, List.map, List.cons_append, List.nil_append, List.getElem?_cons_zero, List.getElem?_cons_succ, slotE_sh, dInt, o_mod2, wD_some, o_ix1, o_fdiv2, dSub]
  rw [h1]
  simp only [wD_some]
  generalize G.roads.getD (e / 2) (0, 0) = p
  rcases par_01 e with h | h
  · simp only [h]
    rfl
  · simp only [h]
    rfl
/-! ### ways -/
def wayC (G : Fr) (es : List Nat) : Int := (es.map G.cost).sum
theorem ints_int (l : List Int) : ints? (l.map D.int) = some l := by
  induction l with
  | nil => rfl
  | cons x r ih =>
    show (match D.int x, ints? (r.map D.int) with
      | .int i, some is => some (i :: is)
      | _, _ => none) = _
    rw [ih]
theorem ev_way_cost {G : Fr} (hG : G.Sh) {es : List Nat} (he : ∀ e ∈ es, e < 2 * G.roads.length) : m_way_cost [G.d, .tup (nats es)] = some (.int (wayC G es)) := by
  refine wD_eq (run_P rfl ?_)
  unfold m_way_costB
  rw [w_sRet, w_e1]
  refine w_lc (I := fun _ => True) (P := fun pre acc => ∃ qs : List Nat, pre = nats qs ∧ acc = (qs.map G.cost).map D.int) ?_
  simp only [w_iE, v_eV, Nat.reduceSub, List.replicate, List.map, List.cons_append, List.nil_append, List.getElem?_cons_zero, List.getElem?_cons_succ, slotE_sh, items?, wD_some]
  refine ⟨by trivial, trivial, rfl, ⟨[], rfl, rfl⟩, fun pre d post acc s e hp _ => ?_, fun acc s' hp _ => ?_⟩
  · obtain ⟨qs, rfl, rfl⟩ := hp
    have hd : d ∈ nats es := by rw [e]; simp
    obtain ⟨x, hx, rfl⟩ := List.mem_map.mp hd
    refine ⟨_, rfl, ?_⟩
    simp only [wipeE, w_tYes, if_true, w_eCallP, w_aCons, w_aNil, v_eV, List.set, List.getElem?_cons_zero, List.getElem?_cons_succ, slotE_sh, ev_cost_of_end hG (he x hx), wD_some]
    exact ⟨⟨qs ++ [x], by simp [nats], by simp⟩, trivial, rfl⟩
  · obtain ⟨qs, e1, rfl⟩ := hp
    have := map_nats_inj e1
    subst this
    have : dSum (.lst ((es.map G.cost).map D.int)) = some (.int (wayC G es)) := by
      show (ints? ((es.map G.cost).map D.int)).map _ = _
      rw [ints_int]
      rfl
    rw [this]
    rfl
theorem ev_law_way_cost {G : Fr} (hG : G.Sh) {es : List Nat} (he : ∀ e ∈ es, e < 2 * G.roads.length) : m_law_way_cost [G.d, .tup (nats es)] = some (.int (wayC G es)) := by
  refine wD_eq (run_P rfl ?_)
  unfold m_law_way_costB
  rw [w_sRet, w_e1]
  refine w_lc (I := fun _ => True) (P := fun pre acc => ∃ qs : List Nat, pre = nats qs ∧ acc = (qs.map G.cost).map D.int) ?_
  simp only [w_iE, v_eV, Nat.reduceSub, List.replicate, List.map, List.cons_append, List.nil_append, List.getElem?_cons_zero, List.getElem?_cons_succ, slotE_sh, items?, wD_some]
  refine ⟨by trivial, trivial, rfl, ⟨[], rfl, rfl⟩, fun pre d post acc s e hp _ => ?_, fun acc s' hp _ => ?_⟩
  · obtain ⟨qs, rfl, rfl⟩ := hp
    have hd : d ∈ nats es := by rw [e]; simp
    obtain ⟨x, hx, rfl⟩ := List.mem_map.mp hd
    refine ⟨_, rfl, ?_⟩
    simp only [wipeE, w_tYes, if_true, w_eCallP, w_aCons, w_aNil, v_eV, List.set, List.getElem?_cons_zero, List.getElem?_cons_succ, slotE_sh, ev_law_cost hG (he x hx), wD_some]
    exact ⟨⟨qs ++ [x], by simp [nats], by simp⟩, trivial, rfl⟩
  · obtain ⟨qs, e1, rfl⟩ := hp
    have := map_nats_inj e1
    subst this
    have : dSum (.lst ((es.map G.cost).map D.int)) = some (.int (wayC G es)) := by
      show (ints? ((es.map G.cost).map D.int)).map _ = _
      rw [ints_int]
      rfl
    rw [this]
    rfl
/-! ### heights -/
theorem enumL_at : ∀ (ds : List D) (j i : Nat), (enumL j ds)[i]? = (ds[i]?).map fun d => .tup [.int ((j + i : Nat) : Int), d]
  | [], j, i => by simp [enumL]
  | d :: r, j, 0 => by simp [enumL]
  | d :: r, j, i + 1 => by
    simp only [enumL, List.getElem?_cons_succ, enumL_at r (j + 1) i]
    congr 1
    funext d
    congr 3
    omega
theorem ev_broken {G : Fr} (hG : G.Sh) {hs : List Int} (hl : hs.length = G.n) : ∃ z, m_broken_road [G.d, .tup (hs.map D.int)] = some z ∧ nob z = true := by
  have key : wD (m_broken_road [G.d, .tup (hs.map D.int)]) fun z => nob z = true := by
    refine run_P rfl ?_
    unfold m_broken_roadB Fr.d
    refine w_seq (fun _ _ => True) (fun Q' hn hr _ _ => ?_) ?_
    · refine w_sFor ?_
      simp only [w_iEnum, w_e2, v_eV, w_eC, List.map, List.cons_append, List.nil_append, List.getElem?_cons_zero, List.getElem?_cons_succ, slotE_sh, o_ix1, wD_some, items?]
      refine ⟨fun j ρ _ => ρ = [some (.sh (.tup [.int G.n, .tup (G.roads.map dRoad), .tup (G.low.map .int), .tup (G.high.map .int)])), some (.sh (.tup (hs.map D.int))), none, none, none], rfl, ?_, ?_⟩
      · rintro j d ρ s hd rfl
        rw [enumL_at, List.getElem?_map] at hd
        obtain ⟨x, hx, rfl⟩ := Option.map_eq_some_iff.mp hd
        obtain ⟨p, hp, rfl⟩ := Option.map_eq_some_iff.mp hx
        obtain ⟨p1, p2⟩ := hG.rd p (List.mem_of_getElem? hp)
        have hj : j < G.roads.length := (List.getElem?_eq_some_iff.mp hp).1
        refine ⟨_, rfl, ?_⟩
        have q0 : ((0 + j : Nat) : Int) = (j : Int) := by omega
        refine w_if (fun _ ρ _ => ρ = [some (.sh (.tup [.int G.n, .tup (G.roads.map dRoad), .tup (G.low.map .int), .tup (G.high.map .int)])), some (.sh (.tup (hs.map D.int))), some (.sh (.int (j : Int))), some (.sh (.int p.1)), some (.sh (.int p.2))]) (fun Q2 hQ => ?_) ?_ ?_
        · have l1 := o_ixI G.low (a := j) (by rw [hG.ll]; exact hj)
          have l2 := o_ixI G.high (a := j) (by rw [hG.hl]; exact hj)
          have l3 := o_ixI hs (a := p.1) (by omega)
          have l4 := o_ixI hs (a := p.2) (by omega)
          simp only [q0, w_tNot, w_tE, w_eChain, w_e2, v_eV, w_eC, List.set, List.getElem?_cons_zero, List.getElem?_cons_succ, slotE_sh, o_ix2, wD_some]
          rw [l1, wD_some, l4, wD_some, l3, wD_some]
          simp only [dSub, dLe, wD_some, isB_bl]
          split
          · simp only [o_ix3, List.getElem?_cons_zero, List.getElem?_cons_succ, wD_some]
            rw [l2]
            simp only [wD_some, isB_bl]
            exact hQ _ _ _ rfl
          · exact hQ _ _ _ rfl
        · rintro ρ s rfl
          simp only [w_sRet, v_eV, List.getElem?_cons_zero, List.getElem?_cons_succ, slotE_sh]
          exact hr _ _ _ rfl
        · rintro ρ s rfl
          rw [w_sNx]
          rfl
      · intro ρ s _
        exact hn _ _ trivial
    · intro ρ s _
      simp only [w_sRet, w_eC]
      rfl
  obtain ⟨z, h1, h2⟩ := wD_ex key
  exact ⟨z, h1, h2⟩
end Fw
/-! ## K1f -/
set_option linter.all false
set_option maxRecDepth 100000
set_option maxHeartbeats 1000000
namespace Fw
open PySem
theorem atD_nat {α : Type} {xs : List α} {k : Nat} (h : k < xs.length) : atD xs (k : Int) = some xs[k] := by
  unfold atD ixD
  rw [if_pos (by omega), if_pos (by omega)]
  simp [h]
theorem ixD_nat {n k : Nat} (h : k < n) : ixD n (k : Int) = some k := by
  unfold ixD
  rw [if_pos (by omega), if_pos (by omega)]
  simp
theorem shp_at {n : Nat} {T : Tb} (h : Shp n T) {x : Nat} (hx : x < n) : atD T (x : Int) = some (T.getD x []) := by
  have hl : x < T.length := by rw [h.1]; exact hx
  rw [atD_nat hl, List.getD_eq_getElem?_getD, List.getElem?_eq_getElem hl]
  rfl
section
variable {S : Type}
theorem w_tabIx {a : Addr} {t n : Nat} {fx fy : E (S × Tb)} {ρ : Env} {s : S × Tb} {x y : Nat} {Q : D → Env → S × Tb → Prop} (h : ρ[t]? = some (some (.sh (.obj a)))) (hx : fx ρ s = some (.int x, ρ, s)) (hy : fy ρ s = some (.int y, ρ, s)) (hs : Shp n s.2) (xn : x < n) (yn : y < n) :
    wE (eTabIx a t fx fy) ρ s Q = Q (.int (gt s.2 x y)) ρ s := by
  have h1 := shp_at hs xn
  have hr := hs.row xn
  have h2 : atD (s.2.getD x []) (y : Int) = some (gt s.2 x y) := by
    rw [atD_nat (by rw [hr]; exact yn)]
    unfold gt
    rw [List.getD_eq_getElem?_getD (l := s.2.getD x []), List.getElem?_eq_getElem (by rw [hr]; exact yn)]
    rfl
  unfold wE eTabIx
  rw [h]
  simp only [if_true, hx, h1, Option.isSome_some, hy, Option.bind_some, h2]
theorem w_tabSet {a : Addr} {t n : Nat} {fe fx fy : E (S × Tb)} {ρ : Env} {s : S × Tb} {x y : Nat} {Q : Ctl → Env → S × Tb → Prop} (h : ρ[t]? = some (some (.sh (.obj a)))) (hx : fx ρ s = some (.int x, ρ, s)) (hy : fy ρ s = some (.int y, ρ, s)) (hs : Shp n s.2) (xn : x < n) (yn : y < n)
    (he : wE fe ρ s fun d ρ' s' => ∃ z, d = .int z ∧ ρ' = ρ ∧ s' = s ∧ Q .nx ρ (s.1, st s.2 x y z)) : wS (sTabSet a t fe fx fy) ρ s Q := by
  unfold wE at he
  cases e : fe ρ s with
  | none => rw [e] at he; exact he.elim
  | some u =>
    obtain ⟨d, ρ', s'⟩ := u
    rw [e] at he
    obtain ⟨z, rfl, rfl, rfl, hq⟩ := he
    have h1 := shp_at hs xn
    have hr := hs.row xn
    have hl : x < s'.2.length := by rw [hs.1]; exact xn
    have hrow : s'.2[x]? = some (s'.2.getD x []) := by
      rw [List.getD_eq_getElem?_getD, List.getElem?_eq_getElem hl]
      rfl
    unfold wS sTabSet
    rw [e]
    simp only [h, if_true, hx, h1, Option.isSome_some, hy, ixD_nat hl, hrow, ixD_nat (show y < (s'.2.getD x []).length by rw [hr]; exact yn)]
    exact hq
end
theorem tb0_shp (n : Nat) : Shp n (tb0 n) := by
  refine ⟨by simp [tb0], fun r hr => ?_⟩
  obtain ⟨x, _, rfl⟩ := List.mem_map.mp hr
  simp
abbrev costsEnv (G : Fr) : Env := some (.sh G.d) :: some (.sh (.int G.n)) :: some (.sh (.int 1000000000)) :: List.replicate 7 none
open Classical in
noncomputable def costsF : C Unit := fun ρ s => if h : ∃ G : Fr, G.Ok ∧ ρ = costsEnv G then some (.rt (fwD (choose h)), ρ, s) else none
theorem costsF_some {ρ : Env} {s : Unit} {o : Ctl × Env × Unit} (h : costsF ρ s = some o) : ∃ G : Fr, G.Ok ∧ ρ = costsEnv G ∧ o = (.rt (fwD G), ρ, s) := by
  unfold costsF at h
  split at h
  · rename_i h1
    cases h
    exact ⟨_, (Classical.choose_spec h1).1, (Classical.choose_spec h1).2, rfl⟩
  · cases h
theorem Fr.Ok.sh {G : Fr} (h : G.Ok) : G.Sh := ⟨h.n1, h.n2, h.m, h.rd, h.ll, h.hl⟩
def dRowI (r : List Int) : D := .lst (r.map .int)
theorem costsN_ev {G : Fr} (hG : G.Ok) : m_law_costsN (costsEnv G) () = some (.lst (tbRows (tb0 G.n)), costsEnv G, ()) := by
  have key : wE m_law_costsN (costsEnv G) () fun d ρ _ => d = .lst (tbRows (tb0 G.n)) ∧ ρ = costsEnv G := by
    unfold m_law_costsN
    refine w_lc (I := fun _ => True) (P := fun pre acc => ∃ qs : List Nat, pre = nats qs ∧ acc = tbRows (qs.map fun x => (List.range G.n).map fun y => if x = y then 0 else far)) ?_
    have hr : (-16777216 : Int) ≤ (G.n : Int) ∧ (G.n : Int) ≤ 16777216 := by have := hG.n2; omega
    simp only [w_iR1, v_eV, List.getElem?_cons_zero, List.getElem?_cons_succ, slotE_sh, isI_int, hr, and_self, if_true, wD_some, Int.toNat_natCast, rangeL_nats]
    refine ⟨by trivial, trivial, rfl, ⟨[], rfl, rfl⟩, fun pre d post acc s e hp _ => ?_, fun acc s' hp _ => ?_⟩
    · obtain ⟨qs, rfl, rfl⟩ := hp
      have hd : d ∈ nats (List.range G.n) := by rw [e]; simp
      obtain ⟨x, hx, rfl⟩ := List.mem_map.mp hd
      refine ⟨_, rfl, ?_⟩
      rw [w_tYes, if_pos rfl]
      refine w_lc (I := fun _ => True) (P := fun pre acc => ∃ qs : List Nat, pre = nats qs ∧ acc = (qs.map fun y => if x = y then 0 else far).map D.int) ?_
      simp only [List.replicate, wipeE, List.set, w_iR1, v_eV, List.getElem?_cons_zero, List.getElem?_cons_succ, slotE_sh, isI_int, hr, and_self, if_true, wD_some, Int.toNat_natCast, rangeL_nats]
      refine ⟨by trivial, trivial, rfl, ⟨[], rfl, rfl⟩, fun pre d post acc s e hp _ => ?_, fun acc s' hp _ => ?_⟩
      · obtain ⟨ps, rfl, rfl⟩ := hp
        have hd : d ∈ nats (List.range G.n) := by rw [e]; simp
        obtain ⟨y, hy, rfl⟩ := List.mem_map.mp hd
        refine ⟨_, rfl, ?_⟩
        rw [w_tYes, if_pos rfl]
        simp only [wipeE, w_eIf, w_tE, w_e2, v_eV, w_eC, List.set, List.getElem?_cons_zero, List.getElem?_cons_succ, slotE_sh, o_eqI, wD_some, isB_bl]
        by_cases hc : x = y
        · rw [if_pos (by subst hc; simp)]
          exact ⟨⟨ps ++ [y], by simp [nats], by simp [hc]⟩, trivial, rfl⟩
        · rw [if_neg (by rw [decide_eq_false (show ¬ ((x : Int) = (y : Int)) by omega)]; exact Bool.false_ne_true)]
          exact ⟨⟨ps ++ [y], by simp [nats], by simp [hc, far]⟩, trivial, rfl⟩
      · obtain ⟨ps, e1, rfl⟩ := hp
        have := map_nats_inj e1
        subst this
        exact ⟨⟨qs ++ [x], by simp [nats], by simp [tbRows]⟩, trivial, rfl⟩
    · obtain ⟨qs, e1, rfl⟩ := hp
      have := map_nats_inj e1
      subst this
      exact ⟨rfl, by trivial⟩
  unfold wE at key
  cases e : m_law_costsN (costsEnv G) () with
  | none => rw [e] at key; exact key.elim
  | some u =>
    rw [e] at key
    obtain ⟨d, ρ, s⟩ := u
    obtain ⟨rfl, rfl⟩ := key
    rfl

abbrev tEnv (a : Addr) (fr n far : Option Sl) (x z : Option Sl) : Env := [fr, n, far, some (.sh (.obj a)), none, none, none, z, x, none]
theorem eV_at {S : Type} {i : Nat} {d : D} {ρ : Env} {s : S} (h : ρ[i]? = some (some (.sh d))) : eV i ρ s = some (d, ρ, s) := by
  unfold eV; rw [h]
theorem tb_step {S : Type} {n x y : Nat} {T : Tb} (h : Shp n T) (hx : x < n) : Shp n (tbS y x T y) ∧ True := ⟨h.st hx, trivial⟩
theorem shp_foldl {n : Nat} (f : Tb → Nat → Tb) (hf : ∀ T y, Shp n T → y < n → Shp n (f T y)) : ∀ (l : List Nat), (∀ y ∈ l, y < n) → ∀ T, Shp n T → Shp n (l.foldl f T)
  | [], _, T, h => h
  | y :: l, hl, T, h => shp_foldl f hf l (fun z hz => hl z (List.mem_cons_of_mem _ hz)) _ (hf T y h (hl y (List.mem_cons_self ..)))
theorem o_minI (i j : Int) : dMin2 (.int i) (.int j) = some (.int (min i j)) := by
  show some (D.int (if j < i then j else i)) = _
  congr 2
  split <;> omega
/-- one lap over all crossings, then all laps -/
theorem take_succ_range {n k : Nat} {d : D} (h : (nats (List.range n))[k]? = some d) : d = .int k ∧ k < n := by
  rw [List.getElem?_map] at h
  obtain ⟨x, hx, rfl⟩ := Option.map_eq_some_iff.mp h
  obtain ⟨h1, h2⟩ := List.getElem?_eq_some_iff.mp hx
  simp at h1 h2
  exact ⟨by rw [h2], h1⟩
def okS (x : Option Sl) : Prop := x = none ∨ ∃ d, x = some (.sh d)
theorem fw_loop {n : Nat} (hn : n ≤ 20) {a : Addr} {T : Tb} (hT : Shp n T) {fr : Option Sl} {Q : Ctl → Env → Unit × Tb → Prop}
    (hq : ∀ x, okS x → Q .nx (tEnv a none (some (.sh (.int n))) none x none) ((), (List.range n).foldl (tbZ n) T)) :
    wS (sFor (iR1 (eV 1)) (gN 7) (sFor (iR1 (eV 1)) (gN 8) (sFor (iR1 (eV 1)) (gN 9)
      (sTabSet a 3 (e2 dMin2 (eTabIx a 3 (eV 8) (eV 9)) (e2 dAdd (eTabIx a 3 (eV 8) (eV 7)) (eTabIx a 3 (eV 7) (eV 9)))) (eV 8) (eV 9)) [0, 2, 4, 5, 6, 9]) [0, 2, 4, 5, 6, 9]) [0, 2, 4, 5, 6, 7, 9])
      (tEnv a fr (some (.sh (.int n))) none none none) ((), T) Q := by
  have hr : (-16777216 : Int) ≤ (n : Int) ∧ (n : Int) ≤ 16777216 := by omega
  refine w_sFor ?_
  simp only [w_iR1, v_eV, List.getElem?_cons_zero, List.getElem?_cons_succ, slotE_sh, isI_int, hr, and_self, if_true, wD_some, Int.toNat_natCast, rangeL_nats]
  refine ⟨fun k ρ s => s = ((), (List.range k).foldl (tbZ n) T) ∧ ∃ x, okS x ∧ ρ = tEnv a none (some (.sh (.int n))) none x none, ⟨rfl, none, .inl rfl, rfl⟩, ?_, ?_⟩
  · rintro z d ρ s hd ⟨rfl, x0, hx0, rfl⟩
    obtain ⟨rfl, hz⟩ := take_succ_range hd
    refine ⟨_, rfl, ?_⟩
    have hU := shp_foldl (tbZ n) (fun T y h hy => (tbZ_le h).1) (List.range z) (fun y hy => by have := List.mem_range.mp hy; omega) T hT
    dsimp only
    rw [foldl_range]
    generalize (List.range z).foldl (tbZ n) T = U at hU
    refine w_sFor ?_
    simp only [w_iR1, v_eV, List.set, List.getElem?_cons_zero, List.getElem?_cons_succ, slotE_sh, isI_int, hr, and_self, if_true, wD_some, Int.toNat_natCast, rangeL_nats]
    refine ⟨fun k ρ s => s = ((), (List.range k).foldl (tbX n z) U) ∧ ∃ x, okS x ∧ ρ = tEnv a none (some (.sh (.int n))) none x (some (.sh (.int z))), ⟨rfl, _, hx0, rfl⟩, ?_, ?_⟩
    · rintro x d ρ s hd ⟨rfl, x1, _, rfl⟩
      obtain ⟨rfl, hx⟩ := take_succ_range hd
      refine ⟨_, rfl, ?_⟩
      have hV := shp_foldl (tbX n z) (fun T y h hy => (tbX_le h hy).1) (List.range x) (fun y hy => by have := List.mem_range.mp hy; omega) U hU
      dsimp only
      rw [foldl_range]
      generalize (List.range x).foldl (tbX n z) U = V at hV
      refine w_sFor ?_
      simp only [w_iR1, v_eV, List.set, List.getElem?_cons_zero, List.getElem?_cons_succ, slotE_sh, isI_int, hr, and_self, if_true, wD_some, Int.toNat_natCast, rangeL_nats]
      refine ⟨fun k ρ s => s = ((), (List.range k).foldl (tbS z x) V) ∧ ρ = tEnv a none (some (.sh (.int n))) none (some (.sh (.int x))) (some (.sh (.int z))), ⟨rfl, rfl⟩, ?_, ?_⟩
      · rintro y d ρ s hd ⟨rfl, rfl⟩
        obtain ⟨rfl, hy⟩ := take_succ_range hd
        refine ⟨_, rfl, ?_⟩
        have hW := shp_foldl (tbS z x) (fun T y h hy => (tbS_le h hx hy).1) (List.range y) (fun y' hy' => by have := List.mem_range.mp hy'; omega) V hV
        dsimp only
        rw [foldl_range]
        generalize (List.range y).foldl (tbS z x) V = W at hW
        refine w_tabSet (n := n) (x := x) (y := y) rfl (eV_at rfl) (eV_at rfl) hW hx hy ?_
        rw [w_e2, w_tabIx (n := n) (x := x) (y := y) rfl (eV_at rfl) (eV_at rfl) hW hx hy, w_e2, w_tabIx (n := n) (x := x) (y := z) rfl (eV_at rfl) (eV_at rfl) hW hx hz, w_tabIx (n := n) (x := z) (y := y) rfl (eV_at rfl) (eV_at rfl) hW hz hy]
        simp only [dAdd, wD_some, o_minI]
        exact ⟨_, rfl, by trivial, by trivial, rfl, rfl⟩
      · rintro ρ s ⟨rfl, rfl⟩
        refine ⟨?_, _, .inr ⟨_, rfl⟩, rfl⟩
        rw [List.length_map, List.length_range]
        rfl
    · rintro ρ s ⟨rfl, x1, hx1, rfl⟩
      refine ⟨?_, x1, hx1, rfl⟩
      rw [List.length_map, List.length_range]
      rfl
  · rintro ρ s ⟨rfl, x, hx, rfl⟩
    rw [List.length_map, List.length_range]
    exact hq x hx
theorem fr_to_lt {G : Fr} (hG : G.Sh) {e : Nat} (he : e < 2 * G.roads.length) : G.fr e < G.n ∧ G.to e < G.n := by
  have hk := half_lt he
  have hp : G.roads.getD (e / 2) (0, 0) ∈ G.roads := by
    rw [List.getD_eq_getElem?_getD, List.getElem?_eq_getElem hk]
    exact List.getElem_mem hk
  obtain ⟨h1, h2⟩ := hG.rd _ hp
  unfold Fr.fr Fr.to
  split <;> exact ⟨by assumption, by assumption⟩
theorem costsT_ev {G : Fr} (hG : G.Ok) (a : Addr) : ∃ d ρ3 s3 T3, m_law_costsT a ((costsEnv G).set 3 (some (Sl.sh (.obj a)))) ((), tb0 G.n) = some (.rt d, ρ3, (s3, T3)) ∧ detab a T3 d = fwD G := by
  have hs := hG.sh
  have key : wS (m_law_costsT a) ((costsEnv G).set 3 (some (Sl.sh (.obj a)))) ((), tb0 G.n) fun c _ s => ∃ d, c = .rt d ∧ detab a s.2 d = fwD G := by
    unfold m_law_costsT
    refine w_seq (fun ρ s => ρ = tEnv a (some (.sh G.d)) (some (.sh (.int G.n))) none none none ∧ s = ((), tb1 G)) (fun Q' hn _ _ _ => ?_) ?_
    · refine w_sFor ?_
      have e1 : dIx G.d (.int 1) = some (.tup (G.roads.map dRoad)) := o_ix1 _
      have e2 : dMul (.int 2) (.int (G.roads.length : Int)) = some (.int ((2 * G.roads.length : Nat) : Int)) := by
        show (if (-(2 ^ 64) < (2 : Int) ∧ (2 : Int) < 2 ^ 64) ∨ (-(2 ^ 64) < (G.roads.length : Int) ∧ (G.roads.length : Int) < 2 ^ 64) then some (D.int (2 * (G.roads.length : Int))) else none) = _
        rw [if_pos (.inl (by decide))]
        congr 2
      have hr : (-16777216 : Int) ≤ ((2 * G.roads.length : Nat) : Int) ∧ ((2 * G.roads.length : Nat) : Int) ≤ 16777216 := by have := hG.m; omega
      simp only [w_iR1, w_e2, w_e1, v_eV, w_eC, List.replicate, List.set, List.getElem?_cons_zero, List.getElem?_cons_succ, slotE_sh, e1, wD_some, dLen, List.length_map, e2, isI_int, hr, and_self, if_true, Int.toNat_natCast, rangeL_nats]
      refine ⟨fun k ρ s => s = ((), (List.range k).foldl (tbE G) (tb0 G.n)) ∧ ρ = tEnv a (some (.sh G.d)) (some (.sh (.int G.n))) none none none, ⟨rfl, rfl⟩, ?_, ?_⟩
      · rintro e d ρ s hd ⟨rfl, rfl⟩
        obtain ⟨rfl, he⟩ := take_succ_range hd
        refine ⟨_, rfl, ?_⟩
        obtain ⟨h1, h2⟩ := fr_to_lt hs he
        have hW : Shp G.n ((List.range e).foldl (tbE G) (tb0 G.n)) := by
          have : ∀ (l : List Nat), (∀ y ∈ l, y < 2 * G.roads.length) → ∀ T, Shp G.n T → Shp G.n (l.foldl (tbE G) T) := fun l => by
            induction l with
            | nil => exact fun _ T h => h
            | cons y l ih =>
              intro hl T h
              exact ih (fun z hz => hl z (List.mem_cons_of_mem _ hz)) _ (h.st (fr_to_lt hs (hl y (List.mem_cons_self ..))).1)
          exact this _ (fun y hy => by have := List.mem_range.mp hy; omega) _ (tb0_shp G.n)
        dsimp only
        rw [foldl_range]
        generalize (List.range e).foldl (tbE G) (tb0 G.n) = W at hW
        refine w_seq (fun ρ s => s = ((), W) ∧ ρ = [some (.sh G.d), some (.sh (.int G.n)), none, some (.sh (.obj a)), some (.sh (.int e)), some (.sh (.int (G.fr e))), some (.sh (.int (G.to e))), none, none, none]) (fun Q' hn _ _ _ => ?_) ?_
        · simp only [w_sPar, w_qSh, w_qNil, w_eCallP, w_aCons, w_aNil, v_eV, List.set, List.getElem?_cons_zero, List.getElem?_cons_succ, slotE_sh, ev_law_end_from he, ev_law_end_to he, wD_some, List.length_cons, List.length_nil, if_true]
          exact hn _ _ ⟨rfl, rfl⟩
        rintro ρ s ⟨rfl, rfl⟩
        refine w_tabSet (n := G.n) (x := G.fr e) (y := G.to e) rfl (eV_at rfl) (eV_at rfl) hW h1 h2 ?_
        rw [w_e2, w_tabIx (n := G.n) (x := G.fr e) (y := G.to e) rfl (eV_at rfl) (eV_at rfl) hW h1 h2]
        simp only [w_eCallP, w_aCons, w_aNil, v_eV, List.getElem?_cons_zero, List.getElem?_cons_succ, slotE_sh, ev_law_cost hs he, wD_some, o_minI]
        exact ⟨_, rfl, by trivial, by trivial, rfl, rfl⟩
      · rintro ρ s ⟨rfl, rfl⟩
        refine hn _ _ ⟨rfl, ?_⟩
        first
          | rw [List.length_map, List.length_range]
          | rw [List.length_range]
        rfl
    · rintro ρ s ⟨rfl, rfl⟩
      have hT1 : Shp G.n (tb1 G) := by
        have : ∀ (l : List Nat), (∀ y ∈ l, y < 2 * G.roads.length) → ∀ T, Shp G.n T → Shp G.n (l.foldl (tbE G) T) := fun l => by
          induction l with
          | nil => exact fun _ T h => h
          | cons y l ih =>
            intro hl T h
            exact ih (fun z hz => hl z (List.mem_cons_of_mem _ hz)) _ (h.st (fr_to_lt hs (hl y (List.mem_cons_self ..))).1)
        exact this _ (fun y hy => List.mem_range.mp hy) _ (tb0_shp G.n)
      refine w_seq (fun ρ s => ∃ x, okS x ∧ ρ = tEnv a none (some (.sh (.int G.n))) none x none ∧ s = ((), fwT G)) (fun Q' hn _ _ _ => ?_) ?_
      · exact fw_loop hG.n2 hT1 fun x hx => hn _ _ ⟨x, hx, rfl, rfl⟩
      rintro ρ s ⟨x, hx, rfl, rfl⟩
      have hF : Shp G.n (fwT G) := (fw_le hT1 G.n (Nat.le_refl _)).1
      rw [w_sRet, w_eIf, w_tE, w_e2]
      refine w_lc (I := fun s => s = ((), fwT G)) (P := fun pre acc => ∃ qs : List Nat, pre = nats qs ∧ acc = nats (qs.filter fun i => decide (gt (fwT G) i i < 0))) ?_
      have hr : (-16777216 : Int) ≤ (G.n : Int) ∧ (G.n : Int) ≤ 16777216 := by have := hG.n2; omega
      simp only [w_iR1, v_eV, List.getElem?_cons_zero, List.getElem?_cons_succ, slotE_sh, isI_int, hr, and_self, if_true, wD_some, Int.toNat_natCast, rangeL_nats]
      refine ⟨by trivial, by trivial, by rcases hx with rfl | ⟨d, rfl⟩ <;> rfl, ⟨[], rfl, rfl⟩, fun pre d post acc s e hp hs' => ?_, fun acc s' hp hs' => ?_⟩
      · subst hs'
        obtain ⟨qs, rfl, rfl⟩ := hp
        have hd : d ∈ nats (List.range G.n) := by rw [e]; simp
        obtain ⟨y, hy, rfl⟩ := List.mem_map.mp hd
        have hyn := List.mem_range.mp hy
        refine ⟨_, rfl, ?_⟩
        rw [w_tE, w_e2]
        simp only [wipeE, List.set]
        rw [w_tabIx (n := G.n) (x := y) (y := y) rfl (eV_at rfl) (eV_at rfl) hF hyn hyn]
        simp only [w_eC, dLt, wD_some, isB_bl]
        by_cases hc : gt (fwT G) y y < 0
        · rw [if_pos (decide_eq_true hc)]
          simp only [v_eV, List.getElem?_cons_zero, List.getElem?_cons_succ, slotE_sh]
          refine ⟨⟨qs ++ [y], by simp [nats], ?_⟩, by trivial, rfl⟩
          rw [List.filter_append, List.filter_cons, if_pos (decide_eq_true hc)]
          simp [nats]
        · rw [if_neg (by rw [decide_eq_false hc]; exact Bool.false_ne_true)]
          refine ⟨⟨qs ++ [y], by simp [nats], ?_⟩, by trivial, rfl⟩
          rw [List.filter_append, List.filter_cons, if_neg (by rw [decide_eq_false hc]; exact Bool.false_ne_true)]
          simp [nats]
      · subst hs'
        obtain ⟨qs, e1, rfl⟩ := hp
        have := map_nats_inj e1
        subst this
        simp only [w_eLst, w_aNil, List.length_nil, Nat.zero_le, if_true, wD_some, o_eqNil (eqOk_nats _), isB_bl]
        unfold fwD
        cases hok : fwOk G with
        | true =>
          have : ((List.range G.n).filter fun i => decide (gt (fwT G) i i < 0)) = [] := by
            rw [List.filter_eq_nil_iff]
            intro i hi
            have := List.all_eq_true.mp hok i hi
            simp at this ⊢
            omega
          rw [this]
          simp only [nats, List.map_nil, List.isEmpty_nil, if_true, v_eV, List.getElem?_cons_zero, List.getElem?_cons_succ, slotE_sh]
          exact ⟨_, rfl, if_pos rfl⟩
        | false =>
          have hne : ((List.range G.n).filter fun i => decide (gt (fwT G) i i < 0)) ≠ [] := fun e0 => by
            rw [List.filter_eq_nil_iff] at e0
            have : fwOk G = true := List.all_eq_true.mpr fun i hi => by
              have := e0 i hi
              simp at this ⊢
              omega
            rw [hok] at this; cases this
          have hne2 : (nats ((List.range G.n).filter fun i => decide (gt (fwT G) i i < 0))).isEmpty = false := by
            cases hf : (List.range G.n).filter fun i => decide (gt (fwT G) i i < 0) with
            | nil => exact absurd hf hne
            | cons _ _ => rfl
          rw [hne2]
          simp only [Bool.false_eq_true, if_false, w_eC]
          exact ⟨_, rfl, rfl⟩
  unfold wS at key
  cases e : m_law_costsT a ((costsEnv G).set 3 (some (Sl.sh (.obj a)))) ((), tb0 G.n) with
  | none => rw [e] at key; exact key.elim
  | some u =>
    rw [e] at key
    obtain ⟨c, ρ, s⟩ := u
    obtain ⟨d, rfl, hd⟩ := key
    exact ⟨d, ρ, s.1, s.2, rfl, hd⟩
theorem costs_hf : ∀ ρ (s : Unit) o, costsF ρ s = some o → ∃ ρ2 s2 T, m_law_costsN ρ s = some (.lst (tbRows T), ρ2, s2) ∧ ∀ a, ∃ d ρ3 s3 T3, m_law_costsT a (ρ2.set 3 (some (Sl.sh (.obj a)))) (s2, T) = some (.rt d, ρ3, (s3, T3)) ∧ ∃ ρ4, o = (.rt (detab a T3 d), ρ4, s3) := by
  intro ρ s o h
  obtain ⟨G, hG, rfl, rfl⟩ := costsF_some h
  refine ⟨_, _, tb0 G.n, costsN_ev hG, fun a => ?_⟩
  obtain ⟨d, ρ3, s3, T3, h1, h2⟩ := costsT_ev hG a
  exact ⟨d, ρ3, s3, T3, h1, costsEnv G, by rw [h2]⟩
end Fw
/-! ## Ok_law_costs -/
set_option Elab.async false
set_option linter.all false
set_option maxRecDepth 100000
set_option maxHeartbeats 4000000
namespace Fw
open PySem PySem.Spec PyProof.Rows L2
section
variable {P : Program} {w : World} {K : PySem.W.Frag} {mg : Str → Option Value} {base : Heap}
/-! ### _law_costs -/
abbrev s__law_costs : Stmt := topS 36
theorem sc__law_costs : FnScope ["frame", "n", "far", "table", "end", "a", "b", "z", "x", "y"] ["frame"] (defScope s__law_costs) := ⟨rfl, rfl, rfl, by decide +kernel, rfl, by decide +kernel, by decide +kernel⟩
theorem okt__law_costs {fF : C Unit} (hf : ∀ ρ (s : Unit) o, fF ρ s = some o → ∃ ρ2 s2 T, m_law_costsN ρ s = some (.lst (tbRows T), ρ2, s2) ∧ ∀ a, ∃ d ρ3 s3 T3, m_law_costsT a (ρ2.set 3 (some (Sl.sh (.obj a)))) (s2, T) = some (.rt d, ρ3, (s3, T3)) ∧ ∃ ρ4, o = (.rt (detab a T3 d), ρ4, s3)) {f : Addr} {fd : FuncData} (F : Fun K "_law_costs" "_law_costs" s__law_costs f fd) (c__law_cost : Callee P w K mg base 1 "_law_cost" ["frame", "end"] (spP K m_law_cost)) (c__law_end_from : Callee P w K mg base 1 "_law_end_from" ["frame", "end"] (spP K m_law_end_from)) (c__law_end_to : Callee P w K mg base 1 "_law_end_to" ["frame", "end"] (spP K m_law_end_to)) (b_len : mg "len" = none) (b_min : mg "min" = none) (b_range : mg "range" = none) : FnG P w K mg base CX0 2 f fd ["frame"] (spP K (runP 1 10 (m_law_costsB fF))) := by
  obtain ⟨f__law_cost, fd__law_cost, mg__law_cost, kp__law_cost, b__law_cost, g__law_cost⟩ := c__law_cost
  obtain ⟨f__law_end_from, fd__law_end_from, mg__law_end_from, kp__law_end_from, b__law_end_from, g__law_end_from⟩ := c__law_end_from
  obtain ⟨f__law_end_to, fd__law_end_to, mg__law_end_to, kp__law_end_to, b__law_end_to, g__law_end_to⟩ := c__law_end_to
  have sc := sc__law_costs
  refine fn_p F sc (by decide) (fun cdv A outer s H E hr => ?_)
  refine ⟨_, (pss_cons (ps_asg (g := L2.gTup K 2 (gNames [1, 2])) (pe_tup (pa_cons (pe_ix (ixk (K := K) rIx rfl ix_seq) (pv 0) pe_int (fun _ _ => rfl)) (pa_cons (pe_op op_pow pe_int pe_int) pa_nil))) (pg_tup rfl (pgs_cons (pg_name (i := 1) sc.nd rfl (by first | exact Or.inl rfl | exact Or.inr rfl)) (pgs_cons (pg_name (i := 2) sc.nd rfl (by first | exact Or.inl rfl | exact Or.inr rfl)) pgs_nil))))
      (pss_cons (ps_set (i := 3) sc.nd rfl (by first | exact Or.inl rfl | exact Or.inr rfl) (pe_lc (own := [("x", 8)]) (g := (gName 8)) rfl sc.nd (pi_range1 rfl b_range (pa_cons (pv 1) pa_nil)) (blkOk_by (N := ["frame", "n", "far", "table", "end", "a", "b", "z", "x", "y"]) (sc := defScope s__law_costs) (by decide +kernel)) (fun _ _ _ _ _ => (pg_name (i := 8) sc.nd rfl (by first | exact Or.inl rfl | exact Or.inr rfl))) (fun _ _ _ _ _ => pts_nil) (fun _ _ _ _ _ => (pe_lc (own := [("y", 9)]) (g := (gName 9)) rfl sc.nd (pi_range1 rfl b_range (pa_cons (pv 1) pa_nil)) (blkOk_by (by first | rfl | kernel_rfl)) (fun _ _ _ _ _ => (pg_name (i := 9) sc.nd rfl (by first | exact Or.inl rfl | exact Or.inr rfl))) (fun _ _ _ _ _ => pts_nil) (fun _ _ _ _ _ => (pe_ifExp (pt_cmpR (opk (K := K) rEqD rfl (op_eqD hr.units)) (pv 8) (pv 9) (nomark _)) pe_int (pv 2)))))))
      (pss_cons (ps_for PassesOwn.never rfl (pi_range1 rfl b_range (pa_cons (pe_op (opk (K := K) rMulA rfl op_mulA) pe_int (pe_callB (callk (K := K) rLenA rfl call_len_seq) (by rfl) b_len PySem.boot_len (pa_cons (pe_ix (ixk (K := K) rIx rfl ix_seq) (pv 0) pe_int (fun _ _ => rfl)) pa_nil))) pa_nil)) (pg_name (i := 4) sc.nd rfl (by first | exact Or.inl rfl | exact Or.inr rfl))
      (pss_cons (ps_par (i := 5) (j := 6) rfl sc.nd rfl rfl (by decide) rfl rfl (pa_cons (pe_callG g__law_end_from (hr.mono (by decide)) (by rfl) mg__law_end_from kp__law_end_from b__law_end_from .nil pass0 (pa_cons (pv 0) (pa_cons (pv 4) pa_nil))) (pa_cons (pe_callG g__law_end_to (hr.mono (by decide)) (by rfl) mg__law_end_to kp__law_end_to b__law_end_to .nil pass0 (pa_cons (pv 0) (pa_cons (pv 4) pa_nil))) pa_nil)) (by first | rfl | (with_unfolding_all rfl) | (decide +kernel)))
      (pss_one (ps_asg (pe_callB (call_min2 rfl) (by rfl) b_min (by decide +kernel) (pa_cons (pe_ix (ixk (K := K) rIx rfl ix_seq) (pe_ix (ixk (K := K) rIx rfl ix_seq) (pv 3) (pv 5) (fun _ _ => rfl)) (pv 6) (fun _ _ => rfl)) (pa_cons (pe_callG g__law_cost (hr.mono (by decide)) (by rfl) mg__law_cost kp__law_cost b__law_cost .nil pass0 (pa_cons (pv 0) (pa_cons (pv 4) pa_nil))) pa_nil))) (pg_sub (pe_ix (ixk (K := K) rIx rfl ix_seq) (pv 3) (pv 5) (fun _ _ => rfl)) (pv 6) set_list)))))
      (pss_cons (ps_for PassesOwn.never rfl (pi_range1 rfl b_range (pa_cons (pv 1) pa_nil)) (pg_name (i := 7) sc.nd rfl (by first | exact Or.inl rfl | exact Or.inr rfl))
      (pss_one (ps_for PassesOwn.never rfl (pi_range1 rfl b_range (pa_cons (pv 1) pa_nil)) (pg_name (i := 8) sc.nd rfl (by first | exact Or.inl rfl | exact Or.inr rfl))
      (pss_one (ps_for PassesOwn.never rfl (pi_range1 rfl b_range (pa_cons (pv 1) pa_nil)) (pg_name (i := 9) sc.nd rfl (by first | exact Or.inl rfl | exact Or.inr rfl))
      (pss_one (ps_asg (pe_callB (call_min2 rfl) (by rfl) b_min (by decide +kernel) (pa_cons (pe_ix (ixk (K := K) rIx rfl ix_seq) (pe_ix (ixk (K := K) rIx rfl ix_seq) (pv 3) (pv 8) (fun _ _ => rfl)) (pv 9) (fun _ _ => rfl)) (pa_cons (pe_op (opk (K := K) rAddA rfl op_addA) (pe_ix (ixk (K := K) rIx rfl ix_seq) (pe_ix (ixk (K := K) rIx rfl ix_seq) (pv 3) (pv 8) (fun _ _ => rfl)) (pv 7) (fun _ _ => rfl)) (pe_ix (ixk (K := K) rIx rfl ix_seq) (pe_ix (ixk (K := K) rIx rfl ix_seq) (pv 3) (pv 7) (fun _ _ => rfl)) (pv 9) (fun _ _ => rfl))) pa_nil))) (pg_sub (pe_ix (ixk (K := K) rIx rfl ix_seq) (pv 3) (pv 8) (fun _ _ => rfl)) (pv 9) set_list))))))))
      (pss_one (ps_ret (pe_ifExp (pt_cmpR (opk (K := K) rEqD rfl (op_eqD hr.units)) (pe_lc (own := [("x", 8)]) (g := (gName 8)) rfl sc.nd (pi_range1 rfl b_range (pa_cons (pv 1) pa_nil)) (blkOk_by (N := ["frame", "n", "far", "table", "end", "a", "b", "z", "x", "y"]) (sc := defScope s__law_costs) (by decide +kernel)) (fun _ _ _ _ _ => (pg_name (i := 8) sc.nd rfl (by first | exact Or.inl rfl | exact Or.inr rfl))) (fun _ _ _ _ _ => (pts_one (pt_cmpR op_lt (pe_ix (ixk (K := K) rIx rfl ix_seq) (pe_ix (ixk (K := K) rIx rfl ix_seq) (pv 3) (pv 8) (fun _ _ => rfl)) (pv 8) (fun _ _ => rfl)) pe_int (nomark _)))) (fun _ _ _ _ _ => (pv 8))) (pe_lst pa_nil) (nomark _)) (pv 3) pe_non))))))), ?_⟩
  exact (ss_seq (ss_unp (is := [1, 2]) (sp_e (se_2 r2_ix se_v se_int) (sp_e (se_2 (r2_flat f2_pow) se_int se_int) sp_nil)) rfl (by decide) (by decide))
      (ss_tab (stb_lc (own := [8]) (si_r1 se_v) sg_n st_yes (sn_lc (own := [9]) (si_r1 se_v) sg_n st_yes (se_if (st_e (se_2 (r2_flat f2_eq) se_v se_v)) se_int se_v) (by decide)) (by decide)) (fun tA tR =>
      (ss_seq (ss_for (dead := [2, 4, 5, 6, 7, 9]) (si_r1 (se_2 r2_mul se_int (se_cb1 (b1 f1_len) (se_2 r2_ix se_v se_int)))) sg_n
      (ss_seq (ss_par2 (sp_e (se_callP (sa_cons se_v (sa_cons se_v sa_nil))) (sp_e (se_callP (sa_cons se_v (sa_cons se_v sa_nil))) sp_nil)) (by decide))
      (ss_tabSet (se_cb2 b_min2 (se_tabIx se_v se_v) (se_callP (sa_cons se_v (sa_cons se_v sa_nil)))) se_v se_v)))
      (ss_seq (ss_for (dead := [0, 2, 4, 5, 6, 7, 9]) (si_r1 se_v) sg_n
      (ss_for (dead := [0, 2, 4, 5, 6, 9]) (si_r1 se_v) sg_n
      (ss_for (dead := [0, 2, 4, 5, 6, 9]) (si_r1 se_v) sg_n
      (ss_tabSet (se_cb2 b_min2 (se_tabIx se_v se_v) (se_2 r2_add (se_tabIx se_v se_v) (se_tabIx se_v se_v))) se_v se_v))))
      (ss_ret (se_if (st_e (se_2 (r2_flat f2_eq) (SemN.e (sn_lc (own := [8]) (si_r1 se_v) sg_n (st_e (se_2 (r2_flat f2_lt) (se_tabIx se_v se_v) se_int)) se_v (by decide))) (SemN.e (sn_lst sa_nil)))) se_v se_non))))) hf))
end
end Fw
/-! ## K1g -/
set_option linter.all false
set_option maxRecDepth 100000
set_option maxHeartbeats 1000000
namespace Fw
open PySem PySem.Spec PyProof.Rows L2
theorem costs_run {ds : List D} {d : D} (h : m_law_costs ds = some d) : runP 1 10 (m_law_costsB costsF) ds = some d := by
  obtain ⟨G, hG, rfl, rfl⟩ := m_law_costs_some h
  refine wD_eq (run_P rfl ?_)
  unfold m_law_costsB
  refine w_seq (fun ρ _ => ρ = costsEnv G) (fun Q' hn _ _ _ => ?_) ?_
  · have e0 : dIx G.d (.int 0) = some (.int G.n) := o_ix0 _
    have e1 : dPow (.int 10) (.int 9) = some (.int 1000000000) := rfl
    simp only [w_sPar, w_qSh, w_qNil, w_e2, v_eV, w_eC, List.map, List.cons_append, List.nil_append, List.getElem?_cons_zero, slotE_sh, e0, e1, wD_some, List.length_cons, List.length_nil, if_true]
    exact hn _ _ rfl
  · rintro ρ s rfl
    have h1 : ∃ G' : Fr, G'.Ok ∧ costsEnv G = costsEnv G' := ⟨G, hG, rfl⟩
    unfold wS costsF
    rw [dif_pos h1]
    have h2 : costsEnv G = costsEnv (Classical.choose h1) := (Classical.choose_spec h1).2
    have h3 : G = Classical.choose h1 := Fr.d_inj (by
      have := (List.cons.inj h2).1
      simpa using this)
    show fwD _ = fwD G
    rw [← h3]
section
variable {P : Program} {w : World} {K : PySem.W.Frag} {mg : Str → Option Value} {base : Heap}
theorem spP_mono {m m' : List D → Option D} (h : ∀ ds d, m ds = some d → m' ds = some d) {vs : List V} {H : Hp} {Q : VK} {E : XK} (k : spP K m vs H Q E) : spP K m' vs H Q E := by
  obtain ⟨B, F0, F, s, ds, d, s', R, r, e, q⟩ := k
  refine ⟨B, F0, F, s, ds, d, s', R, r, ?_, q⟩
  obtain ⟨x, h1, h2⟩ := Option.map_eq_some_iff.mp e
  cases h2
  show Option.map _ (m' ds) = _
  rw [h ds _ h1]
  rfl
end
end Fw
/-! ## K1h -/
set_option linter.all false
set_option maxRecDepth 100000
set_option maxHeartbeats 1000000
/-! What the law draws. -/
namespace Fw
open PySem
theorem refill_addr (s : Src) (m : Int) : (s.draw m).2.addr = s.addr := by
  unfold Src.draw Src.draw0 Src.pre Src.fill
  split <;> split <;> rfl
theorem pick_ev {a : Addr} {m : Int} {s : Src} {Q : D × Src → Prop} (hs : s.addr = a) (hm : m.natAbs < 2 ^ 62) (q : ∀ v s', s'.addr = a → 0 ≤ v → v < max 1 m → Q (.int v, s')) : wD (dPick [.obj a, .int m] s) Q := by
  show wD (if a = s.addr ∧ m.natAbs < 2 ^ 62 then some (D.int (s.draw m).1, (s.draw m).2) else none) Q
  rw [if_pos ⟨hs.symm, hm⟩]
  obtain ⟨h1, h2⟩ := s.draw_lt m
  exact q _ _ ((refill_addr s m).trans hs) h1 h2
theorem pick_n {a : Addr} {m : Nat} {s : Src} {Q : D × Src → Prop} (hs : s.addr = a) (h1 : 1 ≤ m) (hm : m ≤ 1000000000) (q : ∀ (k : Nat) s', s'.addr = a → k < m → Q (.int k, s')) : wD (dPick [.obj a, .int m] s) Q := by
  refine pick_ev hs (by omega) fun v s' hs' h0 hv => ?_
  have : v = ((v.toNat : Nat) : Int) := by omega
  rw [this]
  exact q _ _ hs' (by omega)
theorem of_ev {a : Addr} {ds : List D} {s : Src} {Q : D × Src → Prop} (hs : s.addr = a) (h1 : ds ≠ []) (hm : ds.length ≤ 1000000) (q : ∀ d s', s'.addr = a → d ∈ ds → Q (d, s')) : wD (m_law_of [.obj a, .lst ds] s) Q := by
  have key : wD (m_law_of [.obj a, .lst ds] s) fun p => Q (p.1, p.2) := by
    refine run_C (Q := fun d s' => Q (d, s')) rfl ?_
    unfold m_law_ofB
    simp only [w_sRet, w_e2, w_e1, w_eCall, w_aCons, w_aNil, v_eV, List.map, List.cons_append, List.nil_append, List.getElem?_cons_zero, List.getElem?_cons_succ, slotE_sh, dLen, wD_some]
    have hp : 0 < ds.length := List.length_pos_iff.mpr h1
    refine pick_n hs hp (by omega) fun k s' hs' hk => ?_
    simp only
    rw [o_ixL, List.getElem?_eq_getElem hk]
    exact q _ _ hs' (List.getElem_mem hk)
  exact key
theorem mem_eraseIdx {α : Type} {l : List α} {j : Nat} {x : α} (h : x ∈ l.eraseIdx j) : x ∈ l := List.mem_of_mem_eraseIdx h
theorem mixed_ev {a : Addr} {v : D} {ds : List D} {s : Src} {Q : D × Src → Prop} (hs : s.addr = a) (hv : v = .lst ds ∨ v = .tup ds) (hm : ds.length ≤ 1000000) (q : ∀ es s', s'.addr = a → es.length = ds.length → (∀ e ∈ es, e ∈ ds) → Q (.lst es, s')) : wD (m_law_mixed [.obj a, v] s) Q := by
  have key : wD (m_law_mixed [.obj a, v] s) fun p => Q (p.1, p.2) := by
    refine run_C (Q := fun d s' => Q (d, s')) rfl ?_
    unfold m_law_mixedB
    have hl : dList v = some (.lst ds) := by rcases hv with rfl | rfl <;> rfl
    refine w_seq (fun ρ s => s.addr = a ∧ ρ = [some (.sh (.obj a)), some (.sh v), some (.ow (.lst ds)), none]) (fun Q' hn _ _ _ => ?_) ?_
    · simp only [w_sNew, w_e1, v_eV, List.map, List.cons_append, List.nil_append, List.getElem?_cons_zero, List.getElem?_cons_succ, slotE_sh, hl, wD_some]
      exact hn _ _ ⟨hs, rfl⟩
    rintro ρ s ⟨hs, rfl⟩
    rw [w_sRet]
    refine w_lcJ (P := fun pre acc ρ s => s.addr = a ∧ acc.length = pre.length ∧ (∀ e ∈ acc, e ∈ ds) ∧ ∃ rest : List D, rest.length + pre.length = ds.length ∧ (∀ e ∈ rest, e ∈ ds) ∧ ρ = [some (.sh (.obj a)), some (.sh v), some (.ow (.lst rest)), none]) ?_
    have hr : (-16777216 : Int) ≤ (ds.length : Int) ∧ (ds.length : Int) ≤ 16777216 := by omega
    simp only [w_iR1, v_eB1, List.getElem?_cons_zero, List.getElem?_cons_succ, slotX_ow, dLen, wD_some, isI_int, hr, and_self, if_true, Int.toNat_natCast, rangeL_nats]
    refine ⟨by trivial, ⟨hs, by trivial, fun e h => by simp at h, ds, by simp, fun e h => h, rfl⟩, fun pre d post acc ρ s e hp => ?_, fun acc ρ s hp => ?_⟩
    · obtain ⟨hs, ha, hm2, rest, hrl, hrm, rfl⟩ := hp
      refine ⟨_, rfl, ?_⟩
      rw [w_tYes, if_pos rfl]
      have hlen : pre.length < ds.length := by
        have := congrArg List.length e
        rw [List.length_map, List.length_range, List.length_append, List.length_cons] at this
        omega
      have hrp : 1 ≤ rest.length := by omega
      refine w_popAt (ds := rest) rfl ?_
      simp only [wipeE, w_eCall, w_aCons, w_aNil, v_eB1, v_eV, List.set, List.getElem?_cons_zero, List.getElem?_cons_succ, slotE_sh, slotX_ow, dLen, wD_some]
      refine pick_n hs hrp (by omega) fun k s' hs' hk => ?_
      refine ⟨by trivial, k, k, rest[k], rfl, ixD_nat hk, List.getElem?_eq_getElem hk, hs', by simp [ha], fun e he => ?_, rest.eraseIdx k, ?_, fun e he => hrm e (mem_eraseIdx he), rfl⟩
      · rcases List.mem_append.mp he with he | he
        · exact hm2 e he
        · rw [List.mem_singleton.mp he]; exact hrm _ (List.getElem_mem hk)
      · rw [List.length_eraseIdx, if_pos hk, List.length_append]
        simp
        omega
    · obtain ⟨hs, ha, hm2, rest, hrl, hrm, rfl⟩ := hp
      exact q _ _ hs (by rw [ha, List.length_map, List.length_range]) hm2
  exact key
end Fw
/-! ## K1i -/
set_option linter.all false
set_option maxRecDepth 100000
set_option maxHeartbeats 1000000
/-! The law's drawn frame. -/
namespace Fw
open PySem
abbrev fe (a : Addr) (m1 : Option Sl) (F : Int) (n : Nat) (W : Int) (names pairs at_ low high : Option Sl) : Env :=
  [some (.sh (.obj a)), m1, some (.sh (.int F)), some (.sh (.int n)), some (.sh (.int W)), names, pairs, none, none, at_, low, high, none, none, none, none, none, none]
def RdsOk (n m : Nat) (ds : List D) : Prop := ∃ R : Rds, ds = R.map dRoad ∧ (∀ p ∈ R, p.1 < n ∧ p.2 < n) ∧ R.length ≤ m
theorem RdsOk.snoc {n m : Nat} {ds : List D} (h : RdsOk n m ds) {x y : Nat} (hx : x < n) (hy : y < n) : RdsOk n (m + 1) (ds ++ [.tup [.int x, .int y]]) := by
  obtain ⟨R, rfl, h1, h2⟩ := h
  refine ⟨R ++ [(x, y)], by simp [dRoad], fun p hp => ?_, by simp; omega⟩
  rcases List.mem_append.mp hp with hp | hp
  · exact h1 p hp
  · rw [List.mem_singleton.mp hp]; exact ⟨hx, hy⟩
theorem RdsOk.mem {n m : Nat} {ds : List D} (h : RdsOk n m ds) {d : D} (hd : d ∈ ds) : ∃ x y : Nat, d = .tup [.int x, .int y] ∧ x < n ∧ y < n := by
  obtain ⟨R, rfl, h1, h2⟩ := h
  obtain ⟨p, hp, rfl⟩ := List.mem_map.mp hd
  exact ⟨p.1, p.2, rfl, (h1 p hp).1, (h1 p hp).2⟩
theorem RdsOk.nil (n : Nat) : RdsOk n 0 [] := ⟨[], rfl, fun p h => by simp at h, Nat.le_refl _⟩
theorem RdsOk.len {n m : Nat} {ds : List D} (h : RdsOk n m ds) : ds.length ≤ m := by
  obtain ⟨R, rfl, h1, h2⟩ := h
  rw [List.length_map]; exact h2
theorem rangeL1 (n : Nat) : rangeL 1 n = (List.range n).map fun (k : Nat) => D.int ((k + 1 : Nat) : Int) := by
  unfold rangeL
  refine List.map_congr_left fun k _ => ?_
  congr 1
  omega
theorem o_mulS {i : Int} (h : -1000000 ≤ i ∧ i ≤ 1000000) : dMul (.int 2) (.int i) = some (.int (2 * i)) := by
  show (if (-(2 ^ 64) < (2 : Int) ∧ (2 : Int) < 2 ^ 64) ∨ (-(2 ^ 64) < i ∧ i < 2 ^ 64) then some (D.int (2 * i)) else none) = _
  rw [if_pos (.inl (by decide))]
theorem frame_ev {a : Addr} {most : Nat} {F : Int} {s : Src} {Q : D × Src → Prop} (hs : s.addr = a) (hm : 1 ≤ most ∧ most ≤ 8) (hF : 0 ≤ F ∧ F ≤ 1000)
    (q : ∀ (G : Fr) s', s'.addr = a → G.Ok → G.n ≤ most → Q (G.d, s')) : wD (m_law_frame [.obj a, .int most, .int F] s) Q := by
  have key : wD (m_law_frame [.obj a, .int most, .int F] s) fun p => Q (p.1, p.2) := by
    refine run_C (Q := fun d s' => Q (d, s')) rfl ?_
    unfold m_law_frameB
    refine w_seq (fun ρ s => s.addr = a ∧ ∃ (n : Nat) (W : Int), 1 ≤ n ∧ n ≤ most ∧ ρ = fe a (some (.sh (.int most))) F n W none none none none none) (fun Q' hn _ _ _ => ?_) ?_
    · simp only [w_sPar, w_qSh, w_qNil, w_e2, w_eC, w_eCall, w_aCons, w_aNil, v_eV, List.map, List.cons_append, List.nil_append, List.getElem?_cons_zero, List.getElem?_cons_succ, slotE_sh]
      refine pick_n hs hm.1 (by omega) fun k s1 hs1 hk => ?_
      simp only [dAdd, wD_some]
      refine pick_ev hs1 (by decide) fun W s2 hs2 _ _ => ?_
      simp only [List.length_cons, List.length_nil, if_true, wD_some]
      refine hn _ _ ⟨hs2, k + 1, W, by omega, by omega, ?_⟩
      rw [show (1 : Int) + (k : Int) = ((k + 1 : Nat) : Int) by omega]
      rfl
    rintro ρ s ⟨hs, n, W, n1, n2, rfl⟩
    refine w_seq (fun ρ s => s.addr = a ∧ ∃ ns : List Nat, ns.length = n ∧ (∀ x ∈ ns, x < n) ∧ ρ = fe a (some (.sh (.int most))) F n W (some (.sh (.lst (nats ns)))) (some (.ow (.lst []))) none none none) (fun Q' hn _ _ _ => ?_) ?_
    · have hr : (-16777216 : Int) ≤ (n : Int) ∧ (n : Int) ≤ 16777216 := by omega
      simp only [w_sPar, w_qSh, w_qNew, w_qNil, w_eLst, w_eC, w_eCall, w_eListR1, w_aCons, w_aNil, v_eV, List.getElem?_cons_zero, List.getElem?_cons_succ, slotE_sh, isI_int, hr, and_self, if_true, wD_some, Int.toNat_natCast, rangeL_nats]
      refine mixed_ev hs (.inl rfl) (by simp; omega) fun es s1 hs1 hl he => ?_
      simp only [List.length_cons, List.length_nil, Nat.zero_le, if_true, wD_some]
      have : ∃ ns : List Nat, es = nats ns ∧ ∀ x ∈ ns, x < n := by
        clear hl
        induction es with
        | nil => exact ⟨[], rfl, fun x h => by simp at h⟩
        | cons e es ih =>
          obtain ⟨ns, rfl, h1⟩ := ih fun e' h' => he e' (List.mem_cons_of_mem _ h')
          obtain ⟨x, hx, rfl⟩ := List.mem_map.mp (he e (List.mem_cons_self ..))
          refine ⟨x :: ns, rfl, fun y hy => ?_⟩
          rcases List.mem_cons.mp hy with rfl | hy
          · exact List.mem_range.mp hx
          · exact h1 y hy
      obtain ⟨ns, rfl, h1⟩ := this
      exact hn _ _ ⟨hs1, ns, by simpa using hl, h1, rfl⟩
    rintro ρ s ⟨hs, ns, nl, nm, rfl⟩
    refine w_seq (fun ρ s => s.addr = a ∧ ∃ ds, RdsOk n (n - 1) ds ∧ ρ = fe a none F n W (some (.sh (.lst (nats ns)))) (some (.ow (.lst ds))) none none none) (fun Q' hn _ _ _ => ?_) ?_
    · refine w_sFor ?_
      have hr : (-16777216 : Int) ≤ 1 ∧ (1 : Int) ≤ 16777216 ∧ -16777216 ≤ (n : Int) ∧ (n : Int) ≤ 16777216 ∧ (n : Int) - 1 ≤ 16777216 := by omega
      have e1 : ((n : Int) - 1).toNat = n - 1 := by omega
      simp only [w_iR2, w_eC, v_eV, List.getElem?_cons_zero, List.getElem?_cons_succ, slotE_sh, isI_int]
      rw [if_pos hr]
      simp only [wD_some, e1, rangeL1]
      refine ⟨fun k ρ s => s.addr = a ∧ ∃ ds, RdsOk n k ds ∧ ρ = fe a none F n W (some (.sh (.lst (nats ns)))) (some (.ow (.lst ds))) none none none, ⟨hs, [], ⟨[], rfl, fun p h => by simp at h, Nat.zero_le _⟩, rfl⟩, ?_, ?_⟩
      · rintro k d ρ s hd ⟨hs, ds, hds, rfl⟩
        rw [List.getElem?_map] at hd
        obtain ⟨x, hx, rfl⟩ := Option.map_eq_some_iff.mp hd
        obtain ⟨hx1, hx2⟩ := List.getElem?_eq_some_iff.mp hx
        simp at hx1 hx2
        subst hx2
        refine ⟨_, rfl, ?_⟩
        have hl : ds.length < LIM := by
          obtain ⟨R, rfl, _, h2⟩ := hds
          rw [List.length_map]
          show R.length < 16777216
          omega
        simp only [w_sDrop, v_eApp, List.set, List.getElem?_cons_zero, List.getElem?_cons_succ, ownL_ow, w_eTup, w_e2, w_eCall, w_aCons, w_aNil, v_eV, slotE_sh]
        refine pick_n hs (by omega) (by omega) fun j s1 hs1 hj => ?_
        have g1 := o_ixN ns (a := j) (by omega)
        have g2 := o_ixN ns (a := k + 1) (by omega)
        have m1 : ns.getD j 0 < n := nm _ (by
          rw [List.getD_eq_getElem?_getD, List.getElem?_eq_getElem (by omega)]
          exact List.getElem_mem _)
        have m2 : ns.getD (k + 1) 0 < n := nm _ (by
          rw [List.getD_eq_getElem?_getD, List.getElem?_eq_getElem (by omega)]
          exact List.getElem_mem _)
        dsimp only
        rw [g1]
        simp only [wD_some]
        rw [g2]
        simp only [wD_some, List.length_cons, List.length_nil]
        rw [if_pos (by decide)]
        simp only [wD_some]
        exact ⟨hl, hs1, _, hds.snoc m1 m2, rfl⟩
      · rintro ρ s ⟨hs, ds, hds, rfl⟩
        rw [List.length_map, List.length_range] at hds
        exact hn _ _ ⟨hs, ds, hds, rfl⟩
    rintro ρ s ⟨hs, ds, hds, rfl⟩
    refine w_seq (fun ρ s => s.addr = a ∧ ∃ ds, RdsOk n 24 ds ∧ ρ = fe a none F n W none (some (.ow (.lst ds))) none none none) (fun Q' hn _ _ _ => ?_) ?_
    · refine w_sFor ?_
      simp only [w_iR1, w_eCall, w_aCons, w_aNil, w_eIf, w_tE, w_e2, w_eC, v_eV, List.getElem?_cons_zero, List.getElem?_cons_succ, slotE_sh, dLt, wD_some, isB_bl]
      have body : ∀ (m : Nat) (s : Src), m ≤ 14 → s.addr = a → n - 1 + m ≤ 25 → wD (dPick [.obj a, .int m] s) fun p => isI p.1 fun j => wD (if -16777216 ≤ j ∧ j ≤ 16777216 then some (rangeL 0 j.toNat) else none) fun ds_1 => ∃ J : Nat → Env → Src → Prop, J 0 (wipeE [1, 5, 7, 8, 9, 10, 11, 12, 13, 14, 15, 17] (fe a none F n W (some (.sh (.lst (nats ns)))) (some (.ow (.lst ds))) none none none)) p.2 ∧
          (∀ (k : Nat) (d : D) (ρ : Env) (s : Src), ds_1[k]? = some d → J k ρ s → ∃ ρt, gN 8 d ρ = some ρt ∧ wS (sDrop (eApp 6 (eTup (aCons (eCall dPick (aCons (eV 0) (aCons (eV 3) aNil))) (aCons (eCall dPick (aCons (eV 0) (aCons (eV 3) aNil))) aNil))))) ρt s fun c ρ s => match c with
            | .nx => J (k + 1) (wipeE [1, 5, 7, 8, 9, 10, 11, 12, 13, 14, 15, 17] ρ) s | .ct => J (k + 1) (wipeE [1, 5, 7, 8, 9, 10, 11, 12, 13, 14, 15, 17] ρ) s | .bk => Q' .nx ρ s | .rt d => Q' (.rt d) ρ s) ∧
          ∀ ρ s, J ds_1.length ρ s → Q' .nx ρ s := fun m s hm14 hs hmn => by
        refine pick_ev hs (by omega) fun v s1 hs1 h0 hv => ?_
        have hr : (-16777216 : Int) ≤ v ∧ v ≤ 16777216 := by omega
        simp only [isI_int]
        rw [if_pos hr]
        simp only [wD_some, rangeL_nats]
        refine ⟨fun k ρ s => s.addr = a ∧ ∃ ds', RdsOk n (n - 1 + k) ds' ∧ ρ = fe a none F n W none (some (.ow (.lst ds'))) none none none, ⟨hs1, ds, hds, rfl⟩, ?_, ?_⟩
        · rintro k d ρ s hd ⟨hs, ds', hds', rfl⟩
          obtain ⟨rfl, hk⟩ := take_succ_range hd
          refine ⟨_, rfl, ?_⟩
          have hl : ds'.length < LIM := by
            obtain ⟨R, rfl, _, h2⟩ := hds'
            rw [List.length_map]
            show R.length < 16777216
            omega
          simp only [w_sDrop, v_eApp, List.set, List.getElem?_cons_zero, List.getElem?_cons_succ, ownL_ow, w_eTup, w_eCall, w_aCons, w_aNil, v_eV, slotE_sh]
          refine pick_n hs n1 (by omega) fun x s2 hs2 hx => ?_
          refine pick_n hs2 n1 (by omega) fun y s3 hs3 hy => ?_
          simp only [List.length_cons, List.length_nil]
          rw [if_pos (by decide)]
          simp only [wD_some]
          exact ⟨hl, hs3, _, hds'.snoc hx hy, rfl⟩
        · rintro ρ s ⟨hs, ds', hds', rfl⟩
          refine hn _ _ ⟨hs, ds', ?_, rfl⟩
          obtain ⟨R, h1, h2, h3⟩ := hds'
          rw [List.length_map, List.length_range] at h3
          exact ⟨R, h1, h2, by omega⟩
      by_cases h5 : (n : Int) < 5
      · rw [if_pos (decide_eq_true h5)]
        simp only [dSub, wD_some]
        have e1 : (15 : Int) - (n : Int) = ((15 - n : Nat) : Int) := by omega
        rw [e1]
        exact body (15 - n) s (by omega) hs (by omega)
      · rw [if_neg (by rw [decide_eq_false h5]; exact Bool.false_ne_true)]
        exact body 7 s (by omega) hs (by omega)
    rintro ρ s ⟨hs, ds, hds, rfl⟩
    refine w_seq (fun ρ s => s.addr = a ∧ ∃ ds, RdsOk n 24 ds ∧ ρ = fe a none F n W none (some (.ow (.lst ds))) none none none) (fun Q' hn _ _ _ => ?_) ?_
    · rw [w_sNew]
      refine w_lcJ (P := fun pre acc ρ s => s.addr = a ∧ RdsOk n pre.length acc ∧ ρ = fe a none F n W none (some (.sh (.lst ds))) none none none) ?_
      simp only [w_iE, w_eCall, w_aCons, w_aNil, v_eV, List.set, List.getElem?_cons_zero, List.getElem?_cons_succ, slotE_sh, slotE_ow]
      refine mixed_ev hs (.inl rfl) (by have := hds.len; omega) fun es s1 hs1 hl he => ?_
      simp only [items?, wD_some]
      refine ⟨by trivial, ⟨hs1, .nil n, by trivial⟩, fun pre d post acc ρ s e hp => ?_, fun acc ρ s hp => ?_⟩
      · obtain ⟨hs, hacc, rfl⟩ := hp
        obtain ⟨x, y, rfl, hx, hy⟩ := hds.mem (he d (by rw [e]; simp))
        refine ⟨_, rfl, ?_⟩
        rw [w_tYes, if_pos rfl]
        simp only [wipeE, w_eIf, w_tE, w_e2, w_e1, w_eCall, w_aCons, w_aNil, v_eV, w_eC, List.set, List.getElem?_cons_zero, List.getElem?_cons_succ, slotE_sh]
        refine pick_ev hs (by decide) fun v s2 hs2 _ _ => ?_
        simp only [o_eqI, wD_some, isB_bl]
        split
        · simp only [dRev, List.reverse_cons, List.reverse_nil, List.nil_append, List.cons_append, wD_some]
          refine ⟨hs2, ?_, rfl⟩
          rw [List.length_append]
          exact hacc.snoc hy hx
        · refine ⟨hs2, ?_, rfl⟩
          rw [List.length_append]
          exact hacc.snoc hx hy
      · obtain ⟨hs, hacc, rfl⟩ := hp
        refine hn _ _ ⟨hs, acc, ?_, rfl⟩
        obtain ⟨R, h1, h2, h3⟩ := hacc
        have := hds.len
        exact ⟨R, h1, h2, by omega⟩
    rintro ρ s ⟨hs, ds, hds, rfl⟩
    refine w_seq (fun ρ s => s.addr = a ∧ ∃ at_ : List Int, at_.length = n ∧ (∀ x ∈ at_, -1000 ≤ x ∧ x ≤ 1000) ∧ ρ = fe a none F n W none (some (.ow (.lst ds))) (some (.sh (.lst (at_.map D.int)))) (some (.ow (.lst []))) (some (.ow (.lst [])))) (fun Q' hn _ _ _ => ?_) ?_
    · rw [w_sPar, w_qSh]
      refine w_lcJ (P := fun pre acc ρ s => s.addr = a ∧ (∃ at_ : List Int, at_.length = pre.length ∧ (∀ x ∈ at_, -1000 ≤ x ∧ x ≤ 1000) ∧ acc = at_.map D.int) ∧ ρ = fe a none F n W none (some (.ow (.lst ds))) none none none) ?_
      have hr : (-16777216 : Int) ≤ (n : Int) ∧ (n : Int) ≤ 16777216 := by omega
      simp only [w_iR1, v_eV, List.getElem?_cons_zero, List.getElem?_cons_succ, slotE_sh, isI_int, hr, and_self, if_true, wD_some, Int.toNat_natCast, rangeL_nats]
      refine ⟨by trivial, ⟨hs, ⟨[], rfl, fun x h => by simp at h, rfl⟩, by trivial⟩, fun pre d post acc ρ s e hp => ?_, fun acc ρ s hp => ?_⟩
      · obtain ⟨hs, ⟨at_, l1, l2, rfl⟩, rfl⟩ := hp
        refine ⟨_, rfl, ?_⟩
        rw [w_tYes, if_pos rfl]
        simp only [wipeE, w_e2, w_eCall, w_aCons, w_aNil, v_eV, w_eC, List.set, List.getElem?_cons_zero, List.getElem?_cons_succ, slotE_sh, o_mulS (i := F) (by omega), dAdd, wD_some]
        refine pick_ev hs (by omega) fun v s2 hs2 v0 v1 => ?_
        simp only [dSub, wD_some]
        refine ⟨hs2, ⟨at_ ++ [v - F], by simp [l1], fun x hx => ?_, by simp⟩, rfl⟩
        rcases List.mem_append.mp hx with hx | hx
        · exact l2 x hx
        · rw [List.mem_singleton.mp hx]; omega
      · obtain ⟨hs, ⟨at_, l1, l2, rfl⟩, rfl⟩ := hp
        simp only [w_qNew, w_qNil, w_eLst, w_aNil, List.length_nil, Nat.zero_le, if_true, wD_some, List.length_cons]
        exact hn _ _ ⟨hs, at_, by rw [l1, List.length_map, List.length_range], l2, rfl⟩
    rintro ρ s ⟨hs, at_, al, am, rfl⟩
    have atm : ∀ x, x < n → -1000 ≤ at_.getD x 0 ∧ at_.getD x 0 ≤ 1000 := fun x hx => am _ (by
      rw [List.getD_eq_getElem?_getD, List.getElem?_eq_getElem (by omega)]
      exact List.getElem_mem _)
    have atx : ∀ x, x < n → dIx (.lst (at_.map D.int)) (.int (x : Int)) = some (.int (at_.getD x 0)) := fun x hx => by
      rw [o_ixL, List.getElem?_map, List.getElem?_eq_getElem (by omega), List.getD_eq_getElem?_getD, List.getElem?_eq_getElem (by omega)]
      rfl
    refine w_seq (fun ρ s => s.addr = a ∧ ∃ lo hi : List Int, lo.length = ds.length ∧ hi.length = ds.length ∧ (∀ x ∈ lo, -1000000 ≤ x ∧ x ≤ 1000000) ∧ (∀ x ∈ hi, -1000000 ≤ x ∧ x ≤ 1000000) ∧ ρ = fe a none F n W none (some (.sh (.lst ds))) (some (.sh (.lst (at_.map D.int)))) (some (.ow (.lst (lo.map D.int)))) (some (.ow (.lst (hi.map D.int))))) (fun Q' hn _ _ _ => ?_) ?_
    · refine w_sFor ?_
      simp only [w_iE, v_eV, List.set, List.getElem?_cons_zero, List.getElem?_cons_succ, slotE_ow, items?, wD_some]
      refine ⟨fun k ρ s => s.addr = a ∧ ∃ lo hi : List Int, lo.length = k ∧ hi.length = k ∧ (∀ x ∈ lo, -1000000 ≤ x ∧ x ≤ 1000000) ∧ (∀ x ∈ hi, -1000000 ≤ x ∧ x ≤ 1000000) ∧ ρ = fe a none F n W none (some (.sh (.lst ds))) (some (.sh (.lst (at_.map D.int)))) (some (.ow (.lst (lo.map D.int)))) (some (.ow (.lst (hi.map D.int)))), ⟨hs, [], [], rfl, rfl, fun x h => by simp at h, fun x h => by simp at h, rfl⟩, ?_, ?_⟩
      · rintro k d ρ s hd ⟨hs, lo, hi, l1, l2, m1, m2, rfl⟩
        obtain ⟨x, y, rfl, hx, hy⟩ := hds.mem (List.mem_of_getElem? hd)
        refine ⟨_, rfl, ?_⟩
        have hkl : k < 1000 := by
          have := (List.getElem?_eq_some_iff.mp hd).1
          have := hds.len
          omega
        have ax := atm x hx
        have ay := atm y hy
        let en (o1 o2 : Option Sl) : Env := [some (.sh (.obj a)), none, some (.sh (.int F)), some (.sh (.int n)), some (.sh (.int W)), none, some (.sh (.lst ds)), none, none, some (.sh (.lst (at_.map D.int))), some (.ow (.lst (lo.map D.int))), some (.ow (.lst (hi.map D.int))), some (.sh (.int x)), some (.sh (.int y)), o1, o2, none, none]
        -- the drawn addend
        have draw : ∀ (ρ : Env) (s : Src) (Q : D → Env → Src → Prop), ρ[0]? = some (some (.sh (.obj a))) → ρ[2]? = some (some (.sh (.int F))) → s.addr = a → (∀ (z : Int) s', s'.addr = a → 0 ≤ z → z ≤ 1002 → Q (.int z) ρ s') →
            wE (eCall m_law_of (aCons (eV 0) (aCons (eLst (aCons (eC (.int 0)) (aCons (eC (.int 0)) (aCons (eC (.int 1)) (aCons (eC (.int 2)) (aCons (eCall dPick (aCons (eV 0) (aCons (e2 dAdd (eV 2) (eC (.int 1))) aNil))) aNil)))))) aNil))) ρ s Q := fun ρ s Q r0 r2 hs hQ => by
          simp only [w_eCall, w_aCons, w_aNil, w_eLst, w_e2, v_eV, w_eC, r0, r2, slotE_sh, dAdd, wD_some]
          refine pick_ev hs (by omega) fun v s1 hs1 v0 v1 => ?_
          simp only [List.length_cons, List.length_nil]
          rw [if_pos (by decide)]
          simp only [wD_some]
          refine of_ev hs1 (by simp) (by simp) fun d s2 hs2 hd => ?_
          simp only [List.mem_cons, List.not_mem_nil, or_false] at hd
          rcases hd with rfl | rfl | rfl | rfl | rfl
          · exact hQ 0 s2 hs2 (by omega) (by omega)
          · exact hQ 0 s2 hs2 (by omega) (by omega)
          · exact hQ 1 s2 hs2 (by omega) (by omega)
          · exact hQ 2 s2 hs2 (by omega) (by omega)
          · exact hQ v s2 hs2 (by omega) (by omega)
        refine w_seq (fun ρ s => s.addr = a ∧ ∃ z : Int, -10000 ≤ z ∧ z ≤ 10000 ∧ ρ = en (some (.sh (.int z))) none) (fun Q' hn _ _ _ => ?_) ?_
        · rw [w_sAsg, w_e2, w_e2]
          simp only [w_e2, v_eV, List.set, List.getElem?_cons_zero, List.getElem?_cons_succ, slotE_sh, atx x hx, atx y hy, wD_some, dSub]
          refine draw _ _ _ rfl rfl hs fun z s1 hs1 z0 z1 => ?_
          simp only [wD_some]
          exact hn _ _ ⟨hs1, _, by omega, by omega, rfl⟩
        rintro ρ s ⟨hs, z, z0, z1, rfl⟩
        refine w_seq (fun ρ s => s.addr = a ∧ ∃ z' : Int, -10000 ≤ z' ∧ z' ≤ 10000 ∧ ρ = en (some (.sh (.int z))) (some (.sh (.int z')))) (fun Q' hn _ _ _ => ?_) ?_
        · rw [w_sAsg, w_e2]
          simp only [en, w_e2, v_eV, List.set, List.getElem?_cons_zero, List.getElem?_cons_succ, slotE_sh, atx x hx, atx y hy, wD_some, dSub]
          refine draw _ _ _ rfl rfl hs fun u s1 hs1 u0 u1 => ?_
          simp only [dAdd, wD_some]
          exact hn _ _ ⟨hs1, _, by omega, by omega, rfl⟩
        rintro ρ s ⟨hs, z', y0, y1, rfl⟩
        refine w_seq (fun ρ s => s.addr = a ∧ ∃ z z' : Int, -10000 ≤ z ∧ z ≤ 10000 ∧ -20000 ≤ z' ∧ z' ≤ 20000 ∧ ρ = en (some (.sh (.int z))) (some (.sh (.int z')))) (fun Q' hn _ _ _ => ?_) ?_
        · simp only [en, w_sIf, w_tE, w_e2, v_eV, w_eC, List.getElem?_cons_zero, List.getElem?_cons_succ, slotE_sh, o_eqI, wD_some, isB_bl]
          split
          · simp only [w_sSeq, w_sAsg, w_e2, w_eCall, w_aCons, w_aNil, v_eV, w_eC, List.getElem?_cons_zero, List.getElem?_cons_succ, slotE_sh, o_mulS (i := F) (by omega), dAdd, wD_some]
            refine pick_ev hs (by omega) fun v s1 hs1 v0 v1 => ?_
            simp only [dSub, wD_some, gN, List.set, List.getElem?_cons_zero, List.getElem?_cons_succ, slotE_sh]
            refine pick_ev hs1 (by omega) fun u s2 hs2 u0 u1 => ?_
            simp only [wD_some, List.set]
            exact hn _ _ ⟨hs2, _, _, by omega, by omega, by omega, by omega, rfl⟩
          · exact hn _ _ ⟨hs, z, z', z0, z1, by omega, by omega, rfl⟩
        rintro ρ s ⟨hs, z, z', z0, z1, y0, y1, rfl⟩
        have hl1 : (lo.map D.int).length < LIM := by rw [List.length_map]; show lo.length < 16777216; omega
        have hl2 : (hi.map D.int).length < LIM := by rw [List.length_map]; show hi.length < 16777216; omega
        simp only [en, w_sSeq, w_sDrop, v_eApp, v_eV, List.set, List.getElem?_cons_zero, List.getElem?_cons_succ, ownL_ow, slotE_sh]
        refine ⟨hl1, hl2, hs, lo ++ [z], hi ++ [z'], by simp [l1], by simp [l2], fun w hw => ?_, fun w hw => ?_, by simp [wipeE]⟩
        · rcases List.mem_append.mp hw with hw | hw
          · exact m1 w hw
          · rw [List.mem_singleton.mp hw]; omega
        · rcases List.mem_append.mp hw with hw | hw
          · exact m2 w hw
          · rw [List.mem_singleton.mp hw]; omega
      · rintro ρ s ⟨hs, lo, hi, l1, l2, m1, m2, rfl⟩
        exact hn _ _ ⟨hs, lo, hi, l1, l2, m1, m2, rfl⟩
    rintro ρ s ⟨hs, lo, hi, l1, l2, m1, m2, rfl⟩
    obtain ⟨R, rfl, hR, hRl⟩ := hds
    rw [List.length_map] at l1 l2
    simp only [w_sRet, w_eTup, w_e1, w_aCons, w_aNil, v_eV, List.set, List.getElem?_cons_zero, List.getElem?_cons_succ, slotE_sh, slotE_ow, dTuple, wD_some, List.length_cons, List.length_nil]
    rw [if_pos (by decide)]
    simp only [wD_some]
    exact q ⟨n, R, lo, hi⟩ s hs ⟨n1, by show n ≤ 20; omega, by show R.length ≤ 32; omega, hR, l1, l2, m1, m2⟩ n2
  exact key
end Fw
/-! ## K2a -/
set_option linter.all false
set_option maxRecDepth 100000
set_option maxHeartbeats 1000000
/-! The drawn frame hangs together. -/
namespace Fw
open PySem
theorem eraseIdx_perm {α : Type} : ∀ {l : List α} {k : Nat} (h : k < l.length), (l[k] :: l.eraseIdx k).Perm l
  | x :: l, 0, _ => .refl _
  | x :: l, k + 1, h => (List.Perm.swap x (l[k]'(by simpa using h)) _).trans ((eraseIdx_perm (by simpa using h)).cons x)
theorem mixedP_ev {a : Addr} {v : D} {ds : List D} {s : Src} {Q : D × Src → Prop} (hs : s.addr = a) (hv : v = .lst ds ∨ v = .tup ds) (hm : ds.length ≤ 1000000) (q : ∀ es s', s'.addr = a → es.Perm ds → Q (.lst es, s')) : wD (m_law_mixed [.obj a, v] s) Q := by
  have key : wD (m_law_mixed [.obj a, v] s) fun p => Q (p.1, p.2) := by
    refine run_C (Q := fun d s' => Q (d, s')) rfl ?_
    unfold m_law_mixedB
    have hl : dList v = some (.lst ds) := by rcases hv with rfl | rfl <;> rfl
    refine w_seq (fun ρ s => s.addr = a ∧ ρ = [some (.sh (.obj a)), some (.sh v), some (.ow (.lst ds)), none]) (fun Q' hn _ _ _ => ?_) ?_
    · simp only [w_sNew, w_e1, v_eV, List.map, List.cons_append, List.nil_append, List.getElem?_cons_zero, List.getElem?_cons_succ, slotE_sh, hl, wD_some]
      exact hn _ _ ⟨hs, rfl⟩
    rintro ρ s ⟨hs, rfl⟩
    rw [w_sRet]
    refine w_lcJ (P := fun pre acc ρ s => s.addr = a ∧ acc.length = pre.length ∧ ∃ rest : List D, rest.length + pre.length = ds.length ∧ (acc ++ rest).Perm ds ∧ ρ = [some (.sh (.obj a)), some (.sh v), some (.ow (.lst rest)), none]) ?_
    have hr : (-16777216 : Int) ≤ (ds.length : Int) ∧ (ds.length : Int) ≤ 16777216 := by omega
    simp only [w_iR1, v_eB1, List.getElem?_cons_zero, List.getElem?_cons_succ, slotX_ow, dLen, wD_some, isI_int, hr, and_self, if_true, Int.toNat_natCast, rangeL_nats]
    refine ⟨by trivial, ⟨hs, by trivial, ds, by simp, .refl _, rfl⟩, fun pre d post acc ρ s e hp => ?_, fun acc ρ s hp => ?_⟩
    · obtain ⟨hs, ha, rest, hrl, hpm, rfl⟩ := hp
      refine ⟨_, rfl, ?_⟩
      rw [w_tYes, if_pos rfl]
      have hlen : pre.length < ds.length := by
        have := congrArg List.length e
        rw [List.length_map, List.length_range, List.length_append, List.length_cons] at this
        omega
      have hrp : 1 ≤ rest.length := by omega
      refine w_popAt (ds := rest) rfl ?_
      simp only [wipeE, w_eCall, w_aCons, w_aNil, v_eB1, v_eV, List.set, List.getElem?_cons_zero, List.getElem?_cons_succ, slotE_sh, slotX_ow, dLen, wD_some]
      refine pick_n hs hrp (by omega) fun k s' hs' hk => ?_
      refine ⟨by trivial, k, k, rest[k], rfl, ixD_nat hk, List.getElem?_eq_getElem hk, hs', by simp [ha], rest.eraseIdx k, ?_, ?_, rfl⟩
      · rw [List.length_eraseIdx, if_pos hk, List.length_append]
        simp
        omega
      · refine List.Perm.trans ?_ hpm
        rw [List.append_assoc]
        exact (List.Perm.refl acc).append (eraseIdx_perm hk)
    · obtain ⟨hs, ha, rest, hrl, hpm, rfl⟩ := hp
      rw [List.length_map, List.length_range] at hrl
      have : rest = [] := List.eq_nil_of_length_eq_zero (by omega)
      subst this
      rw [List.append_nil] at hpm
      exact q _ _ hs hpm
  exact key
def unD : D → Nat
  | .int i => i.toNat
  | _ => 0
theorem unD_nats (l : List Nat) : (nats l).map unD = l := by
  unfold nats
  rw [List.map_map]
  exact (List.map_congr_left fun x _ => (by show ((x : Int)).toNat = x; omega)).trans (List.map_id _)
theorem nats_perm {a b : List Nat} (h : (nats a).Perm (nats b)) : a.Perm b := by
  have := h.map unD
  rwa [unD_nats, unD_nats] at this
def RdsC (n m k : Nat) (ns : List Nat) (ds : List D) : Prop := ∃ R : Rds, ds = R.map dRoad ∧ (∀ p ∈ R, p.1 < n ∧ p.2 < n) ∧ R.length ≤ m ∧ ∀ i, i ≤ k → Conn R (ns.getD 0 0) (ns.getD i 0)
theorem RdsC.ok {n m k : Nat} {ns : List Nat} {ds : List D} (h : RdsC n m k ns ds) : RdsOk n m ds := let ⟨R, a, b, c, _⟩ := h; ⟨R, a, b, c⟩
theorem RdsC.snoc {n m k : Nat} {ns : List Nat} {ds : List D} (h : RdsC n m k ns ds) {x y : Nat} (hx : x < n) (hy : y < n) : RdsC n (m + 1) k ns (ds ++ [.tup [.int x, .int y]]) := by
  obtain ⟨R, rfl, h1, h2, h3⟩ := h
  refine ⟨R ++ [(x, y)], by simp [dRoad], fun p hp => ?_, by simp; omega, fun i hi => (h3 i hi).mono fun q hq => List.mem_append_left _ hq⟩
  rcases List.mem_append.mp hp with hp | hp
  · exact h1 p hp
  · rw [List.mem_singleton.mp hp]; exact ⟨hx, hy⟩
theorem RdsC.snocT {n m k j : Nat} {ns : List Nat} {ds : List D} (h : RdsC n m k ns ds) (hx : ns.getD j 0 < n) (hy : ns.getD (k + 1) 0 < n) (hj : j ≤ k) : RdsC n (m + 1) (k + 1) ns (ds ++ [.tup [.int (ns.getD j 0 : Nat), .int (ns.getD (k + 1) 0 : Nat)]]) := by
  obtain ⟨R, e, h1, h2, h3⟩ := h
  obtain ⟨R', e', g1, g2, g3⟩ := (RdsC.snoc ⟨R, e, h1, h2, h3⟩ hx hy : RdsC n (m + 1) k ns _)
  have er : R' = R ++ [(ns.getD j 0, ns.getD (k + 1) 0)] := by
    have : R'.map dRoad = (R ++ [(ns.getD j 0, ns.getD (k + 1) 0)]).map dRoad := by rw [← e', e]; simp [dRoad]
    exact map_inj (f := dRoad) (fun a b e => by
      unfold dRoad at e
      simp only [D.tup.injEq, List.cons.injEq, D.int.injEq, and_true, Int.natCast_inj] at e
      exact Prod.ext e.1 e.2) this
  refine ⟨R', e', g1, g2, fun i hi => ?_⟩
  by_cases h : i ≤ k
  · exact g3 i h
  · have : i = k + 1 := by omega
    subst this
    exact .fwd (g3 j hj) (by rw [er]; exact List.mem_append_right _ (by simp))
/-- some turned about -/
def SwO (pre acc : List D) : Prop := ∃ R R' : Rds, pre = R.map dRoad ∧ acc = R'.map dRoad ∧ ∀ p ∈ R, p ∈ R' ∨ (p.2, p.1) ∈ R'
theorem SwO.nil : SwO [] [] := ⟨[], [], rfl, rfl, fun p h => by simp at h⟩
theorem SwO.snoc {pre acc : List D} (h : SwO pre acc) {x y : Nat} : SwO (pre ++ [.tup [.int x, .int y]]) (acc ++ [.tup [.int x, .int y]]) := by
  obtain ⟨R, R', rfl, rfl, h⟩ := h
  refine ⟨R ++ [(x, y)], R' ++ [(x, y)], by simp [dRoad], by simp [dRoad], fun p hp => ?_⟩
  rcases List.mem_append.mp hp with hp | hp
  · exact (h p hp).imp (List.mem_append_left _) (List.mem_append_left _)
  · exact .inl (List.mem_append_right _ hp)
theorem SwO.snocS {pre acc : List D} (h : SwO pre acc) {x y : Nat} : SwO (pre ++ [.tup [.int x, .int y]]) (acc ++ [.tup [.int y, .int x]]) := by
  obtain ⟨R, R', rfl, rfl, h⟩ := h
  refine ⟨R ++ [(x, y)], R' ++ [(y, x)], by simp [dRoad], by simp [dRoad], fun p hp => ?_⟩
  rcases List.mem_append.mp hp with hp | hp
  · exact (h p hp).imp (List.mem_append_left _) (List.mem_append_left _)
  · rw [List.mem_singleton.mp hp]
    exact .inr (List.mem_append_right _ (by simp))
theorem dRoad_inj {a b : Nat × Nat} (e : dRoad a = dRoad b) : a = b := by
  unfold dRoad at e
  simp only [D.tup.injEq, List.cons.injEq, D.int.injEq, and_true, Int.natCast_inj] at e
  exact Prod.ext e.1 e.2
theorem Conn.sw {R R' : Rds} (h : ∀ p ∈ R, p ∈ R' ∨ (p.2, p.1) ∈ R') {x y : Nat} (k : Conn R x y) : Conn R' x y := by
  induction k with
  | refl => exact .refl _
  | fwd _ m ih => exact (h _ m).elim (fun z => .fwd ih z) fun z => .bwd ih z
  | bwd _ m ih => exact (h _ m).elim (fun z => .bwd ih z) fun z => .fwd ih z
theorem RdsC.swap {n m k : Nat} {ns : List Nat} {ds es acc : List D} (h : RdsC n m k ns ds) (hp : es.Perm ds) (hs : SwO es acc) {m' : Nat} (ha : RdsOk n m' acc) (hm : m' ≤ m) : RdsC n m k ns acc := by
  obtain ⟨R, rfl, h1, h2, h3⟩ := h
  obtain ⟨R2, R3, rfl, rfl, hs⟩ := hs
  obtain ⟨R4, e4, g1, g2⟩ := ha
  have e34 := map_inj (fun a b => dRoad_inj) e4
  subst e34
  refine ⟨R3, rfl, g1, by omega, fun i hi => ((h3 i hi).mono fun q hq => ?_).sw hs⟩
  have := hp.mem_iff.mpr (List.mem_map.mpr ⟨q, hq, rfl⟩)
  obtain ⟨q', hq', e⟩ := List.mem_map.mp this
  rw [← dRoad_inj e]
  exact hq'
theorem conn_all {n : Nat} {R : Rds} {ns : List Nat} (np : ns.Perm (List.range n)) (n1 : 1 ≤ n) (h : ∀ i, i ≤ n - 1 → Conn R (ns.getD 0 0) (ns.getD i 0)) : ∀ x, x < n → Conn R 0 x := fun x hx => by
  have to : ∀ y, y < n → Conn R (ns.getD 0 0) y := fun y hy => by
    obtain ⟨i, hi, rfl⟩ := List.mem_iff_getElem.mp (np.mem_iff.mpr (List.mem_range.mpr hy))
    have hl := np.length_eq
    rw [List.length_range] at hl
    have := h i (by omega)
    rwa [List.getD_eq_getElem?_getD (l := ns) (i := i), List.getElem?_eq_getElem hi] at this
  exact (to 0 (by omega)).symm.trans (to x hx)
theorem frameC_ev {a : Addr} {most : Nat} {F : Int} {s : Src} {Q : D × Src → Prop} (hs : s.addr = a) (hm : 1 ≤ most ∧ most ≤ 8) (hF : 0 ≤ F ∧ F ≤ 1000)
    (q : ∀ (G : Fr) s', s'.addr = a → G.Ok → G.n ≤ most → (∀ x, x < G.n → Conn G.roads 0 x) → Q (G.d, s')) : wD (m_law_frame [.obj a, .int most, .int F] s) Q := by
  have key : wD (m_law_frame [.obj a, .int most, .int F] s) fun p => Q (p.1, p.2) := by
    refine run_C (Q := fun d s' => Q (d, s')) rfl ?_
    unfold m_law_frameB
    refine w_seq (fun ρ s => s.addr = a ∧ ∃ (n : Nat) (W : Int), 1 ≤ n ∧ n ≤ most ∧ ρ = fe a (some (.sh (.int most))) F n W none none none none none) (fun Q' hn _ _ _ => ?_) ?_
    · simp only [w_sPar, w_qSh, w_qNil, w_e2, w_eC, w_eCall, w_aCons, w_aNil, v_eV, List.map, List.cons_append, List.nil_append, List.getElem?_cons_zero, List.getElem?_cons_succ, slotE_sh]
      refine pick_n hs hm.1 (by omega) fun k s1 hs1 hk => ?_
      simp only [dAdd, wD_some]
      refine pick_ev hs1 (by decide) fun W s2 hs2 _ _ => ?_
      simp only [List.length_cons, List.length_nil, if_true, wD_some]
      refine hn _ _ ⟨hs2, k + 1, W, by omega, by omega, ?_⟩
      rw [show (1 : Int) + (k : Int) = ((k + 1 : Nat) : Int) by omega]
      rfl
    rintro ρ s ⟨hs, n, W, n1, n2, rfl⟩
    refine w_seq (fun ρ s => s.addr = a ∧ ∃ ns : List Nat, ns.length = n ∧ (∀ x ∈ ns, x < n) ∧ ns.Perm (List.range n) ∧ ρ = fe a (some (.sh (.int most))) F n W (some (.sh (.lst (nats ns)))) (some (.ow (.lst []))) none none none) (fun Q' hn _ _ _ => ?_) ?_
    · have hr : (-16777216 : Int) ≤ (n : Int) ∧ (n : Int) ≤ 16777216 := by omega
      simp only [w_sPar, w_qSh, w_qNew, w_qNil, w_eLst, w_eC, w_eCall, w_eListR1, w_aCons, w_aNil, v_eV, List.getElem?_cons_zero, List.getElem?_cons_succ, slotE_sh, isI_int, hr, and_self, if_true, wD_some, Int.toNat_natCast, rangeL_nats]
      refine mixedP_ev hs (.inl rfl) (by simp; omega) fun es s1 hs1 hp => ?_
      have hl := hp.length_eq
      have he : ∀ e ∈ es, e ∈ _ := fun e h => hp.mem_iff.mp h
      simp only [List.length_cons, List.length_nil, Nat.zero_le, if_true, wD_some]
      have : ∃ ns : List Nat, es = nats ns ∧ ∀ x ∈ ns, x < n := by
        clear hl hp
        induction es with
        | nil => exact ⟨[], rfl, fun x h => by simp at h⟩
        | cons e es ih =>
          obtain ⟨ns, rfl, h1⟩ := ih fun e' h' => he e' (List.mem_cons_of_mem _ h')
          obtain ⟨x, hx, rfl⟩ := List.mem_map.mp (he e (List.mem_cons_self ..))
          refine ⟨x :: ns, rfl, fun y hy => ?_⟩
          rcases List.mem_cons.mp hy with rfl | hy
          · exact List.mem_range.mp hx
          · exact h1 y hy
      obtain ⟨ns, rfl, h1⟩ := this
      exact hn _ _ ⟨hs1, ns, by simpa using hl, h1, nats_perm hp, rfl⟩
    rintro ρ s ⟨hs, ns, nl, nm, np, rfl⟩
    refine w_seq (fun ρ s => s.addr = a ∧ ∃ ds, RdsC n (n - 1) (n - 1) ns ds ∧ ρ = fe a none F n W (some (.sh (.lst (nats ns)))) (some (.ow (.lst ds))) none none none) (fun Q' hn _ _ _ => ?_) ?_
    · refine w_sFor ?_
      have hr : (-16777216 : Int) ≤ 1 ∧ (1 : Int) ≤ 16777216 ∧ -16777216 ≤ (n : Int) ∧ (n : Int) ≤ 16777216 ∧ (n : Int) - 1 ≤ 16777216 := by omega
      have e1 : ((n : Int) - 1).toNat = n - 1 := by omega
      simp only [w_iR2, w_eC, v_eV, List.getElem?_cons_zero, List.getElem?_cons_succ, slotE_sh, isI_int]
      rw [if_pos hr]
      simp only [wD_some, e1, rangeL1]
      refine ⟨fun k ρ s => s.addr = a ∧ ∃ ds, RdsC n k k ns ds ∧ ρ = fe a none F n W (some (.sh (.lst (nats ns)))) (some (.ow (.lst ds))) none none none, ⟨hs, [], ⟨[], rfl, fun p h => by simp at h, Nat.zero_le _, fun i hi => by rw [Nat.le_zero.mp hi]; exact .refl _⟩, rfl⟩, ?_, ?_⟩
      · rintro k d ρ s hd ⟨hs, ds, hds, rfl⟩
        rw [List.getElem?_map] at hd
        obtain ⟨x, hx, rfl⟩ := Option.map_eq_some_iff.mp hd
        obtain ⟨hx1, hx2⟩ := List.getElem?_eq_some_iff.mp hx
        simp at hx1 hx2
        subst hx2
        refine ⟨_, rfl, ?_⟩
        have hl : ds.length < LIM := by
          obtain ⟨R, rfl, _, h2, _⟩ := hds
          rw [List.length_map]
          show R.length < 16777216
          omega
        simp only [w_sDrop, v_eApp, List.set, List.getElem?_cons_zero, List.getElem?_cons_succ, ownL_ow, w_eTup, w_e2, w_eCall, w_aCons, w_aNil, v_eV, slotE_sh]
        refine pick_n hs (by omega) (by omega) fun j s1 hs1 hj => ?_
        have g1 := o_ixN ns (a := j) (by omega)
        have g2 := o_ixN ns (a := k + 1) (by omega)
        have m1 : ns.getD j 0 < n := nm _ (by
          rw [List.getD_eq_getElem?_getD, List.getElem?_eq_getElem (by omega)]
          exact List.getElem_mem _)
        have m2 : ns.getD (k + 1) 0 < n := nm _ (by
          rw [List.getD_eq_getElem?_getD, List.getElem?_eq_getElem (by omega)]
          exact List.getElem_mem _)
        dsimp only
        rw [g1]
        simp only [wD_some]
        rw [g2]
        simp only [wD_some, List.length_cons, List.length_nil]
        rw [if_pos (by decide)]
        simp only [wD_some]
        exact ⟨hl, hs1, _, hds.snocT m1 m2 (by omega), rfl⟩
      · rintro ρ s ⟨hs, ds, hds, rfl⟩
        rw [List.length_map, List.length_range] at hds
        exact hn _ _ ⟨hs, ds, hds, rfl⟩
    rintro ρ s ⟨hs, ds, hds, rfl⟩
    refine w_seq (fun ρ s => s.addr = a ∧ ∃ ds, RdsC n 24 (n - 1) ns ds ∧ ρ = fe a none F n W none (some (.ow (.lst ds))) none none none) (fun Q' hn _ _ _ => ?_) ?_
    · refine w_sFor ?_
      simp only [w_iR1, w_eCall, w_aCons, w_aNil, w_eIf, w_tE, w_e2, w_eC, v_eV, List.getElem?_cons_zero, List.getElem?_cons_succ, slotE_sh, dLt, wD_some, isB_bl]
      have body : ∀ (m : Nat) (s : Src), m ≤ 14 → s.addr = a → n - 1 + m ≤ 25 → wD (dPick [.obj a, .int m] s) fun p => isI p.1 fun j => wD (if -16777216 ≤ j ∧ j ≤ 16777216 then some (rangeL 0 j.toNat) else none) fun ds_1 => ∃ J : Nat → Env → Src → Prop, J 0 (wipeE [1, 5, 7, 8, 9, 10, 11, 12, 13, 14, 15, 17] (fe a none F n W (some (.sh (.lst (nats ns)))) (some (.ow (.lst ds))) none none none)) p.2 ∧
          (∀ (k : Nat) (d : D) (ρ : Env) (s : Src), ds_1[k]? = some d → J k ρ s → ∃ ρt, gN 8 d ρ = some ρt ∧ wS (sDrop (eApp 6 (eTup (aCons (eCall dPick (aCons (eV 0) (aCons (eV 3) aNil))) (aCons (eCall dPick (aCons (eV 0) (aCons (eV 3) aNil))) aNil))))) ρt s fun c ρ s => match c with
            | .nx => J (k + 1) (wipeE [1, 5, 7, 8, 9, 10, 11, 12, 13, 14, 15, 17] ρ) s | .ct => J (k + 1) (wipeE [1, 5, 7, 8, 9, 10, 11, 12, 13, 14, 15, 17] ρ) s | .bk => Q' .nx ρ s | .rt d => Q' (.rt d) ρ s) ∧
          ∀ ρ s, J ds_1.length ρ s → Q' .nx ρ s := fun m s hm14 hs hmn => by
        refine pick_ev hs (by omega) fun v s1 hs1 h0 hv => ?_
        have hr : (-16777216 : Int) ≤ v ∧ v ≤ 16777216 := by omega
        simp only [isI_int]
        rw [if_pos hr]
        simp only [wD_some, rangeL_nats]
        refine ⟨fun k ρ s => s.addr = a ∧ ∃ ds', RdsC n (n - 1 + k) (n - 1) ns ds' ∧ ρ = fe a none F n W none (some (.ow (.lst ds'))) none none none, ⟨hs1, ds, hds, rfl⟩, ?_, ?_⟩
        · rintro k d ρ s hd ⟨hs, ds', hds', rfl⟩
          obtain ⟨rfl, hk⟩ := take_succ_range hd
          refine ⟨_, rfl, ?_⟩
          have hl : ds'.length < LIM := by
            obtain ⟨R, rfl, _, h2, _⟩ := hds'
            rw [List.length_map]
            show R.length < 16777216
            omega
          simp only [w_sDrop, v_eApp, List.set, List.getElem?_cons_zero, List.getElem?_cons_succ, ownL_ow, w_eTup, w_eCall, w_aCons, w_aNil, v_eV, slotE_sh]
          refine pick_n hs n1 (by omega) fun x s2 hs2 hx => ?_
          refine pick_n hs2 n1 (by omega) fun y s3 hs3 hy => ?_
          simp only [List.length_cons, List.length_nil]
          rw [if_pos (by decide)]
          simp only [wD_some]
          exact ⟨hl, hs3, _, hds'.snoc hx hy, rfl⟩
        · rintro ρ s ⟨hs, ds', hds', rfl⟩
          refine hn _ _ ⟨hs, ds', ?_, rfl⟩
          obtain ⟨R, h1, h2, h3, h4⟩ := hds'
          rw [List.length_map, List.length_range] at h3
          exact ⟨R, h1, h2, by omega, h4⟩
      by_cases h5 : (n : Int) < 5
      · rw [if_pos (decide_eq_true h5)]
        simp only [dSub, wD_some]
        have e1 : (15 : Int) - (n : Int) = ((15 - n : Nat) : Int) := by omega
        rw [e1]
        exact body (15 - n) s (by omega) hs (by omega)
      · rw [if_neg (by rw [decide_eq_false h5]; exact Bool.false_ne_true)]
        exact body 7 s (by omega) hs (by omega)
    rintro ρ s ⟨hs, ds, hds, rfl⟩
    refine w_seq (fun ρ s => s.addr = a ∧ ∃ ds, RdsC n 24 (n - 1) ns ds ∧ ρ = fe a none F n W none (some (.ow (.lst ds))) none none none) (fun Q' hn _ _ _ => ?_) ?_
    · rw [w_sNew]
      refine w_lcJ (P := fun pre acc ρ s => s.addr = a ∧ (RdsOk n pre.length acc ∧ SwO pre acc) ∧ ρ = fe a none F n W none (some (.sh (.lst ds))) none none none) ?_
      simp only [w_iE, w_eCall, w_aCons, w_aNil, v_eV, List.set, List.getElem?_cons_zero, List.getElem?_cons_succ, slotE_sh, slotE_ow]
      refine mixedP_ev hs (.inl rfl) (by have := hds.ok.len; omega) fun es s1 hs1 hp1 => ?_
      have hl := hp1.length_eq
      have he : ∀ e ∈ es, e ∈ ds := fun e h => hp1.mem_iff.mp h
      simp only [items?, wD_some]
      refine ⟨by trivial, ⟨hs1, ⟨.nil n, .nil⟩, by trivial⟩, fun pre d post acc ρ s e hp => ?_, fun acc ρ s hp => ?_⟩
      · obtain ⟨hs, ⟨hacc, hsw⟩, rfl⟩ := hp
        obtain ⟨x, y, rfl, hx, hy⟩ := hds.ok.mem (he d (by rw [e]; simp))
        refine ⟨_, rfl, ?_⟩
        rw [w_tYes, if_pos rfl]
        simp only [wipeE, w_eIf, w_tE, w_e2, w_e1, w_eCall, w_aCons, w_aNil, v_eV, w_eC, List.set, List.getElem?_cons_zero, List.getElem?_cons_succ, slotE_sh]
        refine pick_ev hs (by decide) fun v s2 hs2 _ _ => ?_
        simp only [o_eqI, wD_some, isB_bl]
        split
        · simp only [dRev, List.reverse_cons, List.reverse_nil, List.nil_append, List.cons_append, wD_some]
          refine ⟨hs2, ?_, rfl⟩
          rw [List.length_append]
          exact ⟨hacc.snoc hy hx, hsw.snocS⟩
        · refine ⟨hs2, ?_, rfl⟩
          rw [List.length_append]
          exact ⟨hacc.snoc hx hy, hsw.snoc⟩
      · obtain ⟨hs, ⟨hacc, hsw⟩, rfl⟩ := hp
        refine hn _ _ ⟨hs, acc, ?_, rfl⟩
        have := hds.ok.len
        exact hds.swap hp1 hsw hacc (by omega)
    rintro ρ s ⟨hs, ds, hds, rfl⟩
    refine w_seq (fun ρ s => s.addr = a ∧ ∃ at_ : List Int, at_.length = n ∧ (∀ x ∈ at_, -1000 ≤ x ∧ x ≤ 1000) ∧ ρ = fe a none F n W none (some (.ow (.lst ds))) (some (.sh (.lst (at_.map D.int)))) (some (.ow (.lst []))) (some (.ow (.lst [])))) (fun Q' hn _ _ _ => ?_) ?_
    · rw [w_sPar, w_qSh]
      refine w_lcJ (P := fun pre acc ρ s => s.addr = a ∧ (∃ at_ : List Int, at_.length = pre.length ∧ (∀ x ∈ at_, -1000 ≤ x ∧ x ≤ 1000) ∧ acc = at_.map D.int) ∧ ρ = fe a none F n W none (some (.ow (.lst ds))) none none none) ?_
      have hr : (-16777216 : Int) ≤ (n : Int) ∧ (n : Int) ≤ 16777216 := by omega
      simp only [w_iR1, v_eV, List.getElem?_cons_zero, List.getElem?_cons_succ, slotE_sh, isI_int, hr, and_self, if_true, wD_some, Int.toNat_natCast, rangeL_nats]
      refine ⟨by trivial, ⟨hs, ⟨[], rfl, fun x h => by simp at h, rfl⟩, by trivial⟩, fun pre d post acc ρ s e hp => ?_, fun acc ρ s hp => ?_⟩
      · obtain ⟨hs, ⟨at_, l1, l2, rfl⟩, rfl⟩ := hp
        refine ⟨_, rfl, ?_⟩
        rw [w_tYes, if_pos rfl]
        simp only [wipeE, w_e2, w_eCall, w_aCons, w_aNil, v_eV, w_eC, List.set, List.getElem?_cons_zero, List.getElem?_cons_succ, slotE_sh, o_mulS (i := F) (by omega), dAdd, wD_some]
        refine pick_ev hs (by omega) fun v s2 hs2 v0 v1 => ?_
        simp only [dSub, wD_some]
        refine ⟨hs2, ⟨at_ ++ [v - F], by simp [l1], fun x hx => ?_, by simp⟩, rfl⟩
        rcases List.mem_append.mp hx with hx | hx
        · exact l2 x hx
        · rw [List.mem_singleton.mp hx]; omega
      · obtain ⟨hs, ⟨at_, l1, l2, rfl⟩, rfl⟩ := hp
        simp only [w_qNew, w_qNil, w_eLst, w_aNil, List.length_nil, Nat.zero_le, if_true, wD_some, List.length_cons]
        exact hn _ _ ⟨hs, at_, by rw [l1, List.length_map, List.length_range], l2, rfl⟩
    rintro ρ s ⟨hs, at_, al, am, rfl⟩
    have atm : ∀ x, x < n → -1000 ≤ at_.getD x 0 ∧ at_.getD x 0 ≤ 1000 := fun x hx => am _ (by
      rw [List.getD_eq_getElem?_getD, List.getElem?_eq_getElem (by omega)]
      exact List.getElem_mem _)
    have atx : ∀ x, x < n → dIx (.lst (at_.map D.int)) (.int (x : Int)) = some (.int (at_.getD x 0)) := fun x hx => by
      rw [o_ixL, List.getElem?_map, List.getElem?_eq_getElem (by omega), List.getD_eq_getElem?_getD, List.getElem?_eq_getElem (by omega)]
      rfl
    refine w_seq (fun ρ s => s.addr = a ∧ ∃ lo hi : List Int, lo.length = ds.length ∧ hi.length = ds.length ∧ (∀ x ∈ lo, -1000000 ≤ x ∧ x ≤ 1000000) ∧ (∀ x ∈ hi, -1000000 ≤ x ∧ x ≤ 1000000) ∧ ρ = fe a none F n W none (some (.sh (.lst ds))) (some (.sh (.lst (at_.map D.int)))) (some (.ow (.lst (lo.map D.int)))) (some (.ow (.lst (hi.map D.int))))) (fun Q' hn _ _ _ => ?_) ?_
    · refine w_sFor ?_
      simp only [w_iE, v_eV, List.set, List.getElem?_cons_zero, List.getElem?_cons_succ, slotE_ow, items?, wD_some]
      refine ⟨fun k ρ s => s.addr = a ∧ ∃ lo hi : List Int, lo.length = k ∧ hi.length = k ∧ (∀ x ∈ lo, -1000000 ≤ x ∧ x ≤ 1000000) ∧ (∀ x ∈ hi, -1000000 ≤ x ∧ x ≤ 1000000) ∧ ρ = fe a none F n W none (some (.sh (.lst ds))) (some (.sh (.lst (at_.map D.int)))) (some (.ow (.lst (lo.map D.int)))) (some (.ow (.lst (hi.map D.int)))), ⟨hs, [], [], rfl, rfl, fun x h => by simp at h, fun x h => by simp at h, rfl⟩, ?_, ?_⟩
      · rintro k d ρ s hd ⟨hs, lo, hi, l1, l2, m1, m2, rfl⟩
        obtain ⟨x, y, rfl, hx, hy⟩ := hds.ok.mem (List.mem_of_getElem? hd)
        refine ⟨_, rfl, ?_⟩
        have hkl : k < 1000 := by
          have := (List.getElem?_eq_some_iff.mp hd).1
          have := hds.ok.len
          omega
        have ax := atm x hx
        have ay := atm y hy
        let en (o1 o2 : Option Sl) : Env := [some (.sh (.obj a)), none, some (.sh (.int F)), some (.sh (.int n)), some (.sh (.int W)), none, some (.sh (.lst ds)), none, none, some (.sh (.lst (at_.map D.int))), some (.ow (.lst (lo.map D.int))), some (.ow (.lst (hi.map D.int))), some (.sh (.int x)), some (.sh (.int y)), o1, o2, none, none]
        -- the drawn addend
        have draw : ∀ (ρ : Env) (s : Src) (Q : D → Env → Src → Prop), ρ[0]? = some (some (.sh (.obj a))) → ρ[2]? = some (some (.sh (.int F))) → s.addr = a → (∀ (z : Int) s', s'.addr = a → 0 ≤ z → z ≤ 1002 → Q (.int z) ρ s') →
            wE (eCall m_law_of (aCons (eV 0) (aCons (eLst (aCons (eC (.int 0)) (aCons (eC (.int 0)) (aCons (eC (.int 1)) (aCons (eC (.int 2)) (aCons (eCall dPick (aCons (eV 0) (aCons (e2 dAdd (eV 2) (eC (.int 1))) aNil))) aNil)))))) aNil))) ρ s Q := fun ρ s Q r0 r2 hs hQ => by
          simp only [w_eCall, w_aCons, w_aNil, w_eLst, w_e2, v_eV, w_eC, r0, r2, slotE_sh, dAdd, wD_some]
          refine pick_ev hs (by omega) fun v s1 hs1 v0 v1 => ?_
          simp only [List.length_cons, List.length_nil]
          rw [if_pos (by decide)]
          simp only [wD_some]
          refine of_ev hs1 (by simp) (by simp) fun d s2 hs2 hd => ?_
          simp only [List.mem_cons, List.not_mem_nil, or_false] at hd
          rcases hd with rfl | rfl | rfl | rfl | rfl
          · exact hQ 0 s2 hs2 (by omega) (by omega)
          · exact hQ 0 s2 hs2 (by omega) (by omega)
          · exact hQ 1 s2 hs2 (by omega) (by omega)
          · exact hQ 2 s2 hs2 (by omega) (by omega)
          · exact hQ v s2 hs2 (by omega) (by omega)
        refine w_seq (fun ρ s => s.addr = a ∧ ∃ z : Int, -10000 ≤ z ∧ z ≤ 10000 ∧ ρ = en (some (.sh (.int z))) none) (fun Q' hn _ _ _ => ?_) ?_
        · rw [w_sAsg, w_e2, w_e2]
          simp only [w_e2, v_eV, List.set, List.getElem?_cons_zero, List.getElem?_cons_succ, slotE_sh, atx x hx, atx y hy, wD_some, dSub]
          refine draw _ _ _ rfl rfl hs fun z s1 hs1 z0 z1 => ?_
          simp only [wD_some]
          exact hn _ _ ⟨hs1, _, by omega, by omega, rfl⟩
        rintro ρ s ⟨hs, z, z0, z1, rfl⟩
        refine w_seq (fun ρ s => s.addr = a ∧ ∃ z' : Int, -10000 ≤ z' ∧ z' ≤ 10000 ∧ ρ = en (some (.sh (.int z))) (some (.sh (.int z')))) (fun Q' hn _ _ _ => ?_) ?_
        · rw [w_sAsg, w_e2]
          simp only [en, w_e2, v_eV, List.set, List.getElem?_cons_zero, List.getElem?_cons_succ, slotE_sh, atx x hx, atx y hy, wD_some, dSub]
          refine draw _ _ _ rfl rfl hs fun u s1 hs1 u0 u1 => ?_
          simp only [dAdd, wD_some]
          exact hn _ _ ⟨hs1, _, by omega, by omega, rfl⟩
        rintro ρ s ⟨hs, z', y0, y1, rfl⟩
        refine w_seq (fun ρ s => s.addr = a ∧ ∃ z z' : Int, -10000 ≤ z ∧ z ≤ 10000 ∧ -20000 ≤ z' ∧ z' ≤ 20000 ∧ ρ = en (some (.sh (.int z))) (some (.sh (.int z')))) (fun Q' hn _ _ _ => ?_) ?_
        · simp only [en, w_sIf, w_tE, w_e2, v_eV, w_eC, List.getElem?_cons_zero, List.getElem?_cons_succ, slotE_sh, o_eqI, wD_some, isB_bl]
          split
          · simp only [w_sSeq, w_sAsg, w_e2, w_eCall, w_aCons, w_aNil, v_eV, w_eC, List.getElem?_cons_zero, List.getElem?_cons_succ, slotE_sh, o_mulS (i := F) (by omega), dAdd, wD_some]
            refine pick_ev hs (by omega) fun v s1 hs1 v0 v1 => ?_
            simp only [dSub, wD_some, gN, List.set, List.getElem?_cons_zero, List.getElem?_cons_succ, slotE_sh]
            refine pick_ev hs1 (by omega) fun u s2 hs2 u0 u1 => ?_
            simp only [wD_some, List.set]
            exact hn _ _ ⟨hs2, _, _, by omega, by omega, by omega, by omega, rfl⟩
          · exact hn _ _ ⟨hs, z, z', z0, z1, by omega, by omega, rfl⟩
        rintro ρ s ⟨hs, z, z', z0, z1, y0, y1, rfl⟩
        have hl1 : (lo.map D.int).length < LIM := by rw [List.length_map]; show lo.length < 16777216; omega
        have hl2 : (hi.map D.int).length < LIM := by rw [List.length_map]; show hi.length < 16777216; omega
        simp only [en, w_sSeq, w_sDrop, v_eApp, v_eV, List.set, List.getElem?_cons_zero, List.getElem?_cons_succ, ownL_ow, slotE_sh]
        refine ⟨hl1, hl2, hs, lo ++ [z], hi ++ [z'], by simp [l1], by simp [l2], fun w hw => ?_, fun w hw => ?_, by simp [wipeE]⟩
        · rcases List.mem_append.mp hw with hw | hw
          · exact m1 w hw
          · rw [List.mem_singleton.mp hw]; omega
        · rcases List.mem_append.mp hw with hw | hw
          · exact m2 w hw
          · rw [List.mem_singleton.mp hw]; omega
      · rintro ρ s ⟨hs, lo, hi, l1, l2, m1, m2, rfl⟩
        exact hn _ _ ⟨hs, lo, hi, l1, l2, m1, m2, rfl⟩
    rintro ρ s ⟨hs, lo, hi, l1, l2, m1, m2, rfl⟩
    obtain ⟨R, rfl, hR, hRl, hcn⟩ := hds
    rw [List.length_map] at l1 l2
    simp only [w_sRet, w_eTup, w_e1, w_aCons, w_aNil, v_eV, List.set, List.getElem?_cons_zero, List.getElem?_cons_succ, slotE_sh, slotE_ow, dTuple, wD_some, List.length_cons, List.length_nil]
    rw [if_pos (by decide)]
    simp only [wD_some]
    exact q ⟨n, R, lo, hi⟩ s hs ⟨n1, by show n ≤ 20; omega, by show R.length ≤ 32; omega, hR, l1, l2, m1, m2⟩ n2 (conn_all np n1 hcn)
  exact key
end Fw
/-! ## K1j -/
set_option linter.all false
set_option maxRecDepth 100000
set_option maxHeartbeats 1000000
/-! The law's drawn way. -/
namespace Fw
open PySem
inductive WayS (G : Fr) (x : Nat) : List Nat → Nat → Prop
  | nil : WayS G x [] x
  | snoc {es : List Nat} {y e : Nat} : WayS G x es y → e < 2 * G.roads.length → G.fr e = y → WayS G x (es ++ [e]) (G.to e)
theorem WayS.lt {G : Fr} {x y : Nat} {es : List Nat} (h : WayS G x es y) : ∀ e ∈ es, e < 2 * G.roads.length := by
  induction h with
  | nil => intro e he; simp at he
  | snoc _ he _ ih =>
    intro e' he'
    rcases List.mem_append.mp he' with h | h
    · exact ih e' h
    · rw [List.mem_singleton.mp h]; exact he
theorem o_last (l : List Nat) (e : Nat) : dIx (.lst (nats (l ++ [e]))) (.int (-1)) = some (.int e) := by
  show (ixD (nats (l ++ [e])).length (-1)).bind (fun j => (nats (l ++ [e]))[j]?) = _
  have hl : (nats (l ++ [e])).length = l.length + 1 := by simp [nats]
  unfold ixD
  rw [if_neg (by decide), if_pos (by rw [hl]; omega), hl]
  have : ((-1 : Int) + ((l.length + 1 : Nat) : Int)).toNat = l.length := by omega
  rw [this]
  simp [nats]
theorem walk_ev {a : Addr} {W : Nat} (hW : W ≤ 100) {G : Fr} (hG : G.Sh) {x : Nat} {s : Src} {Q : D × Src → Prop} (hs : s.addr = a)
    (q : ∀ es y s', s'.addr = a → WayS G x es y → es.length ≤ W → Q (.tup (nats es), s')) : wD (m_law_walk [.obj a, G.d, .int x, .int (W : Int)] s) Q := by
  have key : wD (m_law_walk [.obj a, G.d, .int x, .int (W : Int)] s) fun p => Q (p.1, p.2) := by
    refine run_C (Q := fun d s' => Q (d, s')) rfl ?_
    unfold m_law_walkB
    refine w_seq (fun ρ s => s.addr = a ∧ ρ = [some (.sh (.obj a)), some (.sh G.d), some (.sh (.int x)), some (.sh (.int (W : Int))), some (.ow (.lst (nats []))), some (.sh (.int x)), none, none, none]) (fun Q' hn _ _ _ => ?_) ?_
    · simp only [w_sPar, w_qSh, w_qNew, w_qNil, w_eLst, w_aNil, v_eV, List.map, List.cons_append, List.nil_append, List.getElem?_cons_zero, List.getElem?_cons_succ, slotE_sh, List.length_nil, List.length_cons, Nat.zero_le, if_true, wD_some]
      exact hn _ _ ⟨hs, rfl⟩
    rintro ρ s ⟨hs, rfl⟩
    refine w_seq (fun ρ s => s.addr = a ∧ ∃ es y, WayS G x es y ∧ es.length ≤ W ∧ ρ = [some (.sh (.obj a)), some (.sh G.d), none, none, some (.ow (.lst (nats es))), some (.sh (.int y)), none, none, none]) (fun Q' hn _ _ _ => ?_) ?_
    · refine w_sFor ?_
      have e9 : dAdd (.int (W : Int)) (.int 1) = some (.int ((W + 1 : Nat) : Int)) := rfl
      simp only [w_iR1, w_eCall, w_aCons, w_aNil, w_e2, w_eC, v_eV, List.getElem?_cons_zero, List.getElem?_cons_succ, slotE_sh, e9, wD_some]
      refine pick_n hs (by omega) (by omega) fun v s1 hs1 hv => ?_
      have hr : (-16777216 : Int) ≤ (v : Int) ∧ (v : Int) ≤ 16777216 := by omega
      simp only [isI_int, hr, and_self, if_true, wD_some, Int.toNat_natCast, rangeL_nats]
      refine ⟨fun k ρ s => s.addr = a ∧ ∃ es y, WayS G x es y ∧ es.length ≤ k ∧ ρ = [some (.sh (.obj a)), some (.sh G.d), none, none, some (.ow (.lst (nats es))), some (.sh (.int y)), none, none, none], ⟨hs1, [], x, .nil, Nat.le_refl _, rfl⟩, ?_, ?_⟩
      · rintro k d ρ s hd ⟨hs, es, y, hw, hl, rfl⟩
        obtain ⟨rfl, hk⟩ := take_succ_range hd
        refine ⟨_, rfl, ?_⟩
        have hm := hG.m
        refine w_seq (fun ρ s => s.addr = a ∧ ∃ qs : List Nat, qs.length ≤ 100 ∧ (∀ e ∈ qs, e < 2 * G.roads.length ∧ G.fr e = y) ∧ ρ = [some (.sh (.obj a)), some (.sh G.d), none, none, some (.ow (.lst (nats es))), some (.sh (.int y)), some (.sh (.int k)), some (.sh (.lst (nats qs))), none]) (fun Q' hn _ _ _ => ?_) ?_
        · rw [w_sAsg]
          refine w_lc (I := fun s => s.addr = a) (P := fun pre acc => ∃ qs : List Nat, acc = nats qs ∧ qs.length ≤ pre.length ∧ ∀ e ∈ qs, e < 2 * G.roads.length ∧ G.fr e = y) ?_
          have e1 : dIx G.d (.int 1) = some (.tup (G.roads.map dRoad)) := o_ix1 _
          have e2 : dMul (.int 2) (.int (G.roads.length : Int)) = some (.int ((2 * G.roads.length : Nat) : Int)) := by
            rw [o_mulS (by omega)]
            congr 2
          have hr : (-16777216 : Int) ≤ ((2 * G.roads.length : Nat) : Int) ∧ ((2 * G.roads.length : Nat) : Int) ≤ 16777216 := by omega
          simp only [w_iR1, w_e2, w_e1, v_eV, w_eC, List.set, List.getElem?_cons_zero, List.getElem?_cons_succ, slotE_sh, e1, wD_some, dLen, List.length_map, e2, isI_int, hr, and_self, if_true, Int.toNat_natCast, rangeL_nats]
          refine ⟨by trivial, hs, rfl, ⟨[], rfl, Nat.le_refl _, fun e h => by simp at h⟩, fun pre d post acc s e hp hs' => ?_, fun acc s' hp hs' => ?_⟩
          · obtain ⟨qs, rfl, q1, q2⟩ := hp
            have hd : d ∈ nats (List.range (2 * G.roads.length)) := by rw [e]; simp
            obtain ⟨z, hz, rfl⟩ := List.mem_map.mp hd
            have hzl := List.mem_range.mp hz
            refine ⟨_, rfl, ?_⟩
            simp only [wipeE, w_tE, w_e2, w_eCallP, w_aCons, w_aNil, v_eV, List.set, List.getElem?_cons_zero, List.getElem?_cons_succ, slotE_sh, ev_law_end_from hzl, wD_some, o_eqI, isB_bl]
            by_cases hc : G.fr z = y
            · rw [if_pos (decide_eq_true (by omega))]
              refine ⟨⟨qs ++ [z], by simp [nats], by simp; omega, fun e' he' => ?_⟩, hs', rfl⟩
              rcases List.mem_append.mp he' with h | h
              · exact q2 e' h
              · rw [List.mem_singleton.mp h]; exact ⟨hzl, hc⟩
            · rw [if_neg (by rw [decide_eq_false (show ¬ ((G.fr z : Int) = (y : Int)) by omega)]; exact Bool.false_ne_true)]
              exact ⟨⟨qs, rfl, by simp; omega, q2⟩, hs', rfl⟩
          · obtain ⟨qs, rfl, q1, q2⟩ := hp
            first
              | rw [List.length_map, List.length_range] at q1
              | rw [List.length_range] at q1
            exact hn _ _ ⟨hs', qs, by omega, q2, rfl⟩
        rintro ρ s ⟨hs, qs, ql, q2, rfl⟩
        simp only [w_sIf, w_tE, w_e2, v_eV, w_eLst, w_aNil, List.length_nil, Nat.zero_le, if_true, List.getElem?_cons_zero, List.getElem?_cons_succ, slotE_sh, wD_some, o_neNil (eqOk_nats _), isB_bl]
        by_cases hq : qs = []
        · subst hq
          simp only [nats, List.map_nil, List.isEmpty_nil, Bool.not_true, Bool.false_eq_true, if_false, w_sNx]
          exact ⟨hs, es, y, hw, by omega, rfl⟩
        · have hne : (nats qs).isEmpty = false := by
            cases qs with
            | nil => exact absurd rfl hq
            | cons _ _ => rfl
          rw [hne]
          simp only [Bool.not_false, if_true]
          refine w_seq (fun ρ s => s.addr = a ∧ ∃ e, (e < 2 * G.roads.length ∧ G.fr e = y) ∧ ρ = [some (.sh (.obj a)), some (.sh G.d), none, none, some (.ow (.lst (nats (es ++ [e])))), some (.sh (.int y)), some (.sh (.int k)), some (.sh (.lst (nats qs))), none]) (fun Q' hn _ _ _ => ?_) ?_
          · simp only [w_sDrop, v_eApp, w_eCall, w_aCons, w_aNil, v_eV, List.getElem?_cons_zero, List.getElem?_cons_succ, ownL_ow, slotE_sh]
            refine of_ev hs (by intro h0; rw [h0] at hne; cases hne) (by rw [List.length_map]; omega) fun d s2 hs2 hd => ?_
            obtain ⟨e, he, rfl⟩ := List.mem_map.mp hd
            refine ⟨by rw [List.length_map]; show es.length < 16777216; omega, hn _ _ ⟨hs2, e, q2 e he, ?_⟩⟩
            simp [nats]
          rintro ρ s ⟨hs, e, ⟨he1, he2⟩, rfl⟩
          have en1 : dNeg (.int 1) = some (.int (-1)) := rfl
          simp only [w_sAsg, w_eCallP, w_aCons, w_aNil, v_eBL, w_e1, w_eC, v_eV, List.getElem?_cons_zero, List.getElem?_cons_succ, slotX_ow, slotE_sh, en1, wD_some, o_last, ev_law_end_to he1]
          exact ⟨hs, es ++ [e], G.to e, hw.snoc he1 he2, by simp; omega, rfl⟩
      · rintro ρ s ⟨hs, es, y, hw, hl, rfl⟩
        rw [List.length_map, List.length_range] at hl
        exact hn _ _ ⟨hs, es, y, hw, by omega, rfl⟩
    rintro ρ s ⟨hs, es, y, hw, hl, rfl⟩
    simp only [w_sRet, w_e1, v_eV, List.set, List.getElem?_cons_zero, List.getElem?_cons_succ, slotE_ow, dTuple, wD_some]
    exact q es y s hs hw hl
  exact key
end Fw
/-! ## K1m -/
set_option linter.all false
/-! Least costs lie between bounds. -/
namespace Fw
theorem fw_bnd {n : Nat} {T : Tbl} {B : Int} (h : Shp n T) (hd : ∀ x, x < n → 0 ≤ gt ((List.range n).foldl (tbZ n) T) x x)
    (hB : ∀ x y, x < n → y < n → gt T x y ≤ B) {x y : Nat} (hx : x < n) (hy : y < n) :
    -B ≤ gt ((List.range n).foldl (tbZ n) T) x y ∧ gt ((List.range n).foldl (tbZ n) T) x y ≤ B := by
  have h1 := (fw_le h n (Nat.le_refl _)).2
  have h2 := h1 x y hx hy
  have h3 := h1 y x hy hx
  have h4 := hB x y hx hy
  have h5 := hB y x hy hx
  have h6 := fw_tri h hd n (Nat.le_refl _)
  have h7 := hd x hx
  have h8 := h6 y hy x x hx hx
  omega
end Fw
/-! ## K1s -/
set_option linter.all false
set_option maxRecDepth 100000
set_option maxHeartbeats 1000000
/-! Least costs and ways. -/
namespace Fw
open PySem
theorem tb0_gt {n x y : Nat} (hx : x < n) (hy : y < n) : gt (tb0 n) x y = if x = y then 0 else far := by
  unfold gt tb0
  simp [List.getD_eq_getElem?_getD, List.getElem?_map, List.getElem?_range, hx, hy]
theorem tb1_k {G : Fr} (hG : G.Ok) : ∀ k, k ≤ 2 * G.roads.length → Shp G.n ((List.range k).foldl (tbE G) (tb0 G.n)) ∧
    (∀ x y, x < G.n → y < G.n → gt ((List.range k).foldl (tbE G) (tb0 G.n)) x y ≤ far) ∧
    ∀ e, e < k → gt ((List.range k).foldl (tbE G) (tb0 G.n)) (G.fr e) (G.to e) ≤ G.cost e
  | 0, _ => by
    refine ⟨tb0_shp _, fun x y hx hy => ?_, fun e he => absurd he (Nat.not_lt_zero _)⟩
    show gt (tb0 G.n) x y ≤ far
    rw [tb0_gt hx hy]
    split <;> unfold far <;> decide
  | k + 1, hk => by
    obtain ⟨h1, h2, h3⟩ := tb1_k hG k (by omega)
    obtain ⟨hf, ht⟩ := fr_to_lt hG.sh (e := k) (by omega)
    rw [foldl_range]
    generalize (List.range k).foldl (tbE G) (tb0 G.n) = U at *
    refine ⟨h1.st hf, fun x y hx hy => ?_, fun e he => ?_⟩
    · unfold tbE
      rw [gt_st h1 hf ht]
      have := h2 x y hx hy
      split
      · rename_i h
        rw [h.1, h.2] at this
        omega
      · exact this
    · unfold tbE
      rw [gt_st h1 hf ht]
      split
      · rename_i h
        rcases Nat.lt_or_ge e k with he' | he'
        · have := h3 e he'
          rw [h.1, h.2] at this
          omega
        · have : e = k := by omega
          subst this
          omega
      · rename_i h
        rcases Nat.lt_or_ge e k with he' | he'
        · exact h3 e he'
        · have : e = k := by omega
          subst this
          exact absurd ⟨rfl, rfl⟩ h
structure FwG (G : Fr) : Prop where
  shp : Shp G.n (fwT G)
  bnd : ∀ x y, x < G.n → y < G.n → -1000000000 ≤ gt (fwT G) x y ∧ gt (fwT G) x y ≤ 1000000000
  tri : ∀ x y z, x < G.n → y < G.n → z < G.n → gt (fwT G) x y ≤ gt (fwT G) x z + gt (fwT G) z y
  stp : ∀ e, e < 2 * G.roads.length → gt (fwT G) (G.fr e) (G.to e) ≤ G.cost e
theorem fwG_of {G : Fr} (hG : G.Ok) (h : fwOk G = true) : FwG G := by
  obtain ⟨h1, h2, h3⟩ := tb1_k hG _ (Nat.le_refl _)
  have hd : ∀ x, x < G.n → 0 ≤ gt (fwT G) x x := fun x hx => by
    unfold fwOk at h
    exact of_decide_eq_true (List.all_eq_true.mp h x (List.mem_range.mpr hx))
  obtain ⟨s1, s2⟩ := fw_le h1 G.n (Nat.le_refl _)
  refine ⟨s1, fun x y hx hy => ?_, fun x y z hx hy hz => fw_tri h1 hd _ (Nat.le_refl _) z hz x y hx hy, fun e he => ?_⟩
  · have := fw_bnd (B := 1000000000) h1 hd h2 hx hy
    exact this
  · obtain ⟨hf, ht⟩ := fr_to_lt hG.sh he
    exact Int.le_trans (s2 _ _ hf ht) (h3 e he)
theorem wayC_snoc {G : Fr} {es : List Nat} {e : Nat} : wayC G (es ++ [e]) = wayC G es + G.cost e := by
  unfold wayC
  simp [List.sum_append]
theorem WayS.end_lt {G : Fr} (hG : G.Sh) {x y : Nat} {es : List Nat} (h : WayS G x es y) (hx : x < G.n) : y < G.n := by
  cases h with
  | nil => exact hx
  | snoc _ he _ => exact (fr_to_lt hG he).2
theorem way_le {G : Fr} (hG : G.Sh) (F : FwG G) {x y : Nat} {es : List Nat} (h : WayS G x es y) (hx : x < G.n) {z : Nat} (hz : z < G.n) :
    gt (fwT G) z y ≤ gt (fwT G) z x + wayC G es ∧ gt (fwT G) x z ≤ wayC G es + gt (fwT G) y z := by
  induction h with
  | nil =>
    have : wayC G [] = 0 := rfl
    omega
  | snoc hw he hf ih =>
    rename_i es y e
    obtain ⟨i1, i2⟩ := ih
    obtain ⟨lf, lt⟩ := fr_to_lt hG he
    have s := F.stp e he
    have t1 := F.tri z (G.to e) (G.fr e) hz lt lf
    have t2 := F.tri (G.fr e) z (G.to e) lf hz lt
    rw [wayC_snoc]
    rw [hf] at *
    omega
theorem cost_bnd {G : Fr} (hG : G.Ok) {e : Nat} (he : e < 2 * G.roads.length) : -1000000 ≤ G.cost e ∧ G.cost e ≤ 1000000 := by
  unfold Fr.cost
  have hh : e / 2 < G.high.length := by rw [hG.hl]; omega
  have hl : e / 2 < G.low.length := by rw [hG.ll]; omega
  split
  · exact hG.hb _ (by rw [List.getD_eq_getElem?_getD, List.getElem?_eq_getElem hh]; exact List.getElem_mem hh)
  · have := hG.lb (G.low.getD (e / 2) 0) (by rw [List.getD_eq_getElem?_getD, List.getElem?_eq_getElem hl]; exact List.getElem_mem hl)
    omega
theorem wayC_bnd {G : Fr} (hG : G.Ok) : ∀ {es : List Nat}, (∀ e ∈ es, e < 2 * G.roads.length) → -1000000 * (es.length : Int) ≤ wayC G es ∧ wayC G es ≤ 1000000 * (es.length : Int)
  | [], _ => by
    have : wayC G [] = 0 := rfl
    simp only [List.length_nil]
    omega
  | e :: es, h => by
    have h1 := cost_bnd hG (h e (List.mem_cons_self ..))
    have h2 := wayC_bnd hG fun e' h' => h e' (List.mem_cons_of_mem _ h')
    have : wayC G (e :: es) = G.cost e + wayC G es := by unfold wayC; simp
    simp only [List.length_cons]
    omega
end Fw
/-! ## K2b -/
set_option linter.all false
set_option maxRecDepth 100000
set_option maxHeartbeats 1000000
/-! Costs lowered, lap by lap: plain. -/
namespace Fw
def up {α : Type} (f : Nat → Option α) (k : Nat) (v : α) : Nat → Option α := fun x => if x = k then some v else f x
theorem up_same {α : Type} {f : Nat → Option α} {k : Nat} {v : α} : up f k v k = some v := if_pos rfl
theorem up_ne {α : Type} {f : Nat → Option α} {k x : Nat} {v : α} (h : x ≠ k) : up f k v x = f x := if_neg h
abbrev Fr.E (G : Fr) : Nat := 2 * G.roads.length
def tau (E k j e : Nat) : Nat := if e < j then k * E + e + 1 else (k - 1) * E + e + 1
def Cl (G : Fr) (f : Nat → Option Int) (e : Nat) : Prop := ∀ x, f (G.fr e) = some x → ∃ y, f (G.to e) = some y ∧ y ≤ x + G.cost e
structure BF (G : Fr) (f0 : Nat → Option Int) (k j : Nat) (f : Nat → Option Int) (p : Nat → Option Nat) (u : Nat → Nat) : Prop where
  dom : ∀ v x, f v = some x → v < G.n
  pd : ∀ v e, p v = some e → e < G.E ∧ G.to e = v ∧ ∃ x y, f (G.fr e) = some x ∧ f v = some y ∧ x + G.cost e ≤ y
  pu : ∀ v, 0 < u v → ∃ e, p v = some e
  ub : ∀ v, u v ≤ k * G.E + j
  inj : ∀ v w, 0 < u v → u v = u w → v = w
  back : ∀ v e, p v = some e → G.E < u v → u v ≤ u (G.fr e) + G.E
  cl : ∀ e, e < G.E → (e < j ∨ 1 ≤ k) → u (G.fr e) < tau G.E k j e → Cl G f e
  st : ∀ w e x y, p w = some e → f (G.fr e) = some x → f w = some y → u w < u (G.fr e) → x + G.cost e < y
  self : ∀ v e, p v = some e → G.fr e = v → G.cost e < 0
  lo : ∀ g : Nat → Int, (∀ e, e < G.E → g (G.to e) ≤ g (G.fr e) + G.cost e) → (∀ v x, f0 v = some x → g v ≤ x) → ∀ v y, f v = some y → g v ≤ y
  st0 : ∀ v x, f0 v = some x → ∃ y, f v = some y ∧ y ≤ x
theorem tau_lap {E k e : Nat} (he : e < E) : tau E (k + 1) 0 e = tau E k E e := by
  unfold tau
  rw [if_neg (Nat.not_lt_zero _), if_pos he, Nat.add_sub_cancel]
theorem tau_ne {E k j e : Nat} (h : e ≠ j) : tau E k (j + 1) e = tau E k j e := by
  unfold tau
  by_cases h1 : e < j
  · rw [if_pos h1, if_pos (by omega)]
  · rw [if_neg h1, if_neg (by omega)]
theorem tau_le {E k j e : Nat} (he : e < E) (hj : j < E) (h : e < j ∨ 1 ≤ k) (hne : e ≠ j) : tau E k j e < k * E + j + 1 := by
  unfold tau
  by_cases h1 : e < j
  · rw [if_pos h1]; omega
  · rw [if_neg h1]
    obtain ⟨k', rfl⟩ : ∃ k', k = k' + 1 := ⟨k - 1, by omega⟩
    rw [Nat.add_sub_cancel, Nat.succ_mul]
    omega
theorem BF.start {G : Fr} {f0 : Nat → Option Int} (h : ∀ v x, f0 v = some x → v < G.n) : BF G f0 0 0 f0 (fun _ => none) (fun _ => 0) :=
  ⟨h, fun v e h => (by cases h), fun v h => absurd h (Nat.lt_irrefl _), fun v => Nat.zero_le _, fun v w h => absurd h (Nat.lt_irrefl _), fun v e h => (by cases h), fun e he h => (by omega),
    fun w e x y h => (by cases h), fun v e h => (by cases h), fun g _ h v y hy => h v y hy, fun v x hx => ⟨x, hx, Int.le_refl _⟩⟩
theorem BF.lap {G : Fr} {f0 f : Nat → Option Int} {k : Nat} {p : Nat → Option Nat} {u : Nat → Nat} (B : BF G f0 k G.E f p u) : BF G f0 (k + 1) 0 f p u :=
  ⟨B.dom, B.pd, B.pu, fun v => by have := B.ub v; rw [Nat.succ_mul]; omega, B.inj, B.back, fun e he _ ht => B.cl e he (.inl he) (by rw [tau_lap he] at ht; exact ht), B.st, B.self, B.lo, B.st0⟩
theorem BF.stay {G : Fr} {f0 f : Nat → Option Int} {k j : Nat} {p : Nat → Option Nat} {u : Nat → Nat} (B : BF G f0 k j f p u) (h : Cl G f j) : BF G f0 k (j + 1) f p u :=
  ⟨B.dom, B.pd, B.pu, fun v => by have := B.ub v; omega, B.inj, B.back, fun e he ho ht => by
    by_cases e1 : e = j
    · rw [e1]; exact h
    · exact B.cl e he (by omega) (by rw [tau_ne e1] at ht; exact ht), B.st, B.self, B.lo, B.st0⟩
theorem BF.move {G : Fr} (hG : G.Sh) {f0 f : Nat → Option Int} {k j : Nat} {p : Nat → Option Nat} {u : Nat → Nat} (B : BF G f0 k j f p u) (hj : j < G.E) {x : Int} (hx : f (G.fr j) = some x)
    (hb : ∀ y, f (G.to j) = some y → x + G.cost j < y) : BF G f0 k (j + 1) (up f (G.to j) (x + G.cost j)) (up p (G.to j) j) (fun v => if v = G.to j then k * G.E + j + 1 else u v) := by
  have hlt := fr_to_lt hG hj
  generalize hbv : G.to j = b at *
  generalize hc : G.cost j = c at *
  have self : G.fr j = b → c < 0 := fun e => by
    have := hb x (by rw [← e]; exact hx)
    omega
  have u' : ∀ v, u v ≤ (if v = b then k * G.E + j + 1 else u v) := fun v => by
    have := B.ub v
    split <;> omega
  refine ⟨fun v y h => ?_, fun v e h => ?_, fun v h => ?_, fun v => ?_, fun v w h e => ?_, fun v e h hE => ?_, fun e he ho ht z hz => ?_, fun w e z y h hz hy hu => ?_, fun v e h hf => ?_, fun g hg h0 v y h => ?_, fun v y h => ?_⟩
  · by_cases e : v = b
    · rw [e]; exact hlt.2
    · rw [up_ne e] at h; exact B.dom v y h
  · by_cases e1 : v = b
    · subst e1
      rw [up_same] at h
      cases h
      refine ⟨hj, hbv, ?_⟩
      by_cases e2 : G.fr j = v
      · have := self e2
        rw [e2, up_same, hc]
        exact ⟨_, _, rfl, rfl, by omega⟩
      · rw [up_ne e2, up_same, hx, hc]
        exact ⟨_, _, rfl, rfl, by omega⟩
    · rw [up_ne e1] at h
      obtain ⟨h1, h2, z, y, h3, h4, h5⟩ := B.pd v e h
      refine ⟨h1, h2, ?_⟩
      rw [up_ne e1]
      by_cases e2 : G.fr e = b
      · rw [e2, up_same]
        have := hb z (by rw [← e2]; exact h3)
        exact ⟨_, _, rfl, h4, by omega⟩
      · rw [up_ne e2]
        exact ⟨_, _, h3, h4, h5⟩
  · by_cases e : v = b
    · rw [e, up_same]; exact ⟨_, rfl⟩
    · rw [up_ne e]
      rw [if_neg e] at h
      exact B.pu v h
  · have := B.ub v
    show (if v = b then k * G.E + j + 1 else u v) ≤ k * G.E + (j + 1)
    split <;> omega
  · have h1 := B.ub v
    have h2 := B.ub w
    by_cases e1 : v = b <;> by_cases e2 : w = b
    · rw [e1, e2]
    · simp only [if_pos e1, if_neg e2] at e
      omega
    · simp only [if_neg e1, if_pos e2] at e
      omega
    · simp only [if_neg e1, if_neg e2] at e h
      exact B.inj v w h e
  · by_cases e1 : v = b
    · subst e1
      rw [up_same] at h
      cases h
      simp only [if_true] at hE ⊢
      have k1 : 1 ≤ k := by
        rcases Nat.eq_zero_or_pos k with rfl | h
        · rw [Nat.zero_mul] at hE; omega
        · exact h
      have hu : tau G.E k j j ≤ u (G.fr j) := Nat.le_of_not_lt fun hlt' => by
        obtain ⟨y, hy, hle⟩ := B.cl j hj (.inr k1) hlt' x hx
        rw [hbv] at hy
        have := hb y hy
        omega
      have := u' (G.fr j)
      unfold tau at hu
      rw [if_neg (Nat.lt_irrefl _)] at hu
      obtain ⟨k', rfl⟩ : ∃ k', k = k' + 1 := ⟨k - 1, by omega⟩
      rw [Nat.add_sub_cancel] at hu
      rw [Nat.succ_mul] at *
      omega
    · rw [up_ne e1] at h
      rw [if_neg e1] at hE ⊢
      have := B.back v e h hE
      have := u' (G.fr e)
      omega
  · by_cases e1 : e = j
    · subst e1
      have hne : G.fr e ≠ b := fun q => by
        rw [if_pos q] at ht
        unfold tau at ht
        rw [if_pos (by omega)] at ht
        omega
      rw [up_ne hne, hx] at hz
      cases hz
      exact ⟨_, by rw [hbv, up_same], by omega⟩
    · rw [tau_ne e1] at ht
      have ho' : e < j ∨ 1 ≤ k := by omega
      have hne : G.fr e ≠ b := fun q => by
        rw [if_pos q] at ht
        have := tau_le (k := k) he hj ho' e1
        omega
      rw [up_ne hne] at hz
      rw [if_neg hne] at ht
      obtain ⟨y, hy, hle⟩ := B.cl e he ho' ht z hz
      by_cases e2 : G.to e = b
      · rw [e2, up_same]
        have := hb y (by rw [← e2]; exact hy)
        exact ⟨_, rfl, by omega⟩
      · rw [up_ne e2]
        exact ⟨_, hy, hle⟩
  · by_cases e1 : w = b
    · subst e1
      rw [up_same] at h
      cases h
      have := B.ub (G.fr j)
      by_cases e2 : G.fr j = w
      · simp only [e2, if_true] at hu; omega
      · simp only [if_true, if_neg e2] at hu; omega
    · rw [up_ne e1] at h hy
      rw [if_neg e1] at hu
      by_cases e2 : G.fr e = b
      · rw [e2, up_same] at hz
        cases hz
        obtain ⟨_, _, z0, y0, h3, h4, h5⟩ := B.pd w e h
        have := hb z0 (by rw [← e2]; exact h3)
        rw [hy] at h4
        cases h4
        omega
      · rw [up_ne e2] at hz
        rw [if_neg e2] at hu
        exact B.st w e z y h hz hy hu
  · by_cases e1 : v = b
    · subst e1
      rw [up_same] at h
      cases h
      rw [hc]
      exact self hf
    · rw [up_ne e1] at h
      exact B.self v e h hf
  · by_cases e1 : v = b
    · subst e1
      rw [up_same] at h
      cases h
      have h1 := hg j hj
      have h2 := B.lo g hg h0 _ _ hx
      rw [hbv, hc] at h1
      omega
    · rw [up_ne e1] at h
      exact B.lo g hg h0 v y h
  · obtain ⟨z, hz, hle⟩ := B.st0 v y h
    by_cases e1 : v = b
    · subst e1
      rw [up_same]
      have := hb z hz
      exact ⟨_, rfl, by omega⟩
    · rw [up_ne e1]
      exact ⟨z, hz, hle⟩
/-! ### from the last one back -/
def nx (G : Fr) (p : Nat → Option Nat) (v : Nat) : Nat := G.fr ((p v).getD 0)
def ch (G : Fr) (p : Nat → Option Nat) (v : Nat) : Nat → Nat
  | 0 => v
  | i + 1 => nx G p (ch G p v i)
theorem BF.chain {G : Fr} {f0 f : Nat → Option Int} {k : Nat} {p : Nat → Option Nat} {u : Nat → Nat} (B : BF G f0 k 0 f p u) {v n : Nat} (hv : n * G.E < u v) :
    ∀ i, i ≤ n → (n - i) * G.E < u (ch G p v i)
  | 0, _ => hv
  | i + 1, hi => by
    have ih := B.chain hv i (by omega)
    obtain ⟨d, hd⟩ : ∃ d, n - i = d + 1 := ⟨n - i - 1, by omega⟩
    have hd' : n - (i + 1) = d := by omega
    rw [hd, Nat.succ_mul] at ih
    rw [hd']
    obtain ⟨e, he⟩ := B.pu _ (Nat.lt_of_le_of_lt (Nat.zero_le _) ih)
    have := B.back _ e he (by omega)
    show d * G.E < u (G.fr ((p (ch G p v i)).getD 0))
    rw [he]
    show d * G.E < u (G.fr e)
    omega
/-- the ends from i back to d -/
def rv (G : Fr) (p : Nat → Option Nat) (v i : Nat) : Nat → List Nat
  | 0 => []
  | d + 1 => rv G p v i d ++ [(p (ch G p v (i - (d + 1)))).getD 0]
/-- d places back from the i-th one -/
theorem BF.rvs {G : Fr} {f0 f : Nat → Option Int} {k : Nat} {p : Nat → Option Nat} {u : Nat → Nat} (B : BF G f0 k 0 f p u) {v i : Nat} (hp : ∀ t, t < i → 0 < u (ch G p v t)) :
    ∀ d, d ≤ i → WayS G (ch G p v i) (rv G p v i d) (ch G p v (i - d)) ∧ (1 ≤ d →
      ∃ x y, f (ch G p v i) = some x ∧ f (ch G p v (i - d)) = some y ∧ wayC G (rv G p v i d) ≤ y - x ∧ (wayC G (rv G p v i d) = y - x → u (ch G p v i) ≤ u (ch G p v (i - d)) ∧ u (ch G p v (i - d + 1)) ≤ u (ch G p v (i - d)) ∧ u (ch G p v i) ≤ u (ch G p v (i - d + 1))))
  | 0, _ => ⟨.nil, fun h => absurd h (by decide)⟩
  | d + 1, hd => by
    obtain ⟨hw, hs⟩ := B.rvs hp d (by omega)
    have hpt := hp (i - (d + 1)) (by omega)
    obtain ⟨e, he⟩ := B.pu _ hpt
    obtain ⟨h1, h2, z, y, h3, h4, h5⟩ := B.pd _ e he
    have en : i - (d + 1) + 1 = i - d := by omega
    have hn : G.fr e = ch G p v (i - d) := by
      rw [← en]
      show _ = G.fr ((p (ch G p v (i - (d + 1)))).getD 0)
      rw [he]
      rfl
    have hr : rv G p v i (d + 1) = rv G p v i d ++ [e] := by
      show _ ++ [(p _).getD 0] = _
      rw [he]
      rfl
    have hsn : WayS G (ch G p v i) (rv G p v i d ++ [e]) (G.to e) := .snoc hw h1 hn
    rw [h2] at hsn
    refine ⟨by rw [hr]; exact hsn, fun _ => ?_⟩
    rw [hr, wayC_snoc, en]
    have hst := B.st _ e z y he h3 h4
    rw [hn] at hst h3
    by_cases hd0 : d = 0
    · subst hd0
      have ei : i - 0 = i := Nat.sub_zero i
      rw [ei] at h3 hst ⊢
      refine ⟨z, y, h3, h4, ?_, fun heq => ?_⟩
      · show 0 + G.cost e ≤ _
        omega
      · have heq : 0 + G.cost e = y - z := heq
        have : u (ch G p v i) ≤ u (ch G p v (i - (0 + 1))) := Nat.le_of_not_lt fun q => by have := hst q; omega
        exact ⟨this, this, Nat.le_refl _⟩
    · obtain ⟨x, y', g1, g2, g3, g4⟩ := hs (by omega)
      rw [h3] at g2
      cases g2
      refine ⟨x, y, g1, h4, by omega, fun heq => ?_⟩
      obtain ⟨q1, _, _⟩ := g4 (by omega)
      have : u (ch G p v (i - d)) ≤ u (ch G p v (i - (d + 1))) := Nat.le_of_not_lt fun q => by have := hst q; omega
      exact ⟨by omega, this, q1⟩
/-- a ring met costs less than nothing -/
theorem BF.neg {G : Fr} {f0 f : Nat → Option Int} {k : Nat} {p : Nat → Option Nat} {u : Nat → Nat} (B : BF G f0 k 0 f p u) {v i q : Nat} (hp : ∀ t, t < i → 0 < u (ch G p v t)) (hq : q < i) (e : ch G p v q = ch G p v i)
    (nd : ∀ s t, s < i → t < i → ch G p v s = ch G p v t → s = t) : WayS G (ch G p v i) (rv G p v i (i - q)) (ch G p v i) ∧ wayC G (rv G p v i (i - q)) < 0 := by
  obtain ⟨hw, hs⟩ := B.rvs hp (i - q) (by omega)
  obtain ⟨x, y, g1, g2, g3, g4⟩ := hs (by omega)
  have eq1 : i - (i - q) = q := by omega
  rw [eq1] at hw g2 g4
  rw [e] at hw
  refine ⟨hw, ?_⟩
  rw [e, g1] at g2
  cases g2
  rcases Int.lt_or_eq_of_le g3 with h | h
  · omega
  · obtain ⟨a1, a2, a3⟩ := g4 h
    have hu : u (ch G p v (q + 1)) = u (ch G p v q) := by rw [e] at *; omega
    have hc := B.inj _ _ (by rw [hu]; exact hp q hq) hu
    by_cases h1 : q + 1 < i
    · have := nd _ _ h1 hq hc
      omega
    · have h1 : q + 1 = i := by omega
      obtain ⟨e', he'⟩ := B.pu _ (hp q hq)
      have hfr : G.fr e' = ch G p v q := by
        rw [← hc]
        show _ = G.fr ((p (ch G p v q)).getD 0)
        rw [he']
        rfl
      have hneg := B.self _ e' he' hfr
      have hiq : i - q = 0 + 1 := by omega
      have : rv G p v i (i - q) = [] ++ [e'] := by
        rw [hiq]
        show [] ++ [(p (ch G p v (i - (0 + 1)))).getD 0] = _
        have : i - (0 + 1) = q := by omega
        rw [this, he']
        rfl
      rw [this, wayC_snoc]
      show (0 : Int) + G.cost e' < 0
      omega
end Fw
/-! ## K2c -/
set_option linter.all false
set_option maxRecDepth 100000
set_option maxHeartbeats 1000000
/-! Heights and least costs: plain. -/
namespace Fw
def Pot (G : Fr) (g : Nat → Int) : Prop := ∀ e, e < G.E → g (G.to e) ≤ g (G.fr e) + G.cost e
theorem fold_inv {α : Type} {I : α → Prop} (f : α → Nat → α) {m : Nat} (hf : ∀ a y, y < m → I a → I (f a y)) : ∀ k, k ≤ m → ∀ a, I a → I ((List.range k).foldl f a)
  | 0, _, a, h => h
  | k + 1, hk, a, h => by
    rw [foldl_range]
    exact hf _ k (by omega) (fold_inv f hf k (by omega) a h)
def Ab (n : Nat) (g : Nat → Int) (T : Tbl) : Prop := Shp n T ∧ ∀ x y, x < n → y < n → g y - g x ≤ gt T x y
theorem Ab.st {n : Nat} {g : Nat → Int} {T : Tbl} (h : Ab n g T) {x y : Nat} {v : Int} (hx : x < n) (hy : y < n) (hv : g y - g x ≤ v) : Ab n g (st T x y v) :=
  ⟨h.1.st hx, fun a b ha hb => by
    rw [gt_st h.1 hx hy]
    split
    · rename_i e; rw [e.1, e.2]; exact hv
    · exact h.2 a b ha hb⟩
theorem Ab.fw {G : Fr} (hG : G.Sh) {g : Nat → Int} (hg : Pot G g) (hs : ∀ x y, x < G.n → y < G.n → g y - g x ≤ far) : Ab G.n g (fwT G) := by
  have h0 : Ab G.n g (tb0 G.n) := ⟨tb0_shp _, fun x y hx hy => by
    rw [tb0_gt hx hy]
    split
    · rename_i e; rw [e]; omega
    · exact hs x y hx hy⟩
  have h1 : Ab G.n g (tb1 G) := fold_inv (I := Ab G.n g) (tbE G) (m := 2 * G.roads.length) (fun T e he h => by
    obtain ⟨hf, ht⟩ := fr_to_lt hG he
    unfold tbE
    refine h.st hf ht ?_
    have := h.2 _ _ hf ht
    have := hg e he
    omega) _ (Nat.le_refl _) _ h0
  refine fold_inv (I := Ab G.n g) (tbZ G.n) (m := G.n) (fun T z hz h => ?_) _ (Nat.le_refl _) _ h1
  refine fold_inv (I := Ab G.n g) (tbX G.n z) (m := G.n) (fun T x hx h => ?_) _ (Nat.le_refl _) _ h
  refine fold_inv (I := Ab G.n g) (tbS z x) (m := G.n) (fun T y hy h => ?_) _ (Nat.le_refl _) _ h
  unfold tbS
  refine h.st hx hy ?_
  have := h.2 _ _ hx hy
  have := h.2 _ _ hx hz
  have := h.2 _ _ hz hy
  omega
theorem Ab.ok {G : Fr} {g : Nat → Int} (h : Ab G.n g (fwT G)) : fwOk G = true := by
  unfold fwOk
  refine List.all_eq_true.mpr fun x hx => decide_eq_true ?_
  have hx := List.mem_range.mp hx
  have := h.2 x x hx hx
  omega
/-- the diagonal -/
theorem fw_diag {G : Fr} (hG : G.Sh) {x : Nat} (hx : x < G.n) : gt (fwT G) x x ≤ 0 := by
  have h1 : Shp G.n (tb1 G) ∧ gt (tb1 G) x x ≤ 0 := fold_inv (I := fun T => Shp G.n T ∧ gt T x x ≤ 0) (tbE G) (m := 2 * G.roads.length) (fun T e he h => by
    obtain ⟨hf, ht⟩ := fr_to_lt hG he
    unfold tbE
    refine ⟨h.1.st hf, ?_⟩
    rw [gt_st h.1 hf ht]
    split
    · rename_i e2
      have := h.2
      rw [e2.1] at this
      have e3 : G.fr e = G.to e := by rw [← e2.1]; exact e2.2
      rw [← e3]
      omega
    · exact h.2) _ (Nat.le_refl _) _ ⟨tb0_shp _, by rw [tb0_gt hx hx, if_pos rfl]; exact Int.le_refl _⟩
  exact Int.le_trans ((fw_le h1.1 G.n (Nat.le_refl _)).2 x x hx hx) h1.2
/-! ### how far heights are apart -/
def Nr (g : Nat → Int) (C : Int) (met : List Nat) : Prop := ∀ (i : Nat) x, met[i]? = some x → g x - g 0 ≤ C * i ∧ g 0 - g x ≤ C * i
theorem Nr.step {g : Nat → Int} {C : Int} (hC : 0 ≤ C) {met : List Nat} (h : Nr g C met) {p : Nat × Nat} (h1 : g p.1 - g p.2 ≤ C) (h2 : g p.2 - g p.1 ≤ C) : Nr g C (metStep met p) := by
  unfold metStep
  have one : ∀ a b, a ∈ met → g a - g b ≤ C → g b - g a ≤ C → Nr g C (met ++ [b]) := fun a b ha k1 k2 => by
    intro i x hx
    rw [List.getElem?_append] at hx
    split at hx
    · exact h i x hx
    · rename_i hlt
      have hi : i - met.length = 0 := by
        have := (List.getElem?_eq_some_iff.mp hx).1
        simp at this
        omega
      rw [hi] at hx
      simp only [List.getElem?_cons_zero, Option.some.injEq] at hx
      subst hx
      obtain ⟨t, ht⟩ := List.mem_iff_getElem?.mp ha
      have tl := (List.getElem?_eq_some_iff.mp ht).1
      obtain ⟨g1, g2⟩ := h t a ht
      have hm : C * ((t : Int) + 1) ≤ C * i := Int.mul_le_mul_of_nonneg_left (by omega) hC
      rw [Int.mul_add, Int.mul_one] at hm
      omega
  split
  · split
    · rename_i ha
      exact one p.1 p.2 ha h1 h2
    · rename_i h0 ha
      have hb : p.2 ∈ met := Classical.byContradiction fun hb => by simp [ha, hb] at h0
      exact one p.2 p.1 hb h2 h1
  · exact h
theorem Nr.lap {g : Nat → Int} {C : Int} (hC : 0 ≤ C) : ∀ (R : Rds), (∀ p ∈ R, g p.1 - g p.2 ≤ C ∧ g p.2 - g p.1 ≤ C) → ∀ met, Nr g C met → Nr g C (R.foldl metStep met)
  | [], _, _, h => h
  | p :: R, hR, met, h => Nr.lap hC R (fun q hq => hR q (List.mem_cons_of_mem _ hq)) _ (h.step hC (hR p (List.mem_cons_self ..)).1 (hR p (List.mem_cons_self ..)).2)
theorem spread {n : Nat} {R : Rds} {g : Nat → Int} {C : Int} (hC : 0 ≤ C) (hn : 1 ≤ n) (hR : ∀ q ∈ R, q.1 < n ∧ q.2 < n) (hc : ∀ x, x < n → Conn R 0 x) (hg : ∀ p ∈ R, g p.1 - g p.2 ≤ C ∧ g p.2 - g p.1 ≤ C) {x : Nat} (hx : x < n) :
    g x - g 0 ≤ C * n ∧ g 0 - g x ≤ C * n := by
  have hN : ∀ k, Nr g C (metN R k) := fun k => by
    induction k with
    | zero =>
      intro i y hy
      have : i = 0 := by
        have := (List.getElem?_eq_some_iff.mp hy).1
        simp [metN] at this
        omega
      subst this
      simp [metN] at hy
      subst hy
      simp
    | succ k ih => exact Nr.lap hC R hg _ ih
  have hl := (hang_iff hn hR).mpr hc
  have inv := metN_inv (R := R) hn hR n
  obtain ⟨_, all⟩ := nodup_lt n (metN R n) inv.nd fun y hy => (inv.cn y hy).1
  obtain ⟨i, hi⟩ := List.mem_iff_getElem?.mp (all hl x hx)
  have hlt := (List.getElem?_eq_some_iff.mp hi).1
  rw [hl] at hlt
  obtain ⟨g1, g2⟩ := hN n i x hi
  have : C * (i : Int) ≤ C * n := Int.mul_le_mul_of_nonneg_left (by omega) hC
  omega
theorem road_ends {G : Fr} {p : Nat × Nat} (hp : p ∈ G.roads) : ∃ r, r < G.roads.length ∧ G.fr (2 * r) = p.1 ∧ G.to (2 * r) = p.2 ∧ G.fr (2 * r + 1) = p.2 ∧ G.to (2 * r + 1) = p.1 := by
  obtain ⟨r, hr, rfl⟩ := List.mem_iff_getElem.mp hp
  refine ⟨r, hr, ?_⟩
  have e1 : (2 * r) % 2 = 0 := by omega
  have e2 : (2 * r + 1) % 2 ≠ 0 := by omega
  have e3 : 2 * r / 2 = r := by omega
  have e4 : (2 * r + 1) / 2 = r := by omega
  unfold Fr.fr Fr.to
  rw [if_pos e1, if_pos e1, if_neg e2, if_neg e2, e3, e4, List.getD_eq_getElem?_getD, List.getElem?_eq_getElem hr]
  exact ⟨rfl, rfl, rfl, rfl⟩
theorem Pot.far {G : Fr} (hG : G.Ok) (hc : ∀ x, x < G.n → Conn G.roads 0 x) {g : Nat → Int} (hg : Pot G g) : ∀ x y, x < G.n → y < G.n → g y - g x ≤ far := fun x y hx hy => by
  have hR : ∀ p ∈ G.roads, g p.1 - g p.2 ≤ 1000000 ∧ g p.2 - g p.1 ≤ 1000000 := fun p hp => by
    obtain ⟨r, hr, h1, h2, h3, h4⟩ := road_ends hp
    have a := hg (2 * r) (by show _ < 2 * _; omega)
    have b := hg (2 * r + 1) (by show _ < 2 * _; omega)
    have ca := cost_bnd hG (e := 2 * r) (by omega)
    have cb := cost_bnd hG (e := 2 * r + 1) (by omega)
    rw [h1, h2] at a
    rw [h3, h4] at b
    omega
  have s1 := spread (C := 1000000) (by decide) hG.n1 hG.rd hc hR hx
  have s2 := spread (C := 1000000) (by decide) hG.n1 hG.rd hc hR hy
  have := hG.n2
  unfold Fw.far
  omega
theorem Pot.ok {G : Fr} (hG : G.Ok) (hc : ∀ x, x < G.n → Conn G.roads 0 x) {g : Nat → Int} (hg : Pot G g) : fwOk G = true := (Ab.fw hG.sh hg (hg.far hG hc)).ok
/-- all is met -/
theorem all_met {G : Fr} (hc : ∀ x, x < G.n → Conn G.roads 0 x) {f : Nat → Option Int} (h : ∀ e, e < G.E → Cl G f e) (h0 : ∃ x, f 0 = some x) {v : Nat} (hv : v < G.n) : ∃ x, f v = some x := by
  have key : ∀ y, Conn G.roads 0 y → ∃ x, f y = some x := fun y k => by
    induction k with
    | refl => exact h0
    | fwd _ m ih =>
      obtain ⟨x, hx⟩ := ih
      obtain ⟨r, hr, h1, h2, _, _⟩ := road_ends m
      obtain ⟨y, hy, _⟩ := h (2 * r) (by show _ < 2 * _; omega) x (by rw [h1]; exact hx)
      rw [h2] at hy
      exact ⟨y, hy⟩
    | bwd _ m ih =>
      obtain ⟨x, hx⟩ := ih
      obtain ⟨r, hr, _, _, h1, h2⟩ := road_ends m
      obtain ⟨y, hy, _⟩ := h (2 * r + 1) (by show _ < 2 * _; omega) x (by rw [h1]; exact hx)
      rw [h2] at hy
      exact ⟨y, hy⟩
  exact key v (hc v hv)
theorem pot_of {G : Fr} (hG : G.Sh) {f : Nat → Option Int} (h : ∀ e, e < G.E → Cl G f e) (ha : ∀ v, v < G.n → ∃ x, f v = some x) : Pot G fun v => (f v).getD 0 := fun e he => by
  obtain ⟨hf, ht⟩ := fr_to_lt hG he
  obtain ⟨x, hx⟩ := ha _ hf
  obtain ⟨y, hy, hle⟩ := h e he x hx
  show (f (G.to e)).getD 0 ≤ (f (G.fr e)).getD 0 + _
  rw [hx, hy]
  exact hle
/-- no ring: heights -/
theorem ok_of {G : Fr} (hG : G.Ok) (hc : ∀ x, x < G.n → Conn G.roads 0 x) {f : Nat → Option Int} (h : ∀ e, e < G.E → Cl G f e) (h0 : ∃ x, f 0 = some x) : fwOk G = true :=
  (pot_of hG.sh h fun v hv => all_met hc h h0 hv).ok hG hc
theorem ring_no {G : Fr} (hG : G.Ok) (F : FwG G) {v : Nat} (hv : v < G.n) {es : List Nat} (hw : WayS G v es v) : 0 ≤ wayC G es := by
  have := (way_le hG.sh F hw hv hv).1
  omega
theorem FwG.pot {G : Fr} (hG : G.Ok) (F : FwG G) {x : Nat} (hx : x < G.n) : Pot G fun v => gt (fwT G) x v := fun e he => by
  obtain ⟨hf, ht⟩ := fr_to_lt hG.sh he
  have := F.tri x (G.to e) (G.fr e) hx ht hf
  have := F.stp e he
  show gt _ _ _ ≤ gt _ _ _ + _
  omega
/-- least costs from x -/
theorem least_of {G : Fr} (hG : G.Ok) (hc : ∀ x, x < G.n → Conn G.roads 0 x) (hok : fwOk G = true) {x : Nat} (hx : x < G.n) {f : Nat → Option Int} (h : ∀ e, e < G.E → Cl G f e) (hx0 : ∃ z, f x = some z ∧ z ≤ 0) (ha : ∀ v, v < G.n → ∃ z, f v = some z)
    (lo : ∀ v y, f v = some y → gt (fwT G) x v ≤ y) {v : Nat} (hv : v < G.n) : f v = some (gt (fwT G) x v) := by
  obtain ⟨z, hz⟩ := ha v hv
  obtain ⟨w, hw, hw0⟩ := hx0
  have P := pot_of hG.sh h ha
  have A := (Ab.fw hG.sh P (P.far hG hc)).2 x v hx hv
  have e1 : (f v).getD 0 = z := by rw [hz]; rfl
  have e2 : (f x).getD 0 = w := by rw [hw]; rfl
  have A : z - w ≤ gt (fwT G) x v := by
    have := A
    simp only [e1, e2] at this
    exact this
  have := lo v z hz
  rw [hz]
  congr 1
  omega
end Fw
/-! ## EvH -/
set_option linter.all false
/-! The same equations with a shared slot named by its place: each is used at the head, ahead of what stands behind it. -/
namespace Fw
section
variable {S : Type} {ρ : Env} {s : S} {a0 a1 a2 a3 a4 a5 a6 a7 : Option Sl} {d : D} {Q : D → Env → S → Prop}
theorem v0 : wE (eV 0) (some (.sh d) :: ρ) s Q = Q d (some (.sh d) :: ρ) s := by rw [v_eV]; rfl
theorem v1 : wE (eV 1) (a0 :: some (.sh d) :: ρ) s Q = Q d (a0 :: some (.sh d) :: ρ) s := by rw [v_eV]; rfl
theorem v2 : wE (eV 2) (a0 :: a1 :: some (.sh d) :: ρ) s Q = Q d (a0 :: a1 :: some (.sh d) :: ρ) s := by rw [v_eV]; rfl
theorem v3 : wE (eV 3) (a0 :: a1 :: a2 :: some (.sh d) :: ρ) s Q = Q d (a0 :: a1 :: a2 :: some (.sh d) :: ρ) s := by rw [v_eV]; rfl
theorem v4 : wE (eV 4) (a0 :: a1 :: a2 :: a3 :: some (.sh d) :: ρ) s Q = Q d (a0 :: a1 :: a2 :: a3 :: some (.sh d) :: ρ) s := by rw [v_eV]; rfl
theorem v5 : wE (eV 5) (a0 :: a1 :: a2 :: a3 :: a4 :: some (.sh d) :: ρ) s Q = Q d (a0 :: a1 :: a2 :: a3 :: a4 :: some (.sh d) :: ρ) s := by rw [v_eV]; rfl
theorem v6 : wE (eV 6) (a0 :: a1 :: a2 :: a3 :: a4 :: a5 :: some (.sh d) :: ρ) s Q = Q d (a0 :: a1 :: a2 :: a3 :: a4 :: a5 :: some (.sh d) :: ρ) s := by rw [v_eV]; rfl
theorem v7 : wE (eV 7) (a0 :: a1 :: a2 :: a3 :: a4 :: a5 :: a6 :: some (.sh d) :: ρ) s Q = Q d (a0 :: a1 :: a2 :: a3 :: a4 :: a5 :: a6 :: some (.sh d) :: ρ) s := by rw [v_eV]; rfl
end
end Fw
/-! ## EvW -/
set_option linter.all false
/-! slots 8 to 23, by place -/
namespace Fw
section
variable {S : Type} {ρ : Env} {s : S} {a0 a1 a2 a3 a4 a5 a6 a7 a8 a9 a10 a11 a12 a13 a14 a15 a16 a17 a18 a19 a20 a21 a22 a23 a24 a25 a26 a27 : Option Sl} {d : D} {Q : D → Env → S → Prop}
theorem v8 : wE (eV 8) (a0 :: a1 :: a2 :: a3 :: a4 :: a5 :: a6 :: a7 :: some (.sh d) :: ρ) s Q = Q d (a0 :: a1 :: a2 :: a3 :: a4 :: a5 :: a6 :: a7 :: some (.sh d) :: ρ) s := by rw [v_eV]; rfl
theorem v9 : wE (eV 9) (a0 :: a1 :: a2 :: a3 :: a4 :: a5 :: a6 :: a7 :: a8 :: some (.sh d) :: ρ) s Q = Q d (a0 :: a1 :: a2 :: a3 :: a4 :: a5 :: a6 :: a7 :: a8 :: some (.sh d) :: ρ) s := by rw [v_eV]; rfl
theorem v10 : wE (eV 10) (a0 :: a1 :: a2 :: a3 :: a4 :: a5 :: a6 :: a7 :: a8 :: a9 :: some (.sh d) :: ρ) s Q = Q d (a0 :: a1 :: a2 :: a3 :: a4 :: a5 :: a6 :: a7 :: a8 :: a9 :: some (.sh d) :: ρ) s := by rw [v_eV]; rfl
theorem v11 : wE (eV 11) (a0 :: a1 :: a2 :: a3 :: a4 :: a5 :: a6 :: a7 :: a8 :: a9 :: a10 :: some (.sh d) :: ρ) s Q = Q d (a0 :: a1 :: a2 :: a3 :: a4 :: a5 :: a6 :: a7 :: a8 :: a9 :: a10 :: some (.sh d) :: ρ) s := by rw [v_eV]; rfl
theorem v12 : wE (eV 12) (a0 :: a1 :: a2 :: a3 :: a4 :: a5 :: a6 :: a7 :: a8 :: a9 :: a10 :: a11 :: some (.sh d) :: ρ) s Q = Q d (a0 :: a1 :: a2 :: a3 :: a4 :: a5 :: a6 :: a7 :: a8 :: a9 :: a10 :: a11 :: some (.sh d) :: ρ) s := by rw [v_eV]; rfl
theorem v13 : wE (eV 13) (a0 :: a1 :: a2 :: a3 :: a4 :: a5 :: a6 :: a7 :: a8 :: a9 :: a10 :: a11 :: a12 :: some (.sh d) :: ρ) s Q = Q d (a0 :: a1 :: a2 :: a3 :: a4 :: a5 :: a6 :: a7 :: a8 :: a9 :: a10 :: a11 :: a12 :: some (.sh d) :: ρ) s := by rw [v_eV]; rfl
theorem v14 : wE (eV 14) (a0 :: a1 :: a2 :: a3 :: a4 :: a5 :: a6 :: a7 :: a8 :: a9 :: a10 :: a11 :: a12 :: a13 :: some (.sh d) :: ρ) s Q = Q d (a0 :: a1 :: a2 :: a3 :: a4 :: a5 :: a6 :: a7 :: a8 :: a9 :: a10 :: a11 :: a12 :: a13 :: some (.sh d) :: ρ) s := by rw [v_eV]; rfl
theorem v15 : wE (eV 15) (a0 :: a1 :: a2 :: a3 :: a4 :: a5 :: a6 :: a7 :: a8 :: a9 :: a10 :: a11 :: a12 :: a13 :: a14 :: some (.sh d) :: ρ) s Q = Q d (a0 :: a1 :: a2 :: a3 :: a4 :: a5 :: a6 :: a7 :: a8 :: a9 :: a10 :: a11 :: a12 :: a13 :: a14 :: some (.sh d) :: ρ) s := by rw [v_eV]; rfl
theorem v16 : wE (eV 16) (a0 :: a1 :: a2 :: a3 :: a4 :: a5 :: a6 :: a7 :: a8 :: a9 :: a10 :: a11 :: a12 :: a13 :: a14 :: a15 :: some (.sh d) :: ρ) s Q = Q d (a0 :: a1 :: a2 :: a3 :: a4 :: a5 :: a6 :: a7 :: a8 :: a9 :: a10 :: a11 :: a12 :: a13 :: a14 :: a15 :: some (.sh d) :: ρ) s := by rw [v_eV]; rfl
theorem v17 : wE (eV 17) (a0 :: a1 :: a2 :: a3 :: a4 :: a5 :: a6 :: a7 :: a8 :: a9 :: a10 :: a11 :: a12 :: a13 :: a14 :: a15 :: a16 :: some (.sh d) :: ρ) s Q = Q d (a0 :: a1 :: a2 :: a3 :: a4 :: a5 :: a6 :: a7 :: a8 :: a9 :: a10 :: a11 :: a12 :: a13 :: a14 :: a15 :: a16 :: some (.sh d) :: ρ) s := by rw [v_eV]; rfl
theorem v18 : wE (eV 18) (a0 :: a1 :: a2 :: a3 :: a4 :: a5 :: a6 :: a7 :: a8 :: a9 :: a10 :: a11 :: a12 :: a13 :: a14 :: a15 :: a16 :: a17 :: some (.sh d) :: ρ) s Q = Q d (a0 :: a1 :: a2 :: a3 :: a4 :: a5 :: a6 :: a7 :: a8 :: a9 :: a10 :: a11 :: a12 :: a13 :: a14 :: a15 :: a16 :: a17 :: some (.sh d) :: ρ) s := by rw [v_eV]; rfl
theorem v19 : wE (eV 19) (a0 :: a1 :: a2 :: a3 :: a4 :: a5 :: a6 :: a7 :: a8 :: a9 :: a10 :: a11 :: a12 :: a13 :: a14 :: a15 :: a16 :: a17 :: a18 :: some (.sh d) :: ρ) s Q = Q d (a0 :: a1 :: a2 :: a3 :: a4 :: a5 :: a6 :: a7 :: a8 :: a9 :: a10 :: a11 :: a12 :: a13 :: a14 :: a15 :: a16 :: a17 :: a18 :: some (.sh d) :: ρ) s := by rw [v_eV]; rfl
theorem v20 : wE (eV 20) (a0 :: a1 :: a2 :: a3 :: a4 :: a5 :: a6 :: a7 :: a8 :: a9 :: a10 :: a11 :: a12 :: a13 :: a14 :: a15 :: a16 :: a17 :: a18 :: a19 :: some (.sh d) :: ρ) s Q = Q d (a0 :: a1 :: a2 :: a3 :: a4 :: a5 :: a6 :: a7 :: a8 :: a9 :: a10 :: a11 :: a12 :: a13 :: a14 :: a15 :: a16 :: a17 :: a18 :: a19 :: some (.sh d) :: ρ) s := by rw [v_eV]; rfl
theorem v21 : wE (eV 21) (a0 :: a1 :: a2 :: a3 :: a4 :: a5 :: a6 :: a7 :: a8 :: a9 :: a10 :: a11 :: a12 :: a13 :: a14 :: a15 :: a16 :: a17 :: a18 :: a19 :: a20 :: some (.sh d) :: ρ) s Q = Q d (a0 :: a1 :: a2 :: a3 :: a4 :: a5 :: a6 :: a7 :: a8 :: a9 :: a10 :: a11 :: a12 :: a13 :: a14 :: a15 :: a16 :: a17 :: a18 :: a19 :: a20 :: some (.sh d) :: ρ) s := by rw [v_eV]; rfl
theorem v22 : wE (eV 22) (a0 :: a1 :: a2 :: a3 :: a4 :: a5 :: a6 :: a7 :: a8 :: a9 :: a10 :: a11 :: a12 :: a13 :: a14 :: a15 :: a16 :: a17 :: a18 :: a19 :: a20 :: a21 :: some (.sh d) :: ρ) s Q = Q d (a0 :: a1 :: a2 :: a3 :: a4 :: a5 :: a6 :: a7 :: a8 :: a9 :: a10 :: a11 :: a12 :: a13 :: a14 :: a15 :: a16 :: a17 :: a18 :: a19 :: a20 :: a21 :: some (.sh d) :: ρ) s := by rw [v_eV]; rfl
theorem v23 : wE (eV 23) (a0 :: a1 :: a2 :: a3 :: a4 :: a5 :: a6 :: a7 :: a8 :: a9 :: a10 :: a11 :: a12 :: a13 :: a14 :: a15 :: a16 :: a17 :: a18 :: a19 :: a20 :: a21 :: a22 :: some (.sh d) :: ρ) s Q = Q d (a0 :: a1 :: a2 :: a3 :: a4 :: a5 :: a6 :: a7 :: a8 :: a9 :: a10 :: a11 :: a12 :: a13 :: a14 :: a15 :: a16 :: a17 :: a18 :: a19 :: a20 :: a21 :: a22 :: some (.sh d) :: ρ) s := by rw [v_eV]; rfl
theorem v24 : wE (eV 24) (a0 :: a1 :: a2 :: a3 :: a4 :: a5 :: a6 :: a7 :: a8 :: a9 :: a10 :: a11 :: a12 :: a13 :: a14 :: a15 :: a16 :: a17 :: a18 :: a19 :: a20 :: a21 :: a22 :: a23 :: some (.sh d) :: ρ) s Q = Q d (a0 :: a1 :: a2 :: a3 :: a4 :: a5 :: a6 :: a7 :: a8 :: a9 :: a10 :: a11 :: a12 :: a13 :: a14 :: a15 :: a16 :: a17 :: a18 :: a19 :: a20 :: a21 :: a22 :: a23 :: some (.sh d) :: ρ) s := by rw [v_eV]; rfl
theorem v25 : wE (eV 25) (a0 :: a1 :: a2 :: a3 :: a4 :: a5 :: a6 :: a7 :: a8 :: a9 :: a10 :: a11 :: a12 :: a13 :: a14 :: a15 :: a16 :: a17 :: a18 :: a19 :: a20 :: a21 :: a22 :: a23 :: a24 :: some (.sh d) :: ρ) s Q = Q d (a0 :: a1 :: a2 :: a3 :: a4 :: a5 :: a6 :: a7 :: a8 :: a9 :: a10 :: a11 :: a12 :: a13 :: a14 :: a15 :: a16 :: a17 :: a18 :: a19 :: a20 :: a21 :: a22 :: a23 :: a24 :: some (.sh d) :: ρ) s := by rw [v_eV]; rfl
theorem v26 : wE (eV 26) (a0 :: a1 :: a2 :: a3 :: a4 :: a5 :: a6 :: a7 :: a8 :: a9 :: a10 :: a11 :: a12 :: a13 :: a14 :: a15 :: a16 :: a17 :: a18 :: a19 :: a20 :: a21 :: a22 :: a23 :: a24 :: a25 :: some (.sh d) :: ρ) s Q = Q d (a0 :: a1 :: a2 :: a3 :: a4 :: a5 :: a6 :: a7 :: a8 :: a9 :: a10 :: a11 :: a12 :: a13 :: a14 :: a15 :: a16 :: a17 :: a18 :: a19 :: a20 :: a21 :: a22 :: a23 :: a24 :: a25 :: some (.sh d) :: ρ) s := by rw [v_eV]; rfl
theorem v27 : wE (eV 27) (a0 :: a1 :: a2 :: a3 :: a4 :: a5 :: a6 :: a7 :: a8 :: a9 :: a10 :: a11 :: a12 :: a13 :: a14 :: a15 :: a16 :: a17 :: a18 :: a19 :: a20 :: a21 :: a22 :: a23 :: a24 :: a25 :: a26 :: some (.sh d) :: ρ) s Q = Q d (a0 :: a1 :: a2 :: a3 :: a4 :: a5 :: a6 :: a7 :: a8 :: a9 :: a10 :: a11 :: a12 :: a13 :: a14 :: a15 :: a16 :: a17 :: a18 :: a19 :: a20 :: a21 :: a22 :: a23 :: a24 :: a25 :: a26 :: some (.sh d) :: ρ) s := by rw [v_eV]; rfl
end
section
variable {S : Type} {ρ : Env} {s : S} {b0 b1 b2 b3 b4 b5 b6 b7 b8 b9 b10 b11 : E S} {Q : D → Env → S → Prop}
theorem w_eTup0 : wE (eTup aNil) ρ s Q = Q (.tup []) ρ s := by
  simp only [w_eTup, w_aCons, w_aNil, List.length_cons, List.length_nil]
  simp [wD, LIM]
theorem w_eTup1 : wE (eTup (aCons b0 aNil)) ρ s Q = wE b0 ρ s fun x0 ρ s => Q (.tup [x0]) ρ s := by
  simp only [w_eTup, w_aCons, w_aNil, List.length_cons, List.length_nil]
  simp [wD, LIM]
theorem w_eTup2 : wE (eTup (aCons b0 (aCons b1 aNil))) ρ s Q = wE b0 ρ s fun x0 ρ s => wE b1 ρ s fun x1 ρ s => Q (.tup [x0, x1]) ρ s := by
  simp only [w_eTup, w_aCons, w_aNil, List.length_cons, List.length_nil]
  simp [wD, LIM]
theorem w_eTup3 : wE (eTup (aCons b0 (aCons b1 (aCons b2 aNil)))) ρ s Q = wE b0 ρ s fun x0 ρ s => wE b1 ρ s fun x1 ρ s => wE b2 ρ s fun x2 ρ s => Q (.tup [x0, x1, x2]) ρ s := by
  simp only [w_eTup, w_aCons, w_aNil, List.length_cons, List.length_nil]
  simp [wD, LIM]
theorem w_eTup4 : wE (eTup (aCons b0 (aCons b1 (aCons b2 (aCons b3 aNil))))) ρ s Q = wE b0 ρ s fun x0 ρ s => wE b1 ρ s fun x1 ρ s => wE b2 ρ s fun x2 ρ s => wE b3 ρ s fun x3 ρ s => Q (.tup [x0, x1, x2, x3]) ρ s := by
  simp only [w_eTup, w_aCons, w_aNil, List.length_cons, List.length_nil]
  simp [wD, LIM]
theorem w_eTup5 : wE (eTup (aCons b0 (aCons b1 (aCons b2 (aCons b3 (aCons b4 aNil)))))) ρ s Q = wE b0 ρ s fun x0 ρ s => wE b1 ρ s fun x1 ρ s => wE b2 ρ s fun x2 ρ s => wE b3 ρ s fun x3 ρ s => wE b4 ρ s fun x4 ρ s => Q (.tup [x0, x1, x2, x3, x4]) ρ s := by
  simp only [w_eTup, w_aCons, w_aNil, List.length_cons, List.length_nil]
  simp [wD, LIM]
theorem w_eTup6 : wE (eTup (aCons b0 (aCons b1 (aCons b2 (aCons b3 (aCons b4 (aCons b5 aNil))))))) ρ s Q = wE b0 ρ s fun x0 ρ s => wE b1 ρ s fun x1 ρ s => wE b2 ρ s fun x2 ρ s => wE b3 ρ s fun x3 ρ s => wE b4 ρ s fun x4 ρ s => wE b5 ρ s fun x5 ρ s => Q (.tup [x0, x1, x2, x3, x4, x5]) ρ s := by
  simp only [w_eTup, w_aCons, w_aNil, List.length_cons, List.length_nil]
  simp [wD, LIM]
theorem w_eTup7 : wE (eTup (aCons b0 (aCons b1 (aCons b2 (aCons b3 (aCons b4 (aCons b5 (aCons b6 aNil)))))))) ρ s Q = wE b0 ρ s fun x0 ρ s => wE b1 ρ s fun x1 ρ s => wE b2 ρ s fun x2 ρ s => wE b3 ρ s fun x3 ρ s => wE b4 ρ s fun x4 ρ s => wE b5 ρ s fun x5 ρ s => wE b6 ρ s fun x6 ρ s => Q (.tup [x0, x1, x2, x3, x4, x5, x6]) ρ s := by
  simp only [w_eTup, w_aCons, w_aNil, List.length_cons, List.length_nil]
  simp [wD, LIM]
theorem w_eTup8 : wE (eTup (aCons b0 (aCons b1 (aCons b2 (aCons b3 (aCons b4 (aCons b5 (aCons b6 (aCons b7 aNil))))))))) ρ s Q = wE b0 ρ s fun x0 ρ s => wE b1 ρ s fun x1 ρ s => wE b2 ρ s fun x2 ρ s => wE b3 ρ s fun x3 ρ s => wE b4 ρ s fun x4 ρ s => wE b5 ρ s fun x5 ρ s => wE b6 ρ s fun x6 ρ s => wE b7 ρ s fun x7 ρ s => Q (.tup [x0, x1, x2, x3, x4, x5, x6, x7]) ρ s := by
  simp only [w_eTup, w_aCons, w_aNil, List.length_cons, List.length_nil]
  simp [wD, LIM]
theorem w_eTup9 : wE (eTup (aCons b0 (aCons b1 (aCons b2 (aCons b3 (aCons b4 (aCons b5 (aCons b6 (aCons b7 (aCons b8 aNil)))))))))) ρ s Q = wE b0 ρ s fun x0 ρ s => wE b1 ρ s fun x1 ρ s => wE b2 ρ s fun x2 ρ s => wE b3 ρ s fun x3 ρ s => wE b4 ρ s fun x4 ρ s => wE b5 ρ s fun x5 ρ s => wE b6 ρ s fun x6 ρ s => wE b7 ρ s fun x7 ρ s => wE b8 ρ s fun x8 ρ s => Q (.tup [x0, x1, x2, x3, x4, x5, x6, x7, x8]) ρ s := by
  simp only [w_eTup, w_aCons, w_aNil, List.length_cons, List.length_nil]
  simp [wD, LIM]
theorem w_eTup10 : wE (eTup (aCons b0 (aCons b1 (aCons b2 (aCons b3 (aCons b4 (aCons b5 (aCons b6 (aCons b7 (aCons b8 (aCons b9 aNil))))))))))) ρ s Q = wE b0 ρ s fun x0 ρ s => wE b1 ρ s fun x1 ρ s => wE b2 ρ s fun x2 ρ s => wE b3 ρ s fun x3 ρ s => wE b4 ρ s fun x4 ρ s => wE b5 ρ s fun x5 ρ s => wE b6 ρ s fun x6 ρ s => wE b7 ρ s fun x7 ρ s => wE b8 ρ s fun x8 ρ s => wE b9 ρ s fun x9 ρ s => Q (.tup [x0, x1, x2, x3, x4, x5, x6, x7, x8, x9]) ρ s := by
  simp only [w_eTup, w_aCons, w_aNil, List.length_cons, List.length_nil]
  simp [wD, LIM]
theorem w_eLst0 : wE (eLst aNil) ρ s Q = Q (.lst []) ρ s := by
  simp only [w_eLst, w_aCons, w_aNil, List.length_cons, List.length_nil]
  simp [wD, LIM]
theorem w_eLst1 : wE (eLst (aCons b0 aNil)) ρ s Q = wE b0 ρ s fun x0 ρ s => Q (.lst [x0]) ρ s := by
  simp only [w_eLst, w_aCons, w_aNil, List.length_cons, List.length_nil]
  simp [wD, LIM]
theorem w_eLst2 : wE (eLst (aCons b0 (aCons b1 aNil))) ρ s Q = wE b0 ρ s fun x0 ρ s => wE b1 ρ s fun x1 ρ s => Q (.lst [x0, x1]) ρ s := by
  simp only [w_eLst, w_aCons, w_aNil, List.length_cons, List.length_nil]
  simp [wD, LIM]
theorem w_eLst3 : wE (eLst (aCons b0 (aCons b1 (aCons b2 aNil)))) ρ s Q = wE b0 ρ s fun x0 ρ s => wE b1 ρ s fun x1 ρ s => wE b2 ρ s fun x2 ρ s => Q (.lst [x0, x1, x2]) ρ s := by
  simp only [w_eLst, w_aCons, w_aNil, List.length_cons, List.length_nil]
  simp [wD, LIM]
theorem w_eLst4 : wE (eLst (aCons b0 (aCons b1 (aCons b2 (aCons b3 aNil))))) ρ s Q = wE b0 ρ s fun x0 ρ s => wE b1 ρ s fun x1 ρ s => wE b2 ρ s fun x2 ρ s => wE b3 ρ s fun x3 ρ s => Q (.lst [x0, x1, x2, x3]) ρ s := by
  simp only [w_eLst, w_aCons, w_aNil, List.length_cons, List.length_nil]
  simp [wD, LIM]
theorem w_eLst5 : wE (eLst (aCons b0 (aCons b1 (aCons b2 (aCons b3 (aCons b4 aNil)))))) ρ s Q = wE b0 ρ s fun x0 ρ s => wE b1 ρ s fun x1 ρ s => wE b2 ρ s fun x2 ρ s => wE b3 ρ s fun x3 ρ s => wE b4 ρ s fun x4 ρ s => Q (.lst [x0, x1, x2, x3, x4]) ρ s := by
  simp only [w_eLst, w_aCons, w_aNil, List.length_cons, List.length_nil]
  simp [wD, LIM]
theorem w_eLst6 : wE (eLst (aCons b0 (aCons b1 (aCons b2 (aCons b3 (aCons b4 (aCons b5 aNil))))))) ρ s Q = wE b0 ρ s fun x0 ρ s => wE b1 ρ s fun x1 ρ s => wE b2 ρ s fun x2 ρ s => wE b3 ρ s fun x3 ρ s => wE b4 ρ s fun x4 ρ s => wE b5 ρ s fun x5 ρ s => Q (.lst [x0, x1, x2, x3, x4, x5]) ρ s := by
  simp only [w_eLst, w_aCons, w_aNil, List.length_cons, List.length_nil]
  simp [wD, LIM]
theorem w_eLst7 : wE (eLst (aCons b0 (aCons b1 (aCons b2 (aCons b3 (aCons b4 (aCons b5 (aCons b6 aNil)))))))) ρ s Q = wE b0 ρ s fun x0 ρ s => wE b1 ρ s fun x1 ρ s => wE b2 ρ s fun x2 ρ s => wE b3 ρ s fun x3 ρ s => wE b4 ρ s fun x4 ρ s => wE b5 ρ s fun x5 ρ s => wE b6 ρ s fun x6 ρ s => Q (.lst [x0, x1, x2, x3, x4, x5, x6]) ρ s := by
  simp only [w_eLst, w_aCons, w_aNil, List.length_cons, List.length_nil]
  simp [wD, LIM]
theorem w_eLst8 : wE (eLst (aCons b0 (aCons b1 (aCons b2 (aCons b3 (aCons b4 (aCons b5 (aCons b6 (aCons b7 aNil))))))))) ρ s Q = wE b0 ρ s fun x0 ρ s => wE b1 ρ s fun x1 ρ s => wE b2 ρ s fun x2 ρ s => wE b3 ρ s fun x3 ρ s => wE b4 ρ s fun x4 ρ s => wE b5 ρ s fun x5 ρ s => wE b6 ρ s fun x6 ρ s => wE b7 ρ s fun x7 ρ s => Q (.lst [x0, x1, x2, x3, x4, x5, x6, x7]) ρ s := by
  simp only [w_eLst, w_aCons, w_aNil, List.length_cons, List.length_nil]
  simp [wD, LIM]
theorem w_eLst9 : wE (eLst (aCons b0 (aCons b1 (aCons b2 (aCons b3 (aCons b4 (aCons b5 (aCons b6 (aCons b7 (aCons b8 aNil)))))))))) ρ s Q = wE b0 ρ s fun x0 ρ s => wE b1 ρ s fun x1 ρ s => wE b2 ρ s fun x2 ρ s => wE b3 ρ s fun x3 ρ s => wE b4 ρ s fun x4 ρ s => wE b5 ρ s fun x5 ρ s => wE b6 ρ s fun x6 ρ s => wE b7 ρ s fun x7 ρ s => wE b8 ρ s fun x8 ρ s => Q (.lst [x0, x1, x2, x3, x4, x5, x6, x7, x8]) ρ s := by
  simp only [w_eLst, w_aCons, w_aNil, List.length_cons, List.length_nil]
  simp [wD, LIM]
theorem w_eLst10 : wE (eLst (aCons b0 (aCons b1 (aCons b2 (aCons b3 (aCons b4 (aCons b5 (aCons b6 (aCons b7 (aCons b8 (aCons b9 aNil))))))))))) ρ s Q = wE b0 ρ s fun x0 ρ s => wE b1 ρ s fun x1 ρ s => wE b2 ρ s fun x2 ρ s => wE b3 ρ s fun x3 ρ s => wE b4 ρ s fun x4 ρ s => wE b5 ρ s fun x5 ρ s => wE b6 ρ s fun x6 ρ s => wE b7 ρ s fun x7 ρ s => wE b8 ρ s fun x8 ρ s => wE b9 ρ s fun x9 ρ s => Q (.lst [x0, x1, x2, x3, x4, x5, x6, x7, x8, x9]) ρ s := by
  simp only [w_eLst, w_aCons, w_aNil, List.length_cons, List.length_nil]
  simp [wD, LIM]
end
end Fw
/-! ## EvK -/
set_option Elab.async false
set_option linter.all false
/-! What the newer mirrors come to. -/
namespace Fw
section
variable {S : Type} {ρ : Env} {s : S}
theorem w_eD1 {k v : E S} {Q : D → Env → S → Prop} : wE (eD1 k v) ρ s Q = wE k ρ s fun x ρ s => wE v ρ s fun y ρ s => wD (key? x) fun k => Q (.dct [(k, y)]) ρ s := by
  unfold wE eD1
  cases k ρ s with
  | none => rfl
  | some t =>
    obtain ⟨x, ρ1, s1⟩ := t
    dsimp only
    cases v ρ1 s1 with
    | none => rfl
    | some u =>
      obtain ⟨y, ρ2, s2⟩ := u
      dsimp only
      cases key? x <;> rfl
theorem w_aStar {a : E S} {r : As S} {Q : List D → Env → S → Prop} : wA (aStar a r) ρ s Q = wE a ρ s fun x ρ s => wD (items? x) fun xs => wA r ρ s fun ys ρ s => Q (xs ++ ys) ρ s := by
  unfold wA wE aStar
  cases a ρ s with
  | none => rfl
  | some t =>
    obtain ⟨x, ρ1, s1⟩ := t
    dsimp only
    cases items? x with
    | none => rfl
    | some xs =>
      simp only [wD]
      cases r ρ1 s1 <;> rfl
/-- a dict is written: the key and the value leave the slot alone -/
theorem i_putK {a k : E S} {i : Nat} {kvs : List (Key × D)} {Q : Ctl → Env → S → Prop} (h : ρ[i]? = some (some (.ow (.dct kvs))))
    (q : wE a ρ s fun x ρ1 s1 => ρ1 = ρ ∧ wE k ρ s1 fun y ρ2 s2 => ρ2 = ρ ∧ wD (key? y) fun k => kvs.length < LIM ∧ Q .nx (ρ.set i (some (.ow (.dct (dput kvs k x))))) s2) : wS (sPutK a i k) ρ s Q := by
  unfold wE at q
  unfold wS sPutK
  cases e : a ρ s with
  | none => rw [e] at q; exact q.elim
  | some t =>
    obtain ⟨x, ρ1, s1⟩ := t
    rw [e] at q
    obtain ⟨rfl, q⟩ := q
    dsimp only
    rw [h]
    dsimp only
    cases e2 : k ρ1 s1 with
    | none => rw [e2] at q; exact q.elim
    | some u =>
      obtain ⟨y, ρ2, s2⟩ := u
      rw [e2] at q
      obtain ⟨rfl, q⟩ := q
      dsimp only
      rw [h]
      cases e3 : key? y with
      | none => rw [e3] at q; exact q.elim
      | some kk =>
        rw [e3] at q
        obtain ⟨q1, q2⟩ := q
        dsimp only
        rw [if_pos q1]
        exact q2
/-- an item of an owned list is written -/
theorem i_setIx {a k : E S} {i : Nat} {ds : List D} {Q : Ctl → Env → S → Prop} (h : ρ[i]? = some (some (.ow (.lst ds))))
    (q : wE a ρ s fun x ρ1 s1 => ρ1 = ρ ∧ wE k ρ s1 fun y ρ2 s2 => ρ2 = ρ ∧ isI y fun z => wD (ixD ds.length z) fun j => Q .nx (ρ.set i (some (.ow (.lst (ds.set j x))))) s2) : wS (sSetIx a i k) ρ s Q := by
  unfold wE at q
  unfold wS sSetIx
  cases e : a ρ s with
  | none => rw [e] at q; exact q.elim
  | some t =>
    obtain ⟨x, ρ1, s1⟩ := t
    rw [e] at q
    obtain ⟨rfl, q⟩ := q
    dsimp only
    rw [h]
    dsimp only
    cases e2 : k ρ1 s1 with
    | none => rw [e2] at q; exact q.elim
    | some u =>
      obtain ⟨y, ρ2, s2⟩ := u
      rw [e2] at q
      obtain ⟨rfl, q⟩ := q
      cases y with
      | int z =>
        dsimp only
        rw [h]
        dsimp only
        simp only [isI_int] at q
        cases e3 : ixD ds.length z with
        | none => rw [e3] at q; exact q.elim
        | some j => rw [e3] at q; exact q
      | _ => exact q.elim
/-- y[k] op= a -/
theorem i_augIx {op : D → D → Option D} {a k : E S} {i : Nat} {ds : List D} {Q : Ctl → Env → S → Prop} (h : ρ[i]? = some (some (.ow (.lst ds))))
    (q : wE k ρ s fun y ρ1 s1 => ρ1 = ρ ∧ isI y fun z => wD (ixD ds.length z) fun j => wD ds[j]? fun x => wE a ρ s1 fun w ρ2 s2 => ρ2 = ρ ∧ wD (op x w) fun v => Q .nx (ρ.set i (some (.ow (.lst (ds.set j v))))) s2) : wS (sAugIx op i k a) ρ s Q := by
  unfold wE at q
  unfold wS sAugIx
  rw [h]
  dsimp only
  cases e : k ρ s with
  | none => rw [e] at q; exact q.elim
  | some t =>
    obtain ⟨y, ρ1, s1⟩ := t
    rw [e] at q
    obtain ⟨rfl, q⟩ := q
    cases y with
    | int z =>
      dsimp only
      rw [h]
      dsimp only
      simp only [isI_int] at q
      cases e3 : ixD ds.length z with
      | none => rw [e3] at q; exact q.elim
      | some j =>
        rw [e3] at q
        simp only [wD_some] at q
        simp only [Option.bind_some]
        cases e4 : ds[j]? with
        | none => rw [e4] at q; exact q.elim
        | some x =>
          rw [e4] at q
          simp only [wD_some] at q
          dsimp only
          cases e5 : a ρ1 s1 with
          | none => rw [e5] at q; exact q.elim
          | some u =>
            obtain ⟨w, ρ2, s2⟩ := u
            rw [e5] at q
            obtain ⟨rfl, q⟩ := q
            dsimp only
            rw [h]
            cases e6 : op x w with
            | none => rw [e6] at q; exact q.elim
            | some v =>
              rw [e6] at q
              dsimp only
              rw [e3]
              exact q
    | _ => exact q.elim
/-- while: J n: what stands at the head, n falling -/
theorem w_sWh {fuel : Nat} {t : T S} {body : C S} {dead : List Nat} {Q : Ctl → Env → S → Prop} (J : Nat → Env → S → Prop) {n : Nat} (hn : n < fuel) (h0 : J n (wipeE dead ρ) s)
    (hs : ∀ n ρ s, J n ρ s → wT t ρ s fun b ρ s => if b = true then wS body ρ s (fun c ρ s => match c with
      | .nx => ∃ m, m < n ∧ J m (wipeE dead ρ) s | .ct => ∃ m, m < n ∧ J m (wipeE dead ρ) s | .bk => Q .nx ρ s | .rt d => Q (.rt d) ρ s) else Q .nx ρ s) : wS (sWh fuel t body dead) ρ s Q := by
  have key : ∀ fuel n ρ s, n < fuel → J n ρ s → (match whL t body dead fuel ρ s with
      | some (c, ρ, s) => Q c ρ s
      | none => False) := fun fuel => by
    induction fuel with
    | zero => intro n ρ s h; omega
    | succ fuel ih =>
      intro n ρ s h hj
      have := hs n ρ s hj
      unfold wT at this
      unfold whL
      cases e : t ρ s with
      | none => rw [e] at this; exact this.elim
      | some u =>
        obtain ⟨b, ρ1, s1⟩ := u
        rw [e] at this
        cases b with
        | false =>
          simp only [Bool.false_eq_true, if_false] at this
          exact this
        | true =>
          simp only [if_true] at this
          unfold wS at this
          dsimp only
          cases e2 : body ρ1 s1 with
          | none => rw [e2] at this; exact this.elim
          | some v =>
            obtain ⟨c, ρ2, s2⟩ := v
            rw [e2] at this
            cases c with
            | nx => obtain ⟨m, hm, hj⟩ := this; exact ih m _ _ (by omega) hj
            | ct => obtain ⟨m, hm, hj⟩ := this; exact ih m _ _ (by omega) hj
            | bk => exact this
            | rt d => exact this
  exact key fuel n _ _ hn h0
theorem w_iZip {a b : E S} {Q : List D → Env → S → Prop} : wI (iZip a b) ρ s Q = wE a ρ s fun x ρ s => wE b ρ s fun y ρ s => wD (items? x) fun ds => wD (items? y) fun es => Q (zipL ds es) ρ s := by
  unfold wI wE iZip
  cases a ρ s with
  | none => rfl
  | some t =>
    obtain ⟨x, ρ1, s1⟩ := t
    dsimp only
    cases b ρ1 s1 with
    | none => rfl
    | some u =>
      obtain ⟨y, ρ2, s2⟩ := u
      dsimp only
      cases items? x with
      | none => rfl
      | some ds => cases items? y <;> rfl
theorem w_eApp {i : Nat} {a : E S} {ds : List D} {Q : D → Env → S → Prop} (h : ρ[i]? = some (some (.ow (.lst ds)))) (q : wE a ρ s fun x ρ1 s1 => ρ1 = ρ ∧ ds.length < LIM ∧ Q .non (ρ.set i (some (.ow (.lst (ds ++ [x]))))) s1) : wE (eApp i a) ρ s Q := by
  rw [v_eApp, h, ownL_ow]
  refine wE_mono q fun x ρ1 s1 h1 => ?_
  obtain ⟨rfl, h2, h3⟩ := h1
  rw [h, ownL_ow]
  exact ⟨h2, h3⟩
end
end Fw
/-! ## K2d -/
set_option linter.all false
set_option maxRecDepth 100000
set_option maxHeartbeats 1000000
/-! Costs lowered: the def. -/
namespace Fw
open PySem PySem.Spec PyProof.Rows L2
/-! ### dicts -/
structure Rep {α : Type} (tf : α → D) (c : Nat) (kvs : List (Key × D)) (f : Nat → Option α) : Prop where
  get : ∀ k : Nat, dval kvs (.inl (k : Int)) = (f k).map tf
  len : kvs.length ≤ c
theorem dval_cons (kv : Key × D) (r : List (Key × D)) (k : Key) : dval (kv :: r) k = if kv.1 = k then some kv.2 else dval r k := by
  unfold dval
  rw [List.find?_cons]
  by_cases h : kv.1 = k
  · rw [decide_eq_true h, if_pos h]; rfl
  · rw [decide_eq_false h, if_neg h]
theorem dval_any : ∀ (kvs : List (Key × D)) (k : Key), (kvs.any fun kv => decide (kv.1 = k)) = (dval kvs k).isSome
  | [], _ => rfl
  | kv :: r, k => by
    rw [List.any_cons, dval_cons, dval_any r k]
    by_cases h : kv.1 = k
    · rw [decide_eq_true h, if_pos h]; rfl
    · rw [decide_eq_false h, if_neg h]; rfl
theorem dval_app : ∀ (kvs : List (Key × D)) (k k' : Key) (d : D), dval kvs k = none → dval (kvs ++ [(k, d)]) k' = if k = k' then some d else dval kvs k'
  | [], k, k', d, _ => by rw [List.nil_append, dval_cons]
  | kv :: r, k, k', d, h => by
    rw [dval_cons] at h
    by_cases e : kv.1 = k
    · rw [if_pos e] at h; cases h
    · rw [if_neg e] at h
      rw [List.cons_append, dval_cons, dval_cons, dval_app r k k' d h]
      by_cases e1 : kv.1 = k'
      · rw [if_pos e1, if_pos e1, if_neg (fun q => e (by rw [e1, q]))]
      · rw [if_neg e1, if_neg e1]
theorem dval_map : ∀ (kvs : List (Key × D)) (k k' : Key) (d : D), dval (kvs.map fun kv => if kv.1 = k then (kv.1, d) else kv) k' = if k = k' then (dval kvs k).map (fun _ => d) else dval kvs k'
  | [], k, k', d => by split <;> rfl
  | kv :: r, k, k', d => by
    rw [List.map_cons, dval_cons, dval_map r k k' d, dval_cons, dval_cons]
    by_cases e : kv.1 = k
    · rw [if_pos e, if_pos e]
      by_cases e1 : k = k'
      · rw [if_pos (by rw [← e1]; exact e), if_pos e1]; rfl
      · rw [if_neg (fun q => e1 (by rw [← q]; exact e.symm)), if_neg e1, if_neg e1, if_neg (fun q => e1 (by rw [← q]; exact e.symm))]
    · rw [if_neg e, if_neg e]
      by_cases e1 : kv.1 = k'
      · rw [if_pos e1, if_pos e1]
        rw [if_neg (fun q => e (by rw [e1, q]))]
      · rw [if_neg e1, if_neg e1]
theorem Rep.put {α : Type} {tf : α → D} {c : Nat} {kvs : List (Key × D)} {f : Nat → Option α} (h : Rep tf c kvs f) (k : Nat) (v : α) : Rep tf (c + 1) (dput kvs (.inl (k : Int)) (tf v)) (up f k v) := by
  have hl := h.len
  unfold dput
  rw [dval_any, h.get k]
  cases hk : f k with
  | some w =>
    refine ⟨fun k' => ?_, ?_⟩
    · rw [if_pos (by rfl), dval_map, h.get, h.get, hk]
      unfold up
      by_cases e : k' = k
      · rw [if_pos (by rw [e]), if_pos e]; rfl
      · rw [if_neg (fun q => e (by have := Sum.inl.inj q; omega)), if_neg e]
    · rw [if_pos (by rfl), List.length_map]; omega
  | none =>
    refine ⟨fun k' => ?_, ?_⟩
    · rw [if_neg (by exact Bool.false_ne_true), dval_app _ _ _ _ (by rw [h.get, hk]; rfl), h.get]
      unfold up
      by_cases e : k' = k
      · rw [if_pos (by rw [e]), if_pos e]; rfl
      · rw [if_neg (fun q => e (by have := Sum.inl.inj q; omega)), if_neg e]
    · rw [if_neg (by exact Bool.false_ne_true), List.length_append]
      simp only [List.length_cons, List.length_nil]
      omega
theorem Rep.none {α : Type} (tf : α → D) : Rep tf 0 [] fun _ => none := ⟨fun _ => rfl, Nat.le_refl _⟩
theorem Rep.mono {α : Type} {tf : α → D} {c c' : Nat} {kvs : List (Key × D)} {f : Nat → Option α} (h : Rep tf c kvs f) (hc : c ≤ c') : Rep tf c' kvs f := ⟨h.get, Nat.le_trans h.len hc⟩
theorem isSome_map' {α β : Type} (f : α → β) (o : Option α) : (o.map f).isSome = o.isSome := by cases o <;> rfl
theorem Rep.kin {α : Type} {tf : α → D} {c : Nat} {kvs : List (Key × D)} {f : Nat → Option α} (h : Rep tf c kvs f) (k : Nat) : dKIn (.int (k : Int)) (.dct kvs) = some (.bl (f k).isSome) := by
  show some (D.bl (dval kvs (.inl (k : Int))).isSome) = _
  rw [h.get, isSome_map']
theorem Rep.knin {α : Type} {tf : α → D} {c : Nat} {kvs : List (Key × D)} {f : Nat → Option α} (h : Rep tf c kvs f) (k : Nat) : dKNotIn (.int (k : Int)) (.dct kvs) = some (.bl !(f k).isSome) := by
  show some (D.bl (!(dval kvs (.inl (k : Int))).isSome)) = _
  rw [h.get, isSome_map']
theorem Rep.kget {α : Type} {tf : α → D} {c : Nat} {kvs : List (Key × D)} {f : Nat → Option α} (h : Rep tf c kvs f) {k : Nat} {v : α} (e : f k = some v) : dKGet (.dct kvs) (.int (k : Int)) = some (tf v) := by
  show dval kvs (.inl (k : Int)) = _
  rw [h.get, e]
  rfl
/-! ### ends -/
theorem ev_end_from {G : Fr} {e : Nat} (he : e < 2 * G.roads.length) : m_end_from [G.d, .int e] = some (.int (G.fr e)) := by
  refine wD_eq (run_P rfl ?_)
  unfold m_end_fromB Fr.d Fr.fr
  have h1 := o_road (half_lt he)
  simp only [w_sRet, w_e2, w_e1, w_eC, v_eV, List.map, List.cons_append, List.nil_append, List.getElem?_cons_zero, List.getElem?_cons_succ, slotE_sh, o_mod2, wD_some, o_ix1, o_fdiv2]
  rw [h1]
  simp only [wD_some]
  generalize G.roads.getD (e / 2) (0, 0) = p
  rcases par_01 e with h | h
  · simp only [h]
    rfl
  · simp only [h]
    rfl
theorem ev_end_to {G : Fr} {e : Nat} (he : e < 2 * G.roads.length) : m_end_to [G.d, .int e] = some (.int (G.to e)) := by
  refine wD_eq (run_P rfl ?_)
  unfold m_end_toB Fr.d Fr.to
  have h1 := o_road (half_lt he)
  simp only [w_sRet, w_e2, w_e1, w_eC, v_eV, List.map, List.cons_append, List.nil_append, List.getElem?_cons_zero, List.getElem?_cons_succ, slotE_sh, o_mod2, wD_some, o_ix1, o_fdiv2, dSub]
  rw [h1]
  simp only [wD_some]
  generalize G.roads.getD (e / 2) (0, 0) = p
  rcases par_01 e with h | h
  · simp only [h]
    rfl
  · simp only [h]
    rfl
theorem ev_all_ends {G : Fr} (hG : G.Sh) : m_all_ends [G.d] = some (.lst (nats (List.range G.E))) := by
  refine wD_eq (run_P rfl ?_)
  unfold m_all_endsB
  show wS _ [some (.sh G.d)] () _
  have hm := hG.m
  rw [w_sRet, w_eListR1]
  simp only [↓w_e2, ↓w_e1, ↓w_eC, ↓v0]
  have e1 : dIx G.d (.int 1) = some (.tup (G.roads.map dRoad)) := o_ix1 _
  have e3 : dLen (.tup (G.roads.map dRoad)) = some (.int (G.roads.length : Int)) := by
    show some (D.int ((G.roads.map dRoad).length : Int)) = _
    rw [List.length_map]
  have e2 : dMul (.int 2) (.int (G.roads.length : Int)) = some (.int ((2 * G.roads.length : Nat) : Int)) := by
    rw [o_mulS (by omega)]
    congr 2
  simp only [e1, e2, e3, wD_some, isI_int]
  rw [if_pos (by omega), wD_some, Int.toNat_natCast, rangeL_nats]
theorem mk_step {S : Type} {ρ : Env} {s : S} {i : Nat} {k : E S} {kvs : List (Key × D)} {y d : D} {key : Key} (h : ρ[i]? = some (some (.ow (.dct kvs)))) (hk : k ρ s = some (y, ρ, s)) (hy : key? y = some key) (hl : kvs.length < LIM) :
    mK i k d ρ s = some (ρ.set i (some (.ow (.dct (dput kvs key d)))), s) := by
  unfold mK
  rw [h]
  dsimp only
  rw [hk]
  dsimp only
  rw [h, hy]
  dsimp only
  rw [if_pos hl]
theorem w_sMAsg {S : Type} {ρ : Env} {s : S} {a : E S} {t : Mt S} {Q : Ctl → Env → S → Prop} : wS (sMAsg a t) ρ s Q = wE a ρ s fun d ρ s => match t d ρ s with | some (ρ, s) => Q .nx ρ s | none => False := by
  unfold wS wE sMAsg
  cases a ρ s with
  | none => rfl
  | some t' =>
    obtain ⟨d, ρ1, s1⟩ := t'
    dsimp only
    cases t d ρ1 s1 with
    | none => rfl
    | some r => obtain ⟨ρ2, s2⟩ := r; rfl
def iD : Int → D := .int
def nD : Nat → D := fun k => .int k
def lateD : Option Nat → D
  | none => .non
  | some v => .int v
/-- what a lap keeps -/
structure Lp (G : Fr) (f : Nat → Option Int) (u : Nat → Nat) (k j : Nat) (late : Option Nat) : Prop where
  no : late = none → ∀ e, e < j → Cl G f e
  yes : ∀ v, late = some v → k * G.E < u v
def CC : Nat := 100000
def lowE (g : D) (fk pk : List (Key × D)) (late : Option Nat) (l e a b : Option Sl) : Env := [some (.sh g), some (.ow (.dct fk)), some (.ow (.dct pk)), some (.sh (lateD late)), l, e, a, b]
theorem low_mv {G : Fr} {fk pk : List (Key × D)} {late : Option Nat} {e a : Option Sl} {b : Nat} {x j : D} {s : Unit} (h1 : fk.length < LIM) (h2 : pk.length < LIM) :
    mTup 3 (mCons (mK 1 (eV 7)) (mCons (mK 2 (eV 7)) (mCons (mN 3) mNil))) (.tup [x, j, .int b]) (lowE G.d fk pk late none e a (some (.sh (.int b)))) s =
      some (lowE G.d (dput fk (.inl (b : Int)) x) (dput pk (.inl (b : Int)) j) (some b) none e a (some (.sh (.int b))), s) := by
  have s1 := mk_step (S := Unit) (ρ := lowE G.d fk pk late none e a (some (.sh (.int b)))) (s := s) (i := 1) (k := eV 7) (kvs := fk) (y := .int b) (d := x) (key := .inl (b : Int)) rfl rfl rfl h1
  have s2 := mk_step (S := Unit) (ρ := (lowE G.d fk pk late none e a (some (.sh (.int b)))).set 1 (some (.ow (.dct (dput fk (.inl (b : Int)) x))))) (s := s) (i := 2) (k := eV 7) (kvs := pk) (y := .int b) (d := j) (key := .inl (b : Int)) rfl rfl rfl h2
  simp only [mTup, mCons, List.length_cons, List.length_nil, Nat.zero_add, Nat.reduceAdd, if_true, s1, s2, mN, mNil]
  rfl
theorem w_sBk {S : Type} {ρ : Env} {s : S} {Q : Ctl → Env → S → Prop} : wS sBk ρ s Q = Q .bk ρ s := rfl
noncomputable def lowM : C Unit := sMAsg (eTup (aCons (e2 dAdd (eBL dKGet 1 (eV 6)) (eCallP m_cost_of_end (aCons (eV 0) (aCons (eV 5) aNil)))) (aCons (eV 5) (aCons (eV 7) aNil)))) (mTup 3 (mCons (mK 1 (eV 7)) (mCons (mK 2 (eV 7)) (mCons (mN 3) mNil))))
noncomputable def lowT : C Unit := (sSeq (sPar [6, 7] (qSh (eCallP m_end_from (aCons (eV 0) (aCons (eV 5) aNil))) (qSh (eCallP m_end_to (aCons (eV 0) (aCons (eV 5) aNil))) qNil)))
    (sIf (Fw.tAnd (tE (eBR dKIn (eV 6) 1)) (Fw.tOr (tE (eBR dKNotIn (eV 7) 1)) (tE (e2 dLt (e2 dAdd (eBL dKGet 1 (eV 6)) (eCallP m_cost_of_end (aCons (eV 0) (aCons (eV 5) aNil)))) (eBL dKGet 1 (eV 7)))))) lowM sNx))
noncomputable def lowL : C Unit := (sSeq (sAsg (eC .non) (gN 3)) (sSeq (sFor (iE (eCallP m_all_ends (aCons (eV 0) aNil))) (gN 5) lowT [4, 5, 6, 7]) (sIf (tE (Fw.e1 dIsN (eV 3))) sBk sNx)))
theorem low_eq : m_loweredB = (sSeq (sPar [1, 2, 3] (qNew (Fw.e1 dDictC (eV 1)) (qNew (eC (.dct [])) (qSh (eC .non) qNil)))) (sSeq (sFor (iR1 (e2 dAdd (e2 dIx (eV 0) (eC (.int 0))) (eC (.int 1)))) (gN 4) lowL [4, 5, 6, 7])
    (sRet (eTup (aCons (eV 1) (aCons (eV 2) (aCons (eV 3) aNil))))))) := by
  unfold m_loweredB lowL lowT lowM
  rfl
def LJ (G : Fr) (f0 : Nat → Option Int) (k j : Nat) (ρ : Env) : Prop := ∃ fk pk late f p u, ρ = lowE G.d fk pk late none none none none ∧ Rep iD (1000 + 64 * k + j) fk f ∧ Rep nD (1000 + 64 * k + j) pk p ∧ BF G f0 k j f p u ∧ Lp G f u k j late
def LK (G : Fr) (f0 : Nat → Option Int) (k : Nat) (ρ : Env) : Prop := ∃ fk pk late f p u, ρ = lowE G.d fk pk late none none none none ∧ Rep iD (1000 + 64 * k) fk f ∧ Rep nD (1000 + 64 * k) pk p ∧ BF G f0 k 0 f p u ∧ (1 ≤ k → ∃ v, late = some v ∧ (k - 1) * G.E < u v)
def Done (G : Fr) (f0 : Nat → Option Int) (late : Option Nat) (f : Nat → Option Int) (p : Nat → Option Nat) (u : Nat → Nat) : Prop :=
  (late = none ∧ (∃ k j, BF G f0 k j f p u) ∧ ∀ e, e < G.E → Cl G f e) ∨ ∃ v, late = some v ∧ BF G f0 (G.n + 1) 0 f p u ∧ G.n * G.E < u v
def LD (G : Fr) (f0 : Nat → Option Int) (ρ : Env) : Prop := ∃ fk pk late f p u l e a b, ρ = lowE G.d fk pk late l e a b ∧ Rep iD CC fk f ∧ Rep nD CC pk p ∧ Done G f0 late f p u
theorem low_stay {G : Fr} {f0 f : Nat → Option Int} {k j : Nat} {fk pk : List (Key × D)} {late : Option Nat} {p : Nat → Option Nat} {u : Nat → Nat} (r1 : Rep iD (1000 + 64 * k + j) fk f) (r2 : Rep nD (1000 + 64 * k + j) pk p) (B : BF G f0 k j f p u) (L : Lp G f u k j late)
    (hc : Cl G f j) : LJ G f0 k (j + 1) (lowE G.d fk pk late none none none none) :=
  ⟨fk, pk, late, f, p, u, rfl, r1.mono (by omega), r2.mono (by omega), B.stay hc, ⟨fun h e he => by
    by_cases e1 : e = j
    · rw [e1]; exact hc
    · exact L.no h e (by omega), L.yes⟩⟩
theorem low_move {G : Fr} (hG : G.Sh) {f0 f : Nat → Option Int} {k j : Nat} (hj : j < G.E) (hk : k ≤ 40) {fk pk : List (Key × D)} {late : Option Nat} {p : Nat → Option Nat} {u : Nat → Nat} (r1 : Rep iD (1000 + 64 * k + j) fk f) (r2 : Rep nD (1000 + 64 * k + j) pk p) (B : BF G f0 k j f p u)
    {x : Int} (hx : f (G.fr j) = some x) (hb : ∀ y, f (G.to j) = some y → x + G.cost j < y) {s : Unit} {Q : Ctl → Env → Unit → Prop} (q : ∀ ρ, LJ G f0 k (j + 1) (wipeE [4, 5, 6, 7] ρ) → Q .nx ρ s) :
    wS lowM (lowE G.d fk pk late none (some (.sh (.int j))) (some (.sh (.int (G.fr j)))) (some (.sh (.int (G.to j))))) s Q := by
  have hm := hG.m
  have hE : G.E ≤ 64 := by show 2 * _ ≤ _; omega
  unfold lowM
  rw [w_sMAsg, w_eTup, w_aCons, w_e2, v_eBL]
  simp only [lowE]
  simp only [↓w_eCallP, ↓w_aCons, ↓w_aNil, ↓v0, ↓v5, ↓v6, ↓v7, List.getElem?_cons_zero, List.getElem?_cons_succ, slotX_ow]
  rw [r1.kget hx, wD_some, ev_cost_of_end hG hj, wD_some, show dAdd (iD x) (.int (G.cost j)) = some (.int (x + G.cost j)) from rfl, wD_some]
  simp only [List.length_cons, List.length_nil]
  rw [if_pos (by decide), wD_some]
  have s3' := low_mv (G := G) (fk := fk) (pk := pk) (late := late) (e := some (.sh (.int j))) (a := some (.sh (.int (G.fr j)))) (b := G.to j) (x := .int (x + G.cost j)) (j := .int j) (s := s) (by have := r1.len; show _ < 16777216; omega) (by have := r2.len; show _ < 16777216; omega)
  simp only [lowE] at s3'
  rw [s3']
  refine q _ ⟨_, _, some (G.to j), _, _, _, by rfl, r1.put (G.to j) (x + G.cost j), r2.put (G.to j) j, B.move hG hj hx hb, ⟨fun h => (by cases h), fun v h => by
    cases h
    simp only [if_true]
    omega⟩⟩
theorem low_turn {G : Fr} (hG : G.Sh) {f0 f : Nat → Option Int} {k j : Nat} (hj : j < G.E) (hk : k ≤ 40) {fk pk : List (Key × D)} {late : Option Nat} {p : Nat → Option Nat} {u : Nat → Nat} (r1 : Rep iD (1000 + 64 * k + j) fk f) (r2 : Rep nD (1000 + 64 * k + j) pk p) (B : BF G f0 k j f p u)
    (L : Lp G f u k j late) {s : Unit} {Q : Ctl → Env → Unit → Prop} (q : ∀ ρ, LJ G f0 k (j + 1) (wipeE [4, 5, 6, 7] ρ) → Q .nx ρ s) :
    wS lowT (lowE G.d fk pk late none (some (.sh (.int j))) none none) s Q := by
  unfold lowT
  rw [w_sSeq, w_sPar]
  simp only [lowE]
  simp only [↓w_qSh, ↓w_qNil, ↓w_eCallP, ↓w_aCons, ↓w_aNil, ↓v0, ↓v5]
  rw [ev_end_from hj, wD_some, ev_end_to hj, wD_some]
  simp only [List.length_cons, List.length_nil, if_true, wD_some]
  show wS _ (lowE G.d fk pk late none (some (.sh (.int j))) (some (.sh (.int (G.fr j)))) (some (.sh (.int (G.to j))))) s _
  have st : Cl G f j → Q .nx (lowE G.d fk pk late none (some (.sh (.int j))) (some (.sh (.int (G.fr j)))) (some (.sh (.int (G.to j))))) s := fun hc => q _ (low_stay r1 r2 B L hc)
  have mv := fun x hx hb => low_move hG hj hk r1 r2 (late := late) B (x := x) hx hb (s := s) (Q := Q) q
  rw [w_sIf, w_tAnd, w_tE, v_eBR]
  simp only [lowE] at st mv ⊢
  simp only [↓v6, List.getElem?_cons_zero, List.getElem?_cons_succ, slotX_ow]
  rw [r1.kin, wD_some, isB_bl]
  cases hx : f (G.fr j) with
  | none =>
    rw [if_neg (by exact Bool.false_ne_true)]
    rw [if_neg (by exact Bool.false_ne_true), w_sNx]
    exact st (fun x h => by rw [hx] at h; cases h)
  | some x =>
    rw [if_pos (by rfl), w_tOr, w_tE, v_eBR]
    simp only [↓v7, List.getElem?_cons_zero, List.getElem?_cons_succ, slotX_ow]
    rw [r1.knin, wD_some, isB_bl]
    cases hy : f (G.to j) with
    | none =>
      rw [if_pos (by rfl), if_pos trivial]
      exact mv x hx fun y h => by rw [hy] at h; cases h
    | some y =>
      rw [if_neg (by exact Bool.false_ne_true), w_tE, w_e2, w_e2, v_eBL]
      simp only [↓v_eBL, ↓w_eCallP, ↓w_aCons, ↓w_aNil, ↓v0, ↓v5, ↓v6, ↓v7, List.getElem?_cons_zero, List.getElem?_cons_succ, slotX_ow]
      rw [r1.kget hx, wD_some, ev_cost_of_end hG hj, wD_some, show dAdd (iD x) (.int (G.cost j)) = some (.int (x + G.cost j)) from rfl, wD_some, r1.kget hy, wD_some,
        show dLt (.int (x + G.cost j)) (iD y) = some (.bl (decide (x + G.cost j < y))) from rfl, wD_some, isB_bl]
      by_cases hlt : x + G.cost j < y
      · rw [decide_eq_true hlt, if_pos rfl]
        exact mv x hx fun y' h => by rw [hy] at h; cases h; exact hlt
      · rw [decide_eq_false hlt, if_neg Bool.false_ne_true, w_sNx]
        exact st (fun x' h => by
          rw [hx] at h
          cases h
          exact ⟨y, hy, by omega⟩)
theorem low_lap {G : Fr} (hG : G.Sh) {f0 f : Nat → Option Int} {k : Nat} (hk : k ≤ 40) {ρ : Env} (h : LK G f0 k ρ) {s : Unit} {Q : Ctl → Env → Unit → Prop} (qb : ∀ ρ s, LD G f0 ρ → Q .bk ρ s) (q : ∀ ρ s, LK G f0 (k + 1) (wipeE [4, 5, 6, 7] ρ) → Q .nx ρ s) :
    wS lowL (ρ.set 4 (some (.sh (.int k)))) s Q := by
  obtain ⟨fk, pk, late, f, p, u, rfl, r1, r2, B, _⟩ := h
  have hm := hG.m
  have hE : G.E ≤ 64 := by show 2 * _ ≤ _; omega
  unfold lowL
  rw [w_sSeq, w_sAsg, w_eC]
  show wS _ (lowE G.d fk pk none (some (.sh (.int k))) none none none) s _
  rw [w_sSeq]
  refine w_sFor ?_
  rw [w_iE]
  simp only [lowE]
  simp only [↓w_eCallP, ↓w_aCons, ↓w_aNil, ↓v0]
  rw [ev_all_ends hG, wD_some, show items? (.lst (nats (List.range G.E))) = some (nats (List.range G.E)) from rfl, wD_some]
  refine ⟨fun j ρ _ => LJ G f0 k j ρ, ⟨fk, pk, none, f, p, u, by rfl, r1.mono (by omega), r2.mono (by omega), B, ⟨fun _ e h => absurd h (Nat.not_lt_zero _), fun v h => (by cases h)⟩⟩, ?_, ?_⟩
  · rintro j d ρ s hd ⟨fk, pk, late, f, p, u, rfl, r1, r2, B, L⟩
    obtain ⟨rfl, hj⟩ := take_succ_range hd
    refine ⟨_, rfl, ?_⟩
    show wS _ (lowE G.d fk pk late none (some (.sh (.int j))) none none) s _
    exact low_turn hG hj hk r1 r2 B L fun ρ h => h
  · rintro ρ s ⟨fk, pk, late, f, p, u, rfl, r1, r2, B, L⟩
    rw [List.length_map, List.length_range] at r1 r2 B L
    show wS _ _ _ _
    rw [w_sIf, w_tE]
    simp only [lowE]
    simp only [↓w_e1, ↓v3]
    cases late with
    | none =>
      rw [show dIsN (lateD none) = some (.bl true) from rfl, wD_some, isB_bl, if_pos rfl, w_sBk]
      exact qb _ _ ⟨fk, pk, none, f, p, u, _, _, _, _, rfl, r1.mono (by unfold CC; omega), r2.mono (by unfold CC; omega), .inl ⟨rfl, ⟨_, _, B⟩, L.no rfl⟩⟩
    | some v =>
      rw [show dIsN (lateD (some v)) = some (.bl false) from rfl, wD_some, isB_bl, if_neg Bool.false_ne_true, w_sNx]
      exact q _ _ ⟨fk, pk, some v, f, p, u, by rfl, r1.mono (by omega), r2.mono (by omega), B.lap, fun _ => ⟨v, rfl, by rw [Nat.add_sub_cancel]; exact L.yes v rfl⟩⟩
def LowQ (G : Fr) (f0 : Nat → Option Int) (r : D) : Prop := ∃ fk pk late f p u, r = .tup [.dct fk, .dct pk, lateD late] ∧ Rep iD CC fk f ∧ Rep nD CC pk p ∧ Done G f0 late f p u
theorem low_end {G : Fr} {f0 : Nat → Option Int} {ρ : Env} (h : LD G f0 ρ) {s : Unit} {Q : Ctl → Env → Unit → Prop} (q : ∀ r ρ s, LowQ G f0 r → Q (.rt r) ρ s) : wS (sRet (eTup (aCons (eV 1) (aCons (eV 2) (aCons (eV 3) aNil))))) ρ s Q := by
  obtain ⟨fk, pk, late, f, p, u, l, e, a, b, rfl, h1, h2, h3⟩ := h
  rw [w_sRet]
  simp only [lowE, w_eTup, w_aCons, w_aNil, v_eV, List.set, List.getElem?_cons_zero, List.getElem?_cons_succ, slotE_sh, slotE_ow, List.length_cons, List.length_nil]
  rw [if_pos (by decide)]
  simp only [wD_some]
  exact q _ _ _ ⟨fk, pk, late, f, p, u, rfl, h1, h2, h3⟩
theorem low_all {G : Fr} (hG : G.Sh) {f0 : Nat → Option Int} {N : Nat} (hN : G.n + 1 = N) {ρ : Env} (h : LK G f0 0 ρ) {s : Unit} {Q : Ctl → Env → Unit → Prop} (q : ∀ ρ s, LD G f0 ρ → Q .nx ρ s) :
    wI (iR1 (eC (.int (N : Int)))) ρ s fun ds ρ1 s1 => ∃ J : Nat → Env → Unit → Prop, J 0 (wipeE [4, 5, 6, 7] ρ1) s1 ∧
      (∀ (k : Nat) (d : D) ρ s, ds[k]? = some d → J k ρ s → ∃ ρt, gN 4 d ρ = some ρt ∧ wS lowL ρt s fun c ρ s => match c with
        | .nx => J (k + 1) (wipeE [4, 5, 6, 7] ρ) s | .ct => J (k + 1) (wipeE [4, 5, 6, 7] ρ) s | .bk => Q .nx ρ s | .rt d => Q (.rt d) ρ s) ∧
      ∀ ρ s, J ds.length ρ s → Q .nx ρ s := by
  have hn := hG.n2
  have h1 := hG.n1
  rw [w_iR1, w_eC, isI_int, if_pos (by omega), wD_some, Int.toNat_natCast, rangeL_nats]
  refine ⟨fun k ρ _ => LK G f0 k ρ, ?_, ?_, ?_⟩
  · obtain ⟨fk, pk, late, f, p, u, rfl, h⟩ := h
    exact ⟨fk, pk, late, f, p, u, by rfl, h⟩
  · rintro k d ρ s hd h
    obtain ⟨rfl, hkN⟩ := take_succ_range hd
    exact ⟨_, rfl, low_lap (f := fun _ => none) hG (by omega) h q fun ρ s h => h⟩
  · rintro ρ s h
    rw [List.length_map, List.length_range] at h
    obtain ⟨fk, pk, late, f, p, u, rfl, r1, r2, B, hk⟩ := h
    obtain ⟨v, rfl, hv⟩ := hk (by omega)
    have e3 : N - 1 = G.n := by omega
    rw [e3] at hv
    exact q _ _ ⟨fk, pk, some v, f, p, u, _, _, _, _, rfl, r1.mono (by unfold CC; omega), r2.mono (by unfold CC; omega), .inr ⟨v, rfl, by rw [hN]; exact B, hv⟩⟩
theorem iR1_eq {S : Type} {a : E S} {ρ : Env} {s : S} {i : Int} (h : ∀ Q : D → Env → S → Prop, wE a ρ s Q = Q (.int i) ρ s) {Q : List D → Env → S → Prop} : wI (iR1 a) ρ s Q = wI (iR1 (eC (.int i))) ρ s Q := by
  rw [w_iR1, w_iR1, h, w_eC]
theorem low_for {G : Fr} (hG : G.Sh) {g : D} (hg : g = G.d) {N : Nat} (hN : G.n + 1 = N) {f0 : Nat → Option Int} {kv : List (Key × D)} (hk : LK G f0 0 (lowE G.d kv [] none none none none none)) {s : Unit} {Q : Ctl → Env → Unit → Prop} (q : ∀ ρ s, LD G f0 ρ → Q .nx ρ s) :
    wS (sFor (iR1 (e2 dAdd (e2 dIx (eV 0) (eC (.int 0))) (eC (.int 1)))) (gN 4) lowL [4, 5, 6, 7]) (lowE g kv [] none none none none none) s Q := by
  have en : dIx g (.int 0) = some (.int G.n) := by rw [hg]; exact o_ix0 _
  have e1 : dAdd (.int (G.n : Int)) (.int 1) = some (.int (N : Int)) := by
    rw [← hN]
    rfl
  refine w_sFor ?_
  rw [iR1_eq (i := (N : Int)) fun Q => by
    simp only [lowE]
    simp only [↓w_e2, ↓w_eC, ↓v0]
    rw [en, wD_some, e1, wD_some]]
  rw [hg]
  exact low_all hG hN hk q
theorem ev_lowered0 {G : Fr} (hG : G.Sh) {f0 : Nat → Option Int} {kv0 : List (Key × D)} {z0 g : D} (hz0 : z0 = .dct kv0) (hg : g = G.d) {c0 : Nat} (hc0 : c0 ≤ 1000) (h0 : Rep iD c0 kv0 f0) (hd : ∀ v x, f0 v = some x → v < G.n) :
    ∃ r, m_lowered [g, z0] = some r ∧ LowQ G f0 r := by
  have key : wD (m_lowered [g, z0]) (LowQ G f0) := by
    refine run_P rfl ?_
    rw [low_eq]
    show wS _ [some (.sh g), some (.sh z0), none, none, none, none, none, none] () _
    rw [w_sSeq, w_sPar]
    simp only [↓w_qNew, ↓w_qSh, ↓w_qNil, ↓w_e1, ↓w_eC, ↓v1]
    rw [show dDictC z0 = some (.dct kv0) by rw [hz0]; rfl, wD_some]
    simp only [List.length_cons, List.length_nil, if_true, wD_some]
    show wS _ (lowE g kv0 [] none none none none none) () _
    rw [w_sSeq]
    have hk : LK G f0 0 (lowE G.d kv0 [] none none none none none) := ⟨kv0, [], none, f0, _, _, rfl, h0.mono (by omega), (Rep.none nD).mono (by omega), .start hd, fun h => absurd h (by decide)⟩
    refine low_for hG hg rfl hk fun ρ s h => ?_
    show wS _ _ _ _
    exact low_end h fun r ρ s h => h
  exact wD_ex key
theorem ev_lowered {G : Fr} (hG : G.Sh) {f0 : Nat → Option Int} {kv0 : List (Key × D)} {c0 : Nat} (hc0 : c0 ≤ 1000) (h0 : Rep iD c0 kv0 f0) (hd : ∀ v x, f0 v = some x → v < G.n) :
    ∃ r, m_lowered [G.d, .dct kv0] = some r ∧ LowQ G f0 r := ev_lowered0 hG rfl rfl hc0 h0 hd
end Fw
/-! ## K2e -/
set_option linter.all false
set_option maxRecDepth 100000
set_option maxHeartbeats 1000000
/-! A ring too tight; least costs; the told paper. -/
namespace Fw
open PySem PySem.Spec PyProof.Rows L2
theorem pairs0 (l : List Nat) : pairs? (l.map fun (c : Nat) => D.tup [.int c, .int 0]) = some (l.map fun (c : Nat) => ((.inl (c : Int) : Key), D.int 0)) := by
  induction l with
  | nil => rfl
  | cons c r ih =>
    show (key? (.int (c : Int))).bind (fun k => (pairs? (r.map fun (c : Nat) => D.tup [.int c, .int 0])).map ((k, D.int 0) :: ·)) = _
    rw [ih]
    rfl
theorem o_dict0 (l : List Nat) : ∃ kvs, dDictP (.lst (l.map fun (c : Nat) => D.tup [.int c, .int 0])) = some (.dct kvs) ∧ Rep iD l.length kvs fun v => if v ∈ l then some 0 else none := by
  have gen : ∀ (l : List Nat) (acc : List (Key × D)) (c : Nat) (f : Nat → Option Int), Rep iD c acc f → Rep iD (c + l.length) ((l.map fun (c : Nat) => ((.inl (c : Int) : Key), D.int 0)).foldl (fun acc kv => dput acc kv.1 kv.2) acc) fun v => if v ∈ l then some 0 else f v := fun l => by
    induction l with
    | nil => intro acc c f h; exact ⟨fun k => by rw [if_neg (by simp)]; exact h.get k, h.len⟩
    | cons x r ih =>
      intro acc c f h
      have h2 := ih _ _ _ (h.put x (0 : Int))
      refine ⟨fun k => ?_, ?_⟩
      · refine (h2.get k).trans ?_
        by_cases e : k ∈ r
        · rw [if_pos e, if_pos (List.mem_cons_of_mem _ e)]
        · rw [if_neg e]
          unfold up
          by_cases e1 : k = x
          · rw [if_pos e1, if_pos (by rw [e1]; exact List.mem_cons_self ..)]
          · rw [if_neg e1, if_neg (by simp [e1, e])]
      · have := h2.len
        rw [List.length_cons]
        have e : c + (r.length + 1) = c + 1 + r.length := by omega
        rw [e]
        exact this
  have h := gen l [] 0 _ (Rep.none iD)
  rw [Nat.zero_add] at h
  refine ⟨_, ?_, h⟩
  show (pairs? _).map _ = _
  rw [pairs0]
  rfl
theorem idxOf_cast (l : List Nat) (m : Nat) : (l.map fun (x : Nat) => (x : Int)).idxOf (m : Int) = l.idxOf m := by
  induction l with
  | nil => rfl
  | cons x r ih =>
    have e : ((x : Int) == (m : Int)) = (x == m) := by
      by_cases h : x = m
      · subst h; rw [beq_self_eq_true, beq_self_eq_true]
      · rw [beq_false_of_ne h, beq_false_of_ne (fun z => h (by omega))]
    rw [List.map_cons, List.idxOf_cons, List.idxOf_cons, ih, e]
theorem o_index {l : List Nat} {m : Nat} (h : m ∈ l) : dIndex (.lst (nats l)) (.int (m : Int)) = some (.int (l.idxOf m : Nat)) := by
  show (ints? (nats l)).bind _ = _
  rw [ints_nats, Option.bind_some, if_pos (List.mem_map.mpr ⟨m, h, rfl⟩), idxOf_cast]
def mt (G : Fr) (p : Nat → Option Nat) (v i : Nat) : List Nat := (List.range i).map (ch G p v)
theorem mt_succ (G : Fr) (p : Nat → Option Nat) (v i : Nat) : mt G p v (i + 1) = mt G p v i ++ [ch G p v i] := by
  unfold mt
  rw [List.range_succ, List.map_append]
  rfl
theorem mt_len (G : Fr) (p : Nat → Option Nat) (v i : Nat) : (mt G p v i).length = i := by unfold mt; rw [List.length_map, List.length_range]
theorem mt_at {G : Fr} {p : Nat → Option Nat} {v i k : Nat} (h : k < i) : (mt G p v i)[k]? = some (ch G p v k) := by
  unfold mt
  rw [List.getElem?_map, List.getElem?_range h]
  rfl
theorem mt_rv (G : Fr) (p : Nat → Option Nat) (v i : Nat) : ∀ d, d ≤ i → ((mt G p v i).drop (i - d)).reverse.map (fun x => (p x).getD 0) = rv G p v i d
  | 0, _ => by
    rw [Nat.sub_zero, List.drop_of_length_le (by rw [mt_len]; exact Nat.le_refl _)]
    rfl
  | d + 1, hd => by
    have hl : i - (d + 1) < (mt G p v i).length := by rw [mt_len]; omega
    have e1 : i - (d + 1) + 1 = i - d := by omega
    have e2 : (mt G p v i)[i - (d + 1)] = ch G p v (i - (d + 1)) := by
      have := mt_at (G := G) (p := p) (v := v) (i := i) (k := i - (d + 1)) (by omega)
      rw [List.getElem?_eq_getElem hl] at this
      exact Option.some.inj this
    rw [List.drop_eq_getElem_cons hl, e1, e2, List.reverse_cons, List.map_append, mt_rv G p v i d (by omega)]
    rfl
theorem nats_rev (l : List Nat) : (nats l).reverse = nats l.reverse := by unfold nats; rw [List.map_reverse]
theorem nats_drop (l : List Nat) (k : Nat) : (nats l).drop k = nats (l.drop k) := by unfold nats; rw [List.map_drop]
theorem o_cutFrom {l : List Nat} {k : Nat} (h : k ≤ l.length) : dCut (some (k : Int)) none (.lst (nats l)) = some (.lst (nats (l.drop k))) := by
  show some (D.lst (cutD (nats l) (some (k : Int)) none)) = _
  congr 2
  unfold cutD
  have e1 : sIxD (nats l).length 0 (some (k : Int)) = k := by
    have : (nats l).length = l.length := by unfold nats; rw [List.length_map]
    rw [this]
    unfold sIxD
    dsimp only
    split <;> omega
  have e2 : sIxD (nats l).length (nats l).length none = (nats l).length := rfl
  rw [e1, e2, List.take_of_length_le (by rw [List.length_drop]; exact Nat.le_refl _), nats_drop]
/-- what a way in a ring knows -/
def NegR (G : Fr) (x : Nat) (es : List Nat) : Prop := x < G.n ∧ es ≠ [] ∧ es.length ≤ 20 ∧ WayS G x es x ∧ wayC G es < 0
def tgE (g : D) (pk : List (Key × D)) (v : Nat) (ms : List Nat) (o1 o5 : Option Sl) : Env := [some (.sh g), o1, some (.sh (.dct pk)), some (.sh (.int v)), some (.ow (.lst (nats ms))), o5, none]
theorem ring_loop {G : Fr} (hG : G.Sh) {f0 f : Nat → Option Int} {p : Nat → Option Nat} {u : Nat → Nat} (B : BF G f0 (G.n + 1) 0 f p u) {v : Nat} (hv : G.n * G.E < u v) {pk : List (Key × D)} (rp : Rep nD CC pk p) {o1 : Option Sl} (ho1 : o1 = none ∨ ∃ d, o1 = some (.sh d)) {s : Unit} {Q : Ctl → Env → Unit → Prop}
    (q : ∀ x es ρ s, NegR G x es → Q (.rt (.tup [.int x, .tup (nats es)])) ρ s) :
    wS (sSeq (sWh 1000 (tE (eBR dNotIn (eV 3) 4)) (sSeq (sDrop (eApp 4 (eV 3))) (sAsg (eCallP m_end_from (aCons (eV 0) (aCons (e2 dKGet (eV 2) (eV 3)) aNil))) (gN 3))) [1, 5])
      (sSeq (sAsg (eCut (eV 4) (pSome (e2 dIndex (eV 4) (eV 3))) pNone) (gN 5))
      (sRet (eTup (aCons (eV 3) (aCons (Fw.e1 dTuple (eLc (iE (Fw.e1 dRev (eV 5))) (gN 6) Fw.tYes (e2 dKGet (eV 2) (eV 6)) [6])) aNil)))))) (tgE G.d pk v [] o1 none) s Q := by
  have hn := hG.n2
  have hch := B.chain hv
  have upos : ∀ i, i ≤ G.n → 0 < u (ch G p v i) := fun i hi => Nat.lt_of_le_of_lt (Nat.zero_le _) (hch i hi)
  have hlt : ∀ i, i ≤ G.n → ch G p v i < G.n := fun i hi => by
    obtain ⟨e, he⟩ := B.pu _ (upos i hi)
    obtain ⟨h1, h2, _⟩ := B.pd _ e he
    rw [← h2]
    exact (fr_to_lt hG h1).2
  have inLe : ∀ i, i ≤ G.n + 1 → (mt G p v i).Nodup → i ≤ G.n := fun i hi nd => by
    have := (nodup_lt G.n (mt G p v i) nd fun x hx => by
      obtain ⟨t, ht, rfl⟩ := List.mem_map.mp hx
      exact hlt t (by have := List.mem_range.mp ht; omega)).1
    rw [mt_len] at this
    exact this
  rw [w_sSeq]
  refine w_sWh (n := G.n) (fun m ρ _ => ∃ i, i ≤ G.n ∧ m = G.n - i ∧ (mt G p v i).Nodup ∧ ρ = tgE G.d pk (ch G p v i) (mt G p v i) none none) (by omega) ⟨0, Nat.zero_le _, rfl, List.nodup_nil, by rcases ho1 with rfl | ⟨d, rfl⟩ <;> rfl⟩ ?_
  rintro m ρ s ⟨i, hi, rfl, nd, rfl⟩
  rw [w_tE, v_eBR]
  simp only [tgE]
  simp only [↓v3, List.getElem?_cons_zero, List.getElem?_cons_succ, slotX_ow]
  have e1 : dNotIn (.int (ch G p v i : Int)) (.lst (nats (mt G p v i))) = some (.bl !decide (ch G p v i ∈ mt G p v i)) := by
    unfold dNotIn
    rw [o_inN]
    rfl
  rw [e1, wD_some, isB_bl]
  by_cases hin : ch G p v i ∈ mt G p v i
  · rw [decide_eq_true hin]
    simp only [Bool.not_true, Bool.false_eq_true, if_false]
    have hq := List.idxOf_lt_length_of_mem hin
    rw [mt_len] at hq
    have hqe : ch G p v ((mt G p v i).idxOf (ch G p v i)) = ch G p v i := by
      have h1 := mt_at (G := G) (p := p) (v := v) hq
      have h2 : (mt G p v i)[(mt G p v i).idxOf (ch G p v i)]? = some (ch G p v i) := by
        rw [List.getElem?_eq_getElem (by rw [mt_len]; exact hq), List.getElem_idxOf]
      rw [h1] at h2
      exact Option.some.inj h2
    have key := B.neg (v := v) (i := i) (fun t ht => upos t (by omega)) hq hqe fun a b ha hb e => by
      have h1 := mt_at (G := G) (p := p) (v := v) ha
      have h2 := mt_at (G := G) (p := p) (v := v) hb
      rw [e] at h1
      exact (List.getElem?_inj (by rw [mt_len]; exact ha) nd).mp (h1.trans h2.symm)
    generalize hqq : (mt G p v i).idxOf (ch G p v i) = qq at *
    have hring := mt_rv G p v i (i - qq) (by omega)
    have e2 : i - (i - qq) = qq := by omega
    rw [e2] at hring
    have hlen : (rv G p v i (i - qq)).length = i - qq := by
      rw [← hring, List.length_map, List.length_reverse, List.length_drop, mt_len]
    show wS _ (tgE G.d pk (ch G p v i) (mt G p v i) none none) s _
    rw [w_sSeq, w_sAsg]
    simp only [tgE]
    rw [w_eCut, v_eV]
    simp only [List.set, List.getElem?_cons_zero, List.getElem?_cons_succ, slotE_ow]
    rw [w_pSome]
    simp only [↓w_e2, ↓v3, ↓v4, ↓w_pNone]
    rw [o_index hin, wD_some, hqq, isI_int, o_cutFrom (by rw [mt_len]; omega), wD_some]
    show wS _ [some (.sh G.d), none, some (.sh (.dct pk)), some (.sh (.int (ch G p v i))), some (.sh (.lst (nats (mt G p v i)))), some (.sh (.lst (nats ((mt G p v i).drop qq)))), none] s _
    rw [w_sRet, w_eTup, w_aCons]
    simp only [↓v3]
    rw [w_aCons, Fw.w_e1]
    refine w_lc (I := fun _ => True) (P := fun pre acc => ∃ l1 : List Nat, pre = nats l1 ∧ acc = nats (l1.map fun x => (p x).getD 0)) ?_
    rw [w_iE]
    simp only [↓Fw.w_e1, ↓v5]
    have er : dRev (.lst (nats ((mt G p v i).drop qq))) = some (.lst (nats ((mt G p v i).drop qq).reverse)) := by
      show some (D.lst (nats ((mt G p v i).drop qq)).reverse) = _
      rw [nats_rev]
    rw [er, wD_some, show items? (.lst (nats ((mt G p v i).drop qq).reverse)) = some (nats ((mt G p v i).drop qq).reverse) from rfl, wD_some]
    refine ⟨by trivial, trivial, by trivial, ⟨[], rfl, rfl⟩, fun pre d post acc s e hp _ => ?_, fun acc s hp _ => ?_⟩
    · obtain ⟨l1, rfl, rfl⟩ := hp
      have hd : d ∈ nats ((mt G p v i).drop qq).reverse := by rw [e]; simp
      obtain ⟨c, hc, rfl⟩ := List.mem_map.mp hd
      have hc := List.mem_of_mem_drop (List.mem_reverse.mp hc)
      obtain ⟨t, ht, rfl⟩ := List.mem_map.mp hc
      have ht := List.mem_range.mp ht
      obtain ⟨e', he'⟩ := B.pu _ (upos t (by omega))
      refine ⟨_, rfl, ?_⟩
      rw [w_tYes, if_pos rfl]
      simp only [wipeE, List.set]
      simp only [↓w_e2, ↓v2, ↓v6]
      rw [rp.kget he', wD_some]
      refine ⟨⟨l1 ++ [ch G p v t], by unfold nats; rw [List.map_append]; rfl, ?_⟩, trivial, rfl⟩
      unfold nats
      rw [List.map_append, List.map_append]
      show _ = _ ++ [D.int (((p (ch G p v t)).getD 0 : Nat) : Int)]
      rw [he']
      rfl
    · obtain ⟨l1, g1, rfl⟩ := hp
      have e5 := map_nats_inj g1
      subst e5
      rw [hring, show dTuple (.lst (nats (rv G p v i (i - qq)))) = some (.tup (nats (rv G p v i (i - qq)))) from rfl, wD_some, w_aNil]
      simp only [List.length_cons, List.length_nil]
      rw [if_pos (by decide), wD_some]
      exact q _ _ _ _ ⟨hlt i hi, fun z => by rw [z] at hlen; simp at hlen; omega, by omega, key.1, key.2⟩
  · rw [decide_eq_false hin]
    simp only [Bool.not_false, if_true]
    obtain ⟨e', he'⟩ := B.pu _ (upos i hi)
    have he1 := (B.pd _ e' he').1
    have nd' : (mt G p v (i + 1)).Nodup := by
      rw [mt_succ]
      refine List.nodup_append.mpr ⟨nd, by simp, fun a ha b hb => ?_⟩
      rw [List.mem_singleton.mp hb]
      exact fun z => hin (z ▸ ha)
    have hi' := inLe (i + 1) (by omega) nd'
    have hnx : ch G p v (i + 1) = G.fr e' := by
      show G.fr ((p (ch G p v i)).getD 0) = _
      rw [he']
      rfl
    rw [w_sSeq, w_sDrop]
    refine w_eApp rfl ?_
    simp only [↓v3]
    refine ⟨by trivial, by show (nats (mt G p v i)).length < 16777216; unfold nats; rw [List.length_map, mt_len]; omega, ?_⟩
    show wS _ [some (.sh G.d), none, some (.sh (.dct pk)), some (.sh (.int (ch G p v i))), some (.ow (.lst (nats (mt G p v i) ++ [D.int (ch G p v i)]))), none, none] s _
    rw [w_sAsg]
    simp only [↓w_eCallP, ↓w_aCons, ↓w_aNil, ↓w_e2, ↓v0, ↓v2, ↓v3]
    rw [rp.kget he', wD_some, show nD e' = .int (e' : Int) from rfl, ev_end_from he1, wD_some]
    refine ⟨G.n - (i + 1), by omega, i + 1, hi', rfl, nd', ?_⟩
    rw [hnx, mt_succ]
    unfold nats
    rw [List.map_append]
    rfl
/-- a ring too tight, or heights -/
theorem ev_tight {G : Fr} (hG : G.Sh) {g : D} (hg : g = G.d) : (∃ (x : Nat) (es : List Nat), m_tight_ring [g] = some (.tup [.int x, .tup (nats es)]) ∧ NegR G x es) ∨
    (m_tight_ring [g] = some .non ∧ ∃ f : Nat → Option Int, (∀ v, v < G.n → ∃ x, f v = some x) ∧ ∀ e, e < G.E → Cl G f e) := by
  have hn := hG.n2
  obtain ⟨kv, hkv, hrep⟩ := o_dict0 (List.range G.n)
  have key : wD (m_tight_ring [g]) fun r => (∃ (x : Nat) (es : List Nat), r = .tup [.int x, .tup (nats es)] ∧ NegR G x es) ∨ (r = .non ∧ ∃ f : Nat → Option Int, (∀ v, v < G.n → ∃ x, f v = some x) ∧ ∀ e, e < G.E → Cl G f e) := by
    refine run_P rfl ?_
    unfold m_tight_ringB
    show wS _ [some (.sh g), none, none, none, none, none, none] () _
    have en : dIx g (.int 0) = some (.int G.n) := by rw [hg]; exact o_ix0 _
    rw [w_sSeq, w_sAsg, w_eCallP, w_aCons]
    simp only [↓v0]
    rw [w_aCons, Fw.w_e1]
    refine w_lc (I := fun _ => True) (P := fun pre acc => ∃ l1 : List Nat, pre = nats l1 ∧ acc = l1.map fun (c : Nat) => D.tup [.int c, .int 0]) ?_
    rw [w_iR1]
    simp only [↓w_e2, ↓w_eC, ↓v0]
    rw [en, wD_some, isI_int, if_pos (by omega), wD_some, Int.toNat_natCast, rangeL_nats]
    refine ⟨by trivial, trivial, by trivial, ⟨[], rfl, rfl⟩, fun pre d post acc s e hp _ => ?_, fun acc s hp _ => ?_⟩
    · obtain ⟨l1, rfl, rfl⟩ := hp
      have hd : d ∈ nats (List.range G.n) := by rw [e]; simp
      obtain ⟨c, hc, rfl⟩ := List.mem_map.mp hd
      refine ⟨_, rfl, ?_⟩
      rw [w_tYes, if_pos rfl]
      simp only [wipeE, List.set]
      simp only [↓w_eTup2, ↓w_eC, ↓v6]
      exact ⟨⟨l1 ++ [c], by unfold nats; rw [List.map_append]; rfl, by rw [List.map_append]; rfl⟩, trivial, rfl⟩
    · obtain ⟨l1, g1, rfl⟩ := hp
      have e5 := map_nats_inj g1
      subst e5
      rw [hkv, wD_some, w_aNil]
      obtain ⟨r, hr, fk, pk, late, f, p, u, rfl, r1, r2, h⟩ := ev_lowered0 hG (kv0 := kv) rfl hg (by rw [List.length_range]; omega) hrep fun v x h => by
        by_cases hv : v ∈ List.range G.n
        · exact List.mem_range.mp hv
        · rw [if_neg hv] at h; cases h
      rw [hr, wD_some]
      rcases h with ⟨rfl, ⟨k, j, B⟩, hc⟩ | ⟨v, rfl, B, hv⟩
      · rw [show gTup (gCons (gN 1) (gCons (gN 2) (gCons (gN 3) gNil))) (.tup [.dct fk, .dct pk, lateD none]) [some (.sh g), none, none, none, none, none, none] = some [some (.sh g), some (.sh (.dct fk)), some (.sh (.dct pk)), some (.sh .non), none, none, none] from rfl, wD_some]
        show wS _ _ _ _
        rw [w_sSeq, w_sIf, w_tE]
        simp only [↓Fw.w_e1, ↓v3]
        rw [show dIsN .non = some (.bl true) from rfl, wD_some, isB_bl, if_pos rfl, w_sRet, w_eC]
        refine .inr ⟨rfl, f, fun v hv => ?_, hc⟩
        obtain ⟨y, hy, _⟩ := B.st0 v 0 (if_pos (List.mem_range.mpr hv))
        exact ⟨y, hy⟩
      · rw [show gTup (gCons (gN 1) (gCons (gN 2) (gCons (gN 3) gNil))) (.tup [.dct fk, .dct pk, lateD (some v)]) [some (.sh g), none, none, none, none, none, none] = some [some (.sh g), some (.sh (.dct fk)), some (.sh (.dct pk)), some (.sh (.int v)), none, none, none] from rfl, wD_some]
        show wS _ _ _ _
        rw [w_sSeq, w_sIf, w_tE]
        simp only [↓Fw.w_e1, ↓v3]
        rw [show dIsN (.int (v : Int)) = some (.bl false) from rfl, wD_some, isB_bl, if_neg Bool.false_ne_true, w_sNx]
        show wS _ _ _ _
        rw [w_sSeq, w_sNew, w_eLst0]
        subst hg
        show wS _ (tgE G.d pk v [] (some (.sh (.dct fk))) none) s _
        exact ring_loop hG B hv r2 (.inr ⟨_, rfl⟩) fun x es ρ s h => .inl ⟨x, es, rfl, h⟩
  obtain ⟨r, h1, h⟩ := wD_ex key
  rcases h with ⟨x, es, rfl, h⟩ | ⟨rfl, h⟩
  · exact .inl ⟨x, es, h1, h⟩
  · exact .inr ⟨h1, h⟩
end Fw
/-! ## K2f -/
set_option linter.all false
set_option maxRecDepth 100000
set_option maxHeartbeats 1000000
/-! Least costs; the told paper. -/
namespace Fw
open PySem PySem.Spec PyProof.Rows L2
/-- a lap too many: a ring too tight -/
theorem BF.ring {G : Fr} (hG : G.Sh) {f0 f : Nat → Option Int} {p : Nat → Option Nat} {u : Nat → Nat} (B : BF G f0 (G.n + 1) 0 f p u) {v : Nat} (hv : G.n * G.E < u v) : ∃ x es, x < G.n ∧ WayS G x es x ∧ wayC G es < 0 := by
  have hch := B.chain hv
  have upos : ∀ i, i ≤ G.n → 0 < u (ch G p v i) := fun i hi => Nat.lt_of_le_of_lt (Nat.zero_le _) (hch i hi)
  have hlt : ∀ i, i ≤ G.n → ch G p v i < G.n := fun i hi => by
    obtain ⟨e, he⟩ := B.pu _ (upos i hi)
    obtain ⟨h1, h2, _⟩ := B.pd _ e he
    rw [← h2]
    exact (fr_to_lt hG h1).2
  have ex : ∃ i, i ≤ G.n ∧ (mt G p v i).Nodup ∧ ch G p v i ∈ mt G p v i := Classical.byContradiction fun hno => by
    have all : ∀ i, i ≤ G.n + 1 → (mt G p v i).Nodup := fun i => by
      induction i with
      | zero => intro _; exact List.nodup_nil
      | succ i ih =>
        intro hi
        have nd := ih (by omega)
        have hin : ch G p v i ∉ mt G p v i := fun h => hno ⟨i, by omega, nd, h⟩
        rw [mt_succ]
        refine List.nodup_append.mpr ⟨nd, by simp, fun a ha b hb => ?_⟩
        rw [List.mem_singleton.mp hb]
        exact fun z => hin (z ▸ ha)
    have := (nodup_lt G.n (mt G p v (G.n + 1)) (all _ (Nat.le_refl _)) fun x hx => by
      obtain ⟨t, ht, rfl⟩ := List.mem_map.mp hx
      exact hlt t (by have := List.mem_range.mp ht; omega)).1
    rw [mt_len] at this
    omega
  obtain ⟨i, hi, nd, hin⟩ := ex
  have hq := List.idxOf_lt_length_of_mem hin
  rw [mt_len] at hq
  have hqe : ch G p v ((mt G p v i).idxOf (ch G p v i)) = ch G p v i := by
    have h1 := mt_at (G := G) (p := p) (v := v) hq
    have h2 : (mt G p v i)[(mt G p v i).idxOf (ch G p v i)]? = some (ch G p v i) := by
      rw [List.getElem?_eq_getElem (by rw [mt_len]; exact hq), List.getElem_idxOf]
    rw [h1] at h2
    exact Option.some.inj h2
  have key := B.neg (v := v) (i := i) (fun t ht => upos t (by omega)) hq hqe fun a b ha hb e => by
    have h1 := mt_at (G := G) (p := p) (v := v) ha
    have h2 := mt_at (G := G) (p := p) (v := v) hb
    rw [e] at h1
    exact (List.getElem?_inj (by rw [mt_len]; exact ha) nd).mp (h1.trans h2.symm)
  exact ⟨_, _, hlt i hi, key.1, key.2⟩
theorem all_met' {G : Fr} {f : Nat → Option Int} (h : ∀ e, e < G.E → Cl G f e) {x : Nat} (h0 : ∃ z, f x = some z) {v : Nat} (hc : Conn G.roads x v) : ∃ z, f v = some z := by
  induction hc with
  | refl => exact h0
  | fwd _ m ih =>
    obtain ⟨x, hx⟩ := ih
    obtain ⟨r, hr, h1, h2, _, _⟩ := road_ends m
    obtain ⟨y, hy, _⟩ := h (2 * r) (by show _ < 2 * _; omega) x (by rw [h1]; exact hx)
    rw [h2] at hy
    exact ⟨y, hy⟩
  | bwd _ m ih =>
    obtain ⟨x, hx⟩ := ih
    obtain ⟨r, hr, _, _, h1, h2⟩ := road_ends m
    obtain ⟨y, hy, _⟩ := h (2 * r + 1) (by show _ < 2 * _; omega) x (by rw [h1]; exact hx)
    rw [h2] at hy
    exact ⟨y, hy⟩
theorem no_tight {G : Fr} (hG : G.Ok) (hok : fwOk G = true) {g : D} (hg : g = G.d) : m_tight_ring [g] = some .non := by
  rcases ev_tight hG.sh hg with ⟨x, es, _, h⟩ | ⟨h, _⟩
  · have := ring_no hG (fwG_of hG hok) h.1 h.2.2.2.1
    have := h.2.2.2.2
    omega
  · exact h
theorem ev_need {G : Fr} (hG : G.Ok) (hok : fwOk G = true) {g : D} (hg : g = G.d) : m_need_heights [g] = some .non := by
  refine wD_eq (run_P rfl ?_)
  unfold m_need_heightsB
  show wS _ [some (.sh g)] () _
  rw [w_sIf, w_tE]
  simp only [↓Fw.w_e1, ↓w_eCallP, ↓w_aCons, ↓w_aNil, ↓v0]
  rw [no_tight hG hok hg, wD_some, show dNotN .non = some (.bl false) from rfl, wD_some, isB_bl, if_neg Bool.false_ne_true, w_sNx]
  trivial
def rowG (G : Fr) (x : Nat) : List Int := (List.range G.n).map fun v => gt (fwT G) x v
theorem ev_costs_from {G : Fr} (hG : G.Ok) (hc : ∀ v, v < G.n → Conn G.roads 0 v) (hok : fwOk G = true) {x : Nat} (hx : x < G.n) {g : D} (hg : g = G.d) : m_costs_from [g, .int x] = some (.lst ((rowG G x).map .int)) := by
  have hn := hG.n2
  have en : dIx g (.int 0) = some (.int G.n) := by rw [hg]; exact o_ix0 _
  refine wD_eq (run_P rfl ?_)
  unfold m_costs_fromB
  show wS _ [some (.sh g), some (.sh (.int x)), none, none] () _
  rw [w_sSeq, w_sDrop]
  simp only [↓w_eCallP, ↓w_aCons, ↓w_aNil, ↓v0]
  rw [ev_need hG hok hg, wD_some]
  show wS _ _ _ _
  rw [w_sSeq, w_sAsg]
  simp only [↓w_e2, ↓w_eCallP, ↓w_aCons, ↓w_aNil, ↓w_eC, ↓w_eD1, ↓v0, ↓v1]
  rw [show key? (.int (x : Int)) = some (.inl (x : Int)) from rfl, wD_some]
  have hrep : Rep iD 1 [(.inl (x : Int), .int 0)] (up (fun _ => none) x 0) := (Rep.none iD).put x (0 : Int)
  obtain ⟨r, hr, fk, pk, late, f, p, u, rfl, r1, r2, h⟩ := ev_lowered0 hG.sh (kv0 := [(.inl (x : Int), .int 0)]) rfl hg (by decide) hrep fun v z h => by
    by_cases hv : v = x
    · rw [hv]; exact hx
    · rw [up_ne hv] at h; cases h
  rw [hr, wD_some, show dIx (.tup [.dct fk, .dct pk, lateD late]) (.int 0) = some (.dct fk) from rfl, wD_some]
  rcases h with ⟨rfl, ⟨k, j, B⟩, hcl⟩ | ⟨v, rfl, B, hv⟩
  · have hx0 : ∃ z, f x = some z ∧ z ≤ 0 := B.st0 x 0 up_same
    have ha : ∀ v, v < G.n → ∃ z, f v = some z := fun v hv => all_met' hcl (let ⟨z, h, _⟩ := hx0; ⟨z, h⟩) ((hc x hx).symm.trans (hc v hv))
    have hf : ∀ v, v < G.n → f v = some (gt (fwT G) x v) := fun v hv => least_of hG hc hok hx hcl hx0 ha (fun v y hy => B.lo _ ((fwG_of hG hok).pot hG hx) (fun w z hw => by
      by_cases e : w = x
      · subst e
        rw [up_same] at hw
        cases hw
        exact fw_diag hG.sh hx
      · rw [up_ne e] at hw; cases hw) v y hy) hv
    show wS _ [some (.sh g), some (.sh (.int x)), some (.sh (.dct fk)), none] () _
    rw [w_sRet]
    refine w_lc (I := fun _ => True) (P := fun pre acc => ∃ l1 : List Nat, pre = nats l1 ∧ acc = (l1.map fun v => gt (fwT G) x v).map .int) ?_
    rw [w_iR1]
    simp only [↓w_e2, ↓w_eC, ↓v0]
    rw [en, wD_some, isI_int, if_pos (by omega), wD_some, Int.toNat_natCast, rangeL_nats]
    refine ⟨by trivial, trivial, by trivial, ⟨[], rfl, rfl⟩, fun pre d post acc s e hp _ => ?_, fun acc s hp _ => ?_⟩
    · obtain ⟨l1, rfl, rfl⟩ := hp
      have hd : d ∈ nats (List.range G.n) := by rw [e]; simp
      obtain ⟨c, hcm, rfl⟩ := List.mem_map.mp hd
      have hcm := List.mem_range.mp hcm
      refine ⟨_, rfl, ?_⟩
      rw [w_tYes, if_pos rfl]
      simp only [wipeE, List.set]
      simp only [↓w_e2, ↓v2, ↓v3]
      rw [r1.kget (hf c hcm), wD_some]
      exact ⟨⟨l1 ++ [c], by unfold nats; rw [List.map_append]; rfl, by rw [List.map_append, List.map_append]; rfl⟩, trivial, rfl⟩
    · obtain ⟨l1, g1, rfl⟩ := hp
      have e5 := map_nats_inj g1
      subst e5
      rfl
  · obtain ⟨y, es, h1, h2, h3⟩ := B.ring hG.sh hv
    have := ring_no hG (fwG_of hG hok) h1 h2
    omega
theorem ev_greatest {G : Fr} (hG : G.Ok) (hc : ∀ v, v < G.n → Conn G.roads 0 v) (hok : fwOk G = true) {g : D} (hg : g = G.d) : m_greatest_bounded [g] = some (.tup ((rowG G 0).map .int)) := by
  refine wD_eq (run_P rfl ?_)
  unfold m_greatest_boundedB
  show wS _ [some (.sh g)] () _
  rw [w_sRet]
  simp only [↓Fw.w_e1, ↓w_eCallP, ↓w_aCons, ↓w_aNil, ↓w_eC, ↓v0]
  rw [show (D.int 0) = .int ((0 : Nat) : Int) from rfl, ev_costs_from hG hc hok hG.n1 hg, wD_some]
  rfl
/-- the told paper -/
theorem ev_paper {G : Fr} (hG : G.Ok) (hc : ∀ v, v < G.n → Conn G.roads 0 v) {g : D} (hg : g = G.d) :
    (fwOk G = false ∧ ∃ (x : Nat) (es : List Nat), m_height_paper [g] = some (.tup [.str "ring", .int x, .tup (nats es)]) ∧ NegR G x es) ∨
    (fwOk G = true ∧ m_height_paper [g] = some (.tup [.str "heights", .tup ((rowG G 0).map .int)])) := by
  have run : ∀ w d, m_tight_ring [g] = some w → wS (sRet (eIf (tE (Fw.e1 dNotN (eV 1))) (eTup (aCons (eC (.str "ring")) (aStar (eV 1) aNil))) (eTup (aCons (eC (.str "heights")) (aCons (eCallP m_greatest_bounded (aCons (eV 0) aNil)) aNil))))) [some (.sh g), some (.sh w)] () (fun c _ _ => c = .rt d) → m_height_paper [g] = some d := fun w d hw h => by
    refine wD_eq (run_P rfl ?_)
    unfold m_height_paperB
    show wS _ [some (.sh g), none] () _
    rw [w_sSeq, w_sAsg]
    simp only [↓w_eCallP, ↓w_aCons, ↓w_aNil, ↓v0]
    rw [hw, wD_some]
    refine wS_mono h fun c ρ s hc => ?_
    rw [hc]
  rcases ev_tight hG.sh hg with ⟨x, es, h1, h⟩ | ⟨h1, f, ha, hcl⟩
  · left
    have hno : fwOk G = false := by
      cases e : fwOk G with
      | false => rfl
      | true =>
        have := ring_no hG (fwG_of hG e) h.1 h.2.2.2.1
        have := h.2.2.2.2
        omega
    refine ⟨hno, x, es, run _ _ h1 ?_, h⟩
    rw [w_sRet, w_eIf, w_tE]
    simp only [↓Fw.w_e1, ↓v1]
    rw [show dNotN (.tup [.int (x : Int), .tup (nats es)]) = some (.bl true) from rfl, wD_some, isB_bl, if_pos rfl, w_eTup, w_aCons, w_eC, w_aStar]
    simp only [↓v1]
    rw [show items? (.tup [.int (x : Int), .tup (nats es)]) = some [.int (x : Int), .tup (nats es)] from rfl, wD_some, w_aNil]
    simp only [List.length_cons, List.length_nil, List.append_nil]
    rw [if_pos (by decide), wD_some]
  · right
    have hok := ok_of hG hc hcl (ha 0 hG.n1)
    refine ⟨hok, run _ _ h1 ?_⟩
    rw [w_sRet, w_eIf, w_tE]
    simp only [↓Fw.w_e1, ↓v1]
    rw [show dNotN .non = some (.bl false) from rfl, wD_some, isB_bl, if_neg Bool.false_ne_true]
    simp only [↓w_eTup2, ↓w_eC, ↓w_eCallP, ↓w_aCons, ↓w_aNil, ↓v0]
    rw [ev_greatest hG hc hok hg, wD_some]
end Fw
/-! ## K1k -/
set_option linter.all false
set_option maxRecDepth 100000
set_option maxHeartbeats 1000000
/-! How long data are when shown. -/
namespace Fw
open PySem
mutual
/-- plain data, the atoms short -/
def vok : D → Bool
  | .int i => decide (-999999999999 ≤ i ∧ i ≤ 999999999999)
  | .str x => decide ((reprText x).length ≤ 50) && PyData.strOk (reprText x) && PyData.strOk x
  | .lst ds => voks ds
  | .tup ds => voks ds
  | .dct kvs => kvs.isEmpty
  | .obj _ => false
  | _ => true
def voks : List D → Bool
  | [] => true
  | d :: r => vok d && voks r
end
mutual
def sz : D → Nat
  | .lst ds => szs ds + 2
  | .tup ds => szs ds + 3
  | _ => 50
def szs : List D → Nat
  | [] => 0
  | d :: r => sz d + 2 + szs r
end
mutual
def dpt : D → Nat
  | .lst ds => dpts ds + 1
  | .tup ds => dpts ds + 1
  | .dct _ => 1
  | _ => 0
def dpts : List D → Nat
  | [] => 0
  | d :: r => max (dpt d) (dpts r)
end
theorem textFrom_le : ∀ (ts : List Str) (k : Nat) (acc : Str), (textFrom k acc ts).length ≤ acc.length + piled ts
  | [], k, acc => by show acc.length ≤ _; omega
  | t :: r, k, acc => by
    have h := textFrom_le r (k + 1) (acc ++ (if k > 0 then ", " else "" : String) ++ t)
    have e : (acc ++ (if k > 0 then ", " else "" : String) ++ t).length = acc.length + (if k > 0 then 2 else 0) + t.length := by
      rw [strLen_append, strLen_append]
      split <;> rfl
    rw [e] at h
    rw [piled_cons]
    have e3 : (if k > 0 then 2 else 0 : Nat) ≤ 2 := by split <;> omega
    show (textFrom (k + 1) _ r).length ≤ _
    omega
theorem listText_le (ts : List Str) : (listText ts).length ≤ piled ts + 2 := by
  unfold listText
  rw [strLen_append]
  have h := textFrom_le ts 0 "["
  have e1 : (("[" : String) : Str).length = 1 := rfl
  have e2 : (("]" : String) : Str).length = 1 := rfl
  rw [e1] at h
  rw [e2]
  omega
theorem tupleText_le (ts : List Str) : (tupleText ts).length ≤ piled ts + 3 := by
  unfold tupleText
  rw [strLen_append, strLen_append]
  have e1 : (("(" : String) : Str).length = 1 := rfl
  have e2 : ((if ts.length == 1 then ",)" else ")" : String) : Str).length ≤ 2 := by split <;> decide
  by_cases h : ts = []
  · subst h
    have : (Str.join ", " []).length = 0 := rfl
    rw [e1, this]
    omega
  · have := join_length_add ts h
    rw [e1]
    omega
mutual
theorem vok_ok : ∀ d : D, vok d = true → nob d = true ∧ d.showOk = true ∧ d.py.shown.length ≤ sz d ∧ d.py.depth = dpt d
  | .non, _ => ⟨rfl, rfl, by show _ ≤ 50; decide, rfl⟩
  | .bl b, _ => ⟨rfl, rfl, by cases b <;> (show _ ≤ 50) <;> decide, rfl⟩
  | .int i, h => by
    simp only [vok, decide_eq_true_eq] at h
    refine ⟨rfl, ?_, ?_, rfl⟩
    · simp only [D.showOk, decide_eq_true_eq]
      have : i.natAbs < 2 ^ 40 := by omega
      have h2 : i.natAbs.log2 < 40 := by
        by_cases h0 : i.natAbs = 0
        · rw [h0]; decide
        · exact (Nat.log2_lt h0).mpr this
      omega
    · have := PyData.shown_int_le2 h.1 h.2
      show (PyData.shown (.int i)).length ≤ 50
      omega
  | .str x, h => by
    simp only [vok, Bool.and_eq_true, decide_eq_true_eq] at h
    exact ⟨rfl, rfl, by simp only [D.py, PyData.shown]; exact h.1.1, rfl⟩
  | .lst ds, h => by
    simp only [vok] at h
    obtain ⟨h1, h2, h3, h4⟩ := voks_ok ds h
    refine ⟨by simpa [nob] using h1, by simpa [D.showOk] using h2, ?_, by simp only [D.py, PyData.depth, h4, dpt]⟩
    simp only [D.py, PyData.shown, sz]
    have := listText_le (PyData.shownAll (D.pys ds))
    omega
  | .tup ds, h => by
    simp only [vok] at h
    obtain ⟨h1, h2, h3, h4⟩ := voks_ok ds h
    refine ⟨by simpa [nob] using h1, by simpa [D.showOk] using h2, ?_, by simp only [D.py, PyData.depth, h4, dpt]⟩
    simp only [D.py, PyData.shown, sz]
    have := tupleText_le (PyData.shownAll (D.pys ds))
    omega
  | .dct kvs, h => by
    simp only [vok] at h
    cases kvs with
    | nil => exact ⟨rfl, rfl, by show _ ≤ 50; decide, rfl⟩
    | cons _ _ => cases h
  | .obj a, h => by simp [vok] at h
theorem voks_ok : ∀ ds : List D, voks ds = true → nobs ds = true ∧ D.showOks ds = true ∧ piled (PyData.shownAll (D.pys ds)) ≤ szs ds ∧ PyData.depthAll (D.pys ds) = dpts ds
  | [], _ => ⟨rfl, rfl, Nat.le_refl _, rfl⟩
  | d :: r, h => by
    simp only [voks, Bool.and_eq_true] at h
    obtain ⟨a1, a2, a3, a4⟩ := vok_ok d h.1
    obtain ⟨b1, b2, b3, b4⟩ := voks_ok r h.2
    refine ⟨by simp [nobs, a1, b1], by simp [D.showOks, a2, b2], ?_, by simp only [D.pys, PyData.depthAll, dpts, a4, b4]⟩
    simp only [D.pys, PyData.shownAll, szs, piled_cons]
    omega
end
/-- what may be shown -/
def Val (d : D) : Prop := vok d = true ∧ sz d ≤ 1000000 ∧ dpt d ≤ 50
theorem Val.nob {d : D} (h : Val d) : Fw.nob d = true := (vok_ok d h.1).1
theorem Val.repr {d : D} (h : Val d) : dRepr d = some (.str d.py.shown) := by
  obtain ⟨_, h2, h3, h4⟩ := vok_ok d h.1
  unfold dRepr D.reprOk
  rw [if_pos]
  rw [h2, h4]
  have a := h.2.1
  have b := h.2.2
  simp only [Bool.true_and, Bool.and_eq_true, decide_eq_true_eq]
  exact ⟨by show _ ≤ 16777216; omega, by omega⟩
end Fw
/-! ## K1q -/
set_option linter.all false
set_option maxRecDepth 100000
/-! What is shown is text. -/
namespace Fw
open PySem PySem.Spec PyProof.Rows L2
def sOk (x : Str) : Prop := ∀ c ∈ x.cps.toList, c < 1114112
theorem sOk.ok {x : Str} (h : sOk x) : PyData.strOk x = true := by
  unfold PyData.strOk
  rw [Array.all_eq_true']
  intro c hc
  exact decide_eq_true (h c (Array.mem_toList_iff.mpr hc))
theorem sOk.app {x y : Str} (h : sOk x) (h' : sOk y) : sOk (x ++ y) := fun c hc => (mem_cps_append.mp hc).elim (h c) (h' c)
theorem sOk_textFrom : ∀ (ts : List Str) (k : Nat) (acc : Str), sOk acc → (∀ t ∈ ts, sOk t) → sOk (textFrom k acc ts)
  | [], k, acc, h, _ => h
  | t :: r, k, acc, h, ht => by
    show sOk (textFrom (k + 1) (acc ++ (if k > 0 then ", " else "" : String) ++ t) r)
    refine sOk_textFrom r (k + 1) _ ((h.app ?_).app (ht t (List.mem_cons_self ..))) fun x hx => ht x (List.mem_cons_of_mem _ hx)
    split <;> intro c hc <;> revert c <;> decide
theorem sOk_join (sep : Str) (hs : sOk sep) : ∀ ts : List Str, (∀ t ∈ ts, sOk t) → sOk (Str.join sep ts)
  | [], _ => fun c hc => by
    have h : (Str.join sep []).cps.toList = [] := rfl
    rw [h] at hc
    cases hc
  | [t], h => h t (List.mem_cons_self ..)
  | t :: u :: r, h => by
    have h1 := sOk_join sep hs (u :: r) fun x hx => h x (List.mem_cons_of_mem _ hx)
    have h2 := ((h t (List.mem_cons_self ..)).app hs).app h1
    exact h2
theorem sOk_int (i : Int) : sOk (PyData.int i).shown := fun c hc => by
  rcases Nat.lt_or_ge c 1114112 with h | h
  · exact h
  · exact absurd hc (shown_int_free' ⟨by omega, Or.inr (by omega)⟩ i)
theorem ok_sOk {x : Str} (h : PyData.strOk x = true) : sOk x := fun c hc => by
  unfold PyData.strOk at h
  rw [Array.all_eq_true'] at h
  exact of_decide_eq_true (h c (Array.mem_toList_iff.mp hc))
mutual
theorem sv_shown : ∀ d : D, vok d = true → sOk d.py.shown
  | .non, _ => by show sOk (PyData.none.shown); intro c hc; revert c; decide
  | .bl b, _ => by cases b <;> (intro c hc; revert c; decide)
  | .int i, _ => sOk_int i
  | .str x, h => by
    simp only [vok, Bool.and_eq_true] at h
    simp only [D.py, PyData.shown]
    exact ok_sOk h.1.2
  | .lst ds, h => by
    simp only [vok] at h
    have k := svs_shown ds h
    simp only [D.py, PyData.shown]
    unfold listText
    exact (sOk_textFrom _ _ _ (by intro c hc; revert c; decide) k).app (by intro c hc; revert c; decide)
  | .tup ds, h => by
    simp only [vok] at h
    have k := svs_shown ds h
    simp only [D.py, PyData.shown]
    unfold tupleText
    refine (((by intro c hc; revert c; decide : sOk (Str.ofString "(")).app (sOk_join _ (by intro c hc; revert c; decide) _ k)).app ?_)
    split <;> (intro c hc; revert c; decide)
  | .dct kvs, h => by
    simp only [vok] at h
    cases kvs with
    | nil => intro c hc; revert c; decide
    | cons _ _ => cases h
  | .obj a, h => by simp [vok] at h
theorem svs_shown : ∀ ds : List D, voks ds = true → ∀ t ∈ PyData.shownAll (D.pys ds), sOk t
  | [], _ => fun t h => by cases h
  | d :: r, h => by
    simp only [voks, Bool.and_eq_true] at h
    intro t ht
    simp only [D.pys, PyData.shownAll, List.mem_cons] at ht
    rcases ht with rfl | ht
    · exact sv_shown d h.1
    · exact svs_shown r h.2 t ht
end
theorem Val.text {d : D} (h : Val d) : PyData.strOk d.py.shown = true := (sv_shown d h.1).ok
end Fw
/-! ## K1l -/
set_option linter.all false
set_option maxRecDepth 100000
set_option maxHeartbeats 1000000
/-! A value with something otherwise. -/
namespace Fw
open PySem
def It (d : D) : Prop := vok d = true ∧ sz d ≤ 200 ∧ dpt d ≤ 5
def TupOf (c : Nat) (d : D) : Prop := ∃ ds, d = .tup ds ∧ ds.length ≤ c ∧ ∀ x ∈ ds, It x
theorem its_ok : ∀ {ds : List D}, (∀ x ∈ ds, It x) → voks ds = true ∧ szs ds ≤ 202 * ds.length ∧ dpts ds ≤ 5
  | [], _ => ⟨rfl, Nat.le_refl _, by decide⟩
  | d :: r, h => by
    obtain ⟨a1, a2, a3⟩ := h d (List.mem_cons_self ..)
    obtain ⟨b1, b2, b3⟩ := its_ok fun x hx => h x (List.mem_cons_of_mem _ hx)
    refine ⟨by simp [voks, a1, b1], ?_, ?_⟩
    · simp only [szs, List.length_cons]; omega
    · simp only [dpts]; omega
theorem val_tup {ds : List D} (h : ∀ x ∈ ds, It x) (hl : ds.length ≤ 1000) : Val (.tup ds) := by
  obtain ⟨a, b, c⟩ := its_ok h
  exact ⟨by simp only [vok]; exact a, by simp only [sz]; omega, by simp only [dpt]; omega⟩
theorem val_lst {ds : List D} (h : ∀ x ∈ ds, It x) (hl : ds.length ≤ 1000) : Val (.lst ds) := by
  obtain ⟨a, b, c⟩ := its_ok h
  exact ⟨by simp only [vok]; exact a, by simp only [sz]; omega, by simp only [dpt]; omega⟩
theorem It.val {d : D} (h : It d) : Val d := ⟨h.1, by have := h.2.1; omega, by have := h.2.2; omega⟩
theorem TupOf.val {c : Nat} {d : D} (h : TupOf c d) (hc : c ≤ 1000) : Val d := by
  obtain ⟨ds, rfl, h1, h2⟩ := h
  exact val_tup h2 (by omega)
theorem it_int {i : Int} (h : -999999999999 ≤ i ∧ i ≤ 999999999999) : It (.int i) := ⟨by simp [vok, h], by show 50 ≤ 200; decide, by show 0 ≤ 5; decide⟩
theorem mem_cutD {ds : List D} {lo hi : Option Int} {x : D} (h : x ∈ cutD ds lo hi) : x ∈ ds := List.mem_of_mem_drop (List.mem_of_mem_take h)
theorem cutD_len {ds : List D} {lo hi : Option Int} : (cutD ds lo hi).length ≤ ds.length := by
  unfold cutD
  rw [List.length_take, List.length_drop]
  omega
theorem o_cut {c : Nat} {d : D} (h : TupOf c d) (lo hi : Option Int) : ∃ z, dCut lo hi d = some z ∧ TupOf c z := by
  obtain ⟨ds, rfl, h1, h2⟩ := h
  exact ⟨_, rfl, _, rfl, Nat.le_trans cutD_len h1, fun x hx => h2 x (mem_cutD hx)⟩
theorem o_addT {c c' : Nat} {d e : D} (h : TupOf c d) (h' : TupOf c' e) (hc : c + c' ≤ 1000) : ∃ z, dAdd d e = some z ∧ TupOf (c + c') z := by
  obtain ⟨ds, rfl, h1, h2⟩ := h
  obtain ⟨es, rfl, h3, h4⟩ := h'
  refine ⟨.tup (ds ++ es), ?_, _, rfl, by rw [List.length_append]; omega, fun x hx => ?_⟩
  · show (if ds.length + es.length ≤ LIM then some (D.tup (ds ++ es)) else none) = _
    rw [if_pos (by show _ ≤ 16777216; omega)]
  · rcases List.mem_append.mp hx with hx | hx
    · exact h2 x hx
    · exact h4 x hx
theorem tup1 {d : D} (h : It d) : TupOf 1 (.tup [d]) := ⟨_, rfl, Nat.le_refl _, fun x hx => by rw [List.mem_singleton.mp hx]; exact h⟩
theorem tupI {hs : List Int} (h : ∀ x ∈ hs, -99999999999 ≤ x ∧ x ≤ 99999999999) : TupOf hs.length (.tup (hs.map .int)) := ⟨_, rfl, by rw [List.length_map]; exact Nat.le_refl _, fun x hx => by
  obtain ⟨i, hi, rfl⟩ := List.mem_map.mp hx
  have := h i hi
  exact it_int (by omega)⟩
def odds : List D := [.non, .int 0, .int 1, .int 2, .bl true, .int (-1), .str "a", .str "heights", .str "ring", .str "tied", .str "loose", .tup [], .tup [.int 0], .tup [.int 0, .int 0], .lst [], .dct [], .int 1000000]
theorem odds_it : ∀ d ∈ odds, It d := by
  have : odds.all (fun d => vok d && decide (sz d ≤ 200) && decide (dpt d ≤ 5)) = true := by decide +kernel
  intro d hd
  have h := List.all_eq_true.mp this d hd
  simp only [Bool.and_eq_true, decide_eq_true_eq] at h
  exact ⟨h.1.1, h.1.2, h.2⟩
theorem odds_ev {S : Type} {ρ : Env} {s : S} {Q : D → Env → S → Prop} (q : Q (.lst odds) ρ s) :
    wE (eLst (aCons (eC .non) (aCons (eC (.int 0)) (aCons (eC (.int 1)) (aCons (eC (.int 2)) (aCons (eC (.bl true)) (aCons (e1 dNeg (eC (.int 1))) (aCons (eC (.str "a")) (aCons (eC (.str "heights")) (aCons (eC (.str "ring")) (aCons (eC (.str "tied")) (aCons (eC (.str "loose")) (aCons (eTup aNil) (aCons (eTup (aCons (eC (.int 0)) aNil)) (aCons (eTup (aCons (eC (.int 0)) (aCons (eC (.int 0)) aNil))) (aCons (eLst aNil) (aCons (eC (.dct [])) (aCons (e2 dPow (eC (.int 10)) (eC (.int 6))) aNil)))))))))))))))))) ρ s Q := by
  have e1 : dPow (.int 10) (.int 6) = some (.int 1000000) := rfl
  have e2 : dNeg (.int 1) = some (.int (-1)) := rfl
  simp only [w_eLst, w_aCons, w_aNil, w_eC, w_e1, w_e2, w_eTup, e1, e2, wD_some, List.length_cons, List.length_nil]
  repeat (first | rw [wD_some] | rw [if_pos (by decide)])
  exact q
theorem eqOk_tupI (hs : List Int) : D.eqOk (.tup (hs.map .int)) = true := by
  have h1 : D.pure (.tup (hs.map D.int)) = true := pures_map D.int (fun _ => rfl) hs
  have h2 : ∀ l : List Int, PyData.canLayAll0 (D.pys (l.map D.int)) = true ∧ PyData.depthAll (D.pys (l.map D.int)) = 0 := fun l => by
    induction l with
    | nil => exact ⟨rfl, rfl⟩
    | cons x r ih => simp [D.pys, D.py, PyData.canLayAll0, PyData.canLay0, PyData.depthAll, PyData.depth, ih]
  unfold D.eqOk SeqAt.shaped
  rw [h1]
  simp only [D.py, PyData.canLay0, PyData.depth, (h2 hs).1, (h2 hs).2]
  rfl
theorem o_eqNilT (hs : List Int) : dEq (.tup (hs.map .int)) (.tup []) = some (.bl hs.isEmpty) := by
  unfold dEq
  rw [if_pos ⟨eqOk_tupI hs, rfl⟩]
  cases hs <;> rfl
/-- an int bent: something odd -/
theorem bent_int {a : Addr} {i : Int} {k : Nat} {s : Src} {Q : D × Src → Prop} (hs : s.addr = a) (q : ∀ d s', s'.addr = a → It d → Q (d, s')) : wD (m_law_bent (k + 1) [.obj a, .int i] s) Q := by
  have key : wD (runC 2 6 (m_law_bentB (m_law_bent k)) [.obj a, .int i] s) fun p => Q (p.1, p.2) := by
    refine run_C (Q := fun d s' => Q (d, s')) rfl ?_
    unfold m_law_bentB
    refine w_seq (fun ρ s => s.addr = a ∧ ρ = [some (.sh (.obj a)), some (.sh (.int i)), some (.sh (.lst odds)), none, none, none]) (fun Q' hn _ _ _ => ?_) ?_
    · rw [w_sAsg]
      exact odds_ev (hn _ _ ⟨hs, rfl⟩)
    rintro ρ s ⟨hs, rfl⟩
    refine w_seq (fun _ _ => False) (fun Q' hn hr _ _ => ?_) (fun _ _ h => h.elim)
    have e1 : dIsi "tuple" (.int i) = some (.bl false) := rfl
    simp only [w_sIf, w_tOr, w_tNot, w_tE, w_e1, v_eV, List.getElem?_cons_zero, List.getElem?_cons_succ, slotE_sh, e1, wD_some, isB_bl, Bool.not_false, if_true]
    simp only [w_sSeq, w_sAsg, w_eLst, w_eCall, w_aCons, w_aNil, v_eV, List.getElem?_cons_zero, List.getElem?_cons_succ, slotE_sh]
    refine of_ev hs (by decide) (by decide) fun d s1 hs1 hd => ?_
    simp only [List.length_cons, List.length_nil]
    rw [if_pos (by decide)]
    simp only [wD_some, gN, List.set, w_sIf, w_tE, w_e1, v_eV, List.getElem?_cons_zero, List.getElem?_cons_succ, slotE_sh, e1, isB_bl, Bool.false_eq_true, if_false, w_sNx, w_sRet, w_eCall, w_aCons, w_aNil]
    refine of_ev hs1 (by simp) (by simp) fun d' s2 hs2 hd' => ?_
    rw [List.mem_singleton.mp hd']
    exact hr _ _ _ (q d s2 hs2 (odds_it d hd))
  exact key
theorem o_ixTup {ds : List D} {k : Nat} (hk : k < ds.length) : dIx (.tup ds) (.int k) = some ds[k] := by
  rw [o_ixT, List.getElem?_eq_getElem hk]
end Fw
/-! ## K1r -/
set_option linter.all false
set_option maxRecDepth 100000
set_option maxHeartbeats 1000000
/-! The values near a frame. -/
namespace Fw
open PySem PySem.Spec PyProof.Rows L2
def Vb (c m : Nat) (d : D) : Prop := vok d = true ∧ sz d ≤ c ∧ dpt d ≤ m
theorem Vb.mono {c m c' m' : Nat} {d : D} (h : Vb c m d) (hc : c ≤ c') (hm : m ≤ m') : Vb c' m' d := ⟨h.1, Nat.le_trans h.2.1 hc, Nat.le_trans h.2.2 hm⟩
theorem vbs {c m : Nat} : ∀ {ds : List D}, (∀ x ∈ ds, Vb c m x) → voks ds = true ∧ szs ds ≤ (c + 2) * ds.length ∧ dpts ds ≤ m
  | [], _ => ⟨rfl, Nat.zero_le _, Nat.zero_le _⟩
  | d :: r, h => by
    obtain ⟨a1, a2, a3⟩ := h d (List.mem_cons_self ..)
    obtain ⟨b1, b2, b3⟩ := vbs fun x hx => h x (List.mem_cons_of_mem _ hx)
    refine ⟨by simp [voks, a1, b1], ?_, ?_⟩
    · simp only [szs, List.length_cons, Nat.mul_succ]; omega
    · simp only [dpts]; omega
theorem vb_tup {c m l : Nat} {ds : List D} (h : ∀ x ∈ ds, Vb c m x) (hl : ds.length ≤ l) : Vb ((c + 2) * l + 3) (m + 1) (.tup ds) := by
  obtain ⟨a, b, e⟩ := vbs h
  have := Nat.mul_le_mul_left (c + 2) hl
  exact ⟨by simp only [vok]; exact a, by simp only [sz]; omega, by simp only [dpt]; omega⟩
theorem vb_lst {c m l : Nat} {ds : List D} (h : ∀ x ∈ ds, Vb c m x) (hl : ds.length ≤ l) : Vb ((c + 2) * l + 2) (m + 1) (.lst ds) := by
  obtain ⟨a, b, e⟩ := vbs h
  have := Nat.mul_le_mul_left (c + 2) hl
  exact ⟨by simp only [vok]; exact a, by simp only [sz]; omega, by simp only [dpt]; omega⟩
theorem Vb.val {c m : Nat} {d : D} (h : Vb c m d) (hc : c ≤ 1000000) (hm : m ≤ 50) : Val d := h.mono hc hm
theorem vb_int {i : Int} (h : -999999999999 ≤ i ∧ i ≤ 999999999999) : Vb 50 0 (.int i) := ⟨by simp [vok, h], Nat.le_refl _, Nat.le_refl _⟩
/-- a tuple of small things -/
def TV (l : Nat) (d : D) : Prop := ∃ ds, d = .tup ds ∧ ds.length ≤ l ∧ ∀ x ∈ ds, Vb 500 8 x
theorem TV.vb {l : Nat} {d : D} (h : TV l d) (hl : l ≤ 100) : Vb 50203 9 d := by
  obtain ⟨ds, rfl, h1, h2⟩ := h
  exact vb_tup (l := 100) h2 (by omega)
theorem t_cut {l : Nat} {d : D} (h : TV l d) (lo hi : Option Int) : ∃ z, dCut lo hi d = some z ∧ TV l z := by
  obtain ⟨ds, rfl, h1, h2⟩ := h
  exact ⟨_, rfl, _, rfl, Nat.le_trans cutD_len h1, fun x hx => h2 x (mem_cutD hx)⟩
theorem t_add {c c' : Nat} {d e : D} (h : TV c d) (h' : TV c' e) (hc : c + c' ≤ 1000) : ∃ z, dAdd d e = some z ∧ TV (c + c') z := by
  obtain ⟨ds, rfl, h1, h2⟩ := h
  obtain ⟨es, rfl, h3, h4⟩ := h'
  refine ⟨.tup (ds ++ es), ?_, _, rfl, by rw [List.length_append]; omega, fun x hx => ?_⟩
  · show (if ds.length + es.length ≤ LIM then some (D.tup (ds ++ es)) else none) = _
    rw [if_pos (by show _ ≤ 16777216; omega)]
  · rcases List.mem_append.mp hx with hx | hx
    · exact h2 x hx
    · exact h4 x hx
theorem t_one {d : D} (h : Vb 500 8 d) : TV 1 (.tup [d]) := ⟨_, rfl, Nat.le_refl _, fun x hx => by rw [List.mem_singleton.mp hx]; exact h⟩
/-- a row with one item put in its place -/
theorem t_put {c : Nat} {d x : D} (h : TV c d) (hx : Vb 500 8 x) (hc : c + 1 + c ≤ 1000) (lo hi : Option Int) : ∃ l z r w, dCut none lo d = some l ∧ dCut hi none d = some r ∧ dAdd l (.tup [x]) = some z ∧ dAdd z r = some w ∧ TV (c + 1 + c) w := by
  obtain ⟨l, h1, t1⟩ := t_cut h none lo
  obtain ⟨r, h2, t2⟩ := t_cut h hi none
  obtain ⟨z, h3, t3⟩ := t_add t1 (t_one hx) (by omega)
  obtain ⟨w, h4, t4⟩ := t_add t3 t2 hc
  exact ⟨l, z, r, w, h1, h2, h3, h4, t4⟩
theorem vb_road (p : Nat × Nat) (h : p.1 < 1000 ∧ p.2 < 1000) : Vb 500 8 (dRoad p) := by
  refine (vb_tup (c := 50) (m := 0) (l := 2) (ds := [.int p.1, .int p.2]) (fun x hx => ?_) (Nat.le_refl _)).mono (by decide) (by decide)
  simp only [List.mem_cons, List.not_mem_nil, or_false] at hx
  rcases hx with rfl | rfl <;> exact vb_int (by omega)
theorem Fr.Ok.tR {G : Fr} (h : G.Ok) : TV 32 (.tup (G.roads.map dRoad)) := ⟨_, rfl, by rw [List.length_map]; exact h.m, fun x hx => by
  obtain ⟨p, hp, rfl⟩ := List.mem_map.mp hx
  have := h.rd p hp
  have := h.n2
  exact vb_road p (by omega)⟩
theorem tv_ints {l : List Int} {k : Nat} (hl : l.length ≤ k) (h : ∀ x ∈ l, -999999999999 ≤ x ∧ x ≤ 999999999999) : TV k (.tup (l.map .int)) := ⟨_, rfl, by rw [List.length_map]; exact hl, fun x hx => by
  obtain ⟨i, hi, rfl⟩ := List.mem_map.mp hx
  exact (vb_int (h i hi)).mono (by decide) (by decide)⟩
theorem Fr.Ok.tL {G : Fr} (h : G.Ok) : TV 32 (.tup (G.low.map .int)) := tv_ints (by have := h.ll; have := h.m; omega) fun x hx => by have := h.lb x hx; omega
theorem Fr.Ok.tH {G : Fr} (h : G.Ok) : TV 32 (.tup (G.high.map .int)) := tv_ints (by have := h.hl; have := h.m; omega) fun x hx => by have := h.hb x hx; omega
theorem val4 {a b c d : D} (ha : Vb 50203 9 a) (hb : Vb 50203 9 b) (hc : Vb 50203 9 c) (hd : Vb 50203 9 d) : Val (.tup [a, b, c, d]) :=
  (vb_tup (l := 4) (ds := [a, b, c, d]) (fun x hx => by
    simp only [List.mem_cons, List.not_mem_nil, or_false] at hx
    rcases hx with rfl | rfl | rfl | rfl <;> assumption) (Nat.le_refl _)).val (by decide) (by decide)
theorem val4l {a b c d : D} (ha : Vb 50203 9 a) (hb : Vb 50203 9 b) (hc : Vb 50203 9 c) (hd : Vb 50203 9 d) : Val (.lst [a, b, c, d]) :=
  (vb_lst (l := 4) (ds := [a, b, c, d]) (fun x hx => by
    simp only [List.mem_cons, List.not_mem_nil, or_false] at hx
    rcases hx with rfl | rfl | rfl | rfl <;> assumption) (Nat.le_refl _)).val (by decide) (by decide)
theorem val3 {a b c : D} (ha : Vb 50203 9 a) (hb : Vb 50203 9 b) (hc : Vb 50203 9 c) : Val (.tup [a, b, c]) :=
  (vb_tup (l := 3) (ds := [a, b, c]) (fun x hx => by
    simp only [List.mem_cons, List.not_mem_nil, or_false] at hx
    rcases hx with rfl | rfl | rfl <;> assumption) (Nat.le_refl _)).val (by decide) (by decide)
theorem Fr.Ok.n9 {G : Fr} (h : G.Ok) : Vb 50203 9 (.int G.n) := (vb_int (by have := h.n2; omega)).mono (by decide) (by decide)
theorem Fr.Ok.val {G : Fr} (h : G.Ok) : Val G.d := val4 h.n9 (h.tR.vb (by decide)) (h.tL.vb (by decide)) (h.tH.vb (by decide))
end Fw
namespace Fw
open PySem PySem.Spec PyProof.Rows L2
theorem o_addL {ds es : List D} (h : ds.length + es.length ≤ 1000) : dAdd (.lst ds) (.lst es) = some (.lst (ds ++ es)) := by
  show (if ds.length + es.length ≤ LIM then some (D.lst (ds ++ es)) else none) = _
  rw [if_pos (by show _ ≤ 16777216; omega)]
theorem val_app {ds es : List D} (h : ∀ d ∈ ds, Val d) (h' : ∀ d ∈ es, Val d) : ∀ d ∈ ds ++ es, Val d := fun d hd => (List.mem_append.mp hd).elim (h d) (h' d)
theorem val_non : Val .non := ⟨rfl, by decide, by decide⟩
def dPair : D → D
  | .int k => .tup [.int k, .int (k + 1)]
  | d => d
def pairs20 : List D := (rangeL 0 20).map dPair
def roads20 : D := .tup pairs20
def cc20 (N : Int) : E Src := eLc (iR1 (eC (.int N))) (gN 11) Fw.tYes (eTup (aCons (eV 11) (aCons (e2 dAdd (eV 11) (eC (.int 1))) aNil))) [11]
theorem comp20 {a0 a1 a2 a3 a4 a5 a6 a7 a8 a9 a10 a12 a13 a14 a15 a16 a17 a18 a19 a20 a21 a22 a23 : Option Sl} {d11 : D} {N : Int} (hN : N = 20) (s : Src) (Q : D → Env → Src → Prop) (h : Q (.lst pairs20) [a0, a1, a2, a3, a4, a5, a6, a7, a8, a9, a10, some (.sh d11), a12, a13, a14, a15, a16, a17, a18, a19, a20, a21, a22, a23] s) : wE (cc20 N) [a0, a1, a2, a3, a4, a5, a6, a7, a8, a9, a10, some (.sh d11), a12, a13, a14, a15, a16, a17, a18, a19, a20, a21, a22, a23] s Q := by
  unfold cc20
  refine w_lc (I := fun s' => s' = s) (P := fun pre acc => acc = pre.map dPair) ?_
  rw [w_iR1, w_eC, isI_int, if_pos (by subst hN; decide), wD_some]
  refine ⟨rfl, rfl, rfl, rfl, fun pre d post acc s' e hp hs => ?_, fun acc s' hp hs => ?_⟩
  · have hd : d ∈ rangeL 0 N.toNat := by rw [e]; simp
    obtain ⟨z, hz, rfl⟩ := List.mem_map.mp hd
    refine ⟨_, rfl, ?_⟩
    rw [w_tYes, if_pos rfl]
    simp only [wipeE, List.set]
    simp only [↓w_e2, ↓w_eC, ↓w_eTup2, ↓v11]
    refine ⟨?_, hs, rfl⟩
    rw [hp, List.map_append]
    rfl
  · subst hs hp hN
    exact h
end Fw
/-! ## K2g -/
set_option linter.all false
set_option maxRecDepth 100000
set_option maxHeartbeats 1000000
/-! What is looked at in a paper. -/
namespace Fw
open PySem PySem.Spec PyProof.Rows L2
/-! ### heights -/
def roadOk (G : Fr) (hs : List Int) (r : Nat) : Prop := G.low.getD r 0 ≤ hs.getD (G.roads.getD r (0, 0)).2 0 - hs.getD (G.roads.getD r (0, 0)).1 0 ∧ hs.getD (G.roads.getD r (0, 0)).2 0 - hs.getD (G.roads.getD r (0, 0)).1 0 ≤ G.high.getD r 0
theorem ev_broken' {G : Fr} (hG : G.Sh) {hs : List Int} (hl : hs.length = G.n) : (∃ r, r < G.roads.length ∧ ¬ roadOk G hs r ∧ m_broken_road [G.d, .tup (hs.map D.int)] = some (.int (r : Nat))) ∨
    ((∀ r, r < G.roads.length → roadOk G hs r) ∧ m_broken_road [G.d, .tup (hs.map D.int)] = some .non) := by
  have key : wD (m_broken_road [G.d, .tup (hs.map D.int)]) fun z => (∃ r, r < G.roads.length ∧ ¬ roadOk G hs r ∧ z = .int (r : Nat)) ∨ ((∀ r, r < G.roads.length → roadOk G hs r) ∧ z = .non) := by
    refine run_P rfl ?_
    unfold m_broken_roadB
    show wS _ [some (.sh G.d), some (.sh (.tup (hs.map D.int))), none, none, none] () _
    rw [w_sSeq]
    refine w_sFor ?_
    rw [w_iEnum]
    simp only [↓w_e2, ↓w_eC, ↓v0]
    rw [show dIx G.d (.int 1) = some (.tup (G.roads.map dRoad)) from o_ix1 _, wD_some, show items? (.tup (G.roads.map dRoad)) = some (G.roads.map dRoad) from rfl, wD_some]
    refine ⟨fun j ρ _ => ρ = [some (.sh G.d), some (.sh (.tup (hs.map D.int))), none, none, none] ∧ ∀ r, r < j → roadOk G hs r, ⟨rfl, fun r h => absurd h (Nat.not_lt_zero _)⟩, ?_, ?_⟩
    · rintro j d ρ s hd ⟨rfl, hok⟩
      rw [enumL_at, List.getElem?_map] at hd
      obtain ⟨x, hx, rfl⟩ := Option.map_eq_some_iff.mp hd
      obtain ⟨p, hp, rfl⟩ := Option.map_eq_some_iff.mp hx
      obtain ⟨p1, p2⟩ := hG.rd p (List.mem_of_getElem? hp)
      have hj : j < G.roads.length := (List.getElem?_eq_some_iff.mp hp).1
      have hpd : G.roads.getD j (0, 0) = p := by rw [List.getD_eq_getElem?_getD, hp]; rfl
      refine ⟨_, rfl, ?_⟩
      have q0 : ((0 + j : Nat) : Int) = (j : Int) := by omega
      rw [q0]
      show wS _ [some (.sh G.d), some (.sh (.tup (hs.map D.int))), some (.sh (.int (j : Int))), some (.sh (.int p.1)), some (.sh (.int p.2))] s _
      have l1 := o_ixI G.low (a := j) (by rw [hG.ll]; exact hj)
      have l2 := o_ixI G.high (a := j) (by rw [hG.hl]; exact hj)
      have l3 := o_ixI hs (a := p.1) (by omega)
      have l4 := o_ixI hs (a := p.2) (by omega)
      have lo : dIx G.d (.int 2) = some (.tup (G.low.map .int)) := o_ix2 _
      have hi : dIx G.d (.int 3) = some (.tup (G.high.map .int)) := o_ix3 _
      rw [w_sIf, w_tNot, w_tE, w_eChain]
      simp only [↓w_e2, ↓w_eC, ↓v0, ↓v1, ↓v2, ↓v3, ↓v4]
      rw [lo, wD_some, l1, wD_some, l4, wD_some, l3, wD_some, show dSub (.int (hs.getD p.2 0)) (.int (hs.getD p.1 0)) = some (.int (hs.getD p.2 0 - hs.getD p.1 0)) from rfl, wD_some,
        show dLe (.int (G.low.getD j 0)) (.int (hs.getD p.2 0 - hs.getD p.1 0)) = some (.bl (decide (G.low.getD j 0 ≤ hs.getD p.2 0 - hs.getD p.1 0))) from rfl, wD_some, isB_bl]
      by_cases h1 : G.low.getD j 0 ≤ hs.getD p.2 0 - hs.getD p.1 0
      · rw [decide_eq_true h1, if_pos rfl, hi, wD_some, l2, wD_some,
          show dLe (.int (hs.getD p.2 0 - hs.getD p.1 0)) (.int (G.high.getD j 0)) = some (.bl (decide (hs.getD p.2 0 - hs.getD p.1 0 ≤ G.high.getD j 0))) from rfl, wD_some, isB_bl]
        by_cases h2 : hs.getD p.2 0 - hs.getD p.1 0 ≤ G.high.getD j 0
        · rw [decide_eq_true h2]
          simp only [Bool.not_true, Bool.false_eq_true, if_false]
          rw [w_sNx]
          refine ⟨rfl, fun r hr => ?_⟩
          by_cases e : r = j
          · subst e
            unfold roadOk
            rw [hpd]
            exact ⟨h1, h2⟩
          · exact hok r (by omega)
        · rw [decide_eq_false h2]
          simp only [Bool.not_false, if_true]
          rw [w_sRet]
          simp only [↓v2]
          exact .inl ⟨j, hj, fun h => h2 (by unfold roadOk at h; rw [hpd] at h; exact h.2), rfl⟩
      · rw [decide_eq_false h1, if_neg Bool.false_ne_true, isB_bl]
        simp only [Bool.not_false, if_true]
        rw [w_sRet]
        simp only [↓v2]
        exact .inl ⟨j, hj, fun h => h1 (by unfold roadOk at h; rw [hpd] at h; exact h.1), rfl⟩
    · rintro ρ s ⟨rfl, hok⟩
      rw [enumL_len, List.length_map] at hok
      show wS _ _ _ _
      rw [w_sRet, w_eC]
      exact .inr ⟨hok, rfl⟩
  obtain ⟨z, h1, h⟩ := wD_ex key
  rcases h with ⟨r, hr, h2, rfl⟩ | ⟨h2, rfl⟩
  · exact .inl ⟨r, hr, h2, h1⟩
  · exact .inr ⟨h2, h1⟩
theorem law_broken_eq : m_law_broken = m_broken_road := rfl
def dW (w : String) (i : Int) : D := .tup [.str w, .int i]
def HsR (G : Fr) (hs : List Int) : Prop := hs.length = G.n ∧ hs.getD 0 0 = 0 ∧ ∀ r, r < G.roads.length → roadOk G hs r
/-- both judges' word about heights -/
theorem ev_hf {G : Fr} (hG : G.Sh) {hs : List Int} (hl : hs.length = G.n) : ∃ r, m_heights_fault [G.d, .tup (hs.map D.int)] = some r ∧ m_law_heights_fault [G.d, .tup (hs.map D.int)] = some r ∧ Val r ∧ (r = .non ↔ HsR G hs) := by
  have n1 := hG.n1
  have hm := hG.m
  have e0 : dIx (.tup (hs.map D.int)) (.int 0) = some (.int (hs.getD 0 0)) := by
    have := o_ixI hs (a := 0) (by omega)
    exact this
  by_cases h0 : hs.getD 0 0 = 0
  · have start : ∀ (w d : D), m_broken_road [G.d, .tup (hs.map D.int)] = some w → (wS (sRet (eIf (tE (Fw.e1 dNotN (eV 2))) (eTup (aCons (eC (.str "road")) (aCons (eV 2) aNil))) (eC .non))) [some (.sh G.d), some (.sh (.tup (hs.map D.int))), some (.sh w)] () fun c _ _ => c = .rt d) →
        (wS (sRet (eIf (tE (Fw.e1 dNotN (eCallP m_law_broken (aCons (eV 0) (aCons (eV 1) aNil))))) (eTup (aCons (eC (.str "road")) (aCons (eCallP m_law_broken (aCons (eV 0) (aCons (eV 1) aNil))) aNil))) (eC .non))) [some (.sh G.d), some (.sh (.tup (hs.map D.int)))] () fun c _ _ => c = .rt d) →
        m_heights_fault [G.d, .tup (hs.map D.int)] = some d ∧ m_law_heights_fault [G.d, .tup (hs.map D.int)] = some d := fun w d hw h1 h2 => by
      constructor
      · refine wD_eq (run_P rfl ?_)
        unfold m_heights_faultB
        show wS _ [some (.sh G.d), some (.sh (.tup (hs.map D.int))), none] () _
        rw [w_sSeq, w_sIf, w_tE]
        simp only [↓w_e2, ↓w_eC, ↓v1]
        rw [e0, wD_some, o_neI, wD_some, isB_bl, decide_eq_true h0]
        simp only [Bool.not_true, Bool.false_eq_true, if_false]
        rw [w_sNx]
        show wS _ _ _ _
        rw [w_sSeq, w_sAsg]
        simp only [↓w_eCallP, ↓w_aCons, ↓w_aNil, ↓v0, ↓v1]
        rw [hw, wD_some]
        refine wS_mono h1 fun c ρ s hc => ?_
        rw [hc]
      · refine wD_eq (run_P rfl ?_)
        unfold m_law_heights_faultB
        show wS _ [some (.sh G.d), some (.sh (.tup (hs.map D.int)))] () _
        rw [w_sSeq, w_sIf, w_tE]
        simp only [↓w_e2, ↓w_eC, ↓v1]
        rw [e0, wD_some, o_neI, wD_some, isB_bl, decide_eq_true h0]
        simp only [Bool.not_true, Bool.false_eq_true, if_false]
        rw [w_sNx]
        refine wS_mono h2 fun c ρ s hc => ?_
        rw [hc]
    rcases ev_broken' hG hl with ⟨r, hr, hn, hb⟩ | ⟨hok, hb⟩
    · have hv : Val (dW "road" r) := (vb_tup (l := 2) (ds := [.str "road", .int (r : Int)]) (c := 50) (m := 0) (fun z hz => by
        simp only [List.mem_cons, List.not_mem_nil, or_false] at hz
        rcases hz with rfl | rfl
        · exact ⟨by decide +kernel, by decide +kernel, by decide +kernel⟩
        · exact vb_int (by omega)) (Nat.le_refl _)).val (by decide) (by decide)
      have both := start _ (dW "road" r) hb (by
        rw [w_sRet, w_eIf, w_tE]
        simp only [↓Fw.w_e1, ↓v2]
        rw [show dNotN (.int (r : Int)) = some (.bl true) from rfl, wD_some, isB_bl, if_pos rfl]
        simp only [↓w_eTup2, ↓w_eC, ↓v2]
        rfl) (by
        rw [w_sRet, w_eIf, w_tE, law_broken_eq]
        simp only [↓Fw.w_e1, ↓w_eCallP, ↓w_aCons, ↓w_aNil, ↓v0, ↓v1]
        rw [hb, wD_some, show dNotN (.int (r : Int)) = some (.bl true) from rfl, wD_some, isB_bl, if_pos rfl]
        simp only [↓w_eTup2, ↓w_eC, ↓w_eCallP, ↓w_aCons, ↓w_aNil, ↓v0, ↓v1]
        rw [hb, wD_some]
        rfl)
      exact ⟨_, both.1, both.2, hv, fun h => by (cases h), fun h => absurd (h.2.2 r hr) hn⟩
    · have both := start _ .non hb (by
        rw [w_sRet, w_eIf, w_tE]
        simp only [↓Fw.w_e1, ↓v2]
        rw [show dNotN .non = some (.bl false) from rfl, wD_some, isB_bl, if_neg Bool.false_ne_true, w_eC]) (by
        rw [w_sRet, w_eIf, w_tE, law_broken_eq]
        simp only [↓Fw.w_e1, ↓w_eCallP, ↓w_aCons, ↓w_aNil, ↓v0, ↓v1]
        rw [hb, wD_some, show dNotN .non = some (.bl false) from rfl, wD_some, isB_bl, if_neg Bool.false_ne_true, w_eC])
      exact ⟨_, both.1, both.2, val_non, fun _ => ⟨hl, h0, hok⟩, fun _ => rfl⟩
  · refine ⟨.tup [.str "base"], ?_, ?_, ⟨by decide +kernel, by decide +kernel, by decide +kernel⟩, fun h => by (cases h), fun h => absurd h.2.1 h0⟩
    · refine wD_eq (run_P rfl ?_)
      unfold m_heights_faultB
      show wS _ [some (.sh G.d), some (.sh (.tup (hs.map D.int))), none] () _
      rw [w_sSeq, w_sIf, w_tE]
      simp only [↓w_e2, ↓w_eC, ↓v1]
      rw [e0, wD_some, o_neI, wD_some, isB_bl, decide_eq_false h0]
      simp only [Bool.not_false, if_true]
      rw [w_sRet, w_eTup1, w_eC]
    · refine wD_eq (run_P rfl ?_)
      unfold m_law_heights_faultB
      show wS _ [some (.sh G.d), some (.sh (.tup (hs.map D.int)))] () _
      rw [w_sSeq, w_sIf, w_tE]
      simp only [↓w_e2, ↓w_eC, ↓v1]
      rw [e0, wD_some, o_neI, wD_some, isB_bl, decide_eq_false h0]
      simp only [Bool.not_false, if_true]
      rw [w_sRet, w_eTup1, w_eC]
/-! ### ways -/
def wbr (G : Fr) : Nat → Nat → List Nat → Option Nat
  | _, _, [] => none
  | x, i, e :: es => if G.fr e = x then wbr G (G.to e) (i + 1) es else some i
def wend (G : Fr) : Nat → List Nat → Nat
  | x, [] => x
  | _, e :: es => wend G (G.to e) es
theorem wend_snoc (G : Fr) : ∀ (es : List Nat) (x e : Nat), wend G x (es ++ [e]) = G.to e
  | [], _, _ => rfl
  | _ :: es, _, e => wend_snoc G es _ e
theorem WayS.app {G : Fr} : ∀ {es : List Nat} {x y : Nat} {pre : List Nat}, WayS G x pre y → (∀ e ∈ es, e < 2 * G.roads.length) → ∀ i, wbr G y i es = none → WayS G x (pre ++ es) (wend G y es)
  | [], x, y, pre, h, _, _, _ => by rw [List.append_nil]; exact h
  | e :: es, x, y, pre, h, hl, i, hb => by
    unfold wbr at hb
    split at hb
    · rename_i hf
      have h2 := WayS.app (es := es) (.snoc h (hl e (List.mem_cons_self ..)) hf) (fun e' h' => hl e' (List.mem_cons_of_mem _ h')) (i + 1) hb
      rw [List.append_assoc] at h2
      exact h2
    · cases hb
theorem wbr_snoc {G : Fr} : ∀ {es : List Nat} {x i e : Nat}, wbr G x i es = none → G.fr e = wend G x es → wbr G x i (es ++ [e]) = none
  | [], x, i, e, _, h => by
    show (if G.fr e = x then _ else _) = _
    rw [if_pos (show G.fr e = x from h)]
    rfl
  | a :: es, x, i, e, hb, h => by
    unfold wbr at hb
    split at hb
    · rename_i hf
      show (if G.fr a = x then wbr G (G.to a) (i + 1) (es ++ [e]) else some i) = none
      rw [if_pos hf]
      exact wbr_snoc hb h
    · cases hb
theorem WayS.wbr {G : Fr} {x y : Nat} {es : List Nat} (h : WayS G x es y) : Fw.wbr G x 0 es = none ∧ wend G x es = y := by
  induction h with
  | nil => exact ⟨rfl, rfl⟩
  | snoc hw he hf ih => exact ⟨wbr_snoc ih.1 (by rw [hf, ih.2]), wend_snoc _ _ _ _⟩
theorem wend_lt {G : Fr} (hG : G.Sh) : ∀ {es : List Nat} {x : Nat}, x < G.n → (∀ e ∈ es, e < 2 * G.roads.length) → wend G x es < G.n
  | [], _, hx, _ => hx
  | e :: es, _, _, hl => wend_lt hG (es := es) (fr_to_lt hG (hl e (List.mem_cons_self ..))).2 fun e' h' => hl e' (List.mem_cons_of_mem _ h')
/-- what is left of a way -/
theorem wbr_drop {G : Fr} {es : List Nat} {x j e : Nat} (he : es[j]? = some e) {i : Nat} : wbr G x i (es.drop j) = if G.fr e = x then wbr G (G.to e) (i + 1) (es.drop (j + 1)) else some i := by
  have hj := (List.getElem?_eq_some_iff.mp he).1
  have : es[j] = e := by rw [List.getElem?_eq_getElem hj] at he; exact Option.some.inj he
  rw [List.drop_eq_getElem_cons hj, this]
  rfl
theorem wend_drop {G : Fr} {es : List Nat} {x j e : Nat} (he : es[j]? = some e) : wend G x (es.drop j) = wend G (G.to e) (es.drop (j + 1)) := by
  have hj := (List.getElem?_eq_some_iff.mp he).1
  have : es[j] = e := by rw [List.getElem?_eq_getElem hj] at he; exact Option.some.inj he
  rw [List.drop_eq_getElem_cons hj, this]
  rfl
def oD : Option Nat → D
  | none => .non
  | some i => .int i
theorem ev_way_break {G : Fr} {x : Nat} {es : List Nat} (hl : ∀ e ∈ es, e < 2 * G.roads.length) : m_way_break [G.d, .int x, .tup (nats es)] = some (oD (wbr G x 0 es)) := by
  refine wD_eq (run_P rfl ?_)
  unfold m_way_breakB
  show wS _ [some (.sh G.d), some (.sh (.int x)), some (.sh (.tup (nats es))), none, none] () _
  rw [w_sSeq]
  refine w_sFor ?_
  rw [w_iEnum]
  simp only [↓v2]
  rw [show items? (.tup (nats es)) = some (nats es) from rfl, wD_some]
  refine ⟨fun j ρ _ => ∃ y : Nat, ρ = [some (.sh G.d), some (.sh (.int y)), none, none, none] ∧ wbr G x 0 es = wbr G y j (es.drop j), ⟨x, rfl, rfl⟩, ?_, ?_⟩
  · rintro j d ρ s hd ⟨y, rfl, hw⟩
    rw [enumL_at] at hd
    obtain ⟨z, hz, rfl⟩ := Option.map_eq_some_iff.mp hd
    obtain ⟨e, he, rfl⟩ : ∃ e, es[j]? = some e ∧ z = .int (e : Nat) := by
      unfold nats at hz
      rw [List.getElem?_map] at hz
      obtain ⟨e, h1, h2⟩ := Option.map_eq_some_iff.mp hz
      exact ⟨e, h1, h2.symm⟩
    have hlt := hl e (List.mem_of_getElem? he)
    refine ⟨_, rfl, ?_⟩
    have q0 : ((0 + j : Nat) : Int) = (j : Int) := by omega
    rw [q0]
    show wS _ [some (.sh G.d), some (.sh (.int y)), none, some (.sh (.int j)), some (.sh (.int e))] s _
    rw [wbr_drop he] at hw
    rw [w_sSeq, w_sIf, w_tE]
    simp only [↓w_e2, ↓w_eCallP, ↓w_aCons, ↓w_aNil, ↓v0, ↓v1, ↓v4]
    rw [ev_end_from hlt, wD_some, o_neI, wD_some, isB_bl]
    by_cases h : G.fr e = y
    · rw [if_pos h] at hw
      rw [decide_eq_true (by omega)]
      simp only [Bool.not_true, Bool.false_eq_true, if_false]
      rw [w_sNx]
      show wS _ _ _ _
      rw [w_sAsg]
      simp only [↓w_eCallP, ↓w_aCons, ↓w_aNil, ↓v0, ↓v4]
      rw [ev_end_to hlt, wD_some]
      exact ⟨G.to e, rfl, hw⟩
    · rw [if_neg h] at hw
      rw [decide_eq_false (by omega)]
      simp only [Bool.not_false, if_true]
      rw [w_sRet]
      simp only [↓v3]
      rw [hw]
      rfl
  · rintro ρ s ⟨y, rfl, hw⟩
    have hlen : (enumL 0 (nats es)).length = es.length := by rw [enumL_len]; unfold nats; rw [List.length_map]
    rw [hlen, List.drop_of_length_le (Nat.le_refl _)] at hw
    show wS _ _ _ _
    rw [w_sRet, w_eC, hw]
    rfl
theorem ev_way_end {G : Fr} {x : Nat} {es : List Nat} (hl : ∀ e ∈ es, e < 2 * G.roads.length) : m_way_end [G.d, .int x, .tup (nats es)] = some (.int (wend G x es : Nat)) := by
  refine wD_eq (run_P rfl ?_)
  unfold m_way_endB
  show wS _ [some (.sh G.d), some (.sh (.int x)), some (.sh (.tup (nats es)))] () _
  have eL : dLen (.tup (nats es)) = some (.int (es.length : Int)) := by
    show some (D.int ((nats es).length : Int)) = _
    unfold nats
    rw [List.length_map]
  rw [w_sRet, w_eIf, w_tE]
  simp only [↓w_e2, ↓Fw.w_e1, ↓w_eC, ↓v2]
  rw [eL, wD_some, show dGt (.int (es.length : Int)) (.int 0) = some (.bl (decide ((0 : Int) < (es.length : Int)))) from rfl, wD_some, isB_bl]
  obtain rfl | ⟨pre, e, rfl⟩ : es = [] ∨ ∃ pre e, es = pre ++ [e] := (List.eq_nil_or_concat es).imp id fun ⟨a, b, h⟩ => ⟨a, b, by rw [h, List.concat_eq_append]⟩
  · rw [show decide ((0 : Int) < (([] : List Nat).length : Int)) = false from rfl, if_neg Bool.false_ne_true]
    simp only [↓v1]
    rfl
  · rw [decide_eq_true (by rw [List.length_append]; simp only [List.length_cons, List.length_nil]; omega), if_pos rfl]
    simp only [↓w_eCallP, ↓w_aCons, ↓w_aNil, ↓w_e2, ↓Fw.w_e1, ↓w_eC, ↓v0, ↓v2]
    have e1 : dNeg (.int 1) = some (.int (-1)) := rfl
    have e2 : dIx (.tup (nats (pre ++ [e]))) (.int (-1)) = some (.int (e : Nat)) := o_last pre e
    rw [e1, wD_some, e2, wD_some, ev_end_to (hl e (by simp)), wD_some, wend_snoc]
theorem ev_law_way {G : Fr} {x : Nat} {es : List Nat} (hl : ∀ e ∈ es, e < 2 * G.roads.length) : m_law_way_fault [G.d, .int x, .tup (nats es)] = some (match wbr G x 0 es with | some i => dW "way" i | none => if wend G x es = x then .non else dW "back" (wend G x es : Nat)) := by
  refine wD_eq (run_P rfl ?_)
  unfold m_law_way_faultB
  show wS _ [some (.sh G.d), some (.sh (.int x)), some (.sh (.tup (nats es))), none, none, none] () _
  rw [w_sSeq, w_sAsg]
  simp only [↓v1]
  show wS _ [some (.sh G.d), some (.sh (.int x)), some (.sh (.tup (nats es))), some (.sh (.int x)), none, none] () _
  rw [w_sSeq]
  refine w_sFor ?_
  rw [w_iEnum]
  simp only [↓v2]
  rw [show items? (.tup (nats es)) = some (nats es) from rfl, wD_some]
  refine ⟨fun j ρ _ => ∃ y : Nat, ρ = [some (.sh G.d), some (.sh (.int x)), none, some (.sh (.int y)), none, none] ∧ wbr G x 0 es = wbr G y j (es.drop j) ∧ wend G x es = wend G y (es.drop j), ⟨x, rfl, rfl, rfl⟩, ?_, ?_⟩
  · rintro j d ρ s hd ⟨y, rfl, hw, hz2⟩
    rw [enumL_at] at hd
    obtain ⟨z, hz, rfl⟩ := Option.map_eq_some_iff.mp hd
    obtain ⟨e, he, rfl⟩ : ∃ e, es[j]? = some e ∧ z = .int (e : Nat) := by
      unfold nats at hz
      rw [List.getElem?_map] at hz
      obtain ⟨e, h1, h2⟩ := Option.map_eq_some_iff.mp hz
      exact ⟨e, h1, h2.symm⟩
    have hlt := hl e (List.mem_of_getElem? he)
    refine ⟨_, rfl, ?_⟩
    have q0 : ((0 + j : Nat) : Int) = (j : Int) := by omega
    rw [q0]
    show wS _ [some (.sh G.d), some (.sh (.int x)), none, some (.sh (.int y)), some (.sh (.int j)), some (.sh (.int e))] s _
    rw [wbr_drop he] at hw
    rw [wend_drop he] at hz2
    rw [w_sSeq, w_sIf, w_tE]
    simp only [↓w_e2, ↓w_eCallP, ↓w_aCons, ↓w_aNil, ↓v0, ↓v3, ↓v5]
    rw [ev_law_end_from hlt, wD_some, o_neI, wD_some, isB_bl]
    by_cases h : G.fr e = y
    · rw [if_pos h] at hw
      rw [decide_eq_true (by omega)]
      simp only [Bool.not_true, Bool.false_eq_true, if_false]
      rw [w_sNx]
      show wS _ _ _ _
      rw [w_sAsg]
      simp only [↓w_eCallP, ↓w_aCons, ↓w_aNil, ↓v0, ↓v5]
      rw [ev_law_end_to hlt, wD_some]
      exact ⟨G.to e, rfl, hw, hz2⟩
    · rw [if_neg h] at hw
      rw [decide_eq_false (by omega)]
      simp only [Bool.not_false, if_true]
      rw [w_sRet]
      simp only [↓w_eTup2, ↓w_eC, ↓v4]
      rw [hw]
      rfl
  · rintro ρ s ⟨y, rfl, hw, hz2⟩
    have hlen : (enumL 0 (nats es)).length = es.length := by rw [enumL_len]; unfold nats; rw [List.length_map]
    rw [hlen, List.drop_of_length_le (Nat.le_refl _)] at hw hz2
    have hz2 : wend G x es = y := hz2
    show wS _ _ _ _
    rw [w_sRet, w_eIf, w_tE]
    simp only [↓w_e2, ↓v1, ↓v3]
    rw [o_neI, wD_some, isB_bl, hw, hz2]
    by_cases h : y = x
    · rw [decide_eq_true (by omega)]
      simp only [Bool.not_true, Bool.false_eq_true, if_false]
      rw [w_eC]
      show _ = _
      rw [if_pos h]
      rfl
    · rw [decide_eq_false (by omega)]
      simp only [Bool.not_false, if_true]
      simp only [↓w_eTup2, ↓w_eC, ↓v3]
      show _ = _
      rw [if_neg h]
      rfl
theorem ev_ring_fault {G : Fr} {x : Nat} {es : List Nat} (hl : ∀ e ∈ es, e < 2 * G.roads.length) : m_ring_fault [G.d, .int x, .tup (nats es)] = some (match wbr G x 0 es with | some i => dW "way" i | none => if wend G x es = x then .non else dW "back" (wend G x es : Nat)) := by
  refine wD_eq (run_P rfl ?_)
  unfold m_ring_faultB
  show wS _ [some (.sh G.d), some (.sh (.int x)), some (.sh (.tup (nats es))), none] () _
  rw [w_sSeq, w_sAsg]
  simp only [↓w_eCallP, ↓w_aCons, ↓w_aNil, ↓v0, ↓v1, ↓v2]
  rw [ev_way_break hl, wD_some]
  show wS _ [some (.sh G.d), some (.sh (.int x)), some (.sh (.tup (nats es))), some (.sh (oD (wbr G x 0 es)))] () _
  rw [w_sSeq, w_sIf, w_tE]
  simp only [↓Fw.w_e1, ↓v3]
  cases wbr G x 0 es with
  | some i =>
    rw [show dNotN (oD (some i)) = some (.bl true) from rfl, wD_some, isB_bl, if_pos rfl, w_sRet]
    simp only [↓w_eTup2, ↓w_eC, ↓v3]
    rfl
  | none =>
    rw [show dNotN (oD none) = some (.bl false) from rfl, wD_some, isB_bl, if_neg Bool.false_ne_true, w_sNx]
    show wS _ _ _ _
    rw [w_sRet, w_eIf, w_tE]
    simp only [↓w_e2, ↓w_eCallP, ↓w_aCons, ↓w_aNil, ↓v0, ↓v1, ↓v2]
    rw [ev_way_end hl, wD_some, o_neI, wD_some, isB_bl]
    by_cases h : wend G x es = x
    · rw [decide_eq_true (by omega)]
      simp only [Bool.not_true, Bool.false_eq_true, if_false]
      rw [w_eC]
      show _ = _
      rw [if_pos h]
    · rw [decide_eq_false (by omega)]
      simp only [Bool.not_false, if_true]
      simp only [↓w_eTup2, ↓w_eC, ↓w_eCallP, ↓w_aCons, ↓w_aNil, ↓v0, ↓v1, ↓v2]
      rw [ev_way_end hl, wD_some]
      show _ = _
      rw [if_neg h]
      rfl
end Fw
/-! ## K2h -/
set_option linter.all false
set_option maxRecDepth 100000
set_option maxHeartbeats 1000000
/-! The first fault of anything as a paper: the def's, the law's. -/
namespace Fw
open PySem PySem.Spec PyProof.Rows L2
theorem eqOk_str {x : Str} (h : PyData.strOk x = true) : D.eqOk (.str x) = true := by
  unfold D.eqOk
  rw [show D.pure (.str x) = true from rfl, Bool.true_and]
  simp [D.py, SeqAt.shaped]
  exact ⟨by simp [PyData.canLay0, h], by simp [PyData.depth]⟩
theorem eqv_str (x y : Str) : D.eqv (.str x) (.str y) = (x == y) := by
  simp [D.eqv, D.py, PyData.eqv]
theorem o_eqS {x y : Str} {b : Bool} (hx : PyData.strOk x = true) (hy : PyData.strOk y = true) (h : (x == y) = b) : dEq (.str x) (.str y) = some (.bl b) := by
  unfold dEq
  rw [if_pos ⟨eqOk_str hx, eqOk_str hy⟩, eqv_str, h]
theorem o_neS {x y : Str} {b : Bool} (hx : PyData.strOk x = true) (hy : PyData.strOk y = true) (h : (x == y) = b) : dNe (.str x) (.str y) = some (.bl !b) := by
  unfold dNe
  rw [if_pos ⟨eqOk_str hx, eqOk_str hy⟩, eqv_str, h]
/-! ### ends -/
def rngB (b : Int) : D → Bool
  | .int i => decide (0 ≤ i) && decide (i < b)
  | _ => false
theorem nats_rng {b : Nat} : ∀ {ds : List D}, ds.all (rngB b) = true → ∃ ls : List Nat, ds = nats ls ∧ ∀ x ∈ ls, x < b
  | [], _ => ⟨[], rfl, fun x h => by simp at h⟩
  | d :: r, h => by
    rw [List.all_cons, Bool.and_eq_true] at h
    obtain ⟨ls, rfl, hl⟩ := nats_rng h.2
    cases d with
    | int i =>
      have h1 := h.1
      simp only [rngB, Bool.and_eq_true, decide_eq_true_eq] at h1
      refine ⟨i.toNat :: ls, ?_, fun x hx => ?_⟩
      · show _ = D.int ((i.toNat : Nat) : Int) :: nats ls
        rw [Int.toNat_of_nonneg h1.1]
      · rcases List.mem_cons.mp hx with rfl | hx
        · omega
        · exact hl x hx
    | _ => exact absurd h.1 (by simp [rngB])
theorem rng_nats {b : Nat} {ls : List Nat} (h : ∀ x ∈ ls, x < b) : (nats ls).all (rngB b) = true := by
  refine List.all_eq_true.mpr fun d hd => ?_
  obtain ⟨k, hk, rfl⟩ := List.mem_map.mp hd
  have := h k hk
  simp only [rngB, Bool.and_eq_true, decide_eq_true_eq]
  omega
def endsP (m : Nat) (d : D) : Bool := match d with
  | .tup ds => ds.all (rngB (2 * m : Nat))
  | _ => false
theorem o_inR (i : Int) (n : Nat) : dIn (.int i) (.lst (nats (List.range n))) = some (.bl (rngB n (.int i))) := by
  by_cases h : 0 ≤ i
  · obtain ⟨k, rfl⟩ := Int.eq_ofNat_of_zero_le h
    rw [o_inN]
    congr 2
    show decide (k ∈ List.range n) = (decide (0 ≤ (k : Int)) && decide ((k : Int) < n))
    rw [decide_eq_true h, Bool.true_and]
    exact decide_eq_decide.mpr (by rw [List.mem_range]; omega)
  · show (if (D.int i).eqOk = true ∧ D.eqOk (.lst (nats (List.range n))) = true then some (D.bl ((nats (List.range n)).any fun z => D.eqv z (.int i))) else none) = _
    rw [if_pos ⟨rfl, eqOk_nats _⟩]
    congr 2
    show _ = (decide (0 ≤ i) && decide (i < n))
    rw [decide_eq_false h, Bool.false_and, List.any_map, List.any_eq_false]
    intro x _ e
    have : ((x : Int) == i) = true := e
    have h2 : (x : Int) = i := by simpa using this
    omega
theorem ev_are_ends {G : Fr} (hG : G.Sh) {d : D} (h : nob d = true) : m_are_ends [G.d, d] = some (.bl (endsP G.roads.length d)) := by
  refine wD_eq (run_P rfl ?_)
  unfold m_are_endsB
  show wS _ [some (.sh G.d), some (.sh d), none] () _
  rw [w_sRet, w_eAnd]
  simp only [↓Fw.w_e1, ↓v1]
  cases d with
  | tup ds =>
    rw [show dIsi "tuple" (.tup ds) = some (.bl true) from rfl, wD_some, isB_bl, if_pos rfl]
    refine w_lc (I := fun _ => True) (P := fun pre acc => acc = (pre.map (rngB (2 * G.roads.length : Nat))).map D.bl) ?_
    rw [w_iE]
    simp only [↓v1]
    rw [show items? (.tup ds) = some ds from rfl, wD_some]
    refine ⟨by trivial, trivial, by trivial, rfl, fun pre d post acc s e hp _ => ⟨_, rfl, ?_⟩, fun acc s' hp _ => ?_⟩
    · have hd : nob d = true := nobs_mem (by simpa [nob] using h) d (by rw [e]; simp)
      subst hp
      rw [w_tYes, if_pos rfl]
      simp only [wipeE, List.set]
      rw [w_eAnd]
      simp only [↓w_eCallP, ↓w_aCons, ↓w_aNil, ↓v2]
      rw [ev_is_whole hd, wD_some, isB_bl]
      have fin : ∀ b, rngB (2 * G.roads.length : Nat) d = b → ((pre.map (rngB (2 * G.roads.length : Nat))).map D.bl ++ [D.bl b]) = ((pre ++ [d]).map (rngB (2 * G.roads.length : Nat))).map D.bl := fun b hb => by
        rw [List.map_append, List.map_append, ← hb]
        rfl
      cases d with
      | int i =>
        rw [show isN (.int i) = true from rfl, if_pos rfl]
        simp only [↓w_e2, ↓w_eCallP, ↓w_aCons, ↓w_aNil, ↓v0, ↓v2]
        rw [ev_all_ends hG, wD_some, o_inR, wD_some]
        exact ⟨fin _ rfl, trivial, rfl⟩
      | obj a => simp [nob] at hd
      | _ => exact ⟨fin _ rfl, trivial, rfl⟩
    · rw [hp, o_allB, wD_some]
      congr 1
      show (List.map (rngB (2 * G.roads.length : Nat)) ds).all id = ds.all _
      rw [List.all_map]
      rfl
  | obj a => simp [nob] at h
  | _ => rfl
theorem ev_law_ends {G : Fr} (hG : G.Sh) {d : D} (h : nob d = true) : m_law_are_ends [G.d, d] = some (.bl (endsP G.roads.length d)) := by
  have hm := hG.m
  refine wD_eq (run_P rfl ?_)
  unfold m_law_are_endsB
  show wS _ [some (.sh G.d), some (.sh d), none] () _
  rw [w_sRet, w_eAnd]
  simp only [↓Fw.w_e1, ↓v1]
  cases d with
  | tup ds =>
    rw [show dIsi "tuple" (.tup ds) = some (.bl true) from rfl, wD_some, isB_bl, if_pos rfl, w_e2]
    refine w_lc (I := fun _ => True) (P := fun pre acc => acc = ((pre.filter fun d => !rngB (2 * G.roads.length : Nat) d).map fun _ => (1 : Int)).map D.int) ?_
    rw [w_iE]
    simp only [↓v1]
    rw [show items? (.tup ds) = some ds from rfl, wD_some]
    have e1 : dIx G.d (.int 1) = some (.tup (G.roads.map dRoad)) := o_ix1 _
    have e3 : dLen (.tup (G.roads.map dRoad)) = some (.int (G.roads.length : Int)) := by
      show some (D.int ((G.roads.map dRoad).length : Int)) = _
      rw [List.length_map]
    have e2 : dMul (.int 2) (.int (G.roads.length : Int)) = some (.int ((2 * G.roads.length : Nat) : Int)) := by
      rw [o_mulS (by omega)]
      congr 2
    refine ⟨by trivial, trivial, by trivial, rfl, fun pre d post acc s e hp _ => ⟨_, rfl, ?_⟩, fun acc s' hp _ => ?_⟩
    · have hd : nob d = true := nobs_mem (by simpa [nob] using h) d (by rw [e]; simp)
      subst hp
      simp only [wipeE, List.set]
      rw [w_tOr, w_tNot, w_tE]
      simp only [↓w_eCallP, ↓w_aCons, ↓w_aNil, ↓v2]
      rw [ev_law_number hd, wD_some, isB_bl]
      have ft : rngB (2 * G.roads.length : Nat) d = true → ((pre.filter fun d => !rngB (2 * G.roads.length : Nat) d).map fun _ => (1 : Int)).map D.int = (((pre ++ [d]).filter fun d => !rngB (2 * G.roads.length : Nat) d).map fun _ => (1 : Int)).map D.int := fun hb => by
        rw [List.filter_append, List.filter_cons, hb]
        simp
      have ff : rngB (2 * G.roads.length : Nat) d = false → ((pre.filter fun d => !rngB (2 * G.roads.length : Nat) d).map fun _ => (1 : Int)).map D.int ++ [D.int 1] = (((pre ++ [d]).filter fun d => !rngB (2 * G.roads.length : Nat) d).map fun _ => (1 : Int)).map D.int := fun hb => by
        rw [List.filter_append, List.filter_cons, hb]
        simp
      cases d with
      | int i =>
        rw [show isN (.int i) = true from rfl]
        simp only [Bool.not_true, Bool.false_eq_true, if_false]
        rw [w_tNot, w_tE, w_eChain]
        simp only [↓w_e2, ↓Fw.w_e1, ↓w_eC, ↓v0, ↓v2]
        rw [show dLe (.int 0) (.int i) = some (.bl (decide (0 ≤ i))) from rfl, wD_some, isB_bl]
        by_cases h0 : 0 ≤ i
        · rw [decide_eq_true h0, if_pos rfl, e1, wD_some, e3, wD_some, e2, wD_some, show dLt (.int i) (.int ((2 * G.roads.length : Nat) : Int)) = some (.bl (decide (i < ((2 * G.roads.length : Nat) : Int)))) from rfl, wD_some, isB_bl]
          by_cases h1 : i < ((2 * G.roads.length : Nat) : Int)
          · rw [decide_eq_true h1]
            simp only [Bool.not_true, Bool.false_eq_true, if_false]
            exact ⟨ft (by simp only [rngB, decide_eq_true h0, decide_eq_true h1]; rfl), trivial, rfl⟩
          · rw [decide_eq_false h1]
            simp only [Bool.not_false, if_true]
            exact ⟨ff (by simp only [rngB, decide_eq_false h1, Bool.and_false]), trivial, rfl⟩
        · rw [decide_eq_false h0, if_neg Bool.false_ne_true, isB_bl]
          simp only [Bool.not_false, if_true]
          exact ⟨ff (by simp only [rngB, decide_eq_false h0, Bool.false_and]), trivial, rfl⟩
      | obj a => simp [nob] at hd
      | _ =>
        simp only [isN, Bool.not_false, if_true]
        rw [w_eC]
        exact ⟨ff rfl, trivial, rfl⟩
    · rw [hp, w_eLst0, o_eqNil (eqOk_ints _), wD_some]
      congr 2
      show _ = ds.all _
      rw [List.isEmpty_map, List.isEmpty_map]
      generalize rngB (2 * G.roads.length : Nat) = p
      clear hp e1 e2 e3 h
      induction ds with
      | nil => rfl
      | cons x r ih =>
        rw [List.filter_cons, List.all_cons]
        cases hx : p x with
        | true => simp only [Bool.not_true, Bool.false_eq_true, if_false, Bool.true_and]; exact ih
        | false => simp
  | obj a => simp [nob] at h
  | _ => rfl
end Fw
/-! ## Bent -/
set_option linter.all false
set_option maxRecDepth 100000
set_option maxHeartbeats 1000000
/-! Values bent: tuples within tuples. -/
namespace Fw
open PySem PySem.Spec PyProof.Rows L2
theorem voks_app : ∀ (a b : List D), voks (a ++ b) = (voks a && voks b)
  | [], _ => rfl
  | x :: r, b => by
    show (vok x && voks (r ++ b)) = ((vok x && voks r) && voks b)
    rw [voks_app r b, Bool.and_assoc]
theorem szs_app : ∀ (a b : List D), szs (a ++ b) = szs a + szs b
  | [], _ => by show _ = 0 + _; rw [Nat.zero_add]; rfl
  | x :: r, b => by
    show sz x + 2 + szs (r ++ b) = sz x + 2 + szs r + szs b
    rw [szs_app r b]
    omega
theorem dpts_app : ∀ (a b : List D), dpts (a ++ b) = max (dpts a) (dpts b)
  | [], b => by
    show dpts b = max 0 _
    omega
  | x :: r, b => by
    show max (dpt x) (dpts (r ++ b)) = max (max (dpt x) (dpts r)) (dpts b)
    rw [dpts_app r b]
    omega
/-- a list that may stand in a value that is shown: its sizes -/
structure VL (ds : List D) (c m : Nat) : Prop where
  ok : voks ds = true
  s : szs ds ≤ c
  d : dpts ds ≤ m
theorem VL.self {ds : List D} (h : voks ds = true) : VL ds (szs ds) (dpts ds) := ⟨h, Nat.le_refl _, Nat.le_refl _⟩
theorem VL.app {a b : List D} {c m c' m' : Nat} (h : VL a c m) (h' : VL b c' m') : VL (a ++ b) (c + c') (max m m') :=
  ⟨by rw [voks_app, h.ok, h'.ok]; rfl, by rw [szs_app]; have := h.s; have := h'.s; omega, by rw [dpts_app]; have := h.d; have := h'.d; omega⟩
theorem VL.mono {a : List D} {c m c' m' : Nat} (h : VL a c m) (hc : c ≤ c') (hm : m ≤ m') : VL a c' m' := ⟨h.ok, Nat.le_trans h.s hc, Nat.le_trans h.d hm⟩
theorem VL.one {x : D} (h : vok x = true) : VL [x] (sz x + 2) (dpt x) := ⟨by show (vok x && true) = true; rw [h]; rfl, Nat.le_refl _, by show max _ 0 ≤ _; omega⟩
theorem VL.take {ds : List D} {c m : Nat} (h : VL ds c m) (k : Nat) : VL (ds.take k) c m := by
  have e : ds = ds.take k ++ ds.drop k := (List.take_append_drop k ds).symm
  obtain ⟨h1, h2, h3⟩ := h
  rw [e, voks_app, Bool.and_eq_true] at h1
  rw [e, szs_app] at h2
  rw [e, dpts_app] at h3
  exact ⟨h1.1, by omega, by omega⟩
theorem VL.drop {ds : List D} {c m : Nat} (h : VL ds c m) (k : Nat) : VL (ds.drop k) c m := by
  have e : ds = ds.take k ++ ds.drop k := (List.take_append_drop k ds).symm
  obtain ⟨h1, h2, h3⟩ := h
  rw [e, voks_app, Bool.and_eq_true] at h1
  rw [e, szs_app] at h2
  rw [e, dpts_app] at h3
  exact ⟨h1.2, by omega, by omega⟩
theorem VL.cut {ds : List D} {c m : Nat} (h : VL ds c m) (lo hi : Option Int) : VL (cutD ds lo hi) c m := (h.drop _).take _
theorem VL.rev : ∀ {ds : List D} {c m : Nat}, VL ds c m → VL ds.reverse c m
  | [], _, _, h => h
  | x :: r, c, m, h => by
    obtain ⟨h1, h2, h3⟩ := h
    have h1 : (vok x && voks r) = true := h1
    rw [Bool.and_eq_true] at h1
    have h2 : sz x + 2 + szs r ≤ c := h2
    have h3 : max (dpt x) (dpts r) ≤ m := h3
    rw [List.reverse_cons]
    exact ((VL.self h1.2).rev.app (VL.one h1.1)).mono (by omega) (by omega)
theorem cut_take (ds : List D) {j : Nat} (hj : j ≤ ds.length) : cutD ds none (some (j : Int)) = ds.take j := by
  unfold cutD
  have e1 : sIxD ds.length ds.length (some (j : Int)) = j := by
    unfold sIxD
    dsimp only
    split <;> omega
  rw [e1, show sIxD ds.length 0 none = 0 from rfl, List.drop_zero, Nat.sub_zero]
theorem cut_drop (ds : List D) {j : Nat} (hj : j + 1 ≤ ds.length) : cutD ds (some ((j : Int) + 1)) none = ds.drop (j + 1) := by
  unfold cutD
  have e1 : sIxD ds.length 0 (some ((j : Int) + 1)) = j + 1 := by
    unfold sIxD
    dsimp only
    split <;> omega
  rw [e1, show sIxD ds.length ds.length none = ds.length from rfl, List.take_of_length_le (by rw [List.length_drop]; exact Nat.le_refl _)]
theorem VL.mem {ds : List D} {c m : Nat} (h : VL ds c m) {j : Nat} (hj : j < ds.length) : vok ds[j] = true ∧ VL (ds.take j) (szs (ds.take j)) m ∧ VL (ds.drop (j + 1)) (szs (ds.drop (j + 1))) m ∧ szs (ds.take j) + sz ds[j] + 2 + szs (ds.drop (j + 1)) ≤ c ∧ dpt ds[j] ≤ m := by
  have e : ds = ds.take j ++ ds[j] :: ds.drop (j + 1) := by
    rw [← List.drop_eq_getElem_cons hj, List.take_append_drop]
  obtain ⟨h1, h2, h3⟩ := h
  rw [e, voks_app, Bool.and_eq_true] at h1
  rw [e, szs_app] at h2
  rw [e, dpts_app] at h3
  have h12 : (vok ds[j] && voks (ds.drop (j + 1))) = true := h1.2
  rw [Bool.and_eq_true] at h12
  have h2' : szs (ds.take j) + (sz ds[j] + 2 + szs (ds.drop (j + 1))) ≤ c := h2
  have h3' : max (dpts (ds.take j)) (max (dpt ds[j]) (dpts (ds.drop (j + 1)))) ≤ m := h3
  exact ⟨h12.1, ⟨h1.1, Nat.le_refl _, by omega⟩, ⟨h12.2, Nat.le_refl _, by omega⟩, by omega, by omega⟩
theorem VL.vb {ds : List D} {c m : Nat} (h : VL ds c m) : vok (.tup ds) = true ∧ sz (.tup ds) ≤ c + 3 ∧ dpt (.tup ds) ≤ m + 1 :=
  ⟨h.ok, by have := h.s; show szs ds + 3 ≤ _; omega, by have := h.d; show dpts ds + 1 ≤ _; omega⟩
theorem VL.vbl {ds : List D} {c m : Nat} (h : VL ds c m) : vok (.lst ds) = true ∧ sz (.lst ds) ≤ c + 3 ∧ dpt (.lst ds) ≤ m + 1 :=
  ⟨h.ok, by have := h.s; show szs ds + 2 ≤ _; omega, by have := h.d; show dpts ds + 1 ≤ _; omega⟩
/-- what is no tuple, may be bent -/
def leaf (d : D) : Prop := vok d = true ∧ (∀ ds, d ≠ .tup ds) ∧ ∀ i, d = .int i → -99999999999 ≤ i ∧ i ≤ 99999999999
def bkt : Nat → D → Prop
  | 0, d => leaf d
  | k + 1, d => leaf d ∨ ∃ ds, d = .tup ds ∧ ds.length ≤ 100 ∧ ∀ x ∈ ds, bkt k x
theorem bkt_int : ∀ {k : Nat} {i : Int}, bkt k (.int i) → -99999999999 ≤ i ∧ i ≤ 99999999999
  | 0, i, h => h.2.2 i rfl
  | k + 1, i, h => by
    rcases h with h | ⟨ds, h, _⟩
    · exact h.2.2 i rfl
    · cases h
theorem voks_of : ∀ {ds : List D}, (∀ x ∈ ds, vok x = true) → voks ds = true
  | [], _ => rfl
  | x :: r, h => by
    show (vok x && voks r) = true
    rw [h x List.mem_cons_self, voks_of fun y hy => h y (List.mem_cons_of_mem _ hy)]
    rfl
theorem bkt_vok : ∀ {k : Nat} {d : D}, bkt k d → vok d = true
  | 0, d, h => h.1
  | k + 1, d, h => by
    rcases h with h | ⟨ds, rfl, _, h⟩
    · exact h.1
    · exact voks_of fun x hx => bkt_vok (h x hx)
theorem leaf_isi {d : D} (h : leaf d) : dIsi "tuple" d = some (.bl false) := by
  obtain ⟨h1, h2, _⟩ := h
  cases d with
  | tup ds => exact absurd rfl (h2 ds)
  | obj a => exact absurd h1 (by simp [vok])
  | _ => rfl
/-- what a bent value is -/
def BR (v d : D) : Prop := vok d = true ∧ sz d ≤ 2 * sz v + 300 ∧ dpt d ≤ dpt v + 5
theorem it_br {v d : D} (h : It d) : BR v d := ⟨h.1, by have := h.2.1; omega, by have := h.2.2; omega⟩
theorem BR.val {v d : D} (h : BR v d) (h1 : sz v ≤ 400000) (h2 : dpt v ≤ 40) : Val d := ⟨h.1, by have := h.2.1; omega, by have := h.2.2; omega⟩
theorem bent_leaf {a : Addr} {v : D} {k : Nat} {s : Src} {Q : D × Src → Prop} (hs : s.addr = a) (hv : leaf v) (q : ∀ d s', s'.addr = a → BR v d → Q (d, s')) : wD (m_law_bent (k + 1) [.obj a, v] s) Q := by
  have key : wD (runC 2 6 (m_law_bentB (m_law_bent k)) [.obj a, v] s) fun p => Q (p.1, p.2) := by
    refine run_C (Q := fun d s' => Q (d, s')) rfl ?_
    unfold m_law_bentB
    refine w_seq (fun ρ s => s.addr = a ∧ ρ = [some (.sh (.obj a)), some (.sh v), some (.sh (.lst odds)), none, none, none]) (fun Q' hn _ _ _ => ?_) ?_
    · rw [w_sAsg]
      exact odds_ev (hn _ _ ⟨hs, rfl⟩)
    rintro ρ s ⟨hs, rfl⟩
    refine w_seq (fun _ _ => False) (fun Q' hn hr _ _ => ?_) (fun _ _ h => h.elim)
    have e1 : dIsi "tuple" v = some (.bl false) := leaf_isi hv
    simp only [w_sIf, w_tOr, w_tNot, w_tE, w_e1, v_eV, List.getElem?_cons_zero, List.getElem?_cons_succ, slotE_sh, e1, wD_some, isB_bl, Bool.not_false, if_true]
    simp only [w_sSeq, w_sAsg, w_eLst, w_eCall, w_aCons, w_aNil, v_eV, List.getElem?_cons_zero, List.getElem?_cons_succ, slotE_sh]
    refine of_ev hs (by decide) (by decide) fun d s1 hs1 hd => ?_
    simp only [List.length_cons, List.length_nil]
    rw [if_pos (by decide)]
    simp only [wD_some, gN, List.set, w_sIf, w_tE, w_e1, v_eV, List.getElem?_cons_zero, List.getElem?_cons_succ, slotE_sh, e1, isB_bl, Bool.false_eq_true, if_false, w_sNx, w_sRet, w_eCall, w_aCons, w_aNil]
    refine of_ev hs1 (by simp) (by simp) fun d' s2 hs2 hd' => ?_
    rw [List.mem_singleton.mp hd']
    exact hr _ _ _ (q d s2 hs2 (it_br (odds_it d hd)))
  exact key
theorem bent_tup {a : Addr} {ds : List D} {k j0 : Nat} (ih : ∀ {v : D} {s : Src} {Q : D × Src → Prop}, s.addr = a → bkt k v → (∀ d s', s'.addr = a → BR v d → Q (d, s')) → wD (m_law_bent (j0 + 1) [.obj a, v] s) Q)
    {s : Src} {Q : D × Src → Prop} (h0 : s.addr = a) (hb : ∀ x ∈ ds, bkt k x) (hl : ds.length ≤ 100) (q : ∀ d s', s'.addr = a → BR (.tup ds) d → Q (d, s')) : wD (m_law_bent (j0 + 2) [.obj a, .tup ds] s) Q := by
  have key : wD (runC 2 6 (m_law_bentB (m_law_bent (j0 + 1))) [.obj a, .tup ds] s) fun p => Q (p.1, p.2) := by
    refine run_C (Q := fun d s' => Q (d, s')) rfl ?_
    unfold m_law_bentB
    have hV : VL ds (szs ds) (dpts ds) := VL.self (voks_of fun x hx => bkt_vok (hb x hx))
    have szv : sz (.tup ds) = szs ds + 3 := rfl
    have dpv : dpt (.tup ds) = dpts ds + 1 := rfl
    have addT : ∀ es fs : List D, es.length + fs.length ≤ 1000 → dAdd (.tup es) (.tup fs) = some (.tup (es ++ fs)) := fun es fs h => by
      show (if es.length + fs.length ≤ LIM then some (D.tup (es ++ fs)) else none) = _
      rw [if_pos (by show _ ≤ 16777216; omega)]
    have cl : ∀ lo hi, (cutD ds lo hi).length ≤ 100 := fun lo hi => Nat.le_trans cutD_len hl
    let en (o3 o4 o5 : Option Sl) : Env := [some (.sh (.obj a)), some (.sh (.tup ds)), some (.sh (.lst odds)), o3, o4, o5]
    refine w_seq (fun ρ s => s.addr = a ∧ ρ = en none none none) (fun Q' hn _ _ _ => ?_) ?_
    · rw [w_sAsg]
      exact odds_ev (hn _ _ ⟨h0, rfl⟩)
    rintro ρ s ⟨h0, rfl⟩
    have g1 : dIsi "tuple" (.tup ds) = some (.bl true) := rfl
    -- the first end
    have stop : ∀ (s : Src) (Q' : Ctl → Env → Src → Prop), s.addr = a → (∀ d ρ s, s.addr = a → BR (.tup ds) d → Q' (.rt d) ρ s) →
        wS (sSeq (sAsg (eLst (aCons (eCall m_law_of (aCons (eV 0) (aCons (eV 2) aNil))) aNil)) (gN 3))
          (sSeq (sIf (tE (e1 (dIsi "tuple") (eV 1)))
          (sAsg (e2 dAdd (eV 3) (eLst (aCons (eCut (eV 1) (pSome (eC (.int 1))) pNone) (aCons (eCut (eV 1) pNone (pSome (Fw.e1 dNeg (eC (.int 1))))) (aCons (e2 dAdd (eV 1) (eCut (eV 1) pNone (pSome (eC (.int 1))))) (aCons (Fw.e1 dList (eV 1)) (aCons (Fw.e1 dRev (eV 1)) (aCons (e2 dAdd (eV 1) (eTup (aCons (eC (.int 0)) aNil))) aNil)))))))) (gN 3))
          sNx)
          (sRet (eCall m_law_of (aCons (eV 0) (aCons (eV 3) aNil)))))) (en none none none) s Q' := fun s Q' h0 hQ => by
      have hz1 : dCut (some 1) none (.tup ds) = some (.tup (cutD ds (some 1) none)) := rfl
      have hz2 : dCut none (some (-1)) (.tup ds) = some (.tup (cutD ds none (some (-1)))) := rfl
      have hz3 : dCut none (some 1) (.tup ds) = some (.tup (cutD ds none (some 1))) := rfl
      have c3 := cl none (some 1)
      have hz4 := addT ds (cutD ds none (some 1)) (by omega)
      have hz5 := addT ds [.int 0] (by show _ + 1 ≤ 1000; omega)
      have g2 : dList (.tup ds) = some (.lst ds) := rfl
      have g3 : dRev (.tup ds) = some (.tup ds.reverse) := rfl
      have g4 : dNeg (.int 1) = some (.int (-1)) := rfl
      refine w_seq (fun ρ s => s.addr = a ∧ ∃ d, It d ∧ ρ = en (some (.sh (.lst [d]))) none none) (fun Q2 hn _ _ _ => ?_) ?_
      · simp only [en, w_sAsg, w_eLst, w_eCall, w_aCons, w_aNil, v_eV, List.getElem?_cons_zero, List.getElem?_cons_succ, slotE_sh]
        refine of_ev h0 (by decide) (by decide) fun d s1 hs1 hd => ?_
        simp only [List.length_cons, List.length_nil]
        rw [if_pos (by decide)]
        exact hn _ _ ⟨hs1, d, odds_it d hd, rfl⟩
      rintro ρ s ⟨h0, d, hd, rfl⟩
      refine w_seq (fun ρ s => s.addr = a ∧ ρ = en (some (.sh (.lst ([d] ++ [.tup (cutD ds (some 1) none), .tup (cutD ds none (some (-1))), .tup (ds ++ cutD ds none (some 1)), .lst ds, .tup ds.reverse, .tup (ds ++ [.int 0])])))) none none) (fun Q2 hn _ _ _ => ?_) ?_
      · simp only [en, w_sIf, w_tE, w_e1, v_eV, List.getElem?_cons_zero, List.getElem?_cons_succ, slotE_sh, g1, wD_some, isB_bl, if_true]
        simp only [w_sAsg, w_e2, w_e1, w_eC, w_eLst, w_eTup, w_eCut, w_pNone, w_pSome, w_aCons, w_aNil, v_eV, List.getElem?_cons_zero, List.getElem?_cons_succ, slotE_sh, isI_int, g4, wD_some, hz1, hz2, hz3, hz4, g2, g3, List.length_cons, List.length_nil]
        rw [if_pos (by decide)]
        simp only [wD_some, hz5]
        rw [if_pos (by decide)]
        simp only [wD_some, dAdd, List.length_cons, List.length_nil]
        rw [if_pos (by decide)]
        exact hn _ _ ⟨h0, rfl⟩
      rintro ρ s ⟨h0, rfl⟩
      simp only [en, w_sRet, w_eCall, w_aCons, w_aNil, v_eV, List.getElem?_cons_zero, List.getElem?_cons_succ, slotE_sh]
      refine of_ev h0 (by simp) (by simp) fun d' s2 hs2 hd' => ?_
      have hv : BR (.tup ds) d' := by
        simp only [List.cons_append, List.nil_append, List.mem_cons, List.not_mem_nil, or_false] at hd'
        have mk : ∀ {es : List D} {c m : Nat}, VL es c m → c ≤ 2 * szs ds + 60 → m ≤ dpts ds + 1 → BR (.tup ds) (.tup es) := fun {es c m} h hc hm => by
          obtain ⟨x1, x2, x3⟩ := h.vb
          exact ⟨x1, by omega, by omega⟩
        rcases hd' with rfl | rfl | rfl | rfl | rfl | rfl | rfl
        · exact it_br hd
        · exact mk (hV.cut (some 1) none) (by omega) (by omega)
        · exact mk (hV.cut none (some (-1))) (by omega) (by omega)
        · exact mk (hV.app (hV.cut none (some 1))) (by omega) (by omega)
        · obtain ⟨x1, x2, x3⟩ := hV.vbl
          exact ⟨x1, by omega, by omega⟩
        · exact mk hV.rev (by omega) (by omega)
        · exact mk (hV.app (VL.one (x := .int 0) (by decide +kernel))) (by show _ + (50 + 2) ≤ _; omega) (by show max _ 0 ≤ _; omega)
      exact hQ d' _ _ hs2 hv
    refine w_seq (fun ρ s => s.addr = a ∧ ds ≠ [] ∧ ρ = en none none none) (fun Q' hn hr _ _ => ?_) ?_
    · have hr' : ∀ d ρ s, s.addr = a → BR (.tup ds) d → Q' (.rt d) ρ s := fun d ρ s h1 h2 => hr d ρ s (q d s h1 h2)
      rw [w_sIf, w_tOr, w_tNot, w_tE]
      simp only [en, w_e1, v_eV, List.getElem?_cons_zero, List.getElem?_cons_succ, slotE_sh, g1, wD_some, isB_bl, Bool.not_true, Bool.false_eq_true, if_false]
      rw [w_tOr, w_tE]
      have e0 : dEq0 (.tup ds) (.tup []) = some (.bl (ds.length == 0)) := rfl
      simp only [w_e2, w_eTup, w_aNil, v_eV, List.length_nil, Nat.zero_le, if_true, List.getElem?_cons_zero, List.getElem?_cons_succ, slotE_sh, wD_some, e0, isB_bl]
      by_cases he : ds = []
      · have : (ds.length == 0) = true := by rw [he]; rfl
        rw [if_pos this]
        exact stop s Q' h0 hr'
      · have : (ds.length == 0) = false := by
          cases ds with
          | nil => exact absurd rfl he
          | cons _ _ => rfl
        rw [this]
        simp only [Bool.false_eq_true, if_false]
        rw [w_tE]
        simp only [w_e2, w_eCall, w_aCons, w_aNil, w_eC, v_eV, List.getElem?_cons_zero, List.getElem?_cons_succ, slotE_sh]
        refine pick_ev h0 (by decide) fun v s1 hs1 _ _ => ?_
        simp only [o_eqI, wD_some, isB_bl]
        by_cases hv : v = 0
        · rw [if_pos (decide_eq_true hv)]
          exact stop s1 Q' hs1 hr'
        · rw [if_neg (by rw [decide_eq_false hv]; exact Bool.false_ne_true)]
          exact hn _ _ ⟨hs1, he, rfl⟩
    rintro ρ s ⟨h0, he, rfl⟩
    have hp : 1 ≤ ds.length := List.length_pos_iff.mpr he
    refine w_seq (fun ρ s => s.addr = a ∧ ∃ (j : Nat) (W : Int), j < ds.length ∧ ρ = en none (some (.sh (.int j))) (some (.sh (.int W)))) (fun Q' hn _ _ _ => ?_) ?_
    · simp only [en, w_sPar, w_qSh, w_qNil, w_e1, w_eCall, w_aCons, w_aNil, w_eC, v_eV, List.getElem?_cons_zero, List.getElem?_cons_succ, slotE_sh, dLen, wD_some, List.length_map]
      refine pick_n h0 hp (by omega) fun j s1 hs1 hj => ?_
      refine pick_ev hs1 (by decide) fun W s2 hs2 _ _ => ?_
      simp only [List.length_cons, List.length_nil, if_true, wD_some]
      exact hn _ _ ⟨hs2, j, W, hj, rfl⟩
    rintro ρ s ⟨h0, j, W, hj, rfl⟩
    have g5 : dIx (.tup ds) (.int j) = some ds[j] := by rw [o_ixT, List.getElem?_eq_getElem hj]
    have hbj := hb ds[j] (List.getElem_mem hj)
    have hzl : dCut none (some (j : Int)) (.tup ds) = some (.tup (ds.take j)) := by
      show some (D.tup (cutD ds none (some (j : Int)))) = _
      rw [cut_take ds (by omega)]
    have hzr : dCut (some ((j : Int) + 1)) none (.tup ds) = some (.tup (ds.drop (j + 1))) := by
      show some (D.tup (cutD ds (some ((j : Int) + 1)) none)) = _
      rw [cut_drop ds (by omega)]
    have ll : (ds.take j).length + (ds.drop (j + 1)).length ≤ 200 := by rw [List.length_take, List.length_drop]; omega
    obtain ⟨v1, v2, v3, v4, v5⟩ := hV.mem hj
    have mid : ∀ d, BR ds[j] d → dAdd (.tup (ds.take j)) (.tup [d]) = some (.tup (ds.take j ++ [d])) ∧ dAdd (.tup (ds.take j ++ [d])) (.tup (ds.drop (j + 1))) = some (.tup ((ds.take j ++ [d]) ++ ds.drop (j + 1))) ∧ BR (.tup ds) (.tup ((ds.take j ++ [d]) ++ ds.drop (j + 1))) := fun d hd => by
      refine ⟨addT _ _ (by show _ + 1 ≤ _; omega), addT _ _ (by rw [List.length_append]; show _ + 1 + _ ≤ _; omega), ?_⟩
      obtain ⟨x1, x2, x3⟩ := ((v2.app (VL.one hd.1)).app v3).vb
      have y1 := hd.2.1
      have y2 := hd.2.2
      exact ⟨x1, by omega, by omega⟩
    refine w_seq (fun ρ s => s.addr = a ∧ ρ = en none (some (.sh (.int j))) (some (.sh (.int W)))) (fun Q' hn hr _ _ => ?_) ?_
    · refine w_if (fun c ρ s => s.addr = a ∧ (c = true → ∃ i, ds[j] = .int i) ∧ ρ = en none (some (.sh (.int j))) (some (.sh (.int W)))) (fun Q2 hQ => ?_) ?_ ?_
      · rw [w_tAnd, w_tE]
        simp only [en, w_e2, w_eC, v_eV, List.getElem?_cons_zero, List.getElem?_cons_succ, slotE_sh, dLt, wD_some, isB_bl]
        have hn1 : m_law_number [ds[j]] = some (.bl (isN ds[j])) := ev_law_number (vok_ok _ v1).1
        split
        · rw [w_tE]
          simp only [w_eCallP, w_aCons, w_aNil, w_e2, v_eV, List.getElem?_cons_zero, List.getElem?_cons_succ, slotE_sh, g5, wD_some, hn1, isB_bl]
          refine hQ _ _ _ ⟨h0, fun hc => ?_, rfl⟩
          cases e : ds[j] with
          | int i => exact ⟨i, rfl⟩
          | _ => rw [e] at hc; simp [isN] at hc
        · exact hQ _ _ _ ⟨h0, (fun hc => absurd hc Bool.false_ne_true), rfl⟩
      · rintro ρ s ⟨h0, hc, rfl⟩
        obtain ⟨i, hi⟩ := hc rfl
        rw [w_sRet]
        simp only [en]
        simp only [↓w_e2, ↓w_eC, ↓w_eLst, ↓w_eTup, ↓w_eCall, ↓w_eCut, ↓w_pNone, ↓w_pSome, ↓w_aCons, ↓w_aNil, ↓Fw.v0, ↓Fw.v1, ↓Fw.v2, ↓Fw.v3, ↓Fw.v4, ↓Fw.v5]
        rw [hi] at g5 hbj mid
        have hbi := bkt_int hbj
        simp only [isI_int, g5, dSub, wD_some, hzl, List.length_cons, List.length_nil]
        have addI : ∀ t : Int, dAdd (.int i) (.int t) = some (.int (i + t)) := fun _ => rfl
        simp only [addI, wD_some]
        rw [if_pos (by decide), wD_some]
        refine of_ev h0 (by simp) (by simp) fun d s1 hs1 hd => ?_
        have hdi : BR (.int i) d := by
          simp only [List.mem_cons, List.not_mem_nil, or_false] at hd
          rcases hd with rfl | rfl | rfl | rfl <;> exact it_br (it_int (by omega))
        obtain ⟨hz, hw, hv⟩ := mid d hdi
        rw [if_pos (by decide), wD_some]
        have addJ : dAdd (.int (j : Int)) (.int 1) = some (.int ((j : Int) + 1)) := rfl
        simp only [hz, addJ, wD_some, isI_int, hzr, hw]
        exact hr _ _ _ (q _ s1 hs1 hv)
      · rintro ρ s ⟨h0, _, rfl⟩
        rw [w_sNx]
        exact hn _ _ ⟨h0, rfl⟩
    rintro ρ s ⟨h0, rfl⟩
    have addJ : dAdd (.int (j : Int)) (.int 1) = some (.int ((j : Int) + 1)) := rfl
    refine w_seq (fun ρ s => s.addr = a ∧ ρ = en none (some (.sh (.int j))) (some (.sh (.int W)))) (fun Q' hn hr _ _ => ?_) ?_
    · rw [w_sIf, w_tE]
      simp only [en, w_e2, w_eC, v_eV, List.getElem?_cons_zero, List.getElem?_cons_succ, slotE_sh, o_eqI, wD_some, isB_bl]
      split
      · have hw := addT (ds.take j) (ds.drop (j + 1)) (by omega)
        rw [w_sRet]
        simp only [w_e2, w_eC, w_eCut, w_pNone, w_pSome, v_eV, List.getElem?_cons_zero, List.getElem?_cons_succ, slotE_sh, isI_int, addJ, wD_some, hzl, hzr, hw]
        obtain ⟨x1, x2, x3⟩ := (v2.app v3).vb
        exact hr _ _ _ (q _ s h0 ⟨x1, by omega, by omega⟩)
      · rw [w_sNx]
        exact hn _ _ ⟨h0, rfl⟩
    rintro ρ s ⟨h0, rfl⟩
    rw [w_sRet]
    simp only [en, w_e2, w_eC, w_eTup, w_eCall, w_eCut, w_pNone, w_pSome, w_aCons, w_aNil, v_eV, List.getElem?_cons_zero, List.getElem?_cons_succ, slotE_sh, isI_int, g5, wD_some, hzl, List.length_cons, List.length_nil]
    refine ih h0 hbj fun d s1 hs1 hd => ?_
    obtain ⟨hz, hw, hv⟩ := mid d hd
    dsimp only
    rw [if_pos (by decide), wD_some]
    simp only [hz, addJ, wD_some, isI_int, hzr, hw]
    exact q _ s1 hs1 hv
  exact key
theorem bent_ev {a : Addr} : ∀ (k : Nat) {j : Nat} {v : D} {s : Src} {Q : D × Src → Prop}, s.addr = a → bkt k v → (∀ d s', s'.addr = a → BR v d → Q (d, s')) → wD (m_law_bent (k + j + 1) [.obj a, v] s) Q
  | 0, j, v, s, Q, hs, h, q => by
    rw [Nat.zero_add]
    exact bent_leaf hs h q
  | k + 1, j, v, s, Q, hs, h, q => by
    rcases h with h | ⟨ds, rfl, hl, hb⟩
    · exact bent_leaf hs h q
    · rw [show k + 1 + j + 1 = (k + j) + 2 from by omega]
      exact bent_tup (k := k) (j0 := k + j) (fun h1 h2 h3 => bent_ev k (j := j) h1 h2 h3) hs hb hl q
end Fw
/-! ## K2i -/
set_option linter.all false
set_option maxRecDepth 100000
set_option maxHeartbeats 1000000
/-! The first fault of anything as a paper: judged alike. -/
namespace Fw
open PySem PySem.Spec PyProof.Rows L2
noncomputable def jB (fw fh fn fe ff : List D → Option D) (tl : C Unit) : C Unit := (sSeq (sIf (Fw.tOr (Fw.tNot (tE (Fw.e1 (dIsi "tuple") (eV 1)))) (Fw.tOr (tE (e2 dEq0 (eV 1) (eTup aNil))) (Fw.tNot (tE (Fw.e1 (dIsi "str") (e2 dIx (eV 1) (eC (.int 0))))))))
    (sRet (eTup (aCons (eC (.str "form")) aNil)))
    sNx)
    (sSeq (sIf (Fw.tAnd (tE (e2 dEq (e2 dIx (eV 1) (eC (.int 0))) (eC (.str "heights")))) (Fw.tAnd (tE (e2 dEq (Fw.e1 dLen (eV 1)) (eC (.int 2)))) (tE (eCallP fw (aCons (e2 dIx (eV 1) (eC (.int 1))) (aCons (e2 dIx (eV 0) (eC (.int 0))) aNil))))))
    (sRet (eCallP fh (aCons (eV 0) (aCons (e2 dIx (eV 1) (eC (.int 1))) aNil))))
    sNx)
    (sSeq (sIf (Fw.tOr (tE (e2 dNe (e2 dIx (eV 1) (eC (.int 0))) (eC (.str "ring")))) (Fw.tOr (tE (e2 dNe (Fw.e1 dLen (eV 1)) (eC (.int 3)))) (Fw.tOr (Fw.tNot (tE (eCallP fn (aCons (e2 dIx (eV 1) (eC (.int 1))) aNil)))) (Fw.tNot (tE (eChain dLe dLt (eC (.int 0)) (e2 dIx (eV 1) (eC (.int 1))) (e2 dIx (eV 0) (eC (.int 0)))))))))
    (sRet (eTup (aCons (eC (.str "form")) aNil)))
    sNx)
    (sSeq (sIf (Fw.tOr (Fw.tNot (tE (eCallP fe (aCons (eV 0) (aCons (e2 dIx (eV 1) (eC (.int 2))) aNil))))) (tE (e2 dEq0 (e2 dIx (eV 1) (eC (.int 2))) (eTup aNil))))
    (sRet (eTup (aCons (eC (.str "form")) aNil)))
    sNx)
    (sSeq (sAsg (eCallP ff (aCons (eV 0) (aCons (e2 dIx (eV 1) (eC (.int 1))) (aCons (e2 dIx (eV 1) (eC (.int 2))) aNil)))) (gN 2))
    (sSeq (sIf (tE (Fw.e1 dNotN (eV 2)))
    (sRet (eV 2))
    sNx)
    tl))))))
noncomputable def tlJ : C Unit := (sSeq (sAsg (eCallP m_way_cost (aCons (eV 0) (aCons (e2 dIx (eV 1) (eC (.int 2))) aNil))) (gN 3))
    (sRet (eIf (tE (e2 dGe (eV 3) (eC (.int 0)))) (eTup (aCons (eC (.str "cost")) (aCons (eV 3) aNil))) (eC .non))))
noncomputable def tlL : C Unit := (sRet (eIf (tE (e2 dGe (eCallP m_law_way_cost (aCons (eV 0) (aCons (e2 dIx (eV 1) (eC (.int 2))) aNil))) (eC (.int 0)))) (eTup (aCons (eC (.str "cost")) (aCons (eCallP m_law_way_cost (aCons (eV 0) (aCons (e2 dIx (eV 1) (eC (.int 2))) aNil))) aNil))) (eC .non)))
theorem judge_eq : m_judge_height_paperB = jB m_are_wholes m_heights_fault m_is_whole m_are_ends m_ring_fault tlJ := rfl
theorem lawpf_eq : m_law_paper_faultB = jB m_law_are_wholes m_law_heights_fault m_law_number m_law_are_ends m_law_way_fault tlL := rfl
def wfD (G : Fr) (x : Nat) (es : List Nat) : D := match wbr G x 0 es with | some i => dW "way" i | none => if wend G x es = x then .non else dW "back" (wend G x es : Nat)
def costD (G : Fr) (es : List Nat) : D := if 0 ≤ wayC G es then dW "cost" (wayC G es) else .non
structure JF (G : Fr) (fw fh fn fe ff : List D → Option D) (tl : C Unit) (ρ' : Env) : Prop where
  w : ∀ (d : D) (k : Nat), nob d = true → fw [d, .int k] = some (.bl (wholes d k))
  h : ∀ (d r : D), m_heights_fault [G.d, d] = some r → m_law_heights_fault [G.d, d] = some r → fh [G.d, d] = some r
  n : ∀ d : D, nob d = true → fn [d] = some (.bl (isN d))
  e : ∀ d : D, nob d = true → fe [G.d, d] = some (.bl (endsP G.roads.length d))
  f : ∀ (x : Nat) (es : List Nat), (∀ e ∈ es, e < 2 * G.roads.length) → ff [G.d, .int x, .tup (nats es)] = some (wfD G x es)
  t : ∀ (x : Nat) (es : List Nat), (∀ e ∈ es, e < 2 * G.roads.length) → wS tl (some (.sh G.d) :: some (.sh (.tup [.str "ring", .int x, .tup (nats es)])) :: some (.sh .non) :: ρ') () fun c _ _ => c = .rt (costD G es)
theorem jf1 {G : Fr} (hG : G.Sh) : JF G m_are_wholes m_heights_fault m_is_whole m_are_ends m_ring_fault tlJ [none] where
  w d k h := ev_are_wholes h
  h d r h1 h2 := h1
  n d h := ev_is_whole h
  e d h := ev_are_ends hG h
  f x es h := ev_ring_fault h
  t x es h := by
    unfold tlJ
    rw [w_sSeq, w_sAsg]
    simp only [↓w_eCallP, ↓w_aCons, ↓w_aNil, ↓w_e2, ↓w_eC, ↓Fw.v0, ↓Fw.v1]
    rw [show dIx (.tup [.str "ring", .int (x : Int), .tup (nats es)]) (.int 2) = some (.tup (nats es)) from rfl, wD_some, ev_way_cost hG h, wD_some]
    show wS _ (some (.sh G.d) :: some (.sh (.tup [.str "ring", .int x, .tup (nats es)])) :: some (.sh .non) :: [some (.sh (.int (wayC G es)))]) () _
    rw [w_sRet, w_eIf, w_tE]
    simp only [↓w_e2, ↓w_eC, ↓Fw.v3, ↓w_eTup2]
    rw [show dGe (.int (wayC G es)) (.int 0) = some (.bl (decide (0 ≤ wayC G es))) from rfl, wD_some, isB_bl]
    unfold costD
    by_cases h0 : 0 ≤ wayC G es
    · rw [if_pos (decide_eq_true h0), if_pos h0]
      rfl
    · rw [if_neg (by simp [h0]), if_neg h0]
theorem jf2 {G : Fr} (hG : G.Sh) : JF G m_law_are_wholes m_law_heights_fault m_law_number m_law_are_ends m_law_way_fault tlL [] where
  w d k h := ev_law_are_wholes h
  h d r h1 h2 := h2
  n d h := ev_law_number h
  e d h := ev_law_ends hG h
  f x es h := ev_law_way h
  t x es h := by
    unfold tlL
    rw [w_sRet, w_eIf, w_tE]
    simp only [↓w_eCallP, ↓w_aCons, ↓w_aNil, ↓w_e2, ↓w_eC, ↓Fw.v0, ↓Fw.v1, ↓w_eTup2]
    simp only [show dIx (.tup [.str "ring", .int (x : Int), .tup (nats es)]) (.int 2) = some (.tup (nats es)) from rfl, wD_some, ev_law_way_cost hG h]
    rw [show dGe (.int (wayC G es)) (.int 0) = some (.bl (decide (0 ≤ wayC G es))) from rfl, wD_some, isB_bl]
    unfold costD
    by_cases h0 : 0 ≤ wayC G es
    · rw [if_pos (decide_eq_true h0), if_pos h0]
      rfl
    · rw [if_neg (by simp [h0]), if_neg h0]
def GoodP (G : Fr) (v : D) : Prop := (∃ hs : List Int, v = .tup [.str "heights", .tup (hs.map .int)] ∧ HsR G hs) ∨
  ∃ (x : Nat) (es : List Nat), v = .tup [.str "ring", .int x, .tup (nats es)] ∧ x < G.n ∧ es ≠ [] ∧ WayS G x es x ∧ wayC G es < 0
def orD : D → D → D
  | .non, b => b
  | a, _ => a
theorem orD_ne {a b : D} (h : a ≠ .non) : orD a b = a := by
  cases a with
  | non => exact absurd rfl h
  | _ => rfl
def dFm : D := .tup [.str "form"]
theorem wS_eq {S : Type} {f g : C S} {ρ : Env} {s : S} {Q : Ctl → Env → S → Prop} (h : f = g) (k : wS g ρ s Q) : wS f ρ s Q := h ▸ k
/-- what both judge -/
theorem both_pf {G : Fr} (hG : G.Sh) {v r : D} (h : ∀ fw fh fn fe ff tl ρ', JF G fw fh fn fe ff tl ρ' → wS (jB fw fh fn fe ff tl) (some (.sh G.d) :: some (.sh v) :: none :: ρ') () fun c _ _ => c = .rt r) :
    m_judge_height_paper [G.d, v] = some r ∧ m_law_paper_fault [G.d, v] = some r := by
  constructor
  · refine wD_eq (run_P rfl ?_)
    rw [judge_eq]
    refine wS_mono (h _ _ _ _ _ _ [none] (jf1 hG)) fun c ρ s hc => ?_
    rw [hc]
  · refine wD_eq (run_P rfl ?_)
    rw [lawpf_eq]
    refine wS_mono (h _ _ _ _ _ _ [] (jf2 hG)) fun c ρ s hc => ?_
    rw [hc]
theorem val_w {w : String} {i : Int} (hw : vok (.str w) = true) (h : -999999999999 ≤ i ∧ i ≤ 999999999999) : Val (dW w i) :=
  (vb_tup (c := 50) (m := 0) (l := 2) (ds := [.str w, .int i]) (fun x hx => by
    simp only [List.mem_cons, List.not_mem_nil, or_false] at hx
    rcases hx with rfl | rfl
    · exact ⟨hw, Nat.le_refl _, Nat.le_refl _⟩
    · exact vb_int h) (Nat.le_refl _)).val (by decide) (by decide)
theorem val_fm : Val dFm := ⟨by decide +kernel, by decide +kernel, by decide +kernel⟩
theorem wbr_lt {G : Fr} : ∀ {es : List Nat} {x i j : Nat}, wbr G x i es = some j → j < i + es.length
  | [], x, i, j, h => by cases h
  | e :: es, x, i, j, h => by
    unfold wbr at h
    split at h
    · have := wbr_lt h
      rw [List.length_cons]
      omega
    · cases h
      rw [List.length_cons]
      omega
theorem way_of {G : Fr} {x : Nat} {es : List Nat} (hl : ∀ e ∈ es, e < 2 * G.roads.length) (h1 : wbr G x 0 es = none) (h2 : wend G x es = x) : WayS G x es x := by
  have := WayS.app (x := x) (pre := []) WayS.nil hl 0 h1
  rw [List.nil_append, h2] at this
  exact this
theorem szs_nats : ∀ l : List Nat, szs (nats l) = 52 * l.length
  | [] => rfl
  | x :: r => by
    show 50 + 2 + szs (nats r) = _
    rw [szs_nats r, List.length_cons]
    omega
theorem nob_of {v : D} (h : vok v = true) : nob v = true := (vok_ok v h).1
theorem wf_val {G : Fr} (hG : G.Ok) {x : Nat} (hx : x < G.n) {es : List Nat} (hl : ∀ e ∈ es, e < 2 * G.roads.length) (hs : es.length ≤ 100000) : Val (wfD G x es) ∧ Val (costD G es) ∧ (wfD G x es = .non ↔ WayS G x es x) := by
  have hn := hG.n2
  have hb := wayC_bnd hG hl
  refine ⟨?_, ?_, ?_⟩
  · unfold wfD
    cases e : wbr G x 0 es with
    | some i =>
      have := wbr_lt e
      exact val_w (by decide +kernel) (by omega)
    | none =>
      dsimp only
      split
      · exact val_non
      · have := wend_lt hG.sh (x := x) hx hl
        exact val_w (by decide +kernel) (by omega)
  · unfold costD
    split
    · exact val_w (by decide +kernel) (by omega)
    · exact val_non
  · constructor
    · intro h
      unfold wfD at h
      cases e : wbr G x 0 es with
      | some i => rw [e] at h; cases h
      | none =>
        rw [e] at h
        dsimp only at h
        split at h
        · rename_i h2
          exact way_of hl e h2
        · cases h
    · intro h
      obtain ⟨h1, h2⟩ := h.wbr
      unfold wfD
      rw [h1]
      dsimp only
      rw [if_pos h2]
theorem ev_pf {G : Fr} (hG : G.Ok) {v : D} (hv : Val v) : ∃ r, m_judge_height_paper [G.d, v] = some r ∧ m_law_paper_fault [G.d, v] = some r ∧ Val r ∧ (r = .non ↔ GoodP G v) := by
  have hok := hv.1
  have hn := hG.n2
  have form : (¬ GoodP G v) → (∀ fw fh fn fe ff tl ρ', JF G fw fh fn fe ff tl ρ' → wS (jB fw fh fn fe ff tl) (some (.sh G.d) :: some (.sh v) :: none :: ρ') () fun c _ _ => c = .rt dFm) → ∃ r, m_judge_height_paper [G.d, v] = some r ∧ m_law_paper_fault [G.d, v] = some r ∧ Val r ∧ (r = .non ↔ GoodP G v) := fun hg h =>
    ⟨dFm, (both_pf hG.sh h).1, (both_pf hG.sh h).2, val_fm, (fun h => by cases h), fun h => absurd h hg⟩
  have e0 : dIx G.d (.int 0) = some (.int (G.n : Int)) := o_ix0 _
  have nt : dIsi "tuple" v = some (.bl false) → (∀ ds, v ≠ .tup ds) → ∃ r, m_judge_height_paper [G.d, v] = some r ∧ m_law_paper_fault [G.d, v] = some r ∧ Val r ∧ (r = .non ↔ GoodP G v) := fun e1 e2 => by
    refine form (fun h => by rcases h with ⟨hs, e, _⟩ | ⟨x, es, e, _⟩ <;> exact e2 _ e) fun fw fh fn fe ff tl ρ' J => ?_
    unfold jB
    rw [w_sSeq, w_sIf, w_tOr, w_tNot, w_tE]
    simp only [↓w_e1, ↓w_e2, ↓w_eC, ↓w_eTup0, ↓Fw.v1]
    rw [e1, wD_some, isB_bl, Bool.not_false, if_pos (by trivial), if_pos (by trivial), w_sRet, w_eTup1, w_eC]
    rfl
  cases v with
  | obj a => simp [vok] at hok
  | tup ds =>
    have eT : dIsi "tuple" (.tup ds) = some (.bl true) := rfl
    cases ds with
    | nil =>
      refine form (fun h => by rcases h with ⟨hs, e, _⟩ | ⟨x, es, e, _⟩ <;> cases e) fun fw fh fn fe ff tl ρ' J => ?_
      unfold jB
      rw [w_sSeq, w_sIf, w_tOr, w_tNot, w_tE]
      simp only [↓w_e1, ↓w_e2, ↓w_eC, ↓w_eTup0, ↓Fw.v1]
      rw [eT, wD_some, isB_bl, Bool.not_true, if_neg Bool.false_ne_true, w_tOr, w_tE]
      simp only [↓w_e1, ↓w_e2, ↓w_eC, ↓w_eTup0, ↓Fw.v1]
      rw [show dEq0 (.tup []) (.tup []) = some (.bl true) from rfl, wD_some, isB_bl, if_pos (by trivial), if_pos (by trivial), w_sRet, w_eTup1, w_eC]
      rfl
    | cons d0 r =>
      have ok0 : vok d0 = true ∧ voks r = true := by
        have : (vok d0 && voks r) = true := hok
        rwa [Bool.and_eq_true] at this
      -- the head
      have hd : ∀ {Q : Ctl → Env → Unit → Prop} {b : C Unit} {ρ' : Env}, (∀ x, d0 ≠ .str x) → Q (.rt dFm) (some (.sh G.d) :: some (.sh (.tup (d0 :: r))) :: none :: ρ') () → wS (sSeq (sIf (Fw.tOr (Fw.tNot (tE (Fw.e1 (dIsi "tuple") (eV 1)))) (Fw.tOr (tE (e2 dEq0 (eV 1) (eTup aNil))) (Fw.tNot (tE (Fw.e1 (dIsi "str") (e2 dIx (eV 1) (eC (.int 0)))))))) (sRet (eTup (aCons (eC (.str "form")) aNil))) sNx) b) (some (.sh G.d) :: some (.sh (.tup (d0 :: r))) :: none :: ρ') () Q := fun {Q b ρ'} hne q => by
        rw [w_sSeq, w_sIf, w_tOr, w_tNot, w_tE]
        simp only [↓w_e1, ↓w_e2, ↓w_eC, ↓w_eTup0, ↓Fw.v1]
        rw [eT, wD_some, isB_bl, Bool.not_true, if_neg Bool.false_ne_true, w_tOr, w_tE]
        simp only [↓w_e1, ↓w_e2, ↓w_eC, ↓w_eTup0, ↓Fw.v1]
        rw [show dEq0 (.tup (d0 :: r)) (.tup []) = some (.bl false) from rfl, wD_some, isB_bl, if_neg Bool.false_ne_true, w_tNot, w_tE]
        simp only [↓w_e1, ↓w_e2, ↓w_eC, ↓w_eTup0, ↓Fw.v1]
        rw [show dIx (.tup (d0 :: r)) (.int 0) = some d0 from o_ix0 _, wD_some]
        have : dIsi "str" d0 = some (.bl false) := by
          cases d0 with
          | str x => exact absurd rfl (hne x)
          | obj a => exact absurd ok0.1 (by simp [vok])
          | _ => rfl
        rw [this, wD_some, isB_bl, Bool.not_false, if_pos (by trivial), w_sRet, w_eTup1, w_eC]
        exact q
      have hs : ∀ {Q : Ctl → Env → Unit → Prop} {b : C Unit} {ρ' : Env} {w : Str}, d0 = .str w → wS b (some (.sh G.d) :: some (.sh (.tup (.str w :: r))) :: none :: ρ') () Q → wS (sSeq (sIf (Fw.tOr (Fw.tNot (tE (Fw.e1 (dIsi "tuple") (eV 1)))) (Fw.tOr (tE (e2 dEq0 (eV 1) (eTup aNil))) (Fw.tNot (tE (Fw.e1 (dIsi "str") (e2 dIx (eV 1) (eC (.int 0)))))))) (sRet (eTup (aCons (eC (.str "form")) aNil))) sNx) b) (some (.sh G.d) :: some (.sh (.tup (.str w :: r))) :: none :: ρ') () Q := fun {Q b ρ' w} hne q => by
        rw [w_sSeq, w_sIf, w_tOr, w_tNot, w_tE]
        simp only [↓w_e1, ↓w_e2, ↓w_eC, ↓w_eTup0, ↓Fw.v1]
        rw [show dIsi "tuple" (.tup (.str w :: r)) = some (.bl true) from rfl, wD_some, isB_bl, Bool.not_true, if_neg Bool.false_ne_true, w_tOr, w_tE]
        simp only [↓w_e1, ↓w_e2, ↓w_eC, ↓w_eTup0, ↓Fw.v1]
        rw [show dEq0 (.tup (.str w :: r)) (.tup []) = some (.bl false) from rfl, wD_some, isB_bl, if_neg Bool.false_ne_true, w_tNot, w_tE]
        simp only [↓w_e1, ↓w_e2, ↓w_eC, ↓w_eTup0, ↓Fw.v1]
        rw [show dIx (.tup (.str w :: r)) (.int 0) = some (.str w) from o_ix0 _, wD_some, show dIsi "str" (.str w) = some (.bl true) from rfl, wD_some, isB_bl, Bool.not_true, if_neg Bool.false_ne_true, w_sNx]
        exact q
      by_cases hstr : ∃ w, d0 = .str w
      · obtain ⟨w, rfl⟩ := hstr
        have hw : PyData.strOk w = true := by
          have : (decide ((reprText w).length ≤ 50) && PyData.strOk (reprText w) && PyData.strOk w) = true := ok0.1
          exact (Bool.and_eq_true _ _ ▸ this).2
        have ow : ∀ x : Str, PyData.strOk x = true → dEq (.str w) (.str x) = some (.bl (w == x)) := fun x hx => o_eqS hw hx rfl
        have onw : ∀ x : Str, PyData.strOk x = true → dNe (.str w) (.str x) = some (.bl !(w == x)) := fun x hx => o_neS hw hx rfl
        have i0 : dIx (.tup (.str w :: r)) (.int 0) = some (.str w) := o_ix0 _
        have lenv : dLen (.tup (.str w :: r)) = some (.int ((r.length + 1 : Nat) : Int)) := rfl
        by_cases w1 : w = "heights"
        · subst w1
          -- a paper of heights
          by_cases good : ∃ u, r = [u] ∧ wholes u G.n = true
          · obtain ⟨u, rfl, hu⟩ := good
            obtain ⟨l, rfl, hl⟩ := wholes_tup hu
            obtain ⟨r, e1, e2, h3, h4⟩ := ev_hf hG.sh hl
            have hb := both_pf hG.sh (v := .tup [.str "heights", .tup (l.map .int)]) (r := r) fun fw fh fn fe ff tl ρ' J => by
              unfold jB
              refine hs rfl ?_
              rw [w_sSeq, w_sIf, w_tAnd, w_tE]
              simp only [↓w_e1, ↓w_e2, ↓w_eC, ↓Fw.v0, ↓Fw.v1]
              rw [i0, wD_some, ow _ (by decide +kernel), wD_some, isB_bl, if_pos (by decide +kernel), w_tAnd, w_tE]
              simp only [↓w_e1, ↓w_e2, ↓w_eC, ↓Fw.v0, ↓Fw.v1]
              rw [lenv, wD_some, o_eqI, wD_some, isB_bl, if_pos (by rfl), w_tE]
              simp only [↓w_eCallP, ↓w_aCons, ↓w_aNil, ↓w_e1, ↓w_e2, ↓w_eC, ↓Fw.v0, ↓Fw.v1]
              rw [show dIx (.tup [.str "heights", .tup (l.map .int)]) (.int 1) = some (.tup (l.map .int)) from rfl, wD_some, e0, wD_some, J.w _ _ (nob_of (by
                have := ok0.2
                simp only [voks, Bool.and_true] at this
                exact this)), hu, wD_some, isB_bl, if_pos (by trivial), w_sRet]
              simp only [↓w_eCallP, ↓w_aCons, ↓w_aNil, ↓w_e1, ↓w_e2, ↓w_eC, ↓Fw.v0, ↓Fw.v1]
              rw [show dIx (.tup [.str "heights", .tup (l.map .int)]) (.int 1) = some (.tup (l.map .int)) from rfl, wD_some, J.h _ _ e1 e2, wD_some]
            refine ⟨r, hb.1, hb.2, h3, h4.trans ⟨fun h => .inl ⟨l, rfl, h⟩, fun h => ?_⟩⟩
            rcases h with ⟨hs, e, h⟩ | ⟨x, es, e, _⟩
            · simp only [D.tup.injEq, List.cons.injEq, and_true, true_and] at e
              have := map_inj (f := D.int) (fun a b e => by cases e; rfl) e
              rw [this]
              exact h
            · cases e
          · refine form (fun h => ?_) fun fw fh fn fe ff tl ρ' J => ?_
            · rcases h with ⟨hs, e, h⟩ | ⟨x, es, e, _⟩
              · simp only [D.tup.injEq, List.cons.injEq, true_and] at e
                exact good ⟨_, e, wholes_of hs h.1⟩
              · cases e
            · unfold jB
              refine hs rfl ?_
              have tl2 : ∀ {b : C Unit}, wS (sSeq (sIf (Fw.tOr (tE (e2 dNe (e2 dIx (eV 1) (eC (.int 0))) (eC (.str "ring")))) (Fw.tOr (tE (e2 dNe (Fw.e1 dLen (eV 1)) (eC (.int 3)))) (Fw.tOr (Fw.tNot (tE (eCallP fn (aCons (e2 dIx (eV 1) (eC (.int 1))) aNil)))) (Fw.tNot (tE (eChain dLe dLt (eC (.int 0)) (e2 dIx (eV 1) (eC (.int 1))) (e2 dIx (eV 0) (eC (.int 0)))))))))
                  (sRet (eTup (aCons (eC (.str "form")) aNil)))
                  sNx) b) (some (.sh G.d) :: some (.sh (.tup (.str "heights" :: r))) :: none :: ρ') () (fun c _ _ => c = .rt dFm) := by
                intro b
                rw [w_sSeq, w_sIf, w_tOr, w_tE]
                simp only [↓w_e1, ↓w_e2, ↓w_eC, ↓Fw.v0, ↓Fw.v1]
                rw [i0, wD_some, onw _ (by decide +kernel), wD_some, isB_bl, if_pos (by decide +kernel), if_pos (by trivial), w_sRet, w_eTup1, w_eC]
                rfl
              rw [w_sSeq, w_sIf, w_tAnd, w_tE]
              simp only [↓w_e1, ↓w_e2, ↓w_eC, ↓Fw.v0, ↓Fw.v1]
              rw [i0, wD_some, ow _ (by decide +kernel), wD_some, isB_bl, if_pos (by decide +kernel), w_tAnd, w_tE]
              simp only [↓w_e1, ↓w_e2, ↓w_eC, ↓Fw.v0, ↓Fw.v1]
              rw [lenv, wD_some, o_eqI, wD_some, isB_bl]
              by_cases hl : r.length = 1
              · rw [if_pos (by rw [hl]; decide), w_tE]
                obtain ⟨u, rfl⟩ := List.length_eq_one_iff.mp hl
                simp only [↓w_eCallP, ↓w_aCons, ↓w_aNil, ↓w_e1, ↓w_e2, ↓w_eC, ↓Fw.v0, ↓Fw.v1]
                have hu : wholes u G.n = false := by
                  cases e : wholes u G.n with
                  | false => rfl
                  | true => exact absurd ⟨u, rfl, e⟩ good
                rw [show dIx (.tup [.str "heights", u]) (.int 1) = some u from rfl, wD_some, e0, wD_some, J.w _ _ (nob_of (by
                  have := ok0.2
                  simp only [voks, Bool.and_true] at this
                  exact this)), hu, wD_some, isB_bl, if_neg Bool.false_ne_true, w_sNx]
                exact tl2
              · rw [if_neg (by simp only [decide_eq_true_eq]; omega), if_neg Bool.false_ne_true, w_sNx]
                exact tl2
        · -- a ring
          have nh : (w == "heights") = false := by simpa using w1
          have go : ∀ {Q : Ctl → Env → Unit → Prop} {b : C Unit} {ρ' : Env} {fw fh : List D → Option D}, wS b (some (.sh G.d) :: some (.sh (.tup (.str w :: r))) :: none :: ρ') () Q → wS (sSeq (sIf (Fw.tAnd (tE (e2 dEq (e2 dIx (eV 1) (eC (.int 0))) (eC (.str "heights")))) (Fw.tAnd (tE (e2 dEq (Fw.e1 dLen (eV 1)) (eC (.int 2)))) (tE (eCallP fw (aCons (e2 dIx (eV 1) (eC (.int 1))) (aCons (e2 dIx (eV 0) (eC (.int 0))) aNil))))))
              (sRet (eCallP fh (aCons (eV 0) (aCons (e2 dIx (eV 1) (eC (.int 1))) aNil))))
              sNx) b) (some (.sh G.d) :: some (.sh (.tup (.str w :: r))) :: none :: ρ') () Q := fun {Q b ρ' fw fh} q => by
            rw [w_sSeq, w_sIf, w_tAnd, w_tE]
            simp only [↓w_e1, ↓w_e2, ↓w_eC, ↓Fw.v0, ↓Fw.v1]
            rw [i0, wD_some, ow _ (by decide +kernel), nh, wD_some, isB_bl, if_neg Bool.false_ne_true, if_neg Bool.false_ne_true, w_sNx]
            exact q
          by_cases w2 : w = "ring"
          · subst w2
            have nr : (("ring" : Str) == "ring") = true := by decide +kernel
            by_cases hl : r.length = 2
            · match r, hl with
              | [x, u], _ =>
                have okx : vok x = true ∧ vok u = true := by
                  have := ok0.2
                  simp only [voks, Bool.and_true, Bool.and_eq_true] at this
                  exact this
                have i1 : dIx (.tup [.str "ring", x, u]) (.int 1) = some x := rfl
                have i2 : dIx (.tup [.str "ring", x, u]) (.int 2) = some u := rfl
                by_cases hx : rngB G.n x = true
                · obtain ⟨k, rfl, hk⟩ : ∃ k : Nat, x = .int k ∧ k < G.n := by
                    cases x with
                    | int i =>
                      simp only [rngB, Bool.and_eq_true, decide_eq_true_eq] at hx
                      exact ⟨i.toNat, by rw [Int.toNat_of_nonneg hx.1], by omega⟩
                    | _ => cases hx
                  -- the crossing stands
                  have go3 : ∀ {Q : Ctl → Env → Unit → Prop} {b : C Unit} {ρ' : Env} {fn : List D → Option D}, (∀ d : D, nob d = true → fn [d] = some (.bl (isN d))) → wS b (some (.sh G.d) :: some (.sh (.tup [.str "ring", .int k, u])) :: none :: ρ') () Q → wS (sSeq (sIf (Fw.tOr (tE (e2 dNe (e2 dIx (eV 1) (eC (.int 0))) (eC (.str "ring")))) (Fw.tOr (tE (e2 dNe (Fw.e1 dLen (eV 1)) (eC (.int 3)))) (Fw.tOr (Fw.tNot (tE (eCallP fn (aCons (e2 dIx (eV 1) (eC (.int 1))) aNil)))) (Fw.tNot (tE (eChain dLe dLt (eC (.int 0)) (e2 dIx (eV 1) (eC (.int 1))) (e2 dIx (eV 0) (eC (.int 0)))))))))
                      (sRet (eTup (aCons (eC (.str "form")) aNil)))
                      sNx) b) (some (.sh G.d) :: some (.sh (.tup [.str "ring", .int k, u])) :: none :: ρ') () Q := fun {Q b ρ' fn} Jn q => by
                    rw [w_sSeq, w_sIf, w_tOr, w_tE]
                    simp only [↓w_e1, ↓w_e2, ↓w_eC, ↓Fw.v0, ↓Fw.v1]
                    rw [i0, wD_some, onw _ (by decide +kernel), nr, wD_some, isB_bl, Bool.not_true, if_neg Bool.false_ne_true, w_tOr, w_tE]
                    simp only [↓w_e1, ↓w_e2, ↓w_eC, ↓Fw.v0, ↓Fw.v1]
                    rw [lenv, wD_some, o_neI, wD_some, isB_bl, if_neg (by simp), w_tOr, w_tNot, w_tE]
                    simp only [↓w_eCallP, ↓w_aCons, ↓w_aNil, ↓w_e1, ↓w_e2, ↓w_eC, ↓Fw.v0, ↓Fw.v1]
                    rw [i1, wD_some, Jn _ rfl, show isN (.int (k : Int)) = true from rfl, wD_some, isB_bl, Bool.not_true, if_neg Bool.false_ne_true, w_tNot, w_tE, w_eChain]
                    simp only [↓w_e1, ↓w_e2, ↓w_eC, ↓Fw.v0, ↓Fw.v1]
                    rw [i1, wD_some, show dLe (.int 0) (.int (k : Int)) = some (.bl (decide (0 ≤ (k : Int)))) from rfl, wD_some, isB_bl, if_pos (by simp), e0, wD_some, show dLt (.int (k : Int)) (.int (G.n : Int)) = some (.bl (decide ((k : Int) < G.n))) from rfl, wD_some, isB_bl, if_neg (by simp; omega), w_sNx]
                    exact q
                  by_cases he : endsP G.roads.length u = true ∧ u ≠ .tup []
                  · obtain ⟨he, hne⟩ := he
                    obtain ⟨es, rfl, hle⟩ : ∃ es : List Nat, u = .tup (nats es) ∧ ∀ e ∈ es, e < 2 * G.roads.length := by
                      cases u with
                      | tup us =>
                        obtain ⟨ls, rfl, h⟩ := nats_rng he
                        exact ⟨ls, rfl, h⟩
                      | _ => cases he
                    have hes : es ≠ [] := fun h => hne (by rw [h]; rfl)
                    have hlen : es.length ≤ 100000 := by
                      have h1 := hv.2.1
                      have h2 : sz (.tup [.str "ring", .int (k : Int), .tup (nats es)]) = (50 + 2 + (50 + 2 + (szs (nats es) + 3 + 2 + 0))) + 3 := rfl
                      rw [h2, szs_nats] at h1
                      omega
                    obtain ⟨f1, f2, f3⟩ := wf_val hG hk hle hlen
                    have hb := both_pf hG.sh (v := .tup [.str "ring", .int k, .tup (nats es)]) (r := orD (wfD G k es) (costD G es)) fun fw fh fn fe ff tl ρ' J => by
                      unfold jB
                      refine hs rfl (go (go3 J.n ?_))
                      rw [w_sSeq, w_sIf, w_tOr, w_tNot, w_tE]
                      simp only [↓w_eCallP, ↓w_aCons, ↓w_aNil, ↓w_e1, ↓w_e2, ↓w_eC, ↓Fw.v0, ↓Fw.v1]
                      rw [i2, wD_some, J.e _ (nob_of okx.2), he, wD_some, isB_bl, Bool.not_true, if_neg Bool.false_ne_true, w_tE]
                      simp only [↓w_eCallP, ↓w_aCons, ↓w_aNil, ↓w_e1, ↓w_e2, ↓w_eC, ↓w_eTup0, ↓Fw.v0, ↓Fw.v1]
                      rw [i2, wD_some, show dEq0 (.tup (nats es)) (.tup []) = some (.bl ((nats es).length == 0)) from rfl, wD_some, isB_bl, if_neg (by
                        cases es with
                        | nil => exact absurd rfl hes
                        | cons _ _ => simp [nats]), w_sNx]
                      show wS (sSeq _ _) _ _ _
                      rw [w_sSeq, w_sAsg]
                      simp only [↓w_eCallP, ↓w_aCons, ↓w_aNil, ↓w_e1, ↓w_e2, ↓w_eC, ↓Fw.v0, ↓Fw.v1]
                      rw [i1, wD_some, i2, wD_some, J.f _ _ hle, wD_some]
                      show wS _ (some (.sh G.d) :: some (.sh (.tup [.str "ring", .int k, .tup (nats es)])) :: some (.sh (wfD G k es)) :: ρ') () _
                      rw [w_sSeq, w_sIf, w_tE]
                      simp only [↓w_e1, ↓Fw.v2]
                      by_cases hf : wfD G k es = .non
                      · rw [hf, show orD .non (costD G es) = costD G es from rfl, show dNotN .non = some (.bl false) from rfl, wD_some, isB_bl, if_neg Bool.false_ne_true, w_sNx]
                        exact J.t _ _ hle
                      · rw [orD_ne hf, show dNotN (wfD G k es) = some (.bl true) from by
                          cases e : wfD G k es with
                          | non => exact absurd e hf
                          | _ => rfl, wD_some, isB_bl, if_pos (by trivial), w_sRet]
                        simp only [↓Fw.v2]
                    refine ⟨_, hb.1, hb.2, ?_, ?_⟩
                    · by_cases hf : wfD G k es = .non
                      · rw [hf]; exact f2
                      · rw [orD_ne hf]; exact f1
                    constructor
                    · intro h
                      by_cases hf : wfD G k es = .non
                      · rw [hf] at h
                        have hw := f3.mp hf
                        have h : costD G es = .non := h
                        unfold costD at h
                        split at h
                        · cases h
                        · exact .inr ⟨k, es, rfl, hk, hes, hw, by omega⟩
                      · rw [orD_ne hf] at h
                        exact absurd h hf
                    · rintro (⟨hs, e, _⟩ | ⟨x, es', e, h1, h2, h3, h4⟩)
                      · cases e
                      · simp only [D.tup.injEq, List.cons.injEq, D.int.injEq, Int.natCast_inj, true_and, and_true] at e
                        obtain ⟨e1, e2⟩ := e
                        have e2 := map_nats_inj e2
                        subst e1 e2
                        rw [f3.mpr h3]
                        show costD G es = .non
                        unfold costD
                        rw [if_neg (by omega)]
                  · refine form (fun h => ?_) fun fw fh fn fe ff tl ρ' J => ?_
                    · rcases h with ⟨hs, e, h⟩ | ⟨x, es, e, h1, h2, h3, h4⟩
                      · cases e
                      · simp only [D.tup.injEq, List.cons.injEq, D.int.injEq, Int.natCast_inj, true_and, and_true] at e
                        obtain ⟨e1, e2⟩ := e
                        subst e2
                        refine he ⟨rng_nats (b := 2 * G.roads.length) h3.lt, fun h => h2 ?_⟩
                        simp only [D.tup.injEq] at h
                        exact List.map_eq_nil_iff.mp h
                    · unfold jB
                      refine hs rfl (go (go3 J.n ?_))
                      rw [w_sSeq, w_sIf, w_tOr, w_tNot, w_tE]
                      simp only [↓w_eCallP, ↓w_aCons, ↓w_aNil, ↓w_e1, ↓w_e2, ↓w_eC, ↓Fw.v0, ↓Fw.v1]
                      rw [i2, wD_some, J.e _ (nob_of okx.2), wD_some, isB_bl]
                      by_cases h1 : endsP G.roads.length u = true
                      · rw [h1, Bool.not_true, if_neg Bool.false_ne_true, w_tE]
                        simp only [↓w_eCallP, ↓w_aCons, ↓w_aNil, ↓w_e1, ↓w_e2, ↓w_eC, ↓w_eTup0, ↓Fw.v0, ↓Fw.v1]
                        have : u = .tup [] := Classical.byContradiction fun h => he ⟨h1, h⟩
                        subst this
                        rw [i2, wD_some, show dEq0 (.tup []) (.tup []) = some (.bl true) from rfl, wD_some, isB_bl, if_pos (by trivial), w_sRet, w_eTup1, w_eC]
                        rfl
                      · rw [show endsP G.roads.length u = false from by simpa using h1, Bool.not_false, if_pos (by trivial), if_pos (by trivial), w_sRet, w_eTup1, w_eC]
                        rfl
                · refine form (fun h => ?_) fun fw fh fn fe ff tl ρ' J => ?_
                  · rcases h with ⟨hs, e, h⟩ | ⟨y, es, e, h1, h2, h3, h4⟩
                    · cases e
                    · simp only [D.tup.injEq, List.cons.injEq, true_and, and_true] at e
                      obtain ⟨e1, e2⟩ := e
                      subst e1
                      exact hx (by simp only [rngB, Bool.and_eq_true, decide_eq_true_eq]; omega)
                  · unfold jB
                    refine hs rfl (go ?_)
                    rw [w_sSeq, w_sIf, w_tOr, w_tE]
                    simp only [↓w_e1, ↓w_e2, ↓w_eC, ↓Fw.v0, ↓Fw.v1]
                    rw [i0, wD_some, onw _ (by decide +kernel), nr, wD_some, isB_bl, Bool.not_true, if_neg Bool.false_ne_true, w_tOr, w_tE]
                    simp only [↓w_e1, ↓w_e2, ↓w_eC, ↓Fw.v0, ↓Fw.v1]
                    rw [lenv, wD_some, o_neI, wD_some, isB_bl, if_neg (by simp), w_tOr, w_tNot, w_tE]
                    simp only [↓w_eCallP, ↓w_aCons, ↓w_aNil, ↓w_e1, ↓w_e2, ↓w_eC, ↓Fw.v0, ↓Fw.v1]
                    rw [i1, wD_some, J.n _ (nob_of okx.1), wD_some, isB_bl]
                    by_cases hN : isN x = true
                    · obtain ⟨i, rfl⟩ : ∃ i, x = .int i := by
                        cases x with
                        | int i => exact ⟨i, rfl⟩
                        | _ => cases hN
                      rw [hN, Bool.not_true, if_neg Bool.false_ne_true, w_tNot, w_tE, w_eChain]
                      simp only [↓w_e1, ↓w_e2, ↓w_eC, ↓Fw.v0, ↓Fw.v1]
                      rw [i1, wD_some, show dLe (.int 0) (.int i) = some (.bl (decide (0 ≤ i))) from rfl, wD_some, isB_bl]
                      by_cases h0 : 0 ≤ i
                      · rw [if_pos (by simpa using h0), e0, wD_some, show dLt (.int i) (.int (G.n : Int)) = some (.bl (decide (i < G.n))) from rfl, wD_some, isB_bl]
                        have : ¬ i < (G.n : Int) := fun h => hx (by simp only [rngB, Bool.and_eq_true, decide_eq_true_eq]; exact ⟨h0, h⟩)
                        rw [decide_eq_false this, Bool.not_false, if_pos (by trivial), w_sRet, w_eTup1, w_eC]
                        rfl
                      · rw [if_neg (by simpa using h0), isB_bl, Bool.not_false, if_pos (by trivial), w_sRet, w_eTup1, w_eC]
                        rfl
                    · rw [show isN x = false from by simpa using hN, Bool.not_false, if_pos (by trivial), if_pos (by trivial), w_sRet, w_eTup1, w_eC]
                      rfl
            · refine form (fun h => ?_) fun fw fh fn fe ff tl ρ' J => ?_
              · rcases h with ⟨hs, e, h⟩ | ⟨x, es, e, _⟩
                · cases e
                · simp only [D.tup.injEq, List.cons.injEq, true_and] at e
                  exact hl (by rw [e]; rfl)
              · unfold jB
                refine hs rfl (go ?_)
                rw [w_sSeq, w_sIf, w_tOr, w_tE]
                simp only [↓w_e1, ↓w_e2, ↓w_eC, ↓Fw.v0, ↓Fw.v1]
                rw [i0, wD_some, onw _ (by decide +kernel), nr, wD_some, isB_bl, Bool.not_true, if_neg Bool.false_ne_true, w_tOr, w_tE]
                simp only [↓w_e1, ↓w_e2, ↓w_eC, ↓Fw.v0, ↓Fw.v1]
                rw [lenv, wD_some, o_neI, wD_some, isB_bl, if_pos (by simp only [Bool.not_eq_true', decide_eq_false_iff_not]; omega), if_pos (by trivial), w_sRet, w_eTup1, w_eC]
                rfl
          · have nr : (w == "ring") = false := by simpa using w2
            refine form (fun h => ?_) fun fw fh fn fe ff tl ρ' J => ?_
            · rcases h with ⟨hs, e, h⟩ | ⟨x, es, e, _⟩
              · simp only [D.tup.injEq, List.cons.injEq, D.str.injEq] at e
                exact w1 e.1
              · simp only [D.tup.injEq, List.cons.injEq, D.str.injEq] at e
                exact w2 e.1
            · unfold jB
              refine hs rfl (go ?_)
              rw [w_sSeq, w_sIf, w_tOr, w_tE]
              simp only [↓w_e1, ↓w_e2, ↓w_eC, ↓Fw.v0, ↓Fw.v1]
              rw [i0, wD_some, onw _ (by decide +kernel), nr, wD_some, isB_bl, Bool.not_false, if_pos (by trivial), if_pos (by trivial), w_sRet, w_eTup1, w_eC]
              rfl
      · refine form (fun h => ?_) fun fw fh fn fe ff tl ρ' J => ?_
        · rcases h with ⟨hs, e, _⟩ | ⟨x, es, e, _⟩
          · simp only [D.tup.injEq, List.cons.injEq] at e
            exact hstr ⟨_, e.1⟩
          · simp only [D.tup.injEq, List.cons.injEq] at e
            exact hstr ⟨_, e.1⟩
        · unfold jB
          exact hd (fun x h => hstr ⟨x, h⟩) rfl
  | _ => exact nt rfl fun ds h => by cases h
end Fw
/-! ## K2j -/
set_option linter.all false
set_option maxRecDepth 100000
set_option maxHeartbeats 1000000
/-! The told paper: right, of the due sort, the one. -/
namespace Fw
open PySem PySem.Spec PyProof.Rows L2
theorem roadOk_cost {G : Fr} {hs : List Int} {r : Nat} : roadOk G hs r ↔ hs.getD (G.to (2 * r)) 0 ≤ hs.getD (G.fr (2 * r)) 0 + G.cost (2 * r) ∧ hs.getD (G.to (2 * r + 1)) 0 ≤ hs.getD (G.fr (2 * r + 1)) 0 + G.cost (2 * r + 1) := by
  have a1 : (2 * r) % 2 = 0 := by omega
  have a2 : (2 * r + 1) % 2 = 1 := by omega
  have a3 : (2 * r) / 2 = r := by omega
  have a4 : (2 * r + 1) / 2 = r := by omega
  unfold roadOk Fr.to Fr.fr Fr.cost
  simp only [a1, a2, a3, a4, if_true, Nat.one_ne_zero, if_false]
  omega
theorem pot_iff {G : Fr} {hs : List Int} : (∀ r, r < G.roads.length → roadOk G hs r) ↔ Pot G fun x => hs.getD x 0 := by
  constructor
  · intro h e he
    have he : e < 2 * G.roads.length := he
    have := roadOk_cost.mp (h (e / 2) (by omega))
    rcases par_01 e with hp | hp
    · have e2 : 2 * (e / 2) = e := by omega
      rw [e2] at this
      exact this.1
    · have e2 : 2 * (e / 2) + 1 = e := by omega
      rw [e2] at this
      exact this.2
  · intro h r hr
    refine roadOk_cost.mpr ⟨h (2 * r) ?_, h (2 * r + 1) ?_⟩
    · show 2 * r < 2 * G.roads.length
      omega
    · show 2 * r + 1 < 2 * G.roads.length
      omega
theorem rowG_at {G : Fr} {x v : Nat} (hv : v < G.n) : (rowG G x).getD v 0 = gt (fwT G) x v := by
  unfold rowG
  rw [List.getD_eq_getElem?_getD, List.getElem?_map, List.getElem?_range hv]
  rfl
theorem rowG_len (G : Fr) (x : Nat) : (rowG G x).length = G.n := by unfold rowG; rw [List.length_map, List.length_range]
theorem rowG_eq {G : Fr} (F : FwG G) {x : Nat} (hx : x < G.n) : (fwT G).getD x [] = rowG G x := by
  refine List.ext_getElem? fun i => ?_
  have hl := F.shp.row hx
  by_cases hi : i < G.n
  · have h1 : ((fwT G).getD x [])[i]? = some (gt (fwT G) x i) := by
      unfold gt
      rw [List.getElem?_eq_getElem (by rw [hl]; exact hi)]
      congr 1
      generalize (fwT G).getD x [] = row at hl ⊢
      rw [List.getD_eq_getElem?_getD, List.getElem?_eq_getElem (by rw [hl]; exact hi)]
      rfl
    rw [h1]
    unfold rowG
    rw [List.getElem?_map, List.getElem?_range hi]
    rfl
  · rw [List.getElem?_eq_none (by omega), List.getElem?_eq_none (by rw [rowG_len]; omega)]
theorem fw_ge {G : Fr} (h : fwOk G = true) {x : Nat} (hx : x < G.n) : 0 ≤ gt (fwT G) x x := by
  unfold fwOk at h
  have := List.all_eq_true.mp h x (List.mem_range.mpr hx)
  exact of_decide_eq_true this
theorem row_hs {G : Fr} (hG : G.Ok) (hok : fwOk G = true) : HsR G (rowG G 0) := by
  have F := fwG_of hG hok
  refine ⟨rowG_len G 0, ?_, ?_⟩
  · rw [rowG_at hG.n1]
    have h1 := fw_diag hG.sh hG.n1
    have h2 := fw_ge hok hG.n1
    omega
  · refine pot_iff.mpr fun e he => ?_
    obtain ⟨h1, h2⟩ := fr_to_lt hG.sh he
    show (rowG G 0).getD (G.to e) 0 ≤ (rowG G 0).getD (G.fr e) 0 + G.cost e
    rw [rowG_at h1, rowG_at h2]
    exact F.pot hG hG.n1 e he
theorem row_bnd {G : Fr} (hG : G.Ok) (hok : fwOk G = true) {x : Nat} (hx : x < G.n) : ∀ z ∈ rowG G x, -1000000000 ≤ z ∧ z ≤ 1000000000 := fun z hz => by
  obtain ⟨v, hv, rfl⟩ := List.mem_map.mp hz
  exact (fwG_of hG hok).bnd x v hx (List.mem_range.mp hv)
/-! ### values that are bent -/
/-- a value that may be bent and shown -/
structure SV (v : D) : Prop where
  b : bkt 2 v
  s : sz v ≤ 100000
  d : dpt v ≤ 20
theorem SV.val {v : D} (h : SV v) : Val v := ⟨bkt_vok h.b, by have := h.s; omega, by have := h.d; omega⟩
theorem SV.br {v d : D} (h : SV v) (k : BR v d) : Val d := k.val (by have := h.s; omega) (by have := h.d; omega)
theorem leaf_int {i : Int} (h : -99999999999 ≤ i ∧ i ≤ 99999999999) : leaf (.int i) := ⟨(vb_int (by omega)).1, fun ds e => (by cases e), fun j e => by cases e; exact h⟩
theorem leaf_str {w : Str} (h : vok (.str w) = true) : leaf (.str w) := ⟨h, fun ds e => (by cases e), fun j e => by cases e⟩
theorem b1_ints {l : List Int} (hl : l.length ≤ 100) (h : ∀ x ∈ l, -99999999999 ≤ x ∧ x ≤ 99999999999) : bkt 1 (.tup (l.map .int)) := .inr ⟨_, rfl, by rw [List.length_map]; exact hl, fun x hx => by
  obtain ⟨i, hi, rfl⟩ := List.mem_map.mp hx
  exact leaf_int (h i hi)⟩
theorem szs_ints : ∀ l : List Int, szs (l.map .int) = 52 * l.length
  | [] => rfl
  | x :: r => by
    show 50 + 2 + szs (r.map .int) = _
    rw [szs_ints r, List.length_cons]
    omega
theorem dpts_ints : ∀ l : List Int, dpts (l.map .int) = 0
  | [] => rfl
  | x :: r => by
    show max 0 (dpts (r.map .int)) = 0
    rw [dpts_ints r]
    rfl
theorem sv_hs {w : Str} (hw : vok (.str w) = true) {l : List Int} (hl : l.length ≤ 100) (h : ∀ x ∈ l, -99999999999 ≤ x ∧ x ≤ 99999999999) : SV (.tup [.str w, .tup (l.map .int)]) := by
  refine ⟨.inr ⟨_, rfl, (Nat.le_of_lt_succ (by show 2 < 101; decide)), fun x hx => ?_⟩, ?_, ?_⟩
  · simp only [List.mem_cons, List.not_mem_nil, or_false] at hx
    rcases hx with rfl | rfl
    · exact .inl (leaf_str hw)
    · exact b1_ints hl h
  · show (50 + 2 + (szs (l.map .int) + 3 + 2 + 0)) + 3 ≤ _
    rw [szs_ints]
    omega
  · show max 0 (max (dpts (l.map .int) + 1) 0) + 1 ≤ _
    rw [dpts_ints]
    decide
theorem sv_ring {w : Str} (hw : vok (.str w) = true) {x : D} (hx : leaf x) (hx2 : sz x ≤ 200) (hx3 : dpt x ≤ 5) {l : List Int} (hl : l.length ≤ 100) (h : ∀ x ∈ l, -99999999999 ≤ x ∧ x ≤ 99999999999) : SV (.tup [.str w, x, .tup (l.map .int)]) := by
  refine ⟨.inr ⟨_, rfl, (Nat.le_of_lt_succ (by show 3 < 101; decide)), fun y hy => ?_⟩, ?_, ?_⟩
  · simp only [List.mem_cons, List.not_mem_nil, or_false] at hy
    rcases hy with rfl | rfl | rfl
    · exact .inl (leaf_str hw)
    · exact .inl hx
    · exact b1_ints hl h
  · show (50 + 2 + (sz x + 2 + (szs (l.map .int) + 3 + 2 + 0))) + 3 ≤ _
    rw [szs_ints]
    omega
  · show max 0 (max (dpt x) (max (dpts (l.map .int) + 1) 0)) + 1 ≤ _
    rw [dpts_ints]
    omega
theorem nats_ints (l : List Nat) : nats l = (l.map fun (x : Nat) => (x : Int)).map D.int := by
  unfold nats
  rw [List.map_map]
  rfl
/-! ### the told paper -/
structure Told (G : Fr) (W : Str) (rest : List D) : Prop where
  ev : m_height_paper [G.d] = some (.tup (.str W :: rest))
  sv : SV (.tup (.str W :: rest))
  good : GoodP G (.tup (.str W :: rest))
  all : ∀ v, GoodP G v → ∃ r, v = .tup (.str W :: r)
  ok : PyData.strOk W = true
  t : (fwOk G = false ∧ W = "ring") ∨ (fwOk G = true ∧ W = "heights" ∧ rest = [.tup ((rowG G 0).map .int)])
theorem told_ev {G : Fr} (hG : G.Ok) (hc : ∀ v, v < G.n → Conn G.roads 0 v) : ∃ W rest, Told G W rest := by
  have hm := hG.m
  have hn := hG.n2
  rcases ev_paper hG hc rfl with ⟨h0, x, es, e, h1, h2, h3, h4, h5⟩ | ⟨h0, e⟩
  · have hlt := h4.lt
    refine ⟨_, _, e, ?_, .inr ⟨x, es, rfl, h1, h2, h4, h5⟩, fun v hv => ?_, by decide +kernel, .inl ⟨h0, rfl⟩⟩
    · rw [nats_ints]
      refine sv_ring (by decide +kernel) (leaf_int (by omega)) (Nat.le_of_lt (by show 50 < _; decide)) (Nat.zero_le _) (by rw [List.length_map]; omega) fun z hz => ?_
      obtain ⟨k, hk, rfl⟩ := List.mem_map.mp hz
      have := hlt k hk
      omega
    · rcases hv with ⟨hs, rfl, hh⟩ | ⟨y, es, rfl, _⟩
      · have := Pot.ok hG hc (pot_iff.mp hh.2.2)
        rw [h0] at this
        cases this
      · exact ⟨_, rfl⟩
  · refine ⟨_, _, e, ?_, .inl ⟨_, rfl, row_hs hG h0⟩, fun v hv => ?_, by decide +kernel, .inr ⟨h0, rfl, rfl⟩⟩
    · exact sv_hs (by decide +kernel) (by rw [rowG_len]; omega) fun z hz => by
        have := row_bnd hG h0 hG.n1 z hz
        omega
    · rcases hv with ⟨hs, rfl, hh⟩ | ⟨y, es, rfl, g1, g2, g3, g4⟩
      · exact ⟨_, rfl⟩
      · have := ring_no hG (fwG_of hG h0) g1 g3
        omega
end Fw
/-! ## LawTop -/
set_option Elab.async false
set_option linter.all false
set_option maxRecDepth 100000
set_option maxHeartbeats 4000000
namespace Fw
open PySem PySem.Spec PyProof.Rows L2
section
variable {P : Program} {w : World} {K : PySem.W.Frag} {mg : Str → Option Value} {base : Heap}
/-- the law's promise: True, whatever the script -/
def spLaw (K : PySem.W.Frag) : Sp := fun vs H Q _ => ∃ (a : Addr) (ns : List Int), vs = [.ref a] ∧ SqL K H a (ns.map V.int) ∧ ns.length ≤ 63 ∧ ∀ H', Q (.bl true) H'
def lawEnv (n : Nat) (a : Addr) : Env := none :: some (Sl.sh (.obj a)) :: List.replicate n none
theorem fn_law {mb : C Src} {qual : Str} {st : Stmt} {f : Addr} {fd : FuncData} {N : List Str} {k n : Nat} (F : Fun K "law" qual st f fd) (S : FnScope N ["script"] (defScope st)) (hN : N.length = n + 2)
    (hbody : ∀ (cdv : Value) (A : Around) (outer : List PySem.Env) (s : Shared) (H : Hp) (E : XK), RoomG k (A.deeper (envOfC qual (defScope st) s.heap.objs.size f cdv)) →
      ∃ t, PSs (cxOf CX0 P w K mg base N qual (defScope st) f cdv A outer s H E).nox (defBody st) (tSeq (tAsg (tCall (spSource K) [] E0 (tCons (tVar 0) tNil)) (gName 1)) t) ∧ ∀ a c, SemS K (srcW a c) t mb)
    (hm : ∀ (a : Addr) (ns : List Int), ns.length ≤ 63 → ∃ ρ' s', mb (lawEnv n a) (src0 a ns) = some (.rt (.bl true), ρ', s')) :
    FnG P w K mg base CX0 (k + 1) f fd ["script"] (spLaw K) :=
  fun_okG F S (fun vs H Q E h => by obtain ⟨a, ns, rfl, _⟩ := h; rfl) fun cdv A outer s H vs Q E hr h => by
    obtain ⟨a, ns, rfl, hS, hl, q⟩ := h
    obtain ⟨t, hp, hs⟩ := hbody cdv A outer s H E hr
    refine ⟨_, hp, ?_⟩
    have h0 : (start N [V.ref a])[0]? = some (some (V.ref a)) := rfl
    refine ⟨_, h0, a, ns, rfl, hS, hl, fun H' p c same hp0 hc0 hpc e1 e2 => ?_⟩
    obtain ⟨ρ', s', hmb⟩ := hm p ns hl
    have hlen : (start N [V.ref a]).length = n + 2 := by
      unfold L2.start
      rw [List.length_append, List.length_map, List.length_replicate]
      show 1 + (N.length - 1) = n + 2
      omega
    refine hs p c (fun _ => none) (fun _ => none) _ H' (fun _ => none) _ _ ⟨(fun _ _ e => by cases e), (fun _ _ e => by cases e), (fun _ _ e => by cases e), (fun _ h => absurd rfl h), (fun _ _ => rfl), (fun _ _ => rfl),
      ⟨hpc, rfl, ?_, mixes_range ns, e1, e2⟩, ?_, fun i d e => ?_, fun i d e => ?_, fun i j d e a h => ?_⟩ _ hmb _ ?_
    · show ((ns.map absI).reverse).length ≤ 1000
      rw [List.length_reverse, List.length_map]
      omega
    · rw [List.length_set, hlen]
      simp [lawEnv]
    · match i with
      | 0 => simp [lawEnv] at e
      | 1 =>
        simp [lawEnv] at e
        subst e
        exact ⟨_, set_get_eq (by rw [hlen]; omega), .obj p⟩
      | i + 2 =>
        simp [lawEnv, List.getElem?_replicate] at e
    · match i with
      | 0 => simp [lawEnv] at e
      | 1 => simp [lawEnv] at e
      | i + 2 => simp [lawEnv, List.getElem?_replicate] at e
    · match i with
      | 0 => simp [lawEnv] at h
      | 1 => simp [lawEnv] at h
      | i + 2 => simp [lawEnv, List.getElem?_replicate] at h
    · intro v H2 F2 _ _ dv
      cases dv
      exact q H2
end
end Fw
/-! ## K2p -/
set_option linter.all false
set_option maxRecDepth 100000
set_option maxHeartbeats 1000000
namespace Fw
open PySem PySem.Spec PyProof.Rows L2
noncomputable section
def lb0 : C Src := (sAsg (eCall m_law_frame (aCons (eV 1) (aCons (e2 dIx (eLst (aCons (eC (.int 2)) (aCons (eC (.int 4)) (aCons (eC (.int 6)) (aCons (eC (.int 8)) (aCons (eC (.int 8)) aNil)))))) (eV 2)) (aCons (eCall m_law_of (aCons (eV 1) (aCons (eLst (aCons (eC (.int 2)) (aCons (eC (.int 4)) (aCons (eC (.int 300)) aNil)))) aNil))) aNil)))) (gN 3))
def lb1 : C Src := (sAsg (eTup (aCons (e2 dIx (eV 3) (eC (.int 0))) (aCons (e1 dRepr (eV 3)) (aCons (eCallP m_law_costs (aCons (eV 3) aNil)) (aCons (eCallP m_height_paper (aCons (eV 3) aNil)) aNil))))) (gTup (gCons (gN 4) (gCons (gN 5) (gCons (gN 6) (gCons (gN 7) gNil))))))
def lb2 : C Src := (sIf (Fw.tOr (tE (e2 dNe (e2 dIx (eV 7) (eC (.int 0))) (eIf (tE (e1 dIsN (eV 6))) (eC (.str "ring")) (eC (.str "heights"))))) (tE (e1 dNotN (eCallP m_law_paper_fault (aCons (eV 3) (aCons (eV 7) aNil)))))) (sRet (eC (.bl false))) sNx)
def lb3 : C Src := (sIf (Fw.tOr (Fw.tAnd (tE (e1 dNotN (eV 6))) (tE (e2 dNe (e1 dRepr (eV 7)) (e1 dRepr (eTup (aCons (eC (.str "heights")) (aCons (e1 dTuple (e2 dIx (eV 6) (eC (.int 0)))) aNil))))))) (tE (e2 dNe (e1 dRepr (eCallP m_height_paper (aCons (eV 3) aNil))) (e1 dRepr (eV 7))))) (sRet (eC (.bl false))) sNx)
def lb4 : C Src := (sAsg (eCall dPick (aCons (eV 1) (aCons (eV 4) aNil))) (gN 8))
def lb5 : C Src := (sAsg (eCall m_law_walk (aCons (eV 1) (aCons (eV 3) (aCons (eV 8) (aCons (eC (.int 7)) aNil))))) (gN 9))
def lb6 : C Src := (sAsg (e2 dAdd (eV 9) (e1 dTuple (eLc (iE (e1 dRev (eV 9))) (gN 16) Fw.tYes (e2 dSub (e2 dAdd (eV 16) (eC (.int 1))) (e2 dMul (eC (.int 2)) (e2 dMod (e1 dInt (eV 16)) (eC (.int 2))))) [16]))) (gN 10))
def lb7 : C Src := (sAsg (eLst (aCons (eV 7) (aCons (eTup (aCons (eC (.str "ring")) (aCons (eV 8) (aCons (eV 9) aNil)))) (aCons (eTup (aCons (eC (.str "ring")) (aCons (eV 8) (aCons (eV 10) aNil)))) (aCons (eTup (aCons (eC (.str "heights")) (aCons (e2 dMul (eTup (aCons (eC (.int 0)) aNil)) (eV 4)) aNil))) (aCons (eTup (aCons (eC (.str "heights")) (aCons (e1 dTuple (eLc (iR1 (eV 4)) (gN 17) Fw.tYes (e2 dSub (eCall dPick (aCons (eV 1) (aCons (eC (.int 5)) aNil))) (eC (.int 2))) [17])) aNil))) aNil)))))) (gN 11))
def lb8 : C Src := (sAsg (e2 dAdd (e2 dAdd (eV 11) (eLc (iR1 (eC (.int 6))) (gN 18) Fw.tYes (eCall (m_law_bent 12) (aCons (eV 1) (aCons (eV 7) aNil))) [18])) (eLc (iR1 (eC (.int 6))) (gN 18) Fw.tYes (eCall (m_law_bent 12) (aCons (eV 1) (aCons (eCall m_law_of (aCons (eV 1) (aCons (eV 11) aNil))) aNil))) [18])) (gN 12))
def lb9 : C Src := (sPar [14, 15] (qSh (e1 dRepr (eV 13)) (qSh (eCallP m_law_paper_fault (aCons (eV 3) (aCons (eV 13) aNil))) qNil)))
def lb10 : C Src := (sIf (Fw.tOr (tE (e2 dNe (e1 dRepr (eCallP m_judge_height_paper (aCons (eV 3) (aCons (eV 13) aNil)))) (e1 dRepr (eV 15)))) (tE (e2 dNe (e1 dRepr (eV 13)) (eV 14)))) (sRet (eC (.bl false))) sNx)
def lb11 : C Src := (sIf (Fw.tAnd (tE (e1 dIsN (eV 15))) (tE (e2 dNe (e2 dIx (eV 13) (eC (.int 0))) (e2 dIx (eV 7) (eC (.int 0)))))) (sRet (eC (.bl false))) sNx)
def lb12 : C Src := (sFor (iE (e2 dAdd (eV 12) (eLst (aCons (eTup (aCons (eC (.str "ring")) (aCons (eV 4) (aCons (eV 9) aNil)))) (aCons (eTup (aCons (eC (.str "ring")) (aCons (eV 8) (aCons (eTup aNil) aNil)))) (aCons (eTup (aCons (eC (.str "heights")) aNil)) (aCons (eC .non) (aCons (eTup aNil) (aCons (e1 dList (eV 7)) (aCons (e2 dIx (eV 7) (eC (.int 0))) (aCons (eTup (aCons (eC (.str "ring")) (aCons (eC (.bl true)) (aCons (eV 9) aNil)))) aNil))))))))))) (gN 13) (sSeq lb9 (sSeq lb10 lb11)) [0, 2, 4, 6, 8, 9, 10, 11, 12, 13, 14, 15, 17, 18])
def lb13 : C Src := (sIf (tE (e2 dNe (e1 dRepr (eV 3)) (eV 5))) (sRet (eC (.bl false))) sNx)
def lb14 : C Src := (sFor (iR1 (eC (.int 5))) (gN 2) (sSeq lb0 (sSeq lb1 (sSeq lb2 (sSeq lb3 (sSeq lb4 (sSeq lb5 (sSeq lb6 (sSeq lb7 (sSeq lb8 (sSeq lb12 lb13)))))))))) [0, 2, 3, 4, 5, 6, 7, 8, 9, 10, 11, 12, 13, 14, 15, 17, 18])
def lb15 : C Src := (sAsg (eTup (aCons (eC (.int 3)) (aCons (eTup (aCons (eTup (aCons (eC (.int 0)) (aCons (eC (.int 1)) aNil))) (aCons (eTup (aCons (eC (.int 1)) (aCons (eC (.int 2)) aNil))) (aCons (eTup (aCons (eC (.int 0)) (aCons (eC (.int 2)) aNil))) aNil)))) (aCons (eTup (aCons (eC (.int 0)) (aCons (eC (.int 0)) (aCons (eC (.int 5)) aNil)))) (aCons (eTup (aCons (eC (.int 2)) (aCons (eC (.int 2)) (aCons (eC (.int 5)) aNil)))) aNil))))) (gN 3))
theorem lb_eq : m_lawB = (sSeq lb14 (sSeq lb15 (sRet (e2 dEq (eLst (aCons (e2 dIx (eCallP m_height_paper (aCons (eV 3) aNil)) (eC (.int 0))) (aCons (eCallP m_judge_height_paper (aCons (eV 3) (aCons (eTup (aCons (eC (.str "ring")) (aCons (eC (.int 0)) (aCons (eTup (aCons (eC (.int 0)) (aCons (eC (.int 2)) (aCons (eC (.int 5)) aNil)))) aNil)))) aNil))) aNil))) (eLst (aCons (eC (.str "ring")) (aCons (eC .non) aNil))))))) := by
  unfold m_lawB
  unfold lb15 lb14 lb13 lb12 lb11 lb10 lb9 lb8 lb7 lb6 lb5 lb4 lb3 lb2 lb1 lb0
  rfl
end
end Fw
/-! ## EvL -/
set_option Elab.async false
set_option linter.all false
/-! Comprehensions and loops, ready made. -/
namespace Fw
section
variable {S : Type} {ρ : Env} {s : S}
theorem wI_mono {f : I S} {Q Q' : List D → Env → S → Prop} (h : wI f ρ s Q) (k : ∀ d ρ s, Q d ρ s → Q' d ρ s) : wI f ρ s Q' := by
  unfold wI at *
  cases e : f ρ s with
  | none => rw [e] at h; exact h
  | some t => rw [e] at h; exact k _ _ _ h
theorem wT_mono {f : T S} {Q Q' : Bool → Env → S → Prop} (h : wT f ρ s Q) (k : ∀ d ρ s, Q d ρ s → Q' d ρ s) : wT f ρ s Q' := by
  unfold wT at *
  cases e : f ρ s with
  | none => rw [e] at h; exact h
  | some t => rw [e] at h; exact k _ _ _ h
/-- drawn values: what stands of each -/
theorem w_lcA {it : I S} {tgt : Tg} {elt : E S} {own : List Nat} {Q : D → Env → S → Prop} {I : S → Prop} {R : D → Prop}
    (h : wI it ρ s fun ds ρ1 s1 => ρ1 = ρ ∧ I s1 ∧ own.all (notOw ρ) = true ∧
      (∀ d ∈ ds, ∀ s, I s → ∃ ρt, tgt d (wipeE own ρ) = some ρt ∧ wE elt ρt s fun y ρ3 s3 => R y ∧ I s3 ∧ backE ρ own ρ3 = ρ) ∧
      ∀ acc s', acc.length = ds.length → (∀ y ∈ acc, R y) → I s' → Q (.lst acc) ρ s') : wE (eLc it tgt tYes elt own) ρ s Q := by
  refine w_lc (I := I) (P := fun pre acc => acc.length = pre.length ∧ ∀ y ∈ acc, R y) (wI_mono h fun ds ρ1 s1 h => ?_)
  obtain ⟨h1, h2, h3, h4, h5⟩ := h
  refine ⟨h1, h2, h3, ⟨rfl, fun y h => by simp at h⟩, fun pre d post acc s e hp hi => ?_, fun acc s' hp hi => h5 acc s' hp.1 hp.2 hi⟩
  obtain ⟨ρt, e1, k⟩ := h4 d (by rw [e]; simp) s hi
  refine ⟨ρt, e1, ?_⟩
  rw [w_tYes, if_pos rfl]
  refine wE_mono k fun y ρ3 s3 hy => ⟨⟨by simp [hp.1], fun z hz => ?_⟩, hy.2.1, hy.2.2⟩
  rcases List.mem_append.mp hz with hz | hz
  · exact hp.2 z hz
  · rw [List.mem_singleton.mp hz]; exact hy.1
/-- reckoned values, some left out -/
theorem w_lcG {α : Type} {g : α → D} {l : List α} {p : α → Bool} {f : α → D} {it : I S} {tgt : Tg} {tt : T S} {elt : E S} {own : List Nat} {Q : D → Env → S → Prop}
    (h : wI it ρ s fun ds ρ1 s1 => ρ1 = ρ ∧ ds = l.map g ∧ own.all (notOw ρ) = true ∧
      (∀ x ∈ l, ∃ ρt, tgt (g x) (wipeE own ρ) = some ρt ∧ wT tt ρt s1 fun b ρ2 s2 => b = p x ∧ s2 = s1 ∧
        (p x = true → wE elt ρ2 s1 fun y ρ3 s3 => y = f x ∧ s3 = s1 ∧ backE ρ own ρ3 = ρ) ∧ (p x = false → backE ρ own ρ2 = ρ)) ∧
      Q (.lst ((l.filter p).map f)) ρ s1) : wE (eLc it tgt tt elt own) ρ s Q := by
  unfold wI at h
  cases e : it ρ s with
  | none => rw [e] at h; exact h.elim
  | some t =>
    obtain ⟨ds, ρ1, s1⟩ := t
    rw [e] at h
    obtain ⟨h1, h2, h3, h4, h5⟩ := h
    refine w_lc (I := fun s => s = s1) (P := fun pre acc => ∃ l1 l2, l = l1 ++ l2 ∧ pre = l1.map g ∧ acc = (l1.filter p).map f) ?_
    unfold wI
    rw [e]
    refine ⟨h1, rfl, h3, ⟨[], l, rfl, rfl, rfl⟩, fun pre d post acc s eq hp hi => ?_, fun acc s' hp hi => ?_⟩
    · obtain ⟨l1, l2, rfl, rfl, rfl⟩ := hp
      subst hi
      rw [h2, List.map_append] at eq
      have e := List.append_cancel_left eq
      cases l2 with
      | nil => cases e
      | cons x l2 =>
        simp only [List.map_cons, List.cons.injEq] at e
        obtain ⟨rfl, e⟩ := e
        obtain ⟨ρt, e1, k⟩ := h4 x (by simp)
        refine ⟨ρt, e1, wT_mono k fun b ρ2 s2 hb => ?_⟩
        obtain ⟨rfl, rfl, k1, k2⟩ := hb
        by_cases hp : p x = true
        · rw [hp, if_pos rfl]
          refine wE_mono (k1 hp) fun y ρ3 s3 hy => ⟨⟨l1 ++ [x], l2, by simp, by simp, ?_⟩, hy.2.1, hy.2.2⟩
          rw [List.filter_append, List.filter_cons, hp, if_pos rfl, hy.1, List.map_append]
          rfl
        · have hp : p x = false := by simpa using hp
          rw [hp, if_neg Bool.false_ne_true]
          refine ⟨⟨l1 ++ [x], l2, by simp, by simp, ?_⟩, rfl, k2 hp⟩
          rw [List.filter_append, List.filter_cons, hp, if_neg Bool.false_ne_true]
          simp
    · obtain ⟨l1, l2, hl, hd, rfl⟩ := hp
      subst hi
      have : l2 = [] := by
        have := congrArg List.length (h2.symm.trans hd)
        rw [hl] at this
        simp at this
        exact this
      subst this
      rw [List.append_nil] at hl
      subst hl
      exact h5
theorem filter_all {α : Type} (l : List α) : l.filter (fun _ => true) = l := by
  rw [List.filter_eq_self]; intro a _; rfl
/-- reckoned values, each -/
theorem w_lcH {α : Type} {g : α → D} {l : List α} {f : α → D} {it : I S} {tgt : Tg} {elt : E S} {own : List Nat} {Q : D → Env → S → Prop}
    (h : wI it ρ s fun ds ρ1 s1 => ρ1 = ρ ∧ ds = l.map g ∧ own.all (notOw ρ) = true ∧
      (∀ x ∈ l, ∃ ρt, tgt (g x) (wipeE own ρ) = some ρt ∧ wE elt ρt s1 fun y ρ3 s3 => y = f x ∧ s3 = s1 ∧ backE ρ own ρ3 = ρ) ∧
      Q (.lst (l.map f)) ρ s1) : wE (eLc it tgt tYes elt own) ρ s Q := by
  refine w_lcG (p := fun _ => true) (g := g) (l := l) (f := f) (wI_mono h fun ds ρ1 s1 h => ?_)
  obtain ⟨h1, h2, h3, h4, h5⟩ := h
  refine ⟨h1, h2, h3, fun x hx => ?_, by rw [filter_all]; exact h5⟩
  obtain ⟨ρt, e, k⟩ := h4 x hx
  refine ⟨ρt, e, ?_⟩
  rw [w_tYes]
  exact ⟨rfl, rfl, fun _ => k, fun h => by cases h⟩
/-- a loop that looks for something: it ends where p finds it -/
theorem w_forG {α : Type} {g : α → D} {l : List α} {p : α → Option D} {it : I S} {tgt : Tg} {body : C S} {dead : List Nat} {ρ0 : Env} {s1 : S} {Q : Ctl → Env → S → Prop}
    (h : wI it ρ s fun ds ρ1 s1' => s1' = s1 ∧ wipeE dead ρ1 = ρ0 ∧ ds = l.map g)
    (hb : ∀ x ∈ l, ∃ ρt, tgt (g x) ρ0 = some ρt ∧ wS body ρt s1 fun c ρ s => s = s1 ∧ match p x with
      | some r => c = .rt r
      | none => (c = .nx ∨ c = .ct) ∧ wipeE dead ρ = ρ0)
    (q1 : ∀ r ρ, l.findSome? p = some r → Q (.rt r) ρ s1) (q2 : l.findSome? p = none → Q .nx ρ0 s1) : wS (sFor it tgt body dead) ρ s Q := by
  refine w_sFor (wI_mono h fun ds ρ1 s1' h => ?_)
  obtain ⟨rfl, h2, rfl⟩ := h
  refine ⟨fun k ρ s => ρ = ρ0 ∧ s = s1' ∧ (l.take k).findSome? p = none, ⟨h2, rfl, rfl⟩, ?_, ?_⟩
  · rintro k d ρ s hd ⟨rfl, rfl, hk⟩
    rw [List.getElem?_map] at hd
    cases hx : l[k]? with
    | none => rw [hx] at hd; cases hd
    | some x =>
      rw [hx] at hd
      cases hd
      obtain ⟨ρt, e, k1⟩ := hb x (List.mem_of_getElem? hx)
      have hkl := (List.getElem?_eq_some_iff.mp hx).1
      have hsp : l.take (k + 1) = l.take k ++ [x] := by
        rw [List.take_add_one, hx]
        rfl
      refine ⟨ρt, e, wS_mono k1 fun c ρ s hc => ?_⟩
      obtain ⟨rfl, hc⟩ := hc
      cases hp : p x with
      | some r =>
        rw [hp] at hc
        have hc : c = .rt r := hc
        subst hc
        refine q1 r ρ ?_
        have e2 : l = l.take k ++ x :: l.drop (k + 1) := by
          have h1 : l.drop k = x :: l.drop (k + 1) := by
            rw [List.drop_eq_getElem_cons hkl]
            congr 1
            have := (List.getElem?_eq_some_iff.mp hx).2
            exact this
          rw [← h1, List.take_append_drop]
        rw [e2, List.findSome?_append, hk]
        simp [hp]
      | none =>
        rw [hp] at hc
        obtain ⟨hc, hr⟩ := hc
        have : (l.take (k + 1)).findSome? p = none := by rw [hsp, List.findSome?_append, hk]; simp [hp]
        rcases hc with rfl | rfl
        · exact ⟨hr, rfl, this⟩
        · exact ⟨hr, rfl, this⟩
  · rintro ρ s ⟨rfl, rfl, hk⟩
    refine q2 ?_
    rw [List.length_map, List.take_length] at hk
    exact hk
end
end Fw
/-! ## K2k -/
set_option linter.all false
set_option maxRecDepth 100000
set_option maxHeartbeats 1000000
/-! The law's body. -/
namespace Fw
open PySem PySem.Spec PyProof.Rows L2
theorem o_neSS {x : Str} (h : PyData.strOk x = true) : dNe (.str x) (.str x) = some (.bl false) := by
  simp only [dNe, D.eqOk, D.eqv]; simp
  exact ⟨⟨rfl, by simp [D.py, SeqAt.shaped]; exact ⟨by simp [PyData.canLay0, h], by simp [PyData.depth]⟩⟩, by simp [D.py, PyData.eqv]⟩
theorem o_zeros {n : Nat} (hn : n ≤ 1000) : dMul (.tup [.int 0]) (.int (n : Int)) = some (.tup ((List.replicate n 0).map .int)) := by
  show (if -1000 ≤ (n : Int) ∧ (n : Int) ≤ 1000 ∧ 1 ≤ 1000 then some (D.tup (List.replicate (n : Int).toNat [D.int 0]).flatten) else none) = _
  rw [if_pos (by omega), Int.toNat_natCast]
  congr 2
  induction n with
  | zero => rfl
  | succ n ih => rw [List.replicate_succ, List.replicate_succ, List.flatten_cons, List.map_cons, ih (by omega)]; rfl
def F19 (a : Addr) (lap f n kept t told x way back some' vals v sh fl : Option Sl) : Env := [none, some (.sh (.obj a)), lap, f, n, kept, t, told, x, way, back, some', vals, v, sh, fl, none, none, none]
theorem lb0_ev {a : Addr} {k : Nat} (hk : k < 5) {s : Src} (h0 : s.addr = a) {Q : Ctl → Env → Src → Prop}
    (q : ∀ (G : Fr) s, s.addr = a → G.Ok → (∀ x, x < G.n → Conn G.roads 0 x) → Q .nx (F19 a (some (.sh (.int k))) (some (.sh G.d)) none none none none none none none none none none none none) s) : wS lb0 (F19 a (some (.sh (.int k))) none none none none none none none none none none none none none) s Q := by
  unfold lb0
  rw [w_sAsg]
  obtain ⟨m, hm, e1⟩ : ∃ m : Nat, (1 ≤ m ∧ m ≤ 8) ∧ dIx (.lst [.int 2, .int 4, .int 6, .int 8, .int 8]) (.int (k : Int)) = some (.int (m : Int)) := by
    match k, hk with
    | 0, _ => exact ⟨2, by decide, rfl⟩
    | 1, _ => exact ⟨4, by decide, rfl⟩
    | 2, _ => exact ⟨6, by decide, rfl⟩
    | 3, _ => exact ⟨8, by decide, rfl⟩
    | 4, _ => exact ⟨8, by decide, rfl⟩
  simp only [F19]
  simp only [↓w_eCall, ↓w_aCons, ↓w_aNil, ↓w_e2, ↓w_eC, ↓w_eLst5, ↓w_eLst3, ↓v1, ↓v2]
  simp only [e1, wD_some]
  refine of_ev h0 (by decide) (by decide) fun d s1 hs1 hd => ?_
  have key : ∀ F : Int, 0 ≤ F ∧ F ≤ 1000 → d = .int F → wD (m_law_frame [.obj a, .int m, d] s1) fun p => wD (gN 3 p.1 (F19 a (some (.sh (.int k))) none none none none none none none none none none none none none)) fun ρ => Q .nx ρ p.2 := fun F hF e => by
    subst e
    exact frameC_ev hs1 hm hF fun G s2 hs2 hG hn hc => q G s2 hs2 hG hc
  simp only [List.mem_cons, List.not_mem_nil, or_false] at hd
  rcases hd with rfl | rfl | rfl
  · exact key 2 (by decide) rfl
  · exact key 4 (by decide) rfl
  · exact key 300 (by decide) rfl
theorem lb1_ev {a : Addr} {lap : Option Sl} {G : Fr} (hG : G.Ok) {W : Str} {rest : List D} (T : Told G W rest) {s : Src} {Q : Ctl → Env → Src → Prop}
    (q : Q .nx (F19 a lap (some (.sh G.d)) (some (.sh (.int G.n))) (some (.sh (.str G.d.py.shown))) (some (.sh (fwD G))) (some (.sh (.tup (.str W :: rest)))) none none none none none none none none) s) :
    wS lb1 (F19 a lap (some (.sh G.d)) none none none none none none none none none none none none) s Q := by
  unfold lb1
  rw [w_sAsg]
  simp only [F19]
  simp only [↓w_eTup4, ↓w_e1, ↓w_e2, ↓w_eC, ↓w_eCallP, ↓w_aCons, ↓w_aNil, ↓v3]
  have e0 : dIx G.d (.int 0) = some (.int (G.n : Int)) := o_ix0 _
  simp only [e0, hG.val.repr, wD_some, m_law_costs_of hG, T.ev]
  exact q
theorem fwD_no {G : Fr} (h : fwOk G = false) : fwD G = .non := by unfold fwD; rw [if_neg (by rw [h]; exact Bool.false_ne_true)]
theorem fwD_yes {G : Fr} (h : fwOk G = true) : fwD G = .lst (tbRows (fwT G)) := by unfold fwD; rw [if_pos h]
theorem tbRow0 {n : Nat} {T : Tb} (h : Shp n T) {x : Nat} (hx : x < n) : dIx (.lst (tbRows T)) (.int (x : Int)) = some (.lst ((T.getD x []).map .int)) := by
  rw [o_ixL]
  unfold tbRows
  have : x < T.length := by rw [h.1]; exact hx
  rw [List.getElem?_map, List.getElem?_eq_getElem this, List.getD_eq_getElem?_getD, List.getElem?_eq_getElem this]
  rfl
theorem lb23_ev {a : Addr} {lap kept : Option Sl} {G : Fr} (hG : G.Ok) {W : Str} {rest : List D} (T : Told G W rest) {s : Src} {Q : Ctl → Env → Src → Prop} {b : C Src}
    (q : wS b (F19 a lap (some (.sh G.d)) (some (.sh (.int G.n))) kept (some (.sh (fwD G))) (some (.sh (.tup (.str W :: rest)))) none none none none none none none none) s Q) :
    wS (sSeq lb2 (sSeq lb3 b)) (F19 a lap (some (.sh G.d)) (some (.sh (.int G.n))) kept (some (.sh (fwD G))) (some (.sh (.tup (.str W :: rest)))) none none none none none none none none) s Q := by
  obtain ⟨r, p1, p2, p3, p4⟩ := ev_pf hG T.sv.val
  have er : r = .non := p4.mpr T.good
  subst er
  have i0 : dIx (.tup (.str W :: rest)) (.int 0) = some (.str W) := o_ix0 _
  have hWW : ∀ {X : Str}, W = X → PyData.strOk X = true → dNe (.str W) (.str X) = some (.bl false) := fun {X} h hx => by
    rw [o_neS T.ok hx (b := true) (by rw [h]; simp)]
    rfl
  have hV := T.sv.val
  unfold lb2
  rw [w_sSeq, w_sIf, w_tOr, w_tE]
  simp only [F19] at q ⊢
  have two : ∀ Q2 : D → Env → Src → Prop, (∀ X : Str, W = X → PyData.strOk X = true → Q2 (.str X) [none, some (.sh (.obj a)), lap, some (.sh G.d), some (.sh (.int G.n)), kept, some (.sh (fwD G)), some (.sh (.tup (.str W :: rest))), none, none, none, none, none, none, none, none, none, none, none] s) →
      wE (eIf (tE (Fw.e1 dIsN (eV 6))) (eC (.str "ring")) (eC (.str "heights"))) [none, some (.sh (.obj a)), lap, some (.sh G.d), some (.sh (.int G.n)), kept, some (.sh (fwD G)), some (.sh (.tup (.str W :: rest))), none, none, none, none, none, none, none, none, none, none, none] s Q2 := fun Q2 h => by
    rw [w_eIf, w_tE]
    simp only [↓w_e1, ↓w_eC, ↓v6]
    rcases T.t with ⟨h0, hW⟩ | ⟨h0, hW, _⟩
    · rw [fwD_no h0, show dIsN .non = some (.bl true) from rfl, wD_some, isB_bl, if_pos rfl]
      have := h "ring" hW (by decide +kernel)
      rw [fwD_no h0] at this
      exact this
    · rw [fwD_yes h0, show dIsN (.lst (tbRows (fwT G))) = some (.bl false) from rfl, wD_some, isB_bl, if_neg Bool.false_ne_true]
      have := h "heights" hW (by decide +kernel)
      rw [fwD_yes h0] at this
      exact this
  rw [Fw.w_e2]
  simp only [↓w_e2, ↓w_eC, ↓v7]
  rw [i0, wD_some]
  refine two _ fun X hX hx => ?_
  rw [hWW hX hx, wD_some, isB_bl, if_neg Bool.false_ne_true, w_tE]
  simp only [↓w_e1, ↓w_eCallP, ↓w_aCons, ↓w_aNil, ↓v3, ↓v7]
  rw [p2, wD_some, show dNotN .non = some (.bl false) from rfl, wD_some, isB_bl, if_neg Bool.false_ne_true, w_sNx]
  show wS (sSeq lb3 b) _ _ _
  unfold lb3
  rw [w_sSeq, w_sIf, w_tOr, w_tAnd, w_tE]
  have rest' : ∀ Q3 : Bool → Env → Src → Prop, Q3 false [none, some (.sh (.obj a)), lap, some (.sh G.d), some (.sh (.int G.n)), kept, some (.sh (fwD G)), some (.sh (.tup (.str W :: rest))), none, none, none, none, none, none, none, none, none, none, none] s →
      wT (tE (Fw.e2 dNe (Fw.e1 dRepr (eCallP m_height_paper (aCons (eV 3) aNil))) (Fw.e1 dRepr (eV 7)))) [none, some (.sh (.obj a)), lap, some (.sh G.d), some (.sh (.int G.n)), kept, some (.sh (fwD G)), some (.sh (.tup (.str W :: rest))), none, none, none, none, none, none, none, none, none, none, none] s Q3 := fun Q3 h => by
    rw [w_tE]
    simp only [↓w_e2, ↓w_e1, ↓w_eCallP, ↓w_aCons, ↓w_aNil, ↓v3, ↓v7]
    simp only [T.ev, hV.repr, wD_some, o_neSS hV.text, isB_bl]
    exact h
  simp only [↓w_e1, ↓v6]
  rcases T.t with ⟨h0, hW⟩ | ⟨h0, hW, hr⟩
  · rw [fwD_no h0] at q rest' ⊢
    rw [show dNotN .non = some (.bl false) from rfl, wD_some, isB_bl, if_neg Bool.false_ne_true, if_neg Bool.false_ne_true]
    refine rest' _ ?_
    rw [if_neg Bool.false_ne_true, w_sNx]
    exact q
  · have F := fwG_of hG h0
    rw [fwD_yes h0] at q rest' ⊢
    rw [show dNotN (.lst (tbRows (fwT G))) = some (.bl true) from rfl, wD_some, isB_bl, if_pos rfl, w_tE]
    simp only [↓w_e2, ↓w_e1, ↓w_eC, ↓w_eTup2, ↓v6, ↓v7]
    have r0 : dIx (.lst (tbRows (fwT G))) (.int 0) = some (.lst ((rowG G 0).map .int)) := by
      have := tbRow0 F.shp hG.n1
      rw [rowG_eq F hG.n1] at this
      exact this
    have d2 : dTuple (.lst ((rowG G 0).map D.int)) = some (.tup ((rowG G 0).map .int)) := rfl
    have e5 : (D.tup [.str "heights", .tup ((rowG G 0).map .int)]) = .tup (.str W :: rest) := by rw [hW, hr]
    simp only [r0, d2, e5, hV.repr, wD_some, o_neSS hV.text, isB_bl, Bool.false_eq_true, if_false]
    refine rest' _ ?_
    rw [if_neg Bool.false_ne_true, w_sNx]
    exact q
theorem lb45_ev {a : Addr} {lap kept t told : Option Sl} {G : Fr} (hG : G.Ok) {s : Src} (h0 : s.addr = a) {Q : Ctl → Env → Src → Prop} {b : C Src}
    (q : ∀ (x : Nat) (es : List Nat) s, s.addr = a → x < G.n → es.length ≤ 7 → (∀ e ∈ es, e < 2 * G.roads.length) → wS b (F19 a lap (some (.sh G.d)) (some (.sh (.int G.n))) kept t told (some (.sh (.int x))) (some (.sh (.tup (nats es)))) none none none none none none) s Q) :
    wS (sSeq lb4 (sSeq lb5 b)) (F19 a lap (some (.sh G.d)) (some (.sh (.int G.n))) kept t told none none none none none none none none) s Q := by
  have := hG.n2
  unfold lb4
  rw [w_sSeq, w_sAsg]
  simp only [F19] at q ⊢
  simp only [↓w_eCall, ↓w_aCons, ↓w_aNil, ↓v1, ↓v4]
  refine pick_n h0 hG.n1 (by omega) fun k s1 hs1 hk => ?_
  show wS (sSeq lb5 b) [none, some (.sh (.obj a)), lap, some (.sh G.d), some (.sh (.int G.n)), kept, t, told, some (.sh (.int k)), none, none, none, none, none, none, none, none, none, none] s1 Q
  unfold lb5
  rw [w_sSeq, w_sAsg]
  simp only [↓w_eCall, ↓w_aCons, ↓w_aNil, ↓w_eC, ↓v1, ↓v3, ↓v8]
  refine walk_ev (W := 7) (by decide) hG.sh hs1 fun es y s2 hs2 hw hl => ?_
  exact q k es s2 hs2 hk hl hw.lt
def ccK : E Src := eLc (iE (Fw.e1 dRev (eV 9))) (gN 16) Fw.tYes (e2 dSub (e2 dAdd (eV 16) (eC (.int 1))) (e2 dMul (eC (.int 2)) (e2 dMod (Fw.e1 dInt (eV 16)) (eC (.int 2))))) [16]
theorem ccK_ev {a : Addr} {lap f n kept t told x : Option Sl} {es : List Nat} {M : Nat} (hM : M ≤ 100) (hl : ∀ e ∈ es, e < M) {s : Src} {Q : D → Env → Src → Prop}
    (q : ∀ l : List Int, l.length = es.length → (∀ z ∈ l, -1000 ≤ z ∧ z ≤ 1000) → Q (.lst (l.map .int)) (F19 a lap f n kept t told x (some (.sh (.tup (nats es)))) none none none none none none) s) :
    wE ccK (F19 a lap f n kept t told x (some (.sh (.tup (nats es)))) none none none none none none) s Q := by
  unfold ccK
  refine w_lcH (g := fun (e : Nat) => D.int (e : Int)) (l := es.reverse) (f := fun (e : Nat) => D.int ((e : Int) + 1 - 2 * (e % 2 : Nat))) ?_
  rw [w_iE]
  simp only [F19] at q ⊢
  simp only [↓w_e1, ↓v9]
  rw [show dRev (.tup (nats es)) = some (.tup (nats es).reverse) from rfl, wD_some, show items? (.tup (nats es).reverse) = some (nats es).reverse from rfl, wD_some]
  refine ⟨by trivial, nats_rev es, by trivial, fun e he => ⟨_, rfl, ?_⟩, ?_⟩
  · simp only [wipeE, List.set]
    simp only [↓w_e1, ↓w_e2, ↓w_eC, ↓v16]
    rw [show dAdd (.int (e : Int)) (.int 1) = some (.int ((e : Int) + 1)) from rfl, wD_some, show dInt (.int (e : Int)) = some (.int (e : Int)) from rfl, wD_some, o_mod2, wD_some, o_mulS (by omega), wD_some]
    exact ⟨by trivial, by trivial, by trivial⟩
  · have : (es.reverse.map fun (e : Nat) => D.int ((e : Int) + 1 - 2 * (e % 2 : Nat))) = (es.reverse.map fun (e : Nat) => ((e : Int) + 1 - 2 * (e % 2 : Nat))).map D.int := by
      rw [List.map_map]
      rfl
    rw [this]
    refine q _ (by rw [List.length_map, List.length_reverse]) fun z hz => ?_
    obtain ⟨e, he, rfl⟩ := List.mem_map.mp hz
    have := hl e (List.mem_reverse.mp he)
    omega
theorem lb6_ev {a : Addr} {lap f n kept t told x : Option Sl} {es : List Nat} {M : Nat} (hM : M ≤ 100) (hl : ∀ e ∈ es, e < M) (h7 : es.length ≤ 7) {s : Src} {Q : Ctl → Env → Src → Prop}
    (q : ∀ l : List Int, l.length ≤ 14 → (∀ z ∈ l, -1000 ≤ z ∧ z ≤ 1000) → Q .nx (F19 a lap f n kept t told x (some (.sh (.tup (nats es)))) (some (.sh (.tup (l.map .int)))) none none none none none) s) :
    wS lb6 (F19 a lap f n kept t told x (some (.sh (.tup (nats es)))) none none none none none none) s Q := by
  unfold lb6
  rw [w_sAsg]
  have hcc : (eLc (iE (Fw.e1 dRev (eV 9))) (gN 16) Fw.tYes (e2 dSub (e2 dAdd (eV 16) (eC (.int 1))) (e2 dMul (eC (.int 2)) (e2 dMod (Fw.e1 dInt (eV 16)) (eC (.int 2))))) [16] : E Src) = ccK := rfl
  rw [hcc]
  have go := fun Q => ccK_ev (a := a) (lap := lap) (f := f) (n := n) (kept := kept) (t := t) (told := told) (x := x) hM hl (s := s) (Q := Q)
  generalize ccK = cc at go ⊢
  simp only [F19] at go q ⊢
  simp only [↓w_e2, ↓w_e1, ↓v9]
  refine go _ fun l h1 h2 => ?_
  rw [show dTuple (.lst (l.map .int)) = some (.tup (l.map .int)) from rfl, wD_some]
  have : dAdd (.tup (nats es)) (.tup (l.map .int)) = some (.tup ((es.map (fun (x : Nat) => (x : Int)) ++ l).map .int)) := by
    show (if (nats es).length + (l.map D.int).length ≤ LIM then some (D.tup (nats es ++ l.map D.int)) else none) = _
    rw [if_pos (by rw [List.length_map, List.length_map]; show _ ≤ 16777216; omega), List.map_append, nats_ints]
  rw [this, wD_some]
  refine q _ (by rw [List.length_append, List.length_map]; omega) fun z hz => ?_
  rcases List.mem_append.mp hz with hz | hz
  · obtain ⟨e, he, rfl⟩ := List.mem_map.mp hz
    have := hl e he
    omega
  · exact h2 z hz
def ccP : E Src := eLc (iR1 (eV 4)) (gN 17) Fw.tYes (e2 dSub (eCall dPick (aCons (eV 1) (aCons (eC (.int 5)) aNil))) (eC (.int 2))) [17]
theorem ccP_ev {a : Addr} {lap f kept t told x way back : Option Sl} {n : Nat} (hn : n ≤ 20) {s : Src} (h0 : s.addr = a) {Q : D → Env → Src → Prop}
    (q : ∀ (l : List Int) s, s.addr = a → l.length = n → (∀ z ∈ l, -1000 ≤ z ∧ z ≤ 1000) → Q (.lst (l.map .int)) (F19 a lap f (some (.sh (.int n))) kept t told x way back none none none none none) s) :
    wE ccP (F19 a lap f (some (.sh (.int n))) kept t told x way back none none none none none) s Q := by
  unfold ccP
  refine w_lcA (I := fun s => s.addr = a) (R := fun d => ∃ z : Int, d = .int z ∧ -1000 ≤ z ∧ z ≤ 1000) ?_
  rw [w_iR1]
  simp only [F19] at q ⊢
  simp only [↓v4, isI_int]
  rw [if_pos (by omega), wD_some, Int.toNat_natCast, rangeL_nats]
  refine ⟨by trivial, h0, by trivial, fun d hd s hs => ?_, fun acc s' hl hp hs => ?_⟩
  · obtain ⟨z, hz, rfl⟩ := List.mem_map.mp hd
    refine ⟨_, rfl, ?_⟩
    simp only [wipeE, List.set]
    simp only [↓w_e2, ↓w_eCall, ↓w_aCons, ↓w_aNil, ↓w_eC, ↓v1]
    refine pick_ev hs (by decide) fun v s2 hs2 v0 v1 => ?_
    rw [show dSub (.int v) (.int 2) = some (.int (v - 2)) from rfl, wD_some]
    exact ⟨⟨_, rfl, by omega, by omega⟩, hs2, rfl⟩
  · have : ∃ l : List Int, acc = l.map .int ∧ l.length = acc.length ∧ ∀ z ∈ l, -1000 ≤ z ∧ z ≤ 1000 := by
      clear q hl
      induction acc with
      | nil => exact ⟨[], rfl, rfl, fun z h => by simp at h⟩
      | cons y r ih =>
        obtain ⟨l, rfl, h1, h2⟩ := ih fun y hy => hp y (List.mem_cons_of_mem _ hy)
        obtain ⟨z, rfl, hz⟩ := hp y List.mem_cons_self
        refine ⟨z :: l, rfl, congrArg (· + 1) h1, fun w hw => ?_⟩
        rcases List.mem_cons.mp hw with rfl | hw
        · exact hz
        · exact h2 w hw
    obtain ⟨l, rfl, h1, h2⟩ := this
    exact q l s' hs (by rw [h1, hl, List.length_map, List.length_range]) h2
theorem lb7_ev {a : Addr} {lap f kept t back : Option Sl} {told : D} (hT : SV told) {G : Fr} (hG : G.Ok) {x : Nat} (hx : x < G.n) {es : List Nat} (hl : ∀ e ∈ es, e < 2 * G.roads.length) (h7 : es.length ≤ 7) {bk : List Int} (hb1 : bk.length ≤ 14) (hb2 : ∀ z ∈ bk, -1000 ≤ z ∧ z ≤ 1000)
    {s : Src} (h0 : s.addr = a) {Q : Ctl → Env → Src → Prop}
    (q : ∀ (ds : List D) s, s.addr = a → ds.length = 5 → (∀ d ∈ ds, SV d) → Q .nx (F19 a lap f (some (.sh (.int G.n))) kept t (some (.sh told)) (some (.sh (.int x))) (some (.sh (.tup (nats es)))) (some (.sh (.tup (bk.map .int)))) (some (.sh (.lst ds))) none none none none) s) :
    wS lb7 (F19 a lap f (some (.sh (.int G.n))) kept t (some (.sh told)) (some (.sh (.int x))) (some (.sh (.tup (nats es)))) (some (.sh (.tup (bk.map .int)))) none none none none none) s Q := by
  unfold lb7
  rw [w_sAsg]
  have hm := hG.m
  have hn := hG.n2
  have hcc : (eLc (iR1 (eV 4)) (gN 17) Fw.tYes (e2 dSub (eCall dPick (aCons (eV 1) (aCons (eC (.int 5)) aNil))) (eC (.int 2))) [17] : E Src) = ccP := rfl
  rw [hcc]
  have go := fun (s : Src) (h0 : s.addr = a) Q => ccP_ev (a := a) (lap := lap) (f := f) (kept := kept) (t := t) (told := some (.sh told)) (x := some (.sh (.int x))) (way := some (.sh (.tup (nats es)))) (back := some (.sh (.tup (bk.map .int)))) hn h0 (Q := Q)
  generalize ccP = cc at go ⊢
  simp only [F19] at go q ⊢
  simp only [↓w_eLst5, ↓w_eTup2, ↓w_eTup3, ↓w_eTup1, ↓w_e2, ↓w_e1, ↓w_eC, ↓v4, ↓v7, ↓v8, ↓v9, ↓v10]
  rw [o_zeros (n := G.n) (by omega), wD_some]
  refine go s h0 _ fun l s1 hs1 h1 h2 => ?_
  rw [show dTuple (.lst (l.map .int)) = some (.tup (l.map .int)) from rfl, wD_some]
  refine q _ s1 hs1 rfl fun d hd => ?_
  simp only [List.mem_cons, List.not_mem_nil, or_false] at hd
  rcases hd with rfl | rfl | rfl | rfl | rfl
  · exact hT
  · rw [nats_ints]
    refine sv_ring (by decide +kernel) (leaf_int (by omega)) (Nat.le_of_lt (by show 50 < _; decide)) (Nat.zero_le _) (by rw [List.length_map]; omega) fun z hz => ?_
    obtain ⟨k, hk, rfl⟩ := List.mem_map.mp hz
    have := hl k hk
    omega
  · exact sv_ring (by decide +kernel) (leaf_int (by omega)) (Nat.le_of_lt (by show 50 < _; decide)) (Nat.zero_le _) (by omega) fun z hz => by have := hb2 z hz; omega
  · refine sv_hs (by decide +kernel) (by rw [List.length_replicate]; omega) fun z hz => ?_
    rw [List.eq_of_mem_replicate hz]
    decide
  · exact sv_hs (by decide +kernel) (by omega) fun z hz => by have := h2 z hz; omega
def ccX (N : Int) : E Src := eLc (iR1 (eC (.int N))) (gN 18) Fw.tYes (eCall (m_law_bent 12) (aCons (eV 1) (aCons (eV 7) aNil))) [18]
def ccY (N : Int) : E Src := eLc (iR1 (eC (.int N))) (gN 18) Fw.tYes (eCall (m_law_bent 12) (aCons (eV 1) (aCons (eCall m_law_of (aCons (eV 1) (aCons (eV 11) aNil))) aNil))) [18]
theorem ccX_ev {a : Addr} {N : Int} (hN : N = 6) {lap f n kept t x way back : Option Sl} {told : D} (hT : SV told) {ds : List D} {s : Src} (h0 : s.addr = a) {Q : D → Env → Src → Prop}
    (q : ∀ (vs : List D) s, s.addr = a → vs.length = 6 → (∀ d ∈ vs, Val d) → Q (.lst vs) (F19 a lap f n kept t (some (.sh told)) x way back (some (.sh (.lst ds))) none none none none) s) :
    wE (ccX N) (F19 a lap f n kept t (some (.sh told)) x way back (some (.sh (.lst ds))) none none none none) s Q := by
  unfold ccX
  refine w_lcA (I := fun s => s.addr = a) (R := Val) ?_
  rw [w_iR1, w_eC, isI_int, if_pos (by omega), wD_some]
  refine ⟨by trivial, h0, by trivial, fun d hd s hs => ?_, fun acc s' hl hp hs => ?_⟩
  · obtain ⟨z, hz, rfl⟩ := List.mem_map.mp hd
    refine ⟨_, rfl, ?_⟩
    simp only [F19, wipeE, List.set]
    simp only [↓w_eCall, ↓w_aCons, ↓w_aNil, ↓v1, ↓v7]
    refine bent_ev 2 (j := 9) hs hT.b fun d s2 hs2 hd => ?_
    exact ⟨hT.br hd, hs2, rfl⟩
  · have : (rangeL 0 N.toNat).length = 6 := by subst hN; rfl
    exact q acc s' hs (by omega) hp
theorem ccY_ev {a : Addr} {N : Int} (hN : N = 6) {lap f n kept t told x way back : Option Sl} {ds : List D} (hd : ds.length = 5) (hds : ∀ d ∈ ds, SV d) {s : Src} (h0 : s.addr = a) {Q : D → Env → Src → Prop}
    (q : ∀ (vs : List D) s, s.addr = a → vs.length = 6 → (∀ d ∈ vs, Val d) → Q (.lst vs) (F19 a lap f n kept t told x way back (some (.sh (.lst ds))) none none none none) s) :
    wE (ccY N) (F19 a lap f n kept t told x way back (some (.sh (.lst ds))) none none none none) s Q := by
  unfold ccY
  refine w_lcA (I := fun s => s.addr = a) (R := Val) ?_
  rw [w_iR1, w_eC, isI_int, if_pos (by omega), wD_some]
  refine ⟨by trivial, h0, by trivial, fun d hd' s hs => ?_, fun acc s' hl hp hs => ?_⟩
  · obtain ⟨z, hz, rfl⟩ := List.mem_map.mp hd'
    refine ⟨_, rfl, ?_⟩
    simp only [F19, wipeE, List.set]
    simp only [↓w_eCall, ↓w_aCons, ↓w_aNil, ↓v1, ↓v11]
    refine of_ev hs (fun h => by rw [h] at hd; cases hd) (by omega) fun v s1 hs1 hv => ?_
    have hT := hds v hv
    refine bent_ev 2 (j := 9) hs1 hT.b fun d s2 hs2 hd => ?_
    exact ⟨hT.br hd, hs2, rfl⟩
  · have : (rangeL 0 N.toNat).length = 6 := by subst hN; rfl
    exact q acc s' hs (by omega) hp
theorem lb8_ev {a : Addr} {lap f n kept t x way back : Option Sl} {told : D} (hT : SV told) {ds : List D} (hd : ds.length = 5) (hds : ∀ d ∈ ds, SV d) {s : Src} (h0 : s.addr = a) {Q : Ctl → Env → Src → Prop}
    (q : ∀ (vs : List D) s, s.addr = a → vs.length ≤ 20 → (∀ d ∈ vs, Val d) → Q .nx (F19 a lap f n kept t (some (.sh told)) x way back (some (.sh (.lst ds))) (some (.sh (.lst vs))) none none none) s) :
    wS lb8 (F19 a lap f n kept t (some (.sh told)) x way back (some (.sh (.lst ds))) none none none none) s Q := by
  unfold lb8
  rw [w_sAsg]
  have hcx : (eLc (iR1 (eC (.int 6))) (gN 18) Fw.tYes (eCall (m_law_bent 12) (aCons (eV 1) (aCons (eV 7) aNil))) [18] : E Src) = ccX 6 := rfl
  have hcy : (eLc (iR1 (eC (.int 6))) (gN 18) Fw.tYes (eCall (m_law_bent 12) (aCons (eV 1) (aCons (eCall m_law_of (aCons (eV 1) (aCons (eV 11) aNil))) aNil))) [18] : E Src) = ccY 6 := rfl
  rw [hcx, hcy]
  obtain ⟨N, hN, eN⟩ : ∃ N : Int, N = 6 ∧ ccX 6 = ccX N := ⟨6, rfl, rfl⟩
  obtain ⟨M, hM, eM⟩ : ∃ N : Int, N = 6 ∧ ccY 6 = ccY N := ⟨6, rfl, rfl⟩
  rw [eN, eM]
  have gx := fun (s : Src) (h0 : s.addr = a) Q => ccX_ev hN (a := a) (lap := lap) (f := f) (n := n) (kept := kept) (t := t) (x := x) (way := way) (back := back) hT (ds := ds) h0 (Q := Q)
  have gy := fun (s : Src) (h0 : s.addr = a) Q => ccY_ev hM (a := a) (lap := lap) (f := f) (n := n) (kept := kept) (t := t) (told := some (.sh told)) (x := x) (way := way) (back := back) hd hds h0 (Q := Q)
  generalize ccX N = cx at gx ⊢
  generalize ccY M = cy at gy ⊢
  simp only [F19] at gx gy q ⊢
  simp only [↓w_e2, ↓v11]
  refine gx s h0 _ fun vs s1 hs1 l1 hv1 => ?_
  rw [o_addL (by omega), wD_some]
  refine gy s1 hs1 _ fun ws s2 hs2 l2 hv2 => ?_
  rw [o_addL (by rw [List.length_append]; omega), wD_some]
  exact q _ s2 hs2 (by rw [List.length_append, List.length_append]; omega) (val_app (val_app (fun d hd => (hds d hd).val) hv1) hv2)
theorem body_ev {a : Addr} {G : Fr} (hG : G.Ok) {W : Str} {rest : List D} (T : Told G W rest) {kept : Option Sl} {v : D} (hv : Val v) {s : Src} {Q : Ctl → Env → Src → Prop}
    (q : ∀ x y, Q .nx (F19 a none (some (.sh G.d)) none kept none (some (.sh (.tup (.str W :: rest)))) none none none none none (some (.sh v)) x y) s) {n : Option Sl} (hn : n = none) :
    wS (sSeq lb9 (sSeq lb10 lb11)) (F19 a none (some (.sh G.d)) none kept none (some (.sh (.tup (.str W :: rest)))) none none none none none (some (.sh v)) none none) s Q := by
  obtain ⟨r, p1, p2, p3, p4⟩ := ev_pf hG hv
  have hi : r = .non → ∃ u, v = .tup (.str W :: u) := fun h => T.all v (p4.mp h)
  have q' := q (some (.sh (.str v.py.shown))) (some (.sh r))
  unfold lb9
  rw [w_sSeq, w_sPar]
  simp only [F19] at q' ⊢
  simp only [↓w_qSh, ↓w_qNil, ↓w_e1, ↓w_eCallP, ↓w_aCons, ↓w_aNil, ↓v3, ↓v13]
  simp only [hv.repr, p2, wD_some, List.length_cons, List.length_nil, if_true]
  show wS (sSeq lb10 lb11) [none, some (.sh (.obj a)), none, some (.sh G.d), none, kept, none, some (.sh (.tup (.str W :: rest))), none, none, none, none, none, some (.sh v), some (.sh (.str v.py.shown)), some (.sh r), none, none, none] s Q
  unfold lb10
  rw [w_sSeq, w_sIf, w_tOr, w_tE]
  simp only [↓w_e2, ↓w_e1, ↓w_eCallP, ↓w_aCons, ↓w_aNil, ↓v3, ↓v13, ↓v14, ↓v15]
  simp only [p1, p3.repr, wD_some, o_neSS p3.text, isB_bl, Bool.false_eq_true, if_false]
  rw [w_tE]
  simp only [↓w_e2, ↓w_e1, ↓v13, ↓v14]
  simp only [hv.repr, wD_some, o_neSS hv.text, isB_bl, Bool.false_eq_true, if_false]
  rw [w_sNx]
  unfold lb11
  rw [w_sIf, w_tAnd, w_tE]
  simp only [↓w_e1, ↓v15]
  by_cases h : r = .non
  · obtain ⟨u, rfl⟩ := hi h
    subst h
    rw [show dIsN .non = some (.bl true) from rfl, wD_some, isB_bl, if_pos rfl, w_tE]
    simp only [↓w_e2, ↓w_eC, ↓v7, ↓v13]
    rw [show dIx (.tup (.str W :: u)) (.int 0) = some (.str W) from o_ix0 _, wD_some, show dIx (.tup (.str W :: rest)) (.int 0) = some (.str W) from o_ix0 _, wD_some, o_neS T.ok T.ok (b := true) (by simp), wD_some, isB_bl]
    simp only [Bool.not_true, Bool.false_eq_true, if_false]
    rw [w_sNx]
    exact q'
  · have : dIsN r = some (.bl false) := by
      cases r with
      | non => exact absurd rfl h
      | _ => rfl
    rw [this, wD_some, isB_bl]
    simp only [Bool.false_eq_true, if_false]
    rw [w_sNx]
    exact q'
theorem lb12_ev {a : Addr} {lap : Option Sl} {G : Fr} (hG : G.Ok) {W : Str} {rest : List D} (T : Told G W rest) {kept t back some' : Option Sl} {x : Nat} (hx : x < G.n) {es : List Nat} (hl : ∀ e ∈ es, e < 2 * G.roads.length) (h7 : es.length ≤ 7)
    {vs : List D} (hvs : vs.length ≤ 20) (hv : ∀ d ∈ vs, Val d) {s : Src} (h0 : s.addr = a) {Q : Ctl → Env → Src → Prop}
    (q : ∀ s, s.addr = a → Q .nx (F19 a none (some (.sh G.d)) none kept none (some (.sh (.tup (.str W :: rest)))) none none none none none none none none) s) :
    wS lb12 (F19 a lap (some (.sh G.d)) (some (.sh (.int G.n))) kept t (some (.sh (.tup (.str W :: rest)))) (some (.sh (.int x))) (some (.sh (.tup (nats es)))) back some' (some (.sh (.lst vs))) none none none) s Q := by
  have hm := hG.m
  have hn := hG.n2
  have hbd : ∀ z ∈ (es.map fun (x : Nat) => (x : Int)), -99999999999 ≤ z ∧ z ≤ 99999999999 := fun z hz => by
    obtain ⟨k, hk, rfl⟩ := List.mem_map.mp hz
    have := hl k hk
    omega
  unfold lb12
  refine w_sFor ?_
  rw [w_iE]
  simp only [F19]
  simp only [↓w_e2, ↓w_e1, ↓w_eC, ↓w_eLst8, ↓w_eTup3, ↓w_eTup1, ↓w_eTup0, ↓v4, ↓v7, ↓v8, ↓v9, ↓v12]
  rw [show dList (.tup (.str W :: rest)) = some (.lst (.str W :: rest)) from rfl, wD_some, show dIx (.tup (.str W :: rest)) (.int 0) = some (.str W) from o_ix0 _, wD_some, o_addL (by show _ + 8 ≤ _; omega), wD_some, show ∀ l : List D, items? (.lst l) = some l from fun _ => rfl, wD_some]
  have hWv : vok (.str W) = true ∧ voks rest = true := by
    have : (vok (.str W) && voks rest) = true := bkt_vok T.sv.b
    rwa [Bool.and_eq_true] at this
  have hall : ∀ d ∈ vs ++ [D.tup [.str "ring", .int (G.n : Int), .tup (nats es)], .tup [.str "ring", .int (x : Int), .tup []], .tup [.str "heights"], .non, .tup [], .lst (.str W :: rest), .str W, .tup [.str "ring", .bl true, .tup (nats es)]], Val d := by
    refine val_app hv fun d hd => ?_
    simp only [List.mem_cons, List.not_mem_nil, or_false] at hd
    rcases hd with rfl | rfl | rfl | rfl | rfl | rfl | rfl | rfl
    · rw [nats_ints]
      exact (sv_ring (by decide +kernel) (leaf_int (by omega)) (Nat.le_of_lt (by show 50 < _; decide)) (Nat.zero_le _) (by rw [List.length_map]; omega) hbd).val
    · exact (sv_ring (l := []) (by decide +kernel) (leaf_int (by omega)) (Nat.le_of_lt (by show 50 < _; decide)) (Nat.zero_le _) (by decide) (fun z h => by simp at h)).val
    · exact ⟨by decide +kernel, by decide +kernel, by decide +kernel⟩
    · exact val_non
    · exact ⟨by decide +kernel, by decide +kernel, by decide +kernel⟩
    · have h1 := T.sv.s
      have h2 := T.sv.d
      have h3 : szs (.str W :: rest) + 3 ≤ 100000 := h1
      have h4 : dpts (.str W :: rest) + 1 ≤ 20 := h2
      exact ⟨(show vok (.tup (.str W :: rest)) = true from bkt_vok T.sv.b), by show szs (.str W :: rest) + 2 ≤ _; omega, by show dpts (.str W :: rest) + 1 ≤ _; omega⟩
    · exact ⟨hWv.1, by show 50 ≤ _; decide, Nat.zero_le _⟩
    · rw [nats_ints]
      exact (sv_ring (by decide +kernel) ⟨by decide, fun ds e => (by cases e), fun j e => by cases e⟩ (Nat.le_of_lt (by show 50 < _; decide)) (Nat.zero_le _) (by rw [List.length_map]; omega) hbd).val
  generalize vs ++ [D.tup [.str "ring", .int (G.n : Int), .tup (nats es)], .tup [.str "ring", .int (x : Int), .tup []], .tup [.str "heights"], .non, .tup [], .lst (.str W :: rest), .str W, .tup [.str "ring", .bl true, .tup (nats es)]] = all at hall ⊢
  refine ⟨fun _ ρ s => s.addr = a ∧ ρ = F19 a none (some (.sh G.d)) none kept none (some (.sh (.tup (.str W :: rest)))) none none none none none none none none, ⟨h0, by simp only [wipeE, List.set, F19]⟩, ?_, fun ρ s h => by rw [h.2]; exact q s h.1⟩
  rintro k d ρ s hd ⟨hs, rfl⟩
  refine ⟨_, rfl, ?_⟩
  show wS _ (F19 a none (some (.sh G.d)) none kept none (some (.sh (.tup (.str W :: rest)))) none none none none none (some (.sh d)) none none) s _
  refine body_ev hG T (hall d (List.mem_of_getElem? hd)) (fun x y => ?_) rfl
  exact ⟨hs, by simp only [wipeE, List.set, F19]⟩
theorem lap_ev {a : Addr} {k : Nat} (hk : k < 5) {s : Src} (h0 : s.addr = a) {Q : Ctl → Env → Src → Prop}
    (q : ∀ s f kept t told, s.addr = a → Q .nx (F19 a none f none kept t told none none none none none none none none) s) :
    wS (sSeq lb0 (sSeq lb1 (sSeq lb2 (sSeq lb3 (sSeq lb4 (sSeq lb5 (sSeq lb6 (sSeq lb7 (sSeq lb8 (sSeq lb12 lb13)))))))))) (F19 a (some (.sh (.int k))) none none none none none none none none none none none none none) s Q := by
  rw [w_sSeq]
  refine lb0_ev hk h0 fun G s1 hs1 hG hc => ?_
  obtain ⟨W, rest, T⟩ := told_ev hG hc
  show wS (sSeq lb1 _) _ _ _
  rw [w_sSeq]
  refine lb1_ev hG T ?_
  show wS (sSeq lb2 (sSeq lb3 _)) _ _ _
  refine lb23_ev hG T (lb45_ev hG hs1 fun x es s2 hs2 hx h7 hl => ?_)
  have hm := hG.m
  rw [w_sSeq]
  refine lb6_ev (M := 2 * G.roads.length) (by omega) hl h7 fun bk hb1 hb2 => ?_
  show wS (sSeq lb7 _) _ _ _
  rw [w_sSeq]
  refine lb7_ev (back := none) T.sv hG hx hl h7 hb1 hb2 hs2 fun ds s3 hs3 hd hds => ?_
  show wS (sSeq lb8 _) _ _ _
  rw [w_sSeq]
  refine lb8_ev T.sv hd hds hs3 fun vs s4 hs4 hvs hv => ?_
  show wS (sSeq lb12 _) _ _ _
  rw [w_sSeq]
  refine lb12_ev hG T hx hl h7 hvs hv hs4 fun s5 hs5 => ?_
  show wS lb13 _ _ _
  have q' := q s5 (some (.sh G.d)) (some (.sh (.str G.d.py.shown))) none (some (.sh (.tup (.str W :: rest)))) hs5
  unfold lb13
  rw [w_sIf, w_tE]
  simp only [F19] at q' ⊢
  simp only [↓w_e2, ↓w_e1, ↓v3, ↓v5]
  simp only [hG.val.repr, wD_some, o_neSS hG.val.text, isB_bl, Bool.false_eq_true, if_false]
  rw [w_sNx]
  exact q'
noncomputable def lbN (N : Int) : C Src := (sFor (iR1 (eC (.int N))) (gN 2) (sSeq lb0 (sSeq lb1 (sSeq lb2 (sSeq lb3 (sSeq lb4 (sSeq lb5 (sSeq lb6 (sSeq lb7 (sSeq lb8 (sSeq lb12 lb13)))))))))) [0, 2, 3, 4, 5, 6, 7, 8, 9, 10, 11, 12, 13, 14, 15, 17, 18])
theorem lbN_eq : lb14 = lbN 5 := rfl
theorem lbN_ev {N : Int} (hN : N = 5) {a : Addr} {s : Src} (h0 : s.addr = a) {Q : Ctl → Env → Src → Prop} (q : ∀ s, Q .nx (F19 a none none none none none none none none none none none none none none) s) : wS (lbN N) (F19 a none none none none none none none none none none none none none none) s Q := by
  unfold lbN
  refine w_sFor ?_
  rw [w_iR1, w_eC, isI_int, if_pos (by omega), wD_some]
  refine ⟨fun _ ρ s => s.addr = a ∧ ρ = F19 a none none none none none none none none none none none none none none, ⟨h0, by simp only [wipeE, List.set, F19]⟩, ?_, fun ρ s h => by rw [h.2]; exact q s⟩
  rintro i d ρ s hd ⟨h0, rfl⟩
  have hd : (nats (List.range 5))[i]? = some d := by
    have e : rangeL 0 N.toNat = nats (List.range 5) := by subst hN; rfl
    rw [← e]
    exact hd
  obtain ⟨rfl, hi⟩ := take_succ_range hd
  refine ⟨_, rfl, ?_⟩
  refine lap_ev hi h0 fun s f kept t told h0 => ?_
  exact ⟨h0, by simp only [wipeE, List.set, F19]⟩
/-- the last row -/
def G0 : Fr := ⟨3, [(0, 1), (1, 2), (0, 2)], [0, 0, 5], [2, 2, 5]⟩
theorem G0_ok : G0.Ok := ⟨by decide, by decide, by decide, by decide, rfl, rfl, by decide, by decide⟩
theorem G0_ring : GoodP G0 (.tup [.str "ring", .int (0 : Nat), .tup (nats [0, 2, 5])]) := by
  refine .inr ⟨0, [0, 2, 5], rfl, by decide, by decide, ?_, by decide⟩
  have h1 : WayS G0 0 ([] ++ [0]) (G0.to 0) := .snoc .nil (by decide) rfl
  have h2 : WayS G0 0 ([0] ++ [2]) (G0.to 2) := .snoc h1 (by decide) rfl
  exact .snoc h2 (by decide) rfl
theorem G0_conn : ∀ x, x < G0.n → Conn G0.roads 0 x := fun x hx => by
  have hx : x < 3 := hx
  have h1 : Conn G0.roads 0 1 := .fwd (.refl 0) (by decide)
  match x, hx with
  | 0, _ => exact .refl 0
  | 1, _ => exact h1
  | 2, _ => exact .fwd h1 (by decide)
theorem last1 : ∃ rest, m_height_paper [G0.d] = some (.tup (.str "ring" :: rest)) := by
  obtain ⟨W, rest, T⟩ := told_ev G0_ok G0_conn
  obtain ⟨u, hu⟩ := T.all _ G0_ring
  simp only [D.tup.injEq, List.cons.injEq, D.str.injEq] at hu
  exact ⟨rest, by rw [T.ev, ← hu.1]⟩
theorem last2 : m_judge_height_paper [G0.d, .tup [.str "ring", .int 0, .tup [.int 0, .int 2, .int 5]]] = some .non := by
  have hv : Val (.tup [.str "ring", .int (0 : Nat), .tup (nats [0, 2, 5])]) := ⟨by decide +kernel, by decide +kernel, by decide +kernel⟩
  obtain ⟨r, e1, e2, e3, e4⟩ := ev_pf G0_ok hv
  rw [e4.mpr G0_ring] at e1
  exact e1
theorem law_hm (a : Addr) (ns : List Int) : ∃ ρ' s', m_lawB (lawEnv 17 a) (src0 a ns) = some (.rt (.bl true), ρ', s') := by
  obtain ⟨N, hN, eN⟩ : ∃ N : Int, N = 5 ∧ lbN 5 = lbN N := ⟨5, rfl, rfl⟩
  have key : wS m_lawB (lawEnv 17 a) (src0 a ns) fun c _ _ => c = .rt (.bl true) := by
    rw [lb_eq, lbN_eq, eN, show lawEnv 17 a = F19 a none none none none none none none none none none none none none none from rfl]
    rw [w_sSeq]
    refine lbN_ev (a := a) (s := src0 a ns) hN rfl fun s => ?_
    show wS (sSeq lb15 _) _ _ _
    unfold lb15
    rw [w_sSeq, w_sAsg]
    simp only [↓w_eTup4, ↓w_eTup3, ↓w_eTup2, ↓w_eC]
    show wS _ (F19 a none (some (.sh G0.d)) none none none none none none none none none none none none) s _
    obtain ⟨rest, e1⟩ := last1
    have e2 := last2
    generalize G0.d = g at e1 e2 ⊢
    rw [w_sRet]
    simp only [F19]
    simp only [↓w_e2, ↓w_eLst2, ↓w_eCallP, ↓w_aCons, ↓w_aNil, ↓w_eC, ↓w_eTup3, ↓v3]
    rw [e1, wD_some, show dIx (.tup (.str "ring" :: rest)) (.int 0) = some (.str "ring") from o_ix0 _, wD_some, e2, wD_some]
    have : dEq (.lst [.str "ring", .non]) (.lst [.str "ring", .non]) = some (.bl true) := by
      unfold dEq
      rw [if_pos ⟨by decide +kernel, by decide +kernel⟩, show D.eqv (.lst [.str "ring", .non]) (.lst [.str "ring", .non]) = true from by decide +kernel]
    rw [this, wD_some]
  unfold wS at key
  cases e : m_lawB (lawEnv 17 a) (src0 a ns) with
  | none => rw [e] at key; exact key.elim
  | some t =>
    obtain ⟨c, ρ, s⟩ := t
    rw [e] at key
    exact ⟨ρ, s, by rw [show c = .rt (.bl true) from key]⟩
end Fw
/-! ## Okis_whole -/
set_option Elab.async false
set_option linter.all false
set_option maxRecDepth 100000
set_option maxHeartbeats 4000000
namespace Fw
open PySem PySem.Spec PyProof.Rows L2
section
variable {P : Program} {w : World} {K : PySem.W.Frag} {mg : Str → Option Value} {base : Heap}
/-! ### is_whole -/
abbrev s_is_whole : Stmt := topS 1
theorem sc_is_whole : FnScope ["value"] ["value"] (defScope s_is_whole) := ⟨rfl, rfl, rfl, by decide +kernel, rfl, by decide +kernel, by decide +kernel⟩
theorem ok_is_whole {f : Addr} {fd : FuncData} (F : Fun K "is_whole" "is_whole" s_is_whole f fd) (b_bool : mg "bool" = none) (b_int : mg "int" = none) (b_isinstance : mg "isinstance" = none) : FnG P w K mg base CX0 1 f fd ["value"] (spP K m_is_whole) := by
  have sc := sc_is_whole
  refine fn_p F sc (by decide) (fun cdv A outer s H E hr => ?_)
  refine ⟨_, (pss_one (ps_ret (pe_and (pe_callB (callk (K := K) rIsi rfl call_isi) (by rfl) b_isinstance (by decide +kernel) (pa_cons (pv 0) (pa_cons (pe_bltn (by rfl) b_int (by decide +kernel) (v := .ty "int") rfl) pa_nil))) (pe_one (pe_not (pe_callB (callk (K := K) rIsi rfl call_isi) (by rfl) b_isinstance (by decide +kernel) (pa_cons (pv 0) (pa_cons (pe_bltn (by rfl) b_bool (by decide +kernel) (v := .ty "bool") rfl) pa_nil)))))))), ?_⟩
  exact (ss_ret (se_and (se_isi isi_int se_v) (se_notV (se_isi isi_bool se_v))))
end
end Fw
/-! ## Okare_wholes -/
set_option Elab.async false
set_option linter.all false
set_option maxRecDepth 100000
set_option maxHeartbeats 4000000
namespace Fw
open PySem PySem.Spec PyProof.Rows L2
section
variable {P : Program} {w : World} {K : PySem.W.Frag} {mg : Str → Option Value} {base : Heap}
/-! ### are_wholes -/
abbrev s_are_wholes : Stmt := topS 2
theorem sc_are_wholes : FnScope ["value", "many", "one"] ["value", "many"] (defScope s_are_wholes) := ⟨rfl, rfl, rfl, by decide +kernel, rfl, by decide +kernel, by decide +kernel⟩
theorem ok_are_wholes {f : Addr} {fd : FuncData} (F : Fun K "are_wholes" "are_wholes" s_are_wholes f fd) (c_is_whole : Callee P w K mg base 1 "is_whole" ["value"] (spP K m_is_whole)) (b_all : mg "all" = none) (b_isinstance : mg "isinstance" = none) (b_len : mg "len" = none) (b_tuple : mg "tuple" = none) : FnG P w K mg base CX0 2 f fd ["value", "many"] (spP K m_are_wholes) := by
  obtain ⟨f_is_whole, fd_is_whole, mg_is_whole, kp_is_whole, b_is_whole, g_is_whole⟩ := c_is_whole
  have sc := sc_are_wholes
  refine fn_p F sc (by decide) (fun cdv A outer s H E hr => ?_)
  refine ⟨_, (pss_one (ps_ret (pe_and (pe_callB (callk (K := K) rIsi rfl call_isi) (by rfl) b_isinstance (by decide +kernel) (pa_cons (pv 0) (pa_cons (pe_bltn (by rfl) b_tuple (by decide +kernel) (v := .ty "tuple") rfl) pa_nil))) (pe_and (pe_cmpR (opk (K := K) rEqD rfl (op_eqD hr.units)) (pe_callB (callk (K := K) rLenA rfl call_len_seq) (by rfl) b_len PySem.boot_len (pa_cons (pv 0) pa_nil)) (pv 1) (nomark _)) (pe_one (pe_callB (callk (K := K) rAll rfl (cr_all rfl)) (by rfl) b_all (by decide +kernel) (pa_cons (pe_lc (own := [("one", 2)]) (g := (gName 2)) rfl sc.nd (pi_anyK (K := K) rfl (pv 0)) (blkOk_by (N := ["value", "many", "one"]) (sc := defScope s_are_wholes) (by decide +kernel)) (fun _ _ _ _ _ => (pg_name (i := 2) sc.nd rfl (by first | exact Or.inl rfl | exact Or.inr rfl))) (fun _ _ _ _ _ => pts_nil) (fun _ _ _ _ _ => (pe_callG g_is_whole (hr.mono (by decide)) (by rfl) mg_is_whole kp_is_whole b_is_whole .nil pass0 (pa_cons (pv 2) pa_nil)))) pa_nil))))))), ?_⟩
  exact (ss_ret (se_and (se_isi isi_tuple se_v) (se_and (se_2 (r2_flat f2_eq) (se_cb1 (b1 f1_len) se_v) se_v) (se_cb1 (b1 f1_all) (SemN.e (sn_lc (own := [2]) (si_any se_v) sg_n st_yes (se_callP (sa_cons se_v sa_nil)) (by decide)))))))
end
end Fw
/-! ## Okend_from -/
set_option Elab.async false
set_option linter.all false
set_option maxRecDepth 100000
set_option maxHeartbeats 4000000
namespace Fw
open PySem PySem.Spec PyProof.Rows L2
section
variable {P : Program} {w : World} {K : PySem.W.Frag} {mg : Str → Option Value} {base : Heap}
/-! ### end_from -/
abbrev s_end_from : Stmt := topS 3
theorem sc_end_from : FnScope ["bounded", "end"] ["bounded", "end"] (defScope s_end_from) := ⟨rfl, rfl, rfl, by decide +kernel, rfl, by decide +kernel, by decide +kernel⟩
theorem ok_end_from {f : Addr} {fd : FuncData} (F : Fun K "end_from" "end_from" s_end_from f fd) : FnG P w K mg base CX0 1 f fd ["bounded", "end"] (spP K m_end_from) := by
  have sc := sc_end_from
  refine fn_p F sc (by decide) (fun cdv A outer s H E hr => ?_)
  refine ⟨_, (pss_one (ps_ret (pe_ix (ixk (K := K) rIx rfl ix_seq) (pe_ix (ixk (K := K) rIx rfl ix_seq) (pe_ix (ixk (K := K) rIx rfl ix_seq) (pv 0) pe_int (fun _ _ => rfl)) (pe_op op_fdiv (pv 1) pe_int) (fun _ _ => rfl)) (pe_op op_mod (pv 1) pe_int) (fun _ _ => rfl)))), ?_⟩
  exact (ss_ret (se_2 r2_ix (se_2 r2_ix (se_2 r2_ix se_v se_int) (se_2 (r2_flat f2_fdiv) se_v se_int)) (se_2 (r2_flat f2_mod) se_v se_int)))
end
end Fw
/-! ## Okend_to -/
set_option Elab.async false
set_option linter.all false
set_option maxRecDepth 100000
set_option maxHeartbeats 4000000
namespace Fw
open PySem PySem.Spec PyProof.Rows L2
section
variable {P : Program} {w : World} {K : PySem.W.Frag} {mg : Str → Option Value} {base : Heap}
/-! ### end_to -/
abbrev s_end_to : Stmt := topS 4
theorem sc_end_to : FnScope ["bounded", "end"] ["bounded", "end"] (defScope s_end_to) := ⟨rfl, rfl, rfl, by decide +kernel, rfl, by decide +kernel, by decide +kernel⟩
theorem ok_end_to {f : Addr} {fd : FuncData} (F : Fun K "end_to" "end_to" s_end_to f fd) : FnG P w K mg base CX0 1 f fd ["bounded", "end"] (spP K m_end_to) := by
  have sc := sc_end_to
  refine fn_p F sc (by decide) (fun cdv A outer s H E hr => ?_)
  refine ⟨_, (pss_one (ps_ret (pe_ix (ixk (K := K) rIx rfl ix_seq) (pe_ix (ixk (K := K) rIx rfl ix_seq) (pe_ix (ixk (K := K) rIx rfl ix_seq) (pv 0) pe_int (fun _ _ => rfl)) (pe_op op_fdiv (pv 1) pe_int) (fun _ _ => rfl)) (pe_op op_sub pe_int (pe_op op_mod (pv 1) pe_int)) (fun _ _ => rfl)))), ?_⟩
  exact (ss_ret (se_2 r2_ix (se_2 r2_ix (se_2 r2_ix se_v se_int) (se_2 (r2_flat f2_fdiv) se_v se_int)) (se_2 (r2_flat f2_sub) se_int (se_2 (r2_flat f2_mod) se_v se_int))))
end
end Fw
/-! ## Okcost_of_end -/
set_option Elab.async false
set_option linter.all false
set_option maxRecDepth 100000
set_option maxHeartbeats 4000000
namespace Fw
open PySem PySem.Spec PyProof.Rows L2
section
variable {P : Program} {w : World} {K : PySem.W.Frag} {mg : Str → Option Value} {base : Heap}
/-! ### cost_of_end -/
abbrev s_cost_of_end : Stmt := topS 5
theorem sc_cost_of_end : FnScope ["bounded", "end"] ["bounded", "end"] (defScope s_cost_of_end) := ⟨rfl, rfl, rfl, by decide +kernel, rfl, by decide +kernel, by decide +kernel⟩
theorem ok_cost_of_end {f : Addr} {fd : FuncData} (F : Fun K "cost_of_end" "cost_of_end" s_cost_of_end f fd) : FnG P w K mg base CX0 1 f fd ["bounded", "end"] (spP K m_cost_of_end) := by
  have sc := sc_cost_of_end
  refine fn_p F sc (by decide) (fun cdv A outer s H E hr => ?_)
  refine ⟨_, (pss_one (ps_ret (pe_ifExp (pt_cmpR (opk (K := K) rEqD rfl (op_eqD hr.units)) (pe_op op_mod (pv 1) pe_int) pe_int (nomark _)) (pe_ix (ixk (K := K) rIx rfl ix_seq) (pe_ix (ixk (K := K) rIx rfl ix_seq) (pv 0) pe_int (fun _ _ => rfl)) (pe_op op_fdiv (pv 1) pe_int) (fun _ _ => rfl)) (pe_un un_neg (pe_ix (ixk (K := K) rIx rfl ix_seq) (pe_ix (ixk (K := K) rIx rfl ix_seq) (pv 0) pe_int (fun _ _ => rfl)) (pe_op op_fdiv (pv 1) pe_int) (fun _ _ => rfl)))))), ?_⟩
  exact (ss_ret (se_if (st_e (se_2 (r2_flat f2_eq) (se_2 (r2_flat f2_mod) se_v se_int) se_int)) (se_2 r2_ix (se_2 r2_ix se_v se_int) (se_2 (r2_flat f2_fdiv) se_v se_int)) (se_1 r1_neg (se_2 r2_ix (se_2 r2_ix se_v se_int) (se_2 (r2_flat f2_fdiv) se_v se_int)))))
end
end Fw
/-! ## Okall_ends -/
set_option Elab.async false
set_option linter.all false
set_option maxRecDepth 100000
set_option maxHeartbeats 4000000
namespace Fw
open PySem PySem.Spec PyProof.Rows L2
section
variable {P : Program} {w : World} {K : PySem.W.Frag} {mg : Str → Option Value} {base : Heap}
/-! ### all_ends -/
abbrev s_all_ends : Stmt := topS 6
theorem sc_all_ends : FnScope ["bounded"] ["bounded"] (defScope s_all_ends) := ⟨rfl, rfl, rfl, by decide +kernel, rfl, by decide +kernel, by decide +kernel⟩
theorem ok_all_ends {f : Addr} {fd : FuncData} (F : Fun K "all_ends" "all_ends" s_all_ends f fd) (b_len : mg "len" = none) (b_list : mg "list" = none) (b_range : mg "range" = none) : FnG P w K mg base CX0 1 f fd ["bounded"] (spP K m_all_ends) := by
  have sc := sc_all_ends
  refine fn_p F sc (by decide) (fun cdv A outer s H E hr => ?_)
  refine ⟨_, (pss_one (ps_ret (pe_listRg rfl (by rfl) b_list (prg_1 (by rfl) b_range (pe_op (opk (K := K) rMulA rfl op_mulA) pe_int (pe_callB (callk (K := K) rLenA rfl call_len_seq) (by rfl) b_len PySem.boot_len (pa_cons (pe_ix (ixk (K := K) rIx rfl ix_seq) (pv 0) pe_int (fun _ _ => rfl)) pa_nil))))))), ?_⟩
  exact (ss_ret (SemN.e (sn_listR1 (se_2 r2_mul se_int (se_cb1 (b1 f1_len) (se_2 r2_ix se_v se_int))))))
end
end Fw
/-! ## Okway_cost -/
set_option Elab.async false
set_option linter.all false
set_option maxRecDepth 100000
set_option maxHeartbeats 4000000
namespace Fw
open PySem PySem.Spec PyProof.Rows L2
section
variable {P : Program} {w : World} {K : PySem.W.Frag} {mg : Str → Option Value} {base : Heap}
/-! ### way_cost -/
abbrev s_way_cost : Stmt := topS 7
theorem sc_way_cost : FnScope ["bounded", "ends", "end"] ["bounded", "ends"] (defScope s_way_cost) := ⟨rfl, rfl, rfl, by decide +kernel, rfl, by decide +kernel, by decide +kernel⟩
theorem ok_way_cost {f : Addr} {fd : FuncData} (F : Fun K "way_cost" "way_cost" s_way_cost f fd) (c_cost_of_end : Callee P w K mg base 1 "cost_of_end" ["bounded", "end"] (spP K m_cost_of_end)) (b_sum : mg "sum" = none) : FnG P w K mg base CX0 2 f fd ["bounded", "ends"] (spP K m_way_cost) := by
  obtain ⟨f_cost_of_end, fd_cost_of_end, mg_cost_of_end, kp_cost_of_end, b_cost_of_end, g_cost_of_end⟩ := c_cost_of_end
  have sc := sc_way_cost
  refine fn_p F sc (by decide) (fun cdv A outer s H E hr => ?_)
  refine ⟨_, (pss_one (ps_ret (pe_callB (callk (K := K) rSum rfl (cr_sum rfl)) (by rfl) b_sum (by decide +kernel) (pa_cons (pe_lc (own := [("end", 2)]) (g := (gName 2)) rfl sc.nd (pi_anyK (K := K) rfl (pv 1)) (blkOk_by (N := ["bounded", "ends", "end"]) (sc := defScope s_way_cost) (by decide +kernel)) (fun _ _ _ _ _ => (pg_name (i := 2) sc.nd rfl (by first | exact Or.inl rfl | exact Or.inr rfl))) (fun _ _ _ _ _ => pts_nil) (fun _ _ _ _ _ => (pe_callG g_cost_of_end (hr.mono (by decide)) (by rfl) mg_cost_of_end kp_cost_of_end b_cost_of_end .nil pass0 (pa_cons (pv 0) (pa_cons (pv 2) pa_nil))))) pa_nil)))), ?_⟩
  exact (ss_ret (se_cb1 (b1 f1_sum) (SemN.e (sn_lc (own := [2]) (si_any se_v) sg_n st_yes (se_callP (sa_cons se_v (sa_cons se_v sa_nil))) (by decide)))))
end
end Fw
/-! ## Okway_break -/
set_option Elab.async false
set_option linter.all false
set_option maxRecDepth 100000
set_option maxHeartbeats 4000000
namespace Fw
open PySem PySem.Spec PyProof.Rows L2
section
variable {P : Program} {w : World} {K : PySem.W.Frag} {mg : Str → Option Value} {base : Heap}
/-! ### way_break -/
abbrev s_way_break : Stmt := topS 8
theorem sc_way_break : FnScope ["bounded", "x", "ends", "i", "end"] ["bounded", "x", "ends"] (defScope s_way_break) := ⟨rfl, rfl, rfl, by decide +kernel, rfl, by decide +kernel, by decide +kernel⟩
theorem ok_way_break {f : Addr} {fd : FuncData} (F : Fun K "way_break" "way_break" s_way_break f fd) (c_end_from : Callee P w K mg base 1 "end_from" ["bounded", "end"] (spP K m_end_from)) (c_end_to : Callee P w K mg base 1 "end_to" ["bounded", "end"] (spP K m_end_to)) (b_enumerate : mg "enumerate" = none) : FnG P w K mg base CX0 2 f fd ["bounded", "x", "ends"] (spP K m_way_break) := by
  obtain ⟨f_end_from, fd_end_from, mg_end_from, kp_end_from, b_end_from, g_end_from⟩ := c_end_from
  obtain ⟨f_end_to, fd_end_to, mg_end_to, kp_end_to, b_end_to, g_end_to⟩ := c_end_to
  have sc := sc_way_break
  refine fn_p F sc (by decide) (fun cdv A outer s H E hr => ?_)
  refine ⟨_, (pss_cons (ps_for PassesOwn.never rfl (pi_enumK (K := K) rfl (by rfl) b_enumerate (pa_cons (pv 2) pa_nil)) (pg_tup rfl (pgs_cons (pg_name (i := 3) sc.nd rfl (by first | exact Or.inl rfl | exact Or.inr rfl)) (pgs_cons (pg_name (i := 4) sc.nd rfl (by first | exact Or.inl rfl | exact Or.inr rfl)) pgs_nil)))
      (pss_cons (ps_if (pt_cmpR (opk (K := K) rNeD rfl (op_neD hr.units)) (pe_callG g_end_from (hr.mono (by decide)) (by rfl) mg_end_from kp_end_from b_end_from .nil pass0 (pa_cons (pv 0) (pa_cons (pv 4) pa_nil))) (pv 1) (nomark _))
      (pss_one (ps_ret (pv 3)))
      pss_nil)
      (pss_one (ps_set (i := 1) sc.nd rfl (by first | exact Or.inl rfl | exact Or.inr rfl) (pe_callG g_end_to (hr.mono (by decide)) (by rfl) mg_end_to kp_end_to b_end_to .nil pass0 (pa_cons (pv 0) (pa_cons (pv 4) pa_nil)))))))
      (pss_one (ps_ret pe_non))), ?_⟩
  exact (ss_seq (ss_for (dead := [2, 3, 4]) (si_enum se_v) (sg_tup (sgs_cons sg_n (sgs_cons sg_n sgs_nil)) (gn_cons (gn_cons gn_nil)))
      (ss_seq (ss_if (st_e (se_2 (r2_flat f2_ne) (se_callP (sa_cons se_v (sa_cons se_v sa_nil))) se_v))
      (ss_ret se_v)
      ss_nx)
      (ss_asg (se_callP (sa_cons se_v (sa_cons se_v sa_nil))) sg_n)))
      (ss_ret se_non))
end
end Fw
/-! ## Okway_end -/
set_option Elab.async false
set_option linter.all false
set_option maxRecDepth 100000
set_option maxHeartbeats 4000000
namespace Fw
open PySem PySem.Spec PyProof.Rows L2
section
variable {P : Program} {w : World} {K : PySem.W.Frag} {mg : Str → Option Value} {base : Heap}
/-! ### way_end -/
abbrev s_way_end : Stmt := topS 9
theorem sc_way_end : FnScope ["bounded", "x", "ends"] ["bounded", "x", "ends"] (defScope s_way_end) := ⟨rfl, rfl, rfl, by decide +kernel, rfl, by decide +kernel, by decide +kernel⟩
theorem ok_way_end {f : Addr} {fd : FuncData} (F : Fun K "way_end" "way_end" s_way_end f fd) (c_end_to : Callee P w K mg base 1 "end_to" ["bounded", "end"] (spP K m_end_to)) (b_len : mg "len" = none) : FnG P w K mg base CX0 2 f fd ["bounded", "x", "ends"] (spP K m_way_end) := by
  obtain ⟨f_end_to, fd_end_to, mg_end_to, kp_end_to, b_end_to, g_end_to⟩ := c_end_to
  have sc := sc_way_end
  refine fn_p F sc (by decide) (fun cdv A outer s H E hr => ?_)
  refine ⟨_, (pss_one (ps_ret (pe_ifExp (pt_cmpR op_gt (pe_callB (callk (K := K) rLenA rfl call_len_seq) (by rfl) b_len PySem.boot_len (pa_cons (pv 2) pa_nil)) pe_int (nomark _)) (pe_callG g_end_to (hr.mono (by decide)) (by rfl) mg_end_to kp_end_to b_end_to .nil pass0 (pa_cons (pv 0) (pa_cons (pe_ix (ixk (K := K) rIx rfl ix_seq) (pv 2) (pe_un un_neg pe_int) (fun _ _ => rfl)) pa_nil))) (pv 1)))), ?_⟩
  exact (ss_ret (se_if (st_e (se_2 (r2_flat f2_gt) (se_cb1 (b1 f1_len) se_v) se_int)) (se_callP (sa_cons se_v (sa_cons (se_2 r2_ix se_v (se_1 r1_neg se_int)) sa_nil))) se_v))
end
end Fw
/-! ## Okbroken_road -/
set_option Elab.async false
set_option linter.all false
set_option maxRecDepth 100000
set_option maxHeartbeats 4000000
namespace Fw
open PySem PySem.Spec PyProof.Rows L2
section
variable {P : Program} {w : World} {K : PySem.W.Frag} {mg : Str → Option Value} {base : Heap}
/-! ### broken_road -/
abbrev s_broken_road : Stmt := topS 10
theorem sc_broken_road : FnScope ["bounded", "heights", "road", "a", "b"] ["bounded", "heights"] (defScope s_broken_road) := ⟨rfl, rfl, rfl, by decide +kernel, rfl, by decide +kernel, by decide +kernel⟩
theorem ok_broken_road {f : Addr} {fd : FuncData} (F : Fun K "broken_road" "broken_road" s_broken_road f fd) (b_enumerate : mg "enumerate" = none) : FnG P w K mg base CX0 1 f fd ["bounded", "heights"] (spP K m_broken_road) := by
  have sc := sc_broken_road
  refine fn_p F sc (by decide) (fun cdv A outer s H E hr => ?_)
  refine ⟨_, (pss_cons (ps_for PassesOwn.never rfl (pi_enumK (K := K) rfl (by rfl) b_enumerate (pa_cons (pe_ix (ixk (K := K) rIx rfl ix_seq) (pv 0) pe_int (fun _ _ => rfl)) pa_nil)) (pg_tup rfl (pgs_cons (pg_name (i := 2) sc.nd rfl (by first | exact Or.inl rfl | exact Or.inr rfl)) (pgs_cons (pg_tup rfl (pgs_cons (pg_name (i := 3) sc.nd rfl (by first | exact Or.inl rfl | exact Or.inr rfl)) (pgs_cons (pg_name (i := 4) sc.nd rfl (by first | exact Or.inl rfl | exact Or.inr rfl)) pgs_nil))) pgs_nil)))
      (pss_one (ps_if (pt_not (pt_chain op_le op_le (pe_ix (ixk (K := K) rIx rfl ix_seq) (pe_ix (ixk (K := K) rIx rfl ix_seq) (pv 0) pe_int (fun _ _ => rfl)) (pv 2) (fun _ _ => rfl)) (pe_op op_sub (pe_ix (ixk (K := K) rIx rfl ix_seq) (pv 1) (pv 4) (fun _ _ => rfl)) (pe_ix (ixk (K := K) rIx rfl ix_seq) (pv 1) (pv 3) (fun _ _ => rfl))) (pe_ix (ixk (K := K) rIx rfl ix_seq) (pe_ix (ixk (K := K) rIx rfl ix_seq) (pv 0) pe_int (fun _ _ => rfl)) (pv 2) (fun _ _ => rfl))))
      (pss_one (ps_ret (pv 2)))
      pss_nil)))
      (pss_one (ps_ret pe_non))), ?_⟩
  exact (ss_seq (ss_for (dead := [2, 3, 4]) (si_enum (se_2 r2_ix se_v se_int)) (sg_tup (sgs_cons sg_n (sgs_cons (sg_tup (sgs_cons sg_n (sgs_cons sg_n sgs_nil)) (gn_cons (gn_cons gn_nil))) sgs_nil)) (gn_cons (gn_cons gn_nil)))
      (ss_if (st_not (st_e (se_chain (r2_flat f2_le) (r2_flat f2_le) (se_2 r2_ix (se_2 r2_ix se_v se_int) se_v) (se_2 (r2_flat f2_sub) (se_2 r2_ix se_v se_v) (se_2 r2_ix se_v se_v)) (se_2 r2_ix (se_2 r2_ix se_v se_int) se_v))))
      (ss_ret se_v)
      ss_nx))
      (ss_ret se_non))
end
end Fw
/-! ## Oklowered -/
set_option Elab.async false
set_option linter.all false
set_option maxRecDepth 100000
set_option maxHeartbeats 4000000
namespace Fw
open PySem PySem.Spec PyProof.Rows L2
section
variable {P : Program} {w : World} {K : PySem.W.Frag} {mg : Str → Option Value} {base : Heap}
/-! ### lowered -/
abbrev s_lowered : Stmt := topS 15
theorem sc_lowered : FnScope ["bounded", "found", "last", "late", "lap", "end", "a", "b"] ["bounded", "found"] (defScope s_lowered) := ⟨rfl, rfl, rfl, by decide +kernel, rfl, by decide +kernel, by decide +kernel⟩
theorem ok_lowered {f : Addr} {fd : FuncData} (F : Fun K "lowered" "lowered" s_lowered f fd) (c_all_ends : Callee P w K mg base 1 "all_ends" ["bounded"] (spP K m_all_ends)) (c_cost_of_end : Callee P w K mg base 1 "cost_of_end" ["bounded", "end"] (spP K m_cost_of_end)) (c_end_from : Callee P w K mg base 1 "end_from" ["bounded", "end"] (spP K m_end_from)) (c_end_to : Callee P w K mg base 1 "end_to" ["bounded", "end"] (spP K m_end_to)) (b_dict : mg "dict" = none) (b_range : mg "range" = none) : FnG P w K mg base CX0 2 f fd ["bounded", "found"] (spP K m_lowered) := by
  obtain ⟨f_all_ends, fd_all_ends, mg_all_ends, kp_all_ends, b_all_ends, g_all_ends⟩ := c_all_ends
  obtain ⟨f_cost_of_end, fd_cost_of_end, mg_cost_of_end, kp_cost_of_end, b_cost_of_end, g_cost_of_end⟩ := c_cost_of_end
  obtain ⟨f_end_from, fd_end_from, mg_end_from, kp_end_from, b_end_from, g_end_from⟩ := c_end_from
  obtain ⟨f_end_to, fd_end_to, mg_end_to, kp_end_to, b_end_to, g_end_to⟩ := c_end_to
  have sc := sc_lowered
  refine fn_p F sc (by decide) (fun cdv A outer s H E hr => ?_)
  refine ⟨_, (pss_cons (ps_par3 (i := 1) (j := 2) (l := 3) rfl sc.nd rfl rfl rfl (by decide) (by decide) (by decide) rfl rfl rfl (pa_cons (pe_callTy (callk (K := K) rDictC rfl call_dictD) (by rfl) b_dict (by decide +kernel) (pa_cons (pv 1) pa_nil)) (pa_cons pe_dnewK (pa_cons pe_non pa_nil))) (by first | rfl | (with_unfolding_all rfl) | (decide +kernel)))
      (pss_cons (ps_for PassesOwn.never rfl (pi_range1 rfl b_range (pa_cons (pe_op (opk (K := K) rAddA rfl op_addA) (pe_ix (ixk (K := K) rIx rfl ix_seq) (pv 0) pe_int (fun _ _ => rfl)) pe_int) pa_nil)) (pg_name (i := 4) sc.nd rfl (by first | exact Or.inl rfl | exact Or.inr rfl))
      (pss_cons (ps_set (i := 3) sc.nd rfl (by first | exact Or.inl rfl | exact Or.inr rfl) pe_non)
      (pss_cons (ps_for PassesOwn.never rfl (pi_anyK (K := K) rfl (pe_callG g_all_ends (hr.mono (by decide)) (by rfl) mg_all_ends kp_all_ends b_all_ends .nil pass0 (pa_cons (pv 0) pa_nil))) (pg_name (i := 5) sc.nd rfl (by first | exact Or.inl rfl | exact Or.inr rfl))
      (pss_cons (ps_par (i := 6) (j := 7) rfl sc.nd rfl rfl (by decide) rfl rfl (pa_cons (pe_callG g_end_from (hr.mono (by decide)) (by rfl) mg_end_from kp_end_from b_end_from .nil pass0 (pa_cons (pv 0) (pa_cons (pv 5) pa_nil))) (pa_cons (pe_callG g_end_to (hr.mono (by decide)) (by rfl) mg_end_to kp_end_to b_end_to .nil pass0 (pa_cons (pv 0) (pa_cons (pv 5) pa_nil))) pa_nil)) (by first | rfl | (with_unfolding_all rfl) | (decide +kernel)))
      (pss_one (ps_if (PW.pt (pw_and (pt_cmp (pc_din (hu_of hr.toRoom) (pv 6) (pv 1))) (pw_and1 (PW.pt (pw_or (pt_cmp (pc_dnotin (hu_of hr.toRoom) (pv 7) (pv 1))) (pw_or1 (pt_cmpR op_lt (pe_op (opk (K := K) rAddA rfl op_addA) (pe_dget (hu_of hr.toRoom) (pv 1) (pv 6) (fun _ _ => rfl)) (pe_callG g_cost_of_end (hr.mono (by decide)) (by rfl) mg_cost_of_end kp_cost_of_end b_cost_of_end .nil pass0 (pa_cons (pv 0) (pa_cons (pv 5) pa_nil)))) (pe_dget (hu_of hr.toRoom) (pv 1) (pv 7) (fun _ _ => rfl)) (nomark _))))))))
      (pss_one (ps_asg (pe_tup (pa_cons (pe_op (opk (K := K) rAddA rfl op_addA) (pe_dget (hu_of hr.toRoom) (pv 1) (pv 6) (fun _ _ => rfl)) (pe_callG g_cost_of_end (hr.mono (by decide)) (by rfl) mg_cost_of_end kp_cost_of_end b_cost_of_end .nil pass0 (pa_cons (pv 0) (pa_cons (pv 5) pa_nil)))) (pa_cons (pv 5) (pa_cons (pv 7) pa_nil)))) (pg_tup rfl (pgs_cons (pg_sub (pv 1) (pv 7) (set_dict (hu_of hr.toRoom))) (pgs_cons (pg_sub (pv 2) (pv 7) (set_dict (hu_of hr.toRoom))) (pgs_cons (pg_name (i := 3) sc.nd rfl (by first | exact Or.inl rfl | exact Or.inr rfl)) pgs_nil))))))
      pss_nil))))
      (pss_one (ps_if (pt_cmp (pc_isN (pv 3)))
      (pss_one ps_break)
      pss_nil)))))
      (pss_one (ps_ret (pe_tup (pa_cons (pv 1) (pa_cons (pv 2) (pa_cons (pv 3) pa_nil)))))))), ?_⟩
  exact (ss_seq (ss_par3 (sp_nD (snd_b1 bnd_dictC se_v) (sp_nD snd_dnew (sp_e se_non sp_nil))) (by decide))
      (ss_seq (ss_for (dead := [4, 5, 6, 7]) (si_r1 (se_2 r2_add (se_2 r2_ix se_v se_int) se_int)) sg_n
      (ss_seq (ss_asg se_non sg_n)
      (ss_seq (ss_for (dead := [4, 5, 6, 7]) (si_any (se_callP (sa_cons se_v sa_nil))) sg_n
      (ss_seq (ss_par2 (sp_e (se_callP (sa_cons se_v (sa_cons se_v sa_nil))) (sp_e (se_callP (sa_cons se_v (sa_cons se_v sa_nil))) sp_nil)) (by decide))
      (ss_if (st_and (st_eB (se_blR f2_kin se_v)) (st_or (st_eB (se_blR f2_knin se_v)) (st_e (se_2 (r2_flat f2_lt) (se_2 r2_add (se_blGet se_v) (se_callP (sa_cons se_v (sa_cons se_v sa_nil)))) (se_blGet se_v)))))
      (ss_masg (se_tup (sa_cons (se_2 r2_add (se_blGet se_v) (se_callP (sa_cons se_v (sa_cons se_v sa_nil)))) (sa_cons se_v (sa_cons se_v sa_nil)))) (sm_tup (sms_cons (sm_k se_v) (sms_cons (sm_k se_v) (sms_cons sm_n sms_nil)))))
      ss_nx)))
      (ss_if (st_eB (se_isN se_v))
      ss_bk
      ss_nx))))
      (ss_ret (se_tup (sa_cons se_v (sa_cons se_v (sa_cons se_v sa_nil)))))))
end
end Fw
/-! ## Oktight_ring -/
set_option Elab.async false
set_option linter.all false
set_option maxRecDepth 100000
set_option maxHeartbeats 4000000
namespace Fw
open PySem PySem.Spec PyProof.Rows L2
section
variable {P : Program} {w : World} {K : PySem.W.Frag} {mg : Str → Option Value} {base : Heap}
/-! ### tight_ring -/
abbrev s_tight_ring : Stmt := topS 16
theorem sc_tight_ring : FnScope ["bounded", "found", "last", "late", "met", "ring", "x"] ["bounded"] (defScope s_tight_ring) := ⟨rfl, rfl, rfl, by decide +kernel, rfl, by decide +kernel, by decide +kernel⟩
theorem ok_tight_ring {f : Addr} {fd : FuncData} (F : Fun K "tight_ring" "tight_ring" s_tight_ring f fd) (c_end_from : Callee P w K mg base 1 "end_from" ["bounded", "end"] (spP K m_end_from)) (c_lowered : Callee P w K mg base 2 "lowered" ["bounded", "found"] (spP K m_lowered)) (b_dict : mg "dict" = none) (b_range : mg "range" = none) (b_tuple : mg "tuple" = none) : FnG P w K mg base CX0 3 f fd ["bounded"] (spP K m_tight_ring) := by
  obtain ⟨f_end_from, fd_end_from, mg_end_from, kp_end_from, b_end_from, g_end_from⟩ := c_end_from
  obtain ⟨f_lowered, fd_lowered, mg_lowered, kp_lowered, b_lowered, g_lowered⟩ := c_lowered
  have sc := sc_tight_ring
  refine fn_p F sc (by decide) (fun cdv A outer s H E hr => ?_)
  refine ⟨_, (pss_cons (ps_asg (pe_callG g_lowered (hr.mono (by decide)) (by rfl) mg_lowered kp_lowered b_lowered .nil pass0 (pa_cons (pv 0) (pa_cons (pe_callTy (callk (K := K) rDictP rfl (call_dictP rfl)) (by rfl) b_dict (by decide +kernel) (pa_cons (pe_lc (own := [("x", 6)]) (g := (gName 6)) rfl sc.nd (pi_range1 rfl b_range (pa_cons (pe_ix (ixk (K := K) rIx rfl ix_seq) (pv 0) pe_int (fun _ _ => rfl)) pa_nil)) (blkOk_by (N := ["bounded", "found", "last", "late", "met", "ring", "x"]) (sc := defScope s_tight_ring) (by decide +kernel)) (fun _ _ _ _ _ => (pg_name (i := 6) sc.nd rfl (by first | exact Or.inl rfl | exact Or.inr rfl))) (fun _ _ _ _ _ => pts_nil) (fun _ _ _ _ _ => (pe_tup (pa_cons (pv 6) (pa_cons pe_int pa_nil))))) pa_nil)) pa_nil))) (pg_tup rfl (pgs_cons (pg_name (i := 1) sc.nd rfl (by first | exact Or.inl rfl | exact Or.inr rfl)) (pgs_cons (pg_name (i := 2) sc.nd rfl (by first | exact Or.inl rfl | exact Or.inr rfl)) (pgs_cons (pg_name (i := 3) sc.nd rfl (by first | exact Or.inl rfl | exact Or.inr rfl)) pgs_nil)))))
      (pss_cons (ps_if (pt_cmp (pc_isN (pv 3)))
      (pss_one (ps_ret pe_non))
      pss_nil)
      (pss_cons (ps_set (i := 4) sc.nd rfl (by first | exact Or.inl rfl | exact Or.inr rfl) (pe_lst pa_nil))
      (pss_cons (ps_while PassesOwn.never (pt_cmpR (opk (K := K) rNotInA rfl (op_notInA (room65 hr))) (pv 3) (pv 4) (by with_unfolding_all rfl))
      (pss_cons (ps_expr (pe_bmK (K := K) rfl PySem.F.plainAttrs_list PySem.F.slot_list_append PySem.F.type_list_append mt_append (pv 4) (pa_cons (pv 3) pa_nil)))
      (pss_one (ps_set (i := 3) sc.nd rfl (by first | exact Or.inl rfl | exact Or.inr rfl) (pe_callG g_end_from (hr.mono (by decide)) (by rfl) mg_end_from kp_end_from b_end_from .nil pass0 (pa_cons (pv 0) (pa_cons (pe_dget (hu_of hr.toRoom) (pv 2) (pv 3) (fun _ _ => rfl)) pa_nil)))))))
      (pss_cons (ps_set (i := 5) sc.nd rfl (by first | exact Or.inl rfl | exact Or.inr rfl) (pe_slice (slk (K := K) rSlLT rfl sl_any) (pv 4) (po_some (pe_bmK (K := K) rfl PySem.F.plainAttrs_list PySem.F.slot_list_index PySem.F.type_list_index (mtk (K := K) rIdxI rfl mt_lindex) (pv 4) (pa_cons (pv 3) pa_nil))) po_none))
      (pss_one (ps_ret (pe_tup (pa_cons (pv 3) (pa_cons (pe_callTy (callk (K := K) rTupleA rfl call_tuple_of) (by rfl) b_tuple (by decide +kernel) (pa_cons (pe_lc (own := [("x", 6)]) (g := (gName 6)) rfl sc.nd (pi_anyK (K := K) rfl (pe_revK (K := K) rfl (pv 5))) (blkOk_by (N := ["bounded", "found", "last", "late", "met", "ring", "x"]) (sc := defScope s_tight_ring) (by decide +kernel)) (fun _ _ _ _ _ => (pg_name (i := 6) sc.nd rfl (by first | exact Or.inl rfl | exact Or.inr rfl))) (fun _ _ _ _ _ => pts_nil) (fun _ _ _ _ _ => (pe_dget (hu_of hr.toRoom) (pv 2) (pv 6) (fun _ _ => rfl)))) pa_nil)) pa_nil)))))))))), ?_⟩
  exact (ss_seq (ss_asg (se_callP (sa_cons se_v (sa_cons (SemND.e (snd_b1 bnd_dictP (SemN.e (sn_lc (own := [6]) (si_r1 (se_2 r2_ix se_v se_int)) sg_n st_yes (se_tup (sa_cons se_v (sa_cons se_int sa_nil))) (by decide))))) sa_nil))) (sg_tup (sgs_cons sg_n (sgs_cons sg_n (sgs_cons sg_n sgs_nil))) (gn_cons (gn_cons (gn_cons gn_nil)))))
      (ss_seq (ss_if (st_eB (se_isN se_v))
      (ss_ret se_non)
      ss_nx)
      (ss_seq (ss_new (sn_lst sa_nil))
      (ss_seq (ss_wh (fuel := 1000) (dead := [1, 5]) (st_e (se_blR f2_notIn se_v))
      (ss_seq (ss_drop (se_app se_v))
      (ss_asg (se_callP (sa_cons se_v (sa_cons (se_2 r2_kget se_v se_v) sa_nil))) sg_n)))
      (ss_seq (ss_asg (se_cut rs_cut se_v (so_some (se_bm fm_index se_v se_v)) so_none) sg_n)
      (ss_ret (se_tup (sa_cons se_v (sa_cons (se_cb1 Fw.b_tuple (SemN.e (sn_lc (own := [6]) (si_any (se_rev se_v)) sg_n st_yes (se_2 r2_kget se_v se_v) (by decide)))) sa_nil)))))))))
end
end Fw
/-! ## Okneed_heights -/
set_option Elab.async false
set_option linter.all false
set_option maxRecDepth 100000
set_option maxHeartbeats 4000000
namespace Fw
open PySem PySem.Spec PyProof.Rows L2
section
variable {P : Program} {w : World} {K : PySem.W.Frag} {mg : Str → Option Value} {base : Heap}
/-! ### need_heights -/
abbrev s_need_heights : Stmt := topS 18
theorem sc_need_heights : FnScope ["bounded"] ["bounded"] (defScope s_need_heights) := ⟨rfl, rfl, rfl, by decide +kernel, rfl, by decide +kernel, by decide +kernel⟩
theorem ok_need_heights {f : Addr} {fd : FuncData} (F : Fun K "need_heights" "need_heights" s_need_heights f fd) (c_tight_ring : Callee P w K mg base 3 "tight_ring" ["bounded"] (spP K m_tight_ring)) : FnG P w K mg base CX0 4 f fd ["bounded"] (spP K m_need_heights) := by
  obtain ⟨f_tight_ring, fd_tight_ring, mg_tight_ring, kp_tight_ring, b_tight_ring, g_tight_ring⟩ := c_tight_ring
  have sc := sc_need_heights
  refine fn_p F sc (by decide) (fun cdv A outer s H E hr => ?_)
  refine ⟨_, (pss_one (ps_if (pt_cmp (pc_notN (pe_callG g_tight_ring (hr.mono (by decide)) (by rfl) mg_tight_ring kp_tight_ring b_tight_ring .nil pass0 (pa_cons (pv 0) pa_nil))))
      (pss_one ps_never)
      pss_nil)), ?_⟩
  exact (ss_if (st_eB (se_notN (se_callP (sa_cons se_v sa_nil))))
      ss_never
      ss_nx)
end
end Fw
/-! ## Okcosts_from -/
set_option Elab.async false
set_option linter.all false
set_option maxRecDepth 100000
set_option maxHeartbeats 4000000
namespace Fw
open PySem PySem.Spec PyProof.Rows L2
section
variable {P : Program} {w : World} {K : PySem.W.Frag} {mg : Str → Option Value} {base : Heap}
/-! ### costs_from -/
abbrev s_costs_from : Stmt := topS 19
theorem sc_costs_from : FnScope ["bounded", "x", "found", "y"] ["bounded", "x"] (defScope s_costs_from) := ⟨rfl, rfl, rfl, by decide +kernel, rfl, by decide +kernel, by decide +kernel⟩
theorem ok_costs_from {f : Addr} {fd : FuncData} (F : Fun K "costs_from" "costs_from" s_costs_from f fd) (c_lowered : Callee P w K mg base 2 "lowered" ["bounded", "found"] (spP K m_lowered)) (c_need_heights : Callee P w K mg base 4 "need_heights" ["bounded"] (spP K m_need_heights)) (b_range : mg "range" = none) : FnG P w K mg base CX0 5 f fd ["bounded", "x"] (spP K m_costs_from) := by
  obtain ⟨f_lowered, fd_lowered, mg_lowered, kp_lowered, b_lowered, g_lowered⟩ := c_lowered
  obtain ⟨f_need_heights, fd_need_heights, mg_need_heights, kp_need_heights, b_need_heights, g_need_heights⟩ := c_need_heights
  have sc := sc_costs_from
  refine fn_p F sc (by decide) (fun cdv A outer s H E hr => ?_)
  refine ⟨_, (pss_cons (ps_expr (pe_callG g_need_heights (hr.mono (by decide)) (by rfl) mg_need_heights kp_need_heights b_need_heights .nil pass0 (pa_cons (pv 0) pa_nil)))
      (pss_cons (ps_set (i := 2) sc.nd rfl (by first | exact Or.inl rfl | exact Or.inr rfl) (pe_ix (ixk (K := K) rIx rfl ix_seq) (pe_callG g_lowered (hr.mono (by decide)) (by rfl) mg_lowered kp_lowered b_lowered .nil pass0 (pa_cons (pv 0) (pa_cons (pe_disp (pps_cons (pv 1) pe_int pps_nil) rfl rfl (by simp) (by decide)) pa_nil))) pe_int (fun _ _ => rfl)))
      (pss_one (ps_ret (pe_lc (own := [("y", 3)]) (g := (gName 3)) rfl sc.nd (pi_range1 rfl b_range (pa_cons (pe_ix (ixk (K := K) rIx rfl ix_seq) (pv 0) pe_int (fun _ _ => rfl)) pa_nil)) (blkOk_by (N := ["bounded", "x", "found", "y"]) (sc := defScope s_costs_from) (by decide +kernel)) (fun _ _ _ _ _ => (pg_name (i := 3) sc.nd rfl (by first | exact Or.inl rfl | exact Or.inr rfl))) (fun _ _ _ _ _ => pts_nil) (fun _ _ _ _ _ => (pe_dget (hu_of hr.toRoom) (pv 2) (pv 3) (fun _ _ => rfl)))))))), ?_⟩
  exact (ss_seq (ss_drop (se_callP (sa_cons se_v sa_nil)))
      (ss_seq (ss_asg (se_2 r2_ix (se_callP (sa_cons se_v (sa_cons (SemND.e (snd_d1 se_v se_int)) sa_nil))) se_int) sg_n)
      (ss_ret (SemN.e (sn_lc (own := [3]) (si_r1 (se_2 r2_ix se_v se_int)) sg_n st_yes (se_2 r2_kget se_v se_v) (by decide))))))
end
end Fw
/-! ## Okgreatest_bounded -/
set_option Elab.async false
set_option linter.all false
set_option maxRecDepth 100000
set_option maxHeartbeats 4000000
namespace Fw
open PySem PySem.Spec PyProof.Rows L2
section
variable {P : Program} {w : World} {K : PySem.W.Frag} {mg : Str → Option Value} {base : Heap}
/-! ### greatest_bounded -/
abbrev s_greatest_bounded : Stmt := topS 20
theorem sc_greatest_bounded : FnScope ["bounded"] ["bounded"] (defScope s_greatest_bounded) := ⟨rfl, rfl, rfl, by decide +kernel, rfl, by decide +kernel, by decide +kernel⟩
theorem ok_greatest_bounded {f : Addr} {fd : FuncData} (F : Fun K "greatest_bounded" "greatest_bounded" s_greatest_bounded f fd) (c_costs_from : Callee P w K mg base 5 "costs_from" ["bounded", "x"] (spP K m_costs_from)) (b_tuple : mg "tuple" = none) : FnG P w K mg base CX0 6 f fd ["bounded"] (spP K m_greatest_bounded) := by
  obtain ⟨f_costs_from, fd_costs_from, mg_costs_from, kp_costs_from, b_costs_from, g_costs_from⟩ := c_costs_from
  have sc := sc_greatest_bounded
  refine fn_p F sc (by decide) (fun cdv A outer s H E hr => ?_)
  refine ⟨_, (pss_one (ps_ret (pe_callTy (callk (K := K) rTupleA rfl call_tuple_of) (by rfl) b_tuple (by decide +kernel) (pa_cons (pe_callG g_costs_from (hr.mono (by decide)) (by rfl) mg_costs_from kp_costs_from b_costs_from .nil pass0 (pa_cons (pv 0) (pa_cons pe_int pa_nil))) pa_nil)))), ?_⟩
  exact (ss_ret (se_cb1 Fw.b_tuple (se_callP (sa_cons se_v (sa_cons se_int sa_nil)))))
end
end Fw
/-! ## Okheight_paper -/
set_option Elab.async false
set_option linter.all false
set_option maxRecDepth 100000
set_option maxHeartbeats 4000000
namespace Fw
open PySem PySem.Spec PyProof.Rows L2
section
variable {P : Program} {w : World} {K : PySem.W.Frag} {mg : Str → Option Value} {base : Heap}
/-! ### height_paper -/
abbrev s_height_paper : Stmt := topS 17
theorem sc_height_paper : FnScope ["bounded", "ring"] ["bounded"] (defScope s_height_paper) := ⟨rfl, rfl, rfl, by decide +kernel, rfl, by decide +kernel, by decide +kernel⟩
theorem ok_height_paper {f : Addr} {fd : FuncData} (F : Fun K "height_paper" "height_paper" s_height_paper f fd) (c_greatest_bounded : Callee P w K mg base 6 "greatest_bounded" ["bounded"] (spP K m_greatest_bounded)) (c_tight_ring : Callee P w K mg base 3 "tight_ring" ["bounded"] (spP K m_tight_ring)) : FnG P w K mg base CX0 7 f fd ["bounded"] (spP K m_height_paper) := by
  obtain ⟨f_greatest_bounded, fd_greatest_bounded, mg_greatest_bounded, kp_greatest_bounded, b_greatest_bounded, g_greatest_bounded⟩ := c_greatest_bounded
  obtain ⟨f_tight_ring, fd_tight_ring, mg_tight_ring, kp_tight_ring, b_tight_ring, g_tight_ring⟩ := c_tight_ring
  have sc := sc_height_paper
  refine fn_p F sc (by decide) (fun cdv A outer s H E hr => ?_)
  refine ⟨_, (pss_cons (ps_set (i := 1) sc.nd rfl (by first | exact Or.inl rfl | exact Or.inr rfl) (pe_callG g_tight_ring (hr.mono (by decide)) (by rfl) mg_tight_ring kp_tight_ring b_tight_ring .nil pass0 (pa_cons (pv 0) pa_nil)))
      (pss_one (ps_ret (pe_ifExp (pt_cmp (pc_notN (pv 1))) (pe_tup (pa_cons pe_str (StX.pa_star (pv 1) pa_nil))) (pe_tup (pa_cons pe_str (pa_cons (pe_callG g_greatest_bounded (hr.mono (by decide)) (by rfl) mg_greatest_bounded kp_greatest_bounded b_greatest_bounded .nil pass0 (pa_cons (pv 0) pa_nil)) pa_nil))))))), ?_⟩
  exact (ss_seq (ss_asg (se_callP (sa_cons se_v sa_nil)) sg_n)
      (ss_ret (se_if (st_eB (se_notN se_v)) (se_tup (sa_cons se_str (sa_star se_v sa_nil))) (se_tup (sa_cons se_str (sa_cons (se_callP (sa_cons se_v sa_nil)) sa_nil))))))
end
end Fw
/-! ## Okare_ends -/
set_option Elab.async false
set_option linter.all false
set_option maxRecDepth 100000
set_option maxHeartbeats 4000000
namespace Fw
open PySem PySem.Spec PyProof.Rows L2
section
variable {P : Program} {w : World} {K : PySem.W.Frag} {mg : Str → Option Value} {base : Heap}
/-! ### are_ends -/
abbrev s_are_ends : Stmt := topS 21
theorem sc_are_ends : FnScope ["bounded", "value", "end"] ["bounded", "value"] (defScope s_are_ends) := ⟨rfl, rfl, rfl, by decide +kernel, rfl, by decide +kernel, by decide +kernel⟩
theorem ok_are_ends {f : Addr} {fd : FuncData} (F : Fun K "are_ends" "are_ends" s_are_ends f fd) (c_all_ends : Callee P w K mg base 1 "all_ends" ["bounded"] (spP K m_all_ends)) (c_is_whole : Callee P w K mg base 1 "is_whole" ["value"] (spP K m_is_whole)) (b_all : mg "all" = none) (b_isinstance : mg "isinstance" = none) (b_tuple : mg "tuple" = none) : FnG P w K mg base CX0 2 f fd ["bounded", "value"] (spP K m_are_ends) := by
  obtain ⟨f_all_ends, fd_all_ends, mg_all_ends, kp_all_ends, b_all_ends, g_all_ends⟩ := c_all_ends
  obtain ⟨f_is_whole, fd_is_whole, mg_is_whole, kp_is_whole, b_is_whole, g_is_whole⟩ := c_is_whole
  have sc := sc_are_ends
  refine fn_p F sc (by decide) (fun cdv A outer s H E hr => ?_)
  refine ⟨_, (pss_one (ps_ret (pe_and (pe_callB (callk (K := K) rIsi rfl call_isi) (by rfl) b_isinstance (by decide +kernel) (pa_cons (pv 1) (pa_cons (pe_bltn (by rfl) b_tuple (by decide +kernel) (v := .ty "tuple") rfl) pa_nil))) (pe_one (pe_callB (callk (K := K) rAll rfl (cr_all rfl)) (by rfl) b_all (by decide +kernel) (pa_cons (pe_lc (own := [("end", 2)]) (g := (gName 2)) rfl sc.nd (pi_anyK (K := K) rfl (pv 1)) (blkOk_by (N := ["bounded", "value", "end"]) (sc := defScope s_are_ends) (by decide +kernel)) (fun _ _ _ _ _ => (pg_name (i := 2) sc.nd rfl (by first | exact Or.inl rfl | exact Or.inr rfl))) (fun _ _ _ _ _ => pts_nil) (fun _ _ _ _ _ => (pe_and (pe_callG g_is_whole (hr.mono (by decide)) (by rfl) mg_is_whole kp_is_whole b_is_whole .nil pass0 (pa_cons (pv 2) pa_nil)) (pe_one (pe_cmpR (opk (K := K) rInA rfl (op_inA (room65 hr))) (pv 2) (pe_callG g_all_ends (hr.mono (by decide)) (by rfl) mg_all_ends kp_all_ends b_all_ends .nil pass0 (pa_cons (pv 0) pa_nil)) (by with_unfolding_all rfl)))))) pa_nil)))))), ?_⟩
  exact (ss_ret (se_and (se_isi isi_tuple se_v) (se_cb1 (b1 f1_all) (SemN.e (sn_lc (own := [2]) (si_any se_v) sg_n st_yes (se_and (se_callP (sa_cons se_v sa_nil)) (se_2 (r2_flat f2_in) se_v (se_callP (sa_cons se_v sa_nil)))) (by decide))))))
end
end Fw
/-! ## Okheights_fault -/
set_option Elab.async false
set_option linter.all false
set_option maxRecDepth 100000
set_option maxHeartbeats 4000000
namespace Fw
open PySem PySem.Spec PyProof.Rows L2
section
variable {P : Program} {w : World} {K : PySem.W.Frag} {mg : Str → Option Value} {base : Heap}
/-! ### heights_fault -/
abbrev s_heights_fault : Stmt := topS 22
theorem sc_heights_fault : FnScope ["bounded", "value", "road"] ["bounded", "value"] (defScope s_heights_fault) := ⟨rfl, rfl, rfl, by decide +kernel, rfl, by decide +kernel, by decide +kernel⟩
theorem ok_heights_fault {f : Addr} {fd : FuncData} (F : Fun K "heights_fault" "heights_fault" s_heights_fault f fd) (c_broken_road : Callee P w K mg base 1 "broken_road" ["bounded", "heights"] (spP K m_broken_road)) : FnG P w K mg base CX0 2 f fd ["bounded", "value"] (spP K m_heights_fault) := by
  obtain ⟨f_broken_road, fd_broken_road, mg_broken_road, kp_broken_road, b_broken_road, g_broken_road⟩ := c_broken_road
  have sc := sc_heights_fault
  refine fn_p F sc (by decide) (fun cdv A outer s H E hr => ?_)
  refine ⟨_, (pss_cons (ps_if (pt_cmpR (opk (K := K) rNeD rfl (op_neD hr.units)) (pe_ix (ixk (K := K) rIx rfl ix_seq) (pv 1) pe_int (fun _ _ => rfl)) pe_int (nomark _))
      (pss_one (ps_ret (pe_tup (pa_cons pe_str pa_nil))))
      pss_nil)
      (pss_cons (ps_set (i := 2) sc.nd rfl (by first | exact Or.inl rfl | exact Or.inr rfl) (pe_callG g_broken_road (hr.mono (by decide)) (by rfl) mg_broken_road kp_broken_road b_broken_road .nil pass0 (pa_cons (pv 0) (pa_cons (pv 1) pa_nil))))
      (pss_one (ps_ret (pe_ifExp (pt_cmp (pc_notN (pv 2))) (pe_tup (pa_cons pe_str (pa_cons (pv 2) pa_nil))) pe_non))))), ?_⟩
  exact (ss_seq (ss_if (st_e (se_2 (r2_flat f2_ne) (se_2 r2_ix se_v se_int) se_int))
      (ss_ret (se_tup (sa_cons se_str sa_nil)))
      ss_nx)
      (ss_seq (ss_asg (se_callP (sa_cons se_v (sa_cons se_v sa_nil))) sg_n)
      (ss_ret (se_if (st_eB (se_notN se_v)) (se_tup (sa_cons se_str (sa_cons se_v sa_nil))) se_non))))
end
end Fw
/-! ## Okring_fault -/
set_option Elab.async false
set_option linter.all false
set_option maxRecDepth 100000
set_option maxHeartbeats 4000000
namespace Fw
open PySem PySem.Spec PyProof.Rows L2
section
variable {P : Program} {w : World} {K : PySem.W.Frag} {mg : Str → Option Value} {base : Heap}
/-! ### ring_fault -/
abbrev s_ring_fault : Stmt := topS 23
theorem sc_ring_fault : FnScope ["bounded", "x", "ends", "place"] ["bounded", "x", "ends"] (defScope s_ring_fault) := ⟨rfl, rfl, rfl, by decide +kernel, rfl, by decide +kernel, by decide +kernel⟩
theorem ok_ring_fault {f : Addr} {fd : FuncData} (F : Fun K "ring_fault" "ring_fault" s_ring_fault f fd) (c_way_break : Callee P w K mg base 2 "way_break" ["bounded", "x", "ends"] (spP K m_way_break)) (c_way_end : Callee P w K mg base 2 "way_end" ["bounded", "x", "ends"] (spP K m_way_end)) : FnG P w K mg base CX0 3 f fd ["bounded", "x", "ends"] (spP K m_ring_fault) := by
  obtain ⟨f_way_break, fd_way_break, mg_way_break, kp_way_break, b_way_break, g_way_break⟩ := c_way_break
  obtain ⟨f_way_end, fd_way_end, mg_way_end, kp_way_end, b_way_end, g_way_end⟩ := c_way_end
  have sc := sc_ring_fault
  refine fn_p F sc (by decide) (fun cdv A outer s H E hr => ?_)
  refine ⟨_, (pss_cons (ps_set (i := 3) sc.nd rfl (by first | exact Or.inl rfl | exact Or.inr rfl) (pe_callG g_way_break (hr.mono (by decide)) (by rfl) mg_way_break kp_way_break b_way_break .nil pass0 (pa_cons (pv 0) (pa_cons (pv 1) (pa_cons (pv 2) pa_nil)))))
      (pss_cons (ps_if (pt_cmp (pc_notN (pv 3)))
      (pss_one (ps_ret (pe_tup (pa_cons pe_str (pa_cons (pv 3) pa_nil)))))
      pss_nil)
      (pss_one (ps_ret (pe_ifExp (pt_cmpR (opk (K := K) rNeD rfl (op_neD hr.units)) (pe_callG g_way_end (hr.mono (by decide)) (by rfl) mg_way_end kp_way_end b_way_end .nil pass0 (pa_cons (pv 0) (pa_cons (pv 1) (pa_cons (pv 2) pa_nil)))) (pv 1) (nomark _)) (pe_tup (pa_cons pe_str (pa_cons (pe_callG g_way_end (hr.mono (by decide)) (by rfl) mg_way_end kp_way_end b_way_end .nil pass0 (pa_cons (pv 0) (pa_cons (pv 1) (pa_cons (pv 2) pa_nil)))) pa_nil))) pe_non))))), ?_⟩
  exact (ss_seq (ss_asg (se_callP (sa_cons se_v (sa_cons se_v (sa_cons se_v sa_nil)))) sg_n)
      (ss_seq (ss_if (st_eB (se_notN se_v))
      (ss_ret (se_tup (sa_cons se_str (sa_cons se_v sa_nil))))
      ss_nx)
      (ss_ret (se_if (st_e (se_2 (r2_flat f2_ne) (se_callP (sa_cons se_v (sa_cons se_v (sa_cons se_v sa_nil)))) se_v)) (se_tup (sa_cons se_str (sa_cons (se_callP (sa_cons se_v (sa_cons se_v (sa_cons se_v sa_nil)))) sa_nil))) se_non))))
end
end Fw
/-! ## Okjudge_height_paper -/
set_option Elab.async false
set_option linter.all false
set_option maxRecDepth 100000
set_option maxHeartbeats 4000000
namespace Fw
open PySem PySem.Spec PyProof.Rows L2
section
variable {P : Program} {w : World} {K : PySem.W.Frag} {mg : Str → Option Value} {base : Heap}
/-! ### judge_height_paper -/
abbrev s_judge_height_paper : Stmt := topS 24
theorem sc_judge_height_paper : FnScope ["bounded", "value", "fault", "cost"] ["bounded", "value"] (defScope s_judge_height_paper) := ⟨rfl, rfl, rfl, by decide +kernel, rfl, by decide +kernel, by decide +kernel⟩
theorem ok_judge_height_paper {f : Addr} {fd : FuncData} (F : Fun K "judge_height_paper" "judge_height_paper" s_judge_height_paper f fd) (c_are_ends : Callee P w K mg base 2 "are_ends" ["bounded", "value"] (spP K m_are_ends)) (c_are_wholes : Callee P w K mg base 2 "are_wholes" ["value", "many"] (spP K m_are_wholes)) (c_heights_fault : Callee P w K mg base 2 "heights_fault" ["bounded", "value"] (spP K m_heights_fault)) (c_is_whole : Callee P w K mg base 1 "is_whole" ["value"] (spP K m_is_whole)) (c_ring_fault : Callee P w K mg base 3 "ring_fault" ["bounded", "x", "ends"] (spP K m_ring_fault)) (c_way_cost : Callee P w K mg base 2 "way_cost" ["bounded", "ends"] (spP K m_way_cost)) (b_isinstance : mg "isinstance" = none) (b_len : mg "len" = none) (b_str : mg "str" = none) (b_tuple : mg "tuple" = none) : FnG P w K mg base CX0 4 f fd ["bounded", "value"] (spP K m_judge_height_paper) := by
  obtain ⟨f_are_ends, fd_are_ends, mg_are_ends, kp_are_ends, b_are_ends, g_are_ends⟩ := c_are_ends
  obtain ⟨f_are_wholes, fd_are_wholes, mg_are_wholes, kp_are_wholes, b_are_wholes, g_are_wholes⟩ := c_are_wholes
  obtain ⟨f_heights_fault, fd_heights_fault, mg_heights_fault, kp_heights_fault, b_heights_fault, g_heights_fault⟩ := c_heights_fault
  obtain ⟨f_is_whole, fd_is_whole, mg_is_whole, kp_is_whole, b_is_whole, g_is_whole⟩ := c_is_whole
  obtain ⟨f_ring_fault, fd_ring_fault, mg_ring_fault, kp_ring_fault, b_ring_fault, g_ring_fault⟩ := c_ring_fault
  obtain ⟨f_way_cost, fd_way_cost, mg_way_cost, kp_way_cost, b_way_cost, g_way_cost⟩ := c_way_cost
  have sc := sc_judge_height_paper
  refine fn_p F sc (by decide) (fun cdv A outer s H E hr => ?_)
  refine ⟨_, (pss_cons (ps_if (PW.pt (pw_or (pt_not (pt_val (pe_callB (callk (K := K) rIsi rfl call_isi) (by rfl) b_isinstance (by decide +kernel) (pa_cons (pv 1) (pa_cons (pe_bltn (by rfl) b_tuple (by decide +kernel) (v := .ty "tuple") rfl) pa_nil))))) (pw_or (pt_cmpR (opk (K := K) rEq0 rfl (op_eq0 hr.units)) (pv 1) (pe_tup pa_nil) (nomark _)) (pw_or1 (pt_not (pt_val (pe_callB (callk (K := K) rIsi rfl call_isi) (by rfl) b_isinstance (by decide +kernel) (pa_cons (pe_ix (ixk (K := K) rIx rfl ix_seq) (pv 1) pe_int (fun _ _ => rfl)) (pa_cons (pe_bltn (by rfl) b_str (by decide +kernel) (v := .ty "str") rfl) pa_nil)))))))))
      (pss_one (ps_ret (pe_tup (pa_cons pe_str pa_nil))))
      pss_nil)
      (pss_cons (ps_if (PW.pt (pw_and (pt_cmpR (opk (K := K) rEqD rfl (op_eqD hr.units)) (pe_ix (ixk (K := K) rIx rfl ix_seq) (pv 1) pe_int (fun _ _ => rfl)) pe_str (nomark _)) (pw_and (pt_cmpR (opk (K := K) rEqD rfl (op_eqD hr.units)) (pe_callB (callk (K := K) rLenA rfl call_len_seq) (by rfl) b_len PySem.boot_len (pa_cons (pv 1) pa_nil)) pe_int (nomark _)) (pw_and1 (pt_val (pe_callG g_are_wholes (hr.mono (by decide)) (by rfl) mg_are_wholes kp_are_wholes b_are_wholes .nil pass0 (pa_cons (pe_ix (ixk (K := K) rIx rfl ix_seq) (pv 1) pe_int (fun _ _ => rfl)) (pa_cons (pe_ix (ixk (K := K) rIx rfl ix_seq) (pv 0) pe_int (fun _ _ => rfl)) pa_nil))))))))
      (pss_one (ps_ret (pe_callG g_heights_fault (hr.mono (by decide)) (by rfl) mg_heights_fault kp_heights_fault b_heights_fault .nil pass0 (pa_cons (pv 0) (pa_cons (pe_ix (ixk (K := K) rIx rfl ix_seq) (pv 1) pe_int (fun _ _ => rfl)) pa_nil)))))
      pss_nil)
      (pss_cons (ps_if (PW.pt (pw_or (pt_cmpR (opk (K := K) rNeD rfl (op_neD hr.units)) (pe_ix (ixk (K := K) rIx rfl ix_seq) (pv 1) pe_int (fun _ _ => rfl)) pe_str (nomark _)) (pw_or (pt_cmpR (opk (K := K) rNeD rfl (op_neD hr.units)) (pe_callB (callk (K := K) rLenA rfl call_len_seq) (by rfl) b_len PySem.boot_len (pa_cons (pv 1) pa_nil)) pe_int (nomark _)) (pw_or (pt_not (pt_val (pe_callG g_is_whole (hr.mono (by decide)) (by rfl) mg_is_whole kp_is_whole b_is_whole .nil pass0 (pa_cons (pe_ix (ixk (K := K) rIx rfl ix_seq) (pv 1) pe_int (fun _ _ => rfl)) pa_nil)))) (pw_or1 (pt_not (pt_chain op_le op_lt pe_int (pe_ix (ixk (K := K) rIx rfl ix_seq) (pv 1) pe_int (fun _ _ => rfl)) (pe_ix (ixk (K := K) rIx rfl ix_seq) (pv 0) pe_int (fun _ _ => rfl)))))))))
      (pss_one (ps_ret (pe_tup (pa_cons pe_str pa_nil))))
      pss_nil)
      (pss_cons (ps_if (PW.pt (pw_or (pt_not (pt_val (pe_callG g_are_ends (hr.mono (by decide)) (by rfl) mg_are_ends kp_are_ends b_are_ends .nil pass0 (pa_cons (pv 0) (pa_cons (pe_ix (ixk (K := K) rIx rfl ix_seq) (pv 1) pe_int (fun _ _ => rfl)) pa_nil))))) (pw_or1 (pt_cmpR (opk (K := K) rEq0 rfl (op_eq0 hr.units)) (pe_ix (ixk (K := K) rIx rfl ix_seq) (pv 1) pe_int (fun _ _ => rfl)) (pe_tup pa_nil) (nomark _)))))
      (pss_one (ps_ret (pe_tup (pa_cons pe_str pa_nil))))
      pss_nil)
      (pss_cons (ps_set (i := 2) sc.nd rfl (by first | exact Or.inl rfl | exact Or.inr rfl) (pe_callG g_ring_fault (hr.mono (by decide)) (by rfl) mg_ring_fault kp_ring_fault b_ring_fault .nil pass0 (pa_cons (pv 0) (pa_cons (pe_ix (ixk (K := K) rIx rfl ix_seq) (pv 1) pe_int (fun _ _ => rfl)) (pa_cons (pe_ix (ixk (K := K) rIx rfl ix_seq) (pv 1) pe_int (fun _ _ => rfl)) pa_nil)))))
      (pss_cons (ps_if (pt_cmp (pc_notN (pv 2)))
      (pss_one (ps_ret (pv 2)))
      pss_nil)
      (pss_cons (ps_set (i := 3) sc.nd rfl (by first | exact Or.inl rfl | exact Or.inr rfl) (pe_callG g_way_cost (hr.mono (by decide)) (by rfl) mg_way_cost kp_way_cost b_way_cost .nil pass0 (pa_cons (pv 0) (pa_cons (pe_ix (ixk (K := K) rIx rfl ix_seq) (pv 1) pe_int (fun _ _ => rfl)) pa_nil))))
      (pss_one (ps_ret (pe_ifExp (pt_cmpR op_ge (pv 3) pe_int (nomark _)) (pe_tup (pa_cons pe_str (pa_cons (pv 3) pa_nil))) pe_non)))))))))), ?_⟩
  exact (ss_seq (ss_if (st_or (st_not (st_eB (se_isi isi_tuple se_v))) (st_or (st_e (se_2 (r2_flat f2_eq0) se_v (se_tup sa_nil))) (st_not (st_eB (se_isi isi_str (se_2 r2_ix se_v se_int))))))
      (ss_ret (se_tup (sa_cons se_str sa_nil)))
      ss_nx)
      (ss_seq (ss_if (st_and (st_e (se_2 (r2_flat f2_eq) (se_2 r2_ix se_v se_int) se_str)) (st_and (st_e (se_2 (r2_flat f2_eq) (se_cb1 (b1 f1_len) se_v) se_int)) (st_eB (se_callP (sa_cons (se_2 r2_ix se_v se_int) (sa_cons (se_2 r2_ix se_v se_int) sa_nil))))))
      (ss_ret (se_callP (sa_cons se_v (sa_cons (se_2 r2_ix se_v se_int) sa_nil))))
      ss_nx)
      (ss_seq (ss_if (st_or (st_e (se_2 (r2_flat f2_ne) (se_2 r2_ix se_v se_int) se_str)) (st_or (st_e (se_2 (r2_flat f2_ne) (se_cb1 (b1 f1_len) se_v) se_int)) (st_or (st_not (st_eB (se_callP (sa_cons (se_2 r2_ix se_v se_int) sa_nil)))) (st_not (st_e (se_chain (r2_flat f2_le) (r2_flat f2_lt) se_int (se_2 r2_ix se_v se_int) (se_2 r2_ix se_v se_int)))))))
      (ss_ret (se_tup (sa_cons se_str sa_nil)))
      ss_nx)
      (ss_seq (ss_if (st_or (st_not (st_eB (se_callP (sa_cons se_v (sa_cons (se_2 r2_ix se_v se_int) sa_nil))))) (st_e (se_2 (r2_flat f2_eq0) (se_2 r2_ix se_v se_int) (se_tup sa_nil))))
      (ss_ret (se_tup (sa_cons se_str sa_nil)))
      ss_nx)
      (ss_seq (ss_asg (se_callP (sa_cons se_v (sa_cons (se_2 r2_ix se_v se_int) (sa_cons (se_2 r2_ix se_v se_int) sa_nil)))) sg_n)
      (ss_seq (ss_if (st_eB (se_notN se_v))
      (ss_ret se_v)
      ss_nx)
      (ss_seq (ss_asg (se_callP (sa_cons se_v (sa_cons (se_2 r2_ix se_v se_int) sa_nil))) sg_n)
      (ss_ret (se_if (st_e (se_2 (r2_flat f2_ge) se_v se_int)) (se_tup (sa_cons se_str (sa_cons se_v sa_nil))) se_non)))))))))
end
end Fw
/-! ## Ok_law_of -/
set_option Elab.async false
set_option linter.all false
set_option maxRecDepth 100000
set_option maxHeartbeats 4000000
namespace Fw
open PySem PySem.Spec PyProof.Rows L2
section
variable {P : Program} {w : World} {K : PySem.W.Frag} {mg : Str → Option Value} {base : Heap}
/-! ### _law_of -/
abbrev s__law_of : Stmt := topS 28
theorem sc__law_of : FnScope ["source", "some"] ["source", "some"] (defScope s__law_of) := ⟨rfl, rfl, rfl, by decide +kernel, rfl, by decide +kernel, by decide +kernel⟩
theorem ok__law_of {f : Addr} {fd : FuncData} (F : Fun K "_law_of" "_law_of" s__law_of f fd) (c__law_pick : Callee P w K mg base 1 "_law_pick" ["source", "many"] (spPick K)) (b_len : mg "len" = none) : FnG P w K mg base CX0 2 f fd ["source", "some"] (spS K m_law_of) := by
  obtain ⟨f__law_pick, fd__law_pick, mg__law_pick, kp__law_pick, b__law_pick, g__law_pick⟩ := c__law_pick
  have sc := sc__law_of
  refine fn_f srcW (fun _ _ => m_law_ofB) F sc (by decide) (fun cdv A outer s H E hr => ?_)
  refine ⟨_, (pss_one (ps_ret (pe_ix (ixk (K := K) rIx rfl ix_seq) (pv 1) (pe_callG g__law_pick (hr.mono (by decide)) (by rfl) mg__law_pick kp__law_pick b__law_pick .nil pass0 (pa_cons (pv 0) (pa_cons (pe_callB (callk (K := K) rLenA rfl call_len_seq) (by rfl) b_len PySem.boot_len (pa_cons (pv 1) pa_nil)) pa_nil))) (fun _ _ => rfl)))), ?_⟩
  exact fun a c => (ss_ret (se_2 r2_ix se_v (se_callS (sa_cons se_v (sa_cons (se_cb1 (b1 f1_len) se_v) sa_nil)))))
end
end Fw
/-! ## Ok_law_mixed -/
set_option Elab.async false
set_option linter.all false
set_option maxRecDepth 100000
set_option maxHeartbeats 4000000
namespace Fw
open PySem PySem.Spec PyProof.Rows L2
section
variable {P : Program} {w : World} {K : PySem.W.Frag} {mg : Str → Option Value} {base : Heap}
/-! ### _law_mixed -/
abbrev s__law_mixed : Stmt := topS 29
theorem sc__law_mixed : FnScope ["source", "things", "rest", "lap"] ["source", "things"] (defScope s__law_mixed) := ⟨rfl, rfl, rfl, by decide +kernel, rfl, by decide +kernel, by decide +kernel⟩
theorem ok__law_mixed {f : Addr} {fd : FuncData} (F : Fun K "_law_mixed" "_law_mixed" s__law_mixed f fd) (c__law_pick : Callee P w K mg base 1 "_law_pick" ["source", "many"] (spPick K)) (b_len : mg "len" = none) (b_list : mg "list" = none) (b_range : mg "range" = none) : FnG P w K mg base CX0 2 f fd ["source", "things"] (spS K m_law_mixed) := by
  obtain ⟨f__law_pick, fd__law_pick, mg__law_pick, kp__law_pick, b__law_pick, g__law_pick⟩ := c__law_pick
  have sc := sc__law_mixed
  refine fn_f srcW (fun _ _ => m_law_mixedB) F sc (by decide) (fun cdv A outer s H E hr => ?_)
  refine ⟨_, (pss_cons (ps_set (i := 2) sc.nd rfl (by first | exact Or.inl rfl | exact Or.inr rfl) (pe_callTy (callk (K := K) rListA rfl call_list_of) (by rfl) b_list (by decide +kernel) (pa_cons (pv 1) pa_nil)))
      (pss_one (ps_ret (pe_lc (own := [("lap", 3)]) (g := (gName 3)) rfl sc.nd (pi_range1 rfl b_range (pa_cons (pe_callB (callk (K := K) rLenA rfl call_len_seq) (by rfl) b_len PySem.boot_len (pa_cons (pv 2) pa_nil)) pa_nil)) (blkOk_by (N := ["source", "things", "rest", "lap"]) (sc := defScope s__law_mixed) (by decide +kernel)) (fun _ _ _ _ _ => (pg_name (i := 3) sc.nd rfl (by first | exact Or.inl rfl | exact Or.inr rfl))) (fun _ _ _ _ _ => pts_nil) (fun _ _ _ _ _ => (pe_bmK (K := K) rfl PySem.F.plainAttrs_list PySem.F.slot_list_pop PySem.F.type_list_pop mt_popAt (pv 2) (pa_cons (pe_callG g__law_pick (hr.mono (by decide)) (by rfl) mg__law_pick kp__law_pick b__law_pick .nil pass0 (pa_cons (pv 0) (pa_cons (pe_callB (callk (K := K) rLenA rfl call_len_seq) (by rfl) b_len PySem.boot_len (pa_cons (pv 2) pa_nil)) pa_nil))) pa_nil))))))), ?_⟩
  exact fun a c => (ss_seq (ss_new (sn_b1 bn_list se_v))
      (ss_ret (SemN.e (sn_lc (own := [3]) (si_r1 (se_bl1 f1_len)) sg_n st_yes (se_popAt (se_callS (sa_cons se_v (sa_cons (se_bl1 f1_len) sa_nil)))) (by decide)))))
end
end Fw
/-! ## Ok_law_number -/
set_option Elab.async false
set_option linter.all false
set_option maxRecDepth 100000
set_option maxHeartbeats 4000000
namespace Fw
open PySem PySem.Spec PyProof.Rows L2
section
variable {P : Program} {w : World} {K : PySem.W.Frag} {mg : Str → Option Value} {base : Heap}
/-! ### _law_number -/
abbrev s__law_number : Stmt := topS 30
theorem sc__law_number : FnScope ["value"] ["value"] (defScope s__law_number) := ⟨rfl, rfl, rfl, by decide +kernel, rfl, by decide +kernel, by decide +kernel⟩
theorem ok__law_number {f : Addr} {fd : FuncData} (F : Fun K "_law_number" "_law_number" s__law_number f fd) (b_bool : mg "bool" = none) (b_int : mg "int" = none) (b_isinstance : mg "isinstance" = none) : FnG P w K mg base CX0 1 f fd ["value"] (spP K m_law_number) := by
  have sc := sc__law_number
  refine fn_p F sc (by decide) (fun cdv A outer s H E hr => ?_)
  refine ⟨_, (pss_one (ps_ret (pe_and (pe_callB (callk (K := K) rIsi rfl call_isi) (by rfl) b_isinstance (by decide +kernel) (pa_cons (pv 0) (pa_cons (pe_bltn (by rfl) b_int (by decide +kernel) (v := .ty "int") rfl) pa_nil))) (pe_one (pe_not (pe_callB (callk (K := K) rIsi rfl call_isi) (by rfl) b_isinstance (by decide +kernel) (pa_cons (pv 0) (pa_cons (pe_bltn (by rfl) b_bool (by decide +kernel) (v := .ty "bool") rfl) pa_nil)))))))), ?_⟩
  exact (ss_ret (se_and (se_isi isi_int se_v) (se_notV (se_isi isi_bool se_v))))
end
end Fw
/-! ## Ok_law_frame -/
set_option Elab.async false
set_option linter.all false
set_option maxRecDepth 100000
set_option maxHeartbeats 4000000
namespace Fw
open PySem PySem.Spec PyProof.Rows L2
section
variable {P : Program} {w : World} {K : PySem.W.Frag} {mg : Str → Option Value} {base : Heap}
/-! ### _law_frame -/
abbrev s__law_frame : Stmt := topS 31
theorem sc__law_frame : FnScope ["source", "most", "far", "n", "way", "names", "pairs", "k", "lap", "at", "low", "high", "a", "b", "one", "other", "pair", "x"] ["source", "most", "far"] (defScope s__law_frame) := ⟨rfl, rfl, rfl, by decide +kernel, rfl, by decide +kernel, by decide +kernel⟩
theorem ok__law_frame {f : Addr} {fd : FuncData} (F : Fun K "_law_frame" "_law_frame" s__law_frame f fd) (c__law_mixed : Callee P w K mg base 2 "_law_mixed" ["source", "things"] (spS K m_law_mixed)) (c__law_of : Callee P w K mg base 2 "_law_of" ["source", "some"] (spS K m_law_of)) (c__law_pick : Callee P w K mg base 1 "_law_pick" ["source", "many"] (spPick K)) (b_list : mg "list" = none) (b_range : mg "range" = none) (b_tuple : mg "tuple" = none) : FnG P w K mg base CX0 3 f fd ["source", "most", "far"] (spS K m_law_frame) := by
  obtain ⟨f__law_mixed, fd__law_mixed, mg__law_mixed, kp__law_mixed, b__law_mixed, g__law_mixed⟩ := c__law_mixed
  obtain ⟨f__law_of, fd__law_of, mg__law_of, kp__law_of, b__law_of, g__law_of⟩ := c__law_of
  obtain ⟨f__law_pick, fd__law_pick, mg__law_pick, kp__law_pick, b__law_pick, g__law_pick⟩ := c__law_pick
  have sc := sc__law_frame
  refine fn_f srcW (fun _ _ => m_law_frameB) F sc (by decide) (fun cdv A outer s H E hr => ?_)
  refine ⟨_, (pss_cons (ps_par (i := 3) (j := 4) rfl sc.nd rfl rfl (by decide) rfl rfl (pa_cons (pe_op (opk (K := K) rAddA rfl op_addA) pe_int (pe_callG g__law_pick (hr.mono (by decide)) (by rfl) mg__law_pick kp__law_pick b__law_pick .nil pass0 (pa_cons (pv 0) (pa_cons (pv 1) pa_nil)))) (pa_cons (pe_callG g__law_pick (hr.mono (by decide)) (by rfl) mg__law_pick kp__law_pick b__law_pick .nil pass0 (pa_cons (pv 0) (pa_cons pe_int pa_nil))) pa_nil)) (by first | rfl | (with_unfolding_all rfl) | (decide +kernel)))
      (pss_cons (ps_par (i := 5) (j := 6) rfl sc.nd rfl rfl (by decide) rfl rfl (pa_cons (pe_callG g__law_mixed (hr.mono (by decide)) (by rfl) mg__law_mixed kp__law_mixed b__law_mixed .nil pass0 (pa_cons (pv 0) (pa_cons (pe_listRg rfl (by rfl) b_list (prg_1 (by rfl) b_range (pv 3))) pa_nil))) (pa_cons (pe_lst pa_nil) pa_nil)) (by first | rfl | (with_unfolding_all rfl) | (decide +kernel)))
      (pss_cons (ps_for PassesOwn.never rfl (pi_range2 rfl b_range (pa_cons pe_int (pa_cons (pv 3) pa_nil))) (pg_name (i := 7) sc.nd rfl (by first | exact Or.inl rfl | exact Or.inr rfl))
      (pss_one (ps_expr (pe_bmK (K := K) rfl PySem.F.plainAttrs_list PySem.F.slot_list_append PySem.F.type_list_append mt_append (pv 6) (pa_cons (pe_tup (pa_cons (pe_ix (ixk (K := K) rIx rfl ix_seq) (pv 5) (pe_callG g__law_pick (hr.mono (by decide)) (by rfl) mg__law_pick kp__law_pick b__law_pick .nil pass0 (pa_cons (pv 0) (pa_cons (pv 7) pa_nil))) (fun _ _ => rfl)) (pa_cons (pe_ix (ixk (K := K) rIx rfl ix_seq) (pv 5) (pv 7) (fun _ _ => rfl)) pa_nil))) pa_nil)))))
      (pss_cons (ps_for PassesOwn.never rfl (pi_range1 rfl b_range (pa_cons (pe_callG g__law_pick (hr.mono (by decide)) (by rfl) mg__law_pick kp__law_pick b__law_pick .nil pass0 (pa_cons (pv 0) (pa_cons (pe_ifExp (pt_cmpR op_lt (pv 3) pe_int (nomark _)) (pe_op op_sub pe_int (pv 3)) pe_int) pa_nil))) pa_nil)) (pg_name (i := 8) sc.nd rfl (by first | exact Or.inl rfl | exact Or.inr rfl))
      (pss_one (ps_expr (pe_bmK (K := K) rfl PySem.F.plainAttrs_list PySem.F.slot_list_append PySem.F.type_list_append mt_append (pv 6) (pa_cons (pe_tup (pa_cons (pe_callG g__law_pick (hr.mono (by decide)) (by rfl) mg__law_pick kp__law_pick b__law_pick .nil pass0 (pa_cons (pv 0) (pa_cons (pv 3) pa_nil))) (pa_cons (pe_callG g__law_pick (hr.mono (by decide)) (by rfl) mg__law_pick kp__law_pick b__law_pick .nil pass0 (pa_cons (pv 0) (pa_cons (pv 3) pa_nil))) pa_nil))) pa_nil)))))
      (pss_cons (ps_setLc (i := 6) (own := [("pair", 16)]) (g := (gName 16)) rfl sc.nd rfl rfl (sw_true rfl rfl rfl (by decide +kernel)) (pi_anyK (K := K) rfl (pe_callG g__law_mixed (hr.mono (by decide)) (by rfl) mg__law_mixed kp__law_mixed b__law_mixed .nil pass0 (pa_cons (pv 0) (pa_cons (pv 6) pa_nil)))) (blkOk_by (N := ["source", "most", "far", "n", "way", "names", "pairs", "k", "lap", "at", "low", "high", "a", "b", "one", "other", "pair", "x"]) (sc := defScope s__law_frame) (by decide +kernel)) (fun _ _ _ _ _ => (pg_name (i := 16) sc.nd rfl (by first | exact Or.inl rfl | exact Or.inr rfl))) (fun _ _ _ _ _ => pts_nil) (fun _ _ _ _ _ => (pe_ifExp (pt_cmpR (opk (K := K) rEqD rfl (op_eqD hr.units)) (pe_callG g__law_pick (hr.mono (by decide)) (by rfl) mg__law_pick kp__law_pick b__law_pick .nil pass0 (pa_cons (pv 0) (pa_cons pe_int pa_nil))) pe_int (nomark _)) (pe_revK (K := K) rfl (pv 16)) (pv 16))))
      (pss_cons (ps_par3 (i := 9) (j := 10) (l := 11) rfl sc.nd rfl rfl rfl (by decide) (by decide) (by decide) rfl rfl rfl (pa_cons (pe_lc (own := [("x", 17)]) (g := (gName 17)) rfl sc.nd (pi_range1 rfl b_range (pa_cons (pv 3) pa_nil)) (blkOk_by (N := ["source", "most", "far", "n", "way", "names", "pairs", "k", "lap", "at", "low", "high", "a", "b", "one", "other", "pair", "x"]) (sc := defScope s__law_frame) (by decide +kernel)) (fun _ _ _ _ _ => (pg_name (i := 17) sc.nd rfl (by first | exact Or.inl rfl | exact Or.inr rfl))) (fun _ _ _ _ _ => pts_nil) (fun _ _ _ _ _ => (pe_op op_sub (pe_callG g__law_pick (hr.mono (by decide)) (by rfl) mg__law_pick kp__law_pick b__law_pick .nil pass0 (pa_cons (pv 0) (pa_cons (pe_op (opk (K := K) rAddA rfl op_addA) (pe_op (opk (K := K) rMulA rfl op_mulA) pe_int (pv 2)) pe_int) pa_nil))) (pv 2)))) (pa_cons (pe_lst pa_nil) (pa_cons (pe_lst pa_nil) pa_nil))) (by first | rfl | (with_unfolding_all rfl) | (decide +kernel)))
      (pss_cons (ps_for PassesOwn.never rfl (pi_anyK (K := K) rfl (pv 6)) (pg_tup rfl (pgs_cons (pg_name (i := 12) sc.nd rfl (by first | exact Or.inl rfl | exact Or.inr rfl)) (pgs_cons (pg_name (i := 13) sc.nd rfl (by first | exact Or.inl rfl | exact Or.inr rfl)) pgs_nil)))
      (pss_cons (ps_set (i := 14) sc.nd rfl (by first | exact Or.inl rfl | exact Or.inr rfl) (pe_op op_sub (pe_op op_sub (pe_ix (ixk (K := K) rIx rfl ix_seq) (pv 9) (pv 13) (fun _ _ => rfl)) (pe_ix (ixk (K := K) rIx rfl ix_seq) (pv 9) (pv 12) (fun _ _ => rfl))) (pe_callG g__law_of (hr.mono (by decide)) (by rfl) mg__law_of kp__law_of b__law_of .nil pass0 (pa_cons (pv 0) (pa_cons (pe_lst (pa_cons pe_int (pa_cons pe_int (pa_cons pe_int (pa_cons pe_int (pa_cons (pe_callG g__law_pick (hr.mono (by decide)) (by rfl) mg__law_pick kp__law_pick b__law_pick .nil pass0 (pa_cons (pv 0) (pa_cons (pe_op (opk (K := K) rAddA rfl op_addA) (pv 2) pe_int) pa_nil))) pa_nil)))))) pa_nil)))))
      (pss_cons (ps_set (i := 15) sc.nd rfl (by first | exact Or.inl rfl | exact Or.inr rfl) (pe_op (opk (K := K) rAddA rfl op_addA) (pe_op op_sub (pe_ix (ixk (K := K) rIx rfl ix_seq) (pv 9) (pv 13) (fun _ _ => rfl)) (pe_ix (ixk (K := K) rIx rfl ix_seq) (pv 9) (pv 12) (fun _ _ => rfl))) (pe_callG g__law_of (hr.mono (by decide)) (by rfl) mg__law_of kp__law_of b__law_of .nil pass0 (pa_cons (pv 0) (pa_cons (pe_lst (pa_cons pe_int (pa_cons pe_int (pa_cons pe_int (pa_cons pe_int (pa_cons (pe_callG g__law_pick (hr.mono (by decide)) (by rfl) mg__law_pick kp__law_pick b__law_pick .nil pass0 (pa_cons (pv 0) (pa_cons (pe_op (opk (K := K) rAddA rfl op_addA) (pv 2) pe_int) pa_nil))) pa_nil)))))) pa_nil)))))
      (pss_cons (ps_if (pt_cmpR (opk (K := K) rEqD rfl (op_eqD hr.units)) (pv 4) pe_int (nomark _))
      (pss_cons (ps_set (i := 14) sc.nd rfl (by first | exact Or.inl rfl | exact Or.inr rfl) (pe_op op_sub (pe_callG g__law_pick (hr.mono (by decide)) (by rfl) mg__law_pick kp__law_pick b__law_pick .nil pass0 (pa_cons (pv 0) (pa_cons (pe_op (opk (K := K) rAddA rfl op_addA) (pe_op (opk (K := K) rMulA rfl op_mulA) pe_int (pv 2)) pe_int) pa_nil))) (pv 2)))
      (pss_one (ps_set (i := 15) sc.nd rfl (by first | exact Or.inl rfl | exact Or.inr rfl) (pe_op (opk (K := K) rAddA rfl op_addA) (pv 14) (pe_callG g__law_pick (hr.mono (by decide)) (by rfl) mg__law_pick kp__law_pick b__law_pick .nil pass0 (pa_cons (pv 0) (pa_cons (pe_op (opk (K := K) rAddA rfl op_addA) (pv 2) pe_int) pa_nil)))))))
      pss_nil)
      (pss_cons (ps_expr (pe_bmK (K := K) rfl PySem.F.plainAttrs_list PySem.F.slot_list_append PySem.F.type_list_append mt_append (pv 10) (pa_cons (pv 14) pa_nil)))
      (pss_one (ps_expr (pe_bmK (K := K) rfl PySem.F.plainAttrs_list PySem.F.slot_list_append PySem.F.type_list_append mt_append (pv 11) (pa_cons (pv 15) pa_nil)))))))))
      (pss_one (ps_ret (pe_tup (pa_cons (pv 3) (pa_cons (pe_callTy (callk (K := K) rTupleA rfl call_tuple_of) (by rfl) b_tuple (by decide +kernel) (pa_cons (pv 6) pa_nil)) (pa_cons (pe_callTy (callk (K := K) rTupleA rfl call_tuple_of) (by rfl) b_tuple (by decide +kernel) (pa_cons (pv 10) pa_nil)) (pa_cons (pe_callTy (callk (K := K) rTupleA rfl call_tuple_of) (by rfl) b_tuple (by decide +kernel) (pa_cons (pv 11) pa_nil)) pa_nil)))))))))))))), ?_⟩
  exact fun a c => (ss_seq (ss_par2 (sp_e (se_2 r2_add se_int (se_callS (sa_cons se_v (sa_cons se_v sa_nil)))) (sp_e (se_callS (sa_cons se_v (sa_cons se_int sa_nil))) sp_nil)) (by decide))
      (ss_seq (ss_par2 (sp_e (se_callS (sa_cons se_v (sa_cons (SemN.e (sn_listR1 se_v)) sa_nil))) (sp_n (sn_lst sa_nil) sp_nil)) (by decide))
      (ss_seq (ss_for (dead := [1, 7, 8, 9, 10, 11, 12, 13, 14, 15, 17]) (si_r2 se_int se_v) sg_n
      (ss_drop (se_app (se_tup (sa_cons (se_2 r2_ix se_v (se_callS (sa_cons se_v (sa_cons se_v sa_nil)))) (sa_cons (se_2 r2_ix se_v se_v) sa_nil))))))
      (ss_seq (ss_for (dead := [1, 5, 7, 8, 9, 10, 11, 12, 13, 14, 15, 17]) (si_r1 (se_callS (sa_cons se_v (sa_cons (se_if (st_e (se_2 (r2_flat f2_lt) se_v se_int)) (se_2 (r2_flat f2_sub) se_int se_v) se_int) sa_nil)))) sg_n
      (ss_drop (se_app (se_tup (sa_cons (se_callS (sa_cons se_v (sa_cons se_v sa_nil))) (sa_cons (se_callS (sa_cons se_v (sa_cons se_v sa_nil))) sa_nil))))))
      (ss_seq (ss_new (sn_lc (own := [16]) (si_any (se_callS (sa_cons se_v (sa_cons se_v sa_nil)))) sg_n st_yes (se_if (st_e (se_2 (r2_flat f2_eq) (se_callS (sa_cons se_v (sa_cons se_int sa_nil))) se_int)) (se_rev se_v) se_v) (by decide)))
      (ss_seq (ss_par3 (sp_e (SemN.e (sn_lc (own := [17]) (si_r1 se_v) sg_n st_yes (se_2 (r2_flat f2_sub) (se_callS (sa_cons se_v (sa_cons (se_2 r2_add (se_2 r2_mul se_int se_v) se_int) sa_nil))) se_v) (by decide))) (sp_n (sn_lst sa_nil) (sp_n (sn_lst sa_nil) sp_nil))) (by decide))
      (ss_seq (ss_for (dead := [1, 5, 7, 8, 12, 13, 14, 15, 16, 17]) (si_any se_v) (sg_tup (sgs_cons sg_n (sgs_cons sg_n sgs_nil)) (gn_cons (gn_cons gn_nil)))
      (ss_seq (ss_asg (se_2 (r2_flat f2_sub) (se_2 (r2_flat f2_sub) (se_2 r2_ix se_v se_v) (se_2 r2_ix se_v se_v)) (se_callS (sa_cons se_v (sa_cons (SemN.e (sn_lst (sa_cons se_int (sa_cons se_int (sa_cons se_int (sa_cons se_int (sa_cons (se_callS (sa_cons se_v (sa_cons (se_2 r2_add se_v se_int) sa_nil))) sa_nil))))))) sa_nil)))) sg_n)
      (ss_seq (ss_asg (se_2 r2_add (se_2 (r2_flat f2_sub) (se_2 r2_ix se_v se_v) (se_2 r2_ix se_v se_v)) (se_callS (sa_cons se_v (sa_cons (SemN.e (sn_lst (sa_cons se_int (sa_cons se_int (sa_cons se_int (sa_cons se_int (sa_cons (se_callS (sa_cons se_v (sa_cons (se_2 r2_add se_v se_int) sa_nil))) sa_nil))))))) sa_nil)))) sg_n)
      (ss_seq (ss_if (st_e (se_2 (r2_flat f2_eq) se_v se_int))
      (ss_seq (ss_asg (se_2 (r2_flat f2_sub) (se_callS (sa_cons se_v (sa_cons (se_2 r2_add (se_2 r2_mul se_int se_v) se_int) sa_nil))) se_v) sg_n)
      (ss_asg (se_2 r2_add se_v (se_callS (sa_cons se_v (sa_cons (se_2 r2_add se_v se_int) sa_nil)))) sg_n))
      ss_nx)
      (ss_seq (ss_drop (se_app se_v))
      (ss_drop (se_app se_v)))))))
      (ss_ret (se_tup (sa_cons se_v (sa_cons (se_cb1 Fw.b_tuple se_v) (sa_cons (se_cb1 Fw.b_tuple se_v) (sa_cons (se_cb1 Fw.b_tuple se_v) sa_nil)))))))))))))
end
end Fw
/-! ## Ok_law_end_from -/
set_option Elab.async false
set_option linter.all false
set_option maxRecDepth 100000
set_option maxHeartbeats 4000000
namespace Fw
open PySem PySem.Spec PyProof.Rows L2
section
variable {P : Program} {w : World} {K : PySem.W.Frag} {mg : Str → Option Value} {base : Heap}
/-! ### _law_end_from -/
abbrev s__law_end_from : Stmt := topS 32
theorem sc__law_end_from : FnScope ["frame", "end"] ["frame", "end"] (defScope s__law_end_from) := ⟨rfl, rfl, rfl, by decide +kernel, rfl, by decide +kernel, by decide +kernel⟩
theorem ok__law_end_from {f : Addr} {fd : FuncData} (F : Fun K "_law_end_from" "_law_end_from" s__law_end_from f fd) (b_int : mg "int" = none) : FnG P w K mg base CX0 1 f fd ["frame", "end"] (spP K m_law_end_from) := by
  have sc := sc__law_end_from
  refine fn_p F sc (by decide) (fun cdv A outer s H E hr => ?_)
  refine ⟨_, (pss_one (ps_ret (pe_ix (ixk (K := K) rIx rfl ix_seq) (pe_ix (ixk (K := K) rIx rfl ix_seq) (pe_ix (ixk (K := K) rIx rfl ix_seq) (pv 0) pe_int (fun _ _ => rfl)) (pe_op op_fdiv (pv 1) pe_int) (fun _ _ => rfl)) (pe_op op_mod (pe_callTy call_int1 (by rfl) b_int (by decide +kernel) (pa_cons (pv 1) pa_nil)) pe_int) (fun _ _ => rfl)))), ?_⟩
  exact (ss_ret (se_2 r2_ix (se_2 r2_ix (se_2 r2_ix se_v se_int) (se_2 (r2_flat f2_fdiv) se_v se_int)) (se_2 (r2_flat f2_mod) (se_cb1 (b1 f1_int) se_v) se_int)))
end
end Fw
/-! ## Ok_law_end_to -/
set_option Elab.async false
set_option linter.all false
set_option maxRecDepth 100000
set_option maxHeartbeats 4000000
namespace Fw
open PySem PySem.Spec PyProof.Rows L2
section
variable {P : Program} {w : World} {K : PySem.W.Frag} {mg : Str → Option Value} {base : Heap}
/-! ### _law_end_to -/
abbrev s__law_end_to : Stmt := topS 33
theorem sc__law_end_to : FnScope ["frame", "end"] ["frame", "end"] (defScope s__law_end_to) := ⟨rfl, rfl, rfl, by decide +kernel, rfl, by decide +kernel, by decide +kernel⟩
theorem ok__law_end_to {f : Addr} {fd : FuncData} (F : Fun K "_law_end_to" "_law_end_to" s__law_end_to f fd) (b_int : mg "int" = none) : FnG P w K mg base CX0 1 f fd ["frame", "end"] (spP K m_law_end_to) := by
  have sc := sc__law_end_to
  refine fn_p F sc (by decide) (fun cdv A outer s H E hr => ?_)
  refine ⟨_, (pss_one (ps_ret (pe_ix (ixk (K := K) rIx rfl ix_seq) (pe_ix (ixk (K := K) rIx rfl ix_seq) (pe_ix (ixk (K := K) rIx rfl ix_seq) (pv 0) pe_int (fun _ _ => rfl)) (pe_op op_fdiv (pv 1) pe_int) (fun _ _ => rfl)) (pe_op op_sub pe_int (pe_op op_mod (pe_callTy call_int1 (by rfl) b_int (by decide +kernel) (pa_cons (pv 1) pa_nil)) pe_int)) (fun _ _ => rfl)))), ?_⟩
  exact (ss_ret (se_2 r2_ix (se_2 r2_ix (se_2 r2_ix se_v se_int) (se_2 (r2_flat f2_fdiv) se_v se_int)) (se_2 (r2_flat f2_sub) se_int (se_2 (r2_flat f2_mod) (se_cb1 (b1 f1_int) se_v) se_int))))
end
end Fw
/-! ## Ok_law_cost -/
set_option Elab.async false
set_option linter.all false
set_option maxRecDepth 100000
set_option maxHeartbeats 4000000
namespace Fw
open PySem PySem.Spec PyProof.Rows L2
section
variable {P : Program} {w : World} {K : PySem.W.Frag} {mg : Str → Option Value} {base : Heap}
/-! ### _law_cost -/
abbrev s__law_cost : Stmt := topS 34
theorem sc__law_cost : FnScope ["frame", "end"] ["frame", "end"] (defScope s__law_cost) := ⟨rfl, rfl, rfl, by decide +kernel, rfl, by decide +kernel, by decide +kernel⟩
theorem ok__law_cost {f : Addr} {fd : FuncData} (F : Fun K "_law_cost" "_law_cost" s__law_cost f fd) (b_int : mg "int" = none) : FnG P w K mg base CX0 1 f fd ["frame", "end"] (spP K m_law_cost) := by
  have sc := sc__law_cost
  refine fn_p F sc (by decide) (fun cdv A outer s H E hr => ?_)
  refine ⟨_, (pss_one (ps_ret (pe_ifExp (pt_cmpR (opk (K := K) rEqD rfl (op_eqD hr.units)) (pe_op op_mod (pe_callTy call_int1 (by rfl) b_int (by decide +kernel) (pa_cons (pv 1) pa_nil)) pe_int) pe_int (nomark _)) (pe_ix (ixk (K := K) rIx rfl ix_seq) (pe_ix (ixk (K := K) rIx rfl ix_seq) (pv 0) pe_int (fun _ _ => rfl)) (pe_op op_fdiv (pv 1) pe_int) (fun _ _ => rfl)) (pe_op op_sub pe_int (pe_ix (ixk (K := K) rIx rfl ix_seq) (pe_ix (ixk (K := K) rIx rfl ix_seq) (pv 0) pe_int (fun _ _ => rfl)) (pe_op op_fdiv (pv 1) pe_int) (fun _ _ => rfl)))))), ?_⟩
  exact (ss_ret (se_if (st_e (se_2 (r2_flat f2_eq) (se_2 (r2_flat f2_mod) (se_cb1 (b1 f1_int) se_v) se_int) se_int)) (se_2 r2_ix (se_2 r2_ix se_v se_int) (se_2 (r2_flat f2_fdiv) se_v se_int)) (se_2 (r2_flat f2_sub) se_int (se_2 r2_ix (se_2 r2_ix se_v se_int) (se_2 (r2_flat f2_fdiv) se_v se_int)))))
end
end Fw
/-! ## Ok_law_way_cost -/
set_option Elab.async false
set_option linter.all false
set_option maxRecDepth 100000
set_option maxHeartbeats 4000000
namespace Fw
open PySem PySem.Spec PyProof.Rows L2
section
variable {P : Program} {w : World} {K : PySem.W.Frag} {mg : Str → Option Value} {base : Heap}
/-! ### _law_way_cost -/
abbrev s__law_way_cost : Stmt := topS 35
theorem sc__law_way_cost : FnScope ["frame", "ends", "end"] ["frame", "ends"] (defScope s__law_way_cost) := ⟨rfl, rfl, rfl, by decide +kernel, rfl, by decide +kernel, by decide +kernel⟩
theorem ok__law_way_cost {f : Addr} {fd : FuncData} (F : Fun K "_law_way_cost" "_law_way_cost" s__law_way_cost f fd) (c__law_cost : Callee P w K mg base 1 "_law_cost" ["frame", "end"] (spP K m_law_cost)) (b_sum : mg "sum" = none) : FnG P w K mg base CX0 2 f fd ["frame", "ends"] (spP K m_law_way_cost) := by
  obtain ⟨f__law_cost, fd__law_cost, mg__law_cost, kp__law_cost, b__law_cost, g__law_cost⟩ := c__law_cost
  have sc := sc__law_way_cost
  refine fn_p F sc (by decide) (fun cdv A outer s H E hr => ?_)
  refine ⟨_, (pss_one (ps_ret (pe_callB (callk (K := K) rSum rfl (cr_sum rfl)) (by rfl) b_sum (by decide +kernel) (pa_cons (pe_lc (own := [("end", 2)]) (g := (gName 2)) rfl sc.nd (pi_anyK (K := K) rfl (pv 1)) (blkOk_by (N := ["frame", "ends", "end"]) (sc := defScope s__law_way_cost) (by decide +kernel)) (fun _ _ _ _ _ => (pg_name (i := 2) sc.nd rfl (by first | exact Or.inl rfl | exact Or.inr rfl))) (fun _ _ _ _ _ => pts_nil) (fun _ _ _ _ _ => (pe_callG g__law_cost (hr.mono (by decide)) (by rfl) mg__law_cost kp__law_cost b__law_cost .nil pass0 (pa_cons (pv 0) (pa_cons (pv 2) pa_nil))))) pa_nil)))), ?_⟩
  exact (ss_ret (se_cb1 (b1 f1_sum) (SemN.e (sn_lc (own := [2]) (si_any se_v) sg_n st_yes (se_callP (sa_cons se_v (sa_cons se_v sa_nil))) (by decide)))))
end
end Fw
/-! ## Ok_law_are_wholes -/
set_option Elab.async false
set_option linter.all false
set_option maxRecDepth 100000
set_option maxHeartbeats 4000000
namespace Fw
open PySem PySem.Spec PyProof.Rows L2
section
variable {P : Program} {w : World} {K : PySem.W.Frag} {mg : Str → Option Value} {base : Heap}
/-! ### _law_are_wholes -/
abbrev s__law_are_wholes : Stmt := topS 37
theorem sc__law_are_wholes : FnScope ["value", "many", "one"] ["value", "many"] (defScope s__law_are_wholes) := ⟨rfl, rfl, rfl, by decide +kernel, rfl, by decide +kernel, by decide +kernel⟩
theorem ok__law_are_wholes {f : Addr} {fd : FuncData} (F : Fun K "_law_are_wholes" "_law_are_wholes" s__law_are_wholes f fd) (c__law_number : Callee P w K mg base 1 "_law_number" ["value"] (spP K m_law_number)) (b_isinstance : mg "isinstance" = none) (b_len : mg "len" = none) (b_tuple : mg "tuple" = none) : FnG P w K mg base CX0 2 f fd ["value", "many"] (spP K m_law_are_wholes) := by
  obtain ⟨f__law_number, fd__law_number, mg__law_number, kp__law_number, b__law_number, g__law_number⟩ := c__law_number
  have sc := sc__law_are_wholes
  refine fn_p F sc (by decide) (fun cdv A outer s H E hr => ?_)
  refine ⟨_, (pss_one (ps_ret (pe_and (pe_callB (callk (K := K) rIsi rfl call_isi) (by rfl) b_isinstance (by decide +kernel) (pa_cons (pv 0) (pa_cons (pe_bltn (by rfl) b_tuple (by decide +kernel) (v := .ty "tuple") rfl) pa_nil))) (pe_and (pe_cmpR (opk (K := K) rEqD rfl (op_eqD hr.units)) (pe_callB (callk (K := K) rLenA rfl call_len_seq) (by rfl) b_len PySem.boot_len (pa_cons (pv 0) pa_nil)) (pv 1) (nomark _)) (pe_one (pe_cmpR (opk (K := K) rEqD rfl (op_eqD hr.units)) (pe_lc (own := [("one", 2)]) (g := (gName 2)) rfl sc.nd (pi_anyK (K := K) rfl (pv 0)) (blkOk_by (N := ["value", "many", "one"]) (sc := defScope s__law_are_wholes) (by decide +kernel)) (fun _ _ _ _ _ => (pg_name (i := 2) sc.nd rfl (by first | exact Or.inl rfl | exact Or.inr rfl))) (fun _ _ _ _ _ => (pts_one (pt_not (pt_val (pe_callG g__law_number (hr.mono (by decide)) (by rfl) mg__law_number kp__law_number b__law_number .nil pass0 (pa_cons (pv 2) pa_nil)))))) (fun _ _ _ _ _ => pe_int)) (pe_lst pa_nil) (nomark _))))))), ?_⟩
  exact (ss_ret (se_and (se_isi isi_tuple se_v) (se_and (se_2 (r2_flat f2_eq) (se_cb1 (b1 f1_len) se_v) se_v) (se_2 (r2_flat f2_eq) (SemN.e (sn_lc (own := [2]) (si_any se_v) sg_n (st_not (st_eB (se_callP (sa_cons se_v sa_nil)))) se_int (by decide))) (SemN.e (sn_lst sa_nil))))))
end
end Fw
/-! ## Ok_law_broken -/
set_option Elab.async false
set_option linter.all false
set_option maxRecDepth 100000
set_option maxHeartbeats 4000000
namespace Fw
open PySem PySem.Spec PyProof.Rows L2
section
variable {P : Program} {w : World} {K : PySem.W.Frag} {mg : Str → Option Value} {base : Heap}
/-! ### _law_broken -/
abbrev s__law_broken : Stmt := topS 38
theorem sc__law_broken : FnScope ["frame", "heights", "r", "a", "b"] ["frame", "heights"] (defScope s__law_broken) := ⟨rfl, rfl, rfl, by decide +kernel, rfl, by decide +kernel, by decide +kernel⟩
theorem ok__law_broken {f : Addr} {fd : FuncData} (F : Fun K "_law_broken" "_law_broken" s__law_broken f fd) (b_enumerate : mg "enumerate" = none) : FnG P w K mg base CX0 1 f fd ["frame", "heights"] (spP K m_law_broken) := by
  have sc := sc__law_broken
  refine fn_p F sc (by decide) (fun cdv A outer s H E hr => ?_)
  refine ⟨_, (pss_cons (ps_for PassesOwn.never rfl (pi_enumK (K := K) rfl (by rfl) b_enumerate (pa_cons (pe_ix (ixk (K := K) rIx rfl ix_seq) (pv 0) pe_int (fun _ _ => rfl)) pa_nil)) (pg_tup rfl (pgs_cons (pg_name (i := 2) sc.nd rfl (by first | exact Or.inl rfl | exact Or.inr rfl)) (pgs_cons (pg_tup rfl (pgs_cons (pg_name (i := 3) sc.nd rfl (by first | exact Or.inl rfl | exact Or.inr rfl)) (pgs_cons (pg_name (i := 4) sc.nd rfl (by first | exact Or.inl rfl | exact Or.inr rfl)) pgs_nil))) pgs_nil)))
      (pss_one (ps_if (pt_not (pt_chain op_le op_le (pe_ix (ixk (K := K) rIx rfl ix_seq) (pe_ix (ixk (K := K) rIx rfl ix_seq) (pv 0) pe_int (fun _ _ => rfl)) (pv 2) (fun _ _ => rfl)) (pe_op op_sub (pe_ix (ixk (K := K) rIx rfl ix_seq) (pv 1) (pv 4) (fun _ _ => rfl)) (pe_ix (ixk (K := K) rIx rfl ix_seq) (pv 1) (pv 3) (fun _ _ => rfl))) (pe_ix (ixk (K := K) rIx rfl ix_seq) (pe_ix (ixk (K := K) rIx rfl ix_seq) (pv 0) pe_int (fun _ _ => rfl)) (pv 2) (fun _ _ => rfl))))
      (pss_one (ps_ret (pv 2)))
      pss_nil)))
      (pss_one (ps_ret pe_non))), ?_⟩
  exact (ss_seq (ss_for (dead := [2, 3, 4]) (si_enum (se_2 r2_ix se_v se_int)) (sg_tup (sgs_cons sg_n (sgs_cons (sg_tup (sgs_cons sg_n (sgs_cons sg_n sgs_nil)) (gn_cons (gn_cons gn_nil))) sgs_nil)) (gn_cons (gn_cons gn_nil)))
      (ss_if (st_not (st_e (se_chain (r2_flat f2_le) (r2_flat f2_le) (se_2 r2_ix (se_2 r2_ix se_v se_int) se_v) (se_2 (r2_flat f2_sub) (se_2 r2_ix se_v se_v) (se_2 r2_ix se_v se_v)) (se_2 r2_ix (se_2 r2_ix se_v se_int) se_v))))
      (ss_ret se_v)
      ss_nx))
      (ss_ret se_non))
end
end Fw
/-! ## Ok_law_way_fault -/
set_option Elab.async false
set_option linter.all false
set_option maxRecDepth 100000
set_option maxHeartbeats 4000000
namespace Fw
open PySem PySem.Spec PyProof.Rows L2
section
variable {P : Program} {w : World} {K : PySem.W.Frag} {mg : Str → Option Value} {base : Heap}
/-! ### _law_way_fault -/
abbrev s__law_way_fault : Stmt := topS 39
theorem sc__law_way_fault : FnScope ["frame", "x", "ends", "here", "i", "end"] ["frame", "x", "ends"] (defScope s__law_way_fault) := ⟨rfl, rfl, rfl, by decide +kernel, rfl, by decide +kernel, by decide +kernel⟩
theorem ok__law_way_fault {f : Addr} {fd : FuncData} (F : Fun K "_law_way_fault" "_law_way_fault" s__law_way_fault f fd) (c__law_end_from : Callee P w K mg base 1 "_law_end_from" ["frame", "end"] (spP K m_law_end_from)) (c__law_end_to : Callee P w K mg base 1 "_law_end_to" ["frame", "end"] (spP K m_law_end_to)) (b_enumerate : mg "enumerate" = none) : FnG P w K mg base CX0 2 f fd ["frame", "x", "ends"] (spP K m_law_way_fault) := by
  obtain ⟨f__law_end_from, fd__law_end_from, mg__law_end_from, kp__law_end_from, b__law_end_from, g__law_end_from⟩ := c__law_end_from
  obtain ⟨f__law_end_to, fd__law_end_to, mg__law_end_to, kp__law_end_to, b__law_end_to, g__law_end_to⟩ := c__law_end_to
  have sc := sc__law_way_fault
  refine fn_p F sc (by decide) (fun cdv A outer s H E hr => ?_)
  refine ⟨_, (pss_cons (ps_set (i := 3) sc.nd rfl (by first | exact Or.inl rfl | exact Or.inr rfl) (pv 1))
      (pss_cons (ps_for PassesOwn.never rfl (pi_enumK (K := K) rfl (by rfl) b_enumerate (pa_cons (pv 2) pa_nil)) (pg_tup rfl (pgs_cons (pg_name (i := 4) sc.nd rfl (by first | exact Or.inl rfl | exact Or.inr rfl)) (pgs_cons (pg_name (i := 5) sc.nd rfl (by first | exact Or.inl rfl | exact Or.inr rfl)) pgs_nil)))
      (pss_cons (ps_if (pt_cmpR (opk (K := K) rNeD rfl (op_neD hr.units)) (pe_callG g__law_end_from (hr.mono (by decide)) (by rfl) mg__law_end_from kp__law_end_from b__law_end_from .nil pass0 (pa_cons (pv 0) (pa_cons (pv 5) pa_nil))) (pv 3) (nomark _))
      (pss_one (ps_ret (pe_tup (pa_cons pe_str (pa_cons (pv 4) pa_nil)))))
      pss_nil)
      (pss_one (ps_set (i := 3) sc.nd rfl (by first | exact Or.inl rfl | exact Or.inr rfl) (pe_callG g__law_end_to (hr.mono (by decide)) (by rfl) mg__law_end_to kp__law_end_to b__law_end_to .nil pass0 (pa_cons (pv 0) (pa_cons (pv 5) pa_nil)))))))
      (pss_one (ps_ret (pe_ifExp (pt_cmpR (opk (K := K) rNeD rfl (op_neD hr.units)) (pv 3) (pv 1) (nomark _)) (pe_tup (pa_cons pe_str (pa_cons (pv 3) pa_nil))) pe_non))))), ?_⟩
  exact (ss_seq (ss_asg se_v sg_n)
      (ss_seq (ss_for (dead := [2, 4, 5]) (si_enum se_v) (sg_tup (sgs_cons sg_n (sgs_cons sg_n sgs_nil)) (gn_cons (gn_cons gn_nil)))
      (ss_seq (ss_if (st_e (se_2 (r2_flat f2_ne) (se_callP (sa_cons se_v (sa_cons se_v sa_nil))) se_v))
      (ss_ret (se_tup (sa_cons se_str (sa_cons se_v sa_nil))))
      ss_nx)
      (ss_asg (se_callP (sa_cons se_v (sa_cons se_v sa_nil))) sg_n)))
      (ss_ret (se_if (st_e (se_2 (r2_flat f2_ne) se_v se_v)) (se_tup (sa_cons se_str (sa_cons se_v sa_nil))) se_non))))
end
end Fw
/-! ## Ok_law_heights_fault -/
set_option Elab.async false
set_option linter.all false
set_option maxRecDepth 100000
set_option maxHeartbeats 4000000
namespace Fw
open PySem PySem.Spec PyProof.Rows L2
section
variable {P : Program} {w : World} {K : PySem.W.Frag} {mg : Str → Option Value} {base : Heap}
/-! ### _law_heights_fault -/
abbrev s__law_heights_fault : Stmt := topS 40
theorem sc__law_heights_fault : FnScope ["frame", "value"] ["frame", "value"] (defScope s__law_heights_fault) := ⟨rfl, rfl, rfl, by decide +kernel, rfl, by decide +kernel, by decide +kernel⟩
theorem ok__law_heights_fault {f : Addr} {fd : FuncData} (F : Fun K "_law_heights_fault" "_law_heights_fault" s__law_heights_fault f fd) (c__law_broken : Callee P w K mg base 1 "_law_broken" ["frame", "heights"] (spP K m_law_broken)) : FnG P w K mg base CX0 2 f fd ["frame", "value"] (spP K m_law_heights_fault) := by
  obtain ⟨f__law_broken, fd__law_broken, mg__law_broken, kp__law_broken, b__law_broken, g__law_broken⟩ := c__law_broken
  have sc := sc__law_heights_fault
  refine fn_p F sc (by decide) (fun cdv A outer s H E hr => ?_)
  refine ⟨_, (pss_cons (ps_if (pt_cmpR (opk (K := K) rNeD rfl (op_neD hr.units)) (pe_ix (ixk (K := K) rIx rfl ix_seq) (pv 1) pe_int (fun _ _ => rfl)) pe_int (nomark _))
      (pss_one (ps_ret (pe_tup (pa_cons pe_str pa_nil))))
      pss_nil)
      (pss_one (ps_ret (pe_ifExp (pt_cmp (pc_notN (pe_callG g__law_broken (hr.mono (by decide)) (by rfl) mg__law_broken kp__law_broken b__law_broken .nil pass0 (pa_cons (pv 0) (pa_cons (pv 1) pa_nil))))) (pe_tup (pa_cons pe_str (pa_cons (pe_callG g__law_broken (hr.mono (by decide)) (by rfl) mg__law_broken kp__law_broken b__law_broken .nil pass0 (pa_cons (pv 0) (pa_cons (pv 1) pa_nil))) pa_nil))) pe_non)))), ?_⟩
  exact (ss_seq (ss_if (st_e (se_2 (r2_flat f2_ne) (se_2 r2_ix se_v se_int) se_int))
      (ss_ret (se_tup (sa_cons se_str sa_nil)))
      ss_nx)
      (ss_ret (se_if (st_eB (se_notN (se_callP (sa_cons se_v (sa_cons se_v sa_nil))))) (se_tup (sa_cons se_str (sa_cons (se_callP (sa_cons se_v (sa_cons se_v sa_nil))) sa_nil))) se_non)))
end
end Fw
/-! ## Ok_law_are_ends -/
set_option Elab.async false
set_option linter.all false
set_option maxRecDepth 100000
set_option maxHeartbeats 4000000
namespace Fw
open PySem PySem.Spec PyProof.Rows L2
section
variable {P : Program} {w : World} {K : PySem.W.Frag} {mg : Str → Option Value} {base : Heap}
/-! ### _law_are_ends -/
abbrev s__law_are_ends : Stmt := topS 41
theorem sc__law_are_ends : FnScope ["frame", "value", "end"] ["frame", "value"] (defScope s__law_are_ends) := ⟨rfl, rfl, rfl, by decide +kernel, rfl, by decide +kernel, by decide +kernel⟩
theorem ok__law_are_ends {f : Addr} {fd : FuncData} (F : Fun K "_law_are_ends" "_law_are_ends" s__law_are_ends f fd) (c__law_number : Callee P w K mg base 1 "_law_number" ["value"] (spP K m_law_number)) (b_isinstance : mg "isinstance" = none) (b_len : mg "len" = none) (b_tuple : mg "tuple" = none) : FnG P w K mg base CX0 2 f fd ["frame", "value"] (spP K m_law_are_ends) := by
  obtain ⟨f__law_number, fd__law_number, mg__law_number, kp__law_number, b__law_number, g__law_number⟩ := c__law_number
  have sc := sc__law_are_ends
  refine fn_p F sc (by decide) (fun cdv A outer s H E hr => ?_)
  refine ⟨_, (pss_one (ps_ret (pe_and (pe_callB (callk (K := K) rIsi rfl call_isi) (by rfl) b_isinstance (by decide +kernel) (pa_cons (pv 1) (pa_cons (pe_bltn (by rfl) b_tuple (by decide +kernel) (v := .ty "tuple") rfl) pa_nil))) (pe_one (pe_cmpR (opk (K := K) rEqD rfl (op_eqD hr.units)) (pe_lc (own := [("end", 2)]) (g := (gName 2)) rfl sc.nd (pi_anyK (K := K) rfl (pv 1)) (blkOk_by (N := ["frame", "value", "end"]) (sc := defScope s__law_are_ends) (by decide +kernel)) (fun _ _ _ _ _ => (pg_name (i := 2) sc.nd rfl (by first | exact Or.inl rfl | exact Or.inr rfl))) (fun _ _ _ _ _ => (pts_one (PW.pt (pw_or (pt_not (pt_val (pe_callG g__law_number (hr.mono (by decide)) (by rfl) mg__law_number kp__law_number b__law_number .nil pass0 (pa_cons (pv 2) pa_nil)))) (pw_or1 (pt_not (pt_chain op_le op_lt pe_int (pv 2) (pe_op (opk (K := K) rMulA rfl op_mulA) pe_int (pe_callB (callk (K := K) rLenA rfl call_len_seq) (by rfl) b_len PySem.boot_len (pa_cons (pe_ix (ixk (K := K) rIx rfl ix_seq) (pv 0) pe_int (fun _ _ => rfl)) pa_nil)))))))))) (fun _ _ _ _ _ => pe_int)) (pe_lst pa_nil) (nomark _)))))), ?_⟩
  exact (ss_ret (se_and (se_isi isi_tuple se_v) (se_2 (r2_flat f2_eq) (SemN.e (sn_lc (own := [2]) (si_any se_v) sg_n (st_or (st_not (st_eB (se_callP (sa_cons se_v sa_nil)))) (st_not (st_e (se_chain (r2_flat f2_le) (r2_flat f2_lt) se_int se_v (se_2 r2_mul se_int (se_cb1 (b1 f1_len) (se_2 r2_ix se_v se_int))))))) se_int (by decide))) (SemN.e (sn_lst sa_nil)))))
end
end Fw
/-! ## Ok_law_paper_fault -/
set_option Elab.async false
set_option linter.all false
set_option maxRecDepth 100000
set_option maxHeartbeats 4000000
namespace Fw
open PySem PySem.Spec PyProof.Rows L2
section
variable {P : Program} {w : World} {K : PySem.W.Frag} {mg : Str → Option Value} {base : Heap}
/-! ### _law_paper_fault -/
abbrev s__law_paper_fault : Stmt := topS 42
theorem sc__law_paper_fault : FnScope ["frame", "value", "fault"] ["frame", "value"] (defScope s__law_paper_fault) := ⟨rfl, rfl, rfl, by decide +kernel, rfl, by decide +kernel, by decide +kernel⟩
theorem ok__law_paper_fault {f : Addr} {fd : FuncData} (F : Fun K "_law_paper_fault" "_law_paper_fault" s__law_paper_fault f fd) (c__law_are_ends : Callee P w K mg base 2 "_law_are_ends" ["frame", "value"] (spP K m_law_are_ends)) (c__law_are_wholes : Callee P w K mg base 2 "_law_are_wholes" ["value", "many"] (spP K m_law_are_wholes)) (c__law_heights_fault : Callee P w K mg base 2 "_law_heights_fault" ["frame", "value"] (spP K m_law_heights_fault)) (c__law_number : Callee P w K mg base 1 "_law_number" ["value"] (spP K m_law_number)) (c__law_way_cost : Callee P w K mg base 2 "_law_way_cost" ["frame", "ends"] (spP K m_law_way_cost)) (c__law_way_fault : Callee P w K mg base 2 "_law_way_fault" ["frame", "x", "ends"] (spP K m_law_way_fault)) (b_isinstance : mg "isinstance" = none) (b_len : mg "len" = none) (b_str : mg "str" = none) (b_tuple : mg "tuple" = none) : FnG P w K mg base CX0 3 f fd ["frame", "value"] (spP K m_law_paper_fault) := by
  obtain ⟨f__law_are_ends, fd__law_are_ends, mg__law_are_ends, kp__law_are_ends, b__law_are_ends, g__law_are_ends⟩ := c__law_are_ends
  obtain ⟨f__law_are_wholes, fd__law_are_wholes, mg__law_are_wholes, kp__law_are_wholes, b__law_are_wholes, g__law_are_wholes⟩ := c__law_are_wholes
  obtain ⟨f__law_heights_fault, fd__law_heights_fault, mg__law_heights_fault, kp__law_heights_fault, b__law_heights_fault, g__law_heights_fault⟩ := c__law_heights_fault
  obtain ⟨f__law_number, fd__law_number, mg__law_number, kp__law_number, b__law_number, g__law_number⟩ := c__law_number
  obtain ⟨f__law_way_cost, fd__law_way_cost, mg__law_way_cost, kp__law_way_cost, b__law_way_cost, g__law_way_cost⟩ := c__law_way_cost
  obtain ⟨f__law_way_fault, fd__law_way_fault, mg__law_way_fault, kp__law_way_fault, b__law_way_fault, g__law_way_fault⟩ := c__law_way_fault
  have sc := sc__law_paper_fault
  refine fn_p F sc (by decide) (fun cdv A outer s H E hr => ?_)
  refine ⟨_, (pss_cons (ps_if (PW.pt (pw_or (pt_not (pt_val (pe_callB (callk (K := K) rIsi rfl call_isi) (by rfl) b_isinstance (by decide +kernel) (pa_cons (pv 1) (pa_cons (pe_bltn (by rfl) b_tuple (by decide +kernel) (v := .ty "tuple") rfl) pa_nil))))) (pw_or (pt_cmpR (opk (K := K) rEq0 rfl (op_eq0 hr.units)) (pv 1) (pe_tup pa_nil) (nomark _)) (pw_or1 (pt_not (pt_val (pe_callB (callk (K := K) rIsi rfl call_isi) (by rfl) b_isinstance (by decide +kernel) (pa_cons (pe_ix (ixk (K := K) rIx rfl ix_seq) (pv 1) pe_int (fun _ _ => rfl)) (pa_cons (pe_bltn (by rfl) b_str (by decide +kernel) (v := .ty "str") rfl) pa_nil)))))))))
      (pss_one (ps_ret (pe_tup (pa_cons pe_str pa_nil))))
      pss_nil)
      (pss_cons (ps_if (PW.pt (pw_and (pt_cmpR (opk (K := K) rEqD rfl (op_eqD hr.units)) (pe_ix (ixk (K := K) rIx rfl ix_seq) (pv 1) pe_int (fun _ _ => rfl)) pe_str (nomark _)) (pw_and (pt_cmpR (opk (K := K) rEqD rfl (op_eqD hr.units)) (pe_callB (callk (K := K) rLenA rfl call_len_seq) (by rfl) b_len PySem.boot_len (pa_cons (pv 1) pa_nil)) pe_int (nomark _)) (pw_and1 (pt_val (pe_callG g__law_are_wholes (hr.mono (by decide)) (by rfl) mg__law_are_wholes kp__law_are_wholes b__law_are_wholes .nil pass0 (pa_cons (pe_ix (ixk (K := K) rIx rfl ix_seq) (pv 1) pe_int (fun _ _ => rfl)) (pa_cons (pe_ix (ixk (K := K) rIx rfl ix_seq) (pv 0) pe_int (fun _ _ => rfl)) pa_nil))))))))
      (pss_one (ps_ret (pe_callG g__law_heights_fault (hr.mono (by decide)) (by rfl) mg__law_heights_fault kp__law_heights_fault b__law_heights_fault .nil pass0 (pa_cons (pv 0) (pa_cons (pe_ix (ixk (K := K) rIx rfl ix_seq) (pv 1) pe_int (fun _ _ => rfl)) pa_nil)))))
      pss_nil)
      (pss_cons (ps_if (PW.pt (pw_or (pt_cmpR (opk (K := K) rNeD rfl (op_neD hr.units)) (pe_ix (ixk (K := K) rIx rfl ix_seq) (pv 1) pe_int (fun _ _ => rfl)) pe_str (nomark _)) (pw_or (pt_cmpR (opk (K := K) rNeD rfl (op_neD hr.units)) (pe_callB (callk (K := K) rLenA rfl call_len_seq) (by rfl) b_len PySem.boot_len (pa_cons (pv 1) pa_nil)) pe_int (nomark _)) (pw_or (pt_not (pt_val (pe_callG g__law_number (hr.mono (by decide)) (by rfl) mg__law_number kp__law_number b__law_number .nil pass0 (pa_cons (pe_ix (ixk (K := K) rIx rfl ix_seq) (pv 1) pe_int (fun _ _ => rfl)) pa_nil)))) (pw_or1 (pt_not (pt_chain op_le op_lt pe_int (pe_ix (ixk (K := K) rIx rfl ix_seq) (pv 1) pe_int (fun _ _ => rfl)) (pe_ix (ixk (K := K) rIx rfl ix_seq) (pv 0) pe_int (fun _ _ => rfl)))))))))
      (pss_one (ps_ret (pe_tup (pa_cons pe_str pa_nil))))
      pss_nil)
      (pss_cons (ps_if (PW.pt (pw_or (pt_not (pt_val (pe_callG g__law_are_ends (hr.mono (by decide)) (by rfl) mg__law_are_ends kp__law_are_ends b__law_are_ends .nil pass0 (pa_cons (pv 0) (pa_cons (pe_ix (ixk (K := K) rIx rfl ix_seq) (pv 1) pe_int (fun _ _ => rfl)) pa_nil))))) (pw_or1 (pt_cmpR (opk (K := K) rEq0 rfl (op_eq0 hr.units)) (pe_ix (ixk (K := K) rIx rfl ix_seq) (pv 1) pe_int (fun _ _ => rfl)) (pe_tup pa_nil) (nomark _)))))
      (pss_one (ps_ret (pe_tup (pa_cons pe_str pa_nil))))
      pss_nil)
      (pss_cons (ps_set (i := 2) sc.nd rfl (by first | exact Or.inl rfl | exact Or.inr rfl) (pe_callG g__law_way_fault (hr.mono (by decide)) (by rfl) mg__law_way_fault kp__law_way_fault b__law_way_fault .nil pass0 (pa_cons (pv 0) (pa_cons (pe_ix (ixk (K := K) rIx rfl ix_seq) (pv 1) pe_int (fun _ _ => rfl)) (pa_cons (pe_ix (ixk (K := K) rIx rfl ix_seq) (pv 1) pe_int (fun _ _ => rfl)) pa_nil)))))
      (pss_cons (ps_if (pt_cmp (pc_notN (pv 2)))
      (pss_one (ps_ret (pv 2)))
      pss_nil)
      (pss_one (ps_ret (pe_ifExp (pt_cmpR op_ge (pe_callG g__law_way_cost (hr.mono (by decide)) (by rfl) mg__law_way_cost kp__law_way_cost b__law_way_cost .nil pass0 (pa_cons (pv 0) (pa_cons (pe_ix (ixk (K := K) rIx rfl ix_seq) (pv 1) pe_int (fun _ _ => rfl)) pa_nil))) pe_int (nomark _)) (pe_tup (pa_cons pe_str (pa_cons (pe_callG g__law_way_cost (hr.mono (by decide)) (by rfl) mg__law_way_cost kp__law_way_cost b__law_way_cost .nil pass0 (pa_cons (pv 0) (pa_cons (pe_ix (ixk (K := K) rIx rfl ix_seq) (pv 1) pe_int (fun _ _ => rfl)) pa_nil))) pa_nil))) pe_non))))))))), ?_⟩
  exact (ss_seq (ss_if (st_or (st_not (st_eB (se_isi isi_tuple se_v))) (st_or (st_e (se_2 (r2_flat f2_eq0) se_v (se_tup sa_nil))) (st_not (st_eB (se_isi isi_str (se_2 r2_ix se_v se_int))))))
      (ss_ret (se_tup (sa_cons se_str sa_nil)))
      ss_nx)
      (ss_seq (ss_if (st_and (st_e (se_2 (r2_flat f2_eq) (se_2 r2_ix se_v se_int) se_str)) (st_and (st_e (se_2 (r2_flat f2_eq) (se_cb1 (b1 f1_len) se_v) se_int)) (st_eB (se_callP (sa_cons (se_2 r2_ix se_v se_int) (sa_cons (se_2 r2_ix se_v se_int) sa_nil))))))
      (ss_ret (se_callP (sa_cons se_v (sa_cons (se_2 r2_ix se_v se_int) sa_nil))))
      ss_nx)
      (ss_seq (ss_if (st_or (st_e (se_2 (r2_flat f2_ne) (se_2 r2_ix se_v se_int) se_str)) (st_or (st_e (se_2 (r2_flat f2_ne) (se_cb1 (b1 f1_len) se_v) se_int)) (st_or (st_not (st_eB (se_callP (sa_cons (se_2 r2_ix se_v se_int) sa_nil)))) (st_not (st_e (se_chain (r2_flat f2_le) (r2_flat f2_lt) se_int (se_2 r2_ix se_v se_int) (se_2 r2_ix se_v se_int)))))))
      (ss_ret (se_tup (sa_cons se_str sa_nil)))
      ss_nx)
      (ss_seq (ss_if (st_or (st_not (st_eB (se_callP (sa_cons se_v (sa_cons (se_2 r2_ix se_v se_int) sa_nil))))) (st_e (se_2 (r2_flat f2_eq0) (se_2 r2_ix se_v se_int) (se_tup sa_nil))))
      (ss_ret (se_tup (sa_cons se_str sa_nil)))
      ss_nx)
      (ss_seq (ss_asg (se_callP (sa_cons se_v (sa_cons (se_2 r2_ix se_v se_int) (sa_cons (se_2 r2_ix se_v se_int) sa_nil)))) sg_n)
      (ss_seq (ss_if (st_eB (se_notN se_v))
      (ss_ret se_v)
      ss_nx)
      (ss_ret (se_if (st_e (se_2 (r2_flat f2_ge) (se_callP (sa_cons se_v (sa_cons (se_2 r2_ix se_v se_int) sa_nil))) se_int)) (se_tup (sa_cons se_str (sa_cons (se_callP (sa_cons se_v (sa_cons (se_2 r2_ix se_v se_int) sa_nil))) sa_nil))) se_non))))))))
end
end Fw
/-! ## Ok_law_walk -/
set_option Elab.async false
set_option linter.all false
set_option maxRecDepth 100000
set_option maxHeartbeats 4000000
namespace Fw
open PySem PySem.Spec PyProof.Rows L2
section
variable {P : Program} {w : World} {K : PySem.W.Frag} {mg : Str → Option Value} {base : Heap}
/-! ### _law_walk -/
abbrev s__law_walk : Stmt := topS 43
theorem sc__law_walk : FnScope ["source", "frame", "x", "most", "found", "here", "lap", "some", "end"] ["source", "frame", "x", "most"] (defScope s__law_walk) := ⟨rfl, rfl, rfl, by decide +kernel, rfl, by decide +kernel, by decide +kernel⟩
theorem ok__law_walk {f : Addr} {fd : FuncData} (F : Fun K "_law_walk" "_law_walk" s__law_walk f fd) (c__law_end_from : Callee P w K mg base 1 "_law_end_from" ["frame", "end"] (spP K m_law_end_from)) (c__law_end_to : Callee P w K mg base 1 "_law_end_to" ["frame", "end"] (spP K m_law_end_to)) (c__law_of : Callee P w K mg base 2 "_law_of" ["source", "some"] (spS K m_law_of)) (c__law_pick : Callee P w K mg base 1 "_law_pick" ["source", "many"] (spPick K)) (b_len : mg "len" = none) (b_range : mg "range" = none) (b_tuple : mg "tuple" = none) : FnG P w K mg base CX0 3 f fd ["source", "frame", "x", "most"] (spS K m_law_walk) := by
  obtain ⟨f__law_end_from, fd__law_end_from, mg__law_end_from, kp__law_end_from, b__law_end_from, g__law_end_from⟩ := c__law_end_from
  obtain ⟨f__law_end_to, fd__law_end_to, mg__law_end_to, kp__law_end_to, b__law_end_to, g__law_end_to⟩ := c__law_end_to
  obtain ⟨f__law_of, fd__law_of, mg__law_of, kp__law_of, b__law_of, g__law_of⟩ := c__law_of
  obtain ⟨f__law_pick, fd__law_pick, mg__law_pick, kp__law_pick, b__law_pick, g__law_pick⟩ := c__law_pick
  have sc := sc__law_walk
  refine fn_f srcW (fun _ _ => m_law_walkB) F sc (by decide) (fun cdv A outer s H E hr => ?_)
  refine ⟨_, (pss_cons (ps_asg (g := L2.gTup K 2 (gNames [4, 5])) (pe_tup (pa_cons (pe_lst pa_nil) (pa_cons (pv 2) pa_nil))) (pg_tup rfl (pgs_cons (pg_name (i := 4) sc.nd rfl (by first | exact Or.inl rfl | exact Or.inr rfl)) (pgs_cons (pg_name (i := 5) sc.nd rfl (by first | exact Or.inl rfl | exact Or.inr rfl)) pgs_nil))))
      (pss_cons (ps_for PassesOwn.never rfl (pi_range1 rfl b_range (pa_cons (pe_callG g__law_pick (hr.mono (by decide)) (by rfl) mg__law_pick kp__law_pick b__law_pick .nil pass0 (pa_cons (pv 0) (pa_cons (pe_op (opk (K := K) rAddA rfl op_addA) (pv 3) pe_int) pa_nil))) pa_nil)) (pg_name (i := 6) sc.nd rfl (by first | exact Or.inl rfl | exact Or.inr rfl))
      (pss_cons (ps_setLc (i := 7) (own := [("end", 8)]) (g := (gName 8)) rfl sc.nd rfl rfl (sw_true rfl rfl rfl (by decide +kernel)) (pi_range1 rfl b_range (pa_cons (pe_op (opk (K := K) rMulA rfl op_mulA) pe_int (pe_callB (callk (K := K) rLenA rfl call_len_seq) (by rfl) b_len PySem.boot_len (pa_cons (pe_ix (ixk (K := K) rIx rfl ix_seq) (pv 1) pe_int (fun _ _ => rfl)) pa_nil))) pa_nil)) (blkOk_by (N := ["source", "frame", "x", "most", "found", "here", "lap", "some", "end"]) (sc := defScope s__law_walk) (by decide +kernel)) (fun _ _ _ _ _ => (pg_name (i := 8) sc.nd rfl (by first | exact Or.inl rfl | exact Or.inr rfl))) (fun _ _ _ _ _ => (pts_one (pt_cmpR (opk (K := K) rEqD rfl (op_eqD hr.units)) (pe_callG g__law_end_from (hr.mono (by decide)) (by rfl) mg__law_end_from kp__law_end_from b__law_end_from .nil pass0 (pa_cons (pv 1) (pa_cons (pv 8) pa_nil))) (pv 5) (nomark _)))) (fun _ _ _ _ _ => (pv 8)))
      (pss_one (ps_if (pt_cmpR (opk (K := K) rNeD rfl (op_neD hr.units)) (pv 7) (pe_lst pa_nil) (nomark _))
      (pss_cons (ps_expr (pe_bmK (K := K) rfl PySem.F.plainAttrs_list PySem.F.slot_list_append PySem.F.type_list_append mt_append (pv 4) (pa_cons (pe_callG g__law_of (hr.mono (by decide)) (by rfl) mg__law_of kp__law_of b__law_of .nil pass0 (pa_cons (pv 0) (pa_cons (pv 7) pa_nil))) pa_nil)))
      (pss_one (ps_set (i := 5) sc.nd rfl (by first | exact Or.inl rfl | exact Or.inr rfl) (pe_callG g__law_end_to (hr.mono (by decide)) (by rfl) mg__law_end_to kp__law_end_to b__law_end_to .nil pass0 (pa_cons (pv 1) (pa_cons (pe_ix (ixk (K := K) rIx rfl ix_seq) (pv 4) (pe_un un_neg pe_int) (fun _ _ => rfl)) pa_nil))))))
      pss_nil))))
      (pss_one (ps_ret (pe_callTy (callk (K := K) rTupleA rfl call_tuple_of) (by rfl) b_tuple (by decide +kernel) (pa_cons (pv 4) pa_nil)))))), ?_⟩
  exact fun a c => (ss_seq (ss_unp (is := [4, 5]) (sp_n (sn_lst sa_nil) (sp_e se_v sp_nil)) rfl (by decide) (by decide))
      (ss_seq (ss_for (dead := [2, 3, 6, 7]) (si_r1 (se_callS (sa_cons se_v (sa_cons (se_2 r2_add se_v se_int) sa_nil)))) sg_n
      (ss_seq (ss_asg (SemN.e (sn_lc (own := [8]) (si_r1 (se_2 r2_mul se_int (se_cb1 (b1 f1_len) (se_2 r2_ix se_v se_int)))) sg_n (st_e (se_2 (r2_flat f2_eq) (se_callP (sa_cons se_v (sa_cons se_v sa_nil))) se_v)) se_v (by decide))) sg_n)
      (ss_if (st_e (se_2 (r2_flat f2_ne) se_v (SemN.e (sn_lst sa_nil))))
      (ss_seq (ss_drop (se_app (se_callS (sa_cons se_v (sa_cons se_v sa_nil)))))
      (ss_asg (se_callP (sa_cons se_v (sa_cons (se_blIx (se_1 r1_neg se_int)) sa_nil))) sg_n))
      ss_nx)))
      (ss_ret (se_cb1 Fw.b_tuple se_v))))
end
end Fw
/-! ## Ok_law_bent -/
set_option Elab.async false
set_option linter.all false
set_option maxRecDepth 100000
set_option maxHeartbeats 4000000
namespace Fw
open PySem PySem.Spec PyProof.Rows L2
section
variable {P : Program} {w : World} {K : PySem.W.Frag} {mg : Str → Option Value} {base : Heap}
/-! ### _law_bent -/
abbrev s__law_bent : Stmt := topS 44
theorem sc__law_bent : FnScope ["source", "value", "odd", "some", "k", "way"] ["source", "value"] (defScope s__law_bent) := ⟨rfl, rfl, rfl, by decide +kernel, rfl, by decide +kernel, by decide +kernel⟩
theorem okr__law_bent {n : Nat} {rec : List D → Src → Option (D × Src)} {f : Addr} {fd : FuncData} (F : Fun K "_law_bent" "_law_bent" s__law_bent f fd) (c__law_number : Callee P w K mg base 1 "_law_number" ["value"] (spP K m_law_number)) (c__law_of : Callee P w K mg base 2 "_law_of" ["source", "some"] (spS K m_law_of)) (c__law_pick : Callee P w K mg base 1 "_law_pick" ["source", "many"] (spPick K)) (b_isinstance : mg "isinstance" = none) (b_len : mg "len" = none) (b_list : mg "list" = none) (b_tuple : mg "tuple" = none) (c__law_bent : Callee P w K mg base (3 + n) "_law_bent" ["source", "value"] (spS K rec)) : FnG P w K mg base CX0 (3 + n + 1) f fd ["source", "value"] (spS K (runC 2 6 (m_law_bentB rec))) := by
  obtain ⟨f__law_bent, fd__law_bent, mg__law_bent, kp__law_bent, b__law_bent, g__law_bent⟩ := c__law_bent
  obtain ⟨f__law_number, fd__law_number, mg__law_number, kp__law_number, b__law_number, g__law_number⟩ := c__law_number
  obtain ⟨f__law_of, fd__law_of, mg__law_of, kp__law_of, b__law_of, g__law_of⟩ := c__law_of
  obtain ⟨f__law_pick, fd__law_pick, mg__law_pick, kp__law_pick, b__law_pick, g__law_pick⟩ := c__law_pick
  have sc := sc__law_bent
  refine fn_f srcW (fun _ _ => m_law_bentB rec) F sc (by decide) (fun cdv A outer s H E hr => ?_)
  refine ⟨_, (pss_cons (ps_set (i := 2) sc.nd rfl (by first | exact Or.inl rfl | exact Or.inr rfl) (pe_lst (pa_cons pe_non (pa_cons pe_int (pa_cons pe_int (pa_cons pe_int (pa_cons pe_bl (pa_cons (pe_un un_neg pe_int) (pa_cons pe_str (pa_cons pe_str (pa_cons pe_str (pa_cons pe_str (pa_cons pe_str (pa_cons (pe_tup pa_nil) (pa_cons (pe_tup (pa_cons pe_int pa_nil)) (pa_cons (pe_tup (pa_cons pe_int (pa_cons pe_int pa_nil))) (pa_cons (pe_lst pa_nil) (pa_cons pe_dnewK (pa_cons (pe_op op_pow pe_int pe_int) pa_nil)))))))))))))))))))
      (pss_cons (ps_if (PW.pt (pw_or (pt_not (pt_val (pe_callB (callk (K := K) rIsi rfl call_isi) (by rfl) b_isinstance (by decide +kernel) (pa_cons (pv 1) (pa_cons (pe_bltn (by rfl) b_tuple (by decide +kernel) (v := .ty "tuple") rfl) pa_nil))))) (pw_or (pt_cmpR (opk (K := K) rEq0 rfl (op_eq0 hr.units)) (pv 1) (pe_tup pa_nil) (nomark _)) (pw_or1 (pt_cmpR (opk (K := K) rEqD rfl (op_eqD hr.units)) (pe_callG g__law_pick (hr.mono (by omega)) (by rfl) mg__law_pick kp__law_pick b__law_pick .nil pass0 (pa_cons (pv 0) (pa_cons pe_int pa_nil))) pe_int (nomark _))))))
      (pss_cons (ps_set (i := 3) sc.nd rfl (by first | exact Or.inl rfl | exact Or.inr rfl) (pe_lst (pa_cons (pe_callG g__law_of (hr.mono (by omega)) (by rfl) mg__law_of kp__law_of b__law_of .nil pass0 (pa_cons (pv 0) (pa_cons (pv 2) pa_nil))) pa_nil)))
      (pss_cons (ps_if (pt_val (pe_callB (callk (K := K) rIsi rfl call_isi) (by rfl) b_isinstance (by decide +kernel) (pa_cons (pv 1) (pa_cons (pe_bltn (by rfl) b_tuple (by decide +kernel) (v := .ty "tuple") rfl) pa_nil))))
      (pss_one (ps_set (i := 3) sc.nd rfl (by first | exact Or.inl rfl | exact Or.inr rfl) (pe_op (opk (K := K) rAddA rfl op_addA) (pv 3) (pe_lst (pa_cons (pe_slice (slk (K := K) rSlLT rfl sl_any) (pv 1) (po_some pe_int) po_none) (pa_cons (pe_slice (slk (K := K) rSlLT rfl sl_any) (pv 1) po_none (po_some (pe_un un_neg pe_int))) (pa_cons (pe_op (opk (K := K) rAddA rfl op_addA) (pv 1) (pe_slice (slk (K := K) rSlLT rfl sl_any) (pv 1) po_none (po_some pe_int))) (pa_cons (pe_callTy (callk (K := K) rListA rfl call_list_of) (by rfl) b_list (by decide +kernel) (pa_cons (pv 1) pa_nil)) (pa_cons (pe_revK (K := K) rfl (pv 1)) (pa_cons (pe_op (opk (K := K) rAddA rfl op_addA) (pv 1) (pe_tup (pa_cons pe_int pa_nil))) pa_nil))))))))))
      pss_nil)
      (pss_one (ps_ret (pe_callG g__law_of (hr.mono (by omega)) (by rfl) mg__law_of kp__law_of b__law_of .nil pass0 (pa_cons (pv 0) (pa_cons (pv 3) pa_nil)))))))
      pss_nil)
      (pss_cons (ps_par (i := 4) (j := 5) rfl sc.nd rfl rfl (by decide) rfl rfl (pa_cons (pe_callG g__law_pick (hr.mono (by omega)) (by rfl) mg__law_pick kp__law_pick b__law_pick .nil pass0 (pa_cons (pv 0) (pa_cons (pe_callB (callk (K := K) rLenA rfl call_len_seq) (by rfl) b_len PySem.boot_len (pa_cons (pv 1) pa_nil)) pa_nil))) (pa_cons (pe_callG g__law_pick (hr.mono (by omega)) (by rfl) mg__law_pick kp__law_pick b__law_pick .nil pass0 (pa_cons (pv 0) (pa_cons pe_int pa_nil))) pa_nil)) (by first | rfl | (with_unfolding_all rfl) | (decide +kernel)))
      (pss_cons (ps_if (PW.pt (pw_and (pt_cmpR op_lt (pv 5) pe_int (nomark _)) (pw_and1 (pt_val (pe_callG g__law_number (hr.mono (by omega)) (by rfl) mg__law_number kp__law_number b__law_number .nil pass0 (pa_cons (pe_ix (ixk (K := K) rIx rfl ix_seq) (pv 1) (pv 4) (fun _ _ => rfl)) pa_nil))))))
      (pss_one (ps_ret (pe_op (opk (K := K) rAddA rfl op_addA) (pe_op (opk (K := K) rAddA rfl op_addA) (pe_slice (slk (K := K) rSlLT rfl sl_any) (pv 1) po_none (po_some (pv 4))) (pe_tup (pa_cons (pe_callG g__law_of (hr.mono (by omega)) (by rfl) mg__law_of kp__law_of b__law_of .nil pass0 (pa_cons (pv 0) (pa_cons (pe_lst (pa_cons (pe_op op_sub pe_int (pe_ix (ixk (K := K) rIx rfl ix_seq) (pv 1) (pv 4) (fun _ _ => rfl))) (pa_cons (pe_op (opk (K := K) rAddA rfl op_addA) (pe_ix (ixk (K := K) rIx rfl ix_seq) (pv 1) (pv 4) (fun _ _ => rfl)) pe_int) (pa_cons (pe_op op_sub (pe_ix (ixk (K := K) rIx rfl ix_seq) (pv 1) (pv 4) (fun _ _ => rfl)) pe_int) (pa_cons (pe_op (opk (K := K) rAddA rfl op_addA) (pe_ix (ixk (K := K) rIx rfl ix_seq) (pv 1) (pv 4) (fun _ _ => rfl)) pe_int) pa_nil))))) pa_nil))) pa_nil))) (pe_slice (slk (K := K) rSlLT rfl sl_any) (pv 1) (po_some (pe_op (opk (K := K) rAddA rfl op_addA) (pv 4) pe_int)) po_none))))
      pss_nil)
      (pss_cons (ps_if (pt_cmpR (opk (K := K) rEqD rfl (op_eqD hr.units)) (pv 5) pe_int (nomark _))
      (pss_one (ps_ret (pe_op (opk (K := K) rAddA rfl op_addA) (pe_slice (slk (K := K) rSlLT rfl sl_any) (pv 1) po_none (po_some (pv 4))) (pe_slice (slk (K := K) rSlLT rfl sl_any) (pv 1) (po_some (pe_op (opk (K := K) rAddA rfl op_addA) (pv 4) pe_int)) po_none))))
      pss_nil)
      (pss_one (ps_ret (pe_op (opk (K := K) rAddA rfl op_addA) (pe_op (opk (K := K) rAddA rfl op_addA) (pe_slice (slk (K := K) rSlLT rfl sl_any) (pv 1) po_none (po_some (pv 4))) (pe_tup (pa_cons (pe_callG g__law_bent (hr.mono (by omega)) (by rfl) mg__law_bent kp__law_bent b__law_bent .nil pass0 (pa_cons (pv 0) (pa_cons (pe_ix (ixk (K := K) rIx rfl ix_seq) (pv 1) (pv 4) (fun _ _ => rfl)) pa_nil))) pa_nil))) (pe_slice (slk (K := K) rSlLT rfl sl_any) (pv 1) (po_some (pe_op (opk (K := K) rAddA rfl op_addA) (pv 4) pe_int)) po_none))))))))), ?_⟩
  exact fun a c => (ss_seq (ss_asg (SemN.e (sn_lst (sa_cons se_non (sa_cons se_int (sa_cons se_int (sa_cons se_int (sa_cons se_bl (sa_cons (se_1 r1_neg se_int) (sa_cons se_str (sa_cons se_str (sa_cons se_str (sa_cons se_str (sa_cons se_str (sa_cons (se_tup sa_nil) (sa_cons (se_tup (sa_cons se_int sa_nil)) (sa_cons (se_tup (sa_cons se_int (sa_cons se_int sa_nil))) (sa_cons (SemN.e (sn_lst sa_nil)) (sa_cons se_dnew (sa_cons (se_2 (r2_flat f2_pow) se_int se_int) sa_nil))))))))))))))))))) sg_n)
      (ss_seq (ss_if (st_or (st_not (st_eB (se_isi isi_tuple se_v))) (st_or (st_e (se_2 (r2_flat f2_eq0) se_v (se_tup sa_nil))) (st_e (se_2 (r2_flat f2_eq) (se_callS (sa_cons se_v (sa_cons se_int sa_nil))) se_int))))
      (ss_seq (ss_asg (SemN.e (sn_lst (sa_cons (se_callS (sa_cons se_v (sa_cons se_v sa_nil))) sa_nil))) sg_n)
      (ss_seq (ss_if (st_eB (se_isi isi_tuple se_v))
      (ss_asg (se_2 r2_add se_v (SemN.e (sn_lst (sa_cons (se_cut rs_cut se_v (so_some se_int) so_none) (sa_cons (se_cut rs_cut se_v so_none (so_some (se_1 r1_neg se_int))) (sa_cons (se_2 r2_add se_v (se_cut rs_cut se_v so_none (so_some se_int))) (sa_cons (SemN.e (sn_b1 bn_list se_v)) (sa_cons (se_rev se_v) (sa_cons (se_2 r2_add se_v (se_tup (sa_cons se_int sa_nil))) sa_nil))))))))) sg_n)
      ss_nx)
      (ss_ret (se_callS (sa_cons se_v (sa_cons se_v sa_nil))))))
      ss_nx)
      (ss_seq (ss_par2 (sp_e (se_callS (sa_cons se_v (sa_cons (se_cb1 (b1 f1_len) se_v) sa_nil))) (sp_e (se_callS (sa_cons se_v (sa_cons se_int sa_nil))) sp_nil)) (by decide))
      (ss_seq (ss_if (st_and (st_e (se_2 (r2_flat f2_lt) se_v se_int)) (st_eB (se_callP (sa_cons (se_2 r2_ix se_v se_v) sa_nil))))
      (ss_ret (se_2 r2_add (se_2 r2_add (se_cut rs_cut se_v so_none (so_some se_v)) (se_tup (sa_cons (se_callS (sa_cons se_v (sa_cons (SemN.e (sn_lst (sa_cons (se_2 (r2_flat f2_sub) se_int (se_2 r2_ix se_v se_v)) (sa_cons (se_2 r2_add (se_2 r2_ix se_v se_v) se_int) (sa_cons (se_2 (r2_flat f2_sub) (se_2 r2_ix se_v se_v) se_int) (sa_cons (se_2 r2_add (se_2 r2_ix se_v se_v) se_int) sa_nil)))))) sa_nil))) sa_nil))) (se_cut rs_cut se_v (so_some (se_2 r2_add se_v se_int)) so_none)))
      ss_nx)
      (ss_seq (ss_if (st_e (se_2 (r2_flat f2_eq) se_v se_int))
      (ss_ret (se_2 r2_add (se_cut rs_cut se_v so_none (so_some se_v)) (se_cut rs_cut se_v (so_some (se_2 r2_add se_v se_int)) so_none)))
      ss_nx)
      (ss_ret (se_2 r2_add (se_2 r2_add (se_cut rs_cut se_v so_none (so_some se_v)) (se_tup (sa_cons (se_callS (sa_cons se_v (sa_cons (se_2 r2_ix se_v se_v) sa_nil))) sa_nil))) (se_cut rs_cut se_v (so_some (se_2 r2_add se_v se_int)) so_none))))))))
theorem ok__law_bent {f : Addr} {fd : FuncData} (F : Fun K "_law_bent" "_law_bent" s__law_bent f fd) (c__law_number : Callee P w K mg base 1 "_law_number" ["value"] (spP K m_law_number)) (c__law_of : Callee P w K mg base 2 "_law_of" ["source", "some"] (spS K m_law_of)) (c__law_pick : Callee P w K mg base 1 "_law_pick" ["source", "many"] (spPick K)) (b_isinstance : mg "isinstance" = none) (b_len : mg "len" = none) (b_list : mg "list" = none) (b_tuple : mg "tuple" = none) (hm : mg "_law_bent" = some (.ref f)) (hk : PySem.W.keepIn K (.ref f) = true) (hb : Binds K fd ["source", "value"] []) : ∀ k, FnG P w K mg base CX0 (3 + k) f fd ["source", "value"] (spS K (m_law_bent k))
  | 0 => ⟨fun _ _ _ _ h => (spS_none h).elim, fun _ _ _ _ _ _ _ _ _ _ _ _ _ h => (spS_none h).elim⟩
  | k + 1 => okr__law_bent F c__law_number c__law_of c__law_pick b_isinstance b_len b_list b_tuple ⟨f, fd, hm, hk, hb, ok__law_bent F c__law_number c__law_of c__law_pick b_isinstance b_len b_list b_tuple hm hk hb k⟩
end
end Fw
/-! ## Oklaw -/
set_option Elab.async false
set_option linter.all false
set_option maxRecDepth 100000
set_option maxHeartbeats 4000000
namespace Fw
open PySem PySem.Spec PyProof.Rows L2
section
variable {P : Program} {w : World} {K : PySem.W.Frag} {mg : Str → Option Value} {base : Heap}
/-! ### law -/
abbrev s_law : Stmt := topS 45
theorem sc_law : FnScope ["script", "source", "lap", "frame", "n", "kept", "table", "told", "x", "way", "back", "some", "values", "value", "shown", "fault", "end", "y", "turn"] ["script"] (defScope s_law) := ⟨rfl, rfl, rfl, by decide +kernel, rfl, by decide +kernel, by decide +kernel⟩
theorem ok_law {f : Addr} {fd : FuncData} (F : Fun K "law" "law" s_law f fd) (c__law_source : Callee P w K mg base 1 "_law_source" ["script"] (spSource K)) (c__law_bent : Callee P w K mg base 15 "_law_bent" ["source", "value"] (spS K (m_law_bent 12))) (c__law_costs : Callee P w K mg base 2 "_law_costs" ["frame"] (spP K m_law_costs)) (c__law_frame : Callee P w K mg base 3 "_law_frame" ["source", "most", "far"] (spS K m_law_frame)) (c__law_of : Callee P w K mg base 2 "_law_of" ["source", "some"] (spS K m_law_of)) (c__law_paper_fault : Callee P w K mg base 3 "_law_paper_fault" ["frame", "value"] (spP K m_law_paper_fault)) (c__law_pick : Callee P w K mg base 1 "_law_pick" ["source", "many"] (spPick K)) (c__law_walk : Callee P w K mg base 3 "_law_walk" ["source", "frame", "x", "most"] (spS K m_law_walk)) (c_height_paper : Callee P w K mg base 7 "height_paper" ["bounded"] (spP K m_height_paper)) (c_judge_height_paper : Callee P w K mg base 4 "judge_height_paper" ["bounded", "value"] (spP K m_judge_height_paper)) (b_int : mg "int" = none) (b_list : mg "list" = none) (b_range : mg "range" = none) (b_repr : mg "repr" = none) (b_tuple : mg "tuple" = none) (hm : ∀ (a : Addr) (ns : List Int), ns.length ≤ 63 → ∃ ρ' s', m_lawB (lawEnv 17 a) (src0 a ns) = some (.rt (.bl true), ρ', s')) : FnG P w K mg base CX0 16 f fd ["script"] (spLaw K) := by
  obtain ⟨f__law_source, fd__law_source, mg__law_source, kp__law_source, b__law_source, g__law_source⟩ := c__law_source
  obtain ⟨f__law_bent, fd__law_bent, mg__law_bent, kp__law_bent, b__law_bent, g__law_bent⟩ := c__law_bent
  obtain ⟨f__law_costs, fd__law_costs, mg__law_costs, kp__law_costs, b__law_costs, g__law_costs⟩ := c__law_costs
  obtain ⟨f__law_frame, fd__law_frame, mg__law_frame, kp__law_frame, b__law_frame, g__law_frame⟩ := c__law_frame
  obtain ⟨f__law_of, fd__law_of, mg__law_of, kp__law_of, b__law_of, g__law_of⟩ := c__law_of
  obtain ⟨f__law_paper_fault, fd__law_paper_fault, mg__law_paper_fault, kp__law_paper_fault, b__law_paper_fault, g__law_paper_fault⟩ := c__law_paper_fault
  obtain ⟨f__law_pick, fd__law_pick, mg__law_pick, kp__law_pick, b__law_pick, g__law_pick⟩ := c__law_pick
  obtain ⟨f__law_walk, fd__law_walk, mg__law_walk, kp__law_walk, b__law_walk, g__law_walk⟩ := c__law_walk
  obtain ⟨f_height_paper, fd_height_paper, mg_height_paper, kp_height_paper, b_height_paper, g_height_paper⟩ := c_height_paper
  obtain ⟨f_judge_height_paper, fd_judge_height_paper, mg_judge_height_paper, kp_judge_height_paper, b_judge_height_paper, g_judge_height_paper⟩ := c_judge_height_paper
  have sc := sc_law
  refine fn_law F sc rfl (fun cdv A outer s H E hr => ?_) hm
  refine ⟨_, (pss_cons (ps_set (i := 1) sc.nd rfl (by first | exact Or.inl rfl | exact Or.inr rfl) (pe_callG g__law_source (hr.mono (by decide)) (by rfl) mg__law_source kp__law_source b__law_source .nil pass0 (pa_cons (pv 0) pa_nil)))
      (pss_cons (ps_for PassesOwn.never rfl (pi_range1 rfl b_range (pa_cons pe_int pa_nil)) (pg_name (i := 2) sc.nd rfl (by first | exact Or.inl rfl | exact Or.inr rfl))
      (pss_cons (ps_set (i := 3) sc.nd rfl (by first | exact Or.inl rfl | exact Or.inr rfl) (pe_callG g__law_frame (hr.mono (by decide)) (by rfl) mg__law_frame kp__law_frame b__law_frame .nil pass0 (pa_cons (pv 1) (pa_cons (pe_ix (ixk (K := K) rIx rfl ix_seq) (pe_lst (pa_cons pe_int (pa_cons pe_int (pa_cons pe_int (pa_cons pe_int (pa_cons pe_int pa_nil)))))) (pv 2) (fun _ _ => rfl)) (pa_cons (pe_callG g__law_of (hr.mono (by decide)) (by rfl) mg__law_of kp__law_of b__law_of .nil pass0 (pa_cons (pv 1) (pa_cons (pe_lst (pa_cons pe_int (pa_cons pe_int (pa_cons pe_int pa_nil)))) pa_nil))) pa_nil)))))
      (pss_cons (ps_asg (pe_tup (pa_cons (pe_ix (ixk (K := K) rIx rfl ix_seq) (pv 3) pe_int (fun _ _ => rfl)) (pa_cons (pe_callB (callk (K := K) rReprA rfl (call_reprA hr)) (by rfl) b_repr (by decide +kernel) (pa_cons (pv 3) pa_nil)) (pa_cons (pe_callG g__law_costs (hr.mono (by decide)) (by rfl) mg__law_costs kp__law_costs b__law_costs .nil pass0 (pa_cons (pv 3) pa_nil)) (pa_cons (pe_callG g_height_paper (hr.mono (by decide)) (by rfl) mg_height_paper kp_height_paper b_height_paper .nil pass0 (pa_cons (pv 3) pa_nil)) pa_nil))))) (pg_tup rfl (pgs_cons (pg_name (i := 4) sc.nd rfl (by first | exact Or.inl rfl | exact Or.inr rfl)) (pgs_cons (pg_name (i := 5) sc.nd rfl (by first | exact Or.inl rfl | exact Or.inr rfl)) (pgs_cons (pg_name (i := 6) sc.nd rfl (by first | exact Or.inl rfl | exact Or.inr rfl)) (pgs_cons (pg_name (i := 7) sc.nd rfl (by first | exact Or.inl rfl | exact Or.inr rfl)) pgs_nil))))))
      (pss_cons (ps_if (PW.pt (pw_or (pt_cmpR (opk (K := K) rNeD rfl (op_neD hr.units)) (pe_ix (ixk (K := K) rIx rfl ix_seq) (pv 7) pe_int (fun _ _ => rfl)) (pe_ifExp (pt_cmp (pc_isN (pv 6))) pe_str pe_str) (nomark _)) (pw_or1 (pt_cmp (pc_notN (pe_callG g__law_paper_fault (hr.mono (by decide)) (by rfl) mg__law_paper_fault kp__law_paper_fault b__law_paper_fault .nil pass0 (pa_cons (pv 3) (pa_cons (pv 7) pa_nil))))))))
      (pss_one (ps_ret pe_bl))
      pss_nil)
      (pss_cons (ps_if (PW.pt (pw_or (PW.pt (pw_and (pt_cmp (pc_notN (pv 6))) (pw_and1 (pt_cmpR (opk (K := K) rNeD rfl (op_neD hr.units)) (pe_callB (callk (K := K) rReprA rfl (call_reprA hr)) (by rfl) b_repr (by decide +kernel) (pa_cons (pv 7) pa_nil)) (pe_callB (callk (K := K) rReprA rfl (call_reprA hr)) (by rfl) b_repr (by decide +kernel) (pa_cons (pe_tup (pa_cons pe_str (pa_cons (pe_callTy (callk (K := K) rTupleA rfl call_tuple_of) (by rfl) b_tuple (by decide +kernel) (pa_cons (pe_ix (ixk (K := K) rIx rfl ix_seq) (pv 6) pe_int (fun _ _ => rfl)) pa_nil)) pa_nil))) pa_nil)) (nomark _))))) (pw_or1 (pt_cmpR (opk (K := K) rNeD rfl (op_neD hr.units)) (pe_callB (callk (K := K) rReprA rfl (call_reprA hr)) (by rfl) b_repr (by decide +kernel) (pa_cons (pe_callG g_height_paper (hr.mono (by decide)) (by rfl) mg_height_paper kp_height_paper b_height_paper .nil pass0 (pa_cons (pv 3) pa_nil)) pa_nil)) (pe_callB (callk (K := K) rReprA rfl (call_reprA hr)) (by rfl) b_repr (by decide +kernel) (pa_cons (pv 7) pa_nil)) (nomark _)))))
      (pss_one (ps_ret pe_bl))
      pss_nil)
      (pss_cons (ps_set (i := 8) sc.nd rfl (by first | exact Or.inl rfl | exact Or.inr rfl) (pe_callG g__law_pick (hr.mono (by decide)) (by rfl) mg__law_pick kp__law_pick b__law_pick .nil pass0 (pa_cons (pv 1) (pa_cons (pv 4) pa_nil))))
      (pss_cons (ps_set (i := 9) sc.nd rfl (by first | exact Or.inl rfl | exact Or.inr rfl) (pe_callG g__law_walk (hr.mono (by decide)) (by rfl) mg__law_walk kp__law_walk b__law_walk .nil pass0 (pa_cons (pv 1) (pa_cons (pv 3) (pa_cons (pv 8) (pa_cons pe_int pa_nil))))))
      (pss_cons (ps_set (i := 10) sc.nd rfl (by first | exact Or.inl rfl | exact Or.inr rfl) (pe_op (opk (K := K) rAddA rfl op_addA) (pv 9) (pe_callTy (callk (K := K) rTupleA rfl call_tuple_of) (by rfl) b_tuple (by decide +kernel) (pa_cons (pe_lc (own := [("end", 16)]) (g := (gName 16)) rfl sc.nd (pi_anyK (K := K) rfl (pe_revK (K := K) rfl (pv 9))) (blkOk_by (N := ["script", "source", "lap", "frame", "n", "kept", "table", "told", "x", "way", "back", "some", "values", "value", "shown", "fault", "end", "y", "turn"]) (sc := defScope s_law) (by decide +kernel)) (fun _ _ _ _ _ => (pg_name (i := 16) sc.nd rfl (by first | exact Or.inl rfl | exact Or.inr rfl))) (fun _ _ _ _ _ => pts_nil) (fun _ _ _ _ _ => (pe_op op_sub (pe_op (opk (K := K) rAddA rfl op_addA) (pv 16) pe_int) (pe_op (opk (K := K) rMulA rfl op_mulA) pe_int (pe_op op_mod (pe_callTy call_int1 (by rfl) b_int (by decide +kernel) (pa_cons (pv 16) pa_nil)) pe_int))))) pa_nil))))
      (pss_cons (ps_set (i := 11) sc.nd rfl (by first | exact Or.inl rfl | exact Or.inr rfl) (pe_lst (pa_cons (pv 7) (pa_cons (pe_tup (pa_cons pe_str (pa_cons (pv 8) (pa_cons (pv 9) pa_nil)))) (pa_cons (pe_tup (pa_cons pe_str (pa_cons (pv 8) (pa_cons (pv 10) pa_nil)))) (pa_cons (pe_tup (pa_cons pe_str (pa_cons (pe_op (opk (K := K) rMulA rfl op_mulA) (pe_tup (pa_cons pe_int pa_nil)) (pv 4)) pa_nil))) (pa_cons (pe_tup (pa_cons pe_str (pa_cons (pe_callTy (callk (K := K) rTupleA rfl call_tuple_of) (by rfl) b_tuple (by decide +kernel) (pa_cons (pe_lc (own := [("y", 17)]) (g := (gName 17)) rfl sc.nd (pi_range1 rfl b_range (pa_cons (pv 4) pa_nil)) (blkOk_by (N := ["script", "source", "lap", "frame", "n", "kept", "table", "told", "x", "way", "back", "some", "values", "value", "shown", "fault", "end", "y", "turn"]) (sc := defScope s_law) (by decide +kernel)) (fun _ _ _ _ _ => (pg_name (i := 17) sc.nd rfl (by first | exact Or.inl rfl | exact Or.inr rfl))) (fun _ _ _ _ _ => pts_nil) (fun _ _ _ _ _ => (pe_op op_sub (pe_callG g__law_pick (hr.mono (by decide)) (by rfl) mg__law_pick kp__law_pick b__law_pick .nil pass0 (pa_cons (pv 1) (pa_cons pe_int pa_nil))) pe_int))) pa_nil)) pa_nil))) pa_nil)))))))
      (pss_cons (ps_set (i := 12) sc.nd rfl (by first | exact Or.inl rfl | exact Or.inr rfl) (pe_op (opk (K := K) rAddA rfl op_addA) (pe_op (opk (K := K) rAddA rfl op_addA) (pv 11) (pe_lc (own := [("turn", 18)]) (g := (gName 18)) rfl sc.nd (pi_range1 rfl b_range (pa_cons pe_int pa_nil)) (blkOk_by (N := ["script", "source", "lap", "frame", "n", "kept", "table", "told", "x", "way", "back", "some", "values", "value", "shown", "fault", "end", "y", "turn"]) (sc := defScope s_law) (by decide +kernel)) (fun _ _ _ _ _ => (pg_name (i := 18) sc.nd rfl (by first | exact Or.inl rfl | exact Or.inr rfl))) (fun _ _ _ _ _ => pts_nil) (fun _ _ _ _ _ => (pe_callG g__law_bent (hr.mono (by decide)) (by rfl) mg__law_bent kp__law_bent b__law_bent .nil pass0 (pa_cons (pv 1) (pa_cons (pv 7) pa_nil)))))) (pe_lc (own := [("turn", 18)]) (g := (gName 18)) rfl sc.nd (pi_range1 rfl b_range (pa_cons pe_int pa_nil)) (blkOk_by (N := ["script", "source", "lap", "frame", "n", "kept", "table", "told", "x", "way", "back", "some", "values", "value", "shown", "fault", "end", "y", "turn"]) (sc := defScope s_law) (by decide +kernel)) (fun _ _ _ _ _ => (pg_name (i := 18) sc.nd rfl (by first | exact Or.inl rfl | exact Or.inr rfl))) (fun _ _ _ _ _ => pts_nil) (fun _ _ _ _ _ => (pe_callG g__law_bent (hr.mono (by decide)) (by rfl) mg__law_bent kp__law_bent b__law_bent .nil pass0 (pa_cons (pv 1) (pa_cons (pe_callG g__law_of (hr.mono (by decide)) (by rfl) mg__law_of kp__law_of b__law_of .nil pass0 (pa_cons (pv 1) (pa_cons (pv 11) pa_nil))) pa_nil)))))))
      (pss_cons (ps_for PassesOwn.never rfl (pi_anyK (K := K) rfl (pe_op (opk (K := K) rAddA rfl op_addA) (pv 12) (pe_lst (pa_cons (pe_tup (pa_cons pe_str (pa_cons (pv 4) (pa_cons (pv 9) pa_nil)))) (pa_cons (pe_tup (pa_cons pe_str (pa_cons (pv 8) (pa_cons (pe_tup pa_nil) pa_nil)))) (pa_cons (pe_tup (pa_cons pe_str pa_nil)) (pa_cons pe_non (pa_cons (pe_tup pa_nil) (pa_cons (pe_callTy (callk (K := K) rListA rfl call_list_of) (by rfl) b_list (by decide +kernel) (pa_cons (pv 7) pa_nil)) (pa_cons (pe_ix (ixk (K := K) rIx rfl ix_seq) (pv 7) pe_int (fun _ _ => rfl)) (pa_cons (pe_tup (pa_cons pe_str (pa_cons pe_bl (pa_cons (pv 9) pa_nil)))) pa_nil))))))))))) (pg_name (i := 13) sc.nd rfl (by first | exact Or.inl rfl | exact Or.inr rfl))
      (pss_cons (ps_par (i := 14) (j := 15) rfl sc.nd rfl rfl (by decide) rfl rfl (pa_cons (pe_callB (callk (K := K) rReprA rfl (call_reprA hr)) (by rfl) b_repr (by decide +kernel) (pa_cons (pv 13) pa_nil)) (pa_cons (pe_callG g__law_paper_fault (hr.mono (by decide)) (by rfl) mg__law_paper_fault kp__law_paper_fault b__law_paper_fault .nil pass0 (pa_cons (pv 3) (pa_cons (pv 13) pa_nil))) pa_nil)) (by first | rfl | (with_unfolding_all rfl) | (decide +kernel)))
      (pss_cons (ps_if (PW.pt (pw_or (pt_cmpR (opk (K := K) rNeD rfl (op_neD hr.units)) (pe_callB (callk (K := K) rReprA rfl (call_reprA hr)) (by rfl) b_repr (by decide +kernel) (pa_cons (pe_callG g_judge_height_paper (hr.mono (by decide)) (by rfl) mg_judge_height_paper kp_judge_height_paper b_judge_height_paper .nil pass0 (pa_cons (pv 3) (pa_cons (pv 13) pa_nil))) pa_nil)) (pe_callB (callk (K := K) rReprA rfl (call_reprA hr)) (by rfl) b_repr (by decide +kernel) (pa_cons (pv 15) pa_nil)) (nomark _)) (pw_or1 (pt_cmpR (opk (K := K) rNeD rfl (op_neD hr.units)) (pe_callB (callk (K := K) rReprA rfl (call_reprA hr)) (by rfl) b_repr (by decide +kernel) (pa_cons (pv 13) pa_nil)) (pv 14) (nomark _)))))
      (pss_one (ps_ret pe_bl))
      pss_nil)
      (pss_one (ps_if (PW.pt (pw_and (pt_cmp (pc_isN (pv 15))) (pw_and1 (pt_cmpR (opk (K := K) rNeD rfl (op_neD hr.units)) (pe_ix (ixk (K := K) rIx rfl ix_seq) (pv 13) pe_int (fun _ _ => rfl)) (pe_ix (ixk (K := K) rIx rfl ix_seq) (pv 7) pe_int (fun _ _ => rfl)) (nomark _)))))
      (pss_one (ps_ret pe_bl))
      pss_nil)))))
      (pss_one (ps_if (pt_cmpR (opk (K := K) rNeD rfl (op_neD hr.units)) (pe_callB (callk (K := K) rReprA rfl (call_reprA hr)) (by rfl) b_repr (by decide +kernel) (pa_cons (pv 3) pa_nil)) (pv 5) (nomark _))
      (pss_one (ps_ret pe_bl))
      pss_nil)))))))))))))
      (pss_cons (ps_set (i := 3) sc.nd rfl (by first | exact Or.inl rfl | exact Or.inr rfl) (pe_tup (pa_cons pe_int (pa_cons (pe_tup (pa_cons (pe_tup (pa_cons pe_int (pa_cons pe_int pa_nil))) (pa_cons (pe_tup (pa_cons pe_int (pa_cons pe_int pa_nil))) (pa_cons (pe_tup (pa_cons pe_int (pa_cons pe_int pa_nil))) pa_nil)))) (pa_cons (pe_tup (pa_cons pe_int (pa_cons pe_int (pa_cons pe_int pa_nil)))) (pa_cons (pe_tup (pa_cons pe_int (pa_cons pe_int (pa_cons pe_int pa_nil)))) pa_nil))))))
      (pss_one (ps_ret (pe_cmpR (opk (K := K) rEqD rfl (op_eqD hr.units)) (pe_lst (pa_cons (pe_ix (ixk (K := K) rIx rfl ix_seq) (pe_callG g_height_paper (hr.mono (by decide)) (by rfl) mg_height_paper kp_height_paper b_height_paper .nil pass0 (pa_cons (pv 3) pa_nil)) pe_int (fun _ _ => rfl)) (pa_cons (pe_callG g_judge_height_paper (hr.mono (by decide)) (by rfl) mg_judge_height_paper kp_judge_height_paper b_judge_height_paper .nil pass0 (pa_cons (pv 3) (pa_cons (pe_tup (pa_cons pe_str (pa_cons pe_int (pa_cons (pe_tup (pa_cons pe_int (pa_cons pe_int (pa_cons pe_int pa_nil)))) pa_nil)))) pa_nil))) pa_nil))) (pe_lst (pa_cons pe_str (pa_cons pe_non pa_nil))) (nomark _))))))), ?_⟩
  exact fun a c => (ss_seq (ss_for (dead := [0, 2, 3, 4, 5, 6, 7, 8, 9, 10, 11, 12, 13, 14, 15, 17, 18]) (si_r1 se_int) sg_n
      (ss_seq (ss_asg (se_callS (sa_cons se_v (sa_cons (se_2 r2_ix (SemN.e (sn_lst (sa_cons se_int (sa_cons se_int (sa_cons se_int (sa_cons se_int (sa_cons se_int sa_nil))))))) se_v) (sa_cons (se_callS (sa_cons se_v (sa_cons (SemN.e (sn_lst (sa_cons se_int (sa_cons se_int (sa_cons se_int sa_nil))))) sa_nil))) sa_nil)))) sg_n)
      (ss_seq (ss_asg (se_tup (sa_cons (se_2 r2_ix se_v se_int) (sa_cons (se_cb1 (b1 f1_repr) se_v) (sa_cons (se_callP (sa_cons se_v sa_nil)) (sa_cons (se_callP (sa_cons se_v sa_nil)) sa_nil))))) (sg_tup (sgs_cons sg_n (sgs_cons sg_n (sgs_cons sg_n (sgs_cons sg_n sgs_nil)))) (gn_cons (gn_cons (gn_cons (gn_cons gn_nil))))))
      (ss_seq (ss_if (st_or (st_e (se_2 (r2_flat f2_ne) (se_2 r2_ix se_v se_int) (se_if (st_eB (se_isN se_v)) se_str se_str))) (st_eB (se_notN (se_callP (sa_cons se_v (sa_cons se_v sa_nil))))))
      (ss_ret se_bl)
      ss_nx)
      (ss_seq (ss_if (st_or (st_and (st_eB (se_notN se_v)) (st_e (se_2 (r2_flat f2_ne) (se_cb1 (b1 f1_repr) se_v) (se_cb1 (b1 f1_repr) (se_tup (sa_cons se_str (sa_cons (se_cb1 Fw.b_tuple (se_2 r2_ix se_v se_int)) sa_nil))))))) (st_e (se_2 (r2_flat f2_ne) (se_cb1 (b1 f1_repr) (se_callP (sa_cons se_v sa_nil))) (se_cb1 (b1 f1_repr) se_v))))
      (ss_ret se_bl)
      ss_nx)
      (ss_seq (ss_asg (se_callS (sa_cons se_v (sa_cons se_v sa_nil))) sg_n)
      (ss_seq (ss_asg (se_callS (sa_cons se_v (sa_cons se_v (sa_cons se_v (sa_cons se_int sa_nil))))) sg_n)
      (ss_seq (ss_asg (se_2 r2_add se_v (se_cb1 Fw.b_tuple (SemN.e (sn_lc (own := [16]) (si_any (se_rev se_v)) sg_n st_yes (se_2 (r2_flat f2_sub) (se_2 r2_add se_v se_int) (se_2 r2_mul se_int (se_2 (r2_flat f2_mod) (se_cb1 (b1 f1_int) se_v) se_int))) (by decide))))) sg_n)
      (ss_seq (ss_asg (SemN.e (sn_lst (sa_cons se_v (sa_cons (se_tup (sa_cons se_str (sa_cons se_v (sa_cons se_v sa_nil)))) (sa_cons (se_tup (sa_cons se_str (sa_cons se_v (sa_cons se_v sa_nil)))) (sa_cons (se_tup (sa_cons se_str (sa_cons (se_2 r2_mul (se_tup (sa_cons se_int sa_nil)) se_v) sa_nil))) (sa_cons (se_tup (sa_cons se_str (sa_cons (se_cb1 Fw.b_tuple (SemN.e (sn_lc (own := [17]) (si_r1 se_v) sg_n st_yes (se_2 (r2_flat f2_sub) (se_callS (sa_cons se_v (sa_cons se_int sa_nil))) se_int) (by decide)))) sa_nil))) sa_nil))))))) sg_n)
      (ss_seq (ss_asg (se_2 r2_add (se_2 r2_add se_v (SemN.e (sn_lc (own := [18]) (si_r1 se_int) sg_n st_yes (se_callS (sa_cons se_v (sa_cons se_v sa_nil))) (by decide)))) (SemN.e (sn_lc (own := [18]) (si_r1 se_int) sg_n st_yes (se_callS (sa_cons se_v (sa_cons (se_callS (sa_cons se_v (sa_cons se_v sa_nil))) sa_nil))) (by decide)))) sg_n)
      (ss_seq (ss_for (dead := [0, 2, 4, 6, 8, 9, 10, 11, 12, 13, 14, 15, 17, 18]) (si_any (se_2 r2_add se_v (SemN.e (sn_lst (sa_cons (se_tup (sa_cons se_str (sa_cons se_v (sa_cons se_v sa_nil)))) (sa_cons (se_tup (sa_cons se_str (sa_cons se_v (sa_cons (se_tup sa_nil) sa_nil)))) (sa_cons (se_tup (sa_cons se_str sa_nil)) (sa_cons se_non (sa_cons (se_tup sa_nil) (sa_cons (SemN.e (sn_b1 bn_list se_v)) (sa_cons (se_2 r2_ix se_v se_int) (sa_cons (se_tup (sa_cons se_str (sa_cons se_bl (sa_cons se_v sa_nil)))) sa_nil)))))))))))) sg_n
      (ss_seq (ss_par2 (sp_e (se_cb1 (b1 f1_repr) se_v) (sp_e (se_callP (sa_cons se_v (sa_cons se_v sa_nil))) sp_nil)) (by decide))
      (ss_seq (ss_if (st_or (st_e (se_2 (r2_flat f2_ne) (se_cb1 (b1 f1_repr) (se_callP (sa_cons se_v (sa_cons se_v sa_nil)))) (se_cb1 (b1 f1_repr) se_v))) (st_e (se_2 (r2_flat f2_ne) (se_cb1 (b1 f1_repr) se_v) se_v)))
      (ss_ret se_bl)
      ss_nx)
      (ss_if (st_and (st_eB (se_isN se_v)) (st_e (se_2 (r2_flat f2_ne) (se_2 r2_ix se_v se_int) (se_2 r2_ix se_v se_int))))
      (ss_ret se_bl)
      ss_nx))))
      (ss_if (st_e (se_2 (r2_flat f2_ne) (se_cb1 (b1 f1_repr) se_v) se_v))
      (ss_ret se_bl)
      ss_nx))))))))))))
      (ss_seq (ss_asg (se_tup (sa_cons se_int (sa_cons (se_tup (sa_cons (se_tup (sa_cons se_int (sa_cons se_int sa_nil))) (sa_cons (se_tup (sa_cons se_int (sa_cons se_int sa_nil))) (sa_cons (se_tup (sa_cons se_int (sa_cons se_int sa_nil))) sa_nil)))) (sa_cons (se_tup (sa_cons se_int (sa_cons se_int (sa_cons se_int sa_nil)))) (sa_cons (se_tup (sa_cons se_int (sa_cons se_int (sa_cons se_int sa_nil)))) sa_nil))))) sg_n)
      (ss_ret (se_2 (r2_flat f2_eq) (SemN.e (sn_lst (sa_cons (se_2 r2_ix (se_callP (sa_cons se_v sa_nil)) se_int) (sa_cons (se_callP (sa_cons se_v (sa_cons (se_tup (sa_cons se_str (sa_cons se_int (sa_cons (se_tup (sa_cons se_int (sa_cons se_int (sa_cons se_int sa_nil)))) sa_nil)))) sa_nil))) sa_nil)))) (SemN.e (sn_lst (sa_cons se_str (sa_cons se_non sa_nil))))))))
end
end Fw
/-! ## Head -/
set_option Elab.async false
set_option linter.all false
set_option maxRecDepth 100000
set_option maxHeartbeats 4000000
namespace Fw
open PySem PySem.Spec PyProof.Rows L2
/-! ### what the top has written -/
structure DefF (K : PySem.W.Frag) (x : Str) (st : Stmt) (f : Addr) (fd : FuncData) : Prop where
  ns : PySem.W.nsIn K mainGlobals x = some (some (.ref f))
  kp : PySem.W.keepIn K (.ref f) = true
  fn : Fun K x x st f fd
theorem DefF.of {K : PySem.W.Frag} {x : Str} {st : Stmt} {f : Addr} {od an : Option Addr} {sl : Array (Option Value)} {oc kV dc pm cd ct : Value} (a : PySem.W.nsIn K mainGlobals x = some (some (.ref f))) (l : K.lookup f = some ⟨oc, od, .func (PySem.W.fnOf x x (defArgs st) (defBody st) (defScope st) .none kV dc pm an cd ct), sl⟩) (c : PySem.W.codeIn K cd x = true) (k : PySem.W.keepIn K (.ref f) = true) : DefF K x st f (PySem.W.fnOf x x (defArgs st) (defBody st) (defScope st) .none kV dc pm an cd ct) := ⟨a, k, fun_mk (st := st) l c k⟩

theorem all_mk {P : Program} {w : World} {K : PySem.W.Frag} {h : Heap} {mg : Str → Option Value} {fa : Addr} (X : K.In h) (G : h.Ns mainGlobals mg) (hfa : mg "law" = some (.ref fa)) {f_is_whole f_are_wholes f_end_from f_end_to f_cost_of_end f_all_ends f_way_cost f_way_break f_way_end f_broken_road f_lowered f_tight_ring f_need_heights f_costs_from f_greatest_bounded f_height_paper f_are_ends f_heights_fault f_ring_fault f_judge_height_paper f__law_source f__law_pick f__law_of f__law_mixed f__law_number f__law_frame f__law_end_from f__law_end_to f__law_cost f__law_way_cost f__law_costs f__law_are_wholes f__law_broken f__law_way_fault f__law_heights_fault f__law_are_ends f__law_paper_fault f__law_walk f__law_bent f_law : Addr} {fd_is_whole fd_are_wholes fd_end_from fd_end_to fd_cost_of_end fd_all_ends fd_way_cost fd_way_break fd_way_end fd_broken_road fd_lowered fd_tight_ring fd_need_heights fd_costs_from fd_greatest_bounded fd_height_paper fd_are_ends fd_heights_fault fd_ring_fault fd_judge_height_paper fd__law_source fd__law_pick fd__law_of fd__law_mixed fd__law_number fd__law_frame fd__law_end_from fd__law_end_to fd__law_cost fd__law_way_cost fd__law_costs fd__law_are_wholes fd__law_broken fd__law_way_fault fd__law_heights_fault fd__law_are_ends fd__law_paper_fault fd__law_walk fd__law_bent fd_law : FuncData}
    (d_is_whole : DefF K "is_whole" (topS 1) f_is_whole fd_is_whole)
    (d_are_wholes : DefF K "are_wholes" (topS 2) f_are_wholes fd_are_wholes)
    (d_end_from : DefF K "end_from" (topS 3) f_end_from fd_end_from)
    (d_end_to : DefF K "end_to" (topS 4) f_end_to fd_end_to)
    (d_cost_of_end : DefF K "cost_of_end" (topS 5) f_cost_of_end fd_cost_of_end)
    (d_all_ends : DefF K "all_ends" (topS 6) f_all_ends fd_all_ends)
    (d_way_cost : DefF K "way_cost" (topS 7) f_way_cost fd_way_cost)
    (d_way_break : DefF K "way_break" (topS 8) f_way_break fd_way_break)
    (d_way_end : DefF K "way_end" (topS 9) f_way_end fd_way_end)
    (d_broken_road : DefF K "broken_road" (topS 10) f_broken_road fd_broken_road)
    (d_lowered : DefF K "lowered" (topS 15) f_lowered fd_lowered)
    (d_tight_ring : DefF K "tight_ring" (topS 16) f_tight_ring fd_tight_ring)
    (d_need_heights : DefF K "need_heights" (topS 18) f_need_heights fd_need_heights)
    (d_costs_from : DefF K "costs_from" (topS 19) f_costs_from fd_costs_from)
    (d_greatest_bounded : DefF K "greatest_bounded" (topS 20) f_greatest_bounded fd_greatest_bounded)
    (d_height_paper : DefF K "height_paper" (topS 17) f_height_paper fd_height_paper)
    (d_are_ends : DefF K "are_ends" (topS 21) f_are_ends fd_are_ends)
    (d_heights_fault : DefF K "heights_fault" (topS 22) f_heights_fault fd_heights_fault)
    (d_ring_fault : DefF K "ring_fault" (topS 23) f_ring_fault fd_ring_fault)
    (d_judge_height_paper : DefF K "judge_height_paper" (topS 24) f_judge_height_paper fd_judge_height_paper)
    (d__law_source : DefF K "_law_source" sSource f__law_source fd__law_source)
    (d__law_pick : DefF K "_law_pick" sPick f__law_pick fd__law_pick)
    (d__law_of : DefF K "_law_of" (topS 28) f__law_of fd__law_of)
    (d__law_mixed : DefF K "_law_mixed" (topS 29) f__law_mixed fd__law_mixed)
    (d__law_number : DefF K "_law_number" (topS 30) f__law_number fd__law_number)
    (d__law_frame : DefF K "_law_frame" (topS 31) f__law_frame fd__law_frame)
    (d__law_end_from : DefF K "_law_end_from" (topS 32) f__law_end_from fd__law_end_from)
    (d__law_end_to : DefF K "_law_end_to" (topS 33) f__law_end_to fd__law_end_to)
    (d__law_cost : DefF K "_law_cost" (topS 34) f__law_cost fd__law_cost)
    (d__law_way_cost : DefF K "_law_way_cost" (topS 35) f__law_way_cost fd__law_way_cost)
    (d__law_costs : DefF K "_law_costs" (topS 36) f__law_costs fd__law_costs)
    (d__law_are_wholes : DefF K "_law_are_wholes" (topS 37) f__law_are_wholes fd__law_are_wholes)
    (d__law_broken : DefF K "_law_broken" (topS 38) f__law_broken fd__law_broken)
    (d__law_way_fault : DefF K "_law_way_fault" (topS 39) f__law_way_fault fd__law_way_fault)
    (d__law_heights_fault : DefF K "_law_heights_fault" (topS 40) f__law_heights_fault fd__law_heights_fault)
    (d__law_are_ends : DefF K "_law_are_ends" (topS 41) f__law_are_ends fd__law_are_ends)
    (d__law_paper_fault : DefF K "_law_paper_fault" (topS 42) f__law_paper_fault fd__law_paper_fault)
    (d__law_walk : DefF K "_law_walk" (topS 43) f__law_walk fd__law_walk)
    (d__law_bent : DefF K "_law_bent" (topS 44) f__law_bent fd__law_bent)
    (d_law : DefF K "law" (topS 45) f_law fd_law)
    (z_abs : PySem.W.nsIn K mainGlobals "abs" = some none)
    (z_all : PySem.W.nsIn K mainGlobals "all" = some none)
    (z_bool : PySem.W.nsIn K mainGlobals "bool" = some none)
    (z_dict : PySem.W.nsIn K mainGlobals "dict" = some none)
    (z_enumerate : PySem.W.nsIn K mainGlobals "enumerate" = some none)
    (z_int : PySem.W.nsIn K mainGlobals "int" = some none)
    (z_isinstance : PySem.W.nsIn K mainGlobals "isinstance" = some none)
    (z_len : PySem.W.nsIn K mainGlobals "len" = some none)
    (z_list : PySem.W.nsIn K mainGlobals "list" = some none)
    (z_max : PySem.W.nsIn K mainGlobals "max" = some none)
    (z_min : PySem.W.nsIn K mainGlobals "min" = some none)
    (z_range : PySem.W.nsIn K mainGlobals "range" = some none)
    (z_repr : PySem.W.nsIn K mainGlobals "repr" = some none)
    (z_str : PySem.W.nsIn K mainGlobals "str" = some none)
    (z_sum : PySem.W.nsIn K mainGlobals "sum" = some none)
    (z_tuple : PySem.W.nsIn K mainGlobals "tuple" = some none) :
    ∀ base : Heap, K.In base → base.Ns mainGlobals mg → FnG P w K mg base CX0 16 fa fd_law ["script"] (spLaw K) := by
  have e := hfa.symm.trans (PySem.W.mg_of X G d_law.ns)
  cases e
  intro base _ _
  have b_abs := PySem.W.mg_none_of X G z_abs
  have b_all := PySem.W.mg_none_of X G z_all
  have b_bool := PySem.W.mg_none_of X G z_bool
  have b_dict := PySem.W.mg_none_of X G z_dict
  have b_enumerate := PySem.W.mg_none_of X G z_enumerate
  have b_int := PySem.W.mg_none_of X G z_int
  have b_isinstance := PySem.W.mg_none_of X G z_isinstance
  have b_len := PySem.W.mg_none_of X G z_len
  have b_list := PySem.W.mg_none_of X G z_list
  have b_max := PySem.W.mg_none_of X G z_max
  have b_min := PySem.W.mg_none_of X G z_min
  have b_range := PySem.W.mg_none_of X G z_range
  have b_repr := PySem.W.mg_none_of X G z_repr
  have b_str := PySem.W.mg_none_of X G z_str
  have b_sum := PySem.W.mg_none_of X G z_sum
  have b_tuple := PySem.W.mg_none_of X G z_tuple
  have n_is_whole := d_is_whole.fn.binds (ps := ["value"]) fun _ _ _ _ _ _ us hl => match us, hl with | [_], _ => rfl
  have g_is_whole := ok_is_whole (P := P) (w := w) (mg := mg) (base := base) d_is_whole.fn b_bool b_int b_isinstance
  have c_is_whole : Callee P w K mg base _ "is_whole" _ _ := ⟨_, _, PySem.W.mg_of X G d_is_whole.ns, d_is_whole.kp, n_is_whole, g_is_whole⟩
  have n_are_wholes := d_are_wholes.fn.binds (ps := ["value", "many"]) fun _ _ _ _ _ _ us hl => match us, hl with | [_, _], _ => rfl
  have g_are_wholes := ok_are_wholes (P := P) (w := w) (mg := mg) (base := base) d_are_wholes.fn c_is_whole b_all b_isinstance b_len b_tuple
  have c_are_wholes : Callee P w K mg base _ "are_wholes" _ _ := ⟨_, _, PySem.W.mg_of X G d_are_wholes.ns, d_are_wholes.kp, n_are_wholes, g_are_wholes⟩
  have n_end_from := d_end_from.fn.binds (ps := ["bounded", "end"]) fun _ _ _ _ _ _ us hl => match us, hl with | [_, _], _ => rfl
  have g_end_from := ok_end_from (P := P) (w := w) (mg := mg) (base := base) d_end_from.fn 
  have c_end_from : Callee P w K mg base _ "end_from" _ _ := ⟨_, _, PySem.W.mg_of X G d_end_from.ns, d_end_from.kp, n_end_from, g_end_from⟩
  have n_end_to := d_end_to.fn.binds (ps := ["bounded", "end"]) fun _ _ _ _ _ _ us hl => match us, hl with | [_, _], _ => rfl
  have g_end_to := ok_end_to (P := P) (w := w) (mg := mg) (base := base) d_end_to.fn 
  have c_end_to : Callee P w K mg base _ "end_to" _ _ := ⟨_, _, PySem.W.mg_of X G d_end_to.ns, d_end_to.kp, n_end_to, g_end_to⟩
  have n_cost_of_end := d_cost_of_end.fn.binds (ps := ["bounded", "end"]) fun _ _ _ _ _ _ us hl => match us, hl with | [_, _], _ => rfl
  have g_cost_of_end := ok_cost_of_end (P := P) (w := w) (mg := mg) (base := base) d_cost_of_end.fn 
  have c_cost_of_end : Callee P w K mg base _ "cost_of_end" _ _ := ⟨_, _, PySem.W.mg_of X G d_cost_of_end.ns, d_cost_of_end.kp, n_cost_of_end, g_cost_of_end⟩
  have n_all_ends := d_all_ends.fn.binds (ps := ["bounded"]) fun _ _ _ _ _ _ us hl => match us, hl with | [_], _ => rfl
  have g_all_ends := ok_all_ends (P := P) (w := w) (mg := mg) (base := base) d_all_ends.fn b_len b_list b_range
  have c_all_ends : Callee P w K mg base _ "all_ends" _ _ := ⟨_, _, PySem.W.mg_of X G d_all_ends.ns, d_all_ends.kp, n_all_ends, g_all_ends⟩
  have n_way_cost := d_way_cost.fn.binds (ps := ["bounded", "ends"]) fun _ _ _ _ _ _ us hl => match us, hl with | [_, _], _ => rfl
  have g_way_cost := ok_way_cost (P := P) (w := w) (mg := mg) (base := base) d_way_cost.fn c_cost_of_end b_sum
  have c_way_cost : Callee P w K mg base _ "way_cost" _ _ := ⟨_, _, PySem.W.mg_of X G d_way_cost.ns, d_way_cost.kp, n_way_cost, g_way_cost⟩
  have n_way_break := d_way_break.fn.binds (ps := ["bounded", "x", "ends"]) fun _ _ _ _ _ _ us hl => match us, hl with | [_, _, _], _ => rfl
  have g_way_break := ok_way_break (P := P) (w := w) (mg := mg) (base := base) d_way_break.fn c_end_from c_end_to b_enumerate
  have c_way_break : Callee P w K mg base _ "way_break" _ _ := ⟨_, _, PySem.W.mg_of X G d_way_break.ns, d_way_break.kp, n_way_break, g_way_break⟩
  have n_way_end := d_way_end.fn.binds (ps := ["bounded", "x", "ends"]) fun _ _ _ _ _ _ us hl => match us, hl with | [_, _, _], _ => rfl
  have g_way_end := ok_way_end (P := P) (w := w) (mg := mg) (base := base) d_way_end.fn c_end_to b_len
  have c_way_end : Callee P w K mg base _ "way_end" _ _ := ⟨_, _, PySem.W.mg_of X G d_way_end.ns, d_way_end.kp, n_way_end, g_way_end⟩
  have n_broken_road := d_broken_road.fn.binds (ps := ["bounded", "heights"]) fun _ _ _ _ _ _ us hl => match us, hl with | [_, _], _ => rfl
  have g_broken_road := ok_broken_road (P := P) (w := w) (mg := mg) (base := base) d_broken_road.fn b_enumerate
  have c_broken_road : Callee P w K mg base _ "broken_road" _ _ := ⟨_, _, PySem.W.mg_of X G d_broken_road.ns, d_broken_road.kp, n_broken_road, g_broken_road⟩
  have n_lowered := d_lowered.fn.binds (ps := ["bounded", "found"]) fun _ _ _ _ _ _ us hl => match us, hl with | [_, _], _ => rfl
  have g_lowered := ok_lowered (P := P) (w := w) (mg := mg) (base := base) d_lowered.fn c_all_ends c_cost_of_end c_end_from c_end_to b_dict b_range
  have c_lowered : Callee P w K mg base _ "lowered" _ _ := ⟨_, _, PySem.W.mg_of X G d_lowered.ns, d_lowered.kp, n_lowered, g_lowered⟩
  have n_tight_ring := d_tight_ring.fn.binds (ps := ["bounded"]) fun _ _ _ _ _ _ us hl => match us, hl with | [_], _ => rfl
  have g_tight_ring := ok_tight_ring (P := P) (w := w) (mg := mg) (base := base) d_tight_ring.fn c_end_from c_lowered b_dict b_range b_tuple
  have c_tight_ring : Callee P w K mg base _ "tight_ring" _ _ := ⟨_, _, PySem.W.mg_of X G d_tight_ring.ns, d_tight_ring.kp, n_tight_ring, g_tight_ring⟩
  have n_need_heights := d_need_heights.fn.binds (ps := ["bounded"]) fun _ _ _ _ _ _ us hl => match us, hl with | [_], _ => rfl
  have g_need_heights := ok_need_heights (P := P) (w := w) (mg := mg) (base := base) d_need_heights.fn c_tight_ring
  have c_need_heights : Callee P w K mg base _ "need_heights" _ _ := ⟨_, _, PySem.W.mg_of X G d_need_heights.ns, d_need_heights.kp, n_need_heights, g_need_heights⟩
  have n_costs_from := d_costs_from.fn.binds (ps := ["bounded", "x"]) fun _ _ _ _ _ _ us hl => match us, hl with | [_, _], _ => rfl
  have g_costs_from := ok_costs_from (P := P) (w := w) (mg := mg) (base := base) d_costs_from.fn c_lowered c_need_heights b_range
  have c_costs_from : Callee P w K mg base _ "costs_from" _ _ := ⟨_, _, PySem.W.mg_of X G d_costs_from.ns, d_costs_from.kp, n_costs_from, g_costs_from⟩
  have n_greatest_bounded := d_greatest_bounded.fn.binds (ps := ["bounded"]) fun _ _ _ _ _ _ us hl => match us, hl with | [_], _ => rfl
  have g_greatest_bounded := ok_greatest_bounded (P := P) (w := w) (mg := mg) (base := base) d_greatest_bounded.fn c_costs_from b_tuple
  have c_greatest_bounded : Callee P w K mg base _ "greatest_bounded" _ _ := ⟨_, _, PySem.W.mg_of X G d_greatest_bounded.ns, d_greatest_bounded.kp, n_greatest_bounded, g_greatest_bounded⟩
  have n_height_paper := d_height_paper.fn.binds (ps := ["bounded"]) fun _ _ _ _ _ _ us hl => match us, hl with | [_], _ => rfl
  have g_height_paper := ok_height_paper (P := P) (w := w) (mg := mg) (base := base) d_height_paper.fn c_greatest_bounded c_tight_ring
  have c_height_paper : Callee P w K mg base _ "height_paper" _ _ := ⟨_, _, PySem.W.mg_of X G d_height_paper.ns, d_height_paper.kp, n_height_paper, g_height_paper⟩
  have n_are_ends := d_are_ends.fn.binds (ps := ["bounded", "value"]) fun _ _ _ _ _ _ us hl => match us, hl with | [_, _], _ => rfl
  have g_are_ends := ok_are_ends (P := P) (w := w) (mg := mg) (base := base) d_are_ends.fn c_all_ends c_is_whole b_all b_isinstance b_tuple
  have c_are_ends : Callee P w K mg base _ "are_ends" _ _ := ⟨_, _, PySem.W.mg_of X G d_are_ends.ns, d_are_ends.kp, n_are_ends, g_are_ends⟩
  have n_heights_fault := d_heights_fault.fn.binds (ps := ["bounded", "value"]) fun _ _ _ _ _ _ us hl => match us, hl with | [_, _], _ => rfl
  have g_heights_fault := ok_heights_fault (P := P) (w := w) (mg := mg) (base := base) d_heights_fault.fn c_broken_road
  have c_heights_fault : Callee P w K mg base _ "heights_fault" _ _ := ⟨_, _, PySem.W.mg_of X G d_heights_fault.ns, d_heights_fault.kp, n_heights_fault, g_heights_fault⟩
  have n_ring_fault := d_ring_fault.fn.binds (ps := ["bounded", "x", "ends"]) fun _ _ _ _ _ _ us hl => match us, hl with | [_, _, _], _ => rfl
  have g_ring_fault := ok_ring_fault (P := P) (w := w) (mg := mg) (base := base) d_ring_fault.fn c_way_break c_way_end
  have c_ring_fault : Callee P w K mg base _ "ring_fault" _ _ := ⟨_, _, PySem.W.mg_of X G d_ring_fault.ns, d_ring_fault.kp, n_ring_fault, g_ring_fault⟩
  have n_judge_height_paper := d_judge_height_paper.fn.binds (ps := ["bounded", "value"]) fun _ _ _ _ _ _ us hl => match us, hl with | [_, _], _ => rfl
  have g_judge_height_paper := ok_judge_height_paper (P := P) (w := w) (mg := mg) (base := base) d_judge_height_paper.fn c_are_ends c_are_wholes c_heights_fault c_is_whole c_ring_fault c_way_cost b_isinstance b_len b_str b_tuple
  have c_judge_height_paper : Callee P w K mg base _ "judge_height_paper" _ _ := ⟨_, _, PySem.W.mg_of X G d_judge_height_paper.ns, d_judge_height_paper.kp, n_judge_height_paper, g_judge_height_paper⟩
  have n__law_source := d__law_source.fn.binds (ps := ["script"]) fun _ _ _ _ _ _ us hl => match us, hl with | [_], _ => rfl
  have g__law_source := FnG.of (ok_source (P := P) (w := w) (mg := mg) (base := base) d__law_source.fn b_abs b_int)
  have c__law_source : Callee P w K mg base _ "_law_source" _ _ := ⟨_, _, PySem.W.mg_of X G d__law_source.ns, d__law_source.kp, n__law_source, g__law_source⟩
  have n__law_pick := d__law_pick.fn.binds (ps := ["source", "many"]) fun _ _ _ _ _ _ us hl => match us, hl with | [_, _], _ => rfl
  have g__law_pick := FnG.of (ok_pick (P := P) (w := w) (mg := mg) (base := base) d__law_pick.fn b_len b_max b_int)
  have c__law_pick : Callee P w K mg base _ "_law_pick" _ _ := ⟨_, _, PySem.W.mg_of X G d__law_pick.ns, d__law_pick.kp, n__law_pick, g__law_pick⟩
  have n__law_of := d__law_of.fn.binds (ps := ["source", "some"]) fun _ _ _ _ _ _ us hl => match us, hl with | [_, _], _ => rfl
  have g__law_of := ok__law_of (P := P) (w := w) (mg := mg) (base := base) d__law_of.fn c__law_pick b_len
  have c__law_of : Callee P w K mg base _ "_law_of" _ _ := ⟨_, _, PySem.W.mg_of X G d__law_of.ns, d__law_of.kp, n__law_of, g__law_of⟩
  have n__law_mixed := d__law_mixed.fn.binds (ps := ["source", "things"]) fun _ _ _ _ _ _ us hl => match us, hl with | [_, _], _ => rfl
  have g__law_mixed := ok__law_mixed (P := P) (w := w) (mg := mg) (base := base) d__law_mixed.fn c__law_pick b_len b_list b_range
  have c__law_mixed : Callee P w K mg base _ "_law_mixed" _ _ := ⟨_, _, PySem.W.mg_of X G d__law_mixed.ns, d__law_mixed.kp, n__law_mixed, g__law_mixed⟩
  have n__law_number := d__law_number.fn.binds (ps := ["value"]) fun _ _ _ _ _ _ us hl => match us, hl with | [_], _ => rfl
  have g__law_number := ok__law_number (P := P) (w := w) (mg := mg) (base := base) d__law_number.fn b_bool b_int b_isinstance
  have c__law_number : Callee P w K mg base _ "_law_number" _ _ := ⟨_, _, PySem.W.mg_of X G d__law_number.ns, d__law_number.kp, n__law_number, g__law_number⟩
  have n__law_frame := d__law_frame.fn.binds (ps := ["source", "most", "far"]) fun _ _ _ _ _ _ us hl => match us, hl with | [_, _, _], _ => rfl
  have g__law_frame := ok__law_frame (P := P) (w := w) (mg := mg) (base := base) d__law_frame.fn c__law_mixed c__law_of c__law_pick b_list b_range b_tuple
  have c__law_frame : Callee P w K mg base _ "_law_frame" _ _ := ⟨_, _, PySem.W.mg_of X G d__law_frame.ns, d__law_frame.kp, n__law_frame, g__law_frame⟩
  have n__law_end_from := d__law_end_from.fn.binds (ps := ["frame", "end"]) fun _ _ _ _ _ _ us hl => match us, hl with | [_, _], _ => rfl
  have g__law_end_from := ok__law_end_from (P := P) (w := w) (mg := mg) (base := base) d__law_end_from.fn b_int
  have c__law_end_from : Callee P w K mg base _ "_law_end_from" _ _ := ⟨_, _, PySem.W.mg_of X G d__law_end_from.ns, d__law_end_from.kp, n__law_end_from, g__law_end_from⟩
  have n__law_end_to := d__law_end_to.fn.binds (ps := ["frame", "end"]) fun _ _ _ _ _ _ us hl => match us, hl with | [_, _], _ => rfl
  have g__law_end_to := ok__law_end_to (P := P) (w := w) (mg := mg) (base := base) d__law_end_to.fn b_int
  have c__law_end_to : Callee P w K mg base _ "_law_end_to" _ _ := ⟨_, _, PySem.W.mg_of X G d__law_end_to.ns, d__law_end_to.kp, n__law_end_to, g__law_end_to⟩
  have n__law_cost := d__law_cost.fn.binds (ps := ["frame", "end"]) fun _ _ _ _ _ _ us hl => match us, hl with | [_, _], _ => rfl
  have g__law_cost := ok__law_cost (P := P) (w := w) (mg := mg) (base := base) d__law_cost.fn b_int
  have c__law_cost : Callee P w K mg base _ "_law_cost" _ _ := ⟨_, _, PySem.W.mg_of X G d__law_cost.ns, d__law_cost.kp, n__law_cost, g__law_cost⟩
  have n__law_way_cost := d__law_way_cost.fn.binds (ps := ["frame", "ends"]) fun _ _ _ _ _ _ us hl => match us, hl with | [_, _], _ => rfl
  have g__law_way_cost := ok__law_way_cost (P := P) (w := w) (mg := mg) (base := base) d__law_way_cost.fn c__law_cost b_sum
  have c__law_way_cost : Callee P w K mg base _ "_law_way_cost" _ _ := ⟨_, _, PySem.W.mg_of X G d__law_way_cost.ns, d__law_way_cost.kp, n__law_way_cost, g__law_way_cost⟩
  have n__law_costs := d__law_costs.fn.binds (ps := ["frame"]) fun _ _ _ _ _ _ us hl => match us, hl with | [_], _ => rfl
  have g__law_costs := (okt__law_costs (P := P) (w := w) (mg := mg) (base := base) costs_hf d__law_costs.fn c__law_cost c__law_end_from c__law_end_to b_len b_min b_range).imp (fun _ _ _ _ h => spP_mono (fun ds d h => costs_run h) h)
  have c__law_costs : Callee P w K mg base _ "_law_costs" _ _ := ⟨_, _, PySem.W.mg_of X G d__law_costs.ns, d__law_costs.kp, n__law_costs, g__law_costs⟩
  have n__law_are_wholes := d__law_are_wholes.fn.binds (ps := ["value", "many"]) fun _ _ _ _ _ _ us hl => match us, hl with | [_, _], _ => rfl
  have g__law_are_wholes := ok__law_are_wholes (P := P) (w := w) (mg := mg) (base := base) d__law_are_wholes.fn c__law_number b_isinstance b_len b_tuple
  have c__law_are_wholes : Callee P w K mg base _ "_law_are_wholes" _ _ := ⟨_, _, PySem.W.mg_of X G d__law_are_wholes.ns, d__law_are_wholes.kp, n__law_are_wholes, g__law_are_wholes⟩
  have n__law_broken := d__law_broken.fn.binds (ps := ["frame", "heights"]) fun _ _ _ _ _ _ us hl => match us, hl with | [_, _], _ => rfl
  have g__law_broken := ok__law_broken (P := P) (w := w) (mg := mg) (base := base) d__law_broken.fn b_enumerate
  have c__law_broken : Callee P w K mg base _ "_law_broken" _ _ := ⟨_, _, PySem.W.mg_of X G d__law_broken.ns, d__law_broken.kp, n__law_broken, g__law_broken⟩
  have n__law_way_fault := d__law_way_fault.fn.binds (ps := ["frame", "x", "ends"]) fun _ _ _ _ _ _ us hl => match us, hl with | [_, _, _], _ => rfl
  have g__law_way_fault := ok__law_way_fault (P := P) (w := w) (mg := mg) (base := base) d__law_way_fault.fn c__law_end_from c__law_end_to b_enumerate
  have c__law_way_fault : Callee P w K mg base _ "_law_way_fault" _ _ := ⟨_, _, PySem.W.mg_of X G d__law_way_fault.ns, d__law_way_fault.kp, n__law_way_fault, g__law_way_fault⟩
  have n__law_heights_fault := d__law_heights_fault.fn.binds (ps := ["frame", "value"]) fun _ _ _ _ _ _ us hl => match us, hl with | [_, _], _ => rfl
  have g__law_heights_fault := ok__law_heights_fault (P := P) (w := w) (mg := mg) (base := base) d__law_heights_fault.fn c__law_broken
  have c__law_heights_fault : Callee P w K mg base _ "_law_heights_fault" _ _ := ⟨_, _, PySem.W.mg_of X G d__law_heights_fault.ns, d__law_heights_fault.kp, n__law_heights_fault, g__law_heights_fault⟩
  have n__law_are_ends := d__law_are_ends.fn.binds (ps := ["frame", "value"]) fun _ _ _ _ _ _ us hl => match us, hl with | [_, _], _ => rfl
  have g__law_are_ends := ok__law_are_ends (P := P) (w := w) (mg := mg) (base := base) d__law_are_ends.fn c__law_number b_isinstance b_len b_tuple
  have c__law_are_ends : Callee P w K mg base _ "_law_are_ends" _ _ := ⟨_, _, PySem.W.mg_of X G d__law_are_ends.ns, d__law_are_ends.kp, n__law_are_ends, g__law_are_ends⟩
  have n__law_paper_fault := d__law_paper_fault.fn.binds (ps := ["frame", "value"]) fun _ _ _ _ _ _ us hl => match us, hl with | [_, _], _ => rfl
  have g__law_paper_fault := ok__law_paper_fault (P := P) (w := w) (mg := mg) (base := base) d__law_paper_fault.fn c__law_are_ends c__law_are_wholes c__law_heights_fault c__law_number c__law_way_cost c__law_way_fault b_isinstance b_len b_str b_tuple
  have c__law_paper_fault : Callee P w K mg base _ "_law_paper_fault" _ _ := ⟨_, _, PySem.W.mg_of X G d__law_paper_fault.ns, d__law_paper_fault.kp, n__law_paper_fault, g__law_paper_fault⟩
  have n__law_walk := d__law_walk.fn.binds (ps := ["source", "frame", "x", "most"]) fun _ _ _ _ _ _ us hl => match us, hl with | [_, _, _, _], _ => rfl
  have g__law_walk := ok__law_walk (P := P) (w := w) (mg := mg) (base := base) d__law_walk.fn c__law_end_from c__law_end_to c__law_of c__law_pick b_len b_range b_tuple
  have c__law_walk : Callee P w K mg base _ "_law_walk" _ _ := ⟨_, _, PySem.W.mg_of X G d__law_walk.ns, d__law_walk.kp, n__law_walk, g__law_walk⟩
  have n__law_bent := d__law_bent.fn.binds (ps := ["source", "value"]) fun _ _ _ _ _ _ us hl => match us, hl with | [_, _], _ => rfl
  have g__law_bent := ok__law_bent (P := P) (w := w) (mg := mg) (base := base) d__law_bent.fn c__law_number c__law_of c__law_pick b_isinstance b_len b_list b_tuple (PySem.W.mg_of X G d__law_bent.ns) d__law_bent.kp n__law_bent 12
  have c__law_bent : Callee P w K mg base _ "_law_bent" _ _ := ⟨_, _, PySem.W.mg_of X G d__law_bent.ns, d__law_bent.kp, n__law_bent, g__law_bent⟩
  exact ok_law d_law.fn c__law_source c__law_bent c__law_costs c__law_frame c__law_of c__law_paper_fault c__law_pick c__law_walk c_height_paper c_judge_height_paper b_int b_list b_range b_repr b_tuple fun a ns _ => law_hm a ns
end Fw
/-! ## Fin -/
open PySem PySem.W PyProof.Rows
set_option maxHeartbeats 0 in
theorem PySem.Challenge.cw_heightnets_k02_whole_heights_or_a_ring_holds : PySem.Challenge.rw_heightnets_k02_whole_heights_or_a_ring.Holds := by
  w_on; o_law; k_head; (case hw => w_witness2)
  k_fill
  refine Fw.walk_ofG (l := PySem.Challenge.rw_heightnets_k02_whole_heights_or_a_ring) (n := 63) (k := 16) (x := "script") (CX := L2.CX0) rfl (by decide) rfl ⟨⟨rfl, by decide, by decide⟩, rfl⟩ (fun w mg fa h Y G hmg => ?F) (fun _ _ _ _ h => h)
  case F =>
    have KX := PySem.W.kIn_of Y
    have hF := Fw.all_mk (P := PySem.Challenge.rw_heightnets_k02_whole_heights_or_a_ring.prog) (w := w) KX G hmg (Fw.DefF.of (by k_is) (by k_is) (by k_is) (by k_is)) (Fw.DefF.of (by k_is) (by k_is) (by k_is) (by k_is)) (Fw.DefF.of (by k_is) (by k_is) (by k_is) (by k_is)) (Fw.DefF.of (by k_is) (by k_is) (by k_is) (by k_is)) (Fw.DefF.of (by k_is) (by k_is) (by k_is) (by k_is)) (Fw.DefF.of (by k_is) (by k_is) (by k_is) (by k_is)) (Fw.DefF.of (by k_is) (by k_is) (by k_is) (by k_is)) (Fw.DefF.of (by k_is) (by k_is) (by k_is) (by k_is)) (Fw.DefF.of (by k_is) (by k_is) (by k_is) (by k_is)) (Fw.DefF.of (by k_is) (by k_is) (by k_is) (by k_is)) (Fw.DefF.of (by k_is) (by k_is) (by k_is) (by k_is)) (Fw.DefF.of (by k_is) (by k_is) (by k_is) (by k_is)) (Fw.DefF.of (by k_is) (by k_is) (by k_is) (by k_is)) (Fw.DefF.of (by k_is) (by k_is) (by k_is) (by k_is)) (Fw.DefF.of (by k_is) (by k_is) (by k_is) (by k_is)) (Fw.DefF.of (by k_is) (by k_is) (by k_is) (by k_is)) (Fw.DefF.of (by k_is) (by k_is) (by k_is) (by k_is)) (Fw.DefF.of (by k_is) (by k_is) (by k_is) (by k_is)) (Fw.DefF.of (by k_is) (by k_is) (by k_is) (by k_is)) (Fw.DefF.of (by k_is) (by k_is) (by k_is) (by k_is)) (Fw.DefF.of (by k_is) (by k_is) (by k_is) (by k_is)) (Fw.DefF.of (by k_is) (by k_is) (by k_is) (by k_is)) (Fw.DefF.of (by k_is) (by k_is) (by k_is) (by k_is)) (Fw.DefF.of (by k_is) (by k_is) (by k_is) (by k_is)) (Fw.DefF.of (by k_is) (by k_is) (by k_is) (by k_is)) (Fw.DefF.of (by k_is) (by k_is) (by k_is) (by k_is)) (Fw.DefF.of (by k_is) (by k_is) (by k_is) (by k_is)) (Fw.DefF.of (by k_is) (by k_is) (by k_is) (by k_is)) (Fw.DefF.of (by k_is) (by k_is) (by k_is) (by k_is)) (Fw.DefF.of (by k_is) (by k_is) (by k_is) (by k_is)) (Fw.DefF.of (by k_is) (by k_is) (by k_is) (by k_is)) (Fw.DefF.of (by k_is) (by k_is) (by k_is) (by k_is)) (Fw.DefF.of (by k_is) (by k_is) (by k_is) (by k_is)) (Fw.DefF.of (by k_is) (by k_is) (by k_is) (by k_is)) (Fw.DefF.of (by k_is) (by k_is) (by k_is) (by k_is)) (Fw.DefF.of (by k_is) (by k_is) (by k_is) (by k_is)) (Fw.DefF.of (by k_is) (by k_is) (by k_is) (by k_is)) (Fw.DefF.of (by k_is) (by k_is) (by k_is) (by k_is)) (Fw.DefF.of (by k_is) (by k_is) (by k_is) (by k_is)) (Fw.DefF.of (by k_is) (by k_is) (by k_is) (by k_is))  (by k_is) (by k_is) (by k_is) (by k_is) (by k_is) (by k_is) (by k_is) (by k_is) (by k_is) (by k_is) (by k_is) (by k_is) (by k_is) (by k_is) (by k_is) (by k_is)
    exact ⟨_, _, Fw.spLaw _, KX, fun s u => .of_eq rfl, fun H a ns hl _ hS => ⟨a, ns, rfl, hS, hl, fun _ => rfl⟩, hF⟩
